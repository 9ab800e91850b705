/- Words of this claim's own: what a reading of an argument gives (a kind, with the bounds that a read value keeps), whatever the type is made of. No conditions. -/
import Derived.Deep.Slices
import Derived.ChangeSame
import Derived.Carry
import Derived.DataShut
import Derived.SizedLaws
import Derived.ChangeSlices
import Derived.Test.YtmelechhnimlnabWWords
import Derived.Test.YtmelechhnimlnabWMore
import Derived.Test.YtmelechhnimlnabWLast
namespace Go.Proofs.Ytmelechhnimlnab.X
open Go.ChangeShapes Go.WideShapes Go.RowKit Go.Proofs.YtmelechhnimlnabW.PrintWords
set_option linter.unusedVariables false
abbrev Y : Bool := true
abbrev Z : Bool := false

/-- Every reading at type t gives a value of the kind d that keeps wf. -/
def Opens {α : Type} (P : Program) (t : TypeId) (d : Kd α) (wf : α → Prop) : Prop :=
  ∀ (H : Type) (enc : TypeId × Value → H) (w : World) (base : Nat) (spare : Nat → Bool) (held : Bool) (fuel : Nat) (cs : List Value) (x : DataW H × List MemPlace),
    DataW.trod enc P w base spare held fuel t cs = some x → ∃ a, d.K w a cs ∧ wf a

theorem opens_int {P : Program} {t : TypeId} (ht : P.underlying t = some (.int .i64)) : Opens P t (Kd.int .i64) (fun n => -9223372036854775808 ≤ n ∧ n ≤ 9223372036854775807) := by
  intro H enc w base spare held fuel cs x h
  obtain ⟨n, rfl, _, hw⟩ := DataW.trod_int ht h
  have h2 := (Lit.wf_int_iff .i64 n).1 hw
  exact ⟨n, rfl, h2⟩

theorem opens_bool {P : Program} {t : TypeId} (ht : P.underlying t = some .bool) : Opens P t Kd.bool (fun _ => True) := by
  intro H enc w base spare held fuel cs x h
  obtain ⟨b, rfl, _⟩ := DataW.trod_bool ht h
  exact ⟨b, rfl, trivial⟩

theorem cells_at {w : World} {base : Nat} {a : Addr} {n : Nat} {cs : List Value} (h : w.cells? base a n = some cs) : cs.length = n ∧ ∀ i u, cs[i]? = some u → w.cell? (a.add i) = some u := by
  obtain ⟨_, hl, hat⟩ := World.cells?_some h
  refine ⟨hl, fun i u hu => ?_⟩
  have hi : i < n := by rw [← hl]; exact (List.getElem?_eq_some_iff.1 hu).1
  exact (hat i hi).trans hu

theorem opens_slice {α : Type} {P : Program} {t e : TypeId} {d : Kd α} {wf : α → Prop} (ht : P.underlying t = some (.slice e)) (hc : P.cellsOf e = d.sz) (he : Opens P e d wf) :
    Opens P t (Kd.slice e d) (fun xs => xs.length ≤ 9223372036854775807 ∧ ∀ x ∈ xs, wf x) := by
  intro H enc w base spare held fuel cs x h
  rcases Go.Deep.open_slice ht h with ⟨rfl, _⟩ | ⟨a, len, cap, m, n, D, Pl, rfl, _, hl, hm, hmm, _, hi⟩
  · exact ⟨[], ⟨none, 0, rfl, Nat.le_refl _, rfl, by simp, fun h => absurd h (Nat.lt_irrefl 0)⟩, by simp, by simp⟩
  have hle : len ≤ m := by rw [hmm]; split <;> omega
  have pick : ∀ i : Fin len, ∃ y : α, ∃ c, c.length = d.sz ∧ d.K w y c ∧ wf y ∧ ∀ j u, c[j]? = some u → w.cell? (a.add (i.val * d.sz + j)) = some u := by
    intro i
    obtain ⟨c, h1, h2⟩ := hi i.val (by have := i.isLt; omega)
    obtain ⟨y, hK, hw⟩ := he _ _ _ _ _ _ _ _ _ h2
    rw [hc] at h1
    obtain ⟨hcl, hat⟩ := cells_at h1
    refine ⟨y, c, hcl, hK, hw, fun j u hu => ?_⟩
    have := hat j u hu
    rw [Go.Deep.add_add] at this
    exact this
  have hlen : (List.ofFn fun i => Classical.choose (pick i)).length = len := List.length_ofFn
  unfold maxLen at hm
  refine ⟨List.ofFn fun i => Classical.choose (pick i), ⟨some a, cap, by rw [hlen], by rw [hlen]; exact hl, rfl, by rw [hlen]; omega, fun _ => ⟨a, rfl, fun j p hj => ?_⟩⟩, by rw [hlen]; omega, fun x hx => ?_⟩
  · rw [List.getElem?_ofFn] at hj
    split at hj
    · rename_i hjl
      obtain rfl := Option.some.inj hj
      obtain ⟨c, h1, h2, h3, h4⟩ := Classical.choose_spec (pick ⟨j, hjl⟩)
      exact ⟨c, h1, h2, h4⟩
    · cases hj
  · obtain ⟨i, rfl⟩ := (List.mem_ofFn).1 hx
    obtain ⟨c, h1, h2, h3, h4⟩ := Classical.choose_spec (pick i)
    exact h3

/-- The fields of a struct from one on: their cells begin at o. -/
def OpensF {α : Type} (P : Program) (fs : List Field) (o : Nat) (d : Kd α) (wf : α → Prop) : Prop :=
  ∀ (H : Type) (enc : TypeId × Value → H) (w : World) (base : Nat) (spare : Nat → Bool) (held : Bool) (n : Nat) (cs : List Value),
    (∀ (i : Nat) (f : Field), fs[i]? = some f → ∃ y, DataW.trod enc P w base spare held n f.type ((cs.drop f.offset).take (P.cellsOf f.type)) = some y) → ∃ a, d.K w a ((cs.drop o).take d.sz) ∧ wf a

theorem opens_last {α : Type} {P : Program} {f : Field} {d : Kd α} {wf : α → Prop} (o : Nat) (ho : f.offset = o) (hc : P.cellsOf f.type = d.sz) (h : Opens P f.type d wf) : OpensF P [f] o d wf := by
  intro H enc w base spare held n cs hf
  obtain ⟨y, hy⟩ := hf 0 f rfl
  rw [ho, hc] at hy
  exact h _ _ _ _ _ _ _ _ _ hy

theorem opens_cons {α β : Type} {P : Program} {f : Field} {fs : List Field} {d : Kd α} {d' : Kd β} {wf : α → Prop} {wf' : β → Prop} (o : Nat) (ho : f.offset = o) (hc : P.cellsOf f.type = d.sz) (h : Opens P f.type d wf)
    (h' : OpensF P fs (o + d.sz) d' wf') : OpensF P (f :: fs) o (Kd.pair d d') (fun x => wf x.1 ∧ wf' x.2) := by
  intro H enc w base spare held n cs hf
  obtain ⟨y, hy⟩ := hf 0 f rfl
  rw [ho, hc] at hy
  obtain ⟨a, ha, hwa⟩ := h _ _ _ _ _ _ _ _ _ hy
  obtain ⟨b, hb, hwb⟩ := h' _ _ _ _ _ _ _ cs (fun i g hg => hf (i + 1) g hg)
  refine ⟨(a, b), ⟨_, _, ?_, ha, hb⟩, hwa, hwb⟩
  show (cs.drop o).take (d.sz + d'.sz) = _
  rw [List.take_add, List.drop_drop]

theorem opens_struct {α β : Type} {P : Program} {t : TypeId} {fs : Array Field} {d : Kd α} {wf : α → Prop} (ht : P.underlying t = some (.struct fs)) (hc : P.cellsOf t = d.sz) (f : β → α) (g : α → β) (hg : ∀ a, f (g a) = a)
    (h : OpensF P fs.toList 0 d wf) : Opens P t (Kd.iso d f) (fun x => wf (f x)) := by
  intro H enc w base spare held fuel cs x hx
  obtain ⟨xs, n, _, _, hl, hxl, hf⟩ := DataW.trod_struct ht hx
  obtain ⟨a, ha, hw⟩ := h _ _ _ _ _ _ n cs (fun i q hq => by
    have hq' : fs[i]? = some q := by simpa using hq
    have := hf i q hq'
    have hi : i < xs.length := by rw [hxl]; exact (Array.getElem?_eq_some_iff.1 hq').1
    rw [List.getElem?_eq_getElem hi] at this
    exact ⟨_, this⟩)
  rw [List.drop_zero, ← hc, ← hl, List.take_length] at ha
  exact ⟨g a, by show d.K w (f (g a)) cs; rw [hg]; exact ha, by show wf (f (g a)); rw [hg]; exact hw⟩

/-- A value that is no struct: its one cell. -/
theorem slice_cells {A : Option Addr} {n c : Nat} : (Value.slice A n c).cells.toList = [.slice A n c] := by simp [Value.cells]
theorem agg_cells {cs : Array Value} : (Value.agg cs).cells.toList = cs.toList := by simp [Value.cells]
theorem agg_eq {cs : Array Value} {l : List Value} (h : cs.toList = l) : Value.agg cs = .agg l.toArray := by subst h; simp

/-! ### Function values that are handed to slices' functions -/
def idxO {α : Type} (pf : α → Option Bool) : List α → Int → Option Int
  | [], _ => some (-1)
  | x :: xs, i => (pf x).bind fun b => if b = true then some i else idxO pf xs (i + 1)
def anyO {α : Type} (pf : α → Option Bool) : List α → Option Bool
  | [] => some false
  | x :: xs => (pf x).bind fun b => if b = true then some true else anyO pf xs
def allO {α : Type} (pf : α → Option Bool) : List α → Option Bool
  | [] => some true
  | x :: xs => (pf x).bind fun b => if b = true then allO pf xs else some false
theorem idxO_any {α : Type} (pf : α → Option Bool) : ∀ (xs : List α) (i : Int), 0 ≤ i → (idxO pf xs i).map (fun r => decide (0 ≤ r)) = anyO pf xs
  | [], _, _ => rfl
  | x :: xs, i, hi => by
    unfold idxO anyO
    cases pf x with
    | none => rfl
    | some b =>
      cases b with
      | true => simp [hi]
      | false => simpa using idxO_any pf xs (i + 1) (by omega)
theorem any_all {α : Type} (pf : α → Option Bool) : ∀ (xs : List α), (anyO (fun x => (pf x).map (!·)) xs).map (!·) = allO pf xs
  | [] => rfl
  | x :: xs => by
    unfold anyO allO
    cases pf x with
    | none => rfl
    | some b =>
      cases b with
      | true => simpa using any_all pf xs
      | false => rfl
theorem allO_mono {α : Type} {pf qf : α → Option Bool} (h : ∀ x, LeO (pf x) (qf x)) : ∀ xs, LeO (allO pf xs) (allO qf xs)
  | [] => LeO.refl _
  | x :: xs => LeO.bind (h x) (fun b => LeO.ite (allO_mono h xs) (LeO.refl _))
theorem anyO_mono {α : Type} {pf qf : α → Option Bool} (h : ∀ x, LeO (pf x) (qf x)) : ∀ xs, LeO (anyO pf xs) (anyO qf xs)
  | [] => LeO.refl _
  | x :: xs => LeO.bind (h x) (fun b => LeO.ite (LeO.refl _) (anyO_mono h xs))
theorem idxO_mono {α : Type} {pf qf : α → Option Bool} (h : ∀ x, LeO (pf x) (qf x)) : ∀ xs i, LeO (idxO pf xs i) (idxO qf xs i)
  | [], _ => LeO.refl _
  | x :: xs, i => LeO.bind (h x) (fun b => LeO.ite (LeO.refl _) (idxO_mono h xs (i + 1)))
/-- Where the predicate always answers. -/
theorem allO_eq {α : Type} {pf : α → Option Bool} {p : α → Bool} : ∀ (xs : List α), (∀ x ∈ xs, pf x = some (p x)) → allO pf xs = some (xs.all p)
  | [], _ => rfl
  | x :: xs, h => by
    unfold allO
    rw [h x List.mem_cons_self, Option.bind_some, List.all_cons]
    cases p x with
    | true => simpa using allO_eq xs (fun y hy => h y (List.mem_cons_of_mem _ hy))
    | false => rfl
theorem anyO_eq {α : Type} {pf : α → Option Bool} {p : α → Bool} : ∀ (xs : List α), (∀ x ∈ xs, pf x = some (p x)) → anyO pf xs = some (xs.any p)
  | [], _ => rfl
  | x :: xs, h => by
    unfold anyO
    rw [h x List.mem_cons_self, Option.bind_some, List.any_cons]
    cases p x with
    | true => rfl
    | false => simpa using anyO_eq xs (fun y hy => h y (List.mem_cons_of_mem _ hy))

/-- What is asked of a function value: at every value that it can be handed, it answers as pf tells; it may lay blocks of its own. -/
def PB {α : Type} (P : Program) (g : Nat) (lb : Array Value) (d : Kd α) (enc : List Value → Value) (pf : α → Option Bool) (w : World) : Prop :=
  ∀ (W : World) (x : α) (cs : List Value) (b : Bool), Below w.heap.size w W → d.K W x cs → pf x = some b →
    Calls P g (#[enc cs] ++ lb) W fun e w' => e = .returned (.bool b) ∧ Below W.heap.size W w'
def encOne (cs : List Value) : Value := cs.headD .nilIface
def encAgg (cs : List Value) : Value := .agg cs.toArray
theorem app0 (a : Value) : #[a] ++ #[] = #[a] := rfl
theorem app1 (a b : Value) : #[a] ++ #[b] = #[a, b] := rfl
theorem app2 (a b c : Value) : #[a] ++ #[b, c] = #[a, b, c] := rfl
theorem app3 (a b c d : Value) : #[a] ++ #[b, c, d] = #[a, b, c, d] := rfl
theorem heap_new (w : World) (cs : Array Value) (t : TypeId) : (w.alloc (.cells cs t)).heap[w.heap.size]? = some (.cells cs t (0, 0)) := by simpa using heap_alloc_new w _
theorem heap_old {w : World} {b : Nat} {o o' : Obj} (h : w.heap[b]? = some o) : (w.alloc o').heap[b]? = some o := by
  have := (below_alloc (Below.refl w.heap.size w) o').block b (blk_lt h)
  exact this.trans h
theorem blk_below {w W : World} {b : Nat} {o : Obj} (hb : Below w.heap.size w W) (h : w.heap[b]? = some o) : W.heap[b]? = some o := (hb.block b (blk_lt h)).trans h

/-! ### a slice held against nil -/
theorem eql_nil {P : Program} {t e : TypeId} (ht : P.underlying t = some (.slice e)) (w : World) (a : Option Addr) (l c : Nat) : (binOp .eql t (.slice a l c) (.slice none 0 0)).run P w = .ok (.bool a.isNone) w := by
  have h : ∀ d : Nat, (Op.equalIn (d + 1) t (.slice a l c) (.slice none 0 0)).run P w = .ok a.isNone w := fun d => by
    cases a <;> simp [Op.equalIn, run_underlying ht]
  have h2 : (Op.equal t (.slice a l c) (.slice none 0 0)).run P w = .ok a.isNone w := h 9999
  simp [binOp, h2]

/-! ### short names for what stands often -/
theorem xm {p : Prop} (h : p) : Aside0 p := ⟨h⟩
theorem xa {w W : World} (h : Below w.heap.size w W) (o : Obj) : Below w.heap.size w (W.alloc o) := below_alloc h o
theorem xn {B : Nat} {w W : World} (h : Below B w W) (n : Nat) : Below B w (W.drewN n) := pw_below_drewN h n
theorem xd {base : Nat} {w W : World} (h : Below base w W) : Below base w W.drew := below_drew1 h
theorem xt {w W : World} {g j : Nat} {v : Value} (h : Below w.heap.size w W) (hg : w.heap.size ≤ g) : Below w.heap.size w (W.setCell ⟨g, j, none⟩ v) := below_set h hg
theorem xz {w W : World} (h : Below w.heap.size w W) : w.heap.size ≤ W.heap.size := below_size h
theorem xc {w : World} {g : Nat} {t : TypeId} {cs : Array Value} (h : w.heap[g]? = some (.cells cs t (0, 0))) (i : Nat) : w.cell? ⟨g, i, none⟩ = cs[i]? := blk_cell h i
theorem xf {w : World} {g : Nat} {t : TypeId} {cs : Array Value} (h : w.heap[g]? = some (.cells cs t (0, 0))) (i : Nat) : w.frozen? ⟨g, i, none⟩ = false := blk_frozen h i
theorem xq {w : World} {g : Nat} {o : Obj} (h : w.heap[g]? = some o) (n : Nat) : (w.drewN n).heap[g]? = some o := blk_drewN h n
theorem xr {w : World} {g : Nat} {o : Obj} (h : w.heap[g]? = some o) : w.drew.heap[g]? = some o := blk_drew h
theorem xo {w : World} {g : Nat} {o : Obj} (h : w.heap[g]? = some o) (o' : Obj) : (w.alloc o').heap[g]? = some o := blk_alloc h o'
theorem xi {α : Type} (l : List α) (i : Nat) (a : α) : l.toArray.setIfInBounds i a = (l.set i a).toArray := by simp
theorem xj {α : Type} (x : α) (xs : List α) (a : α) : (x :: xs).set 0 a = a :: xs := rfl
theorem xk {α : Type} (x : α) (xs : List α) (n : Nat) (a : α) : (x :: xs).set (n + 1) a = x :: xs.set n a := rfl

/-! ### What is the call's own keeps its blocks in a set between two worlds' sizes -/
theorem law_t {c : Prop} [Decidable c] {x : Option Bool} (h : (if c then x else some false) = some true) : c ∧ x = some true := by
  by_cases hc : c
  · rw [if_pos hc] at h; exact ⟨hc, h⟩
  · rw [if_neg hc] at h; cases h
theorem law_f {c : Prop} [Decidable c] {x : Option Bool} (h : (if c then some false else x) = some true) : ¬ c ∧ x = some true := by
  by_cases hc : c
  · rw [if_pos hc] at h; cases h
  · rw [if_neg hc] at h; exact ⟨hc, h⟩
theorem kept_box {W W2 : World} {g : Nat} (h : Kept W W2 (fun k => k = g)) (i : Nat) (u : Value) : Kept W (W2.setCell ⟨g, i, none⟩ u) (fun k => k = g) := Kept.setCell h (.inl rfl) u
theorem szOf {w W : World} (h : Below w.heap.size w W) : w.heap.size ≤ W.heap.size := h.size
theorem hideT {α : Type} {d : Kd α} {e base : Nat} {ok : Nat → Prop} {W w1 : World} {v : Value} {xs : List α} (hE : d.E = []) (h : d.R e w1 W.heap.size ok v xs) (hb : base ≤ W.heap.size) :
    ∃ P : Nat → Prop, d.R e w1 base P v xs ∧ (∀ k, P k → W.heap.size ≤ k ∧ k < w1.heap.size) ∧ (∀ k, P k → some k = v.ownBlock ∧ ok k) :=
  ⟨fun k => some k = v.ownBlock ∧ (W.heap.size ≤ k ∧ k < w1.heap.size) ∧ ok k, Kd.R_lower (Kd.R_mono (Kd.R_bound (Kd.R_tight2 hE h)) (fun k hk => ⟨hk.1.1, ⟨hk.2.1, hk.2.2.1⟩, hk.1.2⟩)) hb, fun k hk => hk.2.1, fun k hk => ⟨hk.1, hk.2.2⟩⟩
theorem hideR {α : Type} {d : Kd α} {e base : Nat} {ok : Nat → Prop} {W w1 : World} {v : Value} {xs : List α} (h : d.R e w1 W.heap.size ok v xs) (hb : base ≤ W.heap.size) :
    ∃ P : Nat → Prop, d.R e w1 base P v xs ∧ (∀ k, P k → W.heap.size ≤ k ∧ k < w1.heap.size) ∧ (∀ k, P k → ok k) :=
  ⟨fun k => (W.heap.size ≤ k ∧ k < w1.heap.size) ∧ ok k, Kd.R_lower (Kd.R_mono (Kd.R_bound h) (fun k hk => ⟨⟨hk.2.1, hk.2.2.1⟩, hk.1⟩)) hb, fun k hk => hk.1, fun k hk => hk.2⟩
theorem hideS {α : Type} {d : Kd α} {e base : Nat} {ok : Nat → Prop} {W w1 : World} {v : Value} {xs : List α} (h : Kd.S d e w1 W.heap.size ok v xs) (hb : base ≤ W.heap.size) :
    ∃ P : Nat → Prop, Kd.S d e w1 base P v xs ∧ (∀ k, P k → W.heap.size ≤ k ∧ k < w1.heap.size) ∧ (∀ k, P k → ok k) :=
  ⟨fun k => (W.heap.size ≤ k ∧ k < w1.heap.size) ∧ ok k, Kd.S_lower (Kd.S_mono (Kd.S_bound h) (fun k hk => ⟨⟨hk.2.1, hk.2.2.1⟩, hk.1⟩)) hb, fun k hk => hk.1, fun k hk => hk.2⟩

/-! ### the steps of a region that draws, in few words -/
section
open Go.Proofs.YtmelechhnimlnabW.PrintLast
variable {P : Program} {ops : Array Oper} {Q : Exit → Act → World → Prop} {md : Region.Mode} {S : World → Prop} {ds : List Nat}
/-- n flags, those of m's bits set. -/
def fl (n m : Nat) : Array Bool := ((List.range n).map fun i => m.testBit i).toArray
theorem px {N : Nat} {oi : Oper} {v : Value} {fuel : Nat} {l : Array Bool} {a : Act} {w : World} {a' : Act} (i n m : Nat) (hc : anyB md ops l (fl n m) i = true)
    (h : wpAnyLast P md ops Q S ds fuel (fl n m) a' w) (hi : ops[i]? = some oi := by rfl) (hN : oi.dst = some N := by rfl)
    (hQ : ∀ c a w, Q (.panic c) (a.put oi.dst v) w → Q (.panic c) a w := by exact fun _ _ _ h => h) (hw : Region.wanted oi (yielded ops a.tmps) = true := by rfl)
    (hy : ∀ w, (execOp a.eval oi).run P w = .ok (.value v) w := by intro w'; go_simp; with_reducible rfl) (ha : a.put (some N) v = a' := by simp only [Act.put, xi, xj, xk, i64_w, i32_w]; rfl) :
    wpAnyLast P md ops Q S ds (fuel + 1) l a w := pure_ (fl n m) hi hN hc hQ (Or.inl ⟨hw, hy⟩) ha h
theorem ox {N : Nat} {oi : Oper} {fuel : Nat} {l : Array Bool} {a : Act} {w : World} {a' : Act} (i n m : Nat) (hc : anyB md ops l (fl n m) i = true)
    (h : wpAnyLast P md ops Q S ds fuel (fl n m) a' w) (hi : ops[i]? = some oi := by rfl) (hN : oi.dst = some N := by rfl)
    (hQ : ∀ c a w, Q (.panic c) (a.put oi.dst undef) w → Q (.panic c) a w := by exact fun _ _ _ h => h) (hw : Region.wanted oi (yielded ops a.tmps) = false := by rfl)
    (ha : a.put (some N) undef = a' := by simp only [Act.put, xi, xj, xk, i64_w, i32_w]; rfl) :
    wpAnyLast P md ops Q S ds (fuel + 1) l a w := pure_ (fl n m) hi hN hc hQ (Or.inr ⟨hw, rfl⟩) ha h
/-- As px and ox, by the table of the region. -/
theorem pu {N : Nat} {oi : Oper} {v : Value} {fuel : Nat} {l : Array Bool} {a : Act} {w : World} {a' : Act} (i n m : Nat)
    (h : wpAnyLast P md ops Q S ds fuel (fl n m) a' w) (hi : ops[i]? = some oi := by rfl) (hN : oi.dst = some N := by rfl)
    (hQ : ∀ c a w, Q (.panic c) (a.put oi.dst v) w → Q (.panic c) a w := by exact fun _ _ _ h => h) (hw : Region.wanted oi (yielded ops a.tmps) = true := by rfl)
    (hy : ∀ w, (execOp a.eval oi).run P w = .ok (.value v) w := by intro w'; go_simp; with_reducible rfl) (ha : a.put (some N) v = a' := by simp only [Act.put, xi, xj, xk, i64_w, i32_w]; rfl)
    (hc : anyB md ops l (fl n m) i = true := by exact any_of HT_.out (by kernel_rfl)) :
    wpAnyLast P md ops Q S ds (fuel + 1) l a w := px i n m hc h hi hN hQ hw hy ha
theorem ou {N : Nat} {oi : Oper} {fuel : Nat} {l : Array Bool} {a : Act} {w : World} {a' : Act} (i n m : Nat)
    (h : wpAnyLast P md ops Q S ds fuel (fl n m) a' w) (hi : ops[i]? = some oi := by rfl) (hN : oi.dst = some N := by rfl)
    (hQ : ∀ c a w, Q (.panic c) (a.put oi.dst undef) w → Q (.panic c) a w := by exact fun _ _ _ h => h) (hw : Region.wanted oi (yielded ops a.tmps) = false := by rfl)
    (ha : a.put (some N) undef = a' := by simp only [Act.put, xi, xj, xk, i64_w, i32_w]; rfl) (hc : anyB md ops l (fl n m) i = true := by exact any_of HT_.out (by kernel_rfl)) :
    wpAnyLast P md ops Q S ds (fuel + 1) l a w := ox i n m hc h hi hN hQ hw ha
theorem nC {fuel : Nat} {l : Array Bool} {a a' : Act} {w : World} (h : wpAnyLast P md ops Q S ds fuel l a' w) (ha : a = a' := by show Act.put _ (some _) _ = _; simp only [Act.put, xi, xj, xk, i64_w, i32_w]; rfl) : wpAnyLast P md ops Q S ds fuel l a w := norm_ ha h
theorem tx {N : Nat} {oi : Oper} {v : Value} {fuel : Nat} {l : Array Bool} {a : Act} {w : World} {a' : Act} (i n m : Nat) (hi : ops[i]? = some oi) (hN : oi.dst = some N) (hc : takeB md ops ds l (fl n m) i = true) (hS : S w)
    (hy : ∀ w, S w → (execOp a.eval oi).run P w = .ok (.value v) w)
    (h : wpAnyLast P md ops Q S ds fuel (fl n m) a' w)
    (hQ : ∀ c a w, Q (.panic c) (a.put oi.dst v) w → Q (.panic c) a w := by exact fun _ _ _ h => h) (hw : Region.wanted oi (yielded ops a.tmps) = true := by rfl)
    (ha : a.put (some N) v = a' := by simp only [Act.put, xi, xj, xk, i64_w, i32_w]; rfl) :
    wpAnyLast P md ops Q S ds (fuel + 1) l a w := take_ (fl n m) hi hN hc hQ (Or.inl ⟨hw, hy⟩) hS ha h
end

/-! ### scripts that stand often, as what is looked for when nothing is given -/
theorem bB {b : Nat} {w w' : World} (h : Below b w w' := by repeat (first | (with_reducible first | exact HB.out | apply xa | apply xn | apply xd) | exact HB.out)) : Below b w w' := h
theorem bG {b : Nat} {w w' : World} (h : Below b w w' := by repeat (first | (with_reducible first | exact HB.out | apply xa | apply xn | apply xd | refine xt ?_ (Aside0.out (by assumption))) | exact HB.out)) : Below b w w' := h
theorem kB {g : Nat} {o : Obj} {w w' : World} (h : Aside0 (w.heap[g]? = some o)) (i : w.heap[g]? = some o → w'.heap[g]? = some o := by intro hbk_; (with_reducible repeat (first | refine xq ?_ _ | refine xr ?_ | refine xo ?_ _)); exact hbk_) : w'.heap[g]? = some o := i h.out
theorem rB {p q : Prop} (h : Aside0 p) (i : p → q := by intro hrb_; (with_reducible repeat (first | apply Kd.R_alloc | apply Kd.R_drewN | apply Kd.R_drew)); exact hrb_) : q := i h.out
theorem mB {p : Prop} (h : p := by (try simp only [List.map_toArray, List.map_cons, List.map_nil]); first | done | rfl | (simp only [List.length_drop, List.length_take]; rfl)) : p := h
theorem zB {p : Prop} (h : p := by first | (go_simp; done) | (go_simp; rfl)) : p := h
theorem pB {p : Prop} (h : p := by first | (simp only [putAll, Act.put, xi, xj, xk]; done) | (simp only [putAll, Act.put, xi, xj, xk]; rfl)) : p := h
theorem aB {p : Prop} (h : p := by first | (with_reducible assumption) | assumption) : p := h
theorem cB {p q : Prop} (h : p) (i : p → q := by intro hcb_; repeat (first | exact hcb_ | (with_reducible refine Kd.C_alloc ?_ _) | (with_reducible refine Kd.C_drewN ?_ _) | (with_reducible refine Kd.C_drew ?_))) : q := i h
theorem eB {p : Prop} (h : p := by first | rfl | (simp [errW_none, errW_some] <;> rfl) | (simp [*, errW_none, errW_some] <;> rfl)) : p := h
theorem sB {p : Prop} (h : p := by first | rfl | (simp; done) | (simp [*]; done)) : p := h
theorem dB {w w' : World} (h : Drawn0 w w' := by repeat (first | exact Drawn0.refl _ | apply Drawn0.step)) : Drawn0 w w' := h
theorem rF {α : Type} {d : Kd α} {e base g t : Nat} {ok : Nat → Prop} {w : World} {v : Value} {xs : List α} {cells : Array Value} {q : Prop} (h : Aside0 (d.R e w base ok v xs)) (hb : Aside0 (w.heap[g]? = some (.cells cells t (0, 0)))) (u : Value) (i : d.R e (w.setCell ⟨g, 0, none⟩ u) base ok v xs → q := by intro hrb_; (with_reducible repeat (first | apply Kd.R_alloc | apply Kd.R_drewN | apply Kd.R_drew)); exact hrb_) (ht : ∀ q, q ∈ e :: d.E → q ≠ t := by decide) : q := i (Kd.R_mono (Kd.R_far (p := ⟨g, 0, none⟩) (Kd.R_types h.out hb.out ht) (fun _ hk => hk.2) u) (fun _ h_ => h_.1))
theorem kF {b g : Nat} {o : Obj} {w w' : World} (h : Aside0 (w.heap[b]? = some o)) (hn : Aside0 (b ≠ g)) (i : w.heap[b]? = some o → b ≠ g → w'.heap[b]? = some o := by intro hbk_ hnk_; (with_reducible repeat (first | refine xq ?_ _ | refine xr ?_ | refine xo ?_ _)); refine blk_far ?_ hnk_ _; (with_reducible repeat (first | refine xq ?_ _ | refine xr ?_ | refine xo ?_ _)); exact hbk_) : w'.heap[b]? = some o := i h.out hn.out
theorem old_apart {α β : Type} {d : Kd α} {d' : Kd β} {e e' base g : Nat} {ok ok' : Nat → Prop} {W w1 : World} {u v : Value} {xs : List α} {ys : List β} (h : d.R e W base (fun k => ok k ∧ k ≠ g) u xs) (hk : KeepBut W w1 g none) (hv : d'.R e' w1 W.heap.size ok' v ys) : d.R e w1 base (fun k => ok k ∧ some k ≠ v.ownBlock) u xs :=
  Kd.R_mono (Kd.R_keep (Kd.R_bound h) hk (fun k hq => hq.1.2)) (fun k hq => ⟨hq.1.1, fun e => by have := Kd.R_base hv k e.symm; have := hq.2.2.1; omega⟩)
theorem hidX {p : Prop} (h : p) : Hid p := h
theorem ret_in {i : Nat} {Q : Exit → Act → World → Prop} {a : Act} {w : World} (h : Q .ret a w) : Exit.inBlock i Q .ret a w := h
theorem ret_then {K : Act → World → Prop} {Q : Exit → Act → World → Prop} {a : Act} {w : World} (h : Q .ret a w) : Exit.then K Q .ret a w := h
theorem tB {p q : Prop} (h : Aside0 p) (i : p → q := by intro hrb_; (with_reducible repeat (first | apply Kd.S_alloc | apply Kd.S_drewN | apply Kd.S_drew)); exact hrb_) : q := i h.out
theorem hU {w w' : World} {a : Addr} {v : Value} (h : w.cell? a = some v) (hb : Below w.heap.size w w' := by exact HB.out) : w'.cell? a = some v := (hb.cell (World.block_lt_of_cell? w _ h)).trans h
theorem cz1 {w : World} {g t : Nat} {a0 : Value} (h : w.heap[g]? = some (.cells #[a0] t (0, 0))) : w.cell? ⟨g, 0, none⟩ = some a0 ∧ w.frozen? ⟨g, 0, none⟩ = false := ⟨(xc h 0).trans rfl, xf h 0⟩
theorem cz2 {w : World} {g t : Nat} {a0 a1 : Value} (h : w.heap[g]? = some (.cells #[a0, a1] t (0, 0))) : w.cell? ⟨g, 0, none⟩ = some a0 ∧ w.cell? ⟨g, 1, none⟩ = some a1 ∧ w.frozen? ⟨g, 0, none⟩ = false ∧ w.frozen? ⟨g, 1, none⟩ = false := ⟨(xc h 0).trans rfl, (xc h 1).trans rfl, xf h 0, xf h 1⟩
theorem cz3 {w : World} {g t : Nat} {a0 a1 a2 : Value} (h : w.heap[g]? = some (.cells #[a0, a1, a2] t (0, 0))) : w.cell? ⟨g, 0, none⟩ = some a0 ∧ w.cell? ⟨g, 1, none⟩ = some a1 ∧ w.cell? ⟨g, 2, none⟩ = some a2 ∧ w.frozen? ⟨g, 0, none⟩ = false ∧ w.frozen? ⟨g, 1, none⟩ = false ∧ w.frozen? ⟨g, 2, none⟩ = false := ⟨(xc h 0).trans rfl, (xc h 1).trans rfl, (xc h 2).trans rfl, xf h 0, xf h 1, xf h 2⟩
theorem cz4 {w : World} {g t : Nat} {a0 a1 a2 a3 : Value} (h : w.heap[g]? = some (.cells #[a0, a1, a2, a3] t (0, 0))) : w.cell? ⟨g, 0, none⟩ = some a0 ∧ w.cell? ⟨g, 1, none⟩ = some a1 ∧ w.cell? ⟨g, 2, none⟩ = some a2 ∧ w.cell? ⟨g, 3, none⟩ = some a3 ∧ w.frozen? ⟨g, 0, none⟩ = false ∧ w.frozen? ⟨g, 1, none⟩ = false ∧ w.frozen? ⟨g, 2, none⟩ = false ∧ w.frozen? ⟨g, 3, none⟩ = false := ⟨(xc h 0).trans rfl, (xc h 1).trans rfl, (xc h 2).trans rfl, (xc h 3).trans rfl, xf h 0, xf h 1, xf h 2, xf h 3⟩
theorem cz5 {w : World} {g t : Nat} {a0 a1 a2 a3 a4 : Value} (h : w.heap[g]? = some (.cells #[a0, a1, a2, a3, a4] t (0, 0))) : w.cell? ⟨g, 0, none⟩ = some a0 ∧ w.cell? ⟨g, 1, none⟩ = some a1 ∧ w.cell? ⟨g, 2, none⟩ = some a2 ∧ w.cell? ⟨g, 3, none⟩ = some a3 ∧ w.cell? ⟨g, 4, none⟩ = some a4 ∧ w.frozen? ⟨g, 0, none⟩ = false ∧ w.frozen? ⟨g, 1, none⟩ = false ∧ w.frozen? ⟨g, 2, none⟩ = false ∧ w.frozen? ⟨g, 3, none⟩ = false ∧ w.frozen? ⟨g, 4, none⟩ = false := ⟨(xc h 0).trans rfl, (xc h 1).trans rfl, (xc h 2).trans rfl, (xc h 3).trans rfl, (xc h 4).trans rfl, xf h 0, xf h 1, xf h 2, xf h 3, xf h 4⟩
theorem cz6 {w : World} {g t : Nat} {a0 a1 a2 a3 a4 a5 : Value} (h : w.heap[g]? = some (.cells #[a0, a1, a2, a3, a4, a5] t (0, 0))) : w.cell? ⟨g, 0, none⟩ = some a0 ∧ w.cell? ⟨g, 1, none⟩ = some a1 ∧ w.cell? ⟨g, 2, none⟩ = some a2 ∧ w.cell? ⟨g, 3, none⟩ = some a3 ∧ w.cell? ⟨g, 4, none⟩ = some a4 ∧ w.cell? ⟨g, 5, none⟩ = some a5 ∧ w.frozen? ⟨g, 0, none⟩ = false ∧ w.frozen? ⟨g, 1, none⟩ = false ∧ w.frozen? ⟨g, 2, none⟩ = false ∧ w.frozen? ⟨g, 3, none⟩ = false ∧ w.frozen? ⟨g, 4, none⟩ = false ∧ w.frozen? ⟨g, 5, none⟩ = false := ⟨(xc h 0).trans rfl, (xc h 1).trans rfl, (xc h 2).trans rfl, (xc h 3).trans rfl, (xc h 4).trans rfl, (xc h 5).trans rfl, xf h 0, xf h 1, xf h 2, xf h 3, xf h 4, xf h 5⟩
theorem cz7 {w : World} {g t : Nat} {a0 a1 a2 a3 a4 a5 a6 : Value} (h : w.heap[g]? = some (.cells #[a0, a1, a2, a3, a4, a5, a6] t (0, 0))) : w.cell? ⟨g, 0, none⟩ = some a0 ∧ w.cell? ⟨g, 1, none⟩ = some a1 ∧ w.cell? ⟨g, 2, none⟩ = some a2 ∧ w.cell? ⟨g, 3, none⟩ = some a3 ∧ w.cell? ⟨g, 4, none⟩ = some a4 ∧ w.cell? ⟨g, 5, none⟩ = some a5 ∧ w.cell? ⟨g, 6, none⟩ = some a6 ∧ w.frozen? ⟨g, 0, none⟩ = false ∧ w.frozen? ⟨g, 1, none⟩ = false ∧ w.frozen? ⟨g, 2, none⟩ = false ∧ w.frozen? ⟨g, 3, none⟩ = false ∧ w.frozen? ⟨g, 4, none⟩ = false ∧ w.frozen? ⟨g, 5, none⟩ = false ∧ w.frozen? ⟨g, 6, none⟩ = false := ⟨(xc h 0).trans rfl, (xc h 1).trans rfl, (xc h 2).trans rfl, (xc h 3).trans rfl, (xc h 4).trans rfl, (xc h 5).trans rfl, (xc h 6).trans rfl, xf h 0, xf h 1, xf h 2, xf h 3, xf h 4, xf h 5, xf h 6⟩
theorem cz8 {w : World} {g t : Nat} {a0 a1 a2 a3 a4 a5 a6 a7 : Value} (h : w.heap[g]? = some (.cells #[a0, a1, a2, a3, a4, a5, a6, a7] t (0, 0))) : w.cell? ⟨g, 0, none⟩ = some a0 ∧ w.cell? ⟨g, 1, none⟩ = some a1 ∧ w.cell? ⟨g, 2, none⟩ = some a2 ∧ w.cell? ⟨g, 3, none⟩ = some a3 ∧ w.cell? ⟨g, 4, none⟩ = some a4 ∧ w.cell? ⟨g, 5, none⟩ = some a5 ∧ w.cell? ⟨g, 6, none⟩ = some a6 ∧ w.cell? ⟨g, 7, none⟩ = some a7 ∧ w.frozen? ⟨g, 0, none⟩ = false ∧ w.frozen? ⟨g, 1, none⟩ = false ∧ w.frozen? ⟨g, 2, none⟩ = false ∧ w.frozen? ⟨g, 3, none⟩ = false ∧ w.frozen? ⟨g, 4, none⟩ = false ∧ w.frozen? ⟨g, 5, none⟩ = false ∧ w.frozen? ⟨g, 6, none⟩ = false ∧ w.frozen? ⟨g, 7, none⟩ = false := ⟨(xc h 0).trans rfl, (xc h 1).trans rfl, (xc h 2).trans rfl, (xc h 3).trans rfl, (xc h 4).trans rfl, (xc h 5).trans rfl, (xc h 6).trans rfl, (xc h 7).trans rfl, xf h 0, xf h 1, xf h 2, xf h 3, xf h 4, xf h 5, xf h 6, xf h 7⟩

end Go.Proofs.Ytmelechhnimlnab.X
