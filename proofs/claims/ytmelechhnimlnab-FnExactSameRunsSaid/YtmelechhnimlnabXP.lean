/- Maps whose keys and elements are structs of two numbers, that a call makes: what they hold, as a list of the latest stores. No conditions. -/
import Derived.Test.YtmelechhnimlnabX
import Derived.Test.YtmelechhnimlnabProg
import Derived.DeepKeys5
import Derived.Maps.Keyed
import Derived.Maps.Ext
import Derived.Maps.RangeWalk
import Derived.Lib.SlMapEqual
namespace Go.Proofs.Ytmelechhnimlnab.X
open Go.RowKit Go.Maps Go.WideMaps Go.Proofs.YtmelechhnimlnabW.PrintWords
set_option linter.unusedVariables false
theorem placeKeyed : Keyed Try.prog 44 := Keyed.of_law (deep_law_gate (by kernel_rfl) (of_decide_eq_true (by kernel_rfl)) (of_decide_eq_true (by kernel_rfl)) (by kernel_rfl) (by kernel_rfl))
abbrev Pl := Int × Int
def plV (p : Pl) : Value := .agg #[.int .i64 p.1, .int .i64 p.2]
def wfP (p : Pl) : Bool := (Lit.int .i64 p.1).wf && (Lit.int .i64 p.2).wf
def klP (p : Pl) : Lit := .string (keyBytes [.int .i64 p.1, .int .i64 p.2])
theorem keyP {p : Pl} (h : wfP p = true) : keyOf Try.prog 44 (plV p) = some (klP p) := by
  obtain ⟨a, b⟩ := p
  have h1 : (Lit.int .i64 a).wf = true ∧ (Lit.int .i64 b).wf = true := by simpa [wfP] using h
  have e0 : Try.prog.keyType 44 = true := by kernel_rfl
  have e1 : Try.prog.cellsOf 44 = 2 := by kernel_rfl
  have e3 : Try.prog.cellsOf 3 = 1 := by kernel_rfl
  obtain ⟨n, en⟩ : ∃ n, Try.prog.types.size = n + 1 := ⟨Try.prog.types.size - 1, by have : 0 < Try.prog.types.size := of_decide_eq_true (by kernel_rfl); omega⟩
  unfold keyOf
  rw [Try.underlying44]
  simp only [e0, plV, Value.formed, Try.underlying44, e1, en]
  simp [Value.cells, Program.keyLits, Try.underlying44, Try.underlying3, e1, e3, h1.1, h1.2, klP]
theorem keyP_inv {v : Value} {l : Lit} (h : keyOf Try.prog 44 v = some l) : ∃ p, wfP p = true ∧ v = plV p ∧ l = klP p := by
  have e0 : Try.prog.keyType 44 = true := by kernel_rfl
  have e1 : Try.prog.cellsOf 44 = 2 := by kernel_rfl
  have e3 : Try.prog.cellsOf 3 = 1 := by kernel_rfl
  have hk := h
  unfold keyOf at h
  rw [Try.underlying44] at h
  simp only [e0, Bool.true_and] at h
  split at h
  · rename_i hf
    cases v <;> simp only [Value.formed, Try.underlying44, e1] at hf <;> try (cases hf; done)
    rename_i cs
    have hs : cs.size = 2 := by simpa using hf
    obtain ⟨ls, hls, hl⟩ := Option.map_eq_some_iff.mp h
    obtain ⟨x, y, rfl⟩ : ∃ x y, cs = #[x, y] := ⟨cs[0], cs[1], by apply Array.ext <;> simp [hs]; intro i hi; rcases i with _ | _ | i <;> simp_all; omega⟩
    obtain ⟨n, en⟩ : ∃ n, Try.prog.types.size = n + 1 := ⟨Try.prog.types.size - 1, by have : 0 < Try.prog.types.size := of_decide_eq_true (by kernel_rfl); omega⟩
    rw [en] at hls
    simp [Value.cells, Program.keyLits, Try.underlying44, Try.underlying3, e1, e3] at hls
    have e : ∀ z : Value, (∃ q, z = .int .i64 q ∧ (Lit.int .i64 q).wf = true) ∨ (∀ q' m, z = .int q' m → ¬ (q' = IntKind.i64 ∧ (Lit.int .i64 m).wf = true)) := fun z => by
      cases z with
      | int q' m =>
        by_cases c : q' = IntKind.i64 ∧ (Lit.int .i64 m).wf = true
        · exact .inl ⟨m, by rw [c.1], c.2⟩
        · exact .inr (fun _ _ h => by cases h; exact c)
      | _ => exact .inr (fun _ _ h => by cases h)
    rcases e x with ⟨a, rfl, ha⟩ | hx
    · rcases e y with ⟨b, rfl, hb⟩ | hy
      · refine ⟨(a, b), by simp [wfP, ha, hb], rfl, ?_⟩
        have := keyP (p := (a, b)) (by simp [wfP, ha, hb])
        exact Option.some.inj (hk.symm.trans this)
      · exfalso
        simp only [ha, and_self, if_true, Option.bind_some, Function.comp] at hls
        cases y with
        | int q' m =>
          simp only [if_neg (hy _ _ rfl)] at hls
          exact absurd hls (by simp)
        | _ => exact absurd hls (by simp)
    · exfalso
      cases x with
      | int q' m =>
        simp only [if_neg (hx _ _ rfl)] at hls
        exact absurd hls (by simp)
      | _ => exact absurd hls (by simp)
  · cases h
theorem klP_inj {p q : Pl} (hp : wfP p = true) (hq : wfP q = true) (h : klP p = klP q) : p = q := by
  have := placeKeyed.inj (keyP hp) (h ▸ keyP hq)
  simp only [plV, Value.agg.injEq] at this
  obtain ⟨a, b⟩ := p
  obtain ⟨c, d⟩ := q
  simp at this
  simp [this]
theorem klP_key (p : Pl) : WideAt.IsKeyLit (klP p) := trivial
def deP (p : Pl) : DataW Unit := .agg [.lit (.int .i64 p.1), .lit (.int .i64 p.2)]
def elP (v : Value) : Option (DataW Unit × List MemPlace) := match v with
  | .agg cs => match cs.toList with
    | [.int .i64 a, .int .i64 b] => some (deP (a, b), [])
    | _ => none
  | _ => none
theorem elP_mk (p : Pl) : elP (plV p) = some (deP p, []) := rfl
theorem elP_inv {v : Value} {z : DataW Unit × List MemPlace} (h : elP v = some z) : ∃ p, v = plV p ∧ z = (deP p, []) := by
  unfold elP at h
  split at h
  · rename_i cs
    split at h
    · rename_i a b e
      cases h
      refine ⟨(a, b), ?_, rfl⟩
      have : cs = #[.int .i64 a, .int .i64 b] := by rw [← Array.toList_inj, e]
      rw [this]; rfl
    · cases h
  · cases h
def eqP (x y : DataW Unit) : Bool := match x, y with
  | .agg [.lit (.int _ a), .lit (.int _ b)], .agg [.lit (.int _ c), .lit (.int _ d)] => a == c && b == d
  | _, _ => false
theorem eqP_de (p q : Pl) : eqP (deP p) (deP q) = (p.1 == q.1 && p.2 == q.2) := rfl
theorem eqP_iff (p q : Pl) : eqP (deP p) (deP q) = true ↔ p = q := by
  rw [eqP_de]
  obtain ⟨a, b⟩ := p
  obtain ⟨c, d⟩ := q
  simp
section
variable {P : Program} {ops : Array Oper} {rest : List Oper} {o : Oper} {a : Act} {Q : Exit → Act → World → Prop} {W : World}
theorem pl_event (hgd : o.guard = none) {N : Tmp} (_hd : o.dst = some N) (hrun : (execOp a.eval o).run P W = .ok (.value (.map (some W.heap.size))) (W.alloc (.map #[] 0)))
    (h : ∀ g, g = W.heap.size → ∀ w1, w1.heap[g]? = some (.map #[] 0) → Below W.heap.size W w1 → wpList P ops Q rest (a.put o.dst (.map (some g))) w1) : wpList P ops Q (o :: rest) a W :=
  Kd.event_run hgd hrun (h _ rfl _ (blk_new W _) (below_alloc (Below.refl _ _) _))
theorem pl_made {w : World} {g : Nat} (k : TypeId) (h : w.heap[g]? = some (.map #[] 0)) : w.ownsMap P k elP g 0 (.map []) := ⟨#[], 0, h, ⟨by simp, Go.MapKept.stamped_empty 0, by simp⟩, Nat.le_refl _, rfl⟩
/-- 'v, ok := m[k]' in a map of places. -/
theorem pl_look (hg : o.guard = none) (m x : Operand) (t k e : TypeId) (hop : o.op = Op.lookup t m x true) (K : Keyed P k) (ht : P.underlying t = some (.map k e)) (hz : (zeroValue e).run P W = .ok (plV (0, 0)) W) {b n : Nat} {D : DataW Unit} (hm : a.eval m = .map (some b)) (hown : W.ownsMap P k elP b n D)
    (key : Value) (kl : Lit) (hx : a.eval x = key) (hkey : keyOf P k key = some kl) (d0 d1 : Int) (hd : D.atKey kl (deP (0, 0)) = deP (d0, d1)) (r : Value) (hr : r = .tuple #[.agg #[.int .i64 d0, .int .i64 d1], .bool (Maps.has D kl)]) (h : wpList P ops Q rest (a.put o.dst r) W) : wpList P ops Q (o :: rest) a W := by
  refine wpList_lookup_own_ok W hg m x t hop k e K ht elP hz (deP (0, 0)) [] rfl b n D hm hown key kl hx hkey (fun v ps hv => ?_)
  obtain ⟨p, rfl, hp⟩ := elP_inv hv
  rw [hd] at hp
  simp only [deP, Prod.mk.injEq, DataW.agg.injEq, List.cons.injEq, DataW.lit.injEq, Lit.int.injEq, true_and, and_true] at hp
  subst hr
  obtain ⟨p0, p1⟩ := p
  obtain ⟨⟨rfl, rfl⟩, _⟩ := hp
  exact h
end
/-- What the map holds behind these stores (the latest first). -/
def mapP : List (Pl × Pl) → DataW Unit
  | [] => .map []
  | q :: ms => (mapP ms).put (klP q.1) (deP q.2)
def pget : List (Pl × Pl) → Pl → Option Pl
  | [], _ => none
  | q :: ms, p => if q.1 = p then some q.2 else pget ms p
def eqM (a b : List (Pl × Pl)) : Bool := Lib.equalFuncD eqP (mapP a) (mapP b)
end Go.Proofs.Ytmelechhnimlnab.X
