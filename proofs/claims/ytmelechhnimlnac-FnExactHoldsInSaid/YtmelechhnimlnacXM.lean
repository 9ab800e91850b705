/- Maps of texts to texts that a call makes: what they hold, as a list of the latest stores. No conditions. -/
import Derived.Test.YtmelechhnimlnacX
import Derived.Maps.StringElems
namespace Go.Proofs.Ytmelechhnimlnac.X
open Go.RowKit Go.Maps Go.WideElems Go.MapKept Go.WideMaps Go.ChangeMaps Go.Proofs.YtmelechhnimlnacW.PrintWords Go.Proofs.YtmelechhnimlnacW.PrintLast
set_option linter.unusedVariables false

def mget : List (ByteArray × ByteArray) → ByteArray → Option ByteArray
  | [], _ => none
  | p :: ms, s => if p.1.data.toList = s.data.toList then some p.2 else mget ms s
def hitM (ms : List (ByteArray × ByteArray)) (s u : ByteArray) : Bool := match mget ms s with
  | some v => v.toList != u.toList
  | none => false
def datM (P : Program) (k e : TypeId) (es : Array MapEntry) : DataW Unit := .map ((es.toList.map (rg P k (plainElem P e))).foldr DataW.insert [])
def FitM (P : Program) (k e : TypeId) (es : Array MapEntry) (ck : Nat) (ms : List (ByteArray × ByteArray)) : Prop :=
  Fit (H := Unit) P k (plainElem P e) es ck ∧ es.size ≤ ms.length ∧ ∀ s : ByteArray, Maps.has (datM P k e es) (.string s.data.toList) = (mget ms s).isSome ∧ ∀ zd : DataW Unit, (datM P k e es).atKey (.string s.data.toList) zd = match mget ms s with
    | some v => .lit (.string v.data.toList)
    | none => zd
theorem fitM_nil (P : Program) (k e : TypeId) : FitM P k e #[] 0 [] := ⟨⟨by simp, stamped_empty 0, by simp⟩, Nat.le_refl _, fun s => ⟨rfl, fun zd => rfl⟩⟩
theorem FitM.owns {P : Program} {k e : TypeId} {es : Array MapEntry} {ck b : Nat} {ms : List (ByteArray × ByteArray)} {w : World} (h : FitM P k e es ck ms) (hb : w.heap[b]? = some (.map es ck)) : w.ownsMap P k (plainElem P e) b ms.length (datM P k e es) := ⟨es, ck, hb, h.1, h.2.1, rfl⟩
theorem bytes_eq {a b : ByteArray} (h : a.data.toList = b.data.toList) : a = b := by
  cases a
  cases b
  congr 1
  exact Array.toList_inj.1 h
section
variable {P : Program} {ops : Array Oper} {rest : List Oper} {o : Oper} {a : Act} {Q : Exit → Act → World → Prop} {W : World}
theorem map_event (hgd : o.guard = none) {N : Tmp} (_hd : o.dst = some N) (hrun : (execOp a.eval o).run P W = .ok (.value (.map (some W.heap.size))) (W.alloc (.map #[] 0)))
    (h : ∀ g, g = W.heap.size → ∀ w1, w1.heap[g]? = some (.map #[] 0) → Below W.heap.size W w1 → wpList P ops Q rest (a.put o.dst (.map (some g))) w1) : wpList P ops Q (o :: rest) a W :=
  Kd.event_run hgd hrun (h _ rfl _ (blk_new W _) (below_alloc (Below.refl _ _) _))
theorem look_event (hg : o.guard = none) (m x : Operand) (t k e : TypeId) (hop : o.op = Op.lookup t m x true) (ht : P.underlying t = some (.map k e)) (hk : P.underlying k = some .string) (he : P.underlying e = some .string)
    (hz : (zeroValue e).run P W = .ok (.string ⟨#[]⟩) W) {b ck : Nat} {es : Array MapEntry} {ms : List (ByteArray × ByteArray)} (s : ByteArray) (hm : a.eval m = .map (some b)) (hx : a.eval x = .string s) (hb : W.heap[b]? = some (.map es ck)) (hF : FitM P k e es ck ms) (hs : s.size ≤ maxLen)
    (r : Value) (hr : r = .tuple #[.string ((mget ms s).getD ⟨#[]⟩), .bool (mget ms s).isSome]) (h : wpList P ops Q rest (a.put o.dst r) W) : wpList P ops Q (o :: rest) a W := by
  refine wpList_lookup_own_ok (H := Unit) W hg m x t hop k e (string_keyed hk) ht (plainElem P e) hz (.lit (.string [])) [] (plainElem_string he (by decide)) b ms.length _ hm (hF.owns hb) (.string s) _ hx (keyOf_string_mk hk hs) (fun v ps hv => ?_)
  obtain ⟨q1, q2⟩ := hF.2.2 s
  rw [q1]
  rw [q2] at hv
  obtain ⟨u, rfl, hu, _⟩ := plainElem_string_inv he hv
  subst hr
  cases hq : mget ms s with
  | none =>
    rw [hq] at hu h
    obtain rfl : u = ⟨#[]⟩ := bytes_eq (by injection hu with hu _; injection hu with hu; injection hu with hu; exact hu.symm)
    exact h
  | some v =>
    rw [hq] at hu h
    obtain rfl : u = v := bytes_eq (by injection hu with hu _; injection hu with hu; injection hu with hu; exact hu.symm)
    exact h
theorem upd_event (hg : o.guard = none) (m x v : Operand) (t k e : TypeId) (hop : o.op = Op.mapUpdate t m x v) (ht : P.underlying t = some (.map k e)) (hk : P.underlying k = some .string) (he : P.underlying e = some .string)
    {b ck : Nat} {es : Array MapEntry} {ms : List (ByteArray × ByteArray)} (s u : ByteArray) (hm : a.eval m = .map (some b)) (hx : a.eval x = .string s) (hv : a.eval v = .string u) (hb : W.heap[b]? = some (.map es ck)) (hF : FitM P k e es ck ms) (hs : s.size ≤ maxLen) (hu : u.size ≤ maxLen) (hn : ms.length < maxLen)
    (h : ∀ w1 es' ck', w1.heap[b]? = some (.map es' ck') → FitM P k e es' ck' ((s, u) :: ms) → W.grownBy w1 (some b) → wpList P ops Q rest (a.put o.dst undef) w1) : wpList P ops Q (o :: rest) a W := by
  have own := hF.owns hb
  refine wpList_mapUpdate_own (H := Unit) W hg m x v t hop k e (string_keyed hk) ht (plainElem P e) b ms.length _ hm own hn (.string s) (.string u) _ hx hv (keyOf_string_mk hk hs) (.lit (.string u.data.toList)) [] (plainElem_string he hu) (fun w1 own1 hgr => ?_)
  obtain ⟨es', ck', hb', F', hsz, hD⟩ := own1
  refine h w1 es' ck' hb' ⟨F', hsz, fun z => ?_⟩ hgr
  have hD' : datM P k e es' = (datM P k e es).put (.string s.data.toList) (.lit (.string u.data.toList)) := hD.symm
  rw [hD']
  obtain ⟨q1, q2⟩ := hF.2.2 z
  have im : IsMap (datM P k e es) := own.isMap
  by_cases c : s.data.toList = z.data.toList
  · rw [mget, if_pos c, ← c]
    exact ⟨has_put_same im (show WideAt.IsKeyLit (.string s.data.toList) from trivial) _, fun zd => atKey_put_same im (show WideAt.IsKeyLit (.string s.data.toList) from trivial) _ _⟩
  · rw [mget, if_neg c]
    have ne : (Lit.string z.data.toList) ≠ .string s.data.toList := fun q => c (by injection q with q; exact q.symm)
    exact ⟨by rw [has_put_other ne, q1], fun zd => by rw [atKey_put_other ne, q2]⟩
theorem gate_upd {t : TypeId} {m x v : Operand} (_ho : o.op = .mapUpdate t m x v) (h : wpList P ops Q (o :: rest) a W) : wpList P ops Q (o :: rest) a W := h
end
theorem blk_farO {w : World} {b : Nat} {o : Obj} {p : Addr} (h : w.heap[b]? = some o) (hne : b ≠ p.block) (v : Value) : (w.setCell p v).heap[b]? = some o := (Below.heap_setCell w p v b hne).trans h
theorem blk_grw {W w1 : World} {b g : Nat} {o : Obj} (h : W.heap[b]? = some o) (hg : W.grownBy w1 (some g)) (hne : b ≠ g) : w1.heap[b]? = some o := (hg.block b (blk_lt h) (by intro e; injection e with e; exact hne e)).trans h
theorem below_grw {W w1 w : World} {g : Nat} (h : Below w.heap.size w W) (hg : W.grownBy w1 (some g)) (hb : w.heap.size ≤ g) : Below w.heap.size w w1 := h.grown hg h.size (fun j hj => by cases hj; exact hb)

end Go.Proofs.Ytmelechhnimlnac.X
