/- The plain law of HoldsIn: both functions answer alike. No conditions. -/
import Derived.Test.YtmelechhnimlnacHFnExactHoldsIn
import Derived.Test.YtmelechhnimlnacQTable
import Derived.Test.YtmelechhnimlnacQSome
import Derived.Test.YtmelechhnimlnacQBytesInj
import Derived.Test.YtmelechhnimlnacQPickOnly
import Derived.Test.YtmelechhnimlnacG6
import Derived.Test.YtmelechhnimlnacG10
import Derived.Test.YtmelechhnimlnacG5
import Derived.Test.YtmelechhnimlnacG4
import Derived.Test.YtmelechhnimlnacG9
namespace Go.Proofs.Ytmelechhnimlnac.Pure
open Go.RowKit Go.Proofs.Ytmelechhnimlnac.G Go.Proofs.Ytmelechhnimlnac.X Go.Proofs.YtmelechhnimlnacW.PrintWords Go.Proofs.YtmelechhnimlnacW.PrintLast Go.Proofs.Ytmelechhnimlnac.HFnExactHoldsIn
set_option linter.unusedVariables false
set_option linter.unusedSimpArgs false

theorem some_mem {n : Int} {l : List Int} (h : someB n l = true) : ∀ k ∈ l, 0 ≤ k ∧ k < n := by
  intro k hk
  obtain ⟨i, hi, rfl⟩ := List.getElem_of_mem hk
  have := List.all_eq_true.1 h i (by rw [List.mem_range']; exact ⟨i, hi, by omega⟩)
  unfold someAt at this
  rw [Bool.and_eq_true, rd_lt hi] at this
  exact of_decide_eq_true this.1
def dependB (n : Int) (a b : List Int) : Bool := someB n a && someB n b
theorem depend_spec (n : Int) (a b : List Int) (ha : a.length ≤ 1048576) (hb : b.length ≤ 1048576) : Ev (fun k => spec_l7Depend.f k a b n) (dependB n a b) := by
  unfold spec_l7Depend.f dependB
  refine Ev.bind (some_spec n a (by omega)) ?_
  cases someB n a
  · exact Ev.neg (by simp) (Ev.eq (Ev.now false) rfl)
  · exact Ev.pos rfl (Ev.bind (some_spec n b (by omega)) (Ev.eq (Ev.now _) rfl))
theorem depend_impl (n : Int) (a b : List Int) (ha : a.length ≤ 1048576) (hb : b.length ≤ 1048576) : Ev (fun k => impl_isDepend.f k a b n) (dependB n a b) := by
  unfold impl_isDepend.f dependB
  refine Ev.bind (some_impl n a (by omega)) ?_
  cases someB n a
  · exact Ev.neg (by simp) (Ev.eq (Ev.now false) rfl)
  · exact Ev.pos rfl (Ev.bind (some_impl n b (by omega)) (Ev.eq (Ev.now _) rfl))
/-- The picked cells of the row at a place. -/
def fld (l : List S52) (c : List Int) (j : Nat) : List Int := c.map (rd (rd_T52 l (j : Int)).f0.f0)
def okP (l : List S52) (f t : List Int) (i j : Nat) : Bool := !decide (fld l f i = fld l f j) || decide (fld l t i = fld l t j)
def okR (l : List S52) (f t : List Int) (i : Nat) : Bool := (List.range' 0 i).all (okP l f t i)
theorem okP_iff {l : List S52} {f t : List Int} {i j : Nat} : okP l f t i j = true ↔ (fld l f i = fld l f j → fld l t i = fld l t j) := by
  unfold okP
  by_cases h : fld l f i = fld l f j
  · simp [h]
  · simp [h]
theorem okR_iff {l : List S52} {f t : List Int} {i : Nat} : okR l f t i = true ↔ ∀ j, j < i → (fld l f i = fld l f j → fld l t i = fld l t j) := by
  unfold okR
  rw [List.all_eq_true]
  exact ⟨fun h j hj => okP_iff.1 (h j (List.mem_range'_1.2 ⟨by omega, by omega⟩)), fun h j hj => okP_iff.2 (h j (by have := List.mem_range'_1.1 hj; omega))⟩
/-- What the rows of a good table and the columns of a good dependency are. -/
structure Fine (l : List S52) (f t : List Int) : Prop where
  len : l.length ≤ 60
  fl : f.length ≤ 1048576
  tl : t.length ≤ 1048576
  fin : ∀ j, j < l.length → ∀ c ∈ f, 0 ≤ c ∧ c < ((rd_T52 l (j : Int)).f0.f0.length : Int)
  tin : ∀ j, j < l.length → ∀ c ∈ t, 0 ≤ c ∧ c < ((rd_T52 l (j : Int)).f0.f0.length : Int)
  cells : ∀ j, j < l.length → ∀ x ∈ (rd_T52 l (j : Int)).f0.f0, RR x
theorem Fine.fR {l : List S52} {f t : List Int} (h : Fine l f t) {j : Nat} (hj : j < l.length) : ∀ x ∈ fld l f j, RR x := fun x hx => by
  obtain ⟨c, hc, rfl⟩ := List.mem_map.1 hx
  obtain ⟨h0, h1⟩ := h.fin j hj c hc
  obtain ⟨n, rfl⟩ := Int.eq_ofNat_of_zero_le h0
  rw [rd_lt (by omega)]
  exact h.cells j hj _ (List.getElem_mem _)
theorem Fine.tR {l : List S52} {f t : List Int} (h : Fine l f t) {j : Nat} (hj : j < l.length) : ∀ x ∈ fld l t j, RR x := fun x hx => by
  obtain ⟨c, hc, rfl⟩ := List.mem_map.1 hx
  obtain ⟨h0, h1⟩ := h.tin j hj c hc
  obtain ⟨n, rfl⟩ := Int.eq_ofNat_of_zero_le h0
  rw [rd_lt (by omega)]
  exact h.cells j hj _ (List.getElem_mem _)
theorem fld_len (l : List S52) (c : List Int) (j : Nat) : (fld l c j).length = c.length := by simp [fld]
theorem rd_take (l : List S52) {i j : Nat} (h : j < i) : rd_T52 (l.take i) (j : Int) = rd_T52 l (j : Int) := by
  unfold rd_T52
  rw [List.getD_eq_getElem?_getD, List.getD_eq_getElem?_getD, Int.toNat_natCast, List.getElem?_take_of_lt h]
theorem spec_in {l : List S52} {f t : List Int} (h : Fine l f t) {i : Nat} (hi : i < l.length) (R : Bool) (hR : Ev (fun k => spec_l7Holds.l0 k l l (l.length : Int) ((i + 1 : Nat) : Int) f t) R) (z : Int) (d : Nat) : ∀ j : Nat, j + d = i →
    Ev (fun k => spec_l7Holds.l1 k l l (l.length : Int) (i : Int) (l.take i) (i : Int) (j : Int) f t (rd_T52 l (i : Int)).f0.f0 z) ((List.range' j d).all (okP l f t i) && R) := by
  have wi : wrap64 ((i : Int) + 1) = ((i + 1 : Nat) : Int) := by have := h.len; rw [w64 (by omega) (by omega)]; omega
  induction d with
  | zero =>
    intro j hj
    obtain rfl : j = i := by omega
    refine Ev.step (fun k => by rw [spec_l7Holds.l1]) (Ev.neg (by omega) ?_)
    rw [wi]
    exact Ev.eq hR (by simp)
  | succ d ih =>
    intro j hj
    have hl := h.len
    have hlt : j < i := by omega
    have htl : (l.take i).length = i := by rw [List.length_take]; omega
    have hx := ih (j + 1) (by omega)
    rw [range'_s, List.all_cons]
    refine Ev.step (fun k => by rw [spec_l7Holds.l1]) (Ev.pos (by omega) (Ev.pos (by omega) (Ev.pos (by rw [htl]; omega) ?_)))
    rw [rd_take l hlt, w64 (x := (j : Int) + 1) (by omega) (by omega)]
    refine Ev.bind (pick_spec _ f h.fl (h.fin i hi)) ?_
    refine Ev.bind (pick_spec _ f h.fl (h.fin j (by omega))) ?_
    refine Ev.bind (cmp_spec _ _ (by rw [List.length_map]; have := h.fl; omega)) ?_
    by_cases c : fld l f i = fld l f j
    · refine Ev.pos (cmp0.2 c) ?_
      refine Ev.bind (pick_spec _ t h.tl (h.tin i hi)) ?_
      refine Ev.bind (pick_spec _ t h.tl (h.tin j (by omega))) ?_
      refine Ev.bind (cmp_spec _ _ (by rw [List.length_map]; have := h.tl; omega)) ?_
      by_cases c2 : fld l t i = fld l t j
      · refine Ev.pos (cmp0.2 c2) ?_
        rw [show okP l f t i j = true from okP_iff.2 (fun _ => c2), Bool.true_and]
        exact hx
      · refine Ev.neg (fun q => c2 (cmp0.1 q)) (Ev.eq (Ev.now _) ?_)
        rw [show okP l f t i j = false from by rw [← Bool.not_eq_true]; exact fun q => c2 (okP_iff.1 q c)]
        rfl
    · refine Ev.neg (fun q => c (cmp0.1 q)) ?_
      rw [show okP l f t i j = true from okP_iff.2 (fun q => absurd q c), Bool.true_and]
      exact hx
theorem spec_out {l : List S52} {f t : List Int} (h : Fine l f t) (d : Nat) : ∀ i : Nat, i + d = l.length → Ev (fun k => spec_l7Holds.l0 k l l (l.length : Int) (i : Int) f t) ((List.range' i d).all (okR l f t)) := by
  induction d with
  | zero => intro i hi; exact Ev.step (fun k => by rw [spec_l7Holds.l0]) (Ev.neg (by omega) (Ev.eq (Ev.now true) rfl))
  | succ d ih =>
    intro i hi
    have htl : ((l.take i).length : Int) = (i : Int) := by rw [List.length_take]; omega
    refine Ev.step (fun k => by rw [spec_l7Holds.l0]) (Ev.pos (by omega) (Ev.pos (by omega) (Ev.pos (by omega) (Ev.pos (by omega) ?_))))
    refine Ev.cbind (a := l.take i) (by rw [Int.toNat_natCast]) ?_
    rw [htl, range'_s, List.all_cons]
    exact spec_in h (by omega) _ (ih (i + 1) (by omega)) _ i 0 (by omega)
/-- What the map holds behind so many rows. -/
def bys (a : List Int) : ByteArray := strOfNums (rowNums a)
def msOf (l : List S52) (f t : List Int) : Nat → List (ByteArray × ByteArray)
  | 0 => []
  | i + 1 => (bys (fld l f i), bys (fld l t i)) :: msOf l f t i
theorem mg {l : List S52} {f t : List Int} (h : Fine l f t) {x : Nat} (hx : x < l.length) : ∀ i, i ≤ l.length →
    (mget (msOf l f t i) (bys (fld l f x)) = none ∧ ∀ j, j < i → fld l f j ≠ fld l f x) ∨ ∃ j, j < i ∧ fld l f j = fld l f x ∧ mget (msOf l f t i) (bys (fld l f x)) = some (bys (fld l t j))
  | 0, _ => .inl ⟨rfl, fun j hj => absurd hj (by omega)⟩
  | i + 1, hi => by
    unfold msOf mget
    by_cases c : (bys (fld l f i)).data.toList = (bys (fld l f x)).data.toList
    · refine .inr ⟨i, by omega, bytes_inj (by rw [fld_len, fld_len]) (h.fR (by omega)) (h.fR hx) c, by rw [if_pos c]⟩
    · have ne : fld l f i ≠ fld l f x := fun q => c (by rw [q])
      rw [if_neg c]
      rcases mg h hx i (by omega) with ⟨h1, h2⟩ | ⟨j, h1, h2, h3⟩
      · refine .inl ⟨h1, fun j hj => ?_⟩
        by_cases e : j = i
        · rw [e]; exact ne
        · exact h2 j (by omega)
      · exact .inr ⟨j, by omega, h2, h3⟩
theorem hit_eq {l : List S52} {f t : List Int} (h : Fine l f t) {i : Nat} (hi : i < l.length) (hall : ∀ j, j < i → okR l f t j = true) : hitM (msOf l f t i) (bys (fld l f i)) (bys (fld l t i)) = !okR l f t i := by
  unfold hitM
  rcases mg h hi i (by omega) with ⟨h1, h2⟩ | ⟨j, h1, h2, h3⟩
  · rw [h1]
    rw [show okR l f t i = true from okR_iff.2 (fun j hj e => absurd e.symm (h2 j hj))]
    rfl
  · rw [h3]
    show ((bys (fld l t j)).toList != (bys (fld l t i)).toList) = _
    by_cases c : fld l t j = fld l t i
    · have ok : okR l f t i = true := okR_iff.2 (fun j' hj' e => by
        rw [← c]
        by_cases c1 : j' = j
        · rw [c1]
        · by_cases c2 : j' < j
          · exact okR_iff.1 (hall j h1) j' c2 (by rw [h2, e])
          · exact (okR_iff.1 (hall j' hj') j (by omega) (by rw [h2, e])).symm)
      rw [c, ok]
      simp
    · rw [show okR l f t i = false from by rw [← Bool.not_eq_true]; exact fun q => c (okR_iff.1 q j h1 h2.symm).symm]
      rw [toList_data, toList_data]
      exact bne_iff_ne.2 (fun q => c (bytes_inj (by rw [fld_len, fld_len]) (h.tR (by omega)) (h.tR hi) q))
theorem impl_out {l : List S52} {f t : List Int} (h : Fine l f t) (d : Nat) : ∀ i : Nat, i + d = l.length → (∀ j, j < i → okR l f t j = true) →
    Ev (fun k => impl_HoldsIn.l0 k l (l.length : Int) (i : Int) (msOf l f t i) f t) ((List.range' i d).all (okR l f t), true) := by
  induction d with
  | zero => intro i hi ha; exact Ev.step (fun k => by rw [impl_HoldsIn.l0]) (Ev.neg (by omega) (Ev.eq (Ev.now (true, true)) rfl))
  | succ d ih =>
    intro i hi ha
    have hl := h.len
    rw [range'_s, List.all_cons]
    refine Ev.step (fun k => by rw [impl_HoldsIn.l0]) (Ev.pos (by omega) (Ev.pos (by omega) (Ev.pos (by omega) ?_)))
    rw [w64 (x := (i : Int) + 1) (by omega) (by omega)]
    refine Ev.bind (pick_impl _ f h.fl (h.fin i (by omega))) ?_
    refine Ev.bind (rowBytes_ev _ (by rw [List.length_map]; exact h.fl)) ?_
    refine Ev.bind (pick_impl _ t h.tl (h.tin i (by omega))) ?_
    refine Ev.bind (rowBytes_ev _ (by rw [List.length_map]; exact h.tl)) ?_
    have hh := hit_eq h (i := i) (by omega) ha
    by_cases c : okR l f t i = true
    · refine Ev.neg (show ¬ hitM (msOf l f t i) (bys (fld l f i)) (bys (fld l t i)) = true by rw [hh, c]; decide) ?_
      rw [c, Bool.true_and]
      exact ih (i + 1) (by omega) (fun j hj => by
        by_cases e : j = i
        · rw [e]; exact c
        · exact ha j (by omega))
    · rw [Bool.not_eq_true] at c
      refine Ev.pos (show hitM (msOf l f t i) (bys (fld l f i)) (bys (fld l t i)) = true by rw [hh, c]; rfl) ?_
      rw [c]
      exact Ev.now _
theorem good_rows {c : Int} {l : List S52} (h : goodTable c l = true) : l.length ≤ 60 ∧ ∀ j, j < l.length → goodRow (rd_T52 l (j : Int)).f0.f0 = true ∧ ((rd_T52 l (j : Int)).f0.f0.length : Int) = c := by
  unfold goodTable at h
  rw [Bool.and_eq_true, Bool.and_eq_true, decide_eq_true_eq, decide_eq_true_eq, List.all_eq_true] at h
  refine ⟨h.2.1, fun j hj => ?_⟩
  have := h.2.2 j (List.mem_range'_1.2 ⟨by omega, by omega⟩)
  unfold okAt at this
  rw [Bool.and_eq_true, Bool.and_eq_true, decide_eq_true_eq] at this
  exact ⟨this.1, this.2.1⟩
theorem fine_of {c : Int} {l : List S52} {f t : List Int} (h : goodTable c l = true) (hd : dependB c f t = true) (hf : f.length ≤ 1048576) (ht : t.length ≤ 1048576) : Fine l f t := by
  obtain ⟨h0, h1⟩ := good_rows h
  unfold dependB at hd
  rw [Bool.and_eq_true] at hd
  refine ⟨h0, hf, ht, fun j hj x hx => ?_, fun j hj x hx => ?_, fun j hj => (good_range (h1 j hj).1).2⟩
  · rw [(h1 j hj).2]; exact some_mem hd.1 x hx
  · rw [(h1 j hj).2]; exact some_mem hd.2 x hx
theorem FnExactHoldsIn : laws_FnExactHoldsIn.Pure := law fun x0 h0 x1 h1 => by
  have k0 : x0.f1.length + (x0.f1.map fun y => y.f0.f0.length).sum ≤ 1048576 := h0
  have k1 : x1.f0.length + x1.f1.length ≤ 1048576 := h1
  have hr := rd_rows x0.f1 1048576 (fun y hy => by have := sum_mem (fun y : S52 => y.f0.f0.length) x0.f1 y hy; omega)
  have hs := table_spec x0.f0 x0.f1 (by omega) hr
  have hi := table_impl x0.f0 x0.f1 (by omega) hr
  have no_i : ∀ k, impl_HoldsIn.j0 (k + 1) true x0.f0 x0.f1 x1.f0 x1.f1 = some (false, false) := fun k => by rw [impl_HoldsIn.j0, if_pos rfl]
  have ds := depend_spec x0.f0 x1.f0 x1.f1 (by omega) (by omega)
  have di := depend_impl x0.f0 x1.f0 x1.f1 (by omega) (by omega)
  unfold spec_HoldsIn.f impl_HoldsIn.f
  by_cases hg : goodTable x0.f0 x0.f1 = true
  case neg => exact ⟨(false, false), Ev.bind hs (Ev.neg hg (Ev.now _)), Ev.bind hi (Ev.neg hg (Ev.step no_i (Ev.now _)))⟩
  by_cases hd : dependB x0.f0 x1.f0 x1.f1 = true
  case neg =>
    refine ⟨(false, false), Ev.bind hs (Ev.pos hg (Ev.bind ds (Ev.neg hd (Ev.now _)))), Ev.bind hi (Ev.pos hg (Ev.bind di ?_))⟩
    rw [Bool.not_eq_true] at hd
    rw [hd]
    exact Ev.step no_i (Ev.now _)
  have hf := fine_of hg hd (by omega) (by omega)
  refine ⟨((List.range' 0 x0.f1.length).all (okR x0.f1 x1.f0 x1.f1), true), Ev.bind hs (Ev.pos hg (Ev.bind ds (Ev.pos hd ?_))), Ev.bind hi (Ev.pos hg (Ev.bind di ?_))⟩
  · unfold spec_l7Holds.f
    exact Ev.bind (spec_out hf x0.f1.length 0 (by omega)) (Ev.now _)
  · rw [hd]
    refine Ev.step (fun k => by rw [impl_HoldsIn.j0]) (Ev.neg (by decide) ?_)
    exact impl_out hf x0.f1.length 0 (by omega) (fun j hj => absurd hj (by omega))

end Go.Proofs.Ytmelechhnimlnac.Pure
