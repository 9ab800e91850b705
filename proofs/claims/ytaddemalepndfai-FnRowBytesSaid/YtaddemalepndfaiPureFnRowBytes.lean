/- The plain law of FnRowBytes: it answers true. No conditions. -/
import Derived.Test.YtaddemalepndfaiG9
import Derived.Test.YtaddemalepndfaiQSpoilt
import Derived.Test.YtaddemalepndfaiQReadBoth
namespace Go.Proofs.Ytaddemalepndfai.Pure
open Go.RowKit Go.Proofs.Ytaddemalepndfai.G Go.Proofs.Ytaddemalepndfai.X Go.Proofs.YtaddemalepndfaiW.PrintWords Go.Proofs.YtaddemalepndfaiW.PrintLast
set_option linter.unusedVariables false
set_option linter.unusedSimpArgs false

theorem bytesOf_str (l : List Int) (h : ∀ x ∈ l, 0 ≤ x ∧ x ≤ 255) : bytesOf (strOfNums l) = l := by
  unfold bytesOf
  rw [strOfNums_data, List.map_map]
  conv => rhs; rw [← List.map_id l]
  refine List.map_congr_left (fun x hx => ?_)
  have := h x hx
  show ((UInt8.ofNat x.toNat).toNat : Int) = x
  rw [UInt8.toNat_ofNat']
  omega
def RR (x : Int) : Prop := -100000 ≤ x ∧ x < 16677216
theorem enc3_range (x y : Int) (h : y ∈ enc3 x) : 0 ≤ y ∧ y ≤ 255 := by
  unfold enc3 at h
  simp only [List.mem_cons, List.not_mem_nil, or_false] at h
  omega
theorem rowNums_range (a : List Int) : ∀ x ∈ rowNums a, 0 ≤ x ∧ x ≤ 255 := fun x hx => by
  unfold rowNums at hx
  rcases List.mem_cons.1 hx with rfl | hx
  · omega
  · obtain ⟨y, _, hy⟩ := List.mem_flatMap.1 hx
    exact enc3_range y x hy
theorem flat_inj : ∀ a b : List Int, a.length = b.length → (∀ x ∈ a, RR x) → (∀ x ∈ b, RR x) → a.flatMap enc3 = b.flatMap enc3 → a = b
  | [], [], _, _, _, _ => rfl
  | [], _ :: _, h, _, _, _ => by simp at h
  | _ :: _, [], h, _, _, _ => by simp at h
  | x :: xs, y :: ys, hl, ha, hb, h => by
    have hx : RR x := ha x List.mem_cons_self
    have hy : RR y := hb y List.mem_cons_self
    obtain ⟨hx0, hx1⟩ := hx
    obtain ⟨hy0, hy1⟩ := hy
    rw [List.flatMap_cons, List.flatMap_cons] at h
    unfold enc3 at h
    rw [w64 (x := x + 100000) (by omega) (by omega), w64 (x := y + 100000) (by omega) (by omega)] at h
    simp only [List.cons_append, List.nil_append, List.cons.injEq] at h
    obtain ⟨h1, h2, h3, h4⟩ := h
    have e : x = y := by omega
    rw [e, flat_inj xs ys (by simpa using hl) (fun z hz => ha z (List.mem_cons_of_mem _ hz)) (fun z hz => hb z (List.mem_cons_of_mem _ hz)) h4]
theorem decs_range (s : ByteArray) : ∀ (d j : Nat), ∀ x ∈ decs s j d, RR x
  | 0, _, x, hx => by cases hx
  | d + 1, j, x, hx => by
    rw [decs_succ] at hx
    rcases List.mem_cons.1 hx with rfl | hx
    · have h0 := bt_range s (1 + 3 * (j : Int))
      have h1 := bt_range s (1 + 3 * (j : Int) + 1)
      have h2 := bt_range s (1 + 3 * (j : Int) + 2)
      unfold dec RR
      omega
    · exact decs_range s d (j + 1) x hx
theorem good_range {a : List Int} (h : goodRow a = true) : a.length ≤ 6 ∧ ∀ x ∈ a, RR x := by
  unfold goodRow at h
  rw [Bool.and_eq_true] at h
  refine ⟨by simpa using h.1, fun x hx => ?_⟩
  have := List.all_eq_true.1 h.2 x hx
  have t2 : -100000 ≤ x ∧ x ≤ 100000 := by first | exact of_decide_eq_true this | simpa using this
  unfold RR
  omega
theorem read_back (a : List Int) (hg : goodRow a = true) : Ev (fun k => impl_ReadRow.f k (strOfNums (rowNums a))) (a, true) := by
  obtain ⟨hl, hr⟩ := good_range hg
  have hsz : (strOfNums (rowNums a)).size = 1 + 3 * a.length := by rw [strOfNums_size, rowNums_len]
  have hb : bytesOf (strOfNums (rowNums a)) = rowNums a := bytesOf_str _ (rowNums_range a)
  have hd := bytes_drop (strOfNums (rowNums a)) a.length hsz a.length 0 (by omega)
  rw [hb] at hd
  have hd2 : a.flatMap enc3 = (decs (strOfNums (rowNums a)) 0 a.length).flatMap enc3 := hd
  have he := flat_inj a _ (decs_len _ _ _).symm hr (decs_range _ _ _) hd2
  obtain ⟨v, _, ei, _, _, hm⟩ := read_both (strOfNums (rowNums a))
  have h0 : bt (strOfNums (rowNums a)) 0 = ((a.length : Nat) : Int) := by
    rw [← rd_bytesOf, hb]
    show (a.length : Int) % 256 = _
    omega
  have hv := hm a.length hsz h0 (by rw [← he]; exact hg)
  rw [← he] at hv
  rw [hv] at ei
  exact ei
theorem J2 {x1 : List Int} (h : Byt x1) : Ev (fun k => laws_FnRowBytes.j2 k x1) true := by
  obtain ⟨t, et⟩ := drawR h
  obtain ⟨v, es, ei, hv, hl, _⟩ := read_both t
  refine Ev.step (fun k => by rw [laws_FnRowBytes.j2]) ?_
  refine Ev.bind et ?_
  refine Ev.bind ei ?_
  refine Ev.bind es ?_
  refine Ev.neg (by simp) ?_
  refine Ev.bind (same_ev v.1 v.1 (by omega)) ?_
  refine Ev.pos (by simp) ?_
  refine Ev.bind (bytes_impl v.1 (by omega)) ?_
  obtain ⟨v1, v2⟩ := v
  cases v2 with
  | true =>
    obtain ⟨g, e⟩ := hv rfl
    have eb : bytesV v1 = (t, true) := by
      unfold bytesV
      rw [if_pos g, e]
    refine Ev.pos rfl ?_
    rw [show bytesV (v1, true).1 = (t, true) from eb]
    refine Ev.pos rfl (Ev.eq (Ev.now _) ?_)
    simp
  | false => exact Ev.neg (show ¬ (false = true) by decide) (Ev.now _)
theorem J1 {x1 : List Int} (h : Byt x1) (a : List Int) (ha : a.length ≤ 7) : Ev (fun k => laws_FnRowBytes.j1 k x1 (bytesV a).1 (bytesV a).2 a) true := by
  refine Ev.step (fun k => by rw [laws_FnRowBytes.j1]) ?_
  by_cases g : goodRow a = true
  · have e : bytesV a = (strOfNums (rowNums a), true) := by unfold bytesV; rw [if_pos g]
    rw [e]
    refine Ev.pos rfl ?_
    refine Ev.bind (read_back a g) ?_
    refine Ev.pos rfl ?_
    refine Ev.bind (same_ev a a (by omega)) ?_
    exact Ev.pos (by simp) (J2 h)
  · have e : bytesV a = (⟨#[]⟩, false) := by unfold bytesV; rw [if_neg g]
    rw [e]
    exact Ev.neg (show ¬ (false = true) by decide) (J2 h)
theorem J0 {x1 : List Int} (h : Byt x1) (a b : List Int) (ha : a.length ≤ 7) (hb : b.length ≤ 7) : Ev (fun k => laws_FnRowBytes.j0 k x1 (cmpV a b).1 (cmpV a b).2 (bytesV a).1 (bytesV a).2 false a b) true := by
  refine Ev.step (fun k => by rw [laws_FnRowBytes.j0]) ?_
  refine Ev.neg (by decide) ?_
  by_cases g : goodRow a = true ∧ goodRow b = true
  · have e : cmpV a b = (cmpL a b, true) := by unfold cmpV; rw [if_pos g.1, if_pos g.2]
    have e2 : cmpV b a = (cmpL b a, true) := by unfold cmpV; rw [if_pos g.2, if_pos g.1]
    have hs := cmpL_small a b
    have ei := compare_impl b a (by omega) (by omega)
    rw [e2] at ei
    rw [e]
    refine Ev.pos rfl ?_
    refine Ev.bind ei ?_
    refine Ev.pos rfl ?_
    refine Ev.pos (by show cmpL b a = wrap64 (-cmpL a b); rw [w64 (by omega) (by omega)]; exact cmpL_anti a b) ?_
    refine Ev.bind (same_ev a b (by omega)) ?_
    exact Ev.neg (by show ¬ ((cmpL a b == 0) != decide (a = b)) = true; rw [cmpL_zero]; simp) (J1 h a ha)
  · have e : cmpV a b = (0, false) := by
      unfold cmpV
      by_cases ga : goodRow a = true
      · rw [if_pos ga, if_neg (fun q => g ⟨ga, q⟩)]
      · rw [if_neg ga]
    rw [e]
    exact Ev.neg (show ¬ (false = true) by decide) (J1 h a ha)
theorem FnRowBytes : laws_FnRowBytes.Pure := fun x0 h0 x1 h1 => by
  have ev : Ev (fun k => laws_FnRowBytes.f k x0 x1) true := by
    unfold laws_FnRowBytes.f
    by_cases c : wrap64 ((x0.length : Int) + (x1.length : Int)) > 1048576
    · exact Ev.pos c (Ev.now _)
    obtain ⟨a, b, ed, ha, hb⟩ := drawC h0
    refine Ev.neg c ?_
    refine Ev.bind ed ?_
    refine Ev.bind (compare_impl a b (by omega) (by omega)) ?_
    refine Ev.bind (compare_spec a b (by omega) (by omega)) ?_
    refine Ev.bind (bytes_impl a (by omega)) ?_
    refine Ev.bind (bytes_spec a (by omega)) ?_
    refine Ev.neg (by simp) ?_
    refine Ev.pos rfl ?_
    refine Ev.neg (by simp) ?_
    refine Ev.pos rfl ?_
    refine Ev.cbind (goodRow_impl a) ?_
    have e : (goodRow a != (bytesV a).2) = false := by
      unfold bytesV
      cases goodRow a <;> rfl
    rw [e]
    exact J0 h1 a b ha hb
  obtain ⟨K, hK⟩ := ev
  exact ⟨K, hK K (Nat.le_refl _)⟩

end Go.Proofs.Ytaddemalepndfai.Pure
