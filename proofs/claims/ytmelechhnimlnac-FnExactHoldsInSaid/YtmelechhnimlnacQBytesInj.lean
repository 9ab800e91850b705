/- Rows of one length have one text of bytes only where they are one. No conditions. -/
import Derived.Test.YtmelechhnimlnacQBytes
import Derived.Test.YtmelechhnimlnacQCmp
namespace Go.Proofs.Ytmelechhnimlnac.Pure
open Go.RowKit Go.Proofs.Ytmelechhnimlnac.G Go.Proofs.Ytmelechhnimlnac.X Go.Proofs.YtmelechhnimlnacW.PrintWords Go.Proofs.YtmelechhnimlnacW.PrintLast
set_option linter.unusedVariables false
set_option linter.unusedSimpArgs false

theorem bytesOf_str (l : List Int) (h : ∀ x ∈ l, 0 ≤ x ∧ x ≤ 255) : bytesOf (strOfNums l) = l := by
  unfold bytesOf
  rw [strOfNums_data, List.map_map]
  conv => rhs; rw [← List.map_id l]
  refine List.map_congr_left (fun x hx => ?_)
  have := h x hx
  show ((UInt8.ofNat x.toNat).toNat : Int) = x
  rw [UInt8.toNat_ofNat']
  omega
def RR (x : Int) : Prop := -100000 ≤ x ∧ x < 16677216
theorem enc3_range (x y : Int) (h : y ∈ enc3 x) : 0 ≤ y ∧ y ≤ 255 := by
  unfold enc3 at h
  simp only [List.mem_cons, List.not_mem_nil, or_false] at h
  omega
theorem rowNums_range (a : List Int) : ∀ x ∈ rowNums a, 0 ≤ x ∧ x ≤ 255 := fun x hx => by
  unfold rowNums at hx
  rcases List.mem_cons.1 hx with rfl | hx
  · omega
  · obtain ⟨y, _, hy⟩ := List.mem_flatMap.1 hx
    exact enc3_range y x hy
theorem flat_inj : ∀ a b : List Int, a.length = b.length → (∀ x ∈ a, RR x) → (∀ x ∈ b, RR x) → a.flatMap enc3 = b.flatMap enc3 → a = b
  | [], [], _, _, _, _ => rfl
  | [], _ :: _, h, _, _, _ => by simp at h
  | _ :: _, [], h, _, _, _ => by simp at h
  | x :: xs, y :: ys, hl, ha, hb, h => by
    have hx : RR x := ha x List.mem_cons_self
    have hy : RR y := hb y List.mem_cons_self
    obtain ⟨hx0, hx1⟩ := hx
    obtain ⟨hy0, hy1⟩ := hy
    rw [List.flatMap_cons, List.flatMap_cons] at h
    unfold enc3 at h
    rw [w64 (x := x + 100000) (by omega) (by omega), w64 (x := y + 100000) (by omega) (by omega)] at h
    simp only [List.cons_append, List.nil_append, List.cons.injEq] at h
    obtain ⟨h1, h2, h3, h4⟩ := h
    have e : x = y := by omega
    rw [e, flat_inj xs ys (by simpa using hl) (fun z hz => ha z (List.mem_cons_of_mem _ hz)) (fun z hz => hb z (List.mem_cons_of_mem _ hz)) h4]
theorem toList_loop (s : ByteArray) (d : Nat) : ∀ (i : Nat) (r : List UInt8), i + d = s.size → ByteArray.toList.loop s i r = r.reverse ++ s.data.toList.drop i := by
  have hl : s.data.toList.length = s.size := by simp
  induction d with
  | zero =>
    intro i r hi
    unfold ByteArray.toList.loop
    rw [if_neg (by omega), List.drop_of_length_le (by omega), List.append_nil]
  | succ d ih =>
    intro i r hi
    have hlt : i < s.data.toList.length := by omega
    unfold ByteArray.toList.loop
    rw [if_pos (by omega), ih (i + 1) _ (by omega), drop_cons hlt, List.reverse_cons, List.append_assoc]
    have : s.get! i = s.data.toList[i] := by
      have h2 : i < s.data.size := by simpa using hlt
      show s.data[i]! = _
      rw [Array.getElem_toList, getElem!_pos s.data i h2]
    rw [this]; rfl
theorem toList_data (s : ByteArray) : s.toList = s.data.toList := by
  unfold ByteArray.toList
  simpa using toList_loop s s.size 0 [] (by omega)

theorem cmpL_zero : ∀ a b : List Int, (cmpL a b == 0) = decide (a = b)
  | [], [] => rfl
  | [], _ :: _ => by simp [cmpL]
  | _ :: _, [] => by simp [cmpL]
  | x :: xs, y :: ys => by
    unfold cmpL
    by_cases h1 : x < y
    · rw [if_pos h1]
      have : ¬ x = y := by omega
      simp [this]
    · by_cases h2 : x > y
      · rw [if_neg h1, if_pos h2]
        have : ¬ x = y := by omega
        simp [this]
      · rw [if_neg h1, if_neg h2, cmpL_zero xs ys]
        have : x = y := by omega
        simp [this]
theorem good_range {a : List Int} (h : goodRow a = true) : a.length ≤ 6 ∧ ∀ x ∈ a, RR x := by
  unfold goodRow at h
  rw [Bool.and_eq_true] at h
  refine ⟨by simpa using h.1, fun x hx => ?_⟩
  have := List.all_eq_true.1 h.2 x hx
  have t2 : -100000 ≤ x ∧ x ≤ 100000 := by first | exact of_decide_eq_true this | simpa using this
  unfold RR
  omega
theorem cmp0 {a b : List Int} : cmpL a b = 0 ↔ a = b := by
  have h := cmpL_zero a b
  refine ⟨fun e => ?_, fun e => ?_⟩
  · rw [e] at h; simpa using h.symm
  · subst e; simpa using h
theorem str_inj {a b : ByteArray} (h : a.data.toList = b.data.toList) : a = b := by
  cases a
  cases b
  congr 1
  exact Array.toList_inj.1 h
theorem bytes_inj {a b : List Int} (hl : a.length = b.length) (ha : ∀ x ∈ a, RR x) (hb : ∀ x ∈ b, RR x) (h : (strOfNums (rowNums a)).data.toList = (strOfNums (rowNums b)).data.toList) : a = b := by
  have e := congrArg bytesOf (str_inj h)
  rw [bytesOf_str _ (rowNums_range a), bytesOf_str _ (rowNums_range b)] at e
  unfold rowNums at e
  exact flat_inj a b hl ha hb (List.cons.inj e).2

end Go.Proofs.Ytmelechhnimlnac.Pure
