/- ReadRow: both functions answer alike, and what they read makes those bytes again. No conditions. -/
import Derived.Test.YtaddemalepndfaiQRow
import Derived.Test.YtaddemalepndfaiQBytes
import Derived.Test.YtaddemalepndfaiG8
import Derived.Test.YtaddemalepndfaiG6
namespace Go.Proofs.Ytaddemalepndfai.Pure
open Go.RowKit Go.Proofs.Ytaddemalepndfai.G Go.Proofs.Ytaddemalepndfai.X Go.Proofs.YtaddemalepndfaiW.PrintWords
set_option linter.unusedVariables false

def dec (s : ByteArray) (j : Nat) : Int := bt s (1 + 3 * j) * 65536 + bt s (1 + 3 * j + 1) * 256 + bt s (1 + 3 * j + 2) - 100000
def decs (s : ByteArray) : Nat → Nat → List Int
  | _, 0 => []
  | j, d + 1 => dec s j :: decs s (j + 1) d
theorem decs_succ (s : ByteArray) (j d : Nat) : decs s j (d + 1) = dec s j :: decs s (j + 1) d := rfl
theorem decs_len (s : ByteArray) : ∀ d j, (decs s j d).length = d
  | 0, _ => rfl
  | d + 1, j => by unfold decs; rw [List.length_cons, decs_len s d]
theorem bits_or (a b c : Int) (ha : 0 ≤ a ∧ a ≤ 255) (hb : 0 ≤ b ∧ b ≤ 255) (hc : 0 ≤ c ∧ c ≤ 255) :
    Go.bits .or .i64 (Go.bits .or .i64 (a * 65536) (b * 256)) c = a * 65536 + b * 256 + c := by
  have hk : ∀ n : Int, 0 ≤ n → n < 2 ^ 40 → IntKind.i64.wrap n = n := fun n h0 h1 => by rw [IntKind.wrap_i64]; omega
  rw [Go.bits_join .i64 40 (by decide) hk 16 (a * 65536) (b * 256) (by omega) (by omega) (by omega) (by omega) (by omega) (by omega)]
  rw [Go.bits_join .i64 40 (by decide) hk 8 (a * 65536 + b * 256) c (by omega) (by omega) (by omega) (by omega) (by omega) (by omega)]

theorem spec_l (s : ByteArray) (m : Nat) (hs : s.size = 1 + 3 * m) (hm : m ≤ 1048576) (d : Nat) : ∀ (j : Nat) (z : List Int), j + d = m → z.length = j →
    Ev (fun k => spec_ReadRow.l0 k s ((1 + 3 * j : Nat) : Int) z) (if goodRow (z ++ decs s j d) = true then (z ++ decs s j d, true) else ([], false)) := by
  induction d with
  | zero =>
    intro j z hj hz
    refine Ev.step (f := fun k => (spec_GoodRow.f k z).bind fun t => if t = true then some (z, true) else some (([] : List Int), false)) (fun k => by simp only [spec_ReadRow.l0]; rw [if_neg (by omega)]) ?_
    rw [show z ++ decs s j 0 = z from List.append_nil z]
    refine Ev.bind (goodRow_spec z (by omega)) ?_
    exact Ev.ite (fun _ => Ev.now _) (fun _ => Ev.now _)
  | succ d ih =>
    intro j z hj hz
    have h0 := bt_range s (1 + 3 * (j : Int))
    have h1 := bt_range s (1 + 3 * (j : Int) + 1)
    have h2 := bt_range s (1 + 3 * (j : Int) + 2)
    have e : z ++ decs s j (d + 1) = (z ++ [dec s j]) ++ decs s (j + 1) d := by rw [decs_succ, List.append_assoc]; rfl
    rw [e]
    refine Ev.step (f := fun k => spec_ReadRow.l0 k s ((1 + 3 * (j + 1) : Nat) : Int) (z ++ [dec s j])) (fun k => ?_) (ih (j + 1) _ (by omega) (by simp [hz]))
    simp only [spec_ReadRow.l0]
    have c0 : ((1 + 3 * j : Nat) : Int) = 1 + 3 * (j : Int) := by omega
    have c1 : wrap64 (1 + 3 * (j : Int) + 1) = 1 + 3 * (j : Int) + 1 := w64 (by omega) (by omega)
    have c2 : wrap64 (1 + 3 * (j : Int) + 2) = 1 + 3 * (j : Int) + 2 := w64 (by omega) (by omega)
    have c3 : wrap64 (1 + 3 * (j : Int) + 3) = ((1 + 3 * (j + 1) : Nat) : Int) := by rw [w64 (by omega) (by omega)]; omega
    rw [c0, c1, c2, c3, if_pos (by omega), if_pos (by omega), if_pos (by omega), if_pos (by omega), if_pos (by omega), if_pos (by omega), if_pos (by omega)]
    have w : wrap64 (wrap64 (wrap64 (wrap64 (wrap64 (bt s (1 + 3 * (j : Int))) * 65536) + wrap64 (wrap64 (bt s (1 + 3 * (j : Int) + 1)) * 256)) + wrap64 (bt s (1 + 3 * (j : Int) + 2))) - 100000) = dec s j := by
      unfold dec
      rw [w64 (x := bt s (1 + 3 * (j : Int))) (by omega) (by omega), w64 (x := bt s (1 + 3 * (j : Int) + 1)) (by omega) (by omega), w64 (x := bt s (1 + 3 * (j : Int) + 2)) (by omega) (by omega), w64 (x := bt s (1 + 3 * (j : Int)) * 65536) (by omega) (by omega), w64 (x := bt s (1 + 3 * (j : Int) + 1) * 256) (by omega) (by omega), w64 (x := bt s (1 + 3 * (j : Int)) * 65536 + bt s (1 + 3 * (j : Int) + 1) * 256) (by omega) (by omega), w64 (x := bt s (1 + 3 * (j : Int)) * 65536 + bt s (1 + 3 * (j : Int) + 1) * 256 + bt s (1 + 3 * (j : Int) + 2)) (by omega) (by omega), w64 (by omega) (by omega)]
    rw [w]

theorem impl_l (s : ByteArray) (m : Nat) (hs : s.size = 1 + 3 * m) (hm : m ≤ 6) (d : Nat) : ∀ (j : Nat) (z : List Int), j + d = m → z.length = j →
    Ev (fun k => impl_ReadRow.l0 k s ((1 + 3 * j : Nat) : Int) z) (if goodRow (z ++ decs s j d) = true then (if (strOfNums (rowNums (z ++ decs s j d))).toList = s.toList then (z ++ decs s j d, true) else ([], false)) else ([], false)) := by
  induction d with
  | zero =>
    intro j z hj hz
    refine Ev.step (f := fun k => (impl_GoodRow.f z).bind fun t => if t = true then ((impl_rowBytes.f k z).bind fun u => if u.toList = s.toList then some (z, true) else some (([] : List Int), false)) else some (([] : List Int), false)) (fun k => by simp only [impl_ReadRow.l0]; rw [if_neg (by omega)]) ?_
    rw [show z ++ decs s j 0 = z from List.append_nil z]
    refine Ev.cbind (goodRow_impl z) ?_
    refine Ev.ite (fun _ => ?_) (fun _ => Ev.now _)
    refine Ev.bind (rowBytes_ev z (by omega)) ?_
    exact Ev.ite (fun _ => Ev.now _) (fun _ => Ev.now _)
  | succ d ih =>
    intro j z hj hz
    have h0 := bt_range s (1 + 3 * (j : Int))
    have h1 := bt_range s (1 + 3 * (j : Int) + 1)
    have h2 := bt_range s (1 + 3 * (j : Int) + 2)
    have e : z ++ decs s j (d + 1) = (z ++ [dec s j]) ++ decs s (j + 1) d := by rw [decs_succ, List.append_assoc]; rfl
    rw [e]
    refine Ev.step (f := fun k => impl_ReadRow.l0 k s ((1 + 3 * (j + 1) : Nat) : Int) (z ++ [dec s j])) (fun k => ?_) (ih (j + 1) _ (by omega) (by simp [hz]))
    simp only [impl_ReadRow.l0]
    have c0 : ((1 + 3 * j : Nat) : Int) = 1 + 3 * (j : Int) := by omega
    have c1 : wrap64 (1 + 3 * (j : Int) + 1) = 1 + 3 * (j : Int) + 1 := w64 (by omega) (by omega)
    have c2 : wrap64 (1 + 3 * (j : Int) + 2) = 1 + 3 * (j : Int) + 2 := w64 (by omega) (by omega)
    have c3 : wrap64 (1 + 3 * (j : Int) + 3) = ((1 + 3 * (j + 1) : Nat) : Int) := by rw [w64 (by omega) (by omega)]; omega
    rw [c0, c1, c2, c3, if_pos (by omega), if_pos (by omega), if_pos (by omega), if_pos (by omega), if_pos (by omega), if_pos (by omega), if_pos (by omega)]
    have w : wrap64 (Go.bits .or .i64 (Go.bits .or .i64 (wrap64 (wrap64 (bt s (1 + 3 * (j : Int))) * 65536)) (wrap64 (wrap64 (bt s (1 + 3 * (j : Int) + 1)) * 256))) (wrap64 (bt s (1 + 3 * (j : Int) + 2))) - 100000) = dec s j := by
      unfold dec
      rw [w64 (x := bt s (1 + 3 * (j : Int))) (by omega) (by omega), w64 (x := bt s (1 + 3 * (j : Int) + 1)) (by omega) (by omega), w64 (x := bt s (1 + 3 * (j : Int) + 2)) (by omega) (by omega), w64 (x := bt s (1 + 3 * (j : Int)) * 65536) (by omega) (by omega), w64 (x := bt s (1 + 3 * (j : Int) + 1) * 256) (by omega) (by omega), bits_or _ _ _ h0 h1 h2, w64 (by omega) (by omega)]
    rw [w]

theorem bytesOf_get (s : ByteArray) (i : Nat) (h : i < (bytesOf s).length) : (bytesOf s)[i] = bt s (i : Int) := by
  have := rd_bytesOf s (i : Int)
  rw [← this, rd_lt h]
theorem bytes_drop (s : ByteArray) (m : Nat) (hs : s.size = 1 + 3 * m) (d : Nat) : ∀ j : Nat, j + d = m → (bytesOf s).drop (1 + 3 * j) = (decs s j d).flatMap enc3 := by
  have hl := bytesOf_length s
  induction d with
  | zero =>
    intro j hj
    rw [List.drop_of_length_le (by omega)]; rfl
  | succ d ih =>
    intro j hj
    have h0 := bt_range s (1 + 3 * (j : Int))
    have h1 := bt_range s (1 + 3 * (j : Int) + 1)
    have h2 := bt_range s (1 + 3 * (j : Int) + 2)
    rw [drop_cons (show 1 + 3 * j < (bytesOf s).length by omega), drop_cons (show 1 + 3 * j + 1 < (bytesOf s).length by omega), drop_cons (show 1 + 3 * j + 1 + 1 < (bytesOf s).length by omega)]
    rw [show 1 + 3 * j + 1 + 1 + 1 = 1 + 3 * (j + 1) from by omega, ih (j + 1) (by omega), bytesOf_get, bytesOf_get, bytesOf_get]
    rw [decs_succ, List.flatMap_cons]
    have e3 : enc3 (dec s j) = [bt s (1 + 3 * (j : Int)), bt s (1 + 3 * (j : Int) + 1), bt s (1 + 3 * (j : Int) + 2)] := by
      unfold enc3 dec
      rw [w64 (by omega) (by omega)]
      simp only [List.cons.injEq, and_true]
      refine ⟨by omega, by omega, by omega⟩
    rw [e3]
    simp only [List.cons_append, List.nil_append]
    rw [show ((1 + 3 * j : Nat) : Int) = 1 + 3 * (j : Int) from by omega, show ((1 + 3 * j + 1 : Nat) : Int) = 1 + 3 * (j : Int) + 1 from by omega, show ((1 + 3 * j + 1 + 1 : Nat) : Int) = 1 + 3 * (j : Int) + 2 from by omega]
theorem toList_nums (s : ByteArray) : s.data.toList = (bytesOf s).map fun n => UInt8.ofNat n.toNat := by
  unfold bytesOf
  rw [List.map_map]
  conv => lhs; rw [← List.map_id s.data.toList]
  exact List.map_congr_left fun b _ => by simp
theorem toList_loop (s : ByteArray) (d : Nat) : ∀ (i : Nat) (r : List UInt8), i + d = s.size → ByteArray.toList.loop s i r = r.reverse ++ s.data.toList.drop i := by
  have hl : s.data.toList.length = s.size := by simp
  induction d with
  | zero =>
    intro i r hi
    unfold ByteArray.toList.loop
    rw [if_neg (by omega), List.drop_of_length_le (by omega), List.append_nil]
  | succ d ih =>
    intro i r hi
    have hlt : i < s.data.toList.length := by omega
    unfold ByteArray.toList.loop
    rw [if_pos (by omega), ih (i + 1) _ (by omega), drop_cons hlt, List.reverse_cons, List.append_assoc]
    have : s.get! i = s.data.toList[i] := by
      have h2 : i < s.data.size := by simpa using hlt
      show s.data[i]! = _
      rw [Array.getElem_toList, getElem!_pos s.data i h2]
    rw [this]; rfl
theorem toList_data (s : ByteArray) : s.toList = s.data.toList := by
  unfold ByteArray.toList
  simpa using toList_loop s s.size 0 [] (by omega)

theorem read_both (s : ByteArray) : ∃ v : List Int × Bool, Ev (fun k => spec_ReadRow.f k s) v ∧ Ev (fun k => impl_ReadRow.f k s) v ∧ (v.2 = true → goodRow v.1 = true ∧ strOfNums (rowNums v.1) = s) ∧ v.1.length ≤ 6 ∧ (∀ m : Nat, s.size = 1 + 3 * m → bt s 0 = (m : Int) → goodRow (decs s 0 m) = true → v = (decs s 0 m, true)) := by
  have hb := bt_range s 0
  have dn : Ev (fun k => spec_ReadRow.j0 k s true) (([] : List Int), false) := Ev.step (f := fun _ => some (([] : List Int), false)) (fun k => by simp only [spec_ReadRow.j0]; rw [if_pos trivial]) (Ev.now _)
  have dn2 : Ev (fun k => impl_ReadRow.j0 k s true) (([] : List Int), false) := Ev.step (f := fun _ => some (([] : List Int), false)) (fun k => by simp only [impl_ReadRow.j0]; rw [if_pos trivial]) (Ev.now _)
  have dl : ∀ z : Nat, Ev (fun k => spec_ReadRow.j0 k s false) (([] : List Int), false) ∨ True := fun _ => .inr trivial
  have w3 : wrap64 (1 + wrap64 (3 * wrap64 (bt s 0))) = 1 + 3 * bt s 0 := by
    rw [w64 (x := bt s 0) (by omega) (by omega), w64 (x := 3 * bt s 0) (by omega) (by omega), w64 (by omega) (by omega)]
  by_cases hA : 0 < s.size ∧ (s.size : Int) = 1 + 3 * bt s 0
  · obtain ⟨hp, hA⟩ := hA
    obtain ⟨m, hm⟩ : ∃ m : Nat, bt s 0 = (m : Int) := ⟨(bt s 0).toNat, by omega⟩
    have hsz : s.size = 1 + 3 * m := by omega
    have hlen := decs_len s m 0
    have hsp : Ev (fun k => spec_ReadRow.f k s) (if goodRow (decs s 0 m) = true then (decs s 0 m, true) else ([], false)) := by
      unfold spec_ReadRow.f
      refine Ev.neg (by omega) (Ev.pos (by omega) ?_)
      rw [w3]
      have e : ((s.size : Int) != 1 + 3 * bt s 0) = false := by simp [hA]
      rw [e]
      refine Ev.step (f := fun k => spec_ReadRow.l0 k s 1 []) (fun k => by simp only [spec_ReadRow.j0]; rw [if_neg (by simp)]) ?_
      simpa using spec_l s m hsz (by omega) m 0 [] (by omega) rfl
    by_cases hm6 : m ≤ 6
    · have hbytes : strOfNums (rowNums (decs s 0 m)) = s := by
        apply Go.WideShapes.bytes_inj
        rw [strOfNums_data, toList_nums s]
        congr 1
        have h1 := bytes_drop s m hsz m 0 (by omega)
        have hl := bytesOf_length s
        rw [← List.drop_zero (l := bytesOf s), drop_cons (show 0 < (bytesOf s).length by omega), bytesOf_get]
        rw [show 0 + 1 = 1 + 3 * 0 from rfl, h1]
        unfold rowNums
        rw [hlen]
        have : (m : Int) % 256 = bt s ((0 : Nat) : Int) := by rw [show ((0 : Nat) : Int) = 0 from rfl, hm]; omega
        rw [this]
      have himp : Ev (fun k => impl_ReadRow.f k s) (if goodRow (decs s 0 m) = true then (decs s 0 m, true) else ([], false)) := by
        unfold impl_ReadRow.f
        refine Ev.cbind (in_impl _ _ _) (Ev.pos (by simp; omega) ?_)
        have e : ((s.size : Int) % 3 != 1) = false := by simp; omega
        rw [e]
        refine Ev.step (f := fun k => impl_ReadRow.l0 k s 1 []) (fun k => by simp only [impl_ReadRow.j0]; rw [if_neg (by simp)]) ?_
        have h := impl_l s m hsz hm6 m 0 [] (by omega) rfl
        simpa [hbytes] using h
      refine ⟨_, hsp, himp, ?_⟩
      by_cases g : goodRow (decs s 0 m) = true
      · rw [if_pos g]
        exact ⟨fun _ => ⟨g, hbytes⟩, by show (decs s 0 m).length ≤ 6; omega, fun m' h1 _ _ => (by obtain rfl : m' = m := (by omega); rfl)⟩
      · rw [if_neg g]
        exact ⟨fun hv => (by cases hv), by decide, fun m' h1 _ g' => (by obtain rfl : m' = m := (by omega); exact absurd g' g)⟩
    · have hg : goodRow (decs s 0 m) = false := by unfold goodRow; rw [hlen]; simp; omega
      rw [hg] at hsp
      refine ⟨([], false), by simpa using hsp, ?_, by simp, by decide, fun m' h1 _ g' => absurd g' (by obtain rfl : m' = m := (by omega); rw [hg]; decide)⟩
      unfold impl_ReadRow.f
      refine Ev.cbind (in_impl _ _ _) (Ev.neg (by simp; omega) dn2)
  · refine ⟨([], false), ?_, ?_, by simp, by decide, fun m' h1 h2 _ => absurd ⟨by omega, by omega⟩ hA⟩
    · unfold spec_ReadRow.f
      by_cases h0 : (s.size : Int) = 0
      · exact Ev.pos h0 dn
      · refine Ev.neg h0 (Ev.pos (by omega) ?_)
        rw [w3]
        have e : ((s.size : Int) != 1 + 3 * bt s 0) = true := by simp; omega
        rw [e]; exact dn
    · unfold impl_ReadRow.f
      refine Ev.cbind (in_impl _ _ _) ?_
      by_cases hw : 1 ≤ (s.size : Int) ∧ (s.size : Int) ≤ 19
      · refine Ev.pos (by simpa using hw) ?_
        by_cases h3 : (s.size : Int) % 3 = 1
        · have e : ((s.size : Int) % 3 != 1) = false := by simp [h3]
          rw [e]
          obtain ⟨m, hsz⟩ : ∃ m : Nat, s.size = 1 + 3 * m := ⟨(s.size - 1) / 3, by omega⟩
          refine Ev.step (f := fun k => impl_ReadRow.l0 k s 1 []) (fun k => by simp only [impl_ReadRow.j0]; rw [if_neg (by simp)]) ?_
          have h := impl_l s m hsz (by omega) m 0 [] (by omega) rfl
          have hlen := decs_len s m 0
          have hne : ¬ (strOfNums (rowNums (decs s 0 m))).toList = s.toList := by
            rw [toList_data, toList_data, strOfNums_data, toList_nums s]
            intro he
            have hl := bytesOf_length s
            have h1 := bytes_drop s m hsz m 0 (by omega)
            rw [← List.drop_zero (l := bytesOf s), drop_cons (show 0 < (bytesOf s).length by omega), bytesOf_get] at he
            unfold rowNums at he
            rw [List.map_cons, List.map_cons, hlen] at he
            have h2 := congrArg UInt8.toNat (List.cons.inj he).1
            have hb' : 0 ≤ bt s ((0 : Nat) : Int) ∧ bt s ((0 : Nat) : Int) ≤ 255 := bt_range s _
            rw [UInt8.toNat_ofNat', UInt8.toNat_ofNat'] at h2
            have h3' : bt s ((0 : Nat) : Int) = bt s 0 := rfl
            omega
          refine Ev.eq h ?_
          simp only [List.nil_append]
          rw [if_neg hne]; simp
        · have e : ((s.size : Int) % 3 != 1) = true := by simp [h3]
          rw [e]; exact dn2
      · exact Ev.neg (by simpa using hw) dn2

end Go.Proofs.Ytaddemalepndfai.Pure
