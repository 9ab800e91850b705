/- Written by a program of this claim's own, out of the translation: functions of the program as plain functions, and that the calls answer as these. No conditions. -/
import Derived.Test.YtmelechhnimlnacG0
import Derived.Test.YtmelechhnimlnacXM
import Derived.Test.YtmelechhnimlnacG8
import Derived.Test.YtmelechhnimlnacG9
namespace Go.Proofs.Ytmelechhnimlnac.G
open Go.RowKit Go.Proofs.Ytmelechhnimlnac.X Go.Proofs.YtmelechhnimlnacW.PrintWords Go.Proofs.YtmelechhnimlnacW.PrintLast Go.Proofs.YtmelechhnimlnacW.PrintMore
attribute [local go_sem] max2_int min2_int max_two min_two max_three min_three max_four min_four   -- for this text's walks alone
set_option linter.unusedVariables false
set_option linter.unusedSimpArgs false

/-! ### impl_HoldsIn: function 9 -/
-- map
mutual
def impl_HoldsIn.j0 : Nat → Bool → Int → List (S52) → List Int → List Int → Option (Bool × Bool)
 | 0, _, _, _, _, _ => none
 | k + 1, x22, x261000, x261001, x262000, x262001 => if x22 = true then (some (false, false)) else (impl_HoldsIn.l0 k x261001 (x261001.length : Int) 0 ([] : List (ByteArray × ByteArray)) x262000 x262001)
def impl_HoldsIn.l0 : Nat → List (S52) → Int → Int → List (ByteArray × ByteArray) → List Int → List Int → Option (Bool × Bool)
 | 0, _, _, _, _, _, _ => none
 | k + 1, x25, x26, x27, ms, x262000, x262001 => if x27 < x26 then (if 0 ≤ x27 then (if x27 < (x25.length : Int) then ((impl_Row_picked.f k ((rd_T52 x25 x27).f0.f0) x262000).bind fun t267 => ((impl_rowBytes.f k t267).bind fun t270 => ((impl_Row_picked.f k ((rd_T52 x25 x27).f0.f0) x262001).bind fun t271 => ((impl_rowBytes.f k t271).bind fun t274 => (if hitM ms t270 t274 = true then (some (false, true)) else (impl_HoldsIn.l0 k x25 x26 (wrap64 (x27 + 1)) ((t270, t274) :: ms) x262000 x262001)))))) else (none)) else (none)) else (some (true, true))
end
def impl_HoldsIn.f (k : Nat) (a0_0 : Int) (l0_1 : List (S52)) (l1_0 : List Int) (l1_1 : List Int) : Option (Bool × Bool) := (impl_GoodTable.f k a0_0 l0_1).bind fun t262 => (if t262 = true then ((impl_isDepend.f k l1_0 l1_1 a0_0).bind fun t263 => (impl_HoldsIn.j0 k (!t263) a0_0 l0_1 l1_0 l1_1)) else (impl_HoldsIn.j0 k true a0_0 l0_1 l1_0 l1_1))
theorem impl_HoldsIn.mono_l : ∀ k, (∀ y0 y1 y2 y3 y4, LeO (impl_HoldsIn.j0 k y0 y1 y2 y3 y4) (impl_HoldsIn.j0 (k + 1) y0 y1 y2 y3 y4)) ∧ (∀ y0 y1 y2 y3 y4 y5, LeO (impl_HoldsIn.l0 k y0 y1 y2 y3 y4 y5) (impl_HoldsIn.l0 (k + 1) y0 y1 y2 y3 y4 y5))
 | 0 => ⟨fun _ _ _ _ _ r h => by simp [impl_HoldsIn.j0] at h, fun _ _ _ _ _ _ r h => by simp [impl_HoldsIn.l0] at h⟩
 | k + 1 => by
  obtain ⟨ih0, ih1⟩ := impl_HoldsIn.mono_l k
  refine ⟨?_, ?_⟩
  ·intro y0 y1 y2 y3 y4
   unfold impl_HoldsIn.j0
   repeat' first
   | (with_reducible exact ih0 _ _ _ _ _)
   | (with_reducible exact ih1 _ _ _ _ _ _)
   | (with_reducible exact impl_GoodTable.mono _ _ _)
   | (with_reducible exact impl_Row_picked.mono _ _ _)
   | (with_reducible exact impl_isDepend.mono _ _ _ _)
   | (with_reducible exact impl_rowBytes.mono _ _)
   | (with_reducible exact LeO.refl _)
   | (with_reducible exact LeO.none _)
   | (with_reducible refine LeO.ite ?_ ?_)
   | (with_reducible refine LeO.bind ?_ (fun _ => ?_))
   | exact ih0 _ _ _ _ _
   | exact ih1 _ _ _ _ _ _
   | exact impl_GoodTable.mono _ _ _
   | exact impl_Row_picked.mono _ _ _
   | exact impl_isDepend.mono _ _ _ _
   | exact impl_rowBytes.mono _ _
   | exact LeO.none _
   | refine LeO.ite ?_ ?_
   | refine LeO.bind ?_ (fun _ => ?_)
  ·intro y0 y1 y2 y3 y4 y5
   unfold impl_HoldsIn.l0
   repeat' first
   | (with_reducible exact ih0 _ _ _ _ _)
   | (with_reducible exact ih1 _ _ _ _ _ _)
   | (with_reducible exact impl_GoodTable.mono _ _ _)
   | (with_reducible exact impl_Row_picked.mono _ _ _)
   | (with_reducible exact impl_isDepend.mono _ _ _ _)
   | (with_reducible exact impl_rowBytes.mono _ _)
   | (with_reducible exact LeO.refl _)
   | (with_reducible exact LeO.none _)
   | (with_reducible refine LeO.ite ?_ ?_)
   | (with_reducible refine LeO.bind ?_ (fun _ => ?_))
   | exact ih0 _ _ _ _ _
   | exact ih1 _ _ _ _ _ _
   | exact impl_GoodTable.mono _ _ _
   | exact impl_Row_picked.mono _ _ _
   | exact impl_isDepend.mono _ _ _ _
   | exact impl_rowBytes.mono _ _
   | exact LeO.none _
   | refine LeO.ite ?_ ?_
   | refine LeO.bind ?_ (fun _ => ?_)
theorem impl_HoldsIn.mono : ∀ a0 a1 a2 a3 k, LeO (impl_HoldsIn.f k a0 a1 a2 a3) (impl_HoldsIn.f (k + 1) a0 a1 a2 a3) := by
 intro a0 a1 a2 a3 k
 obtain ⟨ih0, ih1⟩ := impl_HoldsIn.mono_l k
 unfold impl_HoldsIn.f
 repeat' first
   | (with_reducible exact ih0 _ _ _ _ _)
   | (with_reducible exact ih1 _ _ _ _ _ _)
   | (with_reducible exact impl_GoodTable.mono _ _ _)
   | (with_reducible exact impl_Row_picked.mono _ _ _)
   | (with_reducible exact impl_isDepend.mono _ _ _ _)
   | (with_reducible exact impl_rowBytes.mono _ _)
   | (with_reducible exact LeO.refl _)
   | (with_reducible exact LeO.none _)
   | (with_reducible refine LeO.ite ?_ ?_)
   | (with_reducible refine LeO.bind ?_ (fun _ => ?_))
   | exact ih0 _ _ _ _ _
   | exact ih1 _ _ _ _ _ _
   | exact impl_GoodTable.mono _ _ _
   | exact impl_Row_picked.mono _ _ _
   | exact impl_isDepend.mono _ _ _ _
   | exact impl_rowBytes.mono _ _
   | exact LeO.none _
   | refine LeO.ite ?_ ?_
   | refine LeO.bind ?_ (fun _ => ?_)
theorem impl_rowBytes.size_l : ∀ (k : Nat) (a b : List Int) (c d : Int) (s : ByteArray), impl_rowBytes.l0 k a b c d = some s → a.length ≤ 140737488355328 → s.size ≤ 140737488355328
  | 0, a, b, c, d, s, h, ha => by simp [impl_rowBytes.l0] at h
  | k + 1, a, b, c, d, s, h, ha => by
    simp only [impl_rowBytes.l0, Option.bind_some] at h
    split at h
    · split at h
      · split at h
        · split at h
          · rename_i q
            exact impl_rowBytes.size_l k _ b c _ s h (by rw [List.length_append]; exact Nat.le_of_lt q)
          · cases h
        · cases h
      · cases h
    · obtain rfl := Option.some.inj h
      show (strOfNums a).data.size ≤ _
      simp only [strOfNums, List.size_toArray, List.length_map]
      exact ha
theorem impl_rowBytes.size {k : Nat} {a : List Int} {s : ByteArray} (h : impl_rowBytes.f k a = some s) : s.size ≤ maxLen := Nat.le_trans (impl_rowBytes.size_l k _ _ _ _ s h (by simp)) (by decide)
theorem impl_HoldsIn.zeroE (w : World) : (zeroValue 9).run Try.prog w = .ok (.string ⟨#[]⟩) w := by kernel_rfl
def impl_HoldsIn.T7 : Bool × List (List Nat × List Nat) := (true, [([], []), ([0], [0]), ([], []), ([2], [2]), ([1, 3], [1, 3]), ([4, 4], [4]), ([], []), ([6], [6]), ([], []), ([8], [8]), ([7, 9, 5], [7, 9]), ([10, 10], [10]), ([5, 11, 0, 1, 2, 3, 4, 5], [5]), ([11, 12, 0, 1, 2, 3, 4, 5, 6, 7, 8, 9, 10, 11, 12], [11])])
def impl_HoldsIn.B7 : List Nat := [0, 1, 0, 4, 15, 31, 0, 64, 0, 256, 1023, 2047, 4095, 8191]
theorem impl_HoldsIn.tab7 : rtab .any (opsOf Try.f9 7) = impl_HoldsIn.T7 := by kernel_rfl
theorem impl_HoldsIn.bits7 : waitsOk impl_HoldsIn.T7.2 impl_HoldsIn.B7 = true := by kernel_rfl
set_option maxHeartbeats 8000000 in
set_option maxRecDepth 100000 in
theorem impl_HoldsIn.calls (k : Nat) (a0_0 : Int) (A0_1 : Option Addr) (c0_1 : Nat) (l0_1 : List (S52)) (A1_0 : Option Addr) (c1_0 : Nat) (l1_0 : List Int) (A1_1 : Option Addr) (c1_1 : Nat) (l1_1 : List Int) (r1 : Bool) (r2 : Bool) (w : World) (hr0_1 : Kd.C k52 w A0_1 l0_1.length l0_1) (hc0_1 : l0_1.length ≤ c0_1) (hr1_0 : Kd.C (Kd.int .i64) w A1_0 l1_0.length l1_0) (hc1_0 : l1_0.length ≤ c1_0) (hr1_1 : Kd.C (Kd.int .i64) w A1_1 l1_1.length l1_1) (hc1_1 : l1_1.length ≤ c1_1) (h : impl_HoldsIn.f k a0_0 l0_1 l1_0 l1_1 = some (r1, r2)) :
  Calls Try.prog 9 #[.agg #[.int .i64 a0_0, .slice A0_1 l0_1.length c0_1], .agg #[.slice A1_0 l1_0.length c1_0, .slice A1_1 l1_1.length c1_1]] w fun e w' => e = .returned (.tuple #[.bool r1, .bool r2]) ∧ Below w.heap.size w w' := by
 have hu34 := Try.underlying34
 have hu36 := Try.underlying36
 have hu50 := Try.underlying50
 have hu52 := Try.underlying52
 have HR0_1 := xm hr0_1
 have HC0_1 := xm hc0_1
 clear hr0_1 hc0_1
 have HR1_0 := xm hr1_0
 have HC1_0 := xm hc1_0
 clear hr1_0 hc1_0
 have HR1_1 := xm hr1_1
 have HC1_1 := xm hc1_1
 clear hr1_1 hc1_1
 have HB := xm (Below.refl w.heap.size w)
 have H : ((impl_GoodTable.f k a0_0 l0_1).bind fun t262 => (if t262 = true then ((impl_isDepend.f k l1_0 l1_1 a0_0).bind fun t263 => (impl_HoldsIn.j0 k (!t263) a0_0 l0_1 l1_0 l1_1)) else (impl_HoldsIn.j0 k true a0_0 l0_1 l1_0 l1_1))) = some (r1, r2) := h
 clear h
 have HC3 := xm H
 clear H
 go_enter Try.func9, Try.ntmps9
 go_upto_region 1 with (first | ((with_reducible refine gate_dst (N := 2) rfl ?_); refine box_event ?hg (N := 2) ?hd (cs := #[.int .i64 a0_0, .slice A0_1 l0_1.length c0_1]) (t := 34) ?hr ?_; (case hd => rfl); (case hg => rfl); (case hr => exact zB); intro gb260 hg w4 hbox hb; have n0_ := xm (below_step bB hb); have n1_ := xm (hbox); have n2_ := xm ((by rw [hg]; exact (xz bB) : w.heap.size ≤ gb260)); have n3_ := xm ((by rw [hg]; exact (xz bB) : w.heap.size ≤ gb260)); revert n0_ n1_ n2_ n3_; clear HB; intro HB BK260 GW260 GE260; clear hb hbox hg) | ((with_reducible refine gate_dst (N := 3) rfl ?_); refine box_event ?hg (N := 3) ?hd (cs := #[.slice A1_0 l1_0.length c1_0, .slice A1_1 l1_1.length c1_1]) (t := 36) ?hr ?_; (case hd => rfl); (case hg => rfl); (case hr => exact zB); intro gb261 hg w5 hbox hb; have n0_ := xm (blk_below (kB BK260) hb); have n1_ := xm (below_step bG hb); have n2_ := xm (hbox); have n3_ := xm ((by rw [hg]; exact (xz bG) : w.heap.size ≤ gb261)); have n4_ := xm ((by rw [hg]; exact (xz bG) : w.heap.size ≤ gb261)); have n5_ := xm ((by rw [hg]; exact Nat.ne_of_lt (blk_lt (kB BK260)) : gb260 ≠ gb261)); have n6_ := xm ((by rw [hg]; exact Nat.ne_of_gt (blk_lt (kB BK260)) : gb261 ≠ gb260)); revert n0_ n1_ n2_ n3_ n4_ n5_ n6_; clear BK260 HB; intro BK260 HB BK261 GW261 GE261 NB260_261 NB261_260; clear hb hbox hg))
 (try simp only [Act.put, xi, xj, xk])
 go_cut [22] (fun v22 wc => ∃ (kq : Nat) (x22_2 : Bool), v22 = .bool x22_2 ∧ Aside0 (impl_HoldsIn.j0 kq x22_2 a0_0 l0_1 l1_0 l1_1 = some (r1, r2)) ∧ Aside0 (kq ≤ k) ∧ Aside0 (wc.heap[gb260]? = some (.cells #[.int .i64 a0_0, (.slice A0_1 l0_1.length c0_1)] 34 (0, 0))) ∧ Aside0 (wc.heap[gb261]? = some (.cells #[(.slice A1_0 l1_0.length c1_0), (.slice A1_1 l1_1.length c1_1)] 36 (0, 0))) ∧ Aside0 (Below w.heap.size w wc))
 case first =>
  have H := HC3.out
  clear HC3
  replace H := Option.bind_eq_some_iff.mp H
  obtain ⟨t262, A60, H⟩ := H
  replace H : (if t262 = true then ((impl_isDepend.f k l1_0 l1_1 a0_0).bind fun t263 => (impl_HoldsIn.j0 k (!t263) a0_0 l0_1 l1_0 l1_1)) else (impl_HoldsIn.j0 k true a0_0 l0_1 l1_0 l1_1)) = some (r1, r2) := H
  have A6 := xm A60
  clear A60
  by_cases c7 : t262 = true
  ·subst c7
   have H1 : ((impl_isDepend.f k l1_0 l1_1 a0_0).bind fun t263 => (impl_HoldsIn.j0 k (!t263) a0_0 l0_1 l1_0 l1_1)) = some (r1, r2) := by first | (with_reducible rfl) | (rw [if_pos rfl] at H; exact H)
   clear H
   have H := H1
   clear H1
   replace H := Option.bind_eq_some_iff.mp H
   obtain ⟨t263, A80, H⟩ := H
   replace H : (impl_HoldsIn.j0 k (!t263) a0_0 l0_1 l1_0 l1_1) = some (r1, r2) := H
   have A8 := xm A80
   clear A80
   have H' := xm H
   clear H
   have hnb9 := NB260_261.out
   have hnc9 := NB261_260.out
   obtain ⟨hcz10_0, hcz10_1, hfz10_0, hfz10_1⟩ := cz2 BK260.out
   go_wp2_with (first | ((with_reducible refine gate_callee (f := 19) rfl ?_); refine goesL_ (some 14) rfl rfl Try.func19 (by kernel_rfl) rfl #[.agg #[.int .i64 a0_0, .slice A0_1 l0_1.length c0_1]] rfl mB ?_; (with_reducible refine (impl_GoodTable.calls k a0_0 _ _ l0_1 true _ ?side1 ?side2 A6.out).mono ?_); (case side1 => exact cB (Kd.C_below HR0_1.out HB.out)); (case side2 => exact HC0_1.out); rintro e w11 ⟨rfl, hb⟩; refine ⟨_, rfl, ?_⟩; have n0_ := xm (blk_below (kB BK260) hb); have n1_ := xm (blk_below (kB BK261) hb); have n2_ := xm (below_step bG hb); revert n0_ n1_ n2_; clear BK260 BK261 HB; intro BK260 BK261 HB; (try clear hb); obtain ⟨hcz12_0, hcz12_1, hfz12_0, hfz12_1⟩ := cz2 BK261.out; obtain ⟨hcz13_0, hcz13_1, hfz13_0, hfz13_1⟩ := cz2 BK260.out) | (go_at_call 20; (with_reducible refine (impl_isDepend.calls k _ _ l1_0 _ _ l1_1 a0_0 t263 _ ?side1 ?side2 ?side3 ?side4 A8.out).mono ?_); (case side1 => exact cB (Kd.C_below HR1_0.out HB.out)); (case side2 => exact HC1_0.out); (case side3 => exact cB (Kd.C_below HR1_1.out HB.out)); (case side4 => exact HC1_1.out); rintro e w14 ⟨rfl, hb⟩; have n0_ := xm (blk_below (kB BK260) hb); have n1_ := xm (blk_below (kB BK261) hb); have n2_ := xm (below_step bG hb); revert n0_ n1_ n2_; clear BK260 BK261 HB; intro BK260 BK261 HB; (try clear hb)))
   go_meet
   case rel => exact ⟨_, (!t263), sB, H', ⟨by first | omega | exact Nat.le_refl _⟩, ⟨kB BK260⟩, ⟨kB BK261⟩, ⟨bG⟩⟩
  ·replace c7 := Bool.eq_false_iff.mpr c7
   subst c7
   have H1 : (impl_HoldsIn.j0 k true a0_0 l0_1 l1_0 l1_1) = some (r1, r2) := by first | (with_reducible rfl) | (rw [if_neg (show ¬ (false = true) by decide)] at H; exact H)
   clear H
   have H := H1
   clear H1
   have H' := xm H
   clear H
   have hnb15 := NB260_261.out
   have hnc15 := NB261_260.out
   obtain ⟨hcz16_0, hcz16_1, hfz16_0, hfz16_1⟩ := cz2 BK260.out
   go_wp2_with (first | ((with_reducible refine gate_callee (f := 19) rfl ?_); refine goesL_ (some 14) rfl rfl Try.func19 (by kernel_rfl) rfl #[.agg #[.int .i64 a0_0, .slice A0_1 l0_1.length c0_1]] rfl mB ?_; (with_reducible refine (impl_GoodTable.calls k a0_0 _ _ l0_1 false _ ?side1 ?side2 A6.out).mono ?_); (case side1 => exact cB (Kd.C_below HR0_1.out HB.out)); (case side2 => exact HC0_1.out); rintro e w17 ⟨rfl, hb⟩; refine ⟨_, rfl, ?_⟩; have n0_ := xm (blk_below (kB BK260) hb); have n1_ := xm (blk_below (kB BK261) hb); have n2_ := xm (below_step bG hb); revert n0_ n1_ n2_; clear BK260 BK261 HB; intro BK260 BK261 HB; (try clear hb)))
   go_meet
   case rel => exact ⟨_, (true), sB, H', ⟨by first | omega | exact Nat.le_refl _⟩, ⟨kB BK260⟩, ⟨kB BK261⟩, ⟨bG⟩⟩
 case rest =>
  clear HC3
  try clear c1
  try clear p2
  try clear c7
  try clear c9
  try clear c15
  try clear hcz10_0 hcz10_1
  try clear hcz12_0 hcz12_1
  try clear hcz13_0 hcz13_1
  try clear hcz16_0 hcz16_1
  try clear hfz10_0 hfz10_1
  try clear hfz12_0 hfz12_1
  try clear hfz13_0 hfz13_1
  try clear hfz16_0 hfz16_1
  obtain ⟨kq, x22_2, rfl, HA, HJ2, BK260, BK261, HB⟩ := hcut
  cases kq with
  | zero => exact absurd HA.out (by simp [impl_HoldsIn.j0])
  | succ kj2 =>
   have H := HA.out
   clear HA
   simp only [impl_HoldsIn.j0] at H
   by_cases c18 : x22_2 = true
   ·subst c18
    have H1 : (some (false, false)) = some (r1, r2) := by first | (with_reducible rfl) | (rw [if_pos rfl] at H; exact H)
    clear H
    have H := H1
    clear H1
    simp only [Option.some.injEq, Prod.mk.injEq] at H
    obtain ⟨rfl, rfl⟩ := H
    go_wp2
    go_ret2
    exact ⟨eB, bG⟩
   ·replace c18 := Bool.eq_false_iff.mpr c18
    subst c18
    have H1 : (impl_HoldsIn.l0 kj2 l0_1 (l0_1.length : Int) 0 ([] : List (ByteArray × ByteArray)) l1_0 l1_1) = some (r1, r2) := by first | (with_reducible rfl) | (rw [if_neg (show ¬ (false = true) by decide)] at H; exact H)
    clear H
    have H := H1
    clear H1
    have H' := xm H
    clear H
    go_wp2_with (first | ((with_reducible refine gate_dst (N := 23) rfl ?_); refine map_event ?hg (N := 23) ?hd ?hr ?_; (case hd => rfl); (case hg => rfl); (case hr => first | rfl | exact zB); intro gb264 hg w19 hbox hb; have n0_ := xm (blk_below (kB BK260) hb); have n1_ := xm (blk_below (kB BK261) hb); have n2_ := xm (below_step bG hb); have n3_ := xm (hbox); have n4_ := xm ((by rw [hg]; exact (xz bG) : w.heap.size ≤ gb264)); have n5_ := xm ((by rw [hg]; exact (xz bG) : w.heap.size ≤ gb264)); have n6_ := xm ((by rw [hg]; exact Nat.ne_of_lt (blk_lt (kB BK260)) : gb260 ≠ gb264)); have n7_ := xm ((by rw [hg]; exact Nat.ne_of_gt (blk_lt (kB BK260)) : gb264 ≠ gb260)); have n8_ := xm ((by rw [hg]; exact Nat.ne_of_lt (blk_lt (kB BK261)) : gb261 ≠ gb264)); have n9_ := xm ((by rw [hg]; exact Nat.ne_of_gt (blk_lt (kB BK261)) : gb264 ≠ gb261)); revert n0_ n1_ n2_ n3_ n4_ n5_ n6_ n7_ n8_ n9_; clear BK260 BK261 HB; intro BK260 BK261 HB BK264 GW264 GE264 NB260_264 NB264_260 NB261_264 NB264_261; clear hb hbox hg; have hnb20 := NB260_261.out; have hnc20 := NB261_260.out; have hnb21 := NB260_264.out; have hnc21 := NB264_260.out; obtain ⟨hcz22_0, hcz22_1, hfz22_0, hfz22_1⟩ := cz2 BK260.out))
    go_loopg [27] kj2 (fun kq v27 w' => ∃ (x27_2 : Int) (ms : List (ByteArray × ByteArray)) (es : Array MapEntry) (ck : Nat), v27 = .int .i64 x27_2 ∧ Aside0 (impl_HoldsIn.l0 kq l0_1 (l0_1.length : Int) x27_2 ms l1_0 l1_1 = some (r1, r2)) ∧ Aside0 (kq ≤ kj2) ∧ Aside0 (w'.heap[gb260]? = some (.cells #[.int .i64 a0_0, (.slice A0_1 l0_1.length c0_1)] 34 (0, 0))) ∧ Aside0 (w'.heap[gb261]? = some (.cells #[(.slice A1_0 l1_0.length c1_0), (.slice A1_1 l1_1.length c1_1)] 36 (0, 0))) ∧ Aside0 (w'.heap[gb264]? = some (.map es ck)) ∧ Aside0 (FitM Try.prog 9 9 es ck ms) ∧ Aside0 ((ms.length : Int) ≤ x27_2) ∧ Aside0 (Below w.heap.size w w'))
    case atStart => exact ⟨(0), [], #[], 0, sB, H', ⟨Nat.le_refl _⟩, ⟨kB BK260⟩, ⟨kB BK261⟩, ⟨kB BK264⟩, ⟨fitM_nil _ _ _⟩, ⟨by simp⟩, ⟨bG⟩⟩
    case round =>
     clear H'
     try clear c1
     try clear c2
     try clear p2
     try clear c7
     try clear c9
     try clear c15
     try clear c18
     try clear c19
     try clear c20
     try clear c21
     try clear hcz10_0 hcz10_1
     try clear hcz12_0 hcz12_1
     try clear hcz13_0 hcz13_1
     try clear hcz16_0 hcz16_1
     try clear hcz22_0 hcz22_1
     try clear hfz10_0 hfz10_1
     try clear hfz12_0 hfz12_1
     try clear hfz13_0 hfz13_1
     try clear hfz16_0 hfz16_1
     try clear hfz22_0 hfz22_1
     try clear p2
     obtain ⟨x27_2, ms, es, ck, rfl, HA, HK2, BK260, BK261, BK264, FM, HML, HB⟩ := hrel
     cases gk with
     | zero => exact absurd HA.out (by simp [impl_HoldsIn.l0])
     | succ k2 =>
      have H := HA.out
      clear HA
      simp only [impl_HoldsIn.l0] at H
      by_cases c23 : x27_2 < (l0_1.length : Int)
      ·rw [if_pos c23] at H
       have c23b0 : decide (x27_2 < (l0_1.length : Int)) = true := decide_eq_true c23
       clear c23
       by_cases c24 : 0 ≤ x27_2
       ·rw [if_pos c24] at H
        have c24b0 : decide (0 ≤ x27_2) = true := decide_eq_true c24
        clear c24
        by_cases c25 : x27_2 < (l0_1.length : Int)
        ·rw [if_pos c25] at H
         have c25b0 : decide (x27_2 < (l0_1.length : Int)) = true := decide_eq_true c25
         clear c25
         replace H := Option.bind_eq_some_iff.mp H
         obtain ⟨t267, A260, H⟩ := H
         replace H : ((impl_rowBytes.f k2 t267).bind fun t270 => ((impl_Row_picked.f k2 ((rd_T52 l0_1 x27_2).f0.f0) l1_1).bind fun t271 => ((impl_rowBytes.f k2 t271).bind fun t274 => (if hitM ms t270 t274 = true then (some (false, true)) else (impl_HoldsIn.l0 k2 l0_1 (l0_1.length : Int) (wrap64 (x27_2 + 1)) ((t270, t274) :: ms) l1_0 l1_1))))) = some (r1, r2) := H
         have A26 := xm A260
         clear A260
         replace H := Option.bind_eq_some_iff.mp H
         obtain ⟨t270, A270, H⟩ := H
         replace H : ((impl_Row_picked.f k2 ((rd_T52 l0_1 x27_2).f0.f0) l1_1).bind fun t271 => ((impl_rowBytes.f k2 t271).bind fun t274 => (if hitM ms t270 t274 = true then (some (false, true)) else (impl_HoldsIn.l0 k2 l0_1 (l0_1.length : Int) (wrap64 (x27_2 + 1)) ((t270, t274) :: ms) l1_0 l1_1)))) = some (r1, r2) := H
         have A27 := xm A270
         clear A270
         replace H := Option.bind_eq_some_iff.mp H
         obtain ⟨t271, A280, H⟩ := H
         replace H : ((impl_rowBytes.f k2 t271).bind fun t274 => (if hitM ms t270 t274 = true then (some (false, true)) else (impl_HoldsIn.l0 k2 l0_1 (l0_1.length : Int) (wrap64 (x27_2 + 1)) ((t270, t274) :: ms) l1_0 l1_1))) = some (r1, r2) := H
         have A28 := xm A280
         clear A280
         replace H := Option.bind_eq_some_iff.mp H
         obtain ⟨t274, A290, H⟩ := H
         replace H : (if hitM ms t270 t274 = true then (some (false, true)) else (impl_HoldsIn.l0 k2 l0_1 (l0_1.length : Int) (wrap64 (x27_2 + 1)) ((t270, t274) :: ms) l1_0 l1_1)) = some (r1, r2) := H
         have A29 := xm A290
         clear A290
         cases hq : mget ms t270 with
         | none =>
          rw [if_neg (show ¬ (hitM ms t270 t274 = true) from fun q => by unfold hitM at q; rw [hq] at q; cases q)] at H
          have HQ := xm hq
          clear hq
          have H' := xm H
          clear H
          have p265 : 0 ≤ (x27_2 : Int) := of_decide_eq_true aB
          have q265 : x27_2 < (l0_1.length : Int) := of_decide_eq_true aB
          have HX := xm (show (0 ≤ x27_2 ∧ x27_2 < (l0_1.length : Int)) ∧ (l0_1.length : Int) ≤ 9223372036854775807 from ⟨⟨p265, q265⟩, by have := HR0_1.out.2.1; omega⟩)
          have HN := xm (show ms.length < maxLen from by have := HX.out; have := HML.out; unfold maxLen; omega)
          have HS1 := xm (impl_rowBytes.size A27.out)
          have HS2 := xm (impl_rowBytes.size A29.out)
          obtain ⟨ad265, A265_0, c265_0, e265, hx265_0, hx265_1, hl265_0, hi265_0⟩ := at_T52 HR0_1.out x27_2 p265 q265
          cases e265
          replace hx265_0 := hU hx265_0
          replace hx265_1 := hU hx265_1
          have HR265_0 := xm hi265_0
          have HC265_0 := xm hl265_0
          clear hi265_0 hl265_0
          replace p265 := eq_true p265
          replace q265 := eq_true q265
          try go_wp2_with (first | ((with_reducible refine gate_dst (N := 8) rfl ?_); refine box_event ?hg (N := 8) ?hd (cs := #[.slice none 0 0, .int .i64 0]) (t := 52) ?hr ?_; (case hd => rfl); (case hg => rfl); (case hr => exact zB); intro gb266 hg w31 hbox hb; have n0_ := xm (blk_below (kB BK260) hb); have n1_ := xm (blk_below (kB BK261) hb); have n2_ := xm (blk_below (kB BK264) hb); have n3_ := xm (below_step bG hb); have n4_ := xm (hbox); have n5_ := xm ((by rw [hg]; exact (xz bG) : w.heap.size ≤ gb266)); have n6_ := xm ((by rw [hg]; exact (xz bG) : w.heap.size ≤ gb266)); have n7_ := xm ((by rw [hg]; exact Nat.ne_of_lt (blk_lt (kB BK260)) : gb260 ≠ gb266)); have n8_ := xm ((by rw [hg]; exact Nat.ne_of_gt (blk_lt (kB BK260)) : gb266 ≠ gb260)); have n9_ := xm ((by rw [hg]; exact Nat.ne_of_lt (blk_lt (kB BK261)) : gb261 ≠ gb266)); have n10_ := xm ((by rw [hg]; exact Nat.ne_of_gt (blk_lt (kB BK261)) : gb266 ≠ gb261)); have n11_ := xm ((by rw [hg]; exact Nat.ne_of_lt (blk_lt (kB BK264)) : gb264 ≠ gb266)); have n12_ := xm ((by rw [hg]; exact Nat.ne_of_gt (blk_lt (kB BK264)) : gb266 ≠ gb264)); revert n0_ n1_ n2_ n3_ n4_ n5_ n6_ n7_ n8_ n9_ n10_ n11_ n12_; clear BK260 BK261 BK264 HB; intro BK260 BK261 BK264 HB BK266 GW266 GE266 NB260_266 NB266_260 NB261_266 NB266_261 NB264_266 NB266_264; clear hb hbox hg; have hnb32 := NB266_260.out; have hnc32 := NB260_266.out; have hnb33 := NB266_261.out; have hnc33 := NB261_266.out; have hnb34 := NB266_264.out; have hnc34 := NB264_266.out; obtain ⟨hcz35_0, hcz35_1, hfz35_0, hfz35_1⟩ := cz2 BK266.out))
          have n0_ : Aside0 (((w31.setCell ⟨gb266, 0, none⟩ (.slice A265_0 ((rd_T52 l0_1 x27_2).f0.f0).length c265_0)).setCell ⟨gb266, 1, none⟩ (.int .i64 ((rd_T52 l0_1 x27_2).f1))).heap[gb260]? = some (.cells #[.int .i64 a0_0, .slice (some ad265) l0_1.length c0_1] 34 (0, 0))) := ⟨by (with_reducible repeat (first | refine xq ?_ _ | refine xr ?_ | refine xo ?_ _)); refine blk_far ?_ NB260_266.out _; (with_reducible repeat (first | refine xq ?_ _ | refine xr ?_ | refine xo ?_ _)); refine blk_far ?_ NB260_266.out _; (with_reducible repeat (first | refine xq ?_ _ | refine xr ?_ | refine xo ?_ _)); exact BK260.out⟩
          have n1_ : Aside0 (((w31.setCell ⟨gb266, 0, none⟩ (.slice A265_0 ((rd_T52 l0_1 x27_2).f0.f0).length c265_0)).setCell ⟨gb266, 1, none⟩ (.int .i64 ((rd_T52 l0_1 x27_2).f1))).heap[gb261]? = some (.cells #[.slice A1_0 l1_0.length c1_0, .slice A1_1 l1_1.length c1_1] 36 (0, 0))) := ⟨by (with_reducible repeat (first | refine xq ?_ _ | refine xr ?_ | refine xo ?_ _)); refine blk_far ?_ NB261_266.out _; (with_reducible repeat (first | refine xq ?_ _ | refine xr ?_ | refine xo ?_ _)); refine blk_far ?_ NB261_266.out _; (with_reducible repeat (first | refine xq ?_ _ | refine xr ?_ | refine xo ?_ _)); exact BK261.out⟩
          have n2_ : Aside0 (((w31.setCell ⟨gb266, 0, none⟩ (.slice A265_0 ((rd_T52 l0_1 x27_2).f0.f0).length c265_0)).setCell ⟨gb266, 1, none⟩ (.int .i64 ((rd_T52 l0_1 x27_2).f1))).heap[gb264]? = some (.map es ck)) := ⟨by (with_reducible repeat (first | refine xq ?_ _ | refine xr ?_ | refine xo ?_ _)); refine blk_farO ?_ NB264_266.out _; (with_reducible repeat (first | refine xq ?_ _ | refine xr ?_ | refine xo ?_ _)); refine blk_farO ?_ NB264_266.out _; (with_reducible repeat (first | refine xq ?_ _ | refine xr ?_ | refine xo ?_ _)); exact BK264.out⟩
          have n3_ : Aside0 (((w31.setCell ⟨gb266, 0, none⟩ (.slice A265_0 ((rd_T52 l0_1 x27_2).f0.f0).length c265_0)).setCell ⟨gb266, 1, none⟩ (.int .i64 ((rd_T52 l0_1 x27_2).f1))).heap[gb266]? = some (.cells #[.slice A265_0 ((rd_T52 l0_1 x27_2).f0.f0).length c265_0, .int .i64 ((rd_T52 l0_1 x27_2).f1)] 52 (0, 0))) := ⟨by (with_reducible repeat (first | refine xq ?_ _ | refine xr ?_ | refine xo ?_ _)); refine blk_put (cs := #[.slice A265_0 ((rd_T52 l0_1 x27_2).f0.f0).length c265_0, .int .i64 0]) ?_ 1 _ rfl; (with_reducible repeat (first | refine xq ?_ _ | refine xr ?_ | refine xo ?_ _)); refine blk_put (cs := #[.slice none 0 0, .int .i64 0]) ?_ 0 _ rfl; (with_reducible repeat (first | refine xq ?_ _ | refine xr ?_ | refine xo ?_ _)); exact BK266.out⟩
          have n4_ : Aside0 (Below w.heap.size w ((w31.setCell ⟨gb266, 0, none⟩ (.slice A265_0 ((rd_T52 l0_1 x27_2).f0.f0).length c265_0)).setCell ⟨gb266, 1, none⟩ (.int .i64 ((rd_T52 l0_1 x27_2).f1)))) := ⟨bG⟩
          (try clear BK260)
          (try clear BK261)
          (try clear BK264)
          (try clear BK266)
          (try clear HB)
          generalize ((w31.setCell ⟨gb266, 0, none⟩ (.slice A265_0 ((rd_T52 l0_1 x27_2).f0.f0).length c265_0)).setCell ⟨gb266, 1, none⟩ (.int .i64 ((rd_T52 l0_1 x27_2).f1))) = w36 at n0_ n1_ n2_ n3_ n4_ ⊢
          revert n0_ n1_ n2_ n3_ n4_; intro BK260 BK261 BK264 BK266 HB
          have n0_ := xm (xr BK260.out)
          have n1_ := xm (xr BK261.out)
          have n2_ := xm (xr BK264.out)
          have n3_ := xm (xr BK266.out)
          have n4_ := xm (xd HB.out)
          revert n0_ n1_ n2_ n3_ n4_; clear BK260 BK261 BK264 BK266 HB; intro BK260 BK261 BK264 BK266 HB
          refine start_ (n := 14) (S := fun w' => w'.cell? ⟨gb266, 0, none⟩ = some (.slice A265_0 ((rd_T52 l0_1 x27_2).f0.f0).length c265_0) ∧ w'.cell? ⟨gb266, 1, none⟩ = some (.int .i64 ((rd_T52 l0_1 x27_2).f1)) ∧ w'.cell? ⟨gb261, 0, none⟩ = some (.slice A1_0 l1_0.length c1_0) ∧ w'.cell? ⟨gb261, 1, none⟩ = some (.slice A1_1 l1_1.length c1_1)) (ds := []) #[Z,Z,Z,Z,Z,Z,Z,Z,Z,Z,Z,Z,Z,Z] (by kernel_rfl) rfl rfl ⟨(xc BK266.out 0).trans rfl, (xc BK266.out 1).trans rfl, (xc BK261.out 0).trans rfl, (xc BK261.out 1).trans rfl⟩ (fun hHeld => ?_); refine with_tabW impl_HoldsIn.tab7 impl_HoldsIn.bits7 (fun HT_ HW_ => ?_)
          generalize w36.drew = w37 at BK260 BK261 BK264 BK266 HB hHeld ⊢
          refine pu 0 14 1 ?_
          refine pu 2 14 5 ?_
          refine pu 6 14 69 ?_
          refine pu 8 14 325 ?_
          refine tx 1 14 327 rfl rfl (take_ofW HT_.out HW_.out (by kernel_rfl)) hHeld (by rintro w' ⟨s0, s1, s2, s3⟩; go_simp; with_reducible rfl) ?_
          refine tx 3 14 335 rfl rfl (take_ofW HT_.out HW_.out (by kernel_rfl)) hHeld (by rintro w' ⟨s0, s1, s2, s3⟩; go_simp; with_reducible rfl) ?_
          refine tx 7 14 463 rfl rfl (take_ofW HT_.out HW_.out (by kernel_rfl)) hHeld (by rintro w' ⟨s0, s1, s2, s3⟩; go_simp; with_reducible rfl) ?_
          refine tx 9 14 975 rfl rfl (take_ofW HT_.out HW_.out (by kernel_rfl)) hHeld (by rintro w' ⟨s0, s1, s2, s3⟩; go_simp; with_reducible rfl) ?_
          refine one_ (i := 4) (N := some 35) #[Y,Y,Y,Y,Y,Z,Y,Y,Y,Y,Z,Z,Z,Z] rfl rfl (one_of HT_.out (by kernel_rfl)) (by decide) (fun K hK => ?_)
          refine goes_ Try.func22 (by kernel_rfl) rfl #[.agg #[.slice A265_0 ((rd_T52 l0_1 x27_2).f0.f0).length c265_0], .slice A1_0 l1_0.length c1_0] (by rfl) rfl rfl mB ?_
          with_reducible refine (impl_Row_picked.calls k2 _ _ ((rd_T52 l0_1 x27_2).f0.f0) _ _ l1_0 t267 _ ?side1 ?side2 ?side3 ?side4 A26.out).mono ?_
          (case side1 => exact cB (Kd.C_below HR265_0.out HB.out))
          (case side2 => exact HC265_0.out)
          (case side3 => exact cB (Kd.C_below HR1_0.out HB.out))
          (case side4 => exact HC1_0.out)
          rintro e w38 ⟨v268, rfl, ho0, hb⟩
          refine ⟨_, rfl, ?_⟩
          have n0_ := xm (Kd.R_lower ho0 (xz bG))
          have n1_ := xm (blk_below (kB BK260) hb)
          have n2_ := xm (blk_below (kB BK261) hb)
          have n3_ := xm (blk_below (kB BK264) hb)
          have n4_ := xm (blk_below (kB BK266) hb)
          have n5_ := xm (below_step bG hb)
          revert n0_ n1_ n2_ n3_ n4_ n5_; clear BK260 BK261 BK264 BK266 HB; intro HO269 BK260 BK261 BK264 BK266 HB
          (try clear hb)
          (try clear hb2)
          (try clear hk)
          (try clear hi)
          (try clear ho0)
          obtain ⟨Ao39, co39, eo39⟩ := Kd.R_slice HO269.out
          (first | subst eo39 | (injection eo39 with f1_ f2_ f3_; have f4_ := f1_.symm; have f5_ := f3_.symm; clear f1_ f2_ f3_; subst f4_; subst f5_))
          refine hK.out _ _ ⟨(xc BK266.out 0).trans rfl, (xc BK266.out 1).trans rfl, (xc BK261.out 0).trans rfl, (xc BK261.out 1).trans rfl⟩ (fun hHeld => nC ?_)
          clear hK K
          refine one_ (i := 5) (N := some 36) #[Y,Y,Y,Y,Y,Y,Y,Y,Y,Y,Z,Z,Z,Z] rfl rfl (one_of HT_.out (by kernel_rfl)) (by decide) (fun K hK => ?_)
          refine goes_ Try.func21 (by kernel_rfl) rfl #[.agg #[.slice Ao39 t267.length co39]] (by rfl) rfl rfl mB ?_
          with_reducible refine (impl_rowBytes.calls k2 _ _ t267 t270 _ ?side1 ?side2 A27.out).mono ?_
          (case side1 => repeat (first | exact (Kd.R_reads' HO269.out).2.2 | (with_reducible refine Kd.C_alloc ?_ _) | (with_reducible refine Kd.C_drewN ?_ _) | (with_reducible refine Kd.C_drew ?_)))
          (case side2 => exact (Kd.R_reads' HO269.out).2.1)
          rintro e w40 ⟨rfl, hb⟩
          refine ⟨_, rfl, ?_⟩
          have n0_ := xm (Kd.R_below (rB HO269) hb)
          have n1_ := xm (blk_below (kB BK260) hb)
          have n2_ := xm (blk_below (kB BK261) hb)
          have n3_ := xm (blk_below (kB BK264) hb)
          have n4_ := xm (blk_below (kB BK266) hb)
          have n5_ := xm (below_step bG hb)
          revert n0_ n1_ n2_ n3_ n4_ n5_; clear HO269 BK260 BK261 BK264 BK266 HB; intro HO269 BK260 BK261 BK264 BK266 HB
          (try clear hb)
          (try clear hb2)
          (try clear hk)
          (try clear hi)
          refine hK.out _ _ ⟨(xc BK266.out 0).trans rfl, (xc BK266.out 1).trans rfl, (xc BK261.out 0).trans rfl, (xc BK261.out 1).trans rfl⟩ (fun hHeld => nC ?_)
          clear hK K
          refine one_ (i := 10) (N := some 41) #[Y,Y,Y,Y,Y,Y,Y,Y,Y,Y,Y,Z,Z,Z] rfl rfl (one_of HT_.out (by kernel_rfl)) (by decide) (fun K hK => ?_)
          refine goes_ Try.func22 (by kernel_rfl) rfl #[.agg #[.slice A265_0 ((rd_T52 l0_1 x27_2).f0.f0).length c265_0], .slice A1_1 l1_1.length c1_1] (by rfl) rfl rfl mB ?_
          with_reducible refine (impl_Row_picked.calls k2 _ _ ((rd_T52 l0_1 x27_2).f0.f0) _ _ l1_1 t271 _ ?side1 ?side2 ?side3 ?side4 A28.out).mono ?_
          (case side1 => exact cB (Kd.C_below HR265_0.out HB.out))
          (case side2 => exact HC265_0.out)
          (case side3 => exact cB (Kd.C_below HR1_1.out HB.out))
          (case side4 => exact HC1_1.out)
          rintro e w41 ⟨v272, rfl, ho0, hb⟩
          refine ⟨_, rfl, ?_⟩
          have n0_ := xm (Kd.R_elder' (rB HO269) (Kd.R_base ho0) hb)
          have n1_ := xm (Kd.R_lower (Kd.R_new' ho0 (Kd.R_lt (rB HO269))) (xz bG))
          have n2_ := xm (blk_below (kB BK260) hb)
          have n3_ := xm (blk_below (kB BK261) hb)
          have n4_ := xm (blk_below (kB BK264) hb)
          have n5_ := xm (blk_below (kB BK266) hb)
          have n6_ := xm (below_step bG hb)
          revert n0_ n1_ n2_ n3_ n4_ n5_ n6_; clear HO269 BK260 BK261 BK264 BK266 HB; intro HO269 HO273 BK260 BK261 BK264 BK266 HB
          (try clear hb)
          (try clear hb2)
          (try clear hk)
          (try clear hi)
          (try clear ho0)
          obtain ⟨Ao42, co42, eo42⟩ := Kd.R_slice HO273.out
          (first | subst eo42 | (injection eo42 with f1_ f2_ f3_; have f4_ := f1_.symm; have f5_ := f3_.symm; clear f1_ f2_ f3_; subst f4_; subst f5_))
          refine hK.out _ _ ⟨(xc BK266.out 0).trans rfl, (xc BK266.out 1).trans rfl, (xc BK261.out 0).trans rfl, (xc BK261.out 1).trans rfl⟩ (fun hHeld => nC ?_)
          clear hK K
          refine one_ (i := 11) (N := some 42) #[Y,Y,Y,Y,Y,Y,Y,Y,Y,Y,Y,Y,Z,Z] rfl rfl (one_of HT_.out (by kernel_rfl)) (by decide) (fun K hK => ?_)
          refine goes_ Try.func21 (by kernel_rfl) rfl #[.agg #[.slice Ao42 t271.length co42]] (by rfl) rfl rfl mB ?_
          with_reducible refine (impl_rowBytes.calls k2 _ _ t271 t274 _ ?side1 ?side2 A29.out).mono ?_
          (case side1 => repeat (first | exact (Kd.R_reads' HO273.out).2.2 | (with_reducible refine Kd.C_alloc ?_ _) | (with_reducible refine Kd.C_drewN ?_ _) | (with_reducible refine Kd.C_drew ?_)))
          (case side2 => exact (Kd.R_reads' HO273.out).2.1)
          rintro e w43 ⟨rfl, hb⟩
          refine ⟨_, rfl, ?_⟩
          have n0_ := xm (Kd.R_below (rB HO269) hb)
          have n1_ := xm (Kd.R_below (rB HO273) hb)
          have n2_ := xm (blk_below (kB BK260) hb)
          have n3_ := xm (blk_below (kB BK261) hb)
          have n4_ := xm (blk_below (kB BK264) hb)
          have n5_ := xm (blk_below (kB BK266) hb)
          have n6_ := xm (below_step bG hb)
          revert n0_ n1_ n2_ n3_ n4_ n5_ n6_; clear HO269 HO273 BK260 BK261 BK264 BK266 HB; intro HO269 HO273 BK260 BK261 BK264 BK266 HB
          (try clear hb)
          (try clear hb2)
          (try clear hk)
          (try clear hi)
          refine hK.out _ _ ⟨(xc BK266.out 0).trans rfl, (xc BK266.out 1).trans rfl, (xc BK261.out 0).trans rfl, (xc BK261.out 1).trans rfl⟩ (fun hHeld => nC ?_)
          clear hK K
          refine pu 12 14 8191 ?_
          refine pu 13 14 16383 ?_
          refine done_ (done_of HT_.out (by kernel_rfl)) ?_
          go_wp2_with (first | ((with_reducible refine gate_dst (N := 46) rfl ?_); refine look_event ?hgx (.tmp 44) (.tmp 45) 48 9 9 ?hop Try.underlying48 Try.underlying9 Try.underlying9 (impl_HoldsIn.zeroE _) t270 ?hm ?hx (kB BK264) FM.out HS1.out (.tuple #[.string ⟨#[]⟩, .bool false]) (by rw [HQ.out]; rfl) ?_; (case hgx => rfl); (case hop => rfl); (case hm => first | rfl | exact zB); (case hx => first | rfl | exact zB)) | ((with_reducible refine gate_upd (t := 48) rfl ?_); refine upd_event ?hgx (.tmp 55) (.tmp 56) (.tmp 57) 48 9 9 ?hop Try.underlying48 Try.underlying9 Try.underlying9 t270 t274 ?hm ?hx ?hv (kB BK264) FM.out HS1.out HS2.out HN.out ?_; (case hgx => rfl); (case hop => rfl); (case hm => first | rfl | exact zB); (case hx => first | rfl | exact zB); (case hv => first | rfl | exact zB); intro w_u es2 ck2 hbm hF2 hgr; have n0_ := xm (blk_grw (kB BK260) hgr NB260_264.out); have n1_ := xm (blk_grw (kB BK261) hgr NB261_264.out); have n2_ := xm hbm; have n3_ := xm hF2; have n4_ := xm (below_grw bG hgr GE264.out); revert n0_ n1_ n2_ n3_ n4_; clear BK260 BK261 BK264 FM HB; intro BK260 BK261 BK264 FM HB; clear hbm hF2 hgr))
          go_roundg k2
          case measure => have := HJ2.out; have := HK2.out; omega
          case rel => exact ⟨(wrap64 (x27_2 + 1)), (t270, t274) :: ms, _, _, sB, H', ⟨by have := HJ2.out; have := HK2.out; omega⟩, ⟨kB BK260⟩, ⟨kB BK261⟩, ⟨kB BK264⟩, FM, ⟨by have := HX.out; have := HML.out; simp only [List.length_cons]; unfold wrap64; omega⟩, ⟨bG⟩⟩
         | some old =>
          have HQ := xm hq
          have hh : hitM ms t270 t274 = (old.toList != t274.toList) := by unfold hitM; rw [hq]
          clear hq
          rw [hh] at H
          clear hh
          by_cases c30 : old.toList = t274.toList
          ·have c30b0 : (old.toList == t274.toList) = true := beq_iff_eq.mpr c30
           have c30b1 : (old.toList != t274.toList) = false := bne_eq_false_iff_eq.mpr c30
           clear c30
           rw [if_neg (by rw [c30b1]; decide)] at H
           have H' := xm H
           clear H
           have p265 : 0 ≤ (x27_2 : Int) := of_decide_eq_true aB
           have q265 : x27_2 < (l0_1.length : Int) := of_decide_eq_true aB
           have HX := xm (show (0 ≤ x27_2 ∧ x27_2 < (l0_1.length : Int)) ∧ (l0_1.length : Int) ≤ 9223372036854775807 from ⟨⟨p265, q265⟩, by have := HR0_1.out.2.1; omega⟩)
           have HN := xm (show ms.length < maxLen from by have := HX.out; have := HML.out; unfold maxLen; omega)
           have HS1 := xm (impl_rowBytes.size A27.out)
           have HS2 := xm (impl_rowBytes.size A29.out)
           obtain ⟨ad265, A265_0, c265_0, e265, hx265_0, hx265_1, hl265_0, hi265_0⟩ := at_T52 HR0_1.out x27_2 p265 q265
           cases e265
           replace hx265_0 := hU hx265_0
           replace hx265_1 := hU hx265_1
           have HR265_0 := xm hi265_0
           have HC265_0 := xm hl265_0
           clear hi265_0 hl265_0
           replace p265 := eq_true p265
           replace q265 := eq_true q265
           try go_wp2_with (first | ((with_reducible refine gate_dst (N := 8) rfl ?_); refine box_event ?hg (N := 8) ?hd (cs := #[.slice none 0 0, .int .i64 0]) (t := 52) ?hr ?_; (case hd => rfl); (case hg => rfl); (case hr => exact zB); intro gb266 hg w31 hbox hb; have n0_ := xm (blk_below (kB BK260) hb); have n1_ := xm (blk_below (kB BK261) hb); have n2_ := xm (blk_below (kB BK264) hb); have n3_ := xm (below_step bG hb); have n4_ := xm (hbox); have n5_ := xm ((by rw [hg]; exact (xz bG) : w.heap.size ≤ gb266)); have n6_ := xm ((by rw [hg]; exact (xz bG) : w.heap.size ≤ gb266)); have n7_ := xm ((by rw [hg]; exact Nat.ne_of_lt (blk_lt (kB BK260)) : gb260 ≠ gb266)); have n8_ := xm ((by rw [hg]; exact Nat.ne_of_gt (blk_lt (kB BK260)) : gb266 ≠ gb260)); have n9_ := xm ((by rw [hg]; exact Nat.ne_of_lt (blk_lt (kB BK261)) : gb261 ≠ gb266)); have n10_ := xm ((by rw [hg]; exact Nat.ne_of_gt (blk_lt (kB BK261)) : gb266 ≠ gb261)); have n11_ := xm ((by rw [hg]; exact Nat.ne_of_lt (blk_lt (kB BK264)) : gb264 ≠ gb266)); have n12_ := xm ((by rw [hg]; exact Nat.ne_of_gt (blk_lt (kB BK264)) : gb266 ≠ gb264)); revert n0_ n1_ n2_ n3_ n4_ n5_ n6_ n7_ n8_ n9_ n10_ n11_ n12_; clear BK260 BK261 BK264 HB; intro BK260 BK261 BK264 HB BK266 GW266 GE266 NB260_266 NB266_260 NB261_266 NB266_261 NB264_266 NB266_264; clear hb hbox hg; have hnb32 := NB266_260.out; have hnc32 := NB260_266.out; have hnb33 := NB266_261.out; have hnc33 := NB261_266.out; have hnb34 := NB266_264.out; have hnc34 := NB264_266.out; obtain ⟨hcz35_0, hcz35_1, hfz35_0, hfz35_1⟩ := cz2 BK266.out))
           have n0_ : Aside0 (((w31.setCell ⟨gb266, 0, none⟩ (.slice A265_0 ((rd_T52 l0_1 x27_2).f0.f0).length c265_0)).setCell ⟨gb266, 1, none⟩ (.int .i64 ((rd_T52 l0_1 x27_2).f1))).heap[gb260]? = some (.cells #[.int .i64 a0_0, .slice (some ad265) l0_1.length c0_1] 34 (0, 0))) := ⟨by (with_reducible repeat (first | refine xq ?_ _ | refine xr ?_ | refine xo ?_ _)); refine blk_far ?_ NB260_266.out _; (with_reducible repeat (first | refine xq ?_ _ | refine xr ?_ | refine xo ?_ _)); refine blk_far ?_ NB260_266.out _; (with_reducible repeat (first | refine xq ?_ _ | refine xr ?_ | refine xo ?_ _)); exact BK260.out⟩
           have n1_ : Aside0 (((w31.setCell ⟨gb266, 0, none⟩ (.slice A265_0 ((rd_T52 l0_1 x27_2).f0.f0).length c265_0)).setCell ⟨gb266, 1, none⟩ (.int .i64 ((rd_T52 l0_1 x27_2).f1))).heap[gb261]? = some (.cells #[.slice A1_0 l1_0.length c1_0, .slice A1_1 l1_1.length c1_1] 36 (0, 0))) := ⟨by (with_reducible repeat (first | refine xq ?_ _ | refine xr ?_ | refine xo ?_ _)); refine blk_far ?_ NB261_266.out _; (with_reducible repeat (first | refine xq ?_ _ | refine xr ?_ | refine xo ?_ _)); refine blk_far ?_ NB261_266.out _; (with_reducible repeat (first | refine xq ?_ _ | refine xr ?_ | refine xo ?_ _)); exact BK261.out⟩
           have n2_ : Aside0 (((w31.setCell ⟨gb266, 0, none⟩ (.slice A265_0 ((rd_T52 l0_1 x27_2).f0.f0).length c265_0)).setCell ⟨gb266, 1, none⟩ (.int .i64 ((rd_T52 l0_1 x27_2).f1))).heap[gb264]? = some (.map es ck)) := ⟨by (with_reducible repeat (first | refine xq ?_ _ | refine xr ?_ | refine xo ?_ _)); refine blk_farO ?_ NB264_266.out _; (with_reducible repeat (first | refine xq ?_ _ | refine xr ?_ | refine xo ?_ _)); refine blk_farO ?_ NB264_266.out _; (with_reducible repeat (first | refine xq ?_ _ | refine xr ?_ | refine xo ?_ _)); exact BK264.out⟩
           have n3_ : Aside0 (((w31.setCell ⟨gb266, 0, none⟩ (.slice A265_0 ((rd_T52 l0_1 x27_2).f0.f0).length c265_0)).setCell ⟨gb266, 1, none⟩ (.int .i64 ((rd_T52 l0_1 x27_2).f1))).heap[gb266]? = some (.cells #[.slice A265_0 ((rd_T52 l0_1 x27_2).f0.f0).length c265_0, .int .i64 ((rd_T52 l0_1 x27_2).f1)] 52 (0, 0))) := ⟨by (with_reducible repeat (first | refine xq ?_ _ | refine xr ?_ | refine xo ?_ _)); refine blk_put (cs := #[.slice A265_0 ((rd_T52 l0_1 x27_2).f0.f0).length c265_0, .int .i64 0]) ?_ 1 _ rfl; (with_reducible repeat (first | refine xq ?_ _ | refine xr ?_ | refine xo ?_ _)); refine blk_put (cs := #[.slice none 0 0, .int .i64 0]) ?_ 0 _ rfl; (with_reducible repeat (first | refine xq ?_ _ | refine xr ?_ | refine xo ?_ _)); exact BK266.out⟩
           have n4_ : Aside0 (Below w.heap.size w ((w31.setCell ⟨gb266, 0, none⟩ (.slice A265_0 ((rd_T52 l0_1 x27_2).f0.f0).length c265_0)).setCell ⟨gb266, 1, none⟩ (.int .i64 ((rd_T52 l0_1 x27_2).f1)))) := ⟨bG⟩
           (try clear BK260)
           (try clear BK261)
           (try clear BK264)
           (try clear BK266)
           (try clear HB)
           generalize ((w31.setCell ⟨gb266, 0, none⟩ (.slice A265_0 ((rd_T52 l0_1 x27_2).f0.f0).length c265_0)).setCell ⟨gb266, 1, none⟩ (.int .i64 ((rd_T52 l0_1 x27_2).f1))) = w36 at n0_ n1_ n2_ n3_ n4_ ⊢
           revert n0_ n1_ n2_ n3_ n4_; intro BK260 BK261 BK264 BK266 HB
           have n0_ := xm (xr BK260.out)
           have n1_ := xm (xr BK261.out)
           have n2_ := xm (xr BK264.out)
           have n3_ := xm (xr BK266.out)
           have n4_ := xm (xd HB.out)
           revert n0_ n1_ n2_ n3_ n4_; clear BK260 BK261 BK264 BK266 HB; intro BK260 BK261 BK264 BK266 HB
           refine start_ (n := 14) (S := fun w' => w'.cell? ⟨gb266, 0, none⟩ = some (.slice A265_0 ((rd_T52 l0_1 x27_2).f0.f0).length c265_0) ∧ w'.cell? ⟨gb266, 1, none⟩ = some (.int .i64 ((rd_T52 l0_1 x27_2).f1)) ∧ w'.cell? ⟨gb261, 0, none⟩ = some (.slice A1_0 l1_0.length c1_0) ∧ w'.cell? ⟨gb261, 1, none⟩ = some (.slice A1_1 l1_1.length c1_1)) (ds := []) #[Z,Z,Z,Z,Z,Z,Z,Z,Z,Z,Z,Z,Z,Z] (by kernel_rfl) rfl rfl ⟨(xc BK266.out 0).trans rfl, (xc BK266.out 1).trans rfl, (xc BK261.out 0).trans rfl, (xc BK261.out 1).trans rfl⟩ (fun hHeld => ?_); refine with_tabW impl_HoldsIn.tab7 impl_HoldsIn.bits7 (fun HT_ HW_ => ?_)
           generalize w36.drew = w37 at BK260 BK261 BK264 BK266 HB hHeld ⊢
           refine pu 0 14 1 ?_
           refine pu 2 14 5 ?_
           refine pu 6 14 69 ?_
           refine pu 8 14 325 ?_
           refine tx 1 14 327 rfl rfl (take_ofW HT_.out HW_.out (by kernel_rfl)) hHeld (by rintro w' ⟨s0, s1, s2, s3⟩; go_simp; with_reducible rfl) ?_
           refine tx 3 14 335 rfl rfl (take_ofW HT_.out HW_.out (by kernel_rfl)) hHeld (by rintro w' ⟨s0, s1, s2, s3⟩; go_simp; with_reducible rfl) ?_
           refine tx 7 14 463 rfl rfl (take_ofW HT_.out HW_.out (by kernel_rfl)) hHeld (by rintro w' ⟨s0, s1, s2, s3⟩; go_simp; with_reducible rfl) ?_
           refine tx 9 14 975 rfl rfl (take_ofW HT_.out HW_.out (by kernel_rfl)) hHeld (by rintro w' ⟨s0, s1, s2, s3⟩; go_simp; with_reducible rfl) ?_
           refine one_ (i := 4) (N := some 35) #[Y,Y,Y,Y,Y,Z,Y,Y,Y,Y,Z,Z,Z,Z] rfl rfl (one_of HT_.out (by kernel_rfl)) (by decide) (fun K hK => ?_)
           refine goes_ Try.func22 (by kernel_rfl) rfl #[.agg #[.slice A265_0 ((rd_T52 l0_1 x27_2).f0.f0).length c265_0], .slice A1_0 l1_0.length c1_0] (by rfl) rfl rfl mB ?_
           with_reducible refine (impl_Row_picked.calls k2 _ _ ((rd_T52 l0_1 x27_2).f0.f0) _ _ l1_0 t267 _ ?side1 ?side2 ?side3 ?side4 A26.out).mono ?_
           (case side1 => exact cB (Kd.C_below HR265_0.out HB.out))
           (case side2 => exact HC265_0.out)
           (case side3 => exact cB (Kd.C_below HR1_0.out HB.out))
           (case side4 => exact HC1_0.out)
           rintro e w38 ⟨v268, rfl, ho0, hb⟩
           refine ⟨_, rfl, ?_⟩
           have n0_ := xm (Kd.R_lower ho0 (xz bG))
           have n1_ := xm (blk_below (kB BK260) hb)
           have n2_ := xm (blk_below (kB BK261) hb)
           have n3_ := xm (blk_below (kB BK264) hb)
           have n4_ := xm (blk_below (kB BK266) hb)
           have n5_ := xm (below_step bG hb)
           revert n0_ n1_ n2_ n3_ n4_ n5_; clear BK260 BK261 BK264 BK266 HB; intro HO269 BK260 BK261 BK264 BK266 HB
           (try clear hb)
           (try clear hb2)
           (try clear hk)
           (try clear hi)
           (try clear ho0)
           obtain ⟨Ao39, co39, eo39⟩ := Kd.R_slice HO269.out
           (first | subst eo39 | (injection eo39 with f1_ f2_ f3_; have f4_ := f1_.symm; have f5_ := f3_.symm; clear f1_ f2_ f3_; subst f4_; subst f5_))
           refine hK.out _ _ ⟨(xc BK266.out 0).trans rfl, (xc BK266.out 1).trans rfl, (xc BK261.out 0).trans rfl, (xc BK261.out 1).trans rfl⟩ (fun hHeld => nC ?_)
           clear hK K
           refine one_ (i := 5) (N := some 36) #[Y,Y,Y,Y,Y,Y,Y,Y,Y,Y,Z,Z,Z,Z] rfl rfl (one_of HT_.out (by kernel_rfl)) (by decide) (fun K hK => ?_)
           refine goes_ Try.func21 (by kernel_rfl) rfl #[.agg #[.slice Ao39 t267.length co39]] (by rfl) rfl rfl mB ?_
           with_reducible refine (impl_rowBytes.calls k2 _ _ t267 t270 _ ?side1 ?side2 A27.out).mono ?_
           (case side1 => repeat (first | exact (Kd.R_reads' HO269.out).2.2 | (with_reducible refine Kd.C_alloc ?_ _) | (with_reducible refine Kd.C_drewN ?_ _) | (with_reducible refine Kd.C_drew ?_)))
           (case side2 => exact (Kd.R_reads' HO269.out).2.1)
           rintro e w40 ⟨rfl, hb⟩
           refine ⟨_, rfl, ?_⟩
           have n0_ := xm (Kd.R_below (rB HO269) hb)
           have n1_ := xm (blk_below (kB BK260) hb)
           have n2_ := xm (blk_below (kB BK261) hb)
           have n3_ := xm (blk_below (kB BK264) hb)
           have n4_ := xm (blk_below (kB BK266) hb)
           have n5_ := xm (below_step bG hb)
           revert n0_ n1_ n2_ n3_ n4_ n5_; clear HO269 BK260 BK261 BK264 BK266 HB; intro HO269 BK260 BK261 BK264 BK266 HB
           (try clear hb)
           (try clear hb2)
           (try clear hk)
           (try clear hi)
           refine hK.out _ _ ⟨(xc BK266.out 0).trans rfl, (xc BK266.out 1).trans rfl, (xc BK261.out 0).trans rfl, (xc BK261.out 1).trans rfl⟩ (fun hHeld => nC ?_)
           clear hK K
           refine one_ (i := 10) (N := some 41) #[Y,Y,Y,Y,Y,Y,Y,Y,Y,Y,Y,Z,Z,Z] rfl rfl (one_of HT_.out (by kernel_rfl)) (by decide) (fun K hK => ?_)
           refine goes_ Try.func22 (by kernel_rfl) rfl #[.agg #[.slice A265_0 ((rd_T52 l0_1 x27_2).f0.f0).length c265_0], .slice A1_1 l1_1.length c1_1] (by rfl) rfl rfl mB ?_
           with_reducible refine (impl_Row_picked.calls k2 _ _ ((rd_T52 l0_1 x27_2).f0.f0) _ _ l1_1 t271 _ ?side1 ?side2 ?side3 ?side4 A28.out).mono ?_
           (case side1 => exact cB (Kd.C_below HR265_0.out HB.out))
           (case side2 => exact HC265_0.out)
           (case side3 => exact cB (Kd.C_below HR1_1.out HB.out))
           (case side4 => exact HC1_1.out)
           rintro e w41 ⟨v272, rfl, ho0, hb⟩
           refine ⟨_, rfl, ?_⟩
           have n0_ := xm (Kd.R_elder' (rB HO269) (Kd.R_base ho0) hb)
           have n1_ := xm (Kd.R_lower (Kd.R_new' ho0 (Kd.R_lt (rB HO269))) (xz bG))
           have n2_ := xm (blk_below (kB BK260) hb)
           have n3_ := xm (blk_below (kB BK261) hb)
           have n4_ := xm (blk_below (kB BK264) hb)
           have n5_ := xm (blk_below (kB BK266) hb)
           have n6_ := xm (below_step bG hb)
           revert n0_ n1_ n2_ n3_ n4_ n5_ n6_; clear HO269 BK260 BK261 BK264 BK266 HB; intro HO269 HO273 BK260 BK261 BK264 BK266 HB
           (try clear hb)
           (try clear hb2)
           (try clear hk)
           (try clear hi)
           (try clear ho0)
           obtain ⟨Ao42, co42, eo42⟩ := Kd.R_slice HO273.out
           (first | subst eo42 | (injection eo42 with f1_ f2_ f3_; have f4_ := f1_.symm; have f5_ := f3_.symm; clear f1_ f2_ f3_; subst f4_; subst f5_))
           refine hK.out _ _ ⟨(xc BK266.out 0).trans rfl, (xc BK266.out 1).trans rfl, (xc BK261.out 0).trans rfl, (xc BK261.out 1).trans rfl⟩ (fun hHeld => nC ?_)
           clear hK K
           refine one_ (i := 11) (N := some 42) #[Y,Y,Y,Y,Y,Y,Y,Y,Y,Y,Y,Y,Z,Z] rfl rfl (one_of HT_.out (by kernel_rfl)) (by decide) (fun K hK => ?_)
           refine goes_ Try.func21 (by kernel_rfl) rfl #[.agg #[.slice Ao42 t271.length co42]] (by rfl) rfl rfl mB ?_
           with_reducible refine (impl_rowBytes.calls k2 _ _ t271 t274 _ ?side1 ?side2 A29.out).mono ?_
           (case side1 => repeat (first | exact (Kd.R_reads' HO273.out).2.2 | (with_reducible refine Kd.C_alloc ?_ _) | (with_reducible refine Kd.C_drewN ?_ _) | (with_reducible refine Kd.C_drew ?_)))
           (case side2 => exact (Kd.R_reads' HO273.out).2.1)
           rintro e w43 ⟨rfl, hb⟩
           refine ⟨_, rfl, ?_⟩
           have n0_ := xm (Kd.R_below (rB HO269) hb)
           have n1_ := xm (Kd.R_below (rB HO273) hb)
           have n2_ := xm (blk_below (kB BK260) hb)
           have n3_ := xm (blk_below (kB BK261) hb)
           have n4_ := xm (blk_below (kB BK264) hb)
           have n5_ := xm (blk_below (kB BK266) hb)
           have n6_ := xm (below_step bG hb)
           revert n0_ n1_ n2_ n3_ n4_ n5_ n6_; clear HO269 HO273 BK260 BK261 BK264 BK266 HB; intro HO269 HO273 BK260 BK261 BK264 BK266 HB
           (try clear hb)
           (try clear hb2)
           (try clear hk)
           (try clear hi)
           refine hK.out _ _ ⟨(xc BK266.out 0).trans rfl, (xc BK266.out 1).trans rfl, (xc BK261.out 0).trans rfl, (xc BK261.out 1).trans rfl⟩ (fun hHeld => nC ?_)
           clear hK K
           refine pu 12 14 8191 ?_
           refine pu 13 14 16383 ?_
           refine done_ (done_of HT_.out (by kernel_rfl)) ?_
           go_wp2_with (first | ((with_reducible refine gate_dst (N := 46) rfl ?_); refine look_event ?hgx (.tmp 44) (.tmp 45) 48 9 9 ?hop Try.underlying48 Try.underlying9 Try.underlying9 (impl_HoldsIn.zeroE _) t270 ?hm ?hx (kB BK264) FM.out HS1.out (.tuple #[.string old, .bool true]) (by rw [HQ.out]; rfl) ?_; (case hgx => rfl); (case hop => rfl); (case hm => first | rfl | exact zB); (case hx => first | rfl | exact zB)) | ((with_reducible refine gate_upd (t := 48) rfl ?_); refine upd_event ?hgx (.tmp 55) (.tmp 56) (.tmp 57) 48 9 9 ?hop Try.underlying48 Try.underlying9 Try.underlying9 t270 t274 ?hm ?hx ?hv (kB BK264) FM.out HS1.out HS2.out HN.out ?_; (case hgx => rfl); (case hop => rfl); (case hm => first | rfl | exact zB); (case hx => first | rfl | exact zB); (case hv => first | rfl | exact zB); intro w_u es2 ck2 hbm hF2 hgr; have n0_ := xm (blk_grw (kB BK260) hgr NB260_264.out); have n1_ := xm (blk_grw (kB BK261) hgr NB261_264.out); have n2_ := xm hbm; have n3_ := xm hF2; have n4_ := xm (below_grw bG hgr GE264.out); revert n0_ n1_ n2_ n3_ n4_; clear BK260 BK261 BK264 FM HB; intro BK260 BK261 BK264 FM HB; clear hbm hF2 hgr))
           go_roundg k2
           case measure => have := HJ2.out; have := HK2.out; omega
           case rel => exact ⟨(wrap64 (x27_2 + 1)), (t270, t274) :: ms, _, _, sB, H', ⟨by have := HJ2.out; have := HK2.out; omega⟩, ⟨kB BK260⟩, ⟨kB BK261⟩, ⟨kB BK264⟩, FM, ⟨by have := HX.out; have := HML.out; simp only [List.length_cons]; unfold wrap64; omega⟩, ⟨bG⟩⟩
          ·have c30b0 : (old.toList == t274.toList) = false := beq_eq_false_iff_ne.mpr c30
           have c30b1 : (old.toList != t274.toList) = true := bne_iff_ne.mpr c30
           clear c30
           rw [if_pos c30b1] at H
           simp only [Option.some.injEq, Prod.mk.injEq] at H
           obtain ⟨rfl, rfl⟩ := H
           have p265 : 0 ≤ (x27_2 : Int) := of_decide_eq_true aB
           have q265 : x27_2 < (l0_1.length : Int) := of_decide_eq_true aB
           have HX := xm (show (0 ≤ x27_2 ∧ x27_2 < (l0_1.length : Int)) ∧ (l0_1.length : Int) ≤ 9223372036854775807 from ⟨⟨p265, q265⟩, by have := HR0_1.out.2.1; omega⟩)
           have HN := xm (show ms.length < maxLen from by have := HX.out; have := HML.out; unfold maxLen; omega)
           have HS1 := xm (impl_rowBytes.size A27.out)
           have HS2 := xm (impl_rowBytes.size A29.out)
           obtain ⟨ad265, A265_0, c265_0, e265, hx265_0, hx265_1, hl265_0, hi265_0⟩ := at_T52 HR0_1.out x27_2 p265 q265
           cases e265
           replace hx265_0 := hU hx265_0
           replace hx265_1 := hU hx265_1
           have HR265_0 := xm hi265_0
           have HC265_0 := xm hl265_0
           clear hi265_0 hl265_0
           replace p265 := eq_true p265
           replace q265 := eq_true q265
           try go_wp2_with (first | ((with_reducible refine gate_dst (N := 8) rfl ?_); refine box_event ?hg (N := 8) ?hd (cs := #[.slice none 0 0, .int .i64 0]) (t := 52) ?hr ?_; (case hd => rfl); (case hg => rfl); (case hr => exact zB); intro gb266 hg w44 hbox hb; have n0_ := xm (blk_below (kB BK260) hb); have n1_ := xm (blk_below (kB BK261) hb); have n2_ := xm (blk_below (kB BK264) hb); have n3_ := xm (below_step bG hb); have n4_ := xm (hbox); have n5_ := xm ((by rw [hg]; exact (xz bG) : w.heap.size ≤ gb266)); have n6_ := xm ((by rw [hg]; exact (xz bG) : w.heap.size ≤ gb266)); have n7_ := xm ((by rw [hg]; exact Nat.ne_of_lt (blk_lt (kB BK260)) : gb260 ≠ gb266)); have n8_ := xm ((by rw [hg]; exact Nat.ne_of_gt (blk_lt (kB BK260)) : gb266 ≠ gb260)); have n9_ := xm ((by rw [hg]; exact Nat.ne_of_lt (blk_lt (kB BK261)) : gb261 ≠ gb266)); have n10_ := xm ((by rw [hg]; exact Nat.ne_of_gt (blk_lt (kB BK261)) : gb266 ≠ gb261)); have n11_ := xm ((by rw [hg]; exact Nat.ne_of_lt (blk_lt (kB BK264)) : gb264 ≠ gb266)); have n12_ := xm ((by rw [hg]; exact Nat.ne_of_gt (blk_lt (kB BK264)) : gb266 ≠ gb264)); revert n0_ n1_ n2_ n3_ n4_ n5_ n6_ n7_ n8_ n9_ n10_ n11_ n12_; clear BK260 BK261 BK264 HB; intro BK260 BK261 BK264 HB BK266 GW266 GE266 NB260_266 NB266_260 NB261_266 NB266_261 NB264_266 NB266_264; clear hb hbox hg; have hnb45 := NB266_260.out; have hnc45 := NB260_266.out; have hnb46 := NB266_261.out; have hnc46 := NB261_266.out; have hnb47 := NB266_264.out; have hnc47 := NB264_266.out; obtain ⟨hcz48_0, hcz48_1, hfz48_0, hfz48_1⟩ := cz2 BK266.out))
           have n0_ : Aside0 (((w44.setCell ⟨gb266, 0, none⟩ (.slice A265_0 ((rd_T52 l0_1 x27_2).f0.f0).length c265_0)).setCell ⟨gb266, 1, none⟩ (.int .i64 ((rd_T52 l0_1 x27_2).f1))).heap[gb260]? = some (.cells #[.int .i64 a0_0, .slice (some ad265) l0_1.length c0_1] 34 (0, 0))) := ⟨by (with_reducible repeat (first | refine xq ?_ _ | refine xr ?_ | refine xo ?_ _)); refine blk_far ?_ NB260_266.out _; (with_reducible repeat (first | refine xq ?_ _ | refine xr ?_ | refine xo ?_ _)); refine blk_far ?_ NB260_266.out _; (with_reducible repeat (first | refine xq ?_ _ | refine xr ?_ | refine xo ?_ _)); exact BK260.out⟩
           have n1_ : Aside0 (((w44.setCell ⟨gb266, 0, none⟩ (.slice A265_0 ((rd_T52 l0_1 x27_2).f0.f0).length c265_0)).setCell ⟨gb266, 1, none⟩ (.int .i64 ((rd_T52 l0_1 x27_2).f1))).heap[gb261]? = some (.cells #[.slice A1_0 l1_0.length c1_0, .slice A1_1 l1_1.length c1_1] 36 (0, 0))) := ⟨by (with_reducible repeat (first | refine xq ?_ _ | refine xr ?_ | refine xo ?_ _)); refine blk_far ?_ NB261_266.out _; (with_reducible repeat (first | refine xq ?_ _ | refine xr ?_ | refine xo ?_ _)); refine blk_far ?_ NB261_266.out _; (with_reducible repeat (first | refine xq ?_ _ | refine xr ?_ | refine xo ?_ _)); exact BK261.out⟩
           have n2_ : Aside0 (((w44.setCell ⟨gb266, 0, none⟩ (.slice A265_0 ((rd_T52 l0_1 x27_2).f0.f0).length c265_0)).setCell ⟨gb266, 1, none⟩ (.int .i64 ((rd_T52 l0_1 x27_2).f1))).heap[gb264]? = some (.map es ck)) := ⟨by (with_reducible repeat (first | refine xq ?_ _ | refine xr ?_ | refine xo ?_ _)); refine blk_farO ?_ NB264_266.out _; (with_reducible repeat (first | refine xq ?_ _ | refine xr ?_ | refine xo ?_ _)); refine blk_farO ?_ NB264_266.out _; (with_reducible repeat (first | refine xq ?_ _ | refine xr ?_ | refine xo ?_ _)); exact BK264.out⟩
           have n3_ : Aside0 (((w44.setCell ⟨gb266, 0, none⟩ (.slice A265_0 ((rd_T52 l0_1 x27_2).f0.f0).length c265_0)).setCell ⟨gb266, 1, none⟩ (.int .i64 ((rd_T52 l0_1 x27_2).f1))).heap[gb266]? = some (.cells #[.slice A265_0 ((rd_T52 l0_1 x27_2).f0.f0).length c265_0, .int .i64 ((rd_T52 l0_1 x27_2).f1)] 52 (0, 0))) := ⟨by (with_reducible repeat (first | refine xq ?_ _ | refine xr ?_ | refine xo ?_ _)); refine blk_put (cs := #[.slice A265_0 ((rd_T52 l0_1 x27_2).f0.f0).length c265_0, .int .i64 0]) ?_ 1 _ rfl; (with_reducible repeat (first | refine xq ?_ _ | refine xr ?_ | refine xo ?_ _)); refine blk_put (cs := #[.slice none 0 0, .int .i64 0]) ?_ 0 _ rfl; (with_reducible repeat (first | refine xq ?_ _ | refine xr ?_ | refine xo ?_ _)); exact BK266.out⟩
           have n4_ : Aside0 (Below w.heap.size w ((w44.setCell ⟨gb266, 0, none⟩ (.slice A265_0 ((rd_T52 l0_1 x27_2).f0.f0).length c265_0)).setCell ⟨gb266, 1, none⟩ (.int .i64 ((rd_T52 l0_1 x27_2).f1)))) := ⟨bG⟩
           (try clear BK260)
           (try clear BK261)
           (try clear BK264)
           (try clear BK266)
           (try clear HB)
           generalize ((w44.setCell ⟨gb266, 0, none⟩ (.slice A265_0 ((rd_T52 l0_1 x27_2).f0.f0).length c265_0)).setCell ⟨gb266, 1, none⟩ (.int .i64 ((rd_T52 l0_1 x27_2).f1))) = w49 at n0_ n1_ n2_ n3_ n4_ ⊢
           revert n0_ n1_ n2_ n3_ n4_; intro BK260 BK261 BK264 BK266 HB
           have n0_ := xm (xr BK260.out)
           have n1_ := xm (xr BK261.out)
           have n2_ := xm (xr BK264.out)
           have n3_ := xm (xr BK266.out)
           have n4_ := xm (xd HB.out)
           revert n0_ n1_ n2_ n3_ n4_; clear BK260 BK261 BK264 BK266 HB; intro BK260 BK261 BK264 BK266 HB
           refine start_ (n := 14) (S := fun w' => w'.cell? ⟨gb266, 0, none⟩ = some (.slice A265_0 ((rd_T52 l0_1 x27_2).f0.f0).length c265_0) ∧ w'.cell? ⟨gb266, 1, none⟩ = some (.int .i64 ((rd_T52 l0_1 x27_2).f1)) ∧ w'.cell? ⟨gb261, 0, none⟩ = some (.slice A1_0 l1_0.length c1_0) ∧ w'.cell? ⟨gb261, 1, none⟩ = some (.slice A1_1 l1_1.length c1_1)) (ds := []) #[Z,Z,Z,Z,Z,Z,Z,Z,Z,Z,Z,Z,Z,Z] (by kernel_rfl) rfl rfl ⟨(xc BK266.out 0).trans rfl, (xc BK266.out 1).trans rfl, (xc BK261.out 0).trans rfl, (xc BK261.out 1).trans rfl⟩ (fun hHeld => ?_); refine with_tabW impl_HoldsIn.tab7 impl_HoldsIn.bits7 (fun HT_ HW_ => ?_)
           generalize w49.drew = w50 at BK260 BK261 BK264 BK266 HB hHeld ⊢
           refine pu 0 14 1 ?_
           refine pu 2 14 5 ?_
           refine pu 6 14 69 ?_
           refine pu 8 14 325 ?_
           refine tx 1 14 327 rfl rfl (take_ofW HT_.out HW_.out (by kernel_rfl)) hHeld (by rintro w' ⟨s0, s1, s2, s3⟩; go_simp; with_reducible rfl) ?_
           refine tx 3 14 335 rfl rfl (take_ofW HT_.out HW_.out (by kernel_rfl)) hHeld (by rintro w' ⟨s0, s1, s2, s3⟩; go_simp; with_reducible rfl) ?_
           refine tx 7 14 463 rfl rfl (take_ofW HT_.out HW_.out (by kernel_rfl)) hHeld (by rintro w' ⟨s0, s1, s2, s3⟩; go_simp; with_reducible rfl) ?_
           refine tx 9 14 975 rfl rfl (take_ofW HT_.out HW_.out (by kernel_rfl)) hHeld (by rintro w' ⟨s0, s1, s2, s3⟩; go_simp; with_reducible rfl) ?_
           refine one_ (i := 4) (N := some 35) #[Y,Y,Y,Y,Y,Z,Y,Y,Y,Y,Z,Z,Z,Z] rfl rfl (one_of HT_.out (by kernel_rfl)) (by decide) (fun K hK => ?_)
           refine goes_ Try.func22 (by kernel_rfl) rfl #[.agg #[.slice A265_0 ((rd_T52 l0_1 x27_2).f0.f0).length c265_0], .slice A1_0 l1_0.length c1_0] (by rfl) rfl rfl mB ?_
           with_reducible refine (impl_Row_picked.calls k2 _ _ ((rd_T52 l0_1 x27_2).f0.f0) _ _ l1_0 t267 _ ?side1 ?side2 ?side3 ?side4 A26.out).mono ?_
           (case side1 => exact cB (Kd.C_below HR265_0.out HB.out))
           (case side2 => exact HC265_0.out)
           (case side3 => exact cB (Kd.C_below HR1_0.out HB.out))
           (case side4 => exact HC1_0.out)
           rintro e w51 ⟨v268, rfl, ho0, hb⟩
           refine ⟨_, rfl, ?_⟩
           have n0_ := xm (Kd.R_lower ho0 (xz bG))
           have n1_ := xm (blk_below (kB BK260) hb)
           have n2_ := xm (blk_below (kB BK261) hb)
           have n3_ := xm (blk_below (kB BK264) hb)
           have n4_ := xm (blk_below (kB BK266) hb)
           have n5_ := xm (below_step bG hb)
           revert n0_ n1_ n2_ n3_ n4_ n5_; clear BK260 BK261 BK264 BK266 HB; intro HO269 BK260 BK261 BK264 BK266 HB
           (try clear hb)
           (try clear hb2)
           (try clear hk)
           (try clear hi)
           (try clear ho0)
           obtain ⟨Ao52, co52, eo52⟩ := Kd.R_slice HO269.out
           (first | subst eo52 | (injection eo52 with f1_ f2_ f3_; have f4_ := f1_.symm; have f5_ := f3_.symm; clear f1_ f2_ f3_; subst f4_; subst f5_))
           refine hK.out _ _ ⟨(xc BK266.out 0).trans rfl, (xc BK266.out 1).trans rfl, (xc BK261.out 0).trans rfl, (xc BK261.out 1).trans rfl⟩ (fun hHeld => nC ?_)
           clear hK K
           refine one_ (i := 5) (N := some 36) #[Y,Y,Y,Y,Y,Y,Y,Y,Y,Y,Z,Z,Z,Z] rfl rfl (one_of HT_.out (by kernel_rfl)) (by decide) (fun K hK => ?_)
           refine goes_ Try.func21 (by kernel_rfl) rfl #[.agg #[.slice Ao52 t267.length co52]] (by rfl) rfl rfl mB ?_
           with_reducible refine (impl_rowBytes.calls k2 _ _ t267 t270 _ ?side1 ?side2 A27.out).mono ?_
           (case side1 => repeat (first | exact (Kd.R_reads' HO269.out).2.2 | (with_reducible refine Kd.C_alloc ?_ _) | (with_reducible refine Kd.C_drewN ?_ _) | (with_reducible refine Kd.C_drew ?_)))
           (case side2 => exact (Kd.R_reads' HO269.out).2.1)
           rintro e w53 ⟨rfl, hb⟩
           refine ⟨_, rfl, ?_⟩
           have n0_ := xm (Kd.R_below (rB HO269) hb)
           have n1_ := xm (blk_below (kB BK260) hb)
           have n2_ := xm (blk_below (kB BK261) hb)
           have n3_ := xm (blk_below (kB BK264) hb)
           have n4_ := xm (blk_below (kB BK266) hb)
           have n5_ := xm (below_step bG hb)
           revert n0_ n1_ n2_ n3_ n4_ n5_; clear HO269 BK260 BK261 BK264 BK266 HB; intro HO269 BK260 BK261 BK264 BK266 HB
           (try clear hb)
           (try clear hb2)
           (try clear hk)
           (try clear hi)
           refine hK.out _ _ ⟨(xc BK266.out 0).trans rfl, (xc BK266.out 1).trans rfl, (xc BK261.out 0).trans rfl, (xc BK261.out 1).trans rfl⟩ (fun hHeld => nC ?_)
           clear hK K
           refine one_ (i := 10) (N := some 41) #[Y,Y,Y,Y,Y,Y,Y,Y,Y,Y,Y,Z,Z,Z] rfl rfl (one_of HT_.out (by kernel_rfl)) (by decide) (fun K hK => ?_)
           refine goes_ Try.func22 (by kernel_rfl) rfl #[.agg #[.slice A265_0 ((rd_T52 l0_1 x27_2).f0.f0).length c265_0], .slice A1_1 l1_1.length c1_1] (by rfl) rfl rfl mB ?_
           with_reducible refine (impl_Row_picked.calls k2 _ _ ((rd_T52 l0_1 x27_2).f0.f0) _ _ l1_1 t271 _ ?side1 ?side2 ?side3 ?side4 A28.out).mono ?_
           (case side1 => exact cB (Kd.C_below HR265_0.out HB.out))
           (case side2 => exact HC265_0.out)
           (case side3 => exact cB (Kd.C_below HR1_1.out HB.out))
           (case side4 => exact HC1_1.out)
           rintro e w54 ⟨v272, rfl, ho0, hb⟩
           refine ⟨_, rfl, ?_⟩
           have n0_ := xm (Kd.R_elder' (rB HO269) (Kd.R_base ho0) hb)
           have n1_ := xm (Kd.R_lower (Kd.R_new' ho0 (Kd.R_lt (rB HO269))) (xz bG))
           have n2_ := xm (blk_below (kB BK260) hb)
           have n3_ := xm (blk_below (kB BK261) hb)
           have n4_ := xm (blk_below (kB BK264) hb)
           have n5_ := xm (blk_below (kB BK266) hb)
           have n6_ := xm (below_step bG hb)
           revert n0_ n1_ n2_ n3_ n4_ n5_ n6_; clear HO269 BK260 BK261 BK264 BK266 HB; intro HO269 HO273 BK260 BK261 BK264 BK266 HB
           (try clear hb)
           (try clear hb2)
           (try clear hk)
           (try clear hi)
           (try clear ho0)
           obtain ⟨Ao55, co55, eo55⟩ := Kd.R_slice HO273.out
           (first | subst eo55 | (injection eo55 with f1_ f2_ f3_; have f4_ := f1_.symm; have f5_ := f3_.symm; clear f1_ f2_ f3_; subst f4_; subst f5_))
           refine hK.out _ _ ⟨(xc BK266.out 0).trans rfl, (xc BK266.out 1).trans rfl, (xc BK261.out 0).trans rfl, (xc BK261.out 1).trans rfl⟩ (fun hHeld => nC ?_)
           clear hK K
           refine one_ (i := 11) (N := some 42) #[Y,Y,Y,Y,Y,Y,Y,Y,Y,Y,Y,Y,Z,Z] rfl rfl (one_of HT_.out (by kernel_rfl)) (by decide) (fun K hK => ?_)
           refine goes_ Try.func21 (by kernel_rfl) rfl #[.agg #[.slice Ao55 t271.length co55]] (by rfl) rfl rfl mB ?_
           with_reducible refine (impl_rowBytes.calls k2 _ _ t271 t274 _ ?side1 ?side2 A29.out).mono ?_
           (case side1 => repeat (first | exact (Kd.R_reads' HO273.out).2.2 | (with_reducible refine Kd.C_alloc ?_ _) | (with_reducible refine Kd.C_drewN ?_ _) | (with_reducible refine Kd.C_drew ?_)))
           (case side2 => exact (Kd.R_reads' HO273.out).2.1)
           rintro e w56 ⟨rfl, hb⟩
           refine ⟨_, rfl, ?_⟩
           have n0_ := xm (Kd.R_below (rB HO269) hb)
           have n1_ := xm (Kd.R_below (rB HO273) hb)
           have n2_ := xm (blk_below (kB BK260) hb)
           have n3_ := xm (blk_below (kB BK261) hb)
           have n4_ := xm (blk_below (kB BK264) hb)
           have n5_ := xm (blk_below (kB BK266) hb)
           have n6_ := xm (below_step bG hb)
           revert n0_ n1_ n2_ n3_ n4_ n5_ n6_; clear HO269 HO273 BK260 BK261 BK264 BK266 HB; intro HO269 HO273 BK260 BK261 BK264 BK266 HB
           (try clear hb)
           (try clear hb2)
           (try clear hk)
           (try clear hi)
           refine hK.out _ _ ⟨(xc BK266.out 0).trans rfl, (xc BK266.out 1).trans rfl, (xc BK261.out 0).trans rfl, (xc BK261.out 1).trans rfl⟩ (fun hHeld => nC ?_)
           clear hK K
           refine pu 12 14 8191 ?_
           refine pu 13 14 16383 ?_
           refine done_ (done_of HT_.out (by kernel_rfl)) ?_
           go_wp2_with (first | ((with_reducible refine gate_dst (N := 46) rfl ?_); refine look_event ?hgx (.tmp 44) (.tmp 45) 48 9 9 ?hop Try.underlying48 Try.underlying9 Try.underlying9 (impl_HoldsIn.zeroE _) t270 ?hm ?hx (kB BK264) FM.out HS1.out (.tuple #[.string old, .bool true]) (by rw [HQ.out]; rfl) ?_; (case hgx => rfl); (case hop => rfl); (case hm => first | rfl | exact zB); (case hx => first | rfl | exact zB)))
           go_ret2
           exact ⟨eB, bG⟩
        ·rw [if_neg c25] at H
         exact absurd H (by simp)
       ·rw [if_neg c24] at H
        exact absurd H (by simp)
      ·rw [if_neg c23] at H
       have c23b0 : decide (x27_2 < (l0_1.length : Int)) = false := decide_eq_false c23
       clear c23
       simp only [Option.some.injEq, Prod.mk.injEq] at H
       obtain ⟨rfl, rfl⟩ := H
       go_wp2
       go_ret2
       exact ⟨eB, bG⟩

end Go.Proofs.Ytmelechhnimlnac.G
