/- Written by a program of this claim's own, out of the translation: functions of the program as plain functions, and that the calls answer as these. No conditions. -/
import Derived.Test.YtmelechhnimlnacG0
import Derived.Test.YtmelechhnimlnacG6
import Derived.Test.YtmelechhnimlnacG7
namespace Go.Proofs.Ytmelechhnimlnac.G
open Go.RowKit Go.Proofs.Ytmelechhnimlnac.X Go.Proofs.YtmelechhnimlnacW.PrintWords Go.Proofs.YtmelechhnimlnacW.PrintLast Go.Proofs.YtmelechhnimlnacW.PrintMore
attribute [local go_sem] max2_int min2_int max_two min_two max_three min_three max_four min_four   -- for this text's walks alone
set_option linter.unusedVariables false
set_option linter.unusedSimpArgs false

/-! ### impl_GoodTable: function 19 -/
mutual
def impl_GoodTable.j0 : Nat → Bool → Int → List (S52) → Option (Bool)
 | 0, _, _, _ => none
 | k + 1, x14, x228000, x228001 => if x14 = true then (some false) else (impl_GoodTable.l0 k x228001 (x228001.length : Int) 0 x228000 x228001)
def impl_GoodTable.l0 : Nat → List (S52) → Int → Int → Int → List (S52) → Option (Bool)
 | 0, _, _, _, _, _ => none
 | k + 1, x16, x17, x18, x228000, x228001 => if x18 < x17 then (if 0 ≤ x18 then (if x18 < (x16.length : Int) then ((impl_isRowOf.f ((rd_T52 x16 x18).f0.f0) x228000).bind fun t231 => (if t231 = true then ((impl_isWeight.f ((rd_T52 x16 x18).f1)).bind fun t232 => (if t232 = true then (if ((rd_T52 x16 x18).f1) = 0 then (impl_GoodTable.j2 k x16 x17 x18 true x228000 x228001) else (if x18 > 0 then (if 0 ≤ (wrap64 (x18 - 1)) then (if (wrap64 (x18 - 1)) < (x228001.length : Int) then ((impl_compareRows.f k ((rd_T52 x228001 (wrap64 (x18 - 1))).f0.f0) ((rd_T52 x16 x18).f0.f0)).bind fun t234 => (impl_GoodTable.j2 k x16 x17 x18 (decide (t234 ≥ 0)) x228000 x228001)) else (none)) else (none)) else (impl_GoodTable.j2 k x16 x17 x18 false x228000 x228001))) else (impl_GoodTable.j2 k x16 x17 x18 true x228000 x228001))) else (impl_GoodTable.j2 k x16 x17 x18 true x228000 x228001))) else (none)) else (none)) else (some true)
def impl_GoodTable.j2 : Nat → List (S52) → Int → Int → Bool → Int → List (S52) → Option (Bool)
 | 0, _, _, _, _, _, _ => none
 | k + 1, x16, x17, x18, x56, x228000, x228001 => if x56 = true then (some false) else (impl_GoodTable.l0 k x16 x17 (wrap64 (x18 + 1)) x228000 x228001)
end
def impl_GoodTable.f (k : Nat) (a0_0 : Int) (l0_1 : List (S52)) : Option (Bool) := (impl_isColumns.f a0_0).bind fun t228 => (if t228 = true then (impl_GoodTable.j0 k (decide ((l0_1.length : Int) > 60)) a0_0 l0_1) else (impl_GoodTable.j0 k true a0_0 l0_1))
theorem impl_GoodTable.mono_l : ∀ k, (∀ y0 y1 y2, LeO (impl_GoodTable.j0 k y0 y1 y2) (impl_GoodTable.j0 (k + 1) y0 y1 y2)) ∧ (∀ y0 y1 y2 y3 y4, LeO (impl_GoodTable.l0 k y0 y1 y2 y3 y4) (impl_GoodTable.l0 (k + 1) y0 y1 y2 y3 y4)) ∧ (∀ y0 y1 y2 y3 y4 y5, LeO (impl_GoodTable.j2 k y0 y1 y2 y3 y4 y5) (impl_GoodTable.j2 (k + 1) y0 y1 y2 y3 y4 y5))
 | 0 => ⟨fun _ _ _ r h => by simp [impl_GoodTable.j0] at h, fun _ _ _ _ _ r h => by simp [impl_GoodTable.l0] at h, fun _ _ _ _ _ _ r h => by simp [impl_GoodTable.j2] at h⟩
 | k + 1 => by
  obtain ⟨ih0, ih1, ih2⟩ := impl_GoodTable.mono_l k
  refine ⟨?_, ?_, ?_⟩
  ·intro y0 y1 y2
   unfold impl_GoodTable.j0
   repeat' first
   | (with_reducible exact ih0 _ _ _)
   | (with_reducible exact ih1 _ _ _ _ _)
   | (with_reducible exact ih2 _ _ _ _ _ _)
   | (with_reducible exact impl_compareRows.mono _ _ _)
   | (with_reducible exact LeO.refl _)
   | (with_reducible exact LeO.none _)
   | (with_reducible refine LeO.ite ?_ ?_)
   | (with_reducible refine LeO.bind ?_ (fun _ => ?_))
   | exact ih0 _ _ _
   | exact ih1 _ _ _ _ _
   | exact ih2 _ _ _ _ _ _
   | exact impl_compareRows.mono _ _ _
   | exact LeO.none _
   | refine LeO.ite ?_ ?_
   | refine LeO.bind ?_ (fun _ => ?_)
  ·intro y0 y1 y2 y3 y4
   unfold impl_GoodTable.l0
   repeat' first
   | (with_reducible exact ih0 _ _ _)
   | (with_reducible exact ih1 _ _ _ _ _)
   | (with_reducible exact ih2 _ _ _ _ _ _)
   | (with_reducible exact impl_compareRows.mono _ _ _)
   | (with_reducible exact LeO.refl _)
   | (with_reducible exact LeO.none _)
   | (with_reducible refine LeO.ite ?_ ?_)
   | (with_reducible refine LeO.bind ?_ (fun _ => ?_))
   | exact ih0 _ _ _
   | exact ih1 _ _ _ _ _
   | exact ih2 _ _ _ _ _ _
   | exact impl_compareRows.mono _ _ _
   | exact LeO.none _
   | refine LeO.ite ?_ ?_
   | refine LeO.bind ?_ (fun _ => ?_)
  ·intro y0 y1 y2 y3 y4 y5
   unfold impl_GoodTable.j2
   repeat' first
   | (with_reducible exact ih0 _ _ _)
   | (with_reducible exact ih1 _ _ _ _ _)
   | (with_reducible exact ih2 _ _ _ _ _ _)
   | (with_reducible exact impl_compareRows.mono _ _ _)
   | (with_reducible exact LeO.refl _)
   | (with_reducible exact LeO.none _)
   | (with_reducible refine LeO.ite ?_ ?_)
   | (with_reducible refine LeO.bind ?_ (fun _ => ?_))
   | exact ih0 _ _ _
   | exact ih1 _ _ _ _ _
   | exact ih2 _ _ _ _ _ _
   | exact impl_compareRows.mono _ _ _
   | exact LeO.none _
   | refine LeO.ite ?_ ?_
   | refine LeO.bind ?_ (fun _ => ?_)
theorem impl_GoodTable.mono : ∀ a0 a1 k, LeO (impl_GoodTable.f k a0 a1) (impl_GoodTable.f (k + 1) a0 a1) := by
 intro a0 a1 k
 obtain ⟨ih0, ih1, ih2⟩ := impl_GoodTable.mono_l k
 unfold impl_GoodTable.f
 repeat' first
   | (with_reducible exact ih0 _ _ _)
   | (with_reducible exact ih1 _ _ _ _ _)
   | (with_reducible exact ih2 _ _ _ _ _ _)
   | (with_reducible exact impl_compareRows.mono _ _ _)
   | (with_reducible exact LeO.refl _)
   | (with_reducible exact LeO.none _)
   | (with_reducible refine LeO.ite ?_ ?_)
   | (with_reducible refine LeO.bind ?_ (fun _ => ?_))
   | exact ih0 _ _ _
   | exact ih1 _ _ _ _ _
   | exact ih2 _ _ _ _ _ _
   | exact impl_compareRows.mono _ _ _
   | exact LeO.none _
   | refine LeO.ite ?_ ?_
   | refine LeO.bind ?_ (fun _ => ?_)
def impl_GoodTable.T6 : Bool × List (List Nat × List Nat) := (true, [([], []), ([0], [0]), ([], []), ([2], [2]), ([1, 3], [1, 3]), ([4], [4]), ([5, 4], [5]), ([6], [6]), ([7, 6], [6, 7]), ([8, 6, 6], [6, 8]), ([9, 6], [6, 9]), ([6, 10], [6, 10]), ([11, 9], [11]), ([12], [12]), ([13, 12], [12, 13]), ([14, 12], [12, 14]), ([12, 15], [12, 15]), ([16, 12], [16]), ([17], [17]), ([18, 17], [17, 18]), ([19, 17, 17], [17, 19]), ([20], [20]), ([21, 20], [20, 21]), ([20], [20]), ([23, 20], [20, 23]), ([22, 24, 20], [20, 22, 24]), ([25, 20], [20, 25]), ([26, 20], [20, 26]), ([20], [20]), ([28, 20], [20, 28]), ([27, 29, 20, 20], [20, 27, 29]), ([30, 20], [20, 30]), ([20, 31, 17], [17, 20, 31]), ([17, 32], [17, 32])])
def impl_GoodTable.B6 : List Nat := [0, 1, 0, 4, 15, 31, 63, 127, 255, 511, 1023, 2047, 4095, 8191, 16383, 32767, 65535, 131071, 262143, 524287, 1048575, 2097151, 4194303, 2097151, 10485759, 33554431, 67108863, 134217727, 2097151, 270532607, 1073741823, 2147483647, 4294967295, 8589934591]
theorem impl_GoodTable.tab6 : rtab .any (opsOf Try.f19 6) = impl_GoodTable.T6 := by kernel_rfl
theorem impl_GoodTable.bits6 : waitsOk impl_GoodTable.T6.2 impl_GoodTable.B6 = true := by kernel_rfl
set_option maxHeartbeats 8000000 in
set_option maxRecDepth 100000 in
theorem impl_GoodTable.calls (k : Nat) (a0_0 : Int) (A0_1 : Option Addr) (c0_1 : Nat) (l0_1 : List (S52)) (r : Bool) (w : World) (hr0_1 : Kd.C k52 w A0_1 l0_1.length l0_1) (hc0_1 : l0_1.length ≤ c0_1) (h : impl_GoodTable.f k a0_0 l0_1 = some r) :
  Calls Try.prog 19 #[.agg #[.int .i64 a0_0, .slice A0_1 l0_1.length c0_1]] w fun e w' => e = .returned (.bool r) ∧ Below w.heap.size w w' := by
 have hu34 := Try.underlying34
 have hu52 := Try.underlying52
 have hu50 := Try.underlying50
 have HR0_1 := xm hr0_1
 have HC0_1 := xm hc0_1
 clear hr0_1 hc0_1
 have HB := xm (Below.refl w.heap.size w)
 have H : ((impl_isColumns.f a0_0).bind fun t228 => (if t228 = true then (impl_GoodTable.j0 k (decide ((l0_1.length : Int) > 60)) a0_0 l0_1) else (impl_GoodTable.j0 k true a0_0 l0_1))) = some r := h
 clear h
 have HC2 := xm H
 clear H
 go_enter Try.func19, Try.ntmps19
 go_upto_region 1 with (first | ((with_reducible refine gate_dst (N := 1) rfl ?_); (try (refine gate_guard (by rfl) ?_; dsimp only)); refine box_event ?hg (N := 1) ?hd (cs := #[.int .i64 a0_0, .slice A0_1 l0_1.length c0_1]) (t := 34) ?hr ?_; (case hd => rfl); (case hg => rfl); (case hr => exact zB); intro gb227 hg w3 hbox hb; have n0_ := xm (below_step bB hb); have n1_ := xm (hbox); have n2_ := xm ((by rw [hg]; exact (xz bB) : w.heap.size ≤ gb227)); have n3_ := xm ((by rw [hg]; exact (xz bB) : w.heap.size ≤ gb227)); revert n0_ n1_ n2_ n3_; clear HB; intro HB BK227 GW227 GE227; clear hb hbox hg))
 (try simp only [Act.put, xi, xj, xk])
 go_cut [14] (fun v14 wc => ∃ (kq : Nat) (x14_1 : Bool), v14 = .bool x14_1 ∧ Aside0 (impl_GoodTable.j0 kq x14_1 a0_0 l0_1 = some r) ∧ Aside0 (kq ≤ k) ∧ Aside0 (wc.heap[gb227]? = some (.cells #[.int .i64 a0_0, (.slice A0_1 l0_1.length c0_1)] 34 (0, 0))) ∧ Aside0 (Below w.heap.size w wc))
 case first =>
  have H := HC2.out
  clear HC2
  replace H := Option.bind_eq_some_iff.mp H
  obtain ⟨t228, A40, H⟩ := H
  replace H : (if t228 = true then (impl_GoodTable.j0 k (decide ((l0_1.length : Int) > 60)) a0_0 l0_1) else (impl_GoodTable.j0 k true a0_0 l0_1)) = some r := H
  have A4 := xm A40
  clear A40
  by_cases c5 : t228 = true
  ·subst c5
   have H1 : (impl_GoodTable.j0 k (decide ((l0_1.length : Int) > 60)) a0_0 l0_1) = some r := by first | (with_reducible rfl) | (rw [if_pos rfl] at H; exact H)
   clear H
   have H := H1
   clear H1
   have H' := xm H
   clear H
   obtain ⟨hcz6_0, hcz6_1, hfz6_0, hfz6_1⟩ := cz2 BK227.out
   go_wp2_with (first | ((with_reducible refine gate_callee (f := 33) rfl ?_); refine goesL_ (some 7) rfl rfl Try.func33 (by kernel_rfl) rfl #[.int .i64 a0_0] rfl mB ?_; (with_reducible refine (impl_isColumns.calls a0_0 true _ A4.out).mono ?_); rintro e w' ⟨rfl, ⟨nd, rfl⟩⟩; refine ⟨_, rfl, ?_⟩))
   go_meet
   case rel => exact ⟨_, (decide ((l0_1.length : Int) > 60)), sB, H', ⟨by first | omega | exact Nat.le_refl _⟩, ⟨kB BK227⟩, ⟨bG⟩⟩
  ·replace c5 := Bool.eq_false_iff.mpr c5
   subst c5
   have H1 : (impl_GoodTable.j0 k true a0_0 l0_1) = some r := by first | (with_reducible rfl) | (rw [if_neg (show ¬ (false = true) by decide)] at H; exact H)
   clear H
   have H := H1
   clear H1
   have H' := xm H
   clear H
   obtain ⟨hcz7_0, hcz7_1, hfz7_0, hfz7_1⟩ := cz2 BK227.out
   go_wp2_with (first | ((with_reducible refine gate_callee (f := 33) rfl ?_); refine goesL_ (some 7) rfl rfl Try.func33 (by kernel_rfl) rfl #[.int .i64 a0_0] rfl mB ?_; (with_reducible refine (impl_isColumns.calls a0_0 false _ A4.out).mono ?_); rintro e w' ⟨rfl, ⟨nd, rfl⟩⟩; refine ⟨_, rfl, ?_⟩))
   go_meet
   case rel => exact ⟨_, (true), sB, H', ⟨by first | omega | exact Nat.le_refl _⟩, ⟨kB BK227⟩, ⟨bG⟩⟩
 case rest =>
  clear HC2
  try clear c1
  try clear p2
  try clear c3
  try clear c5
  try clear hcz6_0 hcz6_1
  try clear hcz7_0 hcz7_1
  try clear hfz6_0 hfz6_1
  try clear hfz7_0 hfz7_1
  obtain ⟨kq, x14_1, rfl, HA, HJ1, BK227, HB⟩ := hcut
  cases kq with
  | zero => exact absurd HA.out (by simp [impl_GoodTable.j0])
  | succ kj1 =>
   have H := HA.out
   clear HA
   simp only [impl_GoodTable.j0] at H
   by_cases c8 : x14_1 = true
   ·subst c8
    have H1 : (some false) = some r := by first | (with_reducible rfl) | (rw [if_pos rfl] at H; exact H)
    clear H
    have H := H1
    clear H1
    obtain rfl := Option.some.inj H
    go_wp2
    go_ret
    exact ⟨eB, bG⟩
   ·replace c8 := Bool.eq_false_iff.mpr c8
    subst c8
    have H1 : (impl_GoodTable.l0 kj1 l0_1 (l0_1.length : Int) 0 a0_0 l0_1) = some r := by first | (with_reducible rfl) | (rw [if_neg (show ¬ (false = true) by decide)] at H; exact H)
    clear H
    have H := H1
    clear H1
    have H' := xm H
    clear H
    obtain ⟨hcz9_0, hcz9_1, hfz9_0, hfz9_1⟩ := cz2 BK227.out
    go_wp2
    go_loopg [18] kj1 (fun kq v18 w' => ∃ (x18_2 : Int), v18 = .int .i64 x18_2 ∧ Aside0 (impl_GoodTable.l0 kq l0_1 (l0_1.length : Int) x18_2 a0_0 l0_1 = some r) ∧ Aside0 (kq ≤ kj1) ∧ Aside0 (w'.heap[gb227]? = some (.cells #[.int .i64 a0_0, (.slice A0_1 l0_1.length c0_1)] 34 (0, 0))) ∧ Aside0 (Below w.heap.size w w'))
    case atStart => exact ⟨(0), sB, H', ⟨Nat.le_refl _⟩, ⟨kB BK227⟩, ⟨bG⟩⟩
    case round =>
     clear H'
     try clear c1
     try clear p2
     try clear c3
     try clear c5
     try clear c8
     try clear hcz6_0 hcz6_1
     try clear hcz7_0 hcz7_1
     try clear hcz9_0 hcz9_1
     try clear hfz6_0 hfz6_1
     try clear hfz7_0 hfz7_1
     try clear hfz9_0 hfz9_1
     try clear p2
     obtain ⟨x18_2, rfl, HA, HK2, BK227, HB⟩ := hrel
     cases gk with
     | zero => exact absurd HA.out (by simp [impl_GoodTable.l0])
     | succ k2 =>
      have H := HA.out
      clear HA
      simp only [impl_GoodTable.l0] at H
      by_cases c10 : x18_2 < (l0_1.length : Int)
      ·rw [if_pos c10] at H
       have c10b0 : decide (x18_2 < (l0_1.length : Int)) = true := decide_eq_true c10
       clear c10
       by_cases c11 : 0 ≤ x18_2
       ·rw [if_pos c11] at H
        have c11b0 : decide (0 ≤ x18_2) = true := decide_eq_true c11
        clear c11
        by_cases c12 : x18_2 < (l0_1.length : Int)
        ·rw [if_pos c12] at H
         have c12b0 : decide (x18_2 < (l0_1.length : Int)) = true := decide_eq_true c12
         clear c12
         have HC13 := xm H
         clear H
         have p229 : 0 ≤ (x18_2 : Int) := of_decide_eq_true aB
         have q229 : x18_2 < (l0_1.length : Int) := of_decide_eq_true aB
         obtain ⟨ad229, A229_0, c229_0, e229, hx229_0, hx229_1, hl229_0, hi229_0⟩ := at_T52 HR0_1.out x18_2 p229 q229
         cases e229
         replace hx229_0 := hU hx229_0
         replace hx229_1 := hU hx229_1
         have HR229_0 := xm hi229_0
         have HC229_0 := xm hl229_0
         clear hi229_0 hl229_0
         replace p229 := eq_true p229
         replace q229 := eq_true q229
         go_upto_region 6 with (first | ((with_reducible refine gate_dst (N := 4) rfl ?_); (try (refine gate_guard (by rfl) ?_; dsimp only)); refine box_event ?hg (N := 4) ?hd (cs := #[.slice none 0 0, .int .i64 0]) (t := 52) ?hr ?_; (case hd => rfl); (case hg => rfl); (case hr => exact zB); intro gb230 hg w14 hbox hb; have n0_ := xm (blk_below (kB BK227) hb); have n1_ := xm (below_step bG hb); have n2_ := xm (hbox); have n3_ := xm ((by rw [hg]; exact (xz bG) : w.heap.size ≤ gb230)); have n4_ := xm ((by rw [hg]; exact (xz bG) : w.heap.size ≤ gb230)); have n5_ := xm ((by rw [hg]; exact Nat.ne_of_lt (blk_lt (kB BK227)) : gb227 ≠ gb230)); have n6_ := xm ((by rw [hg]; exact Nat.ne_of_gt (blk_lt (kB BK227)) : gb230 ≠ gb227)); revert n0_ n1_ n2_ n3_ n4_ n5_ n6_; clear BK227 HB; intro BK227 HB BK230 GW230 GE230 NB227_230 NB230_227; clear hb hbox hg; have hnb15 := NB230_227.out; have hnc15 := NB227_230.out; obtain ⟨hcz16_0, hcz16_1, hfz16_0, hfz16_1⟩ := cz2 BK230.out))
         (try simp only [Act.put, xi, xj, xk])
         go_cut [56] (fun v56 wc => ∃ (kq : Nat) (x56_12 : Bool), v56 = .bool x56_12 ∧ Aside0 (impl_GoodTable.j2 kq l0_1 (l0_1.length : Int) x18_2 x56_12 a0_0 l0_1 = some r) ∧ Aside0 (kq ≤ k2) ∧ Aside0 (wc.heap[gb227]? = some (.cells #[.int .i64 a0_0, (.slice (some ad229) l0_1.length c0_1)] 34 (0, 0))) ∧ Aside0 (wc.heap[gb230]? = some (.cells #[(.slice A229_0 ((rd_T52 l0_1 x18_2).f0.f0).length c229_0), .int .i64 ((rd_T52 l0_1 x18_2).f1)] 52 (0, 0))) ∧ Aside0 (Below w.heap.size w wc))
         case first =>
          have H := HC13.out
          clear HC13
          replace H := Option.bind_eq_some_iff.mp H
          obtain ⟨t231, A170, H⟩ := H
          replace H : (if t231 = true then ((impl_isWeight.f ((rd_T52 l0_1 x18_2).f1)).bind fun t232 => (if t232 = true then (if ((rd_T52 l0_1 x18_2).f1) = 0 then (impl_GoodTable.j2 k2 l0_1 (l0_1.length : Int) x18_2 true a0_0 l0_1) else (if x18_2 > 0 then (if 0 ≤ (wrap64 (x18_2 - 1)) then (if (wrap64 (x18_2 - 1)) < (l0_1.length : Int) then ((impl_compareRows.f k2 ((rd_T52 l0_1 (wrap64 (x18_2 - 1))).f0.f0) ((rd_T52 l0_1 x18_2).f0.f0)).bind fun t234 => (impl_GoodTable.j2 k2 l0_1 (l0_1.length : Int) x18_2 (decide (t234 ≥ 0)) a0_0 l0_1)) else (none)) else (none)) else (impl_GoodTable.j2 k2 l0_1 (l0_1.length : Int) x18_2 false a0_0 l0_1))) else (impl_GoodTable.j2 k2 l0_1 (l0_1.length : Int) x18_2 true a0_0 l0_1))) else (impl_GoodTable.j2 k2 l0_1 (l0_1.length : Int) x18_2 true a0_0 l0_1)) = some r := H
          have A17 := xm A170
          clear A170
          by_cases c18 : t231 = true
          ·subst c18
           have H1 : ((impl_isWeight.f ((rd_T52 l0_1 x18_2).f1)).bind fun t232 => (if t232 = true then (if ((rd_T52 l0_1 x18_2).f1) = 0 then (impl_GoodTable.j2 k2 l0_1 (l0_1.length : Int) x18_2 true a0_0 l0_1) else (if x18_2 > 0 then (if 0 ≤ (wrap64 (x18_2 - 1)) then (if (wrap64 (x18_2 - 1)) < (l0_1.length : Int) then ((impl_compareRows.f k2 ((rd_T52 l0_1 (wrap64 (x18_2 - 1))).f0.f0) ((rd_T52 l0_1 x18_2).f0.f0)).bind fun t234 => (impl_GoodTable.j2 k2 l0_1 (l0_1.length : Int) x18_2 (decide (t234 ≥ 0)) a0_0 l0_1)) else (none)) else (none)) else (impl_GoodTable.j2 k2 l0_1 (l0_1.length : Int) x18_2 false a0_0 l0_1))) else (impl_GoodTable.j2 k2 l0_1 (l0_1.length : Int) x18_2 true a0_0 l0_1))) = some r := by first | (with_reducible rfl) | (rw [if_pos rfl] at H; exact H)
           clear H
           have H := H1
           clear H1
           replace H := Option.bind_eq_some_iff.mp H
           obtain ⟨t232, A190, H⟩ := H
           replace H : (if t232 = true then (if ((rd_T52 l0_1 x18_2).f1) = 0 then (impl_GoodTable.j2 k2 l0_1 (l0_1.length : Int) x18_2 true a0_0 l0_1) else (if x18_2 > 0 then (if 0 ≤ (wrap64 (x18_2 - 1)) then (if (wrap64 (x18_2 - 1)) < (l0_1.length : Int) then ((impl_compareRows.f k2 ((rd_T52 l0_1 (wrap64 (x18_2 - 1))).f0.f0) ((rd_T52 l0_1 x18_2).f0.f0)).bind fun t234 => (impl_GoodTable.j2 k2 l0_1 (l0_1.length : Int) x18_2 (decide (t234 ≥ 0)) a0_0 l0_1)) else (none)) else (none)) else (impl_GoodTable.j2 k2 l0_1 (l0_1.length : Int) x18_2 false a0_0 l0_1))) else (impl_GoodTable.j2 k2 l0_1 (l0_1.length : Int) x18_2 true a0_0 l0_1)) = some r := H
           have A19 := xm A190
           clear A190
           by_cases c20 : t232 = true
           ·subst c20
            have H1 : (if ((rd_T52 l0_1 x18_2).f1) = 0 then (impl_GoodTable.j2 k2 l0_1 (l0_1.length : Int) x18_2 true a0_0 l0_1) else (if x18_2 > 0 then (if 0 ≤ (wrap64 (x18_2 - 1)) then (if (wrap64 (x18_2 - 1)) < (l0_1.length : Int) then ((impl_compareRows.f k2 ((rd_T52 l0_1 (wrap64 (x18_2 - 1))).f0.f0) ((rd_T52 l0_1 x18_2).f0.f0)).bind fun t234 => (impl_GoodTable.j2 k2 l0_1 (l0_1.length : Int) x18_2 (decide (t234 ≥ 0)) a0_0 l0_1)) else (none)) else (none)) else (impl_GoodTable.j2 k2 l0_1 (l0_1.length : Int) x18_2 false a0_0 l0_1))) = some r := by first | (with_reducible rfl) | (rw [if_pos rfl] at H; exact H)
            clear H
            have H := H1
            clear H1
            by_cases c21 : ((rd_T52 l0_1 x18_2).f1) = 0
            ·rw [if_pos c21] at H
             have c21b0 : (((rd_T52 l0_1 x18_2).f1) == 0) = true := beq_iff_eq.mpr c21
             have c21b1 : (((rd_T52 l0_1 x18_2).f1) != 0) = false := bne_eq_false_iff_eq.mpr c21
             clear c21
             (first | rw [c21b0] | (simp only [i64_w, i32_w]; rw [c21b0]) | skip)
             have H' := xm H
             clear H
             try go_wp2
             have n0_ : Aside0 (((w14.setCell ⟨gb230, 0, none⟩ (.slice A229_0 ((rd_T52 l0_1 x18_2).f0.f0).length c229_0)).setCell ⟨gb230, 1, none⟩ (.int .i64 ((rd_T52 l0_1 x18_2).f1))).heap[gb227]? = some (.cells #[.int .i64 a0_0, .slice (some ad229) l0_1.length c0_1] 34 (0, 0))) := ⟨by (with_reducible repeat (first | refine xq ?_ _ | refine xr ?_ | refine xo ?_ _)); refine blk_far ?_ NB227_230.out _; (with_reducible repeat (first | refine xq ?_ _ | refine xr ?_ | refine xo ?_ _)); refine blk_far ?_ NB227_230.out _; (with_reducible repeat (first | refine xq ?_ _ | refine xr ?_ | refine xo ?_ _)); exact BK227.out⟩
             have n1_ : Aside0 (((w14.setCell ⟨gb230, 0, none⟩ (.slice A229_0 ((rd_T52 l0_1 x18_2).f0.f0).length c229_0)).setCell ⟨gb230, 1, none⟩ (.int .i64 ((rd_T52 l0_1 x18_2).f1))).heap[gb230]? = some (.cells #[.slice A229_0 ((rd_T52 l0_1 x18_2).f0.f0).length c229_0, .int .i64 ((rd_T52 l0_1 x18_2).f1)] 52 (0, 0))) := ⟨by (with_reducible repeat (first | refine xq ?_ _ | refine xr ?_ | refine xo ?_ _)); refine blk_put (cs := #[.slice A229_0 ((rd_T52 l0_1 x18_2).f0.f0).length c229_0, .int .i64 0]) ?_ 1 _ rfl; (with_reducible repeat (first | refine xq ?_ _ | refine xr ?_ | refine xo ?_ _)); refine blk_put (cs := #[.slice none 0 0, .int .i64 0]) ?_ 0 _ rfl; (with_reducible repeat (first | refine xq ?_ _ | refine xr ?_ | refine xo ?_ _)); exact BK230.out⟩
             have n2_ : Aside0 (Below w.heap.size w ((w14.setCell ⟨gb230, 0, none⟩ (.slice A229_0 ((rd_T52 l0_1 x18_2).f0.f0).length c229_0)).setCell ⟨gb230, 1, none⟩ (.int .i64 ((rd_T52 l0_1 x18_2).f1)))) := ⟨bG⟩
             (try clear BK227)
             (try clear BK230)
             (try clear HB)
             generalize ((w14.setCell ⟨gb230, 0, none⟩ (.slice A229_0 ((rd_T52 l0_1 x18_2).f0.f0).length c229_0)).setCell ⟨gb230, 1, none⟩ (.int .i64 ((rd_T52 l0_1 x18_2).f1))) = w22 at n0_ n1_ n2_ ⊢
             revert n0_ n1_ n2_; intro BK227 BK230 HB
             have n0_ := xm (xr BK227.out)
             have n1_ := xm (xr BK230.out)
             have n2_ := xm (xd HB.out)
             revert n0_ n1_ n2_; clear BK227 BK230 HB; intro BK227 BK230 HB
             refine start_ (n := 34) (S := fun w' => w'.cell? ⟨gb230, 0, none⟩ = some (.slice A229_0 ((rd_T52 l0_1 x18_2).f0.f0).length c229_0) ∧ w'.cell? ⟨gb230, 1, none⟩ = some (.int .i64 ((rd_T52 l0_1 x18_2).f1)) ∧ w'.cell? ⟨gb227, 0, none⟩ = some (.int .i64 a0_0) ∧ w'.cell? ⟨gb227, 1, none⟩ = some (.slice (some ad229) l0_1.length c0_1)) (ds := []) #[Z,Z,Z,Z,Z,Z,Z,Z,Z,Z,Z,Z,Z,Z,Z,Z,Z,Z,Z,Z,Z,Z,Z,Z,Z,Z,Z,Z,Z,Z,Z,Z,Z,Z] (by kernel_rfl) rfl rfl ⟨(xc BK230.out 0).trans rfl, (xc BK230.out 1).trans rfl, (xc BK227.out 0).trans rfl, (xc BK227.out 1).trans rfl⟩ (fun hHeld => ?_); refine with_tabW impl_GoodTable.tab6 impl_GoodTable.bits6 (fun HT_ HW_ => ?_)
             generalize w22.drew = w23 at BK227 BK230 HB hHeld ⊢
             refine pu 0 34 1 ?_
             refine pu 2 34 5 ?_
             refine tx 1 34 7 rfl rfl (take_ofW HT_.out HW_.out (by kernel_rfl)) hHeld (by rintro w' ⟨s0, s1, s2, s3⟩; go_simp; with_reducible rfl) ?_
             refine tx 3 34 15 rfl rfl (take_ofW HT_.out HW_.out (by kernel_rfl)) hHeld (by rintro w' ⟨s0, s1, s2, s3⟩; go_simp; with_reducible rfl) ?_
             refine one_ (i := 4) (N := some 27) #[Y,Y,Y,Y,Y,Z,Z,Z,Z,Z,Z,Z,Z,Z,Z,Z,Z,Z,Z,Z,Z,Z,Z,Z,Z,Z,Z,Z,Z,Z,Z,Z,Z,Z] rfl rfl (one_of HT_.out (by kernel_rfl)) (by decide) (fun K hK => ?_)
             refine goes_ Try.func34 (by kernel_rfl) rfl #[.agg #[.slice A229_0 ((rd_T52 l0_1 x18_2).f0.f0).length c229_0], .int .i64 a0_0] (by rfl) rfl rfl mB ?_
             with_reducible refine (impl_isRowOf.calls _ _ ((rd_T52 l0_1 x18_2).f0.f0) a0_0 true _ ?side1 ?side2 A17.out).mono ?_
             (case side1 => exact cB (Kd.C_below HR229_0.out HB.out))
             (case side2 => exact HC229_0.out)
             rintro e w24 ⟨rfl, hb⟩
             refine ⟨_, rfl, ?_⟩
             have n0_ := xm (blk_below (kB BK227) hb)
             have n1_ := xm (blk_below (kB BK230) hb)
             have n2_ := xm (below_step bG hb)
             revert n0_ n1_ n2_; clear BK227 BK230 HB; intro BK227 BK230 HB
             (try clear hb)
             (try clear hb2)
             (try clear hk)
             (try clear hi)
             refine hK.out _ _ ⟨(xc BK230.out 0).trans rfl, (xc BK230.out 1).trans rfl, (xc BK227.out 0).trans rfl, (xc BK227.out 1).trans rfl⟩ (fun hHeld => nC ?_)
             clear hK K
             refine pu 5 34 63 ?_
             refine pu 6 34 127 ?_
             refine pu 7 34 255 ?_
             refine tx 8 34 511 rfl rfl (take_ofW HT_.out HW_.out (by kernel_rfl)) hHeld (by rintro w' ⟨s0, s1, s2, s3⟩; go_simp; with_reducible rfl) ?_
             refine one_ (i := 9) (N := some 32) #[Y,Y,Y,Y,Y,Y,Y,Y,Y,Y,Z,Z,Z,Z,Z,Z,Z,Z,Z,Z,Z,Z,Z,Z,Z,Z,Z,Z,Z,Z,Z,Z,Z,Z] rfl rfl (one_of HT_.out (by kernel_rfl)) (by decide) (fun K hK => ?_)
             refine goes_ Try.func35 (by kernel_rfl) rfl #[.int .i64 ((rd_T52 l0_1 x18_2).f1)] (by rfl) rfl rfl mB ?_
             with_reducible refine (impl_isWeight.calls ((rd_T52 l0_1 x18_2).f1) true _ A19.out).mono ?_
             rintro e w' ⟨rfl, ⟨nd, rfl⟩⟩
             refine ⟨_, rfl, ?_⟩
             refine hK.out _ _ ⟨(xc BK230.out 0).trans rfl, (xc BK230.out 1).trans rfl, (xc BK227.out 0).trans rfl, (xc BK227.out 1).trans rfl⟩ (fun hHeld => nC ?_)
             clear hK K
             refine pu 10 34 2047 ?_
             refine pu 11 34 4095 ?_
             refine pu 12 34 8191 ?_
             refine pu 13 34 16383 ?_
             refine tx 14 34 32767 rfl rfl (take_ofW HT_.out HW_.out (by kernel_rfl)) hHeld (by rintro w' ⟨s0, s1, s2, s3⟩; go_simp; with_reducible rfl) ?_
             refine pu 15 34 65535 ?_
             refine pu 16 34 131071 ?_
             refine pu 17 34 262143 ?_
             refine ou 18 34 524287 ?_
             refine ou 19 34 1048575 ?_
             refine ou 20 34 2097151 ?_
             refine ou 21 34 4194303 ?_
             refine ou 22 34 8388607 ?_
             refine ou 23 34 16777215 ?_
             refine ou 24 34 33554431 ?_
             refine ou 25 34 67108863 ?_
             refine ou 26 34 134217727 ?_
             refine ou 27 34 268435455 ?_
             refine ou 28 34 536870911 ?_
             refine ou 29 34 1073741823 ?_
             refine ou 30 34 2147483647 ?_
             refine ou 31 34 4294967295 ?_
             refine ou 32 34 8589934591 ?_
             refine pu 33 34 17179869183 ?_
             refine done_ (done_of HT_.out (by kernel_rfl)) ?_
             try go_wp2
             go_meet
             case rel => exact ⟨_, (true), sB, H', ⟨by have := HJ1.out; have := HK2.out; first | omega | exact Nat.le_refl _⟩, ⟨kB BK227⟩, ⟨kB BK230⟩, ⟨bG⟩⟩
            ·rw [if_neg c21] at H
             have c21b0 : (((rd_T52 l0_1 x18_2).f1) == 0) = false := beq_eq_false_iff_ne.mpr c21
             have c21b1 : (((rd_T52 l0_1 x18_2).f1) != 0) = true := bne_iff_ne.mpr c21
             (first | rw [c21b0] | (simp only [i64_w, i32_w]; rw [c21b0]) | skip)
             by_cases c25 : x18_2 > 0
             ·rw [if_pos c25] at H
              have c25b0 : decide (0 < x18_2) = true := decide_eq_true c25
              clear c25
              obtain ⟨ji26, hji26⟩ : ∃ j_ : Int, (wrap64 (x18_2 - 1)) = j_ := ⟨_, rfl⟩
              replace H : (if 0 ≤ (ji26) then (if (ji26) < (l0_1.length : Int) then ((impl_compareRows.f k2 ((rd_T52 l0_1 (ji26)).f0.f0) ((rd_T52 l0_1 x18_2).f0.f0)).bind fun t234 => (impl_GoodTable.j2 k2 l0_1 (l0_1.length : Int) x18_2 (decide (t234 ≥ 0)) a0_0 l0_1)) else (none)) else (none)) = some r := by first | (rw [hji26] at H; exact H) | (simp only [hji26] at H ⊢; exact H)
              (try rw [hji26] at A17)
              (try rw [hji26] at A19)
              have hji26w : (IntKind.i64.wrap (x18_2 - 1)) = ji26 := (i64_w _).trans hji26
              by_cases c27 : 0 ≤ (ji26)
              ·rw [if_pos c27] at H
               have c27b0 : decide (0 ≤ (ji26)) = true := decide_eq_true c27
               clear c27
               by_cases c28 : (ji26) < (l0_1.length : Int)
               ·rw [if_pos c28] at H
                have c28b0 : decide ((ji26) < (l0_1.length : Int)) = true := decide_eq_true c28
                clear c28
                replace H := Option.bind_eq_some_iff.mp H
                obtain ⟨t234, A290, H⟩ := H
                replace H : (impl_GoodTable.j2 k2 l0_1 (l0_1.length : Int) x18_2 (decide (t234 ≥ 0)) a0_0 l0_1) = some r := H
                have A29 := xm A290
                clear A290
                have H' := xm H
                clear H
                try go_wp2
                have n0_ : Aside0 (((w14.setCell ⟨gb230, 0, none⟩ (.slice A229_0 ((rd_T52 l0_1 x18_2).f0.f0).length c229_0)).setCell ⟨gb230, 1, none⟩ (.int .i64 ((rd_T52 l0_1 x18_2).f1))).heap[gb227]? = some (.cells #[.int .i64 a0_0, .slice (some ad229) l0_1.length c0_1] 34 (0, 0))) := ⟨by (with_reducible repeat (first | refine xq ?_ _ | refine xr ?_ | refine xo ?_ _)); refine blk_far ?_ NB227_230.out _; (with_reducible repeat (first | refine xq ?_ _ | refine xr ?_ | refine xo ?_ _)); refine blk_far ?_ NB227_230.out _; (with_reducible repeat (first | refine xq ?_ _ | refine xr ?_ | refine xo ?_ _)); exact BK227.out⟩
                have n1_ : Aside0 (((w14.setCell ⟨gb230, 0, none⟩ (.slice A229_0 ((rd_T52 l0_1 x18_2).f0.f0).length c229_0)).setCell ⟨gb230, 1, none⟩ (.int .i64 ((rd_T52 l0_1 x18_2).f1))).heap[gb230]? = some (.cells #[.slice A229_0 ((rd_T52 l0_1 x18_2).f0.f0).length c229_0, .int .i64 ((rd_T52 l0_1 x18_2).f1)] 52 (0, 0))) := ⟨by (with_reducible repeat (first | refine xq ?_ _ | refine xr ?_ | refine xo ?_ _)); refine blk_put (cs := #[.slice A229_0 ((rd_T52 l0_1 x18_2).f0.f0).length c229_0, .int .i64 0]) ?_ 1 _ rfl; (with_reducible repeat (first | refine xq ?_ _ | refine xr ?_ | refine xo ?_ _)); refine blk_put (cs := #[.slice none 0 0, .int .i64 0]) ?_ 0 _ rfl; (with_reducible repeat (first | refine xq ?_ _ | refine xr ?_ | refine xo ?_ _)); exact BK230.out⟩
                have n2_ : Aside0 (Below w.heap.size w ((w14.setCell ⟨gb230, 0, none⟩ (.slice A229_0 ((rd_T52 l0_1 x18_2).f0.f0).length c229_0)).setCell ⟨gb230, 1, none⟩ (.int .i64 ((rd_T52 l0_1 x18_2).f1)))) := ⟨bG⟩
                (try clear BK227)
                (try clear BK230)
                (try clear HB)
                generalize ((w14.setCell ⟨gb230, 0, none⟩ (.slice A229_0 ((rd_T52 l0_1 x18_2).f0.f0).length c229_0)).setCell ⟨gb230, 1, none⟩ (.int .i64 ((rd_T52 l0_1 x18_2).f1))) = w30 at n0_ n1_ n2_ ⊢
                revert n0_ n1_ n2_; intro BK227 BK230 HB
                have n0_ := xm (xr BK227.out)
                have n1_ := xm (xr BK230.out)
                have n2_ := xm (xd HB.out)
                revert n0_ n1_ n2_; clear BK227 BK230 HB; intro BK227 BK230 HB
                have p233 : 0 ≤ ((ji26) : Int) := of_decide_eq_true aB
                have q233 : (ji26) < (l0_1.length : Int) := of_decide_eq_true aB
                obtain ⟨ad233, A233_0, c233_0, e233, hx233_0, hx233_1, hl233_0, hi233_0⟩ := at_T52 HR0_1.out (ji26) p233 q233
                have hw233_1 := hx233_1
                have hw233_0 := hx233_0
                obtain rfl : ad229 = ad233 := (by injection e233)
                replace hx233_0 := hU hx233_0
                replace hx233_1 := hU hx233_1
                have HR233_0 := xm hi233_0
                have HC233_0 := xm hl233_0
                clear hi233_0 hl233_0
                replace p233 := eq_true p233
                replace q233 := eq_true q233
                refine start_ (n := 34) (S := fun w' => w'.cell? ⟨gb230, 0, none⟩ = some (.slice A229_0 ((rd_T52 l0_1 x18_2).f0.f0).length c229_0) ∧ w'.cell? ⟨gb230, 1, none⟩ = some (.int .i64 ((rd_T52 l0_1 x18_2).f1)) ∧ w'.cell? ⟨gb227, 0, none⟩ = some (.int .i64 a0_0) ∧ w'.cell? ⟨gb227, 1, none⟩ = some (.slice (some ad229) l0_1.length c0_1) ∧ w'.cell? (ad229.add (((ji26)).toNat * 2)) = some (.slice A233_0 ((rd_T52 l0_1 (ji26)).f0.f0).length c233_0) ∧ w'.cell? ⟨(ad229.add (((ji26)).toNat * 2)).block, (ad229.add (((ji26)).toNat * 2)).off + 1, none⟩ = some (.int .i64 ((rd_T52 l0_1 (ji26)).f1))) (ds := []) #[Z,Z,Z,Z,Z,Z,Z,Z,Z,Z,Z,Z,Z,Z,Z,Z,Z,Z,Z,Z,Z,Z,Z,Z,Z,Z,Z,Z,Z,Z,Z,Z,Z,Z] (by kernel_rfl) rfl rfl ⟨(xc BK230.out 0).trans rfl, (xc BK230.out 1).trans rfl, (xc BK227.out 0).trans rfl, (xc BK227.out 1).trans rfl, ((HB.out.cell (World.block_lt_of_cell? w _ hw233_0)).trans hw233_0), ((HB.out.cell (World.block_lt_of_cell? w _ hw233_1)).trans hw233_1)⟩ (fun hHeld => ?_); refine with_tabW impl_GoodTable.tab6 impl_GoodTable.bits6 (fun HT_ HW_ => ?_)
                generalize w30.drew = w31 at BK227 BK230 HB HR233_0 hx233_0 hx233_1 hHeld ⊢
                refine pu 0 34 1 ?_
                refine pu 2 34 5 ?_
                refine tx 1 34 7 rfl rfl (take_ofW HT_.out HW_.out (by kernel_rfl)) hHeld (by rintro w' ⟨s0, s1, s2, s3, s4, s5⟩; go_simp; with_reducible rfl) ?_
                refine tx 3 34 15 rfl rfl (take_ofW HT_.out HW_.out (by kernel_rfl)) hHeld (by rintro w' ⟨s0, s1, s2, s3, s4, s5⟩; go_simp; with_reducible rfl) ?_
                refine one_ (i := 4) (N := some 27) #[Y,Y,Y,Y,Y,Z,Z,Z,Z,Z,Z,Z,Z,Z,Z,Z,Z,Z,Z,Z,Z,Z,Z,Z,Z,Z,Z,Z,Z,Z,Z,Z,Z,Z] rfl rfl (one_of HT_.out (by kernel_rfl)) (by decide) (fun K hK => ?_)
                refine goes_ Try.func34 (by kernel_rfl) rfl #[.agg #[.slice A229_0 ((rd_T52 l0_1 x18_2).f0.f0).length c229_0], .int .i64 a0_0] (by rfl) rfl rfl mB ?_
                with_reducible refine (impl_isRowOf.calls _ _ ((rd_T52 l0_1 x18_2).f0.f0) a0_0 true _ ?side1 ?side2 A17.out).mono ?_
                (case side1 => exact cB (Kd.C_below HR229_0.out HB.out))
                (case side2 => exact HC229_0.out)
                rintro e w32 ⟨rfl, hb⟩
                refine ⟨_, rfl, ?_⟩
                have n0_ := xm (blk_below (kB BK227) hb)
                have n1_ := xm (blk_below (kB BK230) hb)
                have n2_ := xm (below_step bG hb)
                revert n0_ n1_ n2_; clear BK227 BK230 HB; intro BK227 BK230 HB
                (try clear hb)
                (try clear hb2)
                (try clear hk)
                (try clear hi)
                refine hK.out _ _ ⟨(xc BK230.out 0).trans rfl, (xc BK230.out 1).trans rfl, (xc BK227.out 0).trans rfl, (xc BK227.out 1).trans rfl, ((HB.out.cell (World.block_lt_of_cell? w _ hw233_0)).trans hw233_0), ((HB.out.cell (World.block_lt_of_cell? w _ hw233_1)).trans hw233_1)⟩ (fun hHeld => nC ?_)
                clear hK K
                refine pu 5 34 63 ?_
                refine pu 6 34 127 ?_
                refine pu 7 34 255 ?_
                refine tx 8 34 511 rfl rfl (take_ofW HT_.out HW_.out (by kernel_rfl)) hHeld (by rintro w' ⟨s0, s1, s2, s3, s4, s5⟩; go_simp; with_reducible rfl) ?_
                refine one_ (i := 9) (N := some 32) #[Y,Y,Y,Y,Y,Y,Y,Y,Y,Y,Z,Z,Z,Z,Z,Z,Z,Z,Z,Z,Z,Z,Z,Z,Z,Z,Z,Z,Z,Z,Z,Z,Z,Z] rfl rfl (one_of HT_.out (by kernel_rfl)) (by decide) (fun K hK => ?_)
                refine goes_ Try.func35 (by kernel_rfl) rfl #[.int .i64 ((rd_T52 l0_1 x18_2).f1)] (by rfl) rfl rfl mB ?_
                with_reducible refine (impl_isWeight.calls ((rd_T52 l0_1 x18_2).f1) true _ A19.out).mono ?_
                rintro e w' ⟨rfl, ⟨nd, rfl⟩⟩
                refine ⟨_, rfl, ?_⟩
                refine hK.out _ _ ⟨(xc BK230.out 0).trans rfl, (xc BK230.out 1).trans rfl, (xc BK227.out 0).trans rfl, (xc BK227.out 1).trans rfl, ((HB.out.cell (World.block_lt_of_cell? w _ hw233_0)).trans hw233_0), ((HB.out.cell (World.block_lt_of_cell? w _ hw233_1)).trans hw233_1)⟩ (fun hHeld => nC ?_)
                clear hK K
                refine pu 10 34 2047 ?_
                refine pu 11 34 4095 ?_
                refine pu 12 34 8191 ?_
                refine pu 13 34 16383 ?_
                refine tx 14 34 32767 rfl rfl (take_ofW HT_.out HW_.out (by kernel_rfl)) hHeld (by rintro w' ⟨s0, s1, s2, s3, s4, s5⟩; go_simp; with_reducible rfl) ?_
                refine pu 15 34 65535 ?_
                refine pu 16 34 131071 ?_
                refine pu 17 34 262143 ?_
                refine pu 18 34 524287 ?_
                refine pu 19 34 1048575 ?_
                refine pu 20 34 2097151 ?_
                refine pu 21 34 4194303 ?_
                refine pu 23 34 12582911 ?_
                refine pu 24 34 29360127 ?_
                refine pu 28 34 297795583 ?_
                refine tx 22 34 301989887 rfl rfl (take_ofW HT_.out HW_.out (by kernel_rfl)) hHeld (by rintro w' ⟨s0, s1, s2, s3, s4, s5⟩; go_simp; with_reducible rfl) ?_
                refine pu 25 34 335544319 ?_
                refine pu 26 34 402653183 ?_
                refine tx 27 34 536870911 rfl rfl (take_ofW HT_.out HW_.out (by kernel_rfl)) hHeld (by rintro w' ⟨s0, s1, s2, s3, s4, s5⟩; go_simp; with_reducible rfl) ?_
                refine tx 29 34 1073741823 rfl rfl (take_ofW HT_.out HW_.out (by kernel_rfl)) hHeld (by rintro w' ⟨s0, s1, s2, s3, s4, s5⟩; go_simp; with_reducible rfl) ?_
                refine one_ (i := 30) (N := some 53) #[Y,Y,Y,Y,Y,Y,Y,Y,Y,Y,Y,Y,Y,Y,Y,Y,Y,Y,Y,Y,Y,Y,Y,Y,Y,Y,Y,Y,Y,Y,Y,Z,Z,Z] rfl rfl (one_of HT_.out (by kernel_rfl)) (by decide) (fun K hK => ?_)
                refine goes_ Try.func36 (by kernel_rfl) rfl #[.agg #[.slice A233_0 ((rd_T52 l0_1 (ji26)).f0.f0).length c233_0], .agg #[.slice A229_0 ((rd_T52 l0_1 x18_2).f0.f0).length c229_0]] (by rfl) rfl rfl (by (try simp only [List.map_toArray, List.map_cons, List.map_nil]); first | done | (simp only [hji26]; rfl) | rfl | (simp only [List.length_drop, List.length_take]; rfl)) ?_
                with_reducible refine (impl_compareRows.calls k2 _ _ ((rd_T52 l0_1 (ji26)).f0.f0) _ _ ((rd_T52 l0_1 x18_2).f0.f0) t234 _ ?side1 ?side2 ?side3 ?side4 A29.out).mono ?_
                (case side1 => repeat (first | exact (Kd.C_below HR233_0.out bG) | (with_reducible refine Kd.C_alloc ?_ _) | (with_reducible refine Kd.C_drewN ?_ _) | (with_reducible refine Kd.C_drew ?_)))
                (case side2 => exact HC233_0.out)
                (case side3 => repeat (first | exact (Kd.C_below HR229_0.out bG) | (with_reducible refine Kd.C_alloc ?_ _) | (with_reducible refine Kd.C_drewN ?_ _) | (with_reducible refine Kd.C_drew ?_)))
                (case side4 => exact HC229_0.out)
                rintro e w33 ⟨rfl, hb⟩
                refine ⟨_, rfl, ?_⟩
                have n0_ := xm (blk_below (kB BK227) hb)
                have n1_ := xm (blk_below (kB BK230) hb)
                have n2_ := xm (below_step bG hb)
                revert n0_ n1_ n2_; clear BK227 BK230 HB; intro BK227 BK230 HB
                (try clear hb)
                (try clear hb2)
                (try clear hk)
                (try clear hi)
                refine hK.out _ _ ⟨(xc BK230.out 0).trans rfl, (xc BK230.out 1).trans rfl, (xc BK227.out 0).trans rfl, (xc BK227.out 1).trans rfl, ((HB.out.cell (World.block_lt_of_cell? w _ hw233_0)).trans hw233_0), ((HB.out.cell (World.block_lt_of_cell? w _ hw233_1)).trans hw233_1)⟩ (fun hHeld => nC ?_)
                clear hK K
                refine pu 31 34 4294967295 ?_
                refine pu 32 34 8589934591 ?_
                refine pu 33 34 17179869183 ?_
                refine done_ (done_of HT_.out (by kernel_rfl)) ?_
                try go_wp2
                go_meet
                case rel => exact ⟨_, (decide (t234 ≥ 0)), sB, H', ⟨by have := HJ1.out; have := HK2.out; first | omega | exact Nat.le_refl _⟩, ⟨kB BK227⟩, ⟨kB BK230⟩, ⟨bG⟩⟩
               ·rw [if_neg c28] at H
                exact absurd H (by simp)
              ·rw [if_neg c27] at H
               exact absurd H (by simp)
             ·rw [if_neg c25] at H
              have c25b0 : decide (0 < x18_2) = false := decide_eq_false c25
              clear c25
              have H' := xm H
              clear H
              try go_wp2
              have n0_ : Aside0 (((w14.setCell ⟨gb230, 0, none⟩ (.slice A229_0 ((rd_T52 l0_1 x18_2).f0.f0).length c229_0)).setCell ⟨gb230, 1, none⟩ (.int .i64 ((rd_T52 l0_1 x18_2).f1))).heap[gb227]? = some (.cells #[.int .i64 a0_0, .slice (some ad229) l0_1.length c0_1] 34 (0, 0))) := ⟨by (with_reducible repeat (first | refine xq ?_ _ | refine xr ?_ | refine xo ?_ _)); refine blk_far ?_ NB227_230.out _; (with_reducible repeat (first | refine xq ?_ _ | refine xr ?_ | refine xo ?_ _)); refine blk_far ?_ NB227_230.out _; (with_reducible repeat (first | refine xq ?_ _ | refine xr ?_ | refine xo ?_ _)); exact BK227.out⟩
              have n1_ : Aside0 (((w14.setCell ⟨gb230, 0, none⟩ (.slice A229_0 ((rd_T52 l0_1 x18_2).f0.f0).length c229_0)).setCell ⟨gb230, 1, none⟩ (.int .i64 ((rd_T52 l0_1 x18_2).f1))).heap[gb230]? = some (.cells #[.slice A229_0 ((rd_T52 l0_1 x18_2).f0.f0).length c229_0, .int .i64 ((rd_T52 l0_1 x18_2).f1)] 52 (0, 0))) := ⟨by (with_reducible repeat (first | refine xq ?_ _ | refine xr ?_ | refine xo ?_ _)); refine blk_put (cs := #[.slice A229_0 ((rd_T52 l0_1 x18_2).f0.f0).length c229_0, .int .i64 0]) ?_ 1 _ rfl; (with_reducible repeat (first | refine xq ?_ _ | refine xr ?_ | refine xo ?_ _)); refine blk_put (cs := #[.slice none 0 0, .int .i64 0]) ?_ 0 _ rfl; (with_reducible repeat (first | refine xq ?_ _ | refine xr ?_ | refine xo ?_ _)); exact BK230.out⟩
              have n2_ : Aside0 (Below w.heap.size w ((w14.setCell ⟨gb230, 0, none⟩ (.slice A229_0 ((rd_T52 l0_1 x18_2).f0.f0).length c229_0)).setCell ⟨gb230, 1, none⟩ (.int .i64 ((rd_T52 l0_1 x18_2).f1)))) := ⟨bG⟩
              (try clear BK227)
              (try clear BK230)
              (try clear HB)
              generalize ((w14.setCell ⟨gb230, 0, none⟩ (.slice A229_0 ((rd_T52 l0_1 x18_2).f0.f0).length c229_0)).setCell ⟨gb230, 1, none⟩ (.int .i64 ((rd_T52 l0_1 x18_2).f1))) = w34 at n0_ n1_ n2_ ⊢
              revert n0_ n1_ n2_; intro BK227 BK230 HB
              have n0_ := xm (xr BK227.out)
              have n1_ := xm (xr BK230.out)
              have n2_ := xm (xd HB.out)
              revert n0_ n1_ n2_; clear BK227 BK230 HB; intro BK227 BK230 HB
              refine start_ (n := 34) (S := fun w' => w'.cell? ⟨gb230, 0, none⟩ = some (.slice A229_0 ((rd_T52 l0_1 x18_2).f0.f0).length c229_0) ∧ w'.cell? ⟨gb230, 1, none⟩ = some (.int .i64 ((rd_T52 l0_1 x18_2).f1)) ∧ w'.cell? ⟨gb227, 0, none⟩ = some (.int .i64 a0_0) ∧ w'.cell? ⟨gb227, 1, none⟩ = some (.slice (some ad229) l0_1.length c0_1)) (ds := []) #[Z,Z,Z,Z,Z,Z,Z,Z,Z,Z,Z,Z,Z,Z,Z,Z,Z,Z,Z,Z,Z,Z,Z,Z,Z,Z,Z,Z,Z,Z,Z,Z,Z,Z] (by kernel_rfl) rfl rfl ⟨(xc BK230.out 0).trans rfl, (xc BK230.out 1).trans rfl, (xc BK227.out 0).trans rfl, (xc BK227.out 1).trans rfl⟩ (fun hHeld => ?_); refine with_tabW impl_GoodTable.tab6 impl_GoodTable.bits6 (fun HT_ HW_ => ?_)
              generalize w34.drew = w35 at BK227 BK230 HB hHeld ⊢
              refine pu 0 34 1 ?_
              refine pu 2 34 5 ?_
              refine tx 1 34 7 rfl rfl (take_ofW HT_.out HW_.out (by kernel_rfl)) hHeld (by rintro w' ⟨s0, s1, s2, s3⟩; go_simp; with_reducible rfl) ?_
              refine tx 3 34 15 rfl rfl (take_ofW HT_.out HW_.out (by kernel_rfl)) hHeld (by rintro w' ⟨s0, s1, s2, s3⟩; go_simp; with_reducible rfl) ?_
              refine one_ (i := 4) (N := some 27) #[Y,Y,Y,Y,Y,Z,Z,Z,Z,Z,Z,Z,Z,Z,Z,Z,Z,Z,Z,Z,Z,Z,Z,Z,Z,Z,Z,Z,Z,Z,Z,Z,Z,Z] rfl rfl (one_of HT_.out (by kernel_rfl)) (by decide) (fun K hK => ?_)
              refine goes_ Try.func34 (by kernel_rfl) rfl #[.agg #[.slice A229_0 ((rd_T52 l0_1 x18_2).f0.f0).length c229_0], .int .i64 a0_0] (by rfl) rfl rfl mB ?_
              with_reducible refine (impl_isRowOf.calls _ _ ((rd_T52 l0_1 x18_2).f0.f0) a0_0 true _ ?side1 ?side2 A17.out).mono ?_
              (case side1 => exact cB (Kd.C_below HR229_0.out HB.out))
              (case side2 => exact HC229_0.out)
              rintro e w36 ⟨rfl, hb⟩
              refine ⟨_, rfl, ?_⟩
              have n0_ := xm (blk_below (kB BK227) hb)
              have n1_ := xm (blk_below (kB BK230) hb)
              have n2_ := xm (below_step bG hb)
              revert n0_ n1_ n2_; clear BK227 BK230 HB; intro BK227 BK230 HB
              (try clear hb)
              (try clear hb2)
              (try clear hk)
              (try clear hi)
              refine hK.out _ _ ⟨(xc BK230.out 0).trans rfl, (xc BK230.out 1).trans rfl, (xc BK227.out 0).trans rfl, (xc BK227.out 1).trans rfl⟩ (fun hHeld => nC ?_)
              clear hK K
              refine pu 5 34 63 ?_
              refine pu 6 34 127 ?_
              refine pu 7 34 255 ?_
              refine tx 8 34 511 rfl rfl (take_ofW HT_.out HW_.out (by kernel_rfl)) hHeld (by rintro w' ⟨s0, s1, s2, s3⟩; go_simp; with_reducible rfl) ?_
              refine one_ (i := 9) (N := some 32) #[Y,Y,Y,Y,Y,Y,Y,Y,Y,Y,Z,Z,Z,Z,Z,Z,Z,Z,Z,Z,Z,Z,Z,Z,Z,Z,Z,Z,Z,Z,Z,Z,Z,Z] rfl rfl (one_of HT_.out (by kernel_rfl)) (by decide) (fun K hK => ?_)
              refine goes_ Try.func35 (by kernel_rfl) rfl #[.int .i64 ((rd_T52 l0_1 x18_2).f1)] (by rfl) rfl rfl mB ?_
              with_reducible refine (impl_isWeight.calls ((rd_T52 l0_1 x18_2).f1) true _ A19.out).mono ?_
              rintro e w' ⟨rfl, ⟨nd, rfl⟩⟩
              refine ⟨_, rfl, ?_⟩
              refine hK.out _ _ ⟨(xc BK230.out 0).trans rfl, (xc BK230.out 1).trans rfl, (xc BK227.out 0).trans rfl, (xc BK227.out 1).trans rfl⟩ (fun hHeld => nC ?_)
              clear hK K
              refine pu 10 34 2047 ?_
              refine pu 11 34 4095 ?_
              refine pu 12 34 8191 ?_
              refine pu 13 34 16383 ?_
              refine tx 14 34 32767 rfl rfl (take_ofW HT_.out HW_.out (by kernel_rfl)) hHeld (by rintro w' ⟨s0, s1, s2, s3⟩; go_simp; with_reducible rfl) ?_
              refine pu 15 34 65535 ?_
              refine pu 16 34 131071 ?_
              refine pu 17 34 262143 ?_
              refine pu 18 34 524287 ?_
              refine pu 19 34 1048575 ?_
              refine pu 20 34 2097151 ?_
              refine ou 21 34 4194303 ?_
              refine ou 22 34 8388607 ?_
              refine ou 23 34 16777215 ?_
              refine ou 24 34 33554431 ?_
              refine ou 25 34 67108863 ?_
              refine ou 26 34 134217727 ?_
              refine ou 27 34 268435455 ?_
              refine ou 28 34 536870911 ?_
              refine ou 29 34 1073741823 ?_
              refine ou 30 34 2147483647 ?_
              refine ou 31 34 4294967295 ?_
              refine pu 32 34 8589934591 ?_
              refine pu 33 34 17179869183 ?_
              refine done_ (done_of HT_.out (by kernel_rfl)) ?_
              try go_wp2
              go_meet
              case rel => exact ⟨_, (false), sB, H', ⟨by have := HJ1.out; have := HK2.out; first | omega | exact Nat.le_refl _⟩, ⟨kB BK227⟩, ⟨kB BK230⟩, ⟨bG⟩⟩
           ·replace c20 := Bool.eq_false_iff.mpr c20
            subst c20
            have H1 : (impl_GoodTable.j2 k2 l0_1 (l0_1.length : Int) x18_2 true a0_0 l0_1) = some r := by first | (with_reducible rfl) | (rw [if_neg (show ¬ (false = true) by decide)] at H; exact H)
            clear H
            have H := H1
            clear H1
            have H' := xm H
            clear H
            try go_wp2
            have n0_ : Aside0 (((w14.setCell ⟨gb230, 0, none⟩ (.slice A229_0 ((rd_T52 l0_1 x18_2).f0.f0).length c229_0)).setCell ⟨gb230, 1, none⟩ (.int .i64 ((rd_T52 l0_1 x18_2).f1))).heap[gb227]? = some (.cells #[.int .i64 a0_0, .slice (some ad229) l0_1.length c0_1] 34 (0, 0))) := ⟨by (with_reducible repeat (first | refine xq ?_ _ | refine xr ?_ | refine xo ?_ _)); refine blk_far ?_ NB227_230.out _; (with_reducible repeat (first | refine xq ?_ _ | refine xr ?_ | refine xo ?_ _)); refine blk_far ?_ NB227_230.out _; (with_reducible repeat (first | refine xq ?_ _ | refine xr ?_ | refine xo ?_ _)); exact BK227.out⟩
            have n1_ : Aside0 (((w14.setCell ⟨gb230, 0, none⟩ (.slice A229_0 ((rd_T52 l0_1 x18_2).f0.f0).length c229_0)).setCell ⟨gb230, 1, none⟩ (.int .i64 ((rd_T52 l0_1 x18_2).f1))).heap[gb230]? = some (.cells #[.slice A229_0 ((rd_T52 l0_1 x18_2).f0.f0).length c229_0, .int .i64 ((rd_T52 l0_1 x18_2).f1)] 52 (0, 0))) := ⟨by (with_reducible repeat (first | refine xq ?_ _ | refine xr ?_ | refine xo ?_ _)); refine blk_put (cs := #[.slice A229_0 ((rd_T52 l0_1 x18_2).f0.f0).length c229_0, .int .i64 0]) ?_ 1 _ rfl; (with_reducible repeat (first | refine xq ?_ _ | refine xr ?_ | refine xo ?_ _)); refine blk_put (cs := #[.slice none 0 0, .int .i64 0]) ?_ 0 _ rfl; (with_reducible repeat (first | refine xq ?_ _ | refine xr ?_ | refine xo ?_ _)); exact BK230.out⟩
            have n2_ : Aside0 (Below w.heap.size w ((w14.setCell ⟨gb230, 0, none⟩ (.slice A229_0 ((rd_T52 l0_1 x18_2).f0.f0).length c229_0)).setCell ⟨gb230, 1, none⟩ (.int .i64 ((rd_T52 l0_1 x18_2).f1)))) := ⟨bG⟩
            (try clear BK227)
            (try clear BK230)
            (try clear HB)
            generalize ((w14.setCell ⟨gb230, 0, none⟩ (.slice A229_0 ((rd_T52 l0_1 x18_2).f0.f0).length c229_0)).setCell ⟨gb230, 1, none⟩ (.int .i64 ((rd_T52 l0_1 x18_2).f1))) = w37 at n0_ n1_ n2_ ⊢
            revert n0_ n1_ n2_; intro BK227 BK230 HB
            have n0_ := xm (xr BK227.out)
            have n1_ := xm (xr BK230.out)
            have n2_ := xm (xd HB.out)
            revert n0_ n1_ n2_; clear BK227 BK230 HB; intro BK227 BK230 HB
            refine start_ (n := 34) (S := fun w' => w'.cell? ⟨gb230, 0, none⟩ = some (.slice A229_0 ((rd_T52 l0_1 x18_2).f0.f0).length c229_0) ∧ w'.cell? ⟨gb230, 1, none⟩ = some (.int .i64 ((rd_T52 l0_1 x18_2).f1)) ∧ w'.cell? ⟨gb227, 0, none⟩ = some (.int .i64 a0_0) ∧ w'.cell? ⟨gb227, 1, none⟩ = some (.slice (some ad229) l0_1.length c0_1)) (ds := []) #[Z,Z,Z,Z,Z,Z,Z,Z,Z,Z,Z,Z,Z,Z,Z,Z,Z,Z,Z,Z,Z,Z,Z,Z,Z,Z,Z,Z,Z,Z,Z,Z,Z,Z] (by kernel_rfl) rfl rfl ⟨(xc BK230.out 0).trans rfl, (xc BK230.out 1).trans rfl, (xc BK227.out 0).trans rfl, (xc BK227.out 1).trans rfl⟩ (fun hHeld => ?_); refine with_tabW impl_GoodTable.tab6 impl_GoodTable.bits6 (fun HT_ HW_ => ?_)
            generalize w37.drew = w38 at BK227 BK230 HB hHeld ⊢
            refine pu 0 34 1 ?_
            refine pu 2 34 5 ?_
            refine tx 1 34 7 rfl rfl (take_ofW HT_.out HW_.out (by kernel_rfl)) hHeld (by rintro w' ⟨s0, s1, s2, s3⟩; go_simp; with_reducible rfl) ?_
            refine tx 3 34 15 rfl rfl (take_ofW HT_.out HW_.out (by kernel_rfl)) hHeld (by rintro w' ⟨s0, s1, s2, s3⟩; go_simp; with_reducible rfl) ?_
            refine one_ (i := 4) (N := some 27) #[Y,Y,Y,Y,Y,Z,Z,Z,Z,Z,Z,Z,Z,Z,Z,Z,Z,Z,Z,Z,Z,Z,Z,Z,Z,Z,Z,Z,Z,Z,Z,Z,Z,Z] rfl rfl (one_of HT_.out (by kernel_rfl)) (by decide) (fun K hK => ?_)
            refine goes_ Try.func34 (by kernel_rfl) rfl #[.agg #[.slice A229_0 ((rd_T52 l0_1 x18_2).f0.f0).length c229_0], .int .i64 a0_0] (by rfl) rfl rfl mB ?_
            with_reducible refine (impl_isRowOf.calls _ _ ((rd_T52 l0_1 x18_2).f0.f0) a0_0 true _ ?side1 ?side2 A17.out).mono ?_
            (case side1 => exact cB (Kd.C_below HR229_0.out HB.out))
            (case side2 => exact HC229_0.out)
            rintro e w39 ⟨rfl, hb⟩
            refine ⟨_, rfl, ?_⟩
            have n0_ := xm (blk_below (kB BK227) hb)
            have n1_ := xm (blk_below (kB BK230) hb)
            have n2_ := xm (below_step bG hb)
            revert n0_ n1_ n2_; clear BK227 BK230 HB; intro BK227 BK230 HB
            (try clear hb)
            (try clear hb2)
            (try clear hk)
            (try clear hi)
            refine hK.out _ _ ⟨(xc BK230.out 0).trans rfl, (xc BK230.out 1).trans rfl, (xc BK227.out 0).trans rfl, (xc BK227.out 1).trans rfl⟩ (fun hHeld => nC ?_)
            clear hK K
            refine pu 5 34 63 ?_
            refine pu 6 34 127 ?_
            refine pu 7 34 255 ?_
            refine tx 8 34 511 rfl rfl (take_ofW HT_.out HW_.out (by kernel_rfl)) hHeld (by rintro w' ⟨s0, s1, s2, s3⟩; go_simp; with_reducible rfl) ?_
            refine one_ (i := 9) (N := some 32) #[Y,Y,Y,Y,Y,Y,Y,Y,Y,Y,Z,Z,Z,Z,Z,Z,Z,Z,Z,Z,Z,Z,Z,Z,Z,Z,Z,Z,Z,Z,Z,Z,Z,Z] rfl rfl (one_of HT_.out (by kernel_rfl)) (by decide) (fun K hK => ?_)
            refine goes_ Try.func35 (by kernel_rfl) rfl #[.int .i64 ((rd_T52 l0_1 x18_2).f1)] (by rfl) rfl rfl mB ?_
            with_reducible refine (impl_isWeight.calls ((rd_T52 l0_1 x18_2).f1) false _ A19.out).mono ?_
            rintro e w' ⟨rfl, ⟨nd, rfl⟩⟩
            refine ⟨_, rfl, ?_⟩
            refine hK.out _ _ ⟨(xc BK230.out 0).trans rfl, (xc BK230.out 1).trans rfl, (xc BK227.out 0).trans rfl, (xc BK227.out 1).trans rfl⟩ (fun hHeld => nC ?_)
            clear hK K
            refine pu 10 34 2047 ?_
            refine pu 11 34 4095 ?_
            refine pu 12 34 8191 ?_
            refine ou 13 34 16383 ?_
            refine ou 14 34 32767 ?_
            refine ou 15 34 65535 ?_
            refine pu 16 34 131071 ?_
            refine pu 17 34 262143 ?_
            refine ou 18 34 524287 ?_
            refine ou 19 34 1048575 ?_
            refine ou 20 34 2097151 ?_
            refine ou 21 34 4194303 ?_
            refine ou 22 34 8388607 ?_
            refine ou 23 34 16777215 ?_
            refine ou 24 34 33554431 ?_
            refine ou 25 34 67108863 ?_
            refine ou 26 34 134217727 ?_
            refine ou 27 34 268435455 ?_
            refine ou 28 34 536870911 ?_
            refine ou 29 34 1073741823 ?_
            refine ou 30 34 2147483647 ?_
            refine ou 31 34 4294967295 ?_
            refine ou 32 34 8589934591 ?_
            refine pu 33 34 17179869183 ?_
            refine done_ (done_of HT_.out (by kernel_rfl)) ?_
            try go_wp2
            go_meet
            case rel => exact ⟨_, (true), sB, H', ⟨by have := HJ1.out; have := HK2.out; first | omega | exact Nat.le_refl _⟩, ⟨kB BK227⟩, ⟨kB BK230⟩, ⟨bG⟩⟩
          ·replace c18 := Bool.eq_false_iff.mpr c18
           subst c18
           have H1 : (impl_GoodTable.j2 k2 l0_1 (l0_1.length : Int) x18_2 true a0_0 l0_1) = some r := by first | (with_reducible rfl) | (rw [if_neg (show ¬ (false = true) by decide)] at H; exact H)
           clear H
           have H := H1
           clear H1
           have H' := xm H
           clear H
           try go_wp2
           have n0_ : Aside0 (((w14.setCell ⟨gb230, 0, none⟩ (.slice A229_0 ((rd_T52 l0_1 x18_2).f0.f0).length c229_0)).setCell ⟨gb230, 1, none⟩ (.int .i64 ((rd_T52 l0_1 x18_2).f1))).heap[gb227]? = some (.cells #[.int .i64 a0_0, .slice (some ad229) l0_1.length c0_1] 34 (0, 0))) := ⟨by (with_reducible repeat (first | refine xq ?_ _ | refine xr ?_ | refine xo ?_ _)); refine blk_far ?_ NB227_230.out _; (with_reducible repeat (first | refine xq ?_ _ | refine xr ?_ | refine xo ?_ _)); refine blk_far ?_ NB227_230.out _; (with_reducible repeat (first | refine xq ?_ _ | refine xr ?_ | refine xo ?_ _)); exact BK227.out⟩
           have n1_ : Aside0 (((w14.setCell ⟨gb230, 0, none⟩ (.slice A229_0 ((rd_T52 l0_1 x18_2).f0.f0).length c229_0)).setCell ⟨gb230, 1, none⟩ (.int .i64 ((rd_T52 l0_1 x18_2).f1))).heap[gb230]? = some (.cells #[.slice A229_0 ((rd_T52 l0_1 x18_2).f0.f0).length c229_0, .int .i64 ((rd_T52 l0_1 x18_2).f1)] 52 (0, 0))) := ⟨by (with_reducible repeat (first | refine xq ?_ _ | refine xr ?_ | refine xo ?_ _)); refine blk_put (cs := #[.slice A229_0 ((rd_T52 l0_1 x18_2).f0.f0).length c229_0, .int .i64 0]) ?_ 1 _ rfl; (with_reducible repeat (first | refine xq ?_ _ | refine xr ?_ | refine xo ?_ _)); refine blk_put (cs := #[.slice none 0 0, .int .i64 0]) ?_ 0 _ rfl; (with_reducible repeat (first | refine xq ?_ _ | refine xr ?_ | refine xo ?_ _)); exact BK230.out⟩
           have n2_ : Aside0 (Below w.heap.size w ((w14.setCell ⟨gb230, 0, none⟩ (.slice A229_0 ((rd_T52 l0_1 x18_2).f0.f0).length c229_0)).setCell ⟨gb230, 1, none⟩ (.int .i64 ((rd_T52 l0_1 x18_2).f1)))) := ⟨bG⟩
           (try clear BK227)
           (try clear BK230)
           (try clear HB)
           generalize ((w14.setCell ⟨gb230, 0, none⟩ (.slice A229_0 ((rd_T52 l0_1 x18_2).f0.f0).length c229_0)).setCell ⟨gb230, 1, none⟩ (.int .i64 ((rd_T52 l0_1 x18_2).f1))) = w40 at n0_ n1_ n2_ ⊢
           revert n0_ n1_ n2_; intro BK227 BK230 HB
           have n0_ := xm (xr BK227.out)
           have n1_ := xm (xr BK230.out)
           have n2_ := xm (xd HB.out)
           revert n0_ n1_ n2_; clear BK227 BK230 HB; intro BK227 BK230 HB
           refine start_ (n := 34) (S := fun w' => w'.cell? ⟨gb230, 0, none⟩ = some (.slice A229_0 ((rd_T52 l0_1 x18_2).f0.f0).length c229_0) ∧ w'.cell? ⟨gb230, 1, none⟩ = some (.int .i64 ((rd_T52 l0_1 x18_2).f1)) ∧ w'.cell? ⟨gb227, 0, none⟩ = some (.int .i64 a0_0) ∧ w'.cell? ⟨gb227, 1, none⟩ = some (.slice (some ad229) l0_1.length c0_1)) (ds := []) #[Z,Z,Z,Z,Z,Z,Z,Z,Z,Z,Z,Z,Z,Z,Z,Z,Z,Z,Z,Z,Z,Z,Z,Z,Z,Z,Z,Z,Z,Z,Z,Z,Z,Z] (by kernel_rfl) rfl rfl ⟨(xc BK230.out 0).trans rfl, (xc BK230.out 1).trans rfl, (xc BK227.out 0).trans rfl, (xc BK227.out 1).trans rfl⟩ (fun hHeld => ?_); refine with_tabW impl_GoodTable.tab6 impl_GoodTable.bits6 (fun HT_ HW_ => ?_)
           generalize w40.drew = w41 at BK227 BK230 HB hHeld ⊢
           refine pu 0 34 1 ?_
           refine pu 2 34 5 ?_
           refine tx 1 34 7 rfl rfl (take_ofW HT_.out HW_.out (by kernel_rfl)) hHeld (by rintro w' ⟨s0, s1, s2, s3⟩; go_simp; with_reducible rfl) ?_
           refine tx 3 34 15 rfl rfl (take_ofW HT_.out HW_.out (by kernel_rfl)) hHeld (by rintro w' ⟨s0, s1, s2, s3⟩; go_simp; with_reducible rfl) ?_
           refine one_ (i := 4) (N := some 27) #[Y,Y,Y,Y,Y,Z,Z,Z,Z,Z,Z,Z,Z,Z,Z,Z,Z,Z,Z,Z,Z,Z,Z,Z,Z,Z,Z,Z,Z,Z,Z,Z,Z,Z] rfl rfl (one_of HT_.out (by kernel_rfl)) (by decide) (fun K hK => ?_)
           refine goes_ Try.func34 (by kernel_rfl) rfl #[.agg #[.slice A229_0 ((rd_T52 l0_1 x18_2).f0.f0).length c229_0], .int .i64 a0_0] (by rfl) rfl rfl mB ?_
           with_reducible refine (impl_isRowOf.calls _ _ ((rd_T52 l0_1 x18_2).f0.f0) a0_0 false _ ?side1 ?side2 A17.out).mono ?_
           (case side1 => exact cB (Kd.C_below HR229_0.out HB.out))
           (case side2 => exact HC229_0.out)
           rintro e w42 ⟨rfl, hb⟩
           refine ⟨_, rfl, ?_⟩
           have n0_ := xm (blk_below (kB BK227) hb)
           have n1_ := xm (blk_below (kB BK230) hb)
           have n2_ := xm (below_step bG hb)
           revert n0_ n1_ n2_; clear BK227 BK230 HB; intro BK227 BK230 HB
           (try clear hb)
           (try clear hb2)
           (try clear hk)
           (try clear hi)
           refine hK.out _ _ ⟨(xc BK230.out 0).trans rfl, (xc BK230.out 1).trans rfl, (xc BK227.out 0).trans rfl, (xc BK227.out 1).trans rfl⟩ (fun hHeld => nC ?_)
           clear hK K
           refine pu 5 34 63 ?_
           refine pu 6 34 127 ?_
           refine ou 7 34 255 ?_
           refine ou 8 34 511 ?_
           refine ou 9 34 1023 ?_
           refine ou 10 34 2047 ?_
           refine pu 11 34 4095 ?_
           refine pu 12 34 8191 ?_
           refine ou 13 34 16383 ?_
           refine ou 14 34 32767 ?_
           refine ou 15 34 65535 ?_
           refine pu 16 34 131071 ?_
           refine pu 17 34 262143 ?_
           refine ou 18 34 524287 ?_
           refine ou 19 34 1048575 ?_
           refine ou 20 34 2097151 ?_
           refine ou 21 34 4194303 ?_
           refine ou 22 34 8388607 ?_
           refine ou 23 34 16777215 ?_
           refine ou 24 34 33554431 ?_
           refine ou 25 34 67108863 ?_
           refine ou 26 34 134217727 ?_
           refine ou 27 34 268435455 ?_
           refine ou 28 34 536870911 ?_
           refine ou 29 34 1073741823 ?_
           refine ou 30 34 2147483647 ?_
           refine ou 31 34 4294967295 ?_
           refine ou 32 34 8589934591 ?_
           refine pu 33 34 17179869183 ?_
           refine done_ (done_of HT_.out (by kernel_rfl)) ?_
           try go_wp2
           go_meet
           case rel => exact ⟨_, (true), sB, H', ⟨by have := HJ1.out; have := HK2.out; first | omega | exact Nat.le_refl _⟩, ⟨kB BK227⟩, ⟨kB BK230⟩, ⟨bG⟩⟩
         case rest =>
          clear HC13
          try clear c1
          try clear c2
          try clear p2
          try clear c3
          try clear c18
          try clear c20
          try clear c22
          try clear c34
          try clear c35
          obtain ⟨kq, x56_12, rfl, HA, HJ12, BK227, BK230, HB⟩ := hcut
          cases kq with
          | zero => exact absurd HA.out (by simp [impl_GoodTable.j2])
          | succ kj12 =>
           have H := HA.out
           clear HA
           simp only [impl_GoodTable.j2] at H
           by_cases c43 : x56_12 = true
           ·subst c43
            have H1 : (some false) = some r := by first | (with_reducible rfl) | (rw [if_pos rfl] at H; exact H)
            clear H
            have H := H1
            clear H1
            obtain rfl := Option.some.inj H
            go_wp2
            go_ret
            exact ⟨eB, bG⟩
           ·replace c43 := Bool.eq_false_iff.mpr c43
            subst c43
            have H1 : (impl_GoodTable.l0 kj12 l0_1 (l0_1.length : Int) (wrap64 (x18_2 + 1)) a0_0 l0_1) = some r := by first | (with_reducible rfl) | (rw [if_neg (show ¬ (false = true) by decide)] at H; exact H)
            clear H
            have H := H1
            clear H1
            have H' := xm H
            clear H
            go_wp2
            go_roundg kj12
            case measure => have := HJ1.out; have := HK2.out; have := HJ12.out; omega
            case rel => exact ⟨(wrap64 (x18_2 + 1)), sB, H', ⟨by have := HJ1.out; have := HK2.out; have := HJ12.out; omega⟩, ⟨kB BK227⟩, ⟨bG⟩⟩
        ·rw [if_neg c12] at H
         exact absurd H (by simp)
       ·rw [if_neg c11] at H
        exact absurd H (by simp)
      ·rw [if_neg c10] at H
       have c10b0 : decide (x18_2 < (l0_1.length : Int)) = false := decide_eq_false c10
       clear c10
       obtain rfl := Option.some.inj H
       go_wp2
       go_ret
       exact ⟨eB, bG⟩

end Go.Proofs.Ytmelechhnimlnac.G
