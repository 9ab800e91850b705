/- Written by a program of this claim's own, out of the translation: functions of the program as plain functions, and that the calls answer as these. No conditions. -/
import Derived.Test.YtmelechhnimlnacG0
import Derived.Test.YtmelechhnimlnacG2
import Derived.Test.YtmelechhnimlnacG4
namespace Go.Proofs.Ytmelechhnimlnac.G
open Go.RowKit Go.Proofs.Ytmelechhnimlnac.X Go.Proofs.YtmelechhnimlnacW.PrintWords Go.Proofs.YtmelechhnimlnacW.PrintLast Go.Proofs.YtmelechhnimlnacW.PrintMore
attribute [local go_sem] max2_int min2_int max_two min_two max_three min_three max_four min_four   -- for this text's walks alone
set_option linter.unusedVariables false
set_option linter.unusedSimpArgs false

/-! ### spec_l7Holds: function 16 -/
mutual
def spec_l7Holds.l0 : Nat → List (S52) → List (S52) → Int → Int → List Int → List Int → Option (Bool)
 | 0, _, _, _, _, _, _ => none
 | k + 1, x0, x9, x10, x11, x144000, x144001 => if x11 < x10 then (if 0 ≤ x11 then (if x11 < (x9.length : Int) then (if x11 ≤ (x0.length : Int) then ((some (x0.take (x11 : Int).toNat : List (S52))).bind fun y146 => (spec_l7Holds.l1 k x0 x9 x10 x11 y146 (y146.length : Int) 0 x144000 x144001 ((rd_T52 x9 x11).f0.f0) ((rd_T52 x9 x11).f1))) else (none)) else (none)) else (none)) else (some true)
def spec_l7Holds.l1 : Nat → List (S52) → List (S52) → Int → Int → List (S52) → Int → Int → List Int → List Int → List Int → Int → Option (Bool)
 | 0, _, _, _, _, _, _, _, _, _, _, _ => none
 | k + 1, x0, x9, x10, x11, x18, x19, x20, x144000, x144001, x146000, x146001 => if x20 < x19 then (if 0 ≤ x20 then (if x20 < (x18.length : Int) then ((spec_l1Pick.f k x146000 x144000).bind fun t152 => ((spec_l1Pick.f k ((rd_T52 x18 x20).f0.f0) x144000).bind fun t155 => ((spec_l1Compare.f k t152 t155).bind fun t158 => (if t158 = 0 then ((spec_l1Pick.f k x146000 x144001).bind fun t159 => ((spec_l1Pick.f k ((rd_T52 x18 x20).f0.f0) x144001).bind fun t162 => ((spec_l1Compare.f k t159 t162).bind fun t165 => (if t165 = 0 then (spec_l7Holds.l1 k x0 x9 x10 x11 x18 x19 (wrap64 (x20 + 1)) x144000 x144001 x146000 x146001) else (some false))))) else (spec_l7Holds.l1 k x0 x9 x10 x11 x18 x19 (wrap64 (x20 + 1)) x144000 x144001 x146000 x146001))))) else (none)) else (none)) else (spec_l7Holds.l0 k x0 x9 x10 (wrap64 (x11 + 1)) x144000 x144001)
end
def spec_l7Holds.f (k : Nat) (l0 : List (S52)) (l1_0 : List Int) (l1_1 : List Int) : Option (Bool) := spec_l7Holds.l0 k l0 l0 (l0.length : Int) 0 l1_0 l1_1
theorem spec_l7Holds.mono_l : ∀ k, (∀ y0 y1 y2 y3 y4 y5, LeO (spec_l7Holds.l0 k y0 y1 y2 y3 y4 y5) (spec_l7Holds.l0 (k + 1) y0 y1 y2 y3 y4 y5)) ∧ (∀ y0 y1 y2 y3 y4 y5 y6 y7 y8 y9 y10, LeO (spec_l7Holds.l1 k y0 y1 y2 y3 y4 y5 y6 y7 y8 y9 y10) (spec_l7Holds.l1 (k + 1) y0 y1 y2 y3 y4 y5 y6 y7 y8 y9 y10))
 | 0 => ⟨fun _ _ _ _ _ _ r h => by simp [spec_l7Holds.l0] at h, fun _ _ _ _ _ _ _ _ _ _ _ r h => by simp [spec_l7Holds.l1] at h⟩
 | k + 1 => by
  obtain ⟨ih0, ih1⟩ := spec_l7Holds.mono_l k
  refine ⟨?_, ?_⟩
  ·intro y0 y1 y2 y3 y4 y5
   unfold spec_l7Holds.l0
   repeat' first
   | (with_reducible exact ih0 _ _ _ _ _ _)
   | (with_reducible exact ih1 _ _ _ _ _ _ _ _ _ _ _)
   | (with_reducible exact spec_l1Compare.mono _ _ _)
   | (with_reducible exact spec_l1Pick.mono _ _ _)
   | (with_reducible exact LeO.refl _)
   | (with_reducible exact LeO.none _)
   | (with_reducible refine LeO.ite ?_ ?_)
   | (with_reducible refine LeO.bind ?_ (fun _ => ?_))
   | exact ih0 _ _ _ _ _ _
   | exact ih1 _ _ _ _ _ _ _ _ _ _ _
   | exact spec_l1Compare.mono _ _ _
   | exact spec_l1Pick.mono _ _ _
   | exact LeO.none _
   | refine LeO.ite ?_ ?_
   | refine LeO.bind ?_ (fun _ => ?_)
  ·intro y0 y1 y2 y3 y4 y5 y6 y7 y8 y9 y10
   unfold spec_l7Holds.l1
   repeat' first
   | (with_reducible exact ih0 _ _ _ _ _ _)
   | (with_reducible exact ih1 _ _ _ _ _ _ _ _ _ _ _)
   | (with_reducible exact spec_l1Compare.mono _ _ _)
   | (with_reducible exact spec_l1Pick.mono _ _ _)
   | (with_reducible exact LeO.refl _)
   | (with_reducible exact LeO.none _)
   | (with_reducible refine LeO.ite ?_ ?_)
   | (with_reducible refine LeO.bind ?_ (fun _ => ?_))
   | exact ih0 _ _ _ _ _ _
   | exact ih1 _ _ _ _ _ _ _ _ _ _ _
   | exact spec_l1Compare.mono _ _ _
   | exact spec_l1Pick.mono _ _ _
   | exact LeO.none _
   | refine LeO.ite ?_ ?_
   | refine LeO.bind ?_ (fun _ => ?_)
theorem spec_l7Holds.mono : ∀ a0 a1 a2 k, LeO (spec_l7Holds.f k a0 a1 a2) (spec_l7Holds.f (k + 1) a0 a1 a2) := by
 intro a0 a1 a2 k
 obtain ⟨ih0, ih1⟩ := spec_l7Holds.mono_l k
 unfold spec_l7Holds.f
 repeat' first
   | (with_reducible exact ih0 _ _ _ _ _ _)
   | (with_reducible exact ih1 _ _ _ _ _ _ _ _ _ _ _)
   | (with_reducible exact spec_l1Compare.mono _ _ _)
   | (with_reducible exact spec_l1Pick.mono _ _ _)
   | (with_reducible exact LeO.refl _)
   | (with_reducible exact LeO.none _)
   | (with_reducible refine LeO.ite ?_ ?_)
   | (with_reducible refine LeO.bind ?_ (fun _ => ?_))
   | exact ih0 _ _ _ _ _ _
   | exact ih1 _ _ _ _ _ _ _ _ _ _ _
   | exact spec_l1Compare.mono _ _ _
   | exact spec_l1Pick.mono _ _ _
   | exact LeO.none _
   | refine LeO.ite ?_ ?_
   | refine LeO.bind ?_ (fun _ => ?_)
def spec_l7Holds.T7 : Bool × List (List Nat × List Nat) := (true, [([], []), ([0], [0]), ([], []), ([2], [2]), ([1, 3], [1, 3]), ([], []), ([5], [5]), ([], []), ([7], [7]), ([6, 8, 4], [6, 8]), ([4, 9, 9], [4, 9]), ([10], [10]), ([11, 10], [11]), ([12], [12]), ([13, 12], [12, 13]), ([12], [12]), ([15, 12], [12, 15]), ([14, 16, 12, 12], [12, 14, 16]), ([12], [12]), ([18, 12], [12, 18]), ([12], [12]), ([20, 12], [12, 20]), ([19, 21, 17, 12], [12, 19, 21]), ([17, 22, 22, 12], [12, 17, 22]), ([23, 12], [12, 23]), ([12, 24], [12, 24])])
def spec_l7Holds.B7 : List Nat := [0, 1, 0, 4, 15, 0, 32, 0, 128, 511, 1023, 2047, 4095, 8191, 16383, 8191, 40959, 131071, 8191, 270335, 8191, 1056767, 4194303, 8388607, 16777215, 33554431]
theorem spec_l7Holds.tab7 : rtab .any (opsOf Try.f16 7) = spec_l7Holds.T7 := by kernel_rfl
theorem spec_l7Holds.bits7 : waitsOk spec_l7Holds.T7.2 spec_l7Holds.B7 = true := by kernel_rfl
set_option maxHeartbeats 8000000 in
set_option maxRecDepth 100000 in
theorem spec_l7Holds.calls (k : Nat) (A0 : Option Addr) (c0 : Nat) (l0 : List (S52)) (A1_0 : Option Addr) (c1_0 : Nat) (l1_0 : List Int) (A1_1 : Option Addr) (c1_1 : Nat) (l1_1 : List Int) (r : Bool) (w : World) (hr0 : Kd.C k52 w A0 l0.length l0) (hc0 : l0.length ≤ c0) (hr1_0 : Kd.C (Kd.int .i64) w A1_0 l1_0.length l1_0) (hc1_0 : l1_0.length ≤ c1_0) (hr1_1 : Kd.C (Kd.int .i64) w A1_1 l1_1.length l1_1) (hc1_1 : l1_1.length ≤ c1_1) (h : spec_l7Holds.f k l0 l1_0 l1_1 = some r) :
  Calls Try.prog 16 #[.slice A0 l0.length c0, .agg #[.slice A1_0 l1_0.length c1_0, .slice A1_1 l1_1.length c1_1]] w fun e w' => e = .returned (.bool r) ∧ Below w.heap.size w w' := by
 have hu36 := Try.underlying36
 have hu52 := Try.underlying52
 have hu50 := Try.underlying50
 have HR0 := xm hr0
 have HC0 := xm hc0
 clear hr0 hc0
 have HR1_0 := xm hr1_0
 have HC1_0 := xm hc1_0
 clear hr1_0 hc1_0
 have HR1_1 := xm hr1_1
 have HC1_1 := xm hc1_1
 clear hr1_1 hc1_1
 have HB := xm (Below.refl w.heap.size w)
 have H : (spec_l7Holds.l0 k l0 l0 (l0.length : Int) 0 l1_0 l1_1) = some r := h
 clear h
 have H' := xm H
 clear H
 go_enter Try.func16, Try.ntmps16
 go_wp2_with (first | ((with_reducible refine gate_dst (N := 3) rfl ?_); refine box_event ?hg (N := 3) ?hd (cs := #[.slice A1_0 l1_0.length c1_0, .slice A1_1 l1_1.length c1_1]) (t := 36) ?hr ?_; (case hd => rfl); (case hg => rfl); (case hr => exact zB); intro gb143 hg w3 hbox hb; have n0_ := xm (below_step bB hb); have n1_ := xm (hbox); have n2_ := xm ((by rw [hg]; exact (xz bB) : w.heap.size ≤ gb143)); have n3_ := xm ((by rw [hg]; exact (xz bB) : w.heap.size ≤ gb143)); revert n0_ n1_ n2_ n3_; clear HB; intro HB BK143 GW143 GE143; clear hb hbox hg))
 go_loopg [11] k (fun kq v11 w' => ∃ (x11_1 : Int), v11 = .int .i64 x11_1 ∧ Aside0 (spec_l7Holds.l0 kq l0 l0 (l0.length : Int) x11_1 l1_0 l1_1 = some r) ∧ Aside0 (kq ≤ k) ∧ Aside0 (w'.heap[gb143]? = some (.cells #[(.slice A1_0 l1_0.length c1_0), (.slice A1_1 l1_1.length c1_1)] 36 (0, 0))) ∧ Aside0 (Below w.heap.size w w'))
 case atStart => exact ⟨(0), sB, H', ⟨Nat.le_refl _⟩, ⟨kB BK143⟩, ⟨bG⟩⟩
 case round =>
  clear H'
  try clear c1
  try clear p2
  obtain ⟨x11_1, rfl, HA, HK1, BK143, HB⟩ := hrel
  cases gk with
  | zero => exact absurd HA.out (by simp [spec_l7Holds.l0])
  | succ k1 =>
   have H := HA.out
   clear HA
   simp only [spec_l7Holds.l0] at H
   by_cases c4 : x11_1 < (l0.length : Int)
   ·rw [if_pos c4] at H
    have c4b0 : decide (x11_1 < (l0.length : Int)) = true := decide_eq_true c4
    clear c4
    by_cases c5 : 0 ≤ x11_1
    ·rw [if_pos c5] at H
     have c5b0 : decide (0 ≤ x11_1) = true := decide_eq_true c5
     clear c5
     by_cases c6 : x11_1 < (l0.length : Int)
     ·rw [if_pos c6] at H
      have c6b0 : decide (x11_1 < (l0.length : Int)) = true := decide_eq_true c6
      clear c6
      have c7b0 := eq_true (of_decide_eq_true aB : 0 ≤ x11_1)
      by_cases c8 : x11_1 ≤ (l0.length : Int)
      ·rw [if_pos c8] at H
       have c8b0 := eq_true c8
       have c8b1 : decide (x11_1 ≤ (l0.length : Int)) = true := decide_eq_true c8
       clear c8
       obtain ⟨y146, hy146⟩ : ∃ y_ : List (S52), y_ = (l0.take (x11_1 : Int).toNat) := ⟨_, rfl⟩
       replace H : (spec_l7Holds.l1 k1 l0 l0 (l0.length : Int) x11_1 y146 (y146.length : Int) 0 l1_0 l1_1 ((rd_T52 l0 x11_1).f0.f0) ((rd_T52 l0 x11_1).f1)) = some r := by first | (rw [hy146]; with_reducible exact H) | (have H2_ := (Option.bind_some _ _).symm.trans H; rw [hy146]; with_reducible exact H2_) | (have H2_ := (Option.bind_some _ _).symm.trans H; with_reducible exact H2_) | with_reducible exact H | (rw [hy146]; exact H) | exact H
       have Ny146 := xm hy146
       clear hy146
       have H' := xm H
       clear H
       have p144 : 0 ≤ (x11_1 : Int) := of_decide_eq_true aB
       have q144 : x11_1 < (l0.length : Int) := of_decide_eq_true aB
       obtain ⟨ad144, A144_0, c144_0, e144, hx144_0, hx144_1, hl144_0, hi144_0⟩ := at_T52 HR0.out x11_1 p144 q144
       cases e144
       replace hx144_0 := hU hx144_0
       replace hx144_1 := hU hx144_1
       have HR144_0 := xm hi144_0
       have HC144_0 := xm hl144_0
       clear hi144_0 hl144_0
       replace p144 := eq_true p144
       replace q144 := eq_true q144
       go_wp2_with (first | ((with_reducible refine gate_dst (N := 6) rfl ?_); refine box_event ?hg (N := 6) ?hd (cs := #[.slice none 0 0, .int .i64 0]) (t := 52) ?hr ?_; (case hd => rfl); (case hg => rfl); (case hr => exact zB); intro gb145 hg w9 hbox hb; have n0_ := xm (blk_below (kB BK143) hb); have n1_ := xm (below_step bG hb); have n2_ := xm (hbox); have n3_ := xm ((by rw [hg]; exact (xz bG) : w.heap.size ≤ gb145)); have n4_ := xm ((by rw [hg]; exact (xz bG) : w.heap.size ≤ gb145)); have n5_ := xm ((by rw [hg]; exact Nat.ne_of_lt (blk_lt (kB BK143)) : gb143 ≠ gb145)); have n6_ := xm ((by rw [hg]; exact Nat.ne_of_gt (blk_lt (kB BK143)) : gb145 ≠ gb143)); revert n0_ n1_ n2_ n3_ n4_ n5_ n6_; clear BK143 HB; intro BK143 HB BK145 GW145 GE145 NB143_145 NB145_143; clear hb hbox hg; have hnb10 := NB145_143.out; have hnc10 := NB143_145.out; obtain ⟨hcz11_0, hcz11_1, hfz11_0, hfz11_1⟩ := cz2 BK145.out) | ((with_reducible refine gate_store (t := 52) (p := 6) rfl ?_); refine store_event (t := 52) (p := 6) (v := ?vo_w12) (w1 := ((w9.setCell ⟨gb145, 0, none⟩ (.slice A144_0 ((rd_T52 l0 x11_1).f0.f0).length c144_0)).setCell ⟨gb145, 1, none⟩ (.int .i64 ((rd_T52 l0 x11_1).f1)))) ?hg ?ho ?hn ?hr ?_; (case ho => rfl); (case hg => rfl); (case hn => rfl); (case hr => exact zB); intro w12 hw; have n0_ : Aside0 (w12.heap[gb143]? = some (.cells #[.slice A1_0 l1_0.length c1_0, .slice A1_1 l1_1.length c1_1] 36 (0, 0))) := ⟨(by rw [hw]; exact (by (with_reducible repeat (first | refine xq ?_ _ | refine xr ?_ | refine xo ?_ _)); refine blk_far ?_ NB143_145.out _; (with_reducible repeat (first | refine xq ?_ _ | refine xr ?_ | refine xo ?_ _)); refine blk_far ?_ NB143_145.out _; (with_reducible repeat (first | refine xq ?_ _ | refine xr ?_ | refine xo ?_ _)); exact BK143.out))⟩; have n1_ : Aside0 (w12.heap[gb145]? = some (.cells #[.slice A144_0 ((rd_T52 l0 x11_1).f0.f0).length c144_0, .int .i64 ((rd_T52 l0 x11_1).f1)] 52 (0, 0))) := ⟨(by rw [hw]; exact (by (with_reducible repeat (first | refine xq ?_ _ | refine xr ?_ | refine xo ?_ _)); refine blk_put (cs := #[.slice A144_0 ((rd_T52 l0 x11_1).f0.f0).length c144_0, .int .i64 0]) ?_ 1 _ rfl; (with_reducible repeat (first | refine xq ?_ _ | refine xr ?_ | refine xo ?_ _)); refine blk_put (cs := #[.slice none 0 0, .int .i64 0]) ?_ 0 _ rfl; (with_reducible repeat (first | refine xq ?_ _ | refine xr ?_ | refine xo ?_ _)); exact BK145.out))⟩; have n2_ : Aside0 (Below w.heap.size w w12) := ⟨(by rw [hw]; exact bG)⟩; revert n0_ n1_ n2_; clear hw BK143 BK145 HB; intro BK143 BK145 HB; have q13 : (x11_1 : Int) ≤ ((l0.length : Int) : Int) := of_decide_eq_true aB; obtain ⟨i013, hi013, _, hsz13, _⟩ := info_parts info52; have hroom13 : l0.length ≤ c0 := HC0.out; have hC13 : Kd.C k52 _ (some ad144) l0.length l0 := HR0.out; have hcut13 := cut_to (P := Try.prog) 32 52 .i64 Try.underlying32 hi013 (some ad144) l0.length c0 x11_1 (of_decide_eq_true aB) q13 hroom13; have hr13 := Kd.C_take (m := (x11_1 : Int).toNat) hC13 (by omega); have hy13 : y146.length = (x11_1 : Int).toNat := (by rw [Ny146.out, List.length_take]; omega); rw [← Ny146.out] at hr13; rw [← hy13] at hcut13; have HR149 := xm hr13; have HC149 := xm (show y146.length ≤ c0 from by omega); clear hr13 hC13 hroom13 hi013 hsz13; have KY13 := xm hy13; clear hy13; replace q13 := eq_true q13))
       go_loopg [20] k1 (fun kq v20 w' => ∃ (x20_2 : Int), v20 = .int .i64 x20_2 ∧ Aside0 (spec_l7Holds.l1 kq l0 l0 (l0.length : Int) x11_1 y146 (y146.length : Int) x20_2 l1_0 l1_1 ((rd_T52 l0 x11_1).f0.f0) ((rd_T52 l0 x11_1).f1) = some r) ∧ Aside0 (kq ≤ k1) ∧ Aside0 (w'.heap[gb143]? = some (.cells #[(.slice A1_0 l1_0.length c1_0), (.slice A1_1 l1_1.length c1_1)] 36 (0, 0))) ∧ Aside0 (w'.heap[gb145]? = some (.cells #[(.slice A144_0 ((rd_T52 l0 x11_1).f0.f0).length c144_0), .int .i64 ((rd_T52 l0 x11_1).f1)] 52 (0, 0))) ∧ Aside0 (Below w.heap.size w w'))
       case atStart => exact ⟨(0), sB, H', ⟨Nat.le_refl _⟩, ⟨kB BK143⟩, ⟨kB BK145⟩, ⟨bG⟩⟩
       case round =>
        clear H'
        try clear c1
        try clear p1
        try clear q1
        try clear hx1
        try clear p2
        try clear c4
        try clear c4b0
        try clear c5
        try clear c5b0
        try clear c6
        try clear c6b0
        try clear c7
        try clear c7b0
        try clear c8
        try clear c8b0 c8b1
        try clear c10
        try clear q13
        try clear hcz11_0 hcz11_1 hfz11_0 hfz11_1
        try clear hx144_0
        try clear hx144_1
        try clear p144
        try clear p2
        try clear q13
        try clear q144
        obtain ⟨x20_2, rfl, HA, HK2, BK143, BK145, HB⟩ := hrel
        cases gk with
        | zero => exact absurd HA.out (by simp [spec_l7Holds.l1])
        | succ k2 =>
         have H := HA.out
         clear HA
         simp only [spec_l7Holds.l1] at H
         by_cases c14 : x20_2 < (y146.length : Int)
         ·rw [if_pos c14] at H
          have c14b0 : decide (x20_2 < (y146.length : Int)) = true := decide_eq_true c14
          clear c14
          by_cases c15 : 0 ≤ x20_2
          ·rw [if_pos c15] at H
           have c15b0 : decide (0 ≤ x20_2) = true := decide_eq_true c15
           clear c15
           by_cases c16 : x20_2 < (y146.length : Int)
           ·rw [if_pos c16] at H
            have c16b0 : decide (x20_2 < (y146.length : Int)) = true := decide_eq_true c16
            clear c16
            replace H := Option.bind_eq_some_iff.mp H
            obtain ⟨t152, A170, H⟩ := H
            replace H : ((spec_l1Pick.f k2 ((rd_T52 y146 x20_2).f0.f0) l1_0).bind fun t155 => ((spec_l1Compare.f k2 t152 t155).bind fun t158 => (if t158 = 0 then ((spec_l1Pick.f k2 ((rd_T52 l0 x11_1).f0.f0) l1_1).bind fun t159 => ((spec_l1Pick.f k2 ((rd_T52 y146 x20_2).f0.f0) l1_1).bind fun t162 => ((spec_l1Compare.f k2 t159 t162).bind fun t165 => (if t165 = 0 then (spec_l7Holds.l1 k2 l0 l0 (l0.length : Int) x11_1 y146 (y146.length : Int) (wrap64 (x20_2 + 1)) l1_0 l1_1 ((rd_T52 l0 x11_1).f0.f0) ((rd_T52 l0 x11_1).f1)) else (some false))))) else (spec_l7Holds.l1 k2 l0 l0 (l0.length : Int) x11_1 y146 (y146.length : Int) (wrap64 (x20_2 + 1)) l1_0 l1_1 ((rd_T52 l0 x11_1).f0.f0) ((rd_T52 l0 x11_1).f1))))) = some r := H
            have A17 := xm A170
            clear A170
            replace H := Option.bind_eq_some_iff.mp H
            obtain ⟨t155, A180, H⟩ := H
            replace H : ((spec_l1Compare.f k2 t152 t155).bind fun t158 => (if t158 = 0 then ((spec_l1Pick.f k2 ((rd_T52 l0 x11_1).f0.f0) l1_1).bind fun t159 => ((spec_l1Pick.f k2 ((rd_T52 y146 x20_2).f0.f0) l1_1).bind fun t162 => ((spec_l1Compare.f k2 t159 t162).bind fun t165 => (if t165 = 0 then (spec_l7Holds.l1 k2 l0 l0 (l0.length : Int) x11_1 y146 (y146.length : Int) (wrap64 (x20_2 + 1)) l1_0 l1_1 ((rd_T52 l0 x11_1).f0.f0) ((rd_T52 l0 x11_1).f1)) else (some false))))) else (spec_l7Holds.l1 k2 l0 l0 (l0.length : Int) x11_1 y146 (y146.length : Int) (wrap64 (x20_2 + 1)) l1_0 l1_1 ((rd_T52 l0 x11_1).f0.f0) ((rd_T52 l0 x11_1).f1)))) = some r := H
            have A18 := xm A180
            clear A180
            replace H := Option.bind_eq_some_iff.mp H
            obtain ⟨t158, A190, H⟩ := H
            replace H : (if t158 = 0 then ((spec_l1Pick.f k2 ((rd_T52 l0 x11_1).f0.f0) l1_1).bind fun t159 => ((spec_l1Pick.f k2 ((rd_T52 y146 x20_2).f0.f0) l1_1).bind fun t162 => ((spec_l1Compare.f k2 t159 t162).bind fun t165 => (if t165 = 0 then (spec_l7Holds.l1 k2 l0 l0 (l0.length : Int) x11_1 y146 (y146.length : Int) (wrap64 (x20_2 + 1)) l1_0 l1_1 ((rd_T52 l0 x11_1).f0.f0) ((rd_T52 l0 x11_1).f1)) else (some false))))) else (spec_l7Holds.l1 k2 l0 l0 (l0.length : Int) x11_1 y146 (y146.length : Int) (wrap64 (x20_2 + 1)) l1_0 l1_1 ((rd_T52 l0 x11_1).f0.f0) ((rd_T52 l0 x11_1).f1))) = some r := H
            have A19 := xm A190
            clear A190
            by_cases c20 : t158 = 0
            ·rw [if_pos c20] at H
             have c20b0 : (t158 == 0) = true := beq_iff_eq.mpr c20
             have c20b1 : (t158 != 0) = false := bne_eq_false_iff_eq.mpr c20
             clear c20
             replace H := Option.bind_eq_some_iff.mp H
             obtain ⟨t159, A210, H⟩ := H
             replace H : ((spec_l1Pick.f k2 ((rd_T52 y146 x20_2).f0.f0) l1_1).bind fun t162 => ((spec_l1Compare.f k2 t159 t162).bind fun t165 => (if t165 = 0 then (spec_l7Holds.l1 k2 l0 l0 (l0.length : Int) x11_1 y146 (y146.length : Int) (wrap64 (x20_2 + 1)) l1_0 l1_1 ((rd_T52 l0 x11_1).f0.f0) ((rd_T52 l0 x11_1).f1)) else (some false)))) = some r := H
             have A21 := xm A210
             clear A210
             replace H := Option.bind_eq_some_iff.mp H
             obtain ⟨t162, A220, H⟩ := H
             replace H : ((spec_l1Compare.f k2 t159 t162).bind fun t165 => (if t165 = 0 then (spec_l7Holds.l1 k2 l0 l0 (l0.length : Int) x11_1 y146 (y146.length : Int) (wrap64 (x20_2 + 1)) l1_0 l1_1 ((rd_T52 l0 x11_1).f0.f0) ((rd_T52 l0 x11_1).f1)) else (some false))) = some r := H
             have A22 := xm A220
             clear A220
             replace H := Option.bind_eq_some_iff.mp H
             obtain ⟨t165, A230, H⟩ := H
             replace H : (if t165 = 0 then (spec_l7Holds.l1 k2 l0 l0 (l0.length : Int) x11_1 y146 (y146.length : Int) (wrap64 (x20_2 + 1)) l1_0 l1_1 ((rd_T52 l0 x11_1).f0.f0) ((rd_T52 l0 x11_1).f1)) else (some false)) = some r := H
             have A23 := xm A230
             clear A230
             by_cases c24 : t165 = 0
             ·rw [if_pos c24] at H
              have c24b0 : (t165 == 0) = true := beq_iff_eq.mpr c24
              have c24b1 : (t165 != 0) = false := bne_eq_false_iff_eq.mpr c24
              clear c24
              have H' := xm H
              clear H
              have p150 : 0 ≤ (x20_2 : Int) := of_decide_eq_true aB
              have q150 : x20_2 < (y146.length : Int) := of_decide_eq_true aB
              obtain ⟨ad150, A150_0, c150_0, e150, hx150_0, hx150_1, hl150_0, hi150_0⟩ := at_T52 HR149.out x20_2 p150 q150
              obtain rfl : ad144 = ad150 := (by injection e150)
              replace hx150_0 := hU hx150_0
              replace hx150_1 := hU hx150_1
              have HR150_0 := xm hi150_0
              have HC150_0 := xm hl150_0
              clear hi150_0 hl150_0
              replace p150 := eq_true p150
              replace q150 := eq_true q150
              try go_wp2_with (first | ((with_reducible refine gate_dst (N := 8) rfl ?_); refine box_event ?hg (N := 8) ?hd (cs := #[.slice none 0 0, .int .i64 0]) (t := 52) ?hr ?_; (case hd => rfl); (case hg => rfl); (case hr => exact zB); intro gb151 hg w25 hbox hb; have n0_ := xm (blk_below (kB BK143) hb); have n1_ := xm (blk_below (kB BK145) hb); have n2_ := xm (below_step bG hb); have n3_ := xm (hbox); have n4_ := xm ((by rw [hg]; exact (xz bG) : w.heap.size ≤ gb151)); have n5_ := xm ((by rw [hg]; exact (xz bG) : w.heap.size ≤ gb151)); have n6_ := xm ((by rw [hg]; exact Nat.ne_of_lt (blk_lt (kB BK143)) : gb143 ≠ gb151)); have n7_ := xm ((by rw [hg]; exact Nat.ne_of_gt (blk_lt (kB BK143)) : gb151 ≠ gb143)); have n8_ := xm ((by rw [hg]; exact Nat.ne_of_lt (blk_lt (kB BK145)) : gb145 ≠ gb151)); have n9_ := xm ((by rw [hg]; exact Nat.ne_of_gt (blk_lt (kB BK145)) : gb151 ≠ gb145)); revert n0_ n1_ n2_ n3_ n4_ n5_ n6_ n7_ n8_ n9_; clear BK143 BK145 HB; intro BK143 BK145 HB BK151 GW151 GE151 NB143_151 NB151_143 NB145_151 NB151_145; clear hb hbox hg; have hnb26 := NB151_143.out; have hnc26 := NB143_151.out; have hnb27 := NB151_145.out; have hnc27 := NB145_151.out; obtain ⟨hcz28_0, hcz28_1, hfz28_0, hfz28_1⟩ := cz2 BK151.out))
              have n0_ : Aside0 (((w25.setCell ⟨gb151, 0, none⟩ (.slice A150_0 ((rd_T52 y146 x20_2).f0.f0).length c150_0)).setCell ⟨gb151, 1, none⟩ (.int .i64 ((rd_T52 y146 x20_2).f1))).heap[gb143]? = some (.cells #[.slice A1_0 l1_0.length c1_0, .slice A1_1 l1_1.length c1_1] 36 (0, 0))) := ⟨by (with_reducible repeat (first | refine xq ?_ _ | refine xr ?_ | refine xo ?_ _)); refine blk_far ?_ NB143_151.out _; (with_reducible repeat (first | refine xq ?_ _ | refine xr ?_ | refine xo ?_ _)); refine blk_far ?_ NB143_151.out _; (with_reducible repeat (first | refine xq ?_ _ | refine xr ?_ | refine xo ?_ _)); exact BK143.out⟩
              have n1_ : Aside0 (((w25.setCell ⟨gb151, 0, none⟩ (.slice A150_0 ((rd_T52 y146 x20_2).f0.f0).length c150_0)).setCell ⟨gb151, 1, none⟩ (.int .i64 ((rd_T52 y146 x20_2).f1))).heap[gb145]? = some (.cells #[.slice A144_0 ((rd_T52 l0 x11_1).f0.f0).length c144_0, .int .i64 ((rd_T52 l0 x11_1).f1)] 52 (0, 0))) := ⟨by (with_reducible repeat (first | refine xq ?_ _ | refine xr ?_ | refine xo ?_ _)); refine blk_far ?_ NB145_151.out _; (with_reducible repeat (first | refine xq ?_ _ | refine xr ?_ | refine xo ?_ _)); refine blk_far ?_ NB145_151.out _; (with_reducible repeat (first | refine xq ?_ _ | refine xr ?_ | refine xo ?_ _)); exact BK145.out⟩
              have n2_ : Aside0 (((w25.setCell ⟨gb151, 0, none⟩ (.slice A150_0 ((rd_T52 y146 x20_2).f0.f0).length c150_0)).setCell ⟨gb151, 1, none⟩ (.int .i64 ((rd_T52 y146 x20_2).f1))).heap[gb151]? = some (.cells #[.slice A150_0 ((rd_T52 y146 x20_2).f0.f0).length c150_0, .int .i64 ((rd_T52 y146 x20_2).f1)] 52 (0, 0))) := ⟨by (with_reducible repeat (first | refine xq ?_ _ | refine xr ?_ | refine xo ?_ _)); refine blk_put (cs := #[.slice A150_0 ((rd_T52 y146 x20_2).f0.f0).length c150_0, .int .i64 0]) ?_ 1 _ rfl; (with_reducible repeat (first | refine xq ?_ _ | refine xr ?_ | refine xo ?_ _)); refine blk_put (cs := #[.slice none 0 0, .int .i64 0]) ?_ 0 _ rfl; (with_reducible repeat (first | refine xq ?_ _ | refine xr ?_ | refine xo ?_ _)); exact BK151.out⟩
              have n3_ : Aside0 (Below w.heap.size w ((w25.setCell ⟨gb151, 0, none⟩ (.slice A150_0 ((rd_T52 y146 x20_2).f0.f0).length c150_0)).setCell ⟨gb151, 1, none⟩ (.int .i64 ((rd_T52 y146 x20_2).f1)))) := ⟨bG⟩
              (try clear BK143)
              (try clear BK145)
              (try clear BK151)
              (try clear HB)
              generalize ((w25.setCell ⟨gb151, 0, none⟩ (.slice A150_0 ((rd_T52 y146 x20_2).f0.f0).length c150_0)).setCell ⟨gb151, 1, none⟩ (.int .i64 ((rd_T52 y146 x20_2).f1))) = w29 at n0_ n1_ n2_ n3_ ⊢
              revert n0_ n1_ n2_ n3_; intro BK143 BK145 BK151 HB
              have n0_ := xm (xr BK143.out)
              have n1_ := xm (xr BK145.out)
              have n2_ := xm (xr BK151.out)
              have n3_ := xm (xd HB.out)
              revert n0_ n1_ n2_ n3_; clear BK143 BK145 BK151 HB; intro BK143 BK145 BK151 HB
              refine start_ (n := 26) (S := fun w' => w'.cell? ⟨gb145, 0, none⟩ = some (.slice A144_0 ((rd_T52 l0 x11_1).f0.f0).length c144_0) ∧ w'.cell? ⟨gb145, 1, none⟩ = some (.int .i64 ((rd_T52 l0 x11_1).f1)) ∧ w'.cell? ⟨gb143, 0, none⟩ = some (.slice A1_0 l1_0.length c1_0) ∧ w'.cell? ⟨gb143, 1, none⟩ = some (.slice A1_1 l1_1.length c1_1) ∧ w'.cell? ⟨gb151, 0, none⟩ = some (.slice A150_0 ((rd_T52 y146 x20_2).f0.f0).length c150_0) ∧ w'.cell? ⟨gb151, 1, none⟩ = some (.int .i64 ((rd_T52 y146 x20_2).f1))) (ds := []) #[Z,Z,Z,Z,Z,Z,Z,Z,Z,Z,Z,Z,Z,Z,Z,Z,Z,Z,Z,Z,Z,Z,Z,Z,Z,Z] (by kernel_rfl) rfl rfl ⟨(xc BK145.out 0).trans rfl, (xc BK145.out 1).trans rfl, (xc BK143.out 0).trans rfl, (xc BK143.out 1).trans rfl, (xc BK151.out 0).trans rfl, (xc BK151.out 1).trans rfl⟩ (fun hHeld => ?_); refine with_tabW spec_l7Holds.tab7 spec_l7Holds.bits7 (fun HT_ HW_ => ?_)
              generalize w29.drew = w30 at BK143 BK145 BK151 HB hHeld ⊢
              refine pu 0 26 1 ?_
              refine pu 2 26 5 ?_
              refine pu 5 26 37 ?_
              refine pu 7 26 165 ?_
              refine tx 1 26 167 rfl rfl (take_ofW HT_.out HW_.out (by kernel_rfl)) hHeld (by rintro w' ⟨s0, s1, s2, s3, s4, s5⟩; go_simp; with_reducible rfl) ?_
              refine tx 3 26 175 rfl rfl (take_ofW HT_.out HW_.out (by kernel_rfl)) hHeld (by rintro w' ⟨s0, s1, s2, s3, s4, s5⟩; go_simp; with_reducible rfl) ?_
              refine tx 6 26 239 rfl rfl (take_ofW HT_.out HW_.out (by kernel_rfl)) hHeld (by rintro w' ⟨s0, s1, s2, s3, s4, s5⟩; go_simp; with_reducible rfl) ?_
              refine tx 8 26 495 rfl rfl (take_ofW HT_.out HW_.out (by kernel_rfl)) hHeld (by rintro w' ⟨s0, s1, s2, s3, s4, s5⟩; go_simp; with_reducible rfl) ?_
              refine one_ (i := 4) (N := some 28) #[Y,Y,Y,Y,Y,Y,Y,Y,Y,Z,Z,Z,Z,Z,Z,Z,Z,Z,Z,Z,Z,Z,Z,Z,Z,Z] rfl rfl (one_of HT_.out (by kernel_rfl)) (by decide) (fun K hK => ?_)
              refine goes_ Try.func31 (by kernel_rfl) rfl #[.agg #[.slice A144_0 ((rd_T52 l0 x11_1).f0.f0).length c144_0], .slice A1_0 l1_0.length c1_0] (by rfl) rfl rfl mB ?_
              with_reducible refine (spec_l1Pick.calls k2 _ _ ((rd_T52 l0 x11_1).f0.f0) _ _ l1_0 t152 _ ?side1 ?side2 ?side3 ?side4 A17.out).mono ?_
              (case side1 => exact cB (Kd.C_below HR144_0.out HB.out))
              (case side2 => exact HC144_0.out)
              (case side3 => exact cB (Kd.C_below HR1_0.out HB.out))
              (case side4 => exact HC1_0.out)
              rintro e w31 ⟨v153, rfl, ho0, hb⟩
              refine ⟨_, rfl, ?_⟩
              have n0_ := xm (Kd.R_lower ho0 (xz bG))
              have n1_ := xm (blk_below (kB BK143) hb)
              have n2_ := xm (blk_below (kB BK145) hb)
              have n3_ := xm (blk_below (kB BK151) hb)
              have n4_ := xm (below_step bG hb)
              revert n0_ n1_ n2_ n3_ n4_; clear BK143 BK145 BK151 HB; intro HO154 BK143 BK145 BK151 HB
              (try clear hb)
              (try clear hb2)
              (try clear hk)
              (try clear hi)
              (try clear ho0)
              refine hK.out _ _ ⟨(xc BK145.out 0).trans rfl, (xc BK145.out 1).trans rfl, (xc BK143.out 0).trans rfl, (xc BK143.out 1).trans rfl, (xc BK151.out 0).trans rfl, (xc BK151.out 1).trans rfl⟩ (fun hHeld => nC ?_)
              clear hK K
              refine one_ (i := 9) (N := some 33) #[Y,Y,Y,Y,Y,Y,Y,Y,Y,Y,Z,Z,Z,Z,Z,Z,Z,Z,Z,Z,Z,Z,Z,Z,Z,Z] rfl rfl (one_of HT_.out (by kernel_rfl)) (by decide) (fun K hK => ?_)
              refine goes_ Try.func31 (by kernel_rfl) rfl #[.agg #[.slice A150_0 ((rd_T52 y146 x20_2).f0.f0).length c150_0], .slice A1_0 l1_0.length c1_0] (by rfl) rfl rfl mB ?_
              with_reducible refine (spec_l1Pick.calls k2 _ _ ((rd_T52 y146 x20_2).f0.f0) _ _ l1_0 t155 _ ?side1 ?side2 ?side3 ?side4 A18.out).mono ?_
              (case side1 => exact cB (Kd.C_below HR150_0.out HB.out))
              (case side2 => exact HC150_0.out)
              (case side3 => exact cB (Kd.C_below HR1_0.out HB.out))
              (case side4 => exact HC1_0.out)
              rintro e w32 ⟨v156, rfl, ho0, hb⟩
              refine ⟨_, rfl, ?_⟩
              have n0_ := xm (Kd.R_elder' (rB HO154) (Kd.R_base ho0) hb)
              have n1_ := xm (Kd.R_lower (Kd.R_new' ho0 (Kd.R_lt (rB HO154))) (xz bG))
              have n2_ := xm (blk_below (kB BK143) hb)
              have n3_ := xm (blk_below (kB BK145) hb)
              have n4_ := xm (blk_below (kB BK151) hb)
              have n5_ := xm (below_step bG hb)
              revert n0_ n1_ n2_ n3_ n4_ n5_; clear HO154 BK143 BK145 BK151 HB; intro HO154 HO157 BK143 BK145 BK151 HB
              (try clear hb)
              (try clear hb2)
              (try clear hk)
              (try clear hi)
              (try clear ho0)
              obtain ⟨Ao33, co33, eo33⟩ := Kd.R_slice HO154.out
              (first | subst eo33 | (injection eo33 with f1_ f2_ f3_; have f4_ := f1_.symm; have f5_ := f3_.symm; clear f1_ f2_ f3_; subst f4_; subst f5_))
              obtain ⟨Ao34, co34, eo34⟩ := Kd.R_slice HO157.out
              (first | subst eo34 | (injection eo34 with f1_ f2_ f3_; have f4_ := f1_.symm; have f5_ := f3_.symm; clear f1_ f2_ f3_; subst f4_; subst f5_))
              refine hK.out _ _ ⟨(xc BK145.out 0).trans rfl, (xc BK145.out 1).trans rfl, (xc BK143.out 0).trans rfl, (xc BK143.out 1).trans rfl, (xc BK151.out 0).trans rfl, (xc BK151.out 1).trans rfl⟩ (fun hHeld => nC ?_)
              clear hK K
              refine one_ (i := 10) (N := some 34) #[Y,Y,Y,Y,Y,Y,Y,Y,Y,Y,Y,Z,Z,Z,Z,Z,Z,Z,Z,Z,Z,Z,Z,Z,Z,Z] rfl rfl (one_of HT_.out (by kernel_rfl)) (by decide) (fun K hK => ?_)
              refine goes_ Try.func28 (by kernel_rfl) rfl #[.agg #[.slice Ao33 t152.length co33], .agg #[.slice Ao34 t155.length co34]] (by rfl) rfl rfl mB ?_
              with_reducible refine (spec_l1Compare.calls k2 _ _ t152 _ _ t155 t158 _ ?side1 ?side2 ?side3 ?side4 A19.out).mono ?_
              (case side1 => repeat (first | exact (Kd.R_reads' HO154.out).2.2 | (with_reducible refine Kd.C_alloc ?_ _) | (with_reducible refine Kd.C_drewN ?_ _) | (with_reducible refine Kd.C_drew ?_)))
              (case side2 => exact (Kd.R_reads' HO154.out).2.1)
              (case side3 => repeat (first | exact (Kd.R_reads' HO157.out).2.2 | (with_reducible refine Kd.C_alloc ?_ _) | (with_reducible refine Kd.C_drewN ?_ _) | (with_reducible refine Kd.C_drew ?_)))
              (case side4 => exact (Kd.R_reads' HO157.out).2.1)
              rintro e w35 ⟨rfl, hb⟩
              refine ⟨_, rfl, ?_⟩
              have n0_ := xm (Kd.R_below (rB HO154) hb)
              have n1_ := xm (Kd.R_below (rB HO157) hb)
              have n2_ := xm (blk_below (kB BK143) hb)
              have n3_ := xm (blk_below (kB BK145) hb)
              have n4_ := xm (blk_below (kB BK151) hb)
              have n5_ := xm (below_step bG hb)
              revert n0_ n1_ n2_ n3_ n4_ n5_; clear HO154 HO157 BK143 BK145 BK151 HB; intro HO154 HO157 BK143 BK145 BK151 HB
              (try clear hb)
              (try clear hb2)
              (try clear hk)
              (try clear hi)
              refine hK.out _ _ ⟨(xc BK145.out 0).trans rfl, (xc BK145.out 1).trans rfl, (xc BK143.out 0).trans rfl, (xc BK143.out 1).trans rfl, (xc BK151.out 0).trans rfl, (xc BK151.out 1).trans rfl⟩ (fun hHeld => nC ?_)
              clear hK K
              refine pu 11 26 4095 ?_
              refine pu 12 26 8191 ?_
              refine pu 13 26 16383 ?_
              refine pu 15 26 49151 ?_
              refine pu 18 26 311295 ?_
              refine pu 20 26 1359871 ?_
              refine tx 14 26 1376255 rfl rfl (take_ofW HT_.out HW_.out (by kernel_rfl)) hHeld (by rintro w' ⟨s0, s1, s2, s3, s4, s5⟩; go_simp; with_reducible rfl) ?_
              refine tx 16 26 1441791 rfl rfl (take_ofW HT_.out HW_.out (by kernel_rfl)) hHeld (by rintro w' ⟨s0, s1, s2, s3, s4, s5⟩; go_simp; with_reducible rfl) ?_
              refine tx 19 26 1966079 rfl rfl (take_ofW HT_.out HW_.out (by kernel_rfl)) hHeld (by rintro w' ⟨s0, s1, s2, s3, s4, s5⟩; go_simp; with_reducible rfl) ?_
              refine tx 21 26 4063231 rfl rfl (take_ofW HT_.out HW_.out (by kernel_rfl)) hHeld (by rintro w' ⟨s0, s1, s2, s3, s4, s5⟩; go_simp; with_reducible rfl) ?_
              refine one_ (i := 17) (N := some 41) #[Y,Y,Y,Y,Y,Y,Y,Y,Y,Y,Y,Y,Y,Y,Y,Y,Y,Y,Y,Y,Y,Y,Z,Z,Z,Z] rfl rfl (one_of HT_.out (by kernel_rfl)) (by decide) (fun K hK => ?_)
              refine goes_ Try.func31 (by kernel_rfl) rfl #[.agg #[.slice A144_0 ((rd_T52 l0 x11_1).f0.f0).length c144_0], .slice A1_1 l1_1.length c1_1] (by rfl) rfl rfl mB ?_
              with_reducible refine (spec_l1Pick.calls k2 _ _ ((rd_T52 l0 x11_1).f0.f0) _ _ l1_1 t159 _ ?side1 ?side2 ?side3 ?side4 A21.out).mono ?_
              (case side1 => exact cB (Kd.C_below HR144_0.out HB.out))
              (case side2 => exact HC144_0.out)
              (case side3 => exact cB (Kd.C_below HR1_1.out HB.out))
              (case side4 => exact HC1_1.out)
              rintro e w36 ⟨v160, rfl, ho0, hb⟩
              refine ⟨_, rfl, ?_⟩
              have n0_ := xm (Kd.R_elder' (rB HO154) (Kd.R_base ho0) hb)
              have n1_ := xm (Kd.R_elder' (rB HO157) (Kd.R_base ho0) hb)
              have n2_ := xm (Kd.R_lower (Kd.R_new' (Kd.R_new' ho0 (Kd.R_lt (rB HO154))) (Kd.R_lt (rB HO157))) (xz bG))
              have n3_ := xm (blk_below (kB BK143) hb)
              have n4_ := xm (blk_below (kB BK145) hb)
              have n5_ := xm (blk_below (kB BK151) hb)
              have n6_ := xm (below_step bG hb)
              revert n0_ n1_ n2_ n3_ n4_ n5_ n6_; clear HO154 HO157 BK143 BK145 BK151 HB; intro HO154 HO157 HO161 BK143 BK145 BK151 HB
              (try clear hb)
              (try clear hb2)
              (try clear hk)
              (try clear hi)
              (try clear ho0)
              refine hK.out _ _ ⟨(xc BK145.out 0).trans rfl, (xc BK145.out 1).trans rfl, (xc BK143.out 0).trans rfl, (xc BK143.out 1).trans rfl, (xc BK151.out 0).trans rfl, (xc BK151.out 1).trans rfl⟩ (fun hHeld => nC ?_)
              clear hK K
              refine one_ (i := 22) (N := some 46) #[Y,Y,Y,Y,Y,Y,Y,Y,Y,Y,Y,Y,Y,Y,Y,Y,Y,Y,Y,Y,Y,Y,Y,Z,Z,Z] rfl rfl (one_of HT_.out (by kernel_rfl)) (by decide) (fun K hK => ?_)
              refine goes_ Try.func31 (by kernel_rfl) rfl #[.agg #[.slice A150_0 ((rd_T52 y146 x20_2).f0.f0).length c150_0], .slice A1_1 l1_1.length c1_1] (by rfl) rfl rfl mB ?_
              with_reducible refine (spec_l1Pick.calls k2 _ _ ((rd_T52 y146 x20_2).f0.f0) _ _ l1_1 t162 _ ?side1 ?side2 ?side3 ?side4 A22.out).mono ?_
              (case side1 => exact cB (Kd.C_below HR150_0.out HB.out))
              (case side2 => exact HC150_0.out)
              (case side3 => exact cB (Kd.C_below HR1_1.out HB.out))
              (case side4 => exact HC1_1.out)
              rintro e w37 ⟨v163, rfl, ho0, hb⟩
              refine ⟨_, rfl, ?_⟩
              have n0_ := xm (Kd.R_elder' (rB HO154) (Kd.R_base ho0) hb)
              have n1_ := xm (Kd.R_elder' (rB HO157) (Kd.R_base ho0) hb)
              have n2_ := xm (Kd.R_elder' (rB HO161) (Kd.R_base ho0) hb)
              have n3_ := xm (Kd.R_lower (Kd.R_new' (Kd.R_new' (Kd.R_new' ho0 (Kd.R_lt (rB HO154))) (Kd.R_lt (rB HO157))) (Kd.R_lt (rB HO161))) (xz bG))
              have n4_ := xm (blk_below (kB BK143) hb)
              have n5_ := xm (blk_below (kB BK145) hb)
              have n6_ := xm (blk_below (kB BK151) hb)
              have n7_ := xm (below_step bG hb)
              revert n0_ n1_ n2_ n3_ n4_ n5_ n6_ n7_; clear HO154 HO157 HO161 BK143 BK145 BK151 HB; intro HO154 HO157 HO161 HO164 BK143 BK145 BK151 HB
              (try clear hb)
              (try clear hb2)
              (try clear hk)
              (try clear hi)
              (try clear ho0)
              obtain ⟨Ao38, co38, eo38⟩ := Kd.R_slice HO161.out
              (first | subst eo38 | (injection eo38 with f1_ f2_ f3_; have f4_ := f1_.symm; have f5_ := f3_.symm; clear f1_ f2_ f3_; subst f4_; subst f5_))
              obtain ⟨Ao39, co39, eo39⟩ := Kd.R_slice HO164.out
              (first | subst eo39 | (injection eo39 with f1_ f2_ f3_; have f4_ := f1_.symm; have f5_ := f3_.symm; clear f1_ f2_ f3_; subst f4_; subst f5_))
              refine hK.out _ _ ⟨(xc BK145.out 0).trans rfl, (xc BK145.out 1).trans rfl, (xc BK143.out 0).trans rfl, (xc BK143.out 1).trans rfl, (xc BK151.out 0).trans rfl, (xc BK151.out 1).trans rfl⟩ (fun hHeld => nC ?_)
              clear hK K
              refine one_ (i := 23) (N := some 47) #[Y,Y,Y,Y,Y,Y,Y,Y,Y,Y,Y,Y,Y,Y,Y,Y,Y,Y,Y,Y,Y,Y,Y,Y,Z,Z] rfl rfl (one_of HT_.out (by kernel_rfl)) (by decide) (fun K hK => ?_)
              refine goes_ Try.func28 (by kernel_rfl) rfl #[.agg #[.slice Ao38 t159.length co38], .agg #[.slice Ao39 t162.length co39]] (by rfl) rfl rfl mB ?_
              with_reducible refine (spec_l1Compare.calls k2 _ _ t159 _ _ t162 t165 _ ?side1 ?side2 ?side3 ?side4 A23.out).mono ?_
              (case side1 => repeat (first | exact (Kd.R_reads' HO161.out).2.2 | (with_reducible refine Kd.C_alloc ?_ _) | (with_reducible refine Kd.C_drewN ?_ _) | (with_reducible refine Kd.C_drew ?_)))
              (case side2 => exact (Kd.R_reads' HO161.out).2.1)
              (case side3 => repeat (first | exact (Kd.R_reads' HO164.out).2.2 | (with_reducible refine Kd.C_alloc ?_ _) | (with_reducible refine Kd.C_drewN ?_ _) | (with_reducible refine Kd.C_drew ?_)))
              (case side4 => exact (Kd.R_reads' HO164.out).2.1)
              rintro e w40 ⟨rfl, hb⟩
              refine ⟨_, rfl, ?_⟩
              have n0_ := xm (Kd.R_below (rB HO154) hb)
              have n1_ := xm (Kd.R_below (rB HO157) hb)
              have n2_ := xm (Kd.R_below (rB HO161) hb)
              have n3_ := xm (Kd.R_below (rB HO164) hb)
              have n4_ := xm (blk_below (kB BK143) hb)
              have n5_ := xm (blk_below (kB BK145) hb)
              have n6_ := xm (blk_below (kB BK151) hb)
              have n7_ := xm (below_step bG hb)
              revert n0_ n1_ n2_ n3_ n4_ n5_ n6_ n7_; clear HO154 HO157 HO161 HO164 BK143 BK145 BK151 HB; intro HO154 HO157 HO161 HO164 BK143 BK145 BK151 HB
              (try clear hb)
              (try clear hb2)
              (try clear hk)
              (try clear hi)
              refine hK.out _ _ ⟨(xc BK145.out 0).trans rfl, (xc BK145.out 1).trans rfl, (xc BK143.out 0).trans rfl, (xc BK143.out 1).trans rfl, (xc BK151.out 0).trans rfl, (xc BK151.out 1).trans rfl⟩ (fun hHeld => nC ?_)
              clear hK K
              refine pu 24 26 33554431 ?_
              refine pu 25 26 67108863 ?_
              refine done_ (done_of HT_.out (by kernel_rfl)) ?_
              try go_wp2
              go_roundg k2
              case measure => have := HK1.out; have := HK2.out; omega
              case rel => exact ⟨(wrap64 (x20_2 + 1)), sB, H', ⟨by have := HK1.out; have := HK2.out; omega⟩, ⟨kB BK143⟩, ⟨kB BK145⟩, ⟨bG⟩⟩
             ·rw [if_neg c24] at H
              have c24b0 : (t165 == 0) = false := beq_eq_false_iff_ne.mpr c24
              have c24b1 : (t165 != 0) = true := bne_iff_ne.mpr c24
              obtain rfl := Option.some.inj H
              have p150 : 0 ≤ (x20_2 : Int) := of_decide_eq_true aB
              have q150 : x20_2 < (y146.length : Int) := of_decide_eq_true aB
              obtain ⟨ad150, A150_0, c150_0, e150, hx150_0, hx150_1, hl150_0, hi150_0⟩ := at_T52 HR149.out x20_2 p150 q150
              obtain rfl : ad144 = ad150 := (by injection e150)
              replace hx150_0 := hU hx150_0
              replace hx150_1 := hU hx150_1
              have HR150_0 := xm hi150_0
              have HC150_0 := xm hl150_0
              clear hi150_0 hl150_0
              replace p150 := eq_true p150
              replace q150 := eq_true q150
              try go_wp2_with (first | ((with_reducible refine gate_dst (N := 8) rfl ?_); refine box_event ?hg (N := 8) ?hd (cs := #[.slice none 0 0, .int .i64 0]) (t := 52) ?hr ?_; (case hd => rfl); (case hg => rfl); (case hr => exact zB); intro gb151 hg w41 hbox hb; have n0_ := xm (blk_below (kB BK143) hb); have n1_ := xm (blk_below (kB BK145) hb); have n2_ := xm (below_step bG hb); have n3_ := xm (hbox); have n4_ := xm ((by rw [hg]; exact (xz bG) : w.heap.size ≤ gb151)); have n5_ := xm ((by rw [hg]; exact (xz bG) : w.heap.size ≤ gb151)); have n6_ := xm ((by rw [hg]; exact Nat.ne_of_lt (blk_lt (kB BK143)) : gb143 ≠ gb151)); have n7_ := xm ((by rw [hg]; exact Nat.ne_of_gt (blk_lt (kB BK143)) : gb151 ≠ gb143)); have n8_ := xm ((by rw [hg]; exact Nat.ne_of_lt (blk_lt (kB BK145)) : gb145 ≠ gb151)); have n9_ := xm ((by rw [hg]; exact Nat.ne_of_gt (blk_lt (kB BK145)) : gb151 ≠ gb145)); revert n0_ n1_ n2_ n3_ n4_ n5_ n6_ n7_ n8_ n9_; clear BK143 BK145 HB; intro BK143 BK145 HB BK151 GW151 GE151 NB143_151 NB151_143 NB145_151 NB151_145; clear hb hbox hg; have hnb42 := NB151_143.out; have hnc42 := NB143_151.out; have hnb43 := NB151_145.out; have hnc43 := NB145_151.out; obtain ⟨hcz44_0, hcz44_1, hfz44_0, hfz44_1⟩ := cz2 BK151.out))
              have n0_ : Aside0 (((w41.setCell ⟨gb151, 0, none⟩ (.slice A150_0 ((rd_T52 y146 x20_2).f0.f0).length c150_0)).setCell ⟨gb151, 1, none⟩ (.int .i64 ((rd_T52 y146 x20_2).f1))).heap[gb143]? = some (.cells #[.slice A1_0 l1_0.length c1_0, .slice A1_1 l1_1.length c1_1] 36 (0, 0))) := ⟨by (with_reducible repeat (first | refine xq ?_ _ | refine xr ?_ | refine xo ?_ _)); refine blk_far ?_ NB143_151.out _; (with_reducible repeat (first | refine xq ?_ _ | refine xr ?_ | refine xo ?_ _)); refine blk_far ?_ NB143_151.out _; (with_reducible repeat (first | refine xq ?_ _ | refine xr ?_ | refine xo ?_ _)); exact BK143.out⟩
              have n1_ : Aside0 (((w41.setCell ⟨gb151, 0, none⟩ (.slice A150_0 ((rd_T52 y146 x20_2).f0.f0).length c150_0)).setCell ⟨gb151, 1, none⟩ (.int .i64 ((rd_T52 y146 x20_2).f1))).heap[gb145]? = some (.cells #[.slice A144_0 ((rd_T52 l0 x11_1).f0.f0).length c144_0, .int .i64 ((rd_T52 l0 x11_1).f1)] 52 (0, 0))) := ⟨by (with_reducible repeat (first | refine xq ?_ _ | refine xr ?_ | refine xo ?_ _)); refine blk_far ?_ NB145_151.out _; (with_reducible repeat (first | refine xq ?_ _ | refine xr ?_ | refine xo ?_ _)); refine blk_far ?_ NB145_151.out _; (with_reducible repeat (first | refine xq ?_ _ | refine xr ?_ | refine xo ?_ _)); exact BK145.out⟩
              have n2_ : Aside0 (((w41.setCell ⟨gb151, 0, none⟩ (.slice A150_0 ((rd_T52 y146 x20_2).f0.f0).length c150_0)).setCell ⟨gb151, 1, none⟩ (.int .i64 ((rd_T52 y146 x20_2).f1))).heap[gb151]? = some (.cells #[.slice A150_0 ((rd_T52 y146 x20_2).f0.f0).length c150_0, .int .i64 ((rd_T52 y146 x20_2).f1)] 52 (0, 0))) := ⟨by (with_reducible repeat (first | refine xq ?_ _ | refine xr ?_ | refine xo ?_ _)); refine blk_put (cs := #[.slice A150_0 ((rd_T52 y146 x20_2).f0.f0).length c150_0, .int .i64 0]) ?_ 1 _ rfl; (with_reducible repeat (first | refine xq ?_ _ | refine xr ?_ | refine xo ?_ _)); refine blk_put (cs := #[.slice none 0 0, .int .i64 0]) ?_ 0 _ rfl; (with_reducible repeat (first | refine xq ?_ _ | refine xr ?_ | refine xo ?_ _)); exact BK151.out⟩
              have n3_ : Aside0 (Below w.heap.size w ((w41.setCell ⟨gb151, 0, none⟩ (.slice A150_0 ((rd_T52 y146 x20_2).f0.f0).length c150_0)).setCell ⟨gb151, 1, none⟩ (.int .i64 ((rd_T52 y146 x20_2).f1)))) := ⟨bG⟩
              (try clear BK143)
              (try clear BK145)
              (try clear BK151)
              (try clear HB)
              generalize ((w41.setCell ⟨gb151, 0, none⟩ (.slice A150_0 ((rd_T52 y146 x20_2).f0.f0).length c150_0)).setCell ⟨gb151, 1, none⟩ (.int .i64 ((rd_T52 y146 x20_2).f1))) = w45 at n0_ n1_ n2_ n3_ ⊢
              revert n0_ n1_ n2_ n3_; intro BK143 BK145 BK151 HB
              have n0_ := xm (xr BK143.out)
              have n1_ := xm (xr BK145.out)
              have n2_ := xm (xr BK151.out)
              have n3_ := xm (xd HB.out)
              revert n0_ n1_ n2_ n3_; clear BK143 BK145 BK151 HB; intro BK143 BK145 BK151 HB
              refine start_ (n := 26) (S := fun w' => w'.cell? ⟨gb145, 0, none⟩ = some (.slice A144_0 ((rd_T52 l0 x11_1).f0.f0).length c144_0) ∧ w'.cell? ⟨gb145, 1, none⟩ = some (.int .i64 ((rd_T52 l0 x11_1).f1)) ∧ w'.cell? ⟨gb143, 0, none⟩ = some (.slice A1_0 l1_0.length c1_0) ∧ w'.cell? ⟨gb143, 1, none⟩ = some (.slice A1_1 l1_1.length c1_1) ∧ w'.cell? ⟨gb151, 0, none⟩ = some (.slice A150_0 ((rd_T52 y146 x20_2).f0.f0).length c150_0) ∧ w'.cell? ⟨gb151, 1, none⟩ = some (.int .i64 ((rd_T52 y146 x20_2).f1))) (ds := []) #[Z,Z,Z,Z,Z,Z,Z,Z,Z,Z,Z,Z,Z,Z,Z,Z,Z,Z,Z,Z,Z,Z,Z,Z,Z,Z] (by kernel_rfl) rfl rfl ⟨(xc BK145.out 0).trans rfl, (xc BK145.out 1).trans rfl, (xc BK143.out 0).trans rfl, (xc BK143.out 1).trans rfl, (xc BK151.out 0).trans rfl, (xc BK151.out 1).trans rfl⟩ (fun hHeld => ?_); refine with_tabW spec_l7Holds.tab7 spec_l7Holds.bits7 (fun HT_ HW_ => ?_)
              generalize w45.drew = w46 at BK143 BK145 BK151 HB hHeld ⊢
              refine pu 0 26 1 ?_
              refine pu 2 26 5 ?_
              refine pu 5 26 37 ?_
              refine pu 7 26 165 ?_
              refine tx 1 26 167 rfl rfl (take_ofW HT_.out HW_.out (by kernel_rfl)) hHeld (by rintro w' ⟨s0, s1, s2, s3, s4, s5⟩; go_simp; with_reducible rfl) ?_
              refine tx 3 26 175 rfl rfl (take_ofW HT_.out HW_.out (by kernel_rfl)) hHeld (by rintro w' ⟨s0, s1, s2, s3, s4, s5⟩; go_simp; with_reducible rfl) ?_
              refine tx 6 26 239 rfl rfl (take_ofW HT_.out HW_.out (by kernel_rfl)) hHeld (by rintro w' ⟨s0, s1, s2, s3, s4, s5⟩; go_simp; with_reducible rfl) ?_
              refine tx 8 26 495 rfl rfl (take_ofW HT_.out HW_.out (by kernel_rfl)) hHeld (by rintro w' ⟨s0, s1, s2, s3, s4, s5⟩; go_simp; with_reducible rfl) ?_
              refine one_ (i := 4) (N := some 28) #[Y,Y,Y,Y,Y,Y,Y,Y,Y,Z,Z,Z,Z,Z,Z,Z,Z,Z,Z,Z,Z,Z,Z,Z,Z,Z] rfl rfl (one_of HT_.out (by kernel_rfl)) (by decide) (fun K hK => ?_)
              refine goes_ Try.func31 (by kernel_rfl) rfl #[.agg #[.slice A144_0 ((rd_T52 l0 x11_1).f0.f0).length c144_0], .slice A1_0 l1_0.length c1_0] (by rfl) rfl rfl mB ?_
              with_reducible refine (spec_l1Pick.calls k2 _ _ ((rd_T52 l0 x11_1).f0.f0) _ _ l1_0 t152 _ ?side1 ?side2 ?side3 ?side4 A17.out).mono ?_
              (case side1 => exact cB (Kd.C_below HR144_0.out HB.out))
              (case side2 => exact HC144_0.out)
              (case side3 => exact cB (Kd.C_below HR1_0.out HB.out))
              (case side4 => exact HC1_0.out)
              rintro e w47 ⟨v153, rfl, ho0, hb⟩
              refine ⟨_, rfl, ?_⟩
              have n0_ := xm (Kd.R_lower ho0 (xz bG))
              have n1_ := xm (blk_below (kB BK143) hb)
              have n2_ := xm (blk_below (kB BK145) hb)
              have n3_ := xm (blk_below (kB BK151) hb)
              have n4_ := xm (below_step bG hb)
              revert n0_ n1_ n2_ n3_ n4_; clear BK143 BK145 BK151 HB; intro HO154 BK143 BK145 BK151 HB
              (try clear hb)
              (try clear hb2)
              (try clear hk)
              (try clear hi)
              (try clear ho0)
              refine hK.out _ _ ⟨(xc BK145.out 0).trans rfl, (xc BK145.out 1).trans rfl, (xc BK143.out 0).trans rfl, (xc BK143.out 1).trans rfl, (xc BK151.out 0).trans rfl, (xc BK151.out 1).trans rfl⟩ (fun hHeld => nC ?_)
              clear hK K
              refine one_ (i := 9) (N := some 33) #[Y,Y,Y,Y,Y,Y,Y,Y,Y,Y,Z,Z,Z,Z,Z,Z,Z,Z,Z,Z,Z,Z,Z,Z,Z,Z] rfl rfl (one_of HT_.out (by kernel_rfl)) (by decide) (fun K hK => ?_)
              refine goes_ Try.func31 (by kernel_rfl) rfl #[.agg #[.slice A150_0 ((rd_T52 y146 x20_2).f0.f0).length c150_0], .slice A1_0 l1_0.length c1_0] (by rfl) rfl rfl mB ?_
              with_reducible refine (spec_l1Pick.calls k2 _ _ ((rd_T52 y146 x20_2).f0.f0) _ _ l1_0 t155 _ ?side1 ?side2 ?side3 ?side4 A18.out).mono ?_
              (case side1 => exact cB (Kd.C_below HR150_0.out HB.out))
              (case side2 => exact HC150_0.out)
              (case side3 => exact cB (Kd.C_below HR1_0.out HB.out))
              (case side4 => exact HC1_0.out)
              rintro e w48 ⟨v156, rfl, ho0, hb⟩
              refine ⟨_, rfl, ?_⟩
              have n0_ := xm (Kd.R_elder' (rB HO154) (Kd.R_base ho0) hb)
              have n1_ := xm (Kd.R_lower (Kd.R_new' ho0 (Kd.R_lt (rB HO154))) (xz bG))
              have n2_ := xm (blk_below (kB BK143) hb)
              have n3_ := xm (blk_below (kB BK145) hb)
              have n4_ := xm (blk_below (kB BK151) hb)
              have n5_ := xm (below_step bG hb)
              revert n0_ n1_ n2_ n3_ n4_ n5_; clear HO154 BK143 BK145 BK151 HB; intro HO154 HO157 BK143 BK145 BK151 HB
              (try clear hb)
              (try clear hb2)
              (try clear hk)
              (try clear hi)
              (try clear ho0)
              obtain ⟨Ao49, co49, eo49⟩ := Kd.R_slice HO154.out
              (first | subst eo49 | (injection eo49 with f1_ f2_ f3_; have f4_ := f1_.symm; have f5_ := f3_.symm; clear f1_ f2_ f3_; subst f4_; subst f5_))
              obtain ⟨Ao50, co50, eo50⟩ := Kd.R_slice HO157.out
              (first | subst eo50 | (injection eo50 with f1_ f2_ f3_; have f4_ := f1_.symm; have f5_ := f3_.symm; clear f1_ f2_ f3_; subst f4_; subst f5_))
              refine hK.out _ _ ⟨(xc BK145.out 0).trans rfl, (xc BK145.out 1).trans rfl, (xc BK143.out 0).trans rfl, (xc BK143.out 1).trans rfl, (xc BK151.out 0).trans rfl, (xc BK151.out 1).trans rfl⟩ (fun hHeld => nC ?_)
              clear hK K
              refine one_ (i := 10) (N := some 34) #[Y,Y,Y,Y,Y,Y,Y,Y,Y,Y,Y,Z,Z,Z,Z,Z,Z,Z,Z,Z,Z,Z,Z,Z,Z,Z] rfl rfl (one_of HT_.out (by kernel_rfl)) (by decide) (fun K hK => ?_)
              refine goes_ Try.func28 (by kernel_rfl) rfl #[.agg #[.slice Ao49 t152.length co49], .agg #[.slice Ao50 t155.length co50]] (by rfl) rfl rfl mB ?_
              with_reducible refine (spec_l1Compare.calls k2 _ _ t152 _ _ t155 t158 _ ?side1 ?side2 ?side3 ?side4 A19.out).mono ?_
              (case side1 => repeat (first | exact (Kd.R_reads' HO154.out).2.2 | (with_reducible refine Kd.C_alloc ?_ _) | (with_reducible refine Kd.C_drewN ?_ _) | (with_reducible refine Kd.C_drew ?_)))
              (case side2 => exact (Kd.R_reads' HO154.out).2.1)
              (case side3 => repeat (first | exact (Kd.R_reads' HO157.out).2.2 | (with_reducible refine Kd.C_alloc ?_ _) | (with_reducible refine Kd.C_drewN ?_ _) | (with_reducible refine Kd.C_drew ?_)))
              (case side4 => exact (Kd.R_reads' HO157.out).2.1)
              rintro e w51 ⟨rfl, hb⟩
              refine ⟨_, rfl, ?_⟩
              have n0_ := xm (Kd.R_below (rB HO154) hb)
              have n1_ := xm (Kd.R_below (rB HO157) hb)
              have n2_ := xm (blk_below (kB BK143) hb)
              have n3_ := xm (blk_below (kB BK145) hb)
              have n4_ := xm (blk_below (kB BK151) hb)
              have n5_ := xm (below_step bG hb)
              revert n0_ n1_ n2_ n3_ n4_ n5_; clear HO154 HO157 BK143 BK145 BK151 HB; intro HO154 HO157 BK143 BK145 BK151 HB
              (try clear hb)
              (try clear hb2)
              (try clear hk)
              (try clear hi)
              refine hK.out _ _ ⟨(xc BK145.out 0).trans rfl, (xc BK145.out 1).trans rfl, (xc BK143.out 0).trans rfl, (xc BK143.out 1).trans rfl, (xc BK151.out 0).trans rfl, (xc BK151.out 1).trans rfl⟩ (fun hHeld => nC ?_)
              clear hK K
              refine pu 11 26 4095 ?_
              refine pu 12 26 8191 ?_
              refine pu 13 26 16383 ?_
              refine pu 15 26 49151 ?_
              refine pu 18 26 311295 ?_
              refine pu 20 26 1359871 ?_
              refine tx 14 26 1376255 rfl rfl (take_ofW HT_.out HW_.out (by kernel_rfl)) hHeld (by rintro w' ⟨s0, s1, s2, s3, s4, s5⟩; go_simp; with_reducible rfl) ?_
              refine tx 16 26 1441791 rfl rfl (take_ofW HT_.out HW_.out (by kernel_rfl)) hHeld (by rintro w' ⟨s0, s1, s2, s3, s4, s5⟩; go_simp; with_reducible rfl) ?_
              refine tx 19 26 1966079 rfl rfl (take_ofW HT_.out HW_.out (by kernel_rfl)) hHeld (by rintro w' ⟨s0, s1, s2, s3, s4, s5⟩; go_simp; with_reducible rfl) ?_
              refine tx 21 26 4063231 rfl rfl (take_ofW HT_.out HW_.out (by kernel_rfl)) hHeld (by rintro w' ⟨s0, s1, s2, s3, s4, s5⟩; go_simp; with_reducible rfl) ?_
              refine one_ (i := 17) (N := some 41) #[Y,Y,Y,Y,Y,Y,Y,Y,Y,Y,Y,Y,Y,Y,Y,Y,Y,Y,Y,Y,Y,Y,Z,Z,Z,Z] rfl rfl (one_of HT_.out (by kernel_rfl)) (by decide) (fun K hK => ?_)
              refine goes_ Try.func31 (by kernel_rfl) rfl #[.agg #[.slice A144_0 ((rd_T52 l0 x11_1).f0.f0).length c144_0], .slice A1_1 l1_1.length c1_1] (by rfl) rfl rfl mB ?_
              with_reducible refine (spec_l1Pick.calls k2 _ _ ((rd_T52 l0 x11_1).f0.f0) _ _ l1_1 t159 _ ?side1 ?side2 ?side3 ?side4 A21.out).mono ?_
              (case side1 => exact cB (Kd.C_below HR144_0.out HB.out))
              (case side2 => exact HC144_0.out)
              (case side3 => exact cB (Kd.C_below HR1_1.out HB.out))
              (case side4 => exact HC1_1.out)
              rintro e w52 ⟨v160, rfl, ho0, hb⟩
              refine ⟨_, rfl, ?_⟩
              have n0_ := xm (Kd.R_elder' (rB HO154) (Kd.R_base ho0) hb)
              have n1_ := xm (Kd.R_elder' (rB HO157) (Kd.R_base ho0) hb)
              have n2_ := xm (Kd.R_lower (Kd.R_new' (Kd.R_new' ho0 (Kd.R_lt (rB HO154))) (Kd.R_lt (rB HO157))) (xz bG))
              have n3_ := xm (blk_below (kB BK143) hb)
              have n4_ := xm (blk_below (kB BK145) hb)
              have n5_ := xm (blk_below (kB BK151) hb)
              have n6_ := xm (below_step bG hb)
              revert n0_ n1_ n2_ n3_ n4_ n5_ n6_; clear HO154 HO157 BK143 BK145 BK151 HB; intro HO154 HO157 HO161 BK143 BK145 BK151 HB
              (try clear hb)
              (try clear hb2)
              (try clear hk)
              (try clear hi)
              (try clear ho0)
              refine hK.out _ _ ⟨(xc BK145.out 0).trans rfl, (xc BK145.out 1).trans rfl, (xc BK143.out 0).trans rfl, (xc BK143.out 1).trans rfl, (xc BK151.out 0).trans rfl, (xc BK151.out 1).trans rfl⟩ (fun hHeld => nC ?_)
              clear hK K
              refine one_ (i := 22) (N := some 46) #[Y,Y,Y,Y,Y,Y,Y,Y,Y,Y,Y,Y,Y,Y,Y,Y,Y,Y,Y,Y,Y,Y,Y,Z,Z,Z] rfl rfl (one_of HT_.out (by kernel_rfl)) (by decide) (fun K hK => ?_)
              refine goes_ Try.func31 (by kernel_rfl) rfl #[.agg #[.slice A150_0 ((rd_T52 y146 x20_2).f0.f0).length c150_0], .slice A1_1 l1_1.length c1_1] (by rfl) rfl rfl mB ?_
              with_reducible refine (spec_l1Pick.calls k2 _ _ ((rd_T52 y146 x20_2).f0.f0) _ _ l1_1 t162 _ ?side1 ?side2 ?side3 ?side4 A22.out).mono ?_
              (case side1 => exact cB (Kd.C_below HR150_0.out HB.out))
              (case side2 => exact HC150_0.out)
              (case side3 => exact cB (Kd.C_below HR1_1.out HB.out))
              (case side4 => exact HC1_1.out)
              rintro e w53 ⟨v163, rfl, ho0, hb⟩
              refine ⟨_, rfl, ?_⟩
              have n0_ := xm (Kd.R_elder' (rB HO154) (Kd.R_base ho0) hb)
              have n1_ := xm (Kd.R_elder' (rB HO157) (Kd.R_base ho0) hb)
              have n2_ := xm (Kd.R_elder' (rB HO161) (Kd.R_base ho0) hb)
              have n3_ := xm (Kd.R_lower (Kd.R_new' (Kd.R_new' (Kd.R_new' ho0 (Kd.R_lt (rB HO154))) (Kd.R_lt (rB HO157))) (Kd.R_lt (rB HO161))) (xz bG))
              have n4_ := xm (blk_below (kB BK143) hb)
              have n5_ := xm (blk_below (kB BK145) hb)
              have n6_ := xm (blk_below (kB BK151) hb)
              have n7_ := xm (below_step bG hb)
              revert n0_ n1_ n2_ n3_ n4_ n5_ n6_ n7_; clear HO154 HO157 HO161 BK143 BK145 BK151 HB; intro HO154 HO157 HO161 HO164 BK143 BK145 BK151 HB
              (try clear hb)
              (try clear hb2)
              (try clear hk)
              (try clear hi)
              (try clear ho0)
              obtain ⟨Ao54, co54, eo54⟩ := Kd.R_slice HO161.out
              (first | subst eo54 | (injection eo54 with f1_ f2_ f3_; have f4_ := f1_.symm; have f5_ := f3_.symm; clear f1_ f2_ f3_; subst f4_; subst f5_))
              obtain ⟨Ao55, co55, eo55⟩ := Kd.R_slice HO164.out
              (first | subst eo55 | (injection eo55 with f1_ f2_ f3_; have f4_ := f1_.symm; have f5_ := f3_.symm; clear f1_ f2_ f3_; subst f4_; subst f5_))
              refine hK.out _ _ ⟨(xc BK145.out 0).trans rfl, (xc BK145.out 1).trans rfl, (xc BK143.out 0).trans rfl, (xc BK143.out 1).trans rfl, (xc BK151.out 0).trans rfl, (xc BK151.out 1).trans rfl⟩ (fun hHeld => nC ?_)
              clear hK K
              refine one_ (i := 23) (N := some 47) #[Y,Y,Y,Y,Y,Y,Y,Y,Y,Y,Y,Y,Y,Y,Y,Y,Y,Y,Y,Y,Y,Y,Y,Y,Z,Z] rfl rfl (one_of HT_.out (by kernel_rfl)) (by decide) (fun K hK => ?_)
              refine goes_ Try.func28 (by kernel_rfl) rfl #[.agg #[.slice Ao54 t159.length co54], .agg #[.slice Ao55 t162.length co55]] (by rfl) rfl rfl mB ?_
              with_reducible refine (spec_l1Compare.calls k2 _ _ t159 _ _ t162 t165 _ ?side1 ?side2 ?side3 ?side4 A23.out).mono ?_
              (case side1 => repeat (first | exact (Kd.R_reads' HO161.out).2.2 | (with_reducible refine Kd.C_alloc ?_ _) | (with_reducible refine Kd.C_drewN ?_ _) | (with_reducible refine Kd.C_drew ?_)))
              (case side2 => exact (Kd.R_reads' HO161.out).2.1)
              (case side3 => repeat (first | exact (Kd.R_reads' HO164.out).2.2 | (with_reducible refine Kd.C_alloc ?_ _) | (with_reducible refine Kd.C_drewN ?_ _) | (with_reducible refine Kd.C_drew ?_)))
              (case side4 => exact (Kd.R_reads' HO164.out).2.1)
              rintro e w56 ⟨rfl, hb⟩
              refine ⟨_, rfl, ?_⟩
              have n0_ := xm (Kd.R_below (rB HO154) hb)
              have n1_ := xm (Kd.R_below (rB HO157) hb)
              have n2_ := xm (Kd.R_below (rB HO161) hb)
              have n3_ := xm (Kd.R_below (rB HO164) hb)
              have n4_ := xm (blk_below (kB BK143) hb)
              have n5_ := xm (blk_below (kB BK145) hb)
              have n6_ := xm (blk_below (kB BK151) hb)
              have n7_ := xm (below_step bG hb)
              revert n0_ n1_ n2_ n3_ n4_ n5_ n6_ n7_; clear HO154 HO157 HO161 HO164 BK143 BK145 BK151 HB; intro HO154 HO157 HO161 HO164 BK143 BK145 BK151 HB
              (try clear hb)
              (try clear hb2)
              (try clear hk)
              (try clear hi)
              refine hK.out _ _ ⟨(xc BK145.out 0).trans rfl, (xc BK145.out 1).trans rfl, (xc BK143.out 0).trans rfl, (xc BK143.out 1).trans rfl, (xc BK151.out 0).trans rfl, (xc BK151.out 1).trans rfl⟩ (fun hHeld => nC ?_)
              clear hK K
              refine pu 24 26 33554431 ?_
              refine pu 25 26 67108863 ?_
              refine done_ (done_of HT_.out (by kernel_rfl)) ?_
              try go_wp2
              go_ret
              exact ⟨eB, bG⟩
            ·rw [if_neg c20] at H
             have c20b0 : (t158 == 0) = false := beq_eq_false_iff_ne.mpr c20
             have c20b1 : (t158 != 0) = true := bne_iff_ne.mpr c20
             have H' := xm H
             clear H
             have p150 : 0 ≤ (x20_2 : Int) := of_decide_eq_true aB
             have q150 : x20_2 < (y146.length : Int) := of_decide_eq_true aB
             obtain ⟨ad150, A150_0, c150_0, e150, hx150_0, hx150_1, hl150_0, hi150_0⟩ := at_T52 HR149.out x20_2 p150 q150
             obtain rfl : ad144 = ad150 := (by injection e150)
             replace hx150_0 := hU hx150_0
             replace hx150_1 := hU hx150_1
             have HR150_0 := xm hi150_0
             have HC150_0 := xm hl150_0
             clear hi150_0 hl150_0
             replace p150 := eq_true p150
             replace q150 := eq_true q150
             try go_wp2_with (first | ((with_reducible refine gate_dst (N := 8) rfl ?_); refine box_event ?hg (N := 8) ?hd (cs := #[.slice none 0 0, .int .i64 0]) (t := 52) ?hr ?_; (case hd => rfl); (case hg => rfl); (case hr => exact zB); intro gb151 hg w57 hbox hb; have n0_ := xm (blk_below (kB BK143) hb); have n1_ := xm (blk_below (kB BK145) hb); have n2_ := xm (below_step bG hb); have n3_ := xm (hbox); have n4_ := xm ((by rw [hg]; exact (xz bG) : w.heap.size ≤ gb151)); have n5_ := xm ((by rw [hg]; exact (xz bG) : w.heap.size ≤ gb151)); have n6_ := xm ((by rw [hg]; exact Nat.ne_of_lt (blk_lt (kB BK143)) : gb143 ≠ gb151)); have n7_ := xm ((by rw [hg]; exact Nat.ne_of_gt (blk_lt (kB BK143)) : gb151 ≠ gb143)); have n8_ := xm ((by rw [hg]; exact Nat.ne_of_lt (blk_lt (kB BK145)) : gb145 ≠ gb151)); have n9_ := xm ((by rw [hg]; exact Nat.ne_of_gt (blk_lt (kB BK145)) : gb151 ≠ gb145)); revert n0_ n1_ n2_ n3_ n4_ n5_ n6_ n7_ n8_ n9_; clear BK143 BK145 HB; intro BK143 BK145 HB BK151 GW151 GE151 NB143_151 NB151_143 NB145_151 NB151_145; clear hb hbox hg; have hnb58 := NB151_143.out; have hnc58 := NB143_151.out; have hnb59 := NB151_145.out; have hnc59 := NB145_151.out; obtain ⟨hcz60_0, hcz60_1, hfz60_0, hfz60_1⟩ := cz2 BK151.out))
             have n0_ : Aside0 (((w57.setCell ⟨gb151, 0, none⟩ (.slice A150_0 ((rd_T52 y146 x20_2).f0.f0).length c150_0)).setCell ⟨gb151, 1, none⟩ (.int .i64 ((rd_T52 y146 x20_2).f1))).heap[gb143]? = some (.cells #[.slice A1_0 l1_0.length c1_0, .slice A1_1 l1_1.length c1_1] 36 (0, 0))) := ⟨by (with_reducible repeat (first | refine xq ?_ _ | refine xr ?_ | refine xo ?_ _)); refine blk_far ?_ NB143_151.out _; (with_reducible repeat (first | refine xq ?_ _ | refine xr ?_ | refine xo ?_ _)); refine blk_far ?_ NB143_151.out _; (with_reducible repeat (first | refine xq ?_ _ | refine xr ?_ | refine xo ?_ _)); exact BK143.out⟩
             have n1_ : Aside0 (((w57.setCell ⟨gb151, 0, none⟩ (.slice A150_0 ((rd_T52 y146 x20_2).f0.f0).length c150_0)).setCell ⟨gb151, 1, none⟩ (.int .i64 ((rd_T52 y146 x20_2).f1))).heap[gb145]? = some (.cells #[.slice A144_0 ((rd_T52 l0 x11_1).f0.f0).length c144_0, .int .i64 ((rd_T52 l0 x11_1).f1)] 52 (0, 0))) := ⟨by (with_reducible repeat (first | refine xq ?_ _ | refine xr ?_ | refine xo ?_ _)); refine blk_far ?_ NB145_151.out _; (with_reducible repeat (first | refine xq ?_ _ | refine xr ?_ | refine xo ?_ _)); refine blk_far ?_ NB145_151.out _; (with_reducible repeat (first | refine xq ?_ _ | refine xr ?_ | refine xo ?_ _)); exact BK145.out⟩
             have n2_ : Aside0 (((w57.setCell ⟨gb151, 0, none⟩ (.slice A150_0 ((rd_T52 y146 x20_2).f0.f0).length c150_0)).setCell ⟨gb151, 1, none⟩ (.int .i64 ((rd_T52 y146 x20_2).f1))).heap[gb151]? = some (.cells #[.slice A150_0 ((rd_T52 y146 x20_2).f0.f0).length c150_0, .int .i64 ((rd_T52 y146 x20_2).f1)] 52 (0, 0))) := ⟨by (with_reducible repeat (first | refine xq ?_ _ | refine xr ?_ | refine xo ?_ _)); refine blk_put (cs := #[.slice A150_0 ((rd_T52 y146 x20_2).f0.f0).length c150_0, .int .i64 0]) ?_ 1 _ rfl; (with_reducible repeat (first | refine xq ?_ _ | refine xr ?_ | refine xo ?_ _)); refine blk_put (cs := #[.slice none 0 0, .int .i64 0]) ?_ 0 _ rfl; (with_reducible repeat (first | refine xq ?_ _ | refine xr ?_ | refine xo ?_ _)); exact BK151.out⟩
             have n3_ : Aside0 (Below w.heap.size w ((w57.setCell ⟨gb151, 0, none⟩ (.slice A150_0 ((rd_T52 y146 x20_2).f0.f0).length c150_0)).setCell ⟨gb151, 1, none⟩ (.int .i64 ((rd_T52 y146 x20_2).f1)))) := ⟨bG⟩
             (try clear BK143)
             (try clear BK145)
             (try clear BK151)
             (try clear HB)
             generalize ((w57.setCell ⟨gb151, 0, none⟩ (.slice A150_0 ((rd_T52 y146 x20_2).f0.f0).length c150_0)).setCell ⟨gb151, 1, none⟩ (.int .i64 ((rd_T52 y146 x20_2).f1))) = w61 at n0_ n1_ n2_ n3_ ⊢
             revert n0_ n1_ n2_ n3_; intro BK143 BK145 BK151 HB
             have n0_ := xm (xr BK143.out)
             have n1_ := xm (xr BK145.out)
             have n2_ := xm (xr BK151.out)
             have n3_ := xm (xd HB.out)
             revert n0_ n1_ n2_ n3_; clear BK143 BK145 BK151 HB; intro BK143 BK145 BK151 HB
             refine start_ (n := 26) (S := fun w' => w'.cell? ⟨gb145, 0, none⟩ = some (.slice A144_0 ((rd_T52 l0 x11_1).f0.f0).length c144_0) ∧ w'.cell? ⟨gb145, 1, none⟩ = some (.int .i64 ((rd_T52 l0 x11_1).f1)) ∧ w'.cell? ⟨gb143, 0, none⟩ = some (.slice A1_0 l1_0.length c1_0) ∧ w'.cell? ⟨gb143, 1, none⟩ = some (.slice A1_1 l1_1.length c1_1) ∧ w'.cell? ⟨gb151, 0, none⟩ = some (.slice A150_0 ((rd_T52 y146 x20_2).f0.f0).length c150_0) ∧ w'.cell? ⟨gb151, 1, none⟩ = some (.int .i64 ((rd_T52 y146 x20_2).f1))) (ds := []) #[Z,Z,Z,Z,Z,Z,Z,Z,Z,Z,Z,Z,Z,Z,Z,Z,Z,Z,Z,Z,Z,Z,Z,Z,Z,Z] (by kernel_rfl) rfl rfl ⟨(xc BK145.out 0).trans rfl, (xc BK145.out 1).trans rfl, (xc BK143.out 0).trans rfl, (xc BK143.out 1).trans rfl, (xc BK151.out 0).trans rfl, (xc BK151.out 1).trans rfl⟩ (fun hHeld => ?_); refine with_tabW spec_l7Holds.tab7 spec_l7Holds.bits7 (fun HT_ HW_ => ?_)
             generalize w61.drew = w62 at BK143 BK145 BK151 HB hHeld ⊢
             refine pu 0 26 1 ?_
             refine pu 2 26 5 ?_
             refine pu 5 26 37 ?_
             refine pu 7 26 165 ?_
             refine tx 1 26 167 rfl rfl (take_ofW HT_.out HW_.out (by kernel_rfl)) hHeld (by rintro w' ⟨s0, s1, s2, s3, s4, s5⟩; go_simp; with_reducible rfl) ?_
             refine tx 3 26 175 rfl rfl (take_ofW HT_.out HW_.out (by kernel_rfl)) hHeld (by rintro w' ⟨s0, s1, s2, s3, s4, s5⟩; go_simp; with_reducible rfl) ?_
             refine tx 6 26 239 rfl rfl (take_ofW HT_.out HW_.out (by kernel_rfl)) hHeld (by rintro w' ⟨s0, s1, s2, s3, s4, s5⟩; go_simp; with_reducible rfl) ?_
             refine tx 8 26 495 rfl rfl (take_ofW HT_.out HW_.out (by kernel_rfl)) hHeld (by rintro w' ⟨s0, s1, s2, s3, s4, s5⟩; go_simp; with_reducible rfl) ?_
             refine one_ (i := 4) (N := some 28) #[Y,Y,Y,Y,Y,Y,Y,Y,Y,Z,Z,Z,Z,Z,Z,Z,Z,Z,Z,Z,Z,Z,Z,Z,Z,Z] rfl rfl (one_of HT_.out (by kernel_rfl)) (by decide) (fun K hK => ?_)
             refine goes_ Try.func31 (by kernel_rfl) rfl #[.agg #[.slice A144_0 ((rd_T52 l0 x11_1).f0.f0).length c144_0], .slice A1_0 l1_0.length c1_0] (by rfl) rfl rfl mB ?_
             with_reducible refine (spec_l1Pick.calls k2 _ _ ((rd_T52 l0 x11_1).f0.f0) _ _ l1_0 t152 _ ?side1 ?side2 ?side3 ?side4 A17.out).mono ?_
             (case side1 => exact cB (Kd.C_below HR144_0.out HB.out))
             (case side2 => exact HC144_0.out)
             (case side3 => exact cB (Kd.C_below HR1_0.out HB.out))
             (case side4 => exact HC1_0.out)
             rintro e w63 ⟨v153, rfl, ho0, hb⟩
             refine ⟨_, rfl, ?_⟩
             have n0_ := xm (Kd.R_lower ho0 (xz bG))
             have n1_ := xm (blk_below (kB BK143) hb)
             have n2_ := xm (blk_below (kB BK145) hb)
             have n3_ := xm (blk_below (kB BK151) hb)
             have n4_ := xm (below_step bG hb)
             revert n0_ n1_ n2_ n3_ n4_; clear BK143 BK145 BK151 HB; intro HO154 BK143 BK145 BK151 HB
             (try clear hb)
             (try clear hb2)
             (try clear hk)
             (try clear hi)
             (try clear ho0)
             refine hK.out _ _ ⟨(xc BK145.out 0).trans rfl, (xc BK145.out 1).trans rfl, (xc BK143.out 0).trans rfl, (xc BK143.out 1).trans rfl, (xc BK151.out 0).trans rfl, (xc BK151.out 1).trans rfl⟩ (fun hHeld => nC ?_)
             clear hK K
             refine one_ (i := 9) (N := some 33) #[Y,Y,Y,Y,Y,Y,Y,Y,Y,Y,Z,Z,Z,Z,Z,Z,Z,Z,Z,Z,Z,Z,Z,Z,Z,Z] rfl rfl (one_of HT_.out (by kernel_rfl)) (by decide) (fun K hK => ?_)
             refine goes_ Try.func31 (by kernel_rfl) rfl #[.agg #[.slice A150_0 ((rd_T52 y146 x20_2).f0.f0).length c150_0], .slice A1_0 l1_0.length c1_0] (by rfl) rfl rfl mB ?_
             with_reducible refine (spec_l1Pick.calls k2 _ _ ((rd_T52 y146 x20_2).f0.f0) _ _ l1_0 t155 _ ?side1 ?side2 ?side3 ?side4 A18.out).mono ?_
             (case side1 => exact cB (Kd.C_below HR150_0.out HB.out))
             (case side2 => exact HC150_0.out)
             (case side3 => exact cB (Kd.C_below HR1_0.out HB.out))
             (case side4 => exact HC1_0.out)
             rintro e w64 ⟨v156, rfl, ho0, hb⟩
             refine ⟨_, rfl, ?_⟩
             have n0_ := xm (Kd.R_elder' (rB HO154) (Kd.R_base ho0) hb)
             have n1_ := xm (Kd.R_lower (Kd.R_new' ho0 (Kd.R_lt (rB HO154))) (xz bG))
             have n2_ := xm (blk_below (kB BK143) hb)
             have n3_ := xm (blk_below (kB BK145) hb)
             have n4_ := xm (blk_below (kB BK151) hb)
             have n5_ := xm (below_step bG hb)
             revert n0_ n1_ n2_ n3_ n4_ n5_; clear HO154 BK143 BK145 BK151 HB; intro HO154 HO157 BK143 BK145 BK151 HB
             (try clear hb)
             (try clear hb2)
             (try clear hk)
             (try clear hi)
             (try clear ho0)
             obtain ⟨Ao65, co65, eo65⟩ := Kd.R_slice HO154.out
             (first | subst eo65 | (injection eo65 with f1_ f2_ f3_; have f4_ := f1_.symm; have f5_ := f3_.symm; clear f1_ f2_ f3_; subst f4_; subst f5_))
             obtain ⟨Ao66, co66, eo66⟩ := Kd.R_slice HO157.out
             (first | subst eo66 | (injection eo66 with f1_ f2_ f3_; have f4_ := f1_.symm; have f5_ := f3_.symm; clear f1_ f2_ f3_; subst f4_; subst f5_))
             refine hK.out _ _ ⟨(xc BK145.out 0).trans rfl, (xc BK145.out 1).trans rfl, (xc BK143.out 0).trans rfl, (xc BK143.out 1).trans rfl, (xc BK151.out 0).trans rfl, (xc BK151.out 1).trans rfl⟩ (fun hHeld => nC ?_)
             clear hK K
             refine one_ (i := 10) (N := some 34) #[Y,Y,Y,Y,Y,Y,Y,Y,Y,Y,Y,Z,Z,Z,Z,Z,Z,Z,Z,Z,Z,Z,Z,Z,Z,Z] rfl rfl (one_of HT_.out (by kernel_rfl)) (by decide) (fun K hK => ?_)
             refine goes_ Try.func28 (by kernel_rfl) rfl #[.agg #[.slice Ao65 t152.length co65], .agg #[.slice Ao66 t155.length co66]] (by rfl) rfl rfl mB ?_
             with_reducible refine (spec_l1Compare.calls k2 _ _ t152 _ _ t155 t158 _ ?side1 ?side2 ?side3 ?side4 A19.out).mono ?_
             (case side1 => repeat (first | exact (Kd.R_reads' HO154.out).2.2 | (with_reducible refine Kd.C_alloc ?_ _) | (with_reducible refine Kd.C_drewN ?_ _) | (with_reducible refine Kd.C_drew ?_)))
             (case side2 => exact (Kd.R_reads' HO154.out).2.1)
             (case side3 => repeat (first | exact (Kd.R_reads' HO157.out).2.2 | (with_reducible refine Kd.C_alloc ?_ _) | (with_reducible refine Kd.C_drewN ?_ _) | (with_reducible refine Kd.C_drew ?_)))
             (case side4 => exact (Kd.R_reads' HO157.out).2.1)
             rintro e w67 ⟨rfl, hb⟩
             refine ⟨_, rfl, ?_⟩
             have n0_ := xm (Kd.R_below (rB HO154) hb)
             have n1_ := xm (Kd.R_below (rB HO157) hb)
             have n2_ := xm (blk_below (kB BK143) hb)
             have n3_ := xm (blk_below (kB BK145) hb)
             have n4_ := xm (blk_below (kB BK151) hb)
             have n5_ := xm (below_step bG hb)
             revert n0_ n1_ n2_ n3_ n4_ n5_; clear HO154 HO157 BK143 BK145 BK151 HB; intro HO154 HO157 BK143 BK145 BK151 HB
             (try clear hb)
             (try clear hb2)
             (try clear hk)
             (try clear hi)
             refine hK.out _ _ ⟨(xc BK145.out 0).trans rfl, (xc BK145.out 1).trans rfl, (xc BK143.out 0).trans rfl, (xc BK143.out 1).trans rfl, (xc BK151.out 0).trans rfl, (xc BK151.out 1).trans rfl⟩ (fun hHeld => nC ?_)
             clear hK K
             refine pu 11 26 4095 ?_
             refine pu 12 26 8191 ?_
             refine ou 13 26 16383 ?_
             refine ou 14 26 32767 ?_
             refine ou 15 26 65535 ?_
             refine ou 16 26 131071 ?_
             refine ou 17 26 262143 ?_
             refine ou 18 26 524287 ?_
             refine ou 19 26 1048575 ?_
             refine ou 20 26 2097151 ?_
             refine ou 21 26 4194303 ?_
             refine ou 22 26 8388607 ?_
             refine ou 23 26 16777215 ?_
             refine ou 24 26 33554431 ?_
             refine pu 25 26 67108863 ?_
             refine done_ (done_of HT_.out (by kernel_rfl)) ?_
             try go_wp2
             go_roundg k2
             case measure => have := HK1.out; have := HK2.out; omega
             case rel => exact ⟨(wrap64 (x20_2 + 1)), sB, H', ⟨by have := HK1.out; have := HK2.out; omega⟩, ⟨kB BK143⟩, ⟨kB BK145⟩, ⟨bG⟩⟩
           ·rw [if_neg c16] at H
            exact absurd H (by simp)
          ·rw [if_neg c15] at H
           exact absurd H (by simp)
         ·rw [if_neg c14] at H
          have c14b0 : decide (x20_2 < (y146.length : Int)) = false := decide_eq_false c14
          clear c14
          have H' := xm H
          clear H
          go_wp2
          go_roundg k2
          case measure => have := HK1.out; have := HK2.out; omega
          case rel => exact ⟨(wrap64 (x11_1 + 1)), sB, H', ⟨by have := HK1.out; have := HK2.out; omega⟩, ⟨kB BK143⟩, ⟨bG⟩⟩
      ·rw [if_neg c8] at H
       exact absurd H (by simp)
     ·rw [if_neg c6] at H
      exact absurd H (by simp)
    ·rw [if_neg c5] at H
     exact absurd H (by simp)
   ·rw [if_neg c4] at H
    have c4b0 : decide (x11_1 < (l0.length : Int)) = false := decide_eq_false c4
    clear c4
    obtain rfl := Option.some.inj H
    go_wp2
    go_ret
    exact ⟨eB, bG⟩

end Go.Proofs.Ytmelechhnimlnac.G
