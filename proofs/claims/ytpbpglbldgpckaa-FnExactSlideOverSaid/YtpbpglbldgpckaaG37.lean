/- Written by a program of this claim's own, out of the translation: functions of the program as plain functions, and that the calls answer as these. No conditions. -/
import Derived.Test.YtpbpglbldgpckaaG0
import Derived.Test.YtpbpglbldgpckaaG23
namespace Go.Proofs.Ytpbpglbldgpckaa.G
open Go.RowKit Go.Proofs.Ytpbpglbldgpckaa.X Go.Proofs.YtpbpglbldgpckaaW.PrintWords Go.Proofs.YtpbpglbldgpckaaW.PrintLast Go.Proofs.YtpbpglbldgpckaaW.PrintMore
attribute [local go_sem] max2_int min2_int max_two min_two max_three min_three max_four min_four   -- for this text's walks alone
set_option linter.unusedVariables false
set_option linter.unusedSimpArgs false

/-! ### impl_Window_sum: function 106 -/
def impl_Window_sum.f (l0_0 : List (S51)) (l0_1 : List (S51)) (l0_2 : List (S51)) (a0_3 : Int) (a0_4 : Int) : Option (Int × Int) := if (wrap64 ((l0_1.length : Int) - 1)) ≥ 0 then (if 0 ≤ (wrap64 ((l0_1.length : Int) - 1)) then (if (wrap64 ((l0_1.length : Int) - 1)) < (l0_1.length : Int) then ((impl_Map_then.f ((rd_T51 l0_1 (wrap64 ((l0_1.length : Int) - 1))).f0) ((rd_T51 l0_1 (wrap64 ((l0_1.length : Int) - 1))).f1) a0_3 a0_4).bind fun bt442 => (some (bt442.1, bt442.2))) else (none)) else (none)) else (some (a0_3, a0_4))
def impl_Window_sum.T3 : Bool × List (List Nat × List Nat) := (true, [([], []), ([0], [0]), ([], []), ([1, 2], [1, 2]), ([3], [3]), ([], []), ([5], [5]), ([4, 6], [4, 6]), ([7, 7, 0, 1, 2, 3, 4, 5, 6, 7], [7])])
def impl_Window_sum.B3 : List Nat := [0, 1, 0, 7, 15, 0, 32, 127, 255]
theorem impl_Window_sum.tab3 : rtab .any (opsOf Try.f106 3) = impl_Window_sum.T3 := by kernel_rfl
theorem impl_Window_sum.bits3 : waitsOk impl_Window_sum.T3.2 impl_Window_sum.B3 = true := by kernel_rfl
set_option maxHeartbeats 8000000 in
set_option maxRecDepth 100000 in
theorem impl_Window_sum.calls (A0_0 : Option Addr) (c0_0 : Nat) (l0_0 : List (S51)) (A0_1 : Option Addr) (c0_1 : Nat) (l0_1 : List (S51)) (A0_2 : Option Addr) (c0_2 : Nat) (l0_2 : List (S51)) (a0_3 : Int) (a0_4 : Int) (r1 : Int) (r2 : Int) (w : World) (hr0_0 : Kd.C k51 w A0_0 l0_0.length l0_0) (hc0_0 : l0_0.length ≤ c0_0) (hr0_1 : Kd.C k51 w A0_1 l0_1.length l0_1) (hc0_1 : l0_1.length ≤ c0_1) (hr0_2 : Kd.C k51 w A0_2 l0_2.length l0_2) (hc0_2 : l0_2.length ≤ c0_2) (h : impl_Window_sum.f l0_0 l0_1 l0_2 a0_3 a0_4 = some (r1, r2)) :
  Calls Try.prog 106 #[.agg #[.slice A0_0 l0_0.length c0_0, .slice A0_1 l0_1.length c0_1, .slice A0_2 l0_2.length c0_2, .int .i64 a0_3, .int .i64 a0_4]] w fun e w' => e = .returned (.agg #[.int .i64 r1, .int .i64 r2]) ∧ Below w.heap.size w w' := by
 have hu53 := Try.underlying53
 have hu51 := Try.underlying51
 have HR0_0 := xm hr0_0
 have HC0_0 := xm hc0_0
 clear hr0_0 hc0_0
 have HR0_1 := xm hr0_1
 have HC0_1 := xm hc0_1
 clear hr0_1 hc0_1
 have HR0_2 := xm hr0_2
 have HC0_2 := xm hc0_2
 clear hr0_2 hc0_2
 have HB := xm (Below.refl w.heap.size w)
 have H : (if (wrap64 ((l0_1.length : Int) - 1)) ≥ 0 then (if 0 ≤ (wrap64 ((l0_1.length : Int) - 1)) then (if (wrap64 ((l0_1.length : Int) - 1)) < (l0_1.length : Int) then ((impl_Map_then.f ((rd_T51 l0_1 (wrap64 ((l0_1.length : Int) - 1))).f0) ((rd_T51 l0_1 (wrap64 ((l0_1.length : Int) - 1))).f1) a0_3 a0_4).bind fun bt442 => (some (bt442.1, bt442.2))) else (none)) else (none)) else (some (a0_3, a0_4))) = some (r1, r2) := h
 clear h
 by_cases c2 : (wrap64 ((l0_1.length : Int) - 1)) ≥ 0
 ·rw [if_pos c2] at H
  have c2b0 : decide (0 ≤ (wrap64 ((l0_1.length : Int) - 1))) = true := decide_eq_true c2
  clear c2
  obtain ⟨ji3, hji3⟩ : ∃ j_ : Int, (wrap64 ((l0_1.length : Int) - 1)) = j_ := ⟨_, rfl⟩
  replace H : (if 0 ≤ (ji3) then (if (ji3) < (l0_1.length : Int) then ((impl_Map_then.f ((rd_T51 l0_1 (ji3)).f0) ((rd_T51 l0_1 (ji3)).f1) a0_3 a0_4).bind fun bt442 => (some (bt442.1, bt442.2))) else (none)) else (none)) = some (r1, r2) := by first | (rw [hji3] at H; exact H) | (simp only [hji3] at H ⊢; exact H)
  (try rw [hji3] at c2b0)
  have hji3w : (IntKind.i64.wrap ((l0_1.length : Int) - 1)) = ji3 := (i64_w _).trans hji3
  by_cases c4 : 0 ≤ (ji3)
  ·rw [if_pos c4] at H
   have c4b0 : decide (0 ≤ (ji3)) = true := decide_eq_true c4
   clear c4
   by_cases c5 : (ji3) < (l0_1.length : Int)
   ·rw [if_pos c5] at H
    have c5b0 : decide ((ji3) < (l0_1.length : Int)) = true := decide_eq_true c5
    clear c5
    replace H := Option.bind_eq_some_iff.mp H
    obtain ⟨⟨t442, t443⟩, A60, H⟩ := H
    replace H : (some (t442, t443)) = some (r1, r2) := H
    have A6 := xm A60
    clear A60
    simp only [Option.some.injEq, Prod.mk.injEq] at H
    obtain ⟨rfl, rfl⟩ := H
    go_enter Try.func106, Try.ntmps106
    try go_wp2_with (first | ((with_reducible refine gate_dst (N := 1) rfl ?_); refine box_event ?hg (N := 1) ?hd (cs := #[.slice A0_0 l0_0.length c0_0, .slice A0_1 l0_1.length c0_1, .slice A0_2 l0_2.length c0_2, .int .i64 a0_3, .int .i64 a0_4]) (t := 53) ?hr ?_; (case hd => rfl); (case hg => rfl); (case hr => first | (go_simp; done) | (go_simp; rfl)); intro gb439 hg w7 hbox hb; have n0_ := xm (below_step (by repeat (first | (with_reducible first | exact HB.out | apply xa | apply xn | apply xd) | exact HB.out)) hb); have n1_ := xm (hbox); have n2_ := xm ((by rw [hg]; exact (xz (by repeat (first | (with_reducible first | exact HB.out | apply xa | apply xn | apply xd) | exact HB.out))) : w.heap.size ≤ gb439)); have n3_ := xm ((by rw [hg]; exact (xz (by repeat (first | (with_reducible first | exact HB.out | apply xa | apply xn | apply xd) | exact HB.out))) : w.heap.size ≤ gb439)); clear HB; have HB := n0_; have BK439 := n1_; have GW439 := n2_; have GE439 := n3_; clear n0_ n1_ n2_ n3_; clear hb hbox hg) | ((with_reducible refine gate_dst (N := 2) rfl ?_); refine box_event ?hg (N := 2) ?hd (cs := #[.int .i64 0, .int .i64 0]) (t := 51) ?hr ?_; (case hd => rfl); (case hg => rfl); (case hr => first | (go_simp; done) | (go_simp; rfl)); intro gb440 hg w8 hbox hb; have n0_ := xm (blk_below (g := gb439) (o := .cells #[.slice A0_0 l0_0.length c0_0, .slice A0_1 l0_1.length c0_1, .slice A0_2 l0_2.length c0_2, .int .i64 a0_3, .int .i64 a0_4] 53 (0, 0)) (by (with_reducible repeat (first | refine xq ?_ _ | refine xr ?_ | refine xo ?_ _)); exact BK439.out) hb); have n1_ := xm (below_step (by repeat (first | (with_reducible first | exact HB.out | apply xa | apply xn | apply xd | refine xt ?_ GE439.out) | exact HB.out)) hb); have n2_ := xm (hbox); have n3_ := xm ((by rw [hg]; exact (xz (by repeat (first | (with_reducible first | exact HB.out | apply xa | apply xn | apply xd | refine xt ?_ GE439.out) | exact HB.out))) : w.heap.size ≤ gb440)); have n4_ := xm ((by rw [hg]; exact (xz (by repeat (first | (with_reducible first | exact HB.out | apply xa | apply xn | apply xd | refine xt ?_ GE439.out) | exact HB.out))) : w.heap.size ≤ gb440)); have n5_ := xm ((by rw [hg]; exact Nat.ne_of_lt (blk_lt (g := gb439) (o := .cells #[.slice A0_0 l0_0.length c0_0, .slice A0_1 l0_1.length c0_1, .slice A0_2 l0_2.length c0_2, .int .i64 a0_3, .int .i64 a0_4] 53 (0, 0)) (by (with_reducible repeat (first | refine xq ?_ _ | refine xr ?_ | refine xo ?_ _)); exact BK439.out)) : gb439 ≠ gb440)); have n6_ := xm ((by rw [hg]; exact Nat.ne_of_gt (blk_lt (g := gb439) (o := .cells #[.slice A0_0 l0_0.length c0_0, .slice A0_1 l0_1.length c0_1, .slice A0_2 l0_2.length c0_2, .int .i64 a0_3, .int .i64 a0_4] 53 (0, 0)) (by (with_reducible repeat (first | refine xq ?_ _ | refine xr ?_ | refine xo ?_ _)); exact BK439.out)) : gb440 ≠ gb439)); clear BK439; clear HB; have BK439 := n0_; have HB := n1_; have BK440 := n2_; have GW440 := n3_; have GE440 := n4_; have NB439_440 := n5_; have NB440_439 := n6_; clear n0_ n1_ n2_ n3_ n4_ n5_ n6_; clear hb hbox hg; have hnb9 := NB439_440.out; have hnc9 := NB440_439.out; have hcz10_0 : w8.cell? ⟨gb439, 0, none⟩ = some (.slice A0_0 l0_0.length c0_0) := (xc BK439.out 0).trans rfl; have hcz10_1 : w8.cell? ⟨gb439, 1, none⟩ = some (.slice A0_1 l0_1.length c0_1) := (xc BK439.out 1).trans rfl; have hcz10_2 : w8.cell? ⟨gb439, 2, none⟩ = some (.slice A0_2 l0_2.length c0_2) := (xc BK439.out 2).trans rfl; have hcz10_3 : w8.cell? ⟨gb439, 3, none⟩ = some (.int .i64 a0_3) := (xc BK439.out 3).trans rfl; have hcz10_4 : w8.cell? ⟨gb439, 4, none⟩ = some (.int .i64 a0_4) := (xc BK439.out 4).trans rfl; have hfz10_0 := xf BK439.out 0; have hfz10_1 := xf BK439.out 1; have hfz10_2 := xf BK439.out 2; have hfz10_3 := xf BK439.out 3; have hfz10_4 := xf BK439.out 4))
    have n0_ := xm (xr BK439.out)
    have n1_ := xm (xr BK440.out)
    have n2_ := xm (xd HB.out)
    clear BK439
    clear BK440
    clear HB
    have BK439 := n0_
    have BK440 := n1_
    have HB := n2_
    clear n0_ n1_ n2_
    have p441 : 0 ≤ ((ji3) : Int) := of_decide_eq_true (by first | (with_reducible assumption) | assumption)
    have q441 : (ji3) < (l0_1.length : Int) := of_decide_eq_true (by first | (with_reducible assumption) | assumption)
    obtain ⟨ad441, e441, hx441_0, hx441_1⟩ := at_T51 HR0_1.out (ji3) p441 q441
    have hw441_1 := hx441_1
    have hw441_0 := hx441_0
    cases e441
    replace hx441_0 := (HB.out.cell (World.block_lt_of_cell? w _ hx441_0)).trans hx441_0
    replace hx441_1 := (HB.out.cell (World.block_lt_of_cell? w _ hx441_1)).trans hx441_1
    replace p441 := eq_true p441
    replace q441 := eq_true q441
    refine start_ (n := 9) (S := fun w' => w'.cell? ⟨gb439, 0, none⟩ = some (.slice A0_0 l0_0.length c0_0) ∧ w'.cell? ⟨gb439, 1, none⟩ = some (.slice (some ad441) l0_1.length c0_1) ∧ w'.cell? ⟨gb439, 2, none⟩ = some (.slice A0_2 l0_2.length c0_2) ∧ w'.cell? ⟨gb439, 3, none⟩ = some (.int .i64 a0_3) ∧ w'.cell? ⟨gb439, 4, none⟩ = some (.int .i64 a0_4) ∧ w'.cell? (ad441.add (((ji3)).toNat * 2)) = some (.int .i64 ((rd_T51 l0_1 (ji3)).f0)) ∧ w'.cell? ⟨(ad441.add (((ji3)).toNat * 2)).block, (ad441.add (((ji3)).toNat * 2)).off + 1, none⟩ = some (.int .i64 ((rd_T51 l0_1 (ji3)).f1))) (ds := []) #[Z,Z,Z,Z,Z,Z,Z,Z,Z] (by kernel_rfl) rfl rfl ⟨(xc BK439.out 0).trans rfl, (xc BK439.out 1).trans rfl, (xc BK439.out 2).trans rfl, (xc BK439.out 3).trans rfl, (xc BK439.out 4).trans rfl, ((HB.out.cell (World.block_lt_of_cell? w _ hw441_0)).trans hw441_0), ((HB.out.cell (World.block_lt_of_cell? w _ hw441_1)).trans hw441_1)⟩ (fun hHeld => ?_); refine with_tabW impl_Window_sum.tab3 impl_Window_sum.bits3 (fun HT_ HW_ => ?_)
    generalize w8.drew = w11 at BK439 BK440 HB hx441_0 hx441_1 hHeld ⊢
    refine pure_ (i := 0) (N := some 10) (v := ?_) (a' := ?_) #[Y,Z,Z,Z,Z,Z,Z,Z,Z] rfl rfl (any_of HT_.out (by kernel_rfl)) (fun _ _ _ h => h) (Or.inl ⟨by rfl, ?_⟩) ?_ ?_
    rotate_left
    ·intro w'
     go_simp
     with_reducible rfl
    rotate_left
    ·simp only [Act.put, xi, xj, xk, i64_w, i32_w]
     rfl
    refine pure_ (i := 2) (N := some 12) (v := ?_) (a' := ?_) #[Y,Z,Y,Z,Z,Z,Z,Z,Z] rfl rfl (any_of HT_.out (by kernel_rfl)) (fun _ _ _ h => h) (Or.inl ⟨by rfl, ?_⟩) ?_ ?_
    rotate_left
    ·intro w'
     go_simp
     with_reducible rfl
    rotate_left
    ·simp only [Act.put, xi, xj, xk, i64_w, i32_w]
     rfl
    refine pure_ (i := 5) (N := some 15) (v := ?_) (a' := ?_) #[Y,Z,Y,Z,Z,Y,Z,Z,Z] rfl rfl (any_of HT_.out (by kernel_rfl)) (fun _ _ _ h => h) (Or.inl ⟨by rfl, ?_⟩) ?_ ?_
    rotate_left
    ·intro w'
     go_simp
     with_reducible rfl
    rotate_left
    ·simp only [Act.put, xi, xj, xk, i64_w, i32_w]
     rfl
    refine take_ (i := 1) (N := some 11) (v := ?_) (a' := ?_) #[Y,Y,Y,Z,Z,Y,Z,Z,Z] rfl rfl (take_ofW HT_.out HW_.out (by kernel_rfl)) (fun _ _ _ h => h) (Or.inl ⟨by rfl, ?_⟩) hHeld ?_ ?_
    rotate_left
    ·rintro w' ⟨s0, s1, s2, s3, s4, s5, s6⟩
     go_simp
     with_reducible rfl
    rotate_left
    ·simp only [Act.put, xi, xj, xk, i64_w, i32_w]
     rfl
    refine pure_ (i := 3) (N := some 13) (v := ?_) (a' := ?_) #[Y,Y,Y,Y,Z,Y,Z,Z,Z] rfl rfl (any_of HT_.out (by kernel_rfl)) (fun _ _ _ h => h) (Or.inl ⟨by rfl, ?_⟩) ?_ ?_
    rotate_left
    ·intro w'
     go_simp
     with_reducible rfl
    rotate_left
    ·simp only [Act.put, xi, xj, xk, i64_w, i32_w]
     rfl
    refine take_ (i := 4) (N := some 14) (v := ?_) (a' := ?_) #[Y,Y,Y,Y,Y,Y,Z,Z,Z] rfl rfl (take_ofW HT_.out HW_.out (by kernel_rfl)) (fun _ _ _ h => h) (Or.inl ⟨by rfl, ?_⟩) hHeld ?_ ?_
    rotate_left
    ·rintro w' ⟨s0, s1, s2, s3, s4, s5, s6⟩
     go_simp
     with_reducible rfl
    rotate_left
    ·simp only [Act.put, xi, xj, xk, i64_w, i32_w]
     rfl
    refine take_ (i := 6) (N := some 16) (v := ?_) (a' := ?_) #[Y,Y,Y,Y,Y,Y,Y,Z,Z] rfl rfl (take_ofW HT_.out HW_.out (by kernel_rfl)) (fun _ _ _ h => h) (Or.inl ⟨by rfl, ?_⟩) hHeld ?_ ?_
    rotate_left
    ·rintro w' ⟨s0, s1, s2, s3, s4, s5, s6⟩
     go_simp
     with_reducible rfl
    rotate_left
    ·simp only [Act.put, xi, xj, xk, i64_w, i32_w]
     rfl
    refine one_ (i := 7) (N := some 17) #[Y,Y,Y,Y,Y,Y,Y,Y,Z] rfl rfl (one_of HT_.out (by kernel_rfl)) (by decide) (fun K hK => ?_)
    refine goes_ Try.func151 (by kernel_rfl) rfl #[.agg #[.int .i64 ((rd_T51 l0_1 (ji3)).f0), .int .i64 ((rd_T51 l0_1 (ji3)).f1)], .agg #[.int .i64 a0_3, .int .i64 a0_4]] (by rfl) rfl rfl (by (try simp only [List.map_toArray, List.map_cons, List.map_nil]); first | done | (simp only [hji3]; rfl) | rfl | (simp only [List.length_drop, List.length_take]; rfl)) ?_
    with_reducible refine (impl_Map_then.calls ((rd_T51 l0_1 (ji3)).f0) ((rd_T51 l0_1 (ji3)).f1) a0_3 a0_4 t442 t443 _ A6.out).mono ?_
    rintro e w12 ⟨rfl, hb⟩
    refine ⟨_, rfl, ?_⟩
    have n0_ := xm (blk_below (g := gb439) (o := .cells #[.slice A0_0 l0_0.length c0_0, .slice (some ad441) l0_1.length c0_1, .slice A0_2 l0_2.length c0_2, .int .i64 a0_3, .int .i64 a0_4] 53 (0, 0)) (by (with_reducible repeat (first | refine xq ?_ _ | refine xr ?_ | refine xo ?_ _)); exact BK439.out) hb)
    have n1_ := xm (blk_below (g := gb440) (o := .cells #[.int .i64 0, .int .i64 0] 51 (0, 0)) (by (with_reducible repeat (first | refine xq ?_ _ | refine xr ?_ | refine xo ?_ _)); exact BK440.out) hb)
    have n2_ := xm (below_step (by repeat (first | (with_reducible first | exact HB.out | apply xa | apply xn | apply xd | refine xt ?_ GE439.out | refine xt ?_ GE440.out) | exact HB.out)) hb)
    clear BK439
    clear BK440
    clear HB
    have BK439 := n0_
    have BK440 := n1_
    have HB := n2_
    clear n0_ n1_ n2_
    (try clear hb)
    (try clear hb2)
    (try clear hk)
    (try clear hi)
    refine hK.out _ _ ⟨(xc BK439.out 0).trans rfl, (xc BK439.out 1).trans rfl, (xc BK439.out 2).trans rfl, (xc BK439.out 3).trans rfl, (xc BK439.out 4).trans rfl, ((HB.out.cell (World.block_lt_of_cell? w _ hw441_0)).trans hw441_0), ((HB.out.cell (World.block_lt_of_cell? w _ hw441_1)).trans hw441_1)⟩ (fun hHeld => ?_)
    clear hK K
    refine norm_ (a' := ?_) ?_ ?_
    rotate_left
    ·show Act.put _ (some 17) _ = _
     simp only [Act.put, xi, xj, xk, i64_w, i32_w]
     rfl
    refine one_ (i := 8) (N := none) #[Y,Y,Y,Y,Y,Y,Y,Y,Y] rfl rfl (one_of HT_.out (by kernel_rfl)) (by decide) (fun K hK => ?_)
    have hs13 : w12.cell? ⟨gb440, 0, none⟩ = some (.int .i64 0) := (xc BK440.out 0).trans rfl
    have hfs13 := xf BK440.out 0
    have hns13_0 := NB439_440.out
    have hms13_0 := NB440_439.out
    have hs14 : w12.cell? ⟨gb440, 1, none⟩ = some (.int .i64 0) := (xc BK440.out 1).trans rfl
    have hfs14 := xf BK440.out 1
    have hns14_0 := NB439_440.out
    have hms14_0 := NB440_439.out
    refine skip_ (w1 := ?_) (by rfl) rfl ?_ ?_
    rotate_left
    ·go_simp
     rfl
    refine hK.out _ _ ⟨((cell_far (p := ⟨gb440, _, none⟩) NB439_440.out _).trans (((cell_far (p := ⟨gb440, _, none⟩) NB439_440.out _).trans (hHeld.1)))), ((cell_far (p := ⟨gb440, _, none⟩) NB439_440.out _).trans (((cell_far (p := ⟨gb440, _, none⟩) NB439_440.out _).trans (hHeld.2.1)))), ((cell_far (p := ⟨gb440, _, none⟩) NB439_440.out _).trans (((cell_far (p := ⟨gb440, _, none⟩) NB439_440.out _).trans (hHeld.2.2.1)))), ((cell_far (p := ⟨gb440, _, none⟩) NB439_440.out _).trans (((cell_far (p := ⟨gb440, _, none⟩) NB439_440.out _).trans (hHeld.2.2.2.1)))), ((cell_far (p := ⟨gb440, _, none⟩) NB439_440.out _).trans (((cell_far (p := ⟨gb440, _, none⟩) NB439_440.out _).trans (hHeld.2.2.2.2.1)))), ((cell_far (p := ⟨gb440, _, none⟩) (by first | exact Nat.ne_of_lt (Nat.lt_of_lt_of_le (by have := World.block_lt_of_cell? _ _ hw441_0; first | rwa [add_block] at this | exact this) GW440.out) | (rw [add_block]; exact Nat.ne_of_lt (Nat.lt_of_lt_of_le (by have := World.block_lt_of_cell? _ _ hw441_0; first | rwa [add_block] at this | exact this) GW440.out)) | (show (Addr.add _ _).block ≠ _; rw [add_block]; exact Nat.ne_of_lt (Nat.lt_of_lt_of_le (by have := World.block_lt_of_cell? _ _ hw441_0; first | rwa [add_block] at this | exact this) GW440.out)) | (dsimp only; exact Nat.ne_of_lt (Nat.lt_of_lt_of_le (by have := World.block_lt_of_cell? _ _ hw441_0; first | rwa [add_block] at this | exact this) GW440.out))) _).trans (((cell_far (p := ⟨gb440, _, none⟩) (by first | exact Nat.ne_of_lt (Nat.lt_of_lt_of_le (by have := World.block_lt_of_cell? _ _ hw441_0; first | rwa [add_block] at this | exact this) GW440.out) | (rw [add_block]; exact Nat.ne_of_lt (Nat.lt_of_lt_of_le (by have := World.block_lt_of_cell? _ _ hw441_0; first | rwa [add_block] at this | exact this) GW440.out)) | (show (Addr.add _ _).block ≠ _; rw [add_block]; exact Nat.ne_of_lt (Nat.lt_of_lt_of_le (by have := World.block_lt_of_cell? _ _ hw441_0; first | rwa [add_block] at this | exact this) GW440.out)) | (dsimp only; exact Nat.ne_of_lt (Nat.lt_of_lt_of_le (by have := World.block_lt_of_cell? _ _ hw441_0; first | rwa [add_block] at this | exact this) GW440.out))) _).trans (hHeld.2.2.2.2.2.1)))), ((cell_far (p := ⟨gb440, _, none⟩) (by first | exact Nat.ne_of_lt (Nat.lt_of_lt_of_le (by have := World.block_lt_of_cell? _ _ hw441_1; first | rwa [add_block] at this | exact this) GW440.out) | (rw [add_block]; exact Nat.ne_of_lt (Nat.lt_of_lt_of_le (by have := World.block_lt_of_cell? _ _ hw441_1; first | rwa [add_block] at this | exact this) GW440.out)) | (show (Addr.add _ _).block ≠ _; rw [add_block]; exact Nat.ne_of_lt (Nat.lt_of_lt_of_le (by have := World.block_lt_of_cell? _ _ hw441_1; first | rwa [add_block] at this | exact this) GW440.out)) | (dsimp only; exact Nat.ne_of_lt (Nat.lt_of_lt_of_le (by have := World.block_lt_of_cell? _ _ hw441_1; first | rwa [add_block] at this | exact this) GW440.out))) _).trans (((cell_far (p := ⟨gb440, _, none⟩) (by first | exact Nat.ne_of_lt (Nat.lt_of_lt_of_le (by have := World.block_lt_of_cell? _ _ hw441_1; first | rwa [add_block] at this | exact this) GW440.out) | (rw [add_block]; exact Nat.ne_of_lt (Nat.lt_of_lt_of_le (by have := World.block_lt_of_cell? _ _ hw441_1; first | rwa [add_block] at this | exact this) GW440.out)) | (show (Addr.add _ _).block ≠ _; rw [add_block]; exact Nat.ne_of_lt (Nat.lt_of_lt_of_le (by have := World.block_lt_of_cell? _ _ hw441_1; first | rwa [add_block] at this | exact this) GW440.out)) | (dsimp only; exact Nat.ne_of_lt (Nat.lt_of_lt_of_le (by have := World.block_lt_of_cell? _ _ hw441_1; first | rwa [add_block] at this | exact this) GW440.out))) _).trans (hHeld.2.2.2.2.2.2))))⟩ (fun hHeld => ?_)
    clear hK K
    refine done_ (done_of HT_.out (by kernel_rfl)) ?_
    try go_wp2
    refine bodyPost_ret (results_cell_row rfl _ _ gb440 51 #[.int .i64 t442, .int .i64 t443] (0, 0) _ rfl (by (with_reducible repeat (first | refine xq ?_ _ | refine xr ?_ | refine xo ?_ _)); refine blk_put (cs := #[.int .i64 t442, .int .i64 0]) ?_ 1 _ rfl; (with_reducible repeat (first | refine xq ?_ _ | refine xr ?_ | refine xo ?_ _)); refine blk_put (cs := #[.int .i64 0, .int .i64 0]) ?_ 0 _ rfl; (with_reducible repeat (first | refine xq ?_ _ | refine xr ?_ | refine xo ?_ _)); exact BK440.out) Try.underlying51 rfl (by kernel_rfl)) rfl ?_
    exact ⟨by first | rfl | (simp [errW_none, errW_some] <;> rfl) | (simp only [← hji3]; first | rfl | (simp [errW_none, errW_some] <;> rfl)) | (simp [*, errW_none, errW_some] <;> rfl), by repeat (first | (with_reducible first | exact HB.out | apply xa | apply xn | apply xd | refine xt ?_ GE439.out | refine xt ?_ GE440.out) | exact HB.out)⟩
   ·rw [if_neg c5] at H
    exact absurd H (by simp)
  ·rw [if_neg c4] at H
   exact absurd H (by simp)
 ·rw [if_neg c2] at H
  have c2b0 : decide (0 ≤ (wrap64 ((l0_1.length : Int) - 1))) = false := decide_eq_false c2
  clear c2
  simp only [Option.some.injEq, Prod.mk.injEq] at H
  obtain ⟨rfl, rfl⟩ := H
  go_enter Try.func106, Try.ntmps106
  go_wp2_with (first | ((with_reducible refine gate_dst (N := 1) rfl ?_); refine box_event ?hg (N := 1) ?hd (cs := #[.slice A0_0 l0_0.length c0_0, .slice A0_1 l0_1.length c0_1, .slice A0_2 l0_2.length c0_2, .int .i64 a0_3, .int .i64 a0_4]) (t := 53) ?hr ?_; (case hd => rfl); (case hg => rfl); (case hr => first | (go_simp; done) | (go_simp; rfl)); intro gb439 hg w15 hbox hb; have n0_ := xm (below_step (by repeat (first | (with_reducible first | exact HB.out | apply xa | apply xn | apply xd) | exact HB.out)) hb); have n1_ := xm (hbox); have n2_ := xm ((by rw [hg]; exact (xz (by repeat (first | (with_reducible first | exact HB.out | apply xa | apply xn | apply xd) | exact HB.out))) : w.heap.size ≤ gb439)); have n3_ := xm ((by rw [hg]; exact (xz (by repeat (first | (with_reducible first | exact HB.out | apply xa | apply xn | apply xd) | exact HB.out))) : w.heap.size ≤ gb439)); clear HB; have HB := n0_; have BK439 := n1_; have GW439 := n2_; have GE439 := n3_; clear n0_ n1_ n2_ n3_; clear hb hbox hg) | ((with_reducible refine gate_dst (N := 2) rfl ?_); refine box_event ?hg (N := 2) ?hd (cs := #[.int .i64 0, .int .i64 0]) (t := 51) ?hr ?_; (case hd => rfl); (case hg => rfl); (case hr => first | (go_simp; done) | (go_simp; rfl)); intro gb440 hg w16 hbox hb; have n0_ := xm (blk_below (g := gb439) (o := .cells #[.slice A0_0 l0_0.length c0_0, .slice A0_1 l0_1.length c0_1, .slice A0_2 l0_2.length c0_2, .int .i64 a0_3, .int .i64 a0_4] 53 (0, 0)) (by (with_reducible repeat (first | refine xq ?_ _ | refine xr ?_ | refine xo ?_ _)); exact BK439.out) hb); have n1_ := xm (below_step (by repeat (first | (with_reducible first | exact HB.out | apply xa | apply xn | apply xd | refine xt ?_ GE439.out) | exact HB.out)) hb); have n2_ := xm (hbox); have n3_ := xm ((by rw [hg]; exact (xz (by repeat (first | (with_reducible first | exact HB.out | apply xa | apply xn | apply xd | refine xt ?_ GE439.out) | exact HB.out))) : w.heap.size ≤ gb440)); have n4_ := xm ((by rw [hg]; exact (xz (by repeat (first | (with_reducible first | exact HB.out | apply xa | apply xn | apply xd | refine xt ?_ GE439.out) | exact HB.out))) : w.heap.size ≤ gb440)); have n5_ := xm ((by rw [hg]; exact Nat.ne_of_lt (blk_lt (g := gb439) (o := .cells #[.slice A0_0 l0_0.length c0_0, .slice A0_1 l0_1.length c0_1, .slice A0_2 l0_2.length c0_2, .int .i64 a0_3, .int .i64 a0_4] 53 (0, 0)) (by (with_reducible repeat (first | refine xq ?_ _ | refine xr ?_ | refine xo ?_ _)); exact BK439.out)) : gb439 ≠ gb440)); have n6_ := xm ((by rw [hg]; exact Nat.ne_of_gt (blk_lt (g := gb439) (o := .cells #[.slice A0_0 l0_0.length c0_0, .slice A0_1 l0_1.length c0_1, .slice A0_2 l0_2.length c0_2, .int .i64 a0_3, .int .i64 a0_4] 53 (0, 0)) (by (with_reducible repeat (first | refine xq ?_ _ | refine xr ?_ | refine xo ?_ _)); exact BK439.out)) : gb440 ≠ gb439)); clear BK439; clear HB; have BK439 := n0_; have HB := n1_; have BK440 := n2_; have GW440 := n3_; have GE440 := n4_; have NB439_440 := n5_; have NB440_439 := n6_; clear n0_ n1_ n2_ n3_ n4_ n5_ n6_; clear hb hbox hg; have hnb17 := NB439_440.out; have hnc17 := NB440_439.out; have hcz18_0 : w16.cell? ⟨gb439, 0, none⟩ = some (.slice A0_0 l0_0.length c0_0) := (xc BK439.out 0).trans rfl; have hcz18_1 : w16.cell? ⟨gb439, 1, none⟩ = some (.slice A0_1 l0_1.length c0_1) := (xc BK439.out 1).trans rfl; have hcz18_2 : w16.cell? ⟨gb439, 2, none⟩ = some (.slice A0_2 l0_2.length c0_2) := (xc BK439.out 2).trans rfl; have hcz18_3 : w16.cell? ⟨gb439, 3, none⟩ = some (.int .i64 a0_3) := (xc BK439.out 3).trans rfl; have hcz18_4 : w16.cell? ⟨gb439, 4, none⟩ = some (.int .i64 a0_4) := (xc BK439.out 4).trans rfl; have hfz18_0 := xf BK439.out 0; have hfz18_1 := xf BK439.out 1; have hfz18_2 := xf BK439.out 2; have hfz18_3 := xf BK439.out 3; have hfz18_4 := xf BK439.out 4; have hcz19_0 : w16.cell? ⟨gb440, 0, none⟩ = some (.int .i64 0) := (xc BK440.out 0).trans rfl; have hcz19_1 : w16.cell? ⟨gb440, 1, none⟩ = some (.int .i64 0) := (xc BK440.out 1).trans rfl; have hfz19_0 := xf BK440.out 0; have hfz19_1 := xf BK440.out 1))
  refine bodyPost_ret (results_cell_row rfl _ _ gb440 51 #[.int .i64 a0_3, .int .i64 a0_4] (0, 0) _ rfl (by (with_reducible repeat (first | refine xq ?_ _ | refine xr ?_ | refine xo ?_ _)); refine blk_put (cs := #[.int .i64 a0_3, .int .i64 0]) ?_ 1 _ rfl; (with_reducible repeat (first | refine xq ?_ _ | refine xr ?_ | refine xo ?_ _)); refine blk_put (cs := #[.int .i64 0, .int .i64 0]) ?_ 0 _ rfl; (with_reducible repeat (first | refine xq ?_ _ | refine xr ?_ | refine xo ?_ _)); exact BK440.out) Try.underlying51 rfl (by kernel_rfl)) rfl ?_
  exact ⟨by first | rfl | (simp [errW_none, errW_some] <;> rfl) | (simp [*, errW_none, errW_some] <;> rfl), by repeat (first | (with_reducible first | exact HB.out | apply xa | apply xn | apply xd | refine xt ?_ GE439.out | refine xt ?_ GE440.out) | exact HB.out)⟩

end Go.Proofs.Ytpbpglbldgpckaa.G
