/- Written by a program of this claim's own, out of the translation: functions of the program as plain functions, and that the calls answer as these. No conditions. -/
import Derived.Test.YtpbpglbldgpckaaG0
namespace Go.Proofs.Ytpbpglbldgpckaa.G
open Go.RowKit Go.Proofs.Ytpbpglbldgpckaa.X Go.Proofs.YtpbpglbldgpckaaW.PrintWords Go.Proofs.YtpbpglbldgpckaaW.PrintLast Go.Proofs.YtpbpglbldgpckaaW.PrintMore
attribute [local go_sem] max2_int min2_int max_two min_two max_three min_three max_four min_four   -- for this text's walks alone
set_option linter.unusedVariables false
set_option linter.unusedSimpArgs false

/-! ### spec_l17Own: function 129 -/
def spec_l17Own.f (l0_0 : List (S51)) (l0_1 : List (S51)) (l0_2 : List (S51)) (a0_3 : Int) (a0_4 : Int) : Option ((List (S51)) × (List (S51)) × (List (S51)) × Int × Int) := (some (([] : List (S51)) : List (S51))).bind fun y189 => (if y189.length + l0_0.length < 8796093022208 then ((some (([] : List (S51)) : List (S51))).bind fun y195 => (if y195.length + l0_1.length < 8796093022208 then ((some (([] : List (S51)) : List (S51))).bind fun y201 => (if y201.length + l0_2.length < 8796093022208 then (some ((y189 ++ l0_0), (y195 ++ l0_1), (y201 ++ l0_2), a0_3, a0_4)) else (none))) else (none))) else (none))
def spec_l17Own.T1 : Bool × List (List Nat × List Nat) := (true, [([], []), ([], []), ([1], [1]), ([0, 2], [0, 2]), ([], []), ([], []), ([5], [5]), ([4, 6, 3], [4, 6]), ([], []), ([], []), ([9], [9]), ([8, 10, 7], [8, 10]), ([], []), ([12], [12]), ([3, 7, 11, 13], [3, 7, 11, 13]), ([14, 11, 0, 1, 2, 3, 4, 5, 6, 7, 8, 9, 10, 11, 12, 13, 14], [14])])
def spec_l17Own.B1 : List Nat := [0, 0, 2, 7, 0, 0, 32, 127, 0, 0, 512, 2047, 0, 4096, 16383, 32767]
theorem spec_l17Own.tab1 : rtab .any (opsOf Try.f129 1) = spec_l17Own.T1 := by kernel_rfl
theorem spec_l17Own.bits1 : waitsOk spec_l17Own.T1.2 spec_l17Own.B1 = true := by kernel_rfl
set_option maxHeartbeats 8000000 in
set_option maxRecDepth 100000 in
theorem spec_l17Own.calls (A0_0 : Option Addr) (c0_0 : Nat) (l0_0 : List (S51)) (A0_1 : Option Addr) (c0_1 : Nat) (l0_1 : List (S51)) (A0_2 : Option Addr) (c0_2 : Nat) (l0_2 : List (S51)) (a0_3 : Int) (a0_4 : Int) (r1 : List (S51)) (r2 : List (S51)) (r3 : List (S51)) (r4 : Int) (r5 : Int) (w : World) (hr0_0 : Kd.C k51 w A0_0 l0_0.length l0_0) (hc0_0 : l0_0.length ≤ c0_0) (hr0_1 : Kd.C k51 w A0_1 l0_1.length l0_1) (hc0_1 : l0_1.length ≤ c0_1) (hr0_2 : Kd.C k51 w A0_2 l0_2.length l0_2) (hc0_2 : l0_2.length ≤ c0_2) (h : spec_l17Own.f l0_0 l0_1 l0_2 a0_3 a0_4 = some (r1, r2, r3, r4, r5)) :
  Calls Try.prog 129 #[.agg #[.slice A0_0 l0_0.length c0_0, .slice A0_1 l0_1.length c0_1, .slice A0_2 l0_2.length c0_2, .int .i64 a0_3, .int .i64 a0_4]] w fun e w' => ∃ v0_ v1_ v2_ : Value, e = .returned (.agg #[v0_, v1_, v2_, .int .i64 r4, .int .i64 r5]) ∧ Kd.R k51 51 w' w.heap.size (fun k_ => some k_ ≠ (v1_ : Value).ownBlock ∧ some k_ ≠ (v2_ : Value).ownBlock) v0_ r1 ∧ Kd.R k51 51 w' w.heap.size (fun k_ => some k_ ≠ (v0_ : Value).ownBlock ∧ some k_ ≠ (v2_ : Value).ownBlock) v1_ r2 ∧ Kd.R k51 51 w' w.heap.size (fun k_ => some k_ ≠ (v0_ : Value).ownBlock ∧ some k_ ≠ (v1_ : Value).ownBlock) v2_ r3 ∧ Below w.heap.size w w' := by
 have hu53 := Try.underlying53
 have hu51 := Try.underlying51
 have HR0_0 := xm hr0_0
 have HC0_0 := xm hc0_0
 clear hr0_0 hc0_0
 have HR0_1 := xm hr0_1
 have HC0_1 := xm hc0_1
 clear hr0_1 hc0_1
 have HR0_2 := xm hr0_2
 have HC0_2 := xm hc0_2
 clear hr0_2 hc0_2
 have HB := xm (Below.refl w.heap.size w)
 have H : ((some (([] : List (S51)) : List (S51))).bind fun y189 => (if y189.length + l0_0.length < 8796093022208 then ((some (([] : List (S51)) : List (S51))).bind fun y195 => (if y195.length + l0_1.length < 8796093022208 then ((some (([] : List (S51)) : List (S51))).bind fun y201 => (if y201.length + l0_2.length < 8796093022208 then (some ((y189 ++ l0_0), (y195 ++ l0_1), (y201 ++ l0_2), a0_3, a0_4)) else (none))) else (none))) else (none))) = some (r1, r2, r3, r4, r5) := h
 clear h
 obtain ⟨y189, hy189⟩ : ∃ y_ : List (S51), y_ = (([] : List (S51))) := ⟨_, rfl⟩
 replace H : (if y189.length + l0_0.length < 8796093022208 then ((some (([] : List (S51)) : List (S51))).bind fun y195 => (if y195.length + l0_1.length < 8796093022208 then ((some (([] : List (S51)) : List (S51))).bind fun y201 => (if y201.length + l0_2.length < 8796093022208 then (some ((y189 ++ l0_0), (y195 ++ l0_1), (y201 ++ l0_2), a0_3, a0_4)) else (none))) else (none))) else (none)) = some (r1, r2, r3, r4, r5) := by first | (rw [hy189]; with_reducible exact H) | (have H2_ := (Option.bind_some _ _).symm.trans H; rw [hy189]; with_reducible exact H2_) | (have H2_ := (Option.bind_some _ _).symm.trans H; with_reducible exact H2_) | with_reducible exact H | (rw [hy189]; exact H) | exact H
 have Ny189 := xm hy189
 clear hy189
 by_cases c2 : y189.length + l0_0.length < 8796093022208
 ·rw [if_pos c2] at H
  have LMc2 := xm c2
  clear c2
  obtain ⟨y192, hy192⟩ : ∃ y_ : List (S51), y_ = (y189 ++ l0_0) := ⟨_, rfl⟩
  replace H : ((some (([] : List (S51)) : List (S51))).bind fun y195 => (if y195.length + l0_1.length < 8796093022208 then ((some (([] : List (S51)) : List (S51))).bind fun y201 => (if y201.length + l0_2.length < 8796093022208 then (some (y192, (y195 ++ l0_1), (y201 ++ l0_2), a0_3, a0_4)) else (none))) else (none))) = some (r1, r2, r3, r4, r5) := by first | (rw [hy192]; with_reducible exact H) | (have H2_ := (Option.bind_some _ _).symm.trans H; rw [hy192]; with_reducible exact H2_) | (have H2_ := (Option.bind_some _ _).symm.trans H; with_reducible exact H2_) | with_reducible exact H | (rw [hy192]; exact H) | exact H
  have Ny192 := xm hy192
  clear hy192
  obtain ⟨y195, hy195⟩ : ∃ y_ : List (S51), y_ = (([] : List (S51))) := ⟨_, rfl⟩
  replace H : (if y195.length + l0_1.length < 8796093022208 then ((some (([] : List (S51)) : List (S51))).bind fun y201 => (if y201.length + l0_2.length < 8796093022208 then (some (y192, (y195 ++ l0_1), (y201 ++ l0_2), a0_3, a0_4)) else (none))) else (none)) = some (r1, r2, r3, r4, r5) := by first | (rw [hy195]; with_reducible exact H) | (have H2_ := (Option.bind_some _ _).symm.trans H; rw [hy195]; with_reducible exact H2_) | (have H2_ := (Option.bind_some _ _).symm.trans H; with_reducible exact H2_) | with_reducible exact H | (rw [hy195]; exact H) | exact H
  have Ny195 := xm hy195
  clear hy195
  by_cases c3 : y195.length + l0_1.length < 8796093022208
  ·rw [if_pos c3] at H
   have LMc3 := xm c3
   clear c3
   obtain ⟨y198, hy198⟩ : ∃ y_ : List (S51), y_ = (y195 ++ l0_1) := ⟨_, rfl⟩
   replace H : ((some (([] : List (S51)) : List (S51))).bind fun y201 => (if y201.length + l0_2.length < 8796093022208 then (some (y192, y198, (y201 ++ l0_2), a0_3, a0_4)) else (none))) = some (r1, r2, r3, r4, r5) := by first | (rw [hy198]; with_reducible exact H) | (have H2_ := (Option.bind_some _ _).symm.trans H; rw [hy198]; with_reducible exact H2_) | (have H2_ := (Option.bind_some _ _).symm.trans H; with_reducible exact H2_) | with_reducible exact H | (rw [hy198]; exact H) | exact H
   have Ny198 := xm hy198
   clear hy198
   obtain ⟨y201, hy201⟩ : ∃ y_ : List (S51), y_ = (([] : List (S51))) := ⟨_, rfl⟩
   replace H : (if y201.length + l0_2.length < 8796093022208 then (some (y192, y198, (y201 ++ l0_2), a0_3, a0_4)) else (none)) = some (r1, r2, r3, r4, r5) := by first | (rw [hy201]; with_reducible exact H) | (have H2_ := (Option.bind_some _ _).symm.trans H; rw [hy201]; with_reducible exact H2_) | (have H2_ := (Option.bind_some _ _).symm.trans H; with_reducible exact H2_) | with_reducible exact H | (rw [hy201]; exact H) | exact H
   have Ny201 := xm hy201
   clear hy201
   by_cases c4 : y201.length + l0_2.length < 8796093022208
   ·rw [if_pos c4] at H
    have LMc4 := xm c4
    clear c4
    obtain ⟨y204, hy204⟩ : ∃ y_ : List (S51), y_ = (y201 ++ l0_2) := ⟨_, rfl⟩
    replace H : (some (y192, y198, y204, a0_3, a0_4)) = some (r1, r2, r3, r4, r5) := by first | (rw [hy204]; with_reducible exact H) | (have H2_ := (Option.bind_some _ _).symm.trans H; rw [hy204]; with_reducible exact H2_) | (have H2_ := (Option.bind_some _ _).symm.trans H; with_reducible exact H2_) | with_reducible exact H | (rw [hy204]; exact H) | exact H
    have Ny204 := xm hy204
    clear hy204
    simp only [Option.some.injEq, Prod.mk.injEq] at H
    obtain ⟨rfl, rfl, rfl, rfl, rfl⟩ := H
    go_enter Try.func129, Try.ntmps129
    try go_wp2_with (first | ((with_reducible refine gate_dst (N := 1) rfl ?_); refine box_event ?hg (N := 1) ?hd (cs := #[.slice A0_0 l0_0.length c0_0, .slice A0_1 l0_1.length c0_1, .slice A0_2 l0_2.length c0_2, .int .i64 a0_3, .int .i64 a0_4]) (t := 53) ?hr ?_; (case hd => rfl); (case hg => rfl); (case hr => exact zB); intro gb187 hg w5 hbox hb; have n0_ := xm (below_step bB hb); have n1_ := xm (hbox); have n2_ := xm ((by rw [hg]; exact (xz bB) : w.heap.size ≤ gb187)); have n3_ := xm ((by rw [hg]; exact (xz bB) : w.heap.size ≤ gb187)); clear HB; have HB := n0_; have BK187 := n1_; have GW187 := n2_; have GE187 := n3_; clear n0_ n1_ n2_ n3_; clear hb hbox hg) | ((with_reducible refine gate_dst (N := 2) rfl ?_); refine box_event ?hg (N := 2) ?hd (cs := #[.slice none 0 0, .slice none 0 0, .slice none 0 0, .int .i64 0, .int .i64 0]) (t := 53) ?hr ?_; (case hd => rfl); (case hg => rfl); (case hr => exact zB); intro gb188 hg w6 hbox hb; have n0_ := xm (blk_below (kB BK187) hb); have n1_ := xm (below_step bG hb); have n2_ := xm (hbox); have n3_ := xm ((by rw [hg]; exact (xz bG) : w.heap.size ≤ gb188)); have n4_ := xm ((by rw [hg]; exact (xz bG) : w.heap.size ≤ gb188)); have n5_ := xm ((by rw [hg]; exact Nat.ne_of_lt (blk_lt (kB BK187)) : gb187 ≠ gb188)); have n6_ := xm ((by rw [hg]; exact Nat.ne_of_gt (blk_lt (kB BK187)) : gb188 ≠ gb187)); clear BK187; clear HB; have BK187 := n0_; have HB := n1_; have BK188 := n2_; have GW188 := n3_; have GE188 := n4_; have NB187_188 := n5_; have NB188_187 := n6_; clear n0_ n1_ n2_ n3_ n4_ n5_ n6_; clear hb hbox hg))
    have n0_ := xm (xr BK187.out)
    have n1_ := xm (xr BK188.out)
    have n2_ := xm (xd HB.out)
    clear BK187
    clear BK188
    clear HB
    have BK187 := n0_
    have BK188 := n1_
    have HB := n2_
    clear n0_ n1_ n2_
    refine start_ (n := 16) (S := fun w' => w'.cell? ⟨gb187, 0, none⟩ = some (.slice A0_0 l0_0.length c0_0) ∧ w'.cell? ⟨gb187, 1, none⟩ = some (.slice A0_1 l0_1.length c0_1) ∧ w'.cell? ⟨gb187, 2, none⟩ = some (.slice A0_2 l0_2.length c0_2) ∧ w'.cell? ⟨gb187, 3, none⟩ = some (.int .i64 a0_3) ∧ w'.cell? ⟨gb187, 4, none⟩ = some (.int .i64 a0_4)) (ds := []) #[Z,Z,Z,Z,Z,Z,Z,Z,Z,Z,Z,Z,Z,Z,Z,Z] (by kernel_rfl) rfl rfl ⟨(xc BK187.out 0).trans rfl, (xc BK187.out 1).trans rfl, (xc BK187.out 2).trans rfl, (xc BK187.out 3).trans rfl, (xc BK187.out 4).trans rfl⟩ (fun hHeld => ?_); refine with_tabW spec_l17Own.tab1 spec_l17Own.bits1 (fun HT_ HW_ => ?_)
    generalize w6.drew = w7 at BK187 BK188 HB hHeld ⊢
    refine px 1 16 2 (any_of HT_.out (by kernel_rfl)) ?_
    refine px 5 16 34 (any_of HT_.out (by kernel_rfl)) ?_
    refine px 9 16 546 (any_of HT_.out (by kernel_rfl)) ?_
    refine px 12 16 4642 (any_of HT_.out (by kernel_rfl)) ?_
    refine tx 2 16 4646 rfl rfl (take_ofW HT_.out HW_.out (by kernel_rfl)) hHeld (by rintro w' ⟨s0, s1, s2, s3, s4⟩; go_simp; with_reducible rfl) ?_
    refine tx 6 16 4710 rfl rfl (take_ofW HT_.out HW_.out (by kernel_rfl)) hHeld (by rintro w' ⟨s0, s1, s2, s3, s4⟩; go_simp; with_reducible rfl) ?_
    refine tx 10 16 5734 rfl rfl (take_ofW HT_.out HW_.out (by kernel_rfl)) hHeld (by rintro w' ⟨s0, s1, s2, s3, s4⟩; go_simp; with_reducible rfl) ?_
    refine tx 13 16 13926 rfl rfl (take_ofW HT_.out HW_.out (by kernel_rfl)) hHeld (by rintro w' ⟨s0, s1, s2, s3, s4⟩; go_simp; with_reducible rfl) ?_
    refine join_ (σ := Value × Value × Value × Value × Value) 3 #[Y,Y,Y,Y,Y,Y,Y,Y,Y,Y,Y,Z,Y,Y,Z,Z] (fun s_ => [(3, s_.1), (6, s_.2.1), (7, s_.2.2.1), (10, s_.2.2.2.1), (11, s_.2.2.2.2)]) (fun s_ w' => (w'.cell? ⟨gb187, 0, none⟩ = some (.slice A0_0 l0_0.length c0_0) ∧ w'.cell? ⟨gb187, 1, none⟩ = some (.slice A0_1 l0_1.length c0_1) ∧ w'.cell? ⟨gb187, 2, none⟩ = some (.slice A0_2 l0_2.length c0_2) ∧ w'.cell? ⟨gb187, 3, none⟩ = some (.int .i64 a0_3) ∧ w'.cell? ⟨gb187, 4, none⟩ = some (.int .i64 a0_4)) ∧ (Kd.R k51 51 w' w.heap.size (fun k_ => some k_ ≠ (s_.2.2.2.1 : Value).ownBlock ∧ some k_ ≠ (s_.2.2.2.2 : Value).ownBlock) s_.2.1 y192) ∧ (Kd.R k51 51 w' w.heap.size (fun k_ => some k_ ≠ (s_.2.1 : Value).ownBlock ∧ some k_ ≠ (s_.2.2.2.2 : Value).ownBlock) s_.2.2.2.1 y198) ∧ (Kd.R k51 51 w' w.heap.size (fun k_ => some k_ ≠ (s_.2.1 : Value).ownBlock ∧ some k_ ≠ (s_.2.2.2.1 : Value).ownBlock) s_.2.2.2.2 y201) ∧ (w'.heap[gb187]? = some (.cells #[.slice A0_0 l0_0.length c0_0, .slice A0_1 l0_1.length c0_1, .slice A0_2 l0_2.length c0_2, .int .i64 a0_3, .int .i64 a0_4] 53 (0, 0))) ∧ (w'.heap[gb188]? = some (.cells #[.slice none 0 0, .slice none 0 0, .slice none 0 0, .int .i64 0, .int .i64 0] 53 (0, 0))) ∧ (Below w.heap.size w w')) ?_ ?_
    rotate_left
    ·intro hJ0_3_4_7_8
     refine join_ (σ := Value × Value × Value × Value) 4 #[Y,Y,Y,Y,Y,Y,Y,Y,Z,Y,Y,Z,Y,Y,Z,Z] (fun s_ => [(3, s_.1), (6, s_.2.1), (7, s_.2.2.1), (10, s_.2.2.2)]) (fun s_ w' => (w'.cell? ⟨gb187, 0, none⟩ = some (.slice A0_0 l0_0.length c0_0) ∧ w'.cell? ⟨gb187, 1, none⟩ = some (.slice A0_1 l0_1.length c0_1) ∧ w'.cell? ⟨gb187, 2, none⟩ = some (.slice A0_2 l0_2.length c0_2) ∧ w'.cell? ⟨gb187, 3, none⟩ = some (.int .i64 a0_3) ∧ w'.cell? ⟨gb187, 4, none⟩ = some (.int .i64 a0_4)) ∧ (Kd.R k51 51 w' w.heap.size (fun k_ => some k_ ≠ (s_.2.2.2 : Value).ownBlock) s_.2.1 y192) ∧ (Kd.R k51 51 w' w.heap.size (fun k_ => some k_ ≠ (s_.2.1 : Value).ownBlock) s_.2.2.2 y198) ∧ (w'.heap[gb187]? = some (.cells #[.slice A0_0 l0_0.length c0_0, .slice A0_1 l0_1.length c0_1, .slice A0_2 l0_2.length c0_2, .int .i64 a0_3, .int .i64 a0_4] 53 (0, 0))) ∧ (w'.heap[gb188]? = some (.cells #[.slice none 0 0, .slice none 0 0, .slice none 0 0, .int .i64 0, .int .i64 0] 53 (0, 0))) ∧ (Below w.heap.size w w')) ?_ ?_
     rotate_left
     ·intro hJ0_3_4_7
      refine join_ (σ := Value × Value × Value × Value) 4 #[Y,Y,Y,Y,Y,Y,Y,Z,Y,Y,Y,Z,Y,Y,Z,Z] (fun s_ => [(3, s_.1), (6, s_.2.1), (7, s_.2.2.1), (11, s_.2.2.2)]) (fun s_ w' => (w'.cell? ⟨gb187, 0, none⟩ = some (.slice A0_0 l0_0.length c0_0) ∧ w'.cell? ⟨gb187, 1, none⟩ = some (.slice A0_1 l0_1.length c0_1) ∧ w'.cell? ⟨gb187, 2, none⟩ = some (.slice A0_2 l0_2.length c0_2) ∧ w'.cell? ⟨gb187, 3, none⟩ = some (.int .i64 a0_3) ∧ w'.cell? ⟨gb187, 4, none⟩ = some (.int .i64 a0_4)) ∧ (Kd.R k51 51 w' w.heap.size (fun k_ => some k_ ≠ (s_.2.2.1 : Value).ownBlock ∧ some k_ ≠ (s_.2.2.2 : Value).ownBlock) s_.2.1 y192) ∧ (Kd.R k51 51 w' w.heap.size (fun k_ => some k_ ≠ (s_.2.1 : Value).ownBlock ∧ some k_ ≠ (s_.2.2.2 : Value).ownBlock) s_.2.2.1 y195) ∧ (Kd.R k51 51 w' w.heap.size (fun k_ => some k_ ≠ (s_.2.1 : Value).ownBlock ∧ some k_ ≠ (s_.2.2.1 : Value).ownBlock) s_.2.2.2 y201) ∧ (w'.heap[gb187]? = some (.cells #[.slice A0_0 l0_0.length c0_0, .slice A0_1 l0_1.length c0_1, .slice A0_2 l0_2.length c0_2, .int .i64 a0_3, .int .i64 a0_4] 53 (0, 0))) ∧ (w'.heap[gb188]? = some (.cells #[.slice none 0 0, .slice none 0 0, .slice none 0 0, .int .i64 0, .int .i64 0] 53 (0, 0))) ∧ (Below w.heap.size w w')) ?_ ?_
      rotate_left
      ·intro hJ0_3_4_8
       refine join_ (σ := Value × Value × Value) 5 #[Y,Y,Y,Y,Y,Y,Y,Z,Z,Y,Y,Z,Y,Y,Z,Z] (fun s_ => [(3, s_.1), (6, s_.2.1), (7, s_.2.2)]) (fun s_ w' => (w'.cell? ⟨gb187, 0, none⟩ = some (.slice A0_0 l0_0.length c0_0) ∧ w'.cell? ⟨gb187, 1, none⟩ = some (.slice A0_1 l0_1.length c0_1) ∧ w'.cell? ⟨gb187, 2, none⟩ = some (.slice A0_2 l0_2.length c0_2) ∧ w'.cell? ⟨gb187, 3, none⟩ = some (.int .i64 a0_3) ∧ w'.cell? ⟨gb187, 4, none⟩ = some (.int .i64 a0_4)) ∧ (Kd.R k51 51 w' w.heap.size (fun k_ => some k_ ≠ (s_.2.2 : Value).ownBlock) s_.2.1 y192) ∧ (Kd.R k51 51 w' w.heap.size (fun k_ => some k_ ≠ (s_.2.1 : Value).ownBlock) s_.2.2 y195) ∧ (w'.heap[gb187]? = some (.cells #[.slice A0_0 l0_0.length c0_0, .slice A0_1 l0_1.length c0_1, .slice A0_2 l0_2.length c0_2, .int .i64 a0_3, .int .i64 a0_4] 53 (0, 0))) ∧ (w'.heap[gb188]? = some (.cells #[.slice none 0 0, .slice none 0 0, .slice none 0 0, .int .i64 0, .int .i64 0] 53 (0, 0))) ∧ (Below w.heap.size w w')) ?_ ?_
       rotate_left
       ·intro hJ0_3_4
        refine join_ (σ := Value × Value × Value) 5 #[Y,Y,Y,Y,Z,Y,Y,Z,Y,Y,Y,Z,Y,Y,Z,Z] (fun s_ => [(3, s_.1), (6, s_.2.1), (11, s_.2.2)]) (fun s_ w' => (w'.cell? ⟨gb187, 0, none⟩ = some (.slice A0_0 l0_0.length c0_0) ∧ w'.cell? ⟨gb187, 1, none⟩ = some (.slice A0_1 l0_1.length c0_1) ∧ w'.cell? ⟨gb187, 2, none⟩ = some (.slice A0_2 l0_2.length c0_2) ∧ w'.cell? ⟨gb187, 3, none⟩ = some (.int .i64 a0_3) ∧ w'.cell? ⟨gb187, 4, none⟩ = some (.int .i64 a0_4)) ∧ (Kd.R k51 51 w' w.heap.size (fun k_ => some k_ ≠ (s_.2.2 : Value).ownBlock) s_.2.1 y192) ∧ (Kd.R k51 51 w' w.heap.size (fun k_ => some k_ ≠ (s_.2.1 : Value).ownBlock) s_.2.2 y201) ∧ (w'.heap[gb187]? = some (.cells #[.slice A0_0 l0_0.length c0_0, .slice A0_1 l0_1.length c0_1, .slice A0_2 l0_2.length c0_2, .int .i64 a0_3, .int .i64 a0_4] 53 (0, 0))) ∧ (w'.heap[gb188]? = some (.cells #[.slice none 0 0, .slice none 0 0, .slice none 0 0, .int .i64 0, .int .i64 0] 53 (0, 0))) ∧ (Below w.heap.size w w')) ?_ ?_
        rotate_left
        ·intro hJ0_3_8
         refine join_ (σ := Value × Value × Value) 5 #[Y,Y,Y,Z,Y,Y,Y,Z,Y,Y,Y,Z,Y,Y,Z,Z] (fun s_ => [(3, s_.1), (7, s_.2.1), (11, s_.2.2)]) (fun s_ w' => (w'.cell? ⟨gb187, 0, none⟩ = some (.slice A0_0 l0_0.length c0_0) ∧ w'.cell? ⟨gb187, 1, none⟩ = some (.slice A0_1 l0_1.length c0_1) ∧ w'.cell? ⟨gb187, 2, none⟩ = some (.slice A0_2 l0_2.length c0_2) ∧ w'.cell? ⟨gb187, 3, none⟩ = some (.int .i64 a0_3) ∧ w'.cell? ⟨gb187, 4, none⟩ = some (.int .i64 a0_4)) ∧ (Kd.R k51 51 w' w.heap.size (fun k_ => some k_ ≠ (s_.2.1 : Value).ownBlock ∧ some k_ ≠ (s_.2.2 : Value).ownBlock) s_.1 y189) ∧ (Kd.R k51 51 w' w.heap.size (fun k_ => some k_ ≠ (s_.1 : Value).ownBlock ∧ some k_ ≠ (s_.2.2 : Value).ownBlock) s_.2.1 y195) ∧ (Kd.R k51 51 w' w.heap.size (fun k_ => some k_ ≠ (s_.1 : Value).ownBlock ∧ some k_ ≠ (s_.2.1 : Value).ownBlock) s_.2.2 y201) ∧ (w'.heap[gb187]? = some (.cells #[.slice A0_0 l0_0.length c0_0, .slice A0_1 l0_1.length c0_1, .slice A0_2 l0_2.length c0_2, .int .i64 a0_3, .int .i64 a0_4] 53 (0, 0))) ∧ (w'.heap[gb188]? = some (.cells #[.slice none 0 0, .slice none 0 0, .slice none 0 0, .int .i64 0, .int .i64 0] 53 (0, 0))) ∧ (Below w.heap.size w w')) ?_ ?_
         rotate_left
         ·intro hJ0_4_8
          refine join_ (σ := Value × Value) 6 #[Y,Y,Y,Y,Z,Y,Y,Z,Z,Y,Y,Z,Y,Y,Z,Z] (fun s_ => [(3, s_.1), (6, s_.2)]) (fun s_ w' => (w'.cell? ⟨gb187, 0, none⟩ = some (.slice A0_0 l0_0.length c0_0) ∧ w'.cell? ⟨gb187, 1, none⟩ = some (.slice A0_1 l0_1.length c0_1) ∧ w'.cell? ⟨gb187, 2, none⟩ = some (.slice A0_2 l0_2.length c0_2) ∧ w'.cell? ⟨gb187, 3, none⟩ = some (.int .i64 a0_3) ∧ w'.cell? ⟨gb187, 4, none⟩ = some (.int .i64 a0_4)) ∧ (Kd.R k51 51 w' w.heap.size (fun _ => True) s_.2 y192) ∧ (w'.heap[gb187]? = some (.cells #[.slice A0_0 l0_0.length c0_0, .slice A0_1 l0_1.length c0_1, .slice A0_2 l0_2.length c0_2, .int .i64 a0_3, .int .i64 a0_4] 53 (0, 0))) ∧ (w'.heap[gb188]? = some (.cells #[.slice none 0 0, .slice none 0 0, .slice none 0 0, .int .i64 0, .int .i64 0] 53 (0, 0))) ∧ (Below w.heap.size w w')) ?_ ?_
          rotate_left
          ·intro hJ0_3
           refine join_ (σ := Value × Value) 6 #[Y,Y,Y,Z,Y,Y,Y,Z,Z,Y,Y,Z,Y,Y,Z,Z] (fun s_ => [(3, s_.1), (7, s_.2)]) (fun s_ w' => (w'.cell? ⟨gb187, 0, none⟩ = some (.slice A0_0 l0_0.length c0_0) ∧ w'.cell? ⟨gb187, 1, none⟩ = some (.slice A0_1 l0_1.length c0_1) ∧ w'.cell? ⟨gb187, 2, none⟩ = some (.slice A0_2 l0_2.length c0_2) ∧ w'.cell? ⟨gb187, 3, none⟩ = some (.int .i64 a0_3) ∧ w'.cell? ⟨gb187, 4, none⟩ = some (.int .i64 a0_4)) ∧ (Kd.R k51 51 w' w.heap.size (fun k_ => some k_ ≠ (s_.2 : Value).ownBlock) s_.1 y189) ∧ (Kd.R k51 51 w' w.heap.size (fun k_ => some k_ ≠ (s_.1 : Value).ownBlock) s_.2 y195) ∧ (w'.heap[gb187]? = some (.cells #[.slice A0_0 l0_0.length c0_0, .slice A0_1 l0_1.length c0_1, .slice A0_2 l0_2.length c0_2, .int .i64 a0_3, .int .i64 a0_4] 53 (0, 0))) ∧ (w'.heap[gb188]? = some (.cells #[.slice none 0 0, .slice none 0 0, .slice none 0 0, .int .i64 0, .int .i64 0] 53 (0, 0))) ∧ (Below w.heap.size w w')) ?_ ?_
           rotate_left
           ·intro hJ0_4
            refine join_ (σ := Value × Value) 6 #[Y,Y,Y,Z,Z,Y,Y,Z,Y,Y,Y,Z,Y,Y,Z,Z] (fun s_ => [(3, s_.1), (11, s_.2)]) (fun s_ w' => (w'.cell? ⟨gb187, 0, none⟩ = some (.slice A0_0 l0_0.length c0_0) ∧ w'.cell? ⟨gb187, 1, none⟩ = some (.slice A0_1 l0_1.length c0_1) ∧ w'.cell? ⟨gb187, 2, none⟩ = some (.slice A0_2 l0_2.length c0_2) ∧ w'.cell? ⟨gb187, 3, none⟩ = some (.int .i64 a0_3) ∧ w'.cell? ⟨gb187, 4, none⟩ = some (.int .i64 a0_4)) ∧ (Kd.R k51 51 w' w.heap.size (fun k_ => some k_ ≠ (s_.2 : Value).ownBlock) s_.1 y189) ∧ (Kd.R k51 51 w' w.heap.size (fun k_ => some k_ ≠ (s_.1 : Value).ownBlock) s_.2 y201) ∧ (w'.heap[gb187]? = some (.cells #[.slice A0_0 l0_0.length c0_0, .slice A0_1 l0_1.length c0_1, .slice A0_2 l0_2.length c0_2, .int .i64 a0_3, .int .i64 a0_4] 53 (0, 0))) ∧ (w'.heap[gb188]? = some (.cells #[.slice none 0 0, .slice none 0 0, .slice none 0 0, .int .i64 0, .int .i64 0] 53 (0, 0))) ∧ (Below w.heap.size w w')) ?_ ?_
            rotate_left
            ·intro hJ0_8
             refine join_ (σ := Value × Value) 6 #[Z,Y,Y,Z,Y,Y,Y,Z,Y,Y,Y,Z,Y,Y,Z,Z] (fun s_ => [(7, s_.1), (11, s_.2)]) (fun s_ w' => (w'.cell? ⟨gb187, 0, none⟩ = some (.slice A0_0 l0_0.length c0_0) ∧ w'.cell? ⟨gb187, 1, none⟩ = some (.slice A0_1 l0_1.length c0_1) ∧ w'.cell? ⟨gb187, 2, none⟩ = some (.slice A0_2 l0_2.length c0_2) ∧ w'.cell? ⟨gb187, 3, none⟩ = some (.int .i64 a0_3) ∧ w'.cell? ⟨gb187, 4, none⟩ = some (.int .i64 a0_4)) ∧ (Kd.R k51 51 w' w.heap.size (fun k_ => some k_ ≠ (s_.2 : Value).ownBlock) s_.1 y195) ∧ (Kd.R k51 51 w' w.heap.size (fun k_ => some k_ ≠ (s_.1 : Value).ownBlock) s_.2 y201) ∧ (w'.heap[gb187]? = some (.cells #[.slice A0_0 l0_0.length c0_0, .slice A0_1 l0_1.length c0_1, .slice A0_2 l0_2.length c0_2, .int .i64 a0_3, .int .i64 a0_4] 53 (0, 0))) ∧ (w'.heap[gb188]? = some (.cells #[.slice none 0 0, .slice none 0 0, .slice none 0 0, .int .i64 0, .int .i64 0] 53 (0, 0))) ∧ (Below w.heap.size w w')) ?_ ?_
             rotate_left
             ·intro hJ4_8
              refine join_ (σ := Value) 7 #[Y,Y,Y,Z,Z,Y,Y,Z,Z,Y,Y,Z,Y,Y,Z,Z] (fun s_ => [(3, s_)]) (fun s_ w' => (w'.cell? ⟨gb187, 0, none⟩ = some (.slice A0_0 l0_0.length c0_0) ∧ w'.cell? ⟨gb187, 1, none⟩ = some (.slice A0_1 l0_1.length c0_1) ∧ w'.cell? ⟨gb187, 2, none⟩ = some (.slice A0_2 l0_2.length c0_2) ∧ w'.cell? ⟨gb187, 3, none⟩ = some (.int .i64 a0_3) ∧ w'.cell? ⟨gb187, 4, none⟩ = some (.int .i64 a0_4)) ∧ (Kd.R k51 51 w' w.heap.size (fun _ => True) s_ y189) ∧ (w'.heap[gb187]? = some (.cells #[.slice A0_0 l0_0.length c0_0, .slice A0_1 l0_1.length c0_1, .slice A0_2 l0_2.length c0_2, .int .i64 a0_3, .int .i64 a0_4] 53 (0, 0))) ∧ (w'.heap[gb188]? = some (.cells #[.slice none 0 0, .slice none 0 0, .slice none 0 0, .int .i64 0, .int .i64 0] 53 (0, 0))) ∧ (Below w.heap.size w w')) ?_ ?_
              rotate_left
              ·intro hJ0
               refine join_ (σ := Value) 7 #[Z,Y,Y,Z,Y,Y,Y,Z,Z,Y,Y,Z,Y,Y,Z,Z] (fun s_ => [(7, s_)]) (fun s_ w' => (w'.cell? ⟨gb187, 0, none⟩ = some (.slice A0_0 l0_0.length c0_0) ∧ w'.cell? ⟨gb187, 1, none⟩ = some (.slice A0_1 l0_1.length c0_1) ∧ w'.cell? ⟨gb187, 2, none⟩ = some (.slice A0_2 l0_2.length c0_2) ∧ w'.cell? ⟨gb187, 3, none⟩ = some (.int .i64 a0_3) ∧ w'.cell? ⟨gb187, 4, none⟩ = some (.int .i64 a0_4)) ∧ (Kd.R k51 51 w' w.heap.size (fun _ => True) s_ y195) ∧ (w'.heap[gb187]? = some (.cells #[.slice A0_0 l0_0.length c0_0, .slice A0_1 l0_1.length c0_1, .slice A0_2 l0_2.length c0_2, .int .i64 a0_3, .int .i64 a0_4] 53 (0, 0))) ∧ (w'.heap[gb188]? = some (.cells #[.slice none 0 0, .slice none 0 0, .slice none 0 0, .int .i64 0, .int .i64 0] 53 (0, 0))) ∧ (Below w.heap.size w w')) ?_ ?_
               rotate_left
               ·intro hJ4
                refine join_ (σ := Value) 7 #[Z,Y,Y,Z,Z,Y,Y,Z,Y,Y,Y,Z,Y,Y,Z,Z] (fun s_ => [(11, s_)]) (fun s_ w' => (w'.cell? ⟨gb187, 0, none⟩ = some (.slice A0_0 l0_0.length c0_0) ∧ w'.cell? ⟨gb187, 1, none⟩ = some (.slice A0_1 l0_1.length c0_1) ∧ w'.cell? ⟨gb187, 2, none⟩ = some (.slice A0_2 l0_2.length c0_2) ∧ w'.cell? ⟨gb187, 3, none⟩ = some (.int .i64 a0_3) ∧ w'.cell? ⟨gb187, 4, none⟩ = some (.int .i64 a0_4)) ∧ (Kd.R k51 51 w' w.heap.size (fun _ => True) s_ y201) ∧ (w'.heap[gb187]? = some (.cells #[.slice A0_0 l0_0.length c0_0, .slice A0_1 l0_1.length c0_1, .slice A0_2 l0_2.length c0_2, .int .i64 a0_3, .int .i64 a0_4] 53 (0, 0))) ∧ (w'.heap[gb188]? = some (.cells #[.slice none 0 0, .slice none 0 0, .slice none 0 0, .int .i64 0, .int .i64 0] 53 (0, 0))) ∧ (Below w.heap.size w w')) ?_ ?_
                rotate_left
                ·intro hJ8
                 refine three_ (i := 0) (j := 4) (k := 8) (Ni := some 3) (Nj := some 7) (Nk := some 11) #[Y,Y,Y,Z,Z,Y,Y,Z,Z,Y,Y,Z,Y,Y,Z,Z] #[Z,Y,Y,Z,Y,Y,Y,Z,Z,Y,Y,Z,Y,Y,Z,Z] #[Z,Y,Y,Z,Z,Y,Y,Z,Y,Y,Y,Z,Y,Y,Z,Z] rfl rfl rfl rfl rfl rfl (three_of HT_.out (by kernel_rfl)) (by decide) (by decide) (by decide) (fun K hK => ?_) (fun K hK => ?_) (fun K hK => ?_)
                 ·skip
                  refine Kd.R_lit_step k51 _ 51 ?hg (N := 3) ?hd (xs := ([] : List (S51))) (inner := []) (ok := fun _ => True) (okp := fun _ => True) ?hr ?hp (fun _ hk => hk) trivial (Below.refl _ _) (Nat.le_refl _) (by simp) ?_; (case hd => rfl); (case hg => rfl); (case hr => exact zB); (case hp => exact (Reps.none _ _))
                  intro v190 w8 ho9 hb hg_ hnew_
                  clear hg_ hnew_
                  (first | rw [← Ny189.out] at ho9 | (simp only [Int.reduceToNat] at ho9; rw [← Ny189.out] at ho9))
                  have n0_ := xm (Kd.R_lower ho9 (xz bG))
                  have n1_ := xm (blk_below (kB BK187) hb)
                  have n2_ := xm (blk_below (kB BK188) hb)
                  have n3_ := xm (below_step bG hb)
                  clear BK187
                  clear BK188
                  clear HB
                  have HO191 := n0_
                  have BK187 := n1_
                  have BK188 := n2_
                  have HB := n3_
                  clear n0_ n1_ n2_ n3_
                  clear hb ho9
                  refine hK.out _ _ ⟨(xc BK187.out 0).trans rfl, (xc BK187.out 1).trans rfl, (xc BK187.out 2).trans rfl, (xc BK187.out 3).trans rfl, (xc BK187.out 4).trans rfl⟩ (fun hHeld => ?_)
                  clear hK K
                  refine norm_ (a' := ?_) ?_ ?_
                  rotate_left
                  ·show Act.put _ (some 3) _ = _
                   simp only [Act.put, xi, xj, xk, i64_w, i32_w]
                   rfl
                  exact norm_ pB (hJ0 (v190) _ ⟨hHeld, (rB HO191), (kB BK187), (kB BK188), bG⟩)
                 ·skip
                  refine Kd.R_lit_step k51 _ 51 ?hg (N := 7) ?hd (xs := ([] : List (S51))) (inner := []) (ok := fun _ => True) (okp := fun _ => True) ?hr ?hp (fun _ hk => hk) trivial (Below.refl _ _) (Nat.le_refl _) (by simp) ?_; (case hd => rfl); (case hg => rfl); (case hr => exact zB); (case hp => exact (Reps.none _ _))
                  intro v196 w8 ho9 hb hg_ hnew_
                  clear hg_ hnew_
                  (first | rw [← Ny195.out] at ho9 | (simp only [Int.reduceToNat] at ho9; rw [← Ny195.out] at ho9))
                  have n0_ := xm (Kd.R_lower ho9 (xz bG))
                  have n1_ := xm (blk_below (kB BK187) hb)
                  have n2_ := xm (blk_below (kB BK188) hb)
                  have n3_ := xm (below_step bG hb)
                  clear BK187
                  clear BK188
                  clear HB
                  have HO197 := n0_
                  have BK187 := n1_
                  have BK188 := n2_
                  have HB := n3_
                  clear n0_ n1_ n2_ n3_
                  clear hb ho9
                  refine hK.out _ _ ⟨(xc BK187.out 0).trans rfl, (xc BK187.out 1).trans rfl, (xc BK187.out 2).trans rfl, (xc BK187.out 3).trans rfl, (xc BK187.out 4).trans rfl⟩ (fun hHeld => ?_)
                  clear hK K
                  refine norm_ (a' := ?_) ?_ ?_
                  rotate_left
                  ·show Act.put _ (some 7) _ = _
                   simp only [Act.put, xi, xj, xk, i64_w, i32_w]
                   rfl
                  exact norm_ pB (hJ4 (v196) _ ⟨hHeld, (rB HO197), (kB BK187), (kB BK188), bG⟩)
                 ·skip
                  refine Kd.R_lit_step k51 _ 51 ?hg (N := 11) ?hd (xs := ([] : List (S51))) (inner := []) (ok := fun _ => True) (okp := fun _ => True) ?hr ?hp (fun _ hk => hk) trivial (Below.refl _ _) (Nat.le_refl _) (by simp) ?_; (case hd => rfl); (case hg => rfl); (case hr => exact zB); (case hp => exact (Reps.none _ _))
                  intro v202 w8 ho9 hb hg_ hnew_
                  clear hg_ hnew_
                  (first | rw [← Ny201.out] at ho9 | (simp only [Int.reduceToNat] at ho9; rw [← Ny201.out] at ho9))
                  have n0_ := xm (Kd.R_lower ho9 (xz bG))
                  have n1_ := xm (blk_below (kB BK187) hb)
                  have n2_ := xm (blk_below (kB BK188) hb)
                  have n3_ := xm (below_step bG hb)
                  clear BK187
                  clear BK188
                  clear HB
                  have HO203 := n0_
                  have BK187 := n1_
                  have BK188 := n2_
                  have HB := n3_
                  clear n0_ n1_ n2_ n3_
                  clear hb ho9
                  refine hK.out _ _ ⟨(xc BK187.out 0).trans rfl, (xc BK187.out 1).trans rfl, (xc BK187.out 2).trans rfl, (xc BK187.out 3).trans rfl, (xc BK187.out 4).trans rfl⟩ (fun hHeld => ?_)
                  clear hK K
                  refine norm_ (a' := ?_) ?_ ?_
                  rotate_left
                  ·show Act.put _ (some 11) _ = _
                   simp only [Act.put, xi, xj, xk, i64_w, i32_w]
                   rfl
                  exact norm_ pB (hJ8 (v202) _ ⟨hHeld, (rB HO203), (kB BK187), (kB BK188), bG⟩)
                ·skip
                 rintro v202 w10 ⟨hS_, h0_, h1_, h2_, h3_⟩
                 have n0_ : Aside0 (Kd.R k51 51 w10 w.heap.size (fun _ => True) v202 y201) := ⟨h0_⟩
                 have n1_ : Aside0 (w10.heap[gb187]? = some (.cells #[.slice A0_0 l0_0.length c0_0, .slice A0_1 l0_1.length c0_1, .slice A0_2 l0_2.length c0_2, .int .i64 a0_3, .int .i64 a0_4] 53 (0, 0))) := ⟨h1_⟩
                 have n2_ : Aside0 (w10.heap[gb188]? = some (.cells #[.slice none 0 0, .slice none 0 0, .slice none 0 0, .int .i64 0, .int .i64 0] 53 (0, 0))) := ⟨h2_⟩
                 have n3_ : Aside0 (Below w.heap.size w w10) := ⟨h3_⟩
                 clear BK187
                 clear BK188
                 clear HB
                 clear h0_ h1_ h2_ h3_
                 have HO203 := n0_
                 have BK187 := n1_
                 have BK188 := n2_
                 have HB := n3_
                 clear n0_ n1_ n2_ n3_
                 have hHeld : w10.cell? ⟨gb187, 0, none⟩ = some (.slice A0_0 l0_0.length c0_0) ∧ w10.cell? ⟨gb187, 1, none⟩ = some (.slice A0_1 l0_1.length c0_1) ∧ w10.cell? ⟨gb187, 2, none⟩ = some (.slice A0_2 l0_2.length c0_2) ∧ w10.cell? ⟨gb187, 3, none⟩ = some (.int .i64 a0_3) ∧ w10.cell? ⟨gb187, 4, none⟩ = some (.int .i64 a0_4) := hS_
                 refine norm_ (a' := ?_) ?_ ?_
                 rotate_left
                 ·simp only [putAll, Act.put, xi, xj, xk]
                  rfl
                 refine two_ (i := 0) (j := 4) (Ni := some 3) (Nj := some 7) #[Y,Y,Y,Z,Z,Y,Y,Z,Y,Y,Y,Z,Y,Y,Z,Z] #[Z,Y,Y,Z,Y,Y,Y,Z,Y,Y,Y,Z,Y,Y,Z,Z] rfl rfl rfl rfl (two_of HT_.out (by kernel_rfl)) (by decide) (by decide) (fun K hK => ?_) (fun K hK => ?_)
                 ·skip
                  refine Kd.R_lit_step k51 _ 51 ?hg (N := 3) ?hd (xs := ([] : List (S51))) (inner := []) (ok := fun _ => True) (okp := fun _ => True) ?hr ?hp (fun _ hk => hk) trivial (Below.refl _ _) (Nat.le_refl _) (by simp) ?_; (case hd => rfl); (case hg => rfl); (case hr => exact zB); (case hp => exact (Reps.none _ _))
                  intro v190 w11 ho12 hb hg_ hnew_
                  clear hg_ hnew_
                  (first | rw [← Ny189.out] at ho12 | (simp only [Int.reduceToNat] at ho12; rw [← Ny189.out] at ho12))
                  have n0_ := xm (Kd.R_elder' (rB HO203) (Kd.R_base ho12) hb)
                  have n1_ := xm (Kd.R_lower (Kd.R_new' ho12 (Kd.R_lt (rB HO203))) (xz bG))
                  have n2_ := xm (blk_below (kB BK187) hb)
                  have n3_ := xm (blk_below (kB BK188) hb)
                  have n4_ := xm (below_step bG hb)
                  clear HO203
                  clear BK187
                  clear BK188
                  clear HB
                  have HO203 := n0_
                  have HO191 := n1_
                  have BK187 := n2_
                  have BK188 := n3_
                  have HB := n4_
                  clear n0_ n1_ n2_ n3_ n4_
                  clear hb ho12
                  refine hK.out _ _ ⟨(xc BK187.out 0).trans rfl, (xc BK187.out 1).trans rfl, (xc BK187.out 2).trans rfl, (xc BK187.out 3).trans rfl, (xc BK187.out 4).trans rfl⟩ (fun hHeld => ?_)
                  clear hK K
                  refine norm_ (a' := ?_) ?_ ?_
                  rotate_left
                  ·show Act.put _ (some 3) _ = _
                   simp only [Act.put, xi, xj, xk, i64_w, i32_w]
                   rfl
                  exact norm_ pB (hJ0_8 (v190, v202) _ ⟨hHeld, (by (with_reducible repeat (first | apply Kd.R_alloc | apply Kd.R_drewN | apply Kd.R_drew)); exact Kd.R_mono HO191.out (fun _ hk => hk.2)), (by (with_reducible repeat (first | apply Kd.R_alloc | apply Kd.R_drewN | apply Kd.R_drew)); exact Kd.R_mono HO203.out (fun _ hk => hk.2)), (kB BK187), (kB BK188), bG⟩)
                 ·skip
                  refine Kd.R_lit_step k51 _ 51 ?hg (N := 7) ?hd (xs := ([] : List (S51))) (inner := []) (ok := fun _ => True) (okp := fun _ => True) ?hr ?hp (fun _ hk => hk) trivial (Below.refl _ _) (Nat.le_refl _) (by simp) ?_; (case hd => rfl); (case hg => rfl); (case hr => exact zB); (case hp => exact (Reps.none _ _))
                  intro v196 w11 ho12 hb hg_ hnew_
                  clear hg_ hnew_
                  (first | rw [← Ny195.out] at ho12 | (simp only [Int.reduceToNat] at ho12; rw [← Ny195.out] at ho12))
                  have n0_ := xm (Kd.R_elder' (rB HO203) (Kd.R_base ho12) hb)
                  have n1_ := xm (Kd.R_lower (Kd.R_new' ho12 (Kd.R_lt (rB HO203))) (xz bG))
                  have n2_ := xm (blk_below (kB BK187) hb)
                  have n3_ := xm (blk_below (kB BK188) hb)
                  have n4_ := xm (below_step bG hb)
                  clear HO203
                  clear BK187
                  clear BK188
                  clear HB
                  have HO203 := n0_
                  have HO197 := n1_
                  have BK187 := n2_
                  have BK188 := n3_
                  have HB := n4_
                  clear n0_ n1_ n2_ n3_ n4_
                  clear hb ho12
                  refine hK.out _ _ ⟨(xc BK187.out 0).trans rfl, (xc BK187.out 1).trans rfl, (xc BK187.out 2).trans rfl, (xc BK187.out 3).trans rfl, (xc BK187.out 4).trans rfl⟩ (fun hHeld => ?_)
                  clear hK K
                  refine norm_ (a' := ?_) ?_ ?_
                  rotate_left
                  ·show Act.put _ (some 7) _ = _
                   simp only [Act.put, xi, xj, xk, i64_w, i32_w]
                   rfl
                  exact norm_ pB (hJ4_8 (v196, v202) _ ⟨hHeld, (by (with_reducible repeat (first | apply Kd.R_alloc | apply Kd.R_drewN | apply Kd.R_drew)); exact Kd.R_mono HO197.out (fun _ hk => hk.2)), (by (with_reducible repeat (first | apply Kd.R_alloc | apply Kd.R_drewN | apply Kd.R_drew)); exact Kd.R_mono HO203.out (fun _ hk => hk.2)), (kB BK187), (kB BK188), bG⟩)
               ·skip
                rintro v196 w10 ⟨hS_, h0_, h1_, h2_, h3_⟩
                have n0_ : Aside0 (Kd.R k51 51 w10 w.heap.size (fun _ => True) v196 y195) := ⟨h0_⟩
                have n1_ : Aside0 (w10.heap[gb187]? = some (.cells #[.slice A0_0 l0_0.length c0_0, .slice A0_1 l0_1.length c0_1, .slice A0_2 l0_2.length c0_2, .int .i64 a0_3, .int .i64 a0_4] 53 (0, 0))) := ⟨h1_⟩
                have n2_ : Aside0 (w10.heap[gb188]? = some (.cells #[.slice none 0 0, .slice none 0 0, .slice none 0 0, .int .i64 0, .int .i64 0] 53 (0, 0))) := ⟨h2_⟩
                have n3_ : Aside0 (Below w.heap.size w w10) := ⟨h3_⟩
                clear BK187
                clear BK188
                clear HB
                clear h0_ h1_ h2_ h3_
                have HO197 := n0_
                have BK187 := n1_
                have BK188 := n2_
                have HB := n3_
                clear n0_ n1_ n2_ n3_
                have hHeld : w10.cell? ⟨gb187, 0, none⟩ = some (.slice A0_0 l0_0.length c0_0) ∧ w10.cell? ⟨gb187, 1, none⟩ = some (.slice A0_1 l0_1.length c0_1) ∧ w10.cell? ⟨gb187, 2, none⟩ = some (.slice A0_2 l0_2.length c0_2) ∧ w10.cell? ⟨gb187, 3, none⟩ = some (.int .i64 a0_3) ∧ w10.cell? ⟨gb187, 4, none⟩ = some (.int .i64 a0_4) := hS_
                refine norm_ (a' := ?_) ?_ ?_
                rotate_left
                ·simp only [putAll, Act.put, xi, xj, xk]
                 rfl
                refine two_ (i := 0) (j := 8) (Ni := some 3) (Nj := some 11) #[Y,Y,Y,Z,Y,Y,Y,Z,Z,Y,Y,Z,Y,Y,Z,Z] #[Z,Y,Y,Z,Y,Y,Y,Z,Y,Y,Y,Z,Y,Y,Z,Z] rfl rfl rfl rfl (two_of HT_.out (by kernel_rfl)) (by decide) (by decide) (fun K hK => ?_) (fun K hK => ?_)
                ·skip
                 refine Kd.R_lit_step k51 _ 51 ?hg (N := 3) ?hd (xs := ([] : List (S51))) (inner := []) (ok := fun _ => True) (okp := fun _ => True) ?hr ?hp (fun _ hk => hk) trivial (Below.refl _ _) (Nat.le_refl _) (by simp) ?_; (case hd => rfl); (case hg => rfl); (case hr => exact zB); (case hp => exact (Reps.none _ _))
                 intro v190 w11 ho12 hb hg_ hnew_
                 clear hg_ hnew_
                 (first | rw [← Ny189.out] at ho12 | (simp only [Int.reduceToNat] at ho12; rw [← Ny189.out] at ho12))
                 have n0_ := xm (Kd.R_elder' (rB HO197) (Kd.R_base ho12) hb)
                 have n1_ := xm (Kd.R_lower (Kd.R_new' ho12 (Kd.R_lt (rB HO197))) (xz bG))
                 have n2_ := xm (blk_below (kB BK187) hb)
                 have n3_ := xm (blk_below (kB BK188) hb)
                 have n4_ := xm (below_step bG hb)
                 clear HO197
                 clear BK187
                 clear BK188
                 clear HB
                 have HO197 := n0_
                 have HO191 := n1_
                 have BK187 := n2_
                 have BK188 := n3_
                 have HB := n4_
                 clear n0_ n1_ n2_ n3_ n4_
                 clear hb ho12
                 refine hK.out _ _ ⟨(xc BK187.out 0).trans rfl, (xc BK187.out 1).trans rfl, (xc BK187.out 2).trans rfl, (xc BK187.out 3).trans rfl, (xc BK187.out 4).trans rfl⟩ (fun hHeld => ?_)
                 clear hK K
                 refine norm_ (a' := ?_) ?_ ?_
                 rotate_left
                 ·show Act.put _ (some 3) _ = _
                  simp only [Act.put, xi, xj, xk, i64_w, i32_w]
                  rfl
                 exact norm_ pB (hJ0_4 (v190, v196) _ ⟨hHeld, (by (with_reducible repeat (first | apply Kd.R_alloc | apply Kd.R_drewN | apply Kd.R_drew)); exact Kd.R_mono HO191.out (fun _ hk => hk.2)), (by (with_reducible repeat (first | apply Kd.R_alloc | apply Kd.R_drewN | apply Kd.R_drew)); exact Kd.R_mono HO197.out (fun _ hk => hk.2)), (kB BK187), (kB BK188), bG⟩)
                ·skip
                 refine Kd.R_lit_step k51 _ 51 ?hg (N := 11) ?hd (xs := ([] : List (S51))) (inner := []) (ok := fun _ => True) (okp := fun _ => True) ?hr ?hp (fun _ hk => hk) trivial (Below.refl _ _) (Nat.le_refl _) (by simp) ?_; (case hd => rfl); (case hg => rfl); (case hr => exact zB); (case hp => exact (Reps.none _ _))
                 intro v202 w11 ho12 hb hg_ hnew_
                 clear hg_ hnew_
                 (first | rw [← Ny201.out] at ho12 | (simp only [Int.reduceToNat] at ho12; rw [← Ny201.out] at ho12))
                 have n0_ := xm (Kd.R_elder' (rB HO197) (Kd.R_base ho12) hb)
                 have n1_ := xm (Kd.R_lower (Kd.R_new' ho12 (Kd.R_lt (rB HO197))) (xz bG))
                 have n2_ := xm (blk_below (kB BK187) hb)
                 have n3_ := xm (blk_below (kB BK188) hb)
                 have n4_ := xm (below_step bG hb)
                 clear HO197
                 clear BK187
                 clear BK188
                 clear HB
                 have HO197 := n0_
                 have HO203 := n1_
                 have BK187 := n2_
                 have BK188 := n3_
                 have HB := n4_
                 clear n0_ n1_ n2_ n3_ n4_
                 clear hb ho12
                 refine hK.out _ _ ⟨(xc BK187.out 0).trans rfl, (xc BK187.out 1).trans rfl, (xc BK187.out 2).trans rfl, (xc BK187.out 3).trans rfl, (xc BK187.out 4).trans rfl⟩ (fun hHeld => ?_)
                 clear hK K
                 refine norm_ (a' := ?_) ?_ ?_
                 rotate_left
                 ·show Act.put _ (some 11) _ = _
                  simp only [Act.put, xi, xj, xk, i64_w, i32_w]
                  rfl
                 exact norm_ pB (hJ4_8 (v196, v202) _ ⟨hHeld, (by (with_reducible repeat (first | apply Kd.R_alloc | apply Kd.R_drewN | apply Kd.R_drew)); exact Kd.R_mono HO197.out (fun _ hk => hk.2)), (by (with_reducible repeat (first | apply Kd.R_alloc | apply Kd.R_drewN | apply Kd.R_drew)); exact Kd.R_mono HO203.out (fun _ hk => hk.2)), (kB BK187), (kB BK188), bG⟩)
              ·skip
               rintro v190 w10 ⟨hS_, h0_, h1_, h2_, h3_⟩
               have n0_ : Aside0 (Kd.R k51 51 w10 w.heap.size (fun _ => True) v190 y189) := ⟨h0_⟩
               have n1_ : Aside0 (w10.heap[gb187]? = some (.cells #[.slice A0_0 l0_0.length c0_0, .slice A0_1 l0_1.length c0_1, .slice A0_2 l0_2.length c0_2, .int .i64 a0_3, .int .i64 a0_4] 53 (0, 0))) := ⟨h1_⟩
               have n2_ : Aside0 (w10.heap[gb188]? = some (.cells #[.slice none 0 0, .slice none 0 0, .slice none 0 0, .int .i64 0, .int .i64 0] 53 (0, 0))) := ⟨h2_⟩
               have n3_ : Aside0 (Below w.heap.size w w10) := ⟨h3_⟩
               clear BK187
               clear BK188
               clear HB
               clear h0_ h1_ h2_ h3_
               have HO191 := n0_
               have BK187 := n1_
               have BK188 := n2_
               have HB := n3_
               clear n0_ n1_ n2_ n3_
               have hHeld : w10.cell? ⟨gb187, 0, none⟩ = some (.slice A0_0 l0_0.length c0_0) ∧ w10.cell? ⟨gb187, 1, none⟩ = some (.slice A0_1 l0_1.length c0_1) ∧ w10.cell? ⟨gb187, 2, none⟩ = some (.slice A0_2 l0_2.length c0_2) ∧ w10.cell? ⟨gb187, 3, none⟩ = some (.int .i64 a0_3) ∧ w10.cell? ⟨gb187, 4, none⟩ = some (.int .i64 a0_4) := hS_
               refine norm_ (a' := ?_) ?_ ?_
               rotate_left
               ·simp only [putAll, Act.put, xi, xj, xk]
                rfl
               refine three_ (i := 3) (j := 4) (k := 8) (Ni := some 6) (Nj := some 7) (Nk := some 11) #[Y,Y,Y,Y,Z,Y,Y,Z,Z,Y,Y,Z,Y,Y,Z,Z] #[Y,Y,Y,Z,Y,Y,Y,Z,Z,Y,Y,Z,Y,Y,Z,Z] #[Y,Y,Y,Z,Z,Y,Y,Z,Y,Y,Y,Z,Y,Y,Z,Z] rfl rfl rfl rfl rfl rfl (three_of HT_.out (by kernel_rfl)) (by decide) (by decide) (by decide) (fun K hK => ?_) (fun K hK => ?_) (fun K hK => ?_)
               ·skip
                refine Kd.R_append_rows_step k51 (w0 := w) w.heap.size (by rfl) (.tmp 3) (.tmp 5) 50 51 (.agg #[(.int .i64 0), (.int .i64 0)]) 16 rfl Try.underlying50 info51 rfl (by decide) (by omega) v190 y189 l0_0 _ _ _ (fun _ => True) (fun _ => False) rfl rfl ?aO ?aR (fun _ _ h => h) (fun _ h => h.elim) ?aF ?aB ?aS ?aL ?_
                (case aR => exact cB (Kd.C_below HR0_0.out HB.out))
                (case aB => exact bG)
                (case aF => exact (fun _ _ => trivial))
                (case aO => exact (rB HO191))
                (case aS => exact (xz bG))
                (case aL => have := LMc2.out; omega)
                intro v193 w11 ho hb hg hat
                rw [← Ny192.out] at ho
                have n0_ := xm (blk_grown (kB BK187) hg (Kd.R_ne HO191.out BK187.out (by decide)))
                have n1_ := xm (blk_grown (kB BK188) hg (Kd.R_ne HO191.out BK188.out (by decide)))
                have n2_ := xm (hb)
                have n3_ := xm (ho)
                clear BK187
                clear BK188
                clear HB
                clear HO191
                have BK187 := n0_
                have BK188 := n1_
                have HB := n2_
                have HO194 := n3_
                clear n0_ n1_ n2_ n3_
                clear ho hb hg hat
                refine hK.out _ _ ⟨(xc BK187.out 0).trans rfl, (xc BK187.out 1).trans rfl, (xc BK187.out 2).trans rfl, (xc BK187.out 3).trans rfl, (xc BK187.out 4).trans rfl⟩ (fun hHeld => ?_)
                clear hK K
                refine norm_ (a' := ?_) ?_ ?_
                rotate_left
                ·show Act.put _ (some 6) _ = _
                 simp only [Act.put, xi, xj, xk, i64_w, i32_w]
                 rfl
                exact norm_ pB (hJ0_3 (v190, v193) _ ⟨hHeld, (rB HO194), (kB BK187), (kB BK188), bG⟩)
               ·skip
                refine Kd.R_lit_step k51 _ 51 ?hg (N := 7) ?hd (xs := ([] : List (S51))) (inner := []) (ok := fun _ => True) (okp := fun _ => True) ?hr ?hp (fun _ hk => hk) trivial (Below.refl _ _) (Nat.le_refl _) (by simp) ?_; (case hd => rfl); (case hg => rfl); (case hr => exact zB); (case hp => exact (Reps.none _ _))
                intro v196 w11 ho12 hb hg_ hnew_
                clear hg_ hnew_
                (first | rw [← Ny195.out] at ho12 | (simp only [Int.reduceToNat] at ho12; rw [← Ny195.out] at ho12))
                have n0_ := xm (Kd.R_elder' (rB HO191) (Kd.R_base ho12) hb)
                have n1_ := xm (Kd.R_lower (Kd.R_new' ho12 (Kd.R_lt (rB HO191))) (xz bG))
                have n2_ := xm (blk_below (kB BK187) hb)
                have n3_ := xm (blk_below (kB BK188) hb)
                have n4_ := xm (below_step bG hb)
                clear HO191
                clear BK187
                clear BK188
                clear HB
                have HO191 := n0_
                have HO197 := n1_
                have BK187 := n2_
                have BK188 := n3_
                have HB := n4_
                clear n0_ n1_ n2_ n3_ n4_
                clear hb ho12
                refine hK.out _ _ ⟨(xc BK187.out 0).trans rfl, (xc BK187.out 1).trans rfl, (xc BK187.out 2).trans rfl, (xc BK187.out 3).trans rfl, (xc BK187.out 4).trans rfl⟩ (fun hHeld => ?_)
                clear hK K
                refine norm_ (a' := ?_) ?_ ?_
                rotate_left
                ·show Act.put _ (some 7) _ = _
                 simp only [Act.put, xi, xj, xk, i64_w, i32_w]
                 rfl
                exact norm_ pB (hJ0_4 (v190, v196) _ ⟨hHeld, (by (with_reducible repeat (first | apply Kd.R_alloc | apply Kd.R_drewN | apply Kd.R_drew)); exact Kd.R_mono HO191.out (fun _ hk => hk.2)), (by (with_reducible repeat (first | apply Kd.R_alloc | apply Kd.R_drewN | apply Kd.R_drew)); exact Kd.R_mono HO197.out (fun _ hk => hk.2)), (kB BK187), (kB BK188), bG⟩)
               ·skip
                refine Kd.R_lit_step k51 _ 51 ?hg (N := 11) ?hd (xs := ([] : List (S51))) (inner := []) (ok := fun _ => True) (okp := fun _ => True) ?hr ?hp (fun _ hk => hk) trivial (Below.refl _ _) (Nat.le_refl _) (by simp) ?_; (case hd => rfl); (case hg => rfl); (case hr => exact zB); (case hp => exact (Reps.none _ _))
                intro v202 w11 ho12 hb hg_ hnew_
                clear hg_ hnew_
                (first | rw [← Ny201.out] at ho12 | (simp only [Int.reduceToNat] at ho12; rw [← Ny201.out] at ho12))
                have n0_ := xm (Kd.R_elder' (rB HO191) (Kd.R_base ho12) hb)
                have n1_ := xm (Kd.R_lower (Kd.R_new' ho12 (Kd.R_lt (rB HO191))) (xz bG))
                have n2_ := xm (blk_below (kB BK187) hb)
                have n3_ := xm (blk_below (kB BK188) hb)
                have n4_ := xm (below_step bG hb)
                clear HO191
                clear BK187
                clear BK188
                clear HB
                have HO191 := n0_
                have HO203 := n1_
                have BK187 := n2_
                have BK188 := n3_
                have HB := n4_
                clear n0_ n1_ n2_ n3_ n4_
                clear hb ho12
                refine hK.out _ _ ⟨(xc BK187.out 0).trans rfl, (xc BK187.out 1).trans rfl, (xc BK187.out 2).trans rfl, (xc BK187.out 3).trans rfl, (xc BK187.out 4).trans rfl⟩ (fun hHeld => ?_)
                clear hK K
                refine norm_ (a' := ?_) ?_ ?_
                rotate_left
                ·show Act.put _ (some 11) _ = _
                 simp only [Act.put, xi, xj, xk, i64_w, i32_w]
                 rfl
                exact norm_ pB (hJ0_8 (v190, v202) _ ⟨hHeld, (by (with_reducible repeat (first | apply Kd.R_alloc | apply Kd.R_drewN | apply Kd.R_drew)); exact Kd.R_mono HO191.out (fun _ hk => hk.2)), (by (with_reducible repeat (first | apply Kd.R_alloc | apply Kd.R_drewN | apply Kd.R_drew)); exact Kd.R_mono HO203.out (fun _ hk => hk.2)), (kB BK187), (kB BK188), bG⟩)
             ·skip
              rintro ⟨v196, v202⟩ w12 ⟨hS_, h0_, h1_, h2_, h3_, h4_⟩
              have n0_ : Aside0 (Kd.R k51 51 w12 w.heap.size (fun k_ => some k_ ≠ (v202 : Value).ownBlock) v196 y195) := ⟨h0_⟩
              have n1_ : Aside0 (Kd.R k51 51 w12 w.heap.size (fun k_ => some k_ ≠ (v196 : Value).ownBlock) v202 y201) := ⟨h1_⟩
              have n2_ : Aside0 (w12.heap[gb187]? = some (.cells #[.slice A0_0 l0_0.length c0_0, .slice A0_1 l0_1.length c0_1, .slice A0_2 l0_2.length c0_2, .int .i64 a0_3, .int .i64 a0_4] 53 (0, 0))) := ⟨h2_⟩
              have n3_ : Aside0 (w12.heap[gb188]? = some (.cells #[.slice none 0 0, .slice none 0 0, .slice none 0 0, .int .i64 0, .int .i64 0] 53 (0, 0))) := ⟨h3_⟩
              have n4_ : Aside0 (Below w.heap.size w w12) := ⟨h4_⟩
              clear BK187
              clear BK188
              clear HB
              clear h0_ h1_ h2_ h3_ h4_
              have HO197 := n0_
              have HO203 := n1_
              have BK187 := n2_
              have BK188 := n3_
              have HB := n4_
              clear n0_ n1_ n2_ n3_ n4_
              have hHeld : w12.cell? ⟨gb187, 0, none⟩ = some (.slice A0_0 l0_0.length c0_0) ∧ w12.cell? ⟨gb187, 1, none⟩ = some (.slice A0_1 l0_1.length c0_1) ∧ w12.cell? ⟨gb187, 2, none⟩ = some (.slice A0_2 l0_2.length c0_2) ∧ w12.cell? ⟨gb187, 3, none⟩ = some (.int .i64 a0_3) ∧ w12.cell? ⟨gb187, 4, none⟩ = some (.int .i64 a0_4) := hS_
              refine norm_ (a' := ?_) ?_ ?_
              rotate_left
              ·simp only [putAll, Act.put, xi, xj, xk]
               rfl
              refine one_ (i := 0) (N := some 3) #[Y,Y,Y,Z,Y,Y,Y,Z,Y,Y,Y,Z,Y,Y,Z,Z] rfl rfl (one_of HT_.out (by kernel_rfl)) (by decide) (fun K hK => ?_)
              refine Kd.R_lit_step k51 _ 51 ?hg (N := 3) ?hd (xs := ([] : List (S51))) (inner := []) (ok := fun _ => True) (okp := fun _ => True) ?hr ?hp (fun _ hk => hk) trivial (Below.refl _ _) (Nat.le_refl _) (by simp) ?_; (case hd => rfl); (case hg => rfl); (case hr => exact zB); (case hp => exact (Reps.none _ _))
              intro v190 w13 ho14 hb hg_ hnew_
              clear hg_ hnew_
              (first | rw [← Ny189.out] at ho14 | (simp only [Int.reduceToNat] at ho14; rw [← Ny189.out] at ho14))
              have n0_ := xm (Kd.R_elder' (rB HO197) (Kd.R_base ho14) hb)
              have n1_ := xm (Kd.R_elder' (rB HO203) (Kd.R_base ho14) hb)
              have n2_ := xm (Kd.R_lower (Kd.R_new' (Kd.R_new' ho14 (Kd.R_lt (rB HO197))) (Kd.R_lt (rB HO203))) (xz bG))
              have n3_ := xm (blk_below (kB BK187) hb)
              have n4_ := xm (blk_below (kB BK188) hb)
              have n5_ := xm (below_step bG hb)
              clear HO197
              clear HO203
              clear BK187
              clear BK188
              clear HB
              have HO197 := n0_
              have HO203 := n1_
              have HO191 := n2_
              have BK187 := n3_
              have BK188 := n4_
              have HB := n5_
              clear n0_ n1_ n2_ n3_ n4_ n5_
              clear hb ho14
              refine hK.out _ _ ⟨(xc BK187.out 0).trans rfl, (xc BK187.out 1).trans rfl, (xc BK187.out 2).trans rfl, (xc BK187.out 3).trans rfl, (xc BK187.out 4).trans rfl⟩ (fun hHeld => ?_)
              clear hK K
              refine norm_ (a' := ?_) ?_ ?_
              rotate_left
              ·show Act.put _ (some 3) _ = _
               simp only [Act.put, xi, xj, xk, i64_w, i32_w]
               rfl
              exact norm_ pB (hJ0_4_8 (v190, v196, v202) _ ⟨hHeld, (by (with_reducible repeat (first | apply Kd.R_alloc | apply Kd.R_drewN | apply Kd.R_drew)); exact Kd.R_mono HO191.out (fun _ hk => ⟨hk.1.2, hk.2⟩)), (by (with_reducible repeat (first | apply Kd.R_alloc | apply Kd.R_drewN | apply Kd.R_drew)); exact Kd.R_mono HO197.out (fun _ hk => ⟨hk.2, hk.1⟩)), (by (with_reducible repeat (first | apply Kd.R_alloc | apply Kd.R_drewN | apply Kd.R_drew)); exact Kd.R_mono HO203.out (fun _ hk => ⟨hk.2, hk.1⟩)), (kB BK187), (kB BK188), bG⟩)
            ·skip
             rintro ⟨v190, v202⟩ w12 ⟨hS_, h0_, h1_, h2_, h3_, h4_⟩
             have n0_ : Aside0 (Kd.R k51 51 w12 w.heap.size (fun k_ => some k_ ≠ (v202 : Value).ownBlock) v190 y189) := ⟨h0_⟩
             have n1_ : Aside0 (Kd.R k51 51 w12 w.heap.size (fun k_ => some k_ ≠ (v190 : Value).ownBlock) v202 y201) := ⟨h1_⟩
             have n2_ : Aside0 (w12.heap[gb187]? = some (.cells #[.slice A0_0 l0_0.length c0_0, .slice A0_1 l0_1.length c0_1, .slice A0_2 l0_2.length c0_2, .int .i64 a0_3, .int .i64 a0_4] 53 (0, 0))) := ⟨h2_⟩
             have n3_ : Aside0 (w12.heap[gb188]? = some (.cells #[.slice none 0 0, .slice none 0 0, .slice none 0 0, .int .i64 0, .int .i64 0] 53 (0, 0))) := ⟨h3_⟩
             have n4_ : Aside0 (Below w.heap.size w w12) := ⟨h4_⟩
             clear BK187
             clear BK188
             clear HB
             clear h0_ h1_ h2_ h3_ h4_
             have HO191 := n0_
             have HO203 := n1_
             have BK187 := n2_
             have BK188 := n3_
             have HB := n4_
             clear n0_ n1_ n2_ n3_ n4_
             have hHeld : w12.cell? ⟨gb187, 0, none⟩ = some (.slice A0_0 l0_0.length c0_0) ∧ w12.cell? ⟨gb187, 1, none⟩ = some (.slice A0_1 l0_1.length c0_1) ∧ w12.cell? ⟨gb187, 2, none⟩ = some (.slice A0_2 l0_2.length c0_2) ∧ w12.cell? ⟨gb187, 3, none⟩ = some (.int .i64 a0_3) ∧ w12.cell? ⟨gb187, 4, none⟩ = some (.int .i64 a0_4) := hS_
             refine norm_ (a' := ?_) ?_ ?_
             rotate_left
             ·simp only [putAll, Act.put, xi, xj, xk]
              rfl
             refine two_ (i := 3) (j := 4) (Ni := some 6) (Nj := some 7) #[Y,Y,Y,Y,Z,Y,Y,Z,Y,Y,Y,Z,Y,Y,Z,Z] #[Y,Y,Y,Z,Y,Y,Y,Z,Y,Y,Y,Z,Y,Y,Z,Z] rfl rfl rfl rfl (two_of HT_.out (by kernel_rfl)) (by decide) (by decide) (fun K hK => ?_) (fun K hK => ?_)
             ·skip
              refine Kd.R_append_rows_step k51 (w0 := w) w.heap.size (by rfl) (.tmp 3) (.tmp 5) 50 51 (.agg #[(.int .i64 0), (.int .i64 0)]) 16 rfl Try.underlying50 info51 rfl (by decide) (by omega) v190 y189 l0_0 _ _ _ (fun k_ => some k_ ≠ (v202 : Value).ownBlock) (fun _ => False) rfl rfl ?aO ?aR (fun _ _ h => h) (fun _ h => h.elim) ?aF ?aB ?aS ?aL ?_
              (case aR => exact cB (Kd.C_below HR0_0.out HB.out))
              (case aB => exact bG)
              (case aF => exact (fun k_ hk => Kd.fresh' (Kd.R_lt (rB HO203)) k_ hk))
              (case aO => exact (rB HO191))
              (case aS => exact (xz bG))
              (case aL => have := LMc2.out; omega)
              intro v193 w13 ho hb hg hat
              rw [← Ny192.out] at ho
              have n0_ := xm (blk_grown (kB BK187) hg (Kd.R_ne HO191.out BK187.out (by decide)))
              have n1_ := xm (blk_grown (kB BK188) hg (Kd.R_ne HO191.out BK188.out (by decide)))
              have n2_ := xm (Kd.R_after (ok := (fun _ => True)) (by (with_reducible repeat (first | apply Kd.R_alloc | apply Kd.R_drewN | apply Kd.R_drew)); exact Kd.R_mono HO203.out (fun _ hk => ⟨trivial, hk⟩)) hg hat)
              have n3_ := xm (hb)
              have n4_ := xm (ho)
              clear BK187
              clear BK188
              clear HO203
              clear HB
              clear HO191
              have BK187 := n0_
              have BK188 := n1_
              have HO203 := n2_
              have HB := n3_
              have HO194 := n4_
              clear n0_ n1_ n2_ n3_ n4_
              clear ho hb hg hat
              refine hK.out _ _ ⟨(xc BK187.out 0).trans rfl, (xc BK187.out 1).trans rfl, (xc BK187.out 2).trans rfl, (xc BK187.out 3).trans rfl, (xc BK187.out 4).trans rfl⟩ (fun hHeld => ?_)
              clear hK K
              refine norm_ (a' := ?_) ?_ ?_
              rotate_left
              ·show Act.put _ (some 6) _ = _
               simp only [Act.put, xi, xj, xk, i64_w, i32_w]
               rfl
              exact norm_ pB (hJ0_3_8 (v190, v193, v202) _ ⟨hHeld, (rB HO194), (by (with_reducible repeat (first | apply Kd.R_alloc | apply Kd.R_drewN | apply Kd.R_drew)); exact Kd.R_mono HO203.out (fun _ hk => hk.2)), (kB BK187), (kB BK188), bG⟩)
             ·skip
              refine Kd.R_lit_step k51 _ 51 ?hg (N := 7) ?hd (xs := ([] : List (S51))) (inner := []) (ok := fun _ => True) (okp := fun _ => True) ?hr ?hp (fun _ hk => hk) trivial (Below.refl _ _) (Nat.le_refl _) (by simp) ?_; (case hd => rfl); (case hg => rfl); (case hr => exact zB); (case hp => exact (Reps.none _ _))
              intro v196 w13 ho14 hb hg_ hnew_
              clear hg_ hnew_
              (first | rw [← Ny195.out] at ho14 | (simp only [Int.reduceToNat] at ho14; rw [← Ny195.out] at ho14))
              have n0_ := xm (Kd.R_elder' (rB HO191) (Kd.R_base ho14) hb)
              have n1_ := xm (Kd.R_elder' (rB HO203) (Kd.R_base ho14) hb)
              have n2_ := xm (Kd.R_lower (Kd.R_new' (Kd.R_new' ho14 (Kd.R_lt (rB HO191))) (Kd.R_lt (rB HO203))) (xz bG))
              have n3_ := xm (blk_below (kB BK187) hb)
              have n4_ := xm (blk_below (kB BK188) hb)
              have n5_ := xm (below_step bG hb)
              clear HO191
              clear HO203
              clear BK187
              clear BK188
              clear HB
              have HO191 := n0_
              have HO203 := n1_
              have HO197 := n2_
              have BK187 := n3_
              have BK188 := n4_
              have HB := n5_
              clear n0_ n1_ n2_ n3_ n4_ n5_
              clear hb ho14
              refine hK.out _ _ ⟨(xc BK187.out 0).trans rfl, (xc BK187.out 1).trans rfl, (xc BK187.out 2).trans rfl, (xc BK187.out 3).trans rfl, (xc BK187.out 4).trans rfl⟩ (fun hHeld => ?_)
              clear hK K
              refine norm_ (a' := ?_) ?_ ?_
              rotate_left
              ·show Act.put _ (some 7) _ = _
               simp only [Act.put, xi, xj, xk, i64_w, i32_w]
               rfl
              exact norm_ pB (hJ0_4_8 (v190, v196, v202) _ ⟨hHeld, (by (with_reducible repeat (first | apply Kd.R_alloc | apply Kd.R_drewN | apply Kd.R_drew)); exact Kd.R_mono HO191.out (fun _ hk => ⟨hk.2, hk.1⟩)), (by (with_reducible repeat (first | apply Kd.R_alloc | apply Kd.R_drewN | apply Kd.R_drew)); exact Kd.R_mono HO197.out (fun _ hk => ⟨hk.1.2, hk.2⟩)), (rB HO203), (kB BK187), (kB BK188), bG⟩)
           ·skip
            rintro ⟨v190, v196⟩ w12 ⟨hS_, h0_, h1_, h2_, h3_, h4_⟩
            have n0_ : Aside0 (Kd.R k51 51 w12 w.heap.size (fun k_ => some k_ ≠ (v196 : Value).ownBlock) v190 y189) := ⟨h0_⟩
            have n1_ : Aside0 (Kd.R k51 51 w12 w.heap.size (fun k_ => some k_ ≠ (v190 : Value).ownBlock) v196 y195) := ⟨h1_⟩
            have n2_ : Aside0 (w12.heap[gb187]? = some (.cells #[.slice A0_0 l0_0.length c0_0, .slice A0_1 l0_1.length c0_1, .slice A0_2 l0_2.length c0_2, .int .i64 a0_3, .int .i64 a0_4] 53 (0, 0))) := ⟨h2_⟩
            have n3_ : Aside0 (w12.heap[gb188]? = some (.cells #[.slice none 0 0, .slice none 0 0, .slice none 0 0, .int .i64 0, .int .i64 0] 53 (0, 0))) := ⟨h3_⟩
            have n4_ : Aside0 (Below w.heap.size w w12) := ⟨h4_⟩
            clear BK187
            clear BK188
            clear HB
            clear h0_ h1_ h2_ h3_ h4_
            have HO191 := n0_
            have HO197 := n1_
            have BK187 := n2_
            have BK188 := n3_
            have HB := n4_
            clear n0_ n1_ n2_ n3_ n4_
            have hHeld : w12.cell? ⟨gb187, 0, none⟩ = some (.slice A0_0 l0_0.length c0_0) ∧ w12.cell? ⟨gb187, 1, none⟩ = some (.slice A0_1 l0_1.length c0_1) ∧ w12.cell? ⟨gb187, 2, none⟩ = some (.slice A0_2 l0_2.length c0_2) ∧ w12.cell? ⟨gb187, 3, none⟩ = some (.int .i64 a0_3) ∧ w12.cell? ⟨gb187, 4, none⟩ = some (.int .i64 a0_4) := hS_
            refine norm_ (a' := ?_) ?_ ?_
            rotate_left
            ·simp only [putAll, Act.put, xi, xj, xk]
             rfl
            refine two_ (i := 3) (j := 8) (Ni := some 6) (Nj := some 11) #[Y,Y,Y,Y,Y,Y,Y,Z,Z,Y,Y,Z,Y,Y,Z,Z] #[Y,Y,Y,Z,Y,Y,Y,Z,Y,Y,Y,Z,Y,Y,Z,Z] rfl rfl rfl rfl (two_of HT_.out (by kernel_rfl)) (by decide) (by decide) (fun K hK => ?_) (fun K hK => ?_)
            ·skip
             refine Kd.R_append_rows_step k51 (w0 := w) w.heap.size (by rfl) (.tmp 3) (.tmp 5) 50 51 (.agg #[(.int .i64 0), (.int .i64 0)]) 16 rfl Try.underlying50 info51 rfl (by decide) (by omega) v190 y189 l0_0 _ _ _ (fun k_ => some k_ ≠ (v196 : Value).ownBlock) (fun _ => False) rfl rfl ?aO ?aR (fun _ _ h => h) (fun _ h => h.elim) ?aF ?aB ?aS ?aL ?_
             (case aR => exact cB (Kd.C_below HR0_0.out HB.out))
             (case aB => exact bG)
             (case aF => exact (fun k_ hk => Kd.fresh' (Kd.R_lt (rB HO197)) k_ hk))
             (case aO => exact (rB HO191))
             (case aS => exact (xz bG))
             (case aL => have := LMc2.out; omega)
             intro v193 w13 ho hb hg hat
             rw [← Ny192.out] at ho
             have n0_ := xm (blk_grown (kB BK187) hg (Kd.R_ne HO191.out BK187.out (by decide)))
             have n1_ := xm (blk_grown (kB BK188) hg (Kd.R_ne HO191.out BK188.out (by decide)))
             have n2_ := xm (Kd.R_after (ok := (fun _ => True)) (by (with_reducible repeat (first | apply Kd.R_alloc | apply Kd.R_drewN | apply Kd.R_drew)); exact Kd.R_mono HO197.out (fun _ hk => ⟨trivial, hk⟩)) hg hat)
             have n3_ := xm (hb)
             have n4_ := xm (ho)
             clear BK187
             clear BK188
             clear HO197
             clear HB
             clear HO191
             have BK187 := n0_
             have BK188 := n1_
             have HO197 := n2_
             have HB := n3_
             have HO194 := n4_
             clear n0_ n1_ n2_ n3_ n4_
             clear ho hb hg hat
             refine hK.out _ _ ⟨(xc BK187.out 0).trans rfl, (xc BK187.out 1).trans rfl, (xc BK187.out 2).trans rfl, (xc BK187.out 3).trans rfl, (xc BK187.out 4).trans rfl⟩ (fun hHeld => ?_)
             clear hK K
             refine norm_ (a' := ?_) ?_ ?_
             rotate_left
             ·show Act.put _ (some 6) _ = _
              simp only [Act.put, xi, xj, xk, i64_w, i32_w]
              rfl
             exact norm_ pB (hJ0_3_4 (v190, v193, v196) _ ⟨hHeld, (rB HO194), (by (with_reducible repeat (first | apply Kd.R_alloc | apply Kd.R_drewN | apply Kd.R_drew)); exact Kd.R_mono HO197.out (fun _ hk => hk.2)), (kB BK187), (kB BK188), bG⟩)
            ·skip
             refine Kd.R_lit_step k51 _ 51 ?hg (N := 11) ?hd (xs := ([] : List (S51))) (inner := []) (ok := fun _ => True) (okp := fun _ => True) ?hr ?hp (fun _ hk => hk) trivial (Below.refl _ _) (Nat.le_refl _) (by simp) ?_; (case hd => rfl); (case hg => rfl); (case hr => exact zB); (case hp => exact (Reps.none _ _))
             intro v202 w13 ho14 hb hg_ hnew_
             clear hg_ hnew_
             (first | rw [← Ny201.out] at ho14 | (simp only [Int.reduceToNat] at ho14; rw [← Ny201.out] at ho14))
             have n0_ := xm (Kd.R_elder' (rB HO191) (Kd.R_base ho14) hb)
             have n1_ := xm (Kd.R_elder' (rB HO197) (Kd.R_base ho14) hb)
             have n2_ := xm (Kd.R_lower (Kd.R_new' (Kd.R_new' ho14 (Kd.R_lt (rB HO191))) (Kd.R_lt (rB HO197))) (xz bG))
             have n3_ := xm (blk_below (kB BK187) hb)
             have n4_ := xm (blk_below (kB BK188) hb)
             have n5_ := xm (below_step bG hb)
             clear HO191
             clear HO197
             clear BK187
             clear BK188
             clear HB
             have HO191 := n0_
             have HO197 := n1_
             have HO203 := n2_
             have BK187 := n3_
             have BK188 := n4_
             have HB := n5_
             clear n0_ n1_ n2_ n3_ n4_ n5_
             clear hb ho14
             refine hK.out _ _ ⟨(xc BK187.out 0).trans rfl, (xc BK187.out 1).trans rfl, (xc BK187.out 2).trans rfl, (xc BK187.out 3).trans rfl, (xc BK187.out 4).trans rfl⟩ (fun hHeld => ?_)
             clear hK K
             refine norm_ (a' := ?_) ?_ ?_
             rotate_left
             ·show Act.put _ (some 11) _ = _
              simp only [Act.put, xi, xj, xk, i64_w, i32_w]
              rfl
             exact norm_ pB (hJ0_4_8 (v190, v196, v202) _ ⟨hHeld, (rB HO191), (rB HO197), (by (with_reducible repeat (first | apply Kd.R_alloc | apply Kd.R_drewN | apply Kd.R_drew)); exact Kd.R_mono HO203.out (fun _ hk => ⟨hk.1.2, hk.2⟩)), (kB BK187), (kB BK188), bG⟩)
          ·skip
           rintro ⟨v190, v193⟩ w11 ⟨hS_, h0_, h1_, h2_, h3_⟩
           have n0_ : Aside0 (Kd.R k51 51 w11 w.heap.size (fun _ => True) v193 y192) := ⟨h0_⟩
           have n1_ : Aside0 (w11.heap[gb187]? = some (.cells #[.slice A0_0 l0_0.length c0_0, .slice A0_1 l0_1.length c0_1, .slice A0_2 l0_2.length c0_2, .int .i64 a0_3, .int .i64 a0_4] 53 (0, 0))) := ⟨h1_⟩
           have n2_ : Aside0 (w11.heap[gb188]? = some (.cells #[.slice none 0 0, .slice none 0 0, .slice none 0 0, .int .i64 0, .int .i64 0] 53 (0, 0))) := ⟨h2_⟩
           have n3_ : Aside0 (Below w.heap.size w w11) := ⟨h3_⟩
           clear BK187
           clear BK188
           clear HB
           clear h0_ h1_ h2_ h3_
           have HO194 := n0_
           have BK187 := n1_
           have BK188 := n2_
           have HB := n3_
           clear n0_ n1_ n2_ n3_
           have hHeld : w11.cell? ⟨gb187, 0, none⟩ = some (.slice A0_0 l0_0.length c0_0) ∧ w11.cell? ⟨gb187, 1, none⟩ = some (.slice A0_1 l0_1.length c0_1) ∧ w11.cell? ⟨gb187, 2, none⟩ = some (.slice A0_2 l0_2.length c0_2) ∧ w11.cell? ⟨gb187, 3, none⟩ = some (.int .i64 a0_3) ∧ w11.cell? ⟨gb187, 4, none⟩ = some (.int .i64 a0_4) := hS_
           refine norm_ (a' := ?_) ?_ ?_
           rotate_left
           ·simp only [putAll, Act.put, xi, xj, xk]
            rfl
           refine two_ (i := 4) (j := 8) (Ni := some 7) (Nj := some 11) #[Y,Y,Y,Y,Y,Y,Y,Z,Z,Y,Y,Z,Y,Y,Z,Z] #[Y,Y,Y,Y,Z,Y,Y,Z,Y,Y,Y,Z,Y,Y,Z,Z] rfl rfl rfl rfl (two_of HT_.out (by kernel_rfl)) (by decide) (by decide) (fun K hK => ?_) (fun K hK => ?_)
           ·skip
            refine Kd.R_lit_step k51 _ 51 ?hg (N := 7) ?hd (xs := ([] : List (S51))) (inner := []) (ok := fun _ => True) (okp := fun _ => True) ?hr ?hp (fun _ hk => hk) trivial (Below.refl _ _) (Nat.le_refl _) (by simp) ?_; (case hd => rfl); (case hg => rfl); (case hr => exact zB); (case hp => exact (Reps.none _ _))
            intro v196 w12 ho13 hb hg_ hnew_
            clear hg_ hnew_
            (first | rw [← Ny195.out] at ho13 | (simp only [Int.reduceToNat] at ho13; rw [← Ny195.out] at ho13))
            have n0_ := xm (Kd.R_elder' (rB HO194) (Kd.R_base ho13) hb)
            have n1_ := xm (Kd.R_lower (Kd.R_new' ho13 (Kd.R_lt (rB HO194))) (xz bG))
            have n2_ := xm (blk_below (kB BK187) hb)
            have n3_ := xm (blk_below (kB BK188) hb)
            have n4_ := xm (below_step bG hb)
            clear HO194
            clear BK187
            clear BK188
            clear HB
            have HO194 := n0_
            have HO197 := n1_
            have BK187 := n2_
            have BK188 := n3_
            have HB := n4_
            clear n0_ n1_ n2_ n3_ n4_
            clear hb ho13
            refine hK.out _ _ ⟨(xc BK187.out 0).trans rfl, (xc BK187.out 1).trans rfl, (xc BK187.out 2).trans rfl, (xc BK187.out 3).trans rfl, (xc BK187.out 4).trans rfl⟩ (fun hHeld => ?_)
            clear hK K
            refine norm_ (a' := ?_) ?_ ?_
            rotate_left
            ·show Act.put _ (some 7) _ = _
             simp only [Act.put, xi, xj, xk, i64_w, i32_w]
             rfl
            exact norm_ pB (hJ0_3_4 (v190, v193, v196) _ ⟨hHeld, (by (with_reducible repeat (first | apply Kd.R_alloc | apply Kd.R_drewN | apply Kd.R_drew)); exact Kd.R_mono HO194.out (fun _ hk => hk.2)), (by (with_reducible repeat (first | apply Kd.R_alloc | apply Kd.R_drewN | apply Kd.R_drew)); exact Kd.R_mono HO197.out (fun _ hk => hk.2)), (kB BK187), (kB BK188), bG⟩)
           ·skip
            refine Kd.R_lit_step k51 _ 51 ?hg (N := 11) ?hd (xs := ([] : List (S51))) (inner := []) (ok := fun _ => True) (okp := fun _ => True) ?hr ?hp (fun _ hk => hk) trivial (Below.refl _ _) (Nat.le_refl _) (by simp) ?_; (case hd => rfl); (case hg => rfl); (case hr => exact zB); (case hp => exact (Reps.none _ _))
            intro v202 w12 ho13 hb hg_ hnew_
            clear hg_ hnew_
            (first | rw [← Ny201.out] at ho13 | (simp only [Int.reduceToNat] at ho13; rw [← Ny201.out] at ho13))
            have n0_ := xm (Kd.R_elder' (rB HO194) (Kd.R_base ho13) hb)
            have n1_ := xm (Kd.R_lower (Kd.R_new' ho13 (Kd.R_lt (rB HO194))) (xz bG))
            have n2_ := xm (blk_below (kB BK187) hb)
            have n3_ := xm (blk_below (kB BK188) hb)
            have n4_ := xm (below_step bG hb)
            clear HO194
            clear BK187
            clear BK188
            clear HB
            have HO194 := n0_
            have HO203 := n1_
            have BK187 := n2_
            have BK188 := n3_
            have HB := n4_
            clear n0_ n1_ n2_ n3_ n4_
            clear hb ho13
            refine hK.out _ _ ⟨(xc BK187.out 0).trans rfl, (xc BK187.out 1).trans rfl, (xc BK187.out 2).trans rfl, (xc BK187.out 3).trans rfl, (xc BK187.out 4).trans rfl⟩ (fun hHeld => ?_)
            clear hK K
            refine norm_ (a' := ?_) ?_ ?_
            rotate_left
            ·show Act.put _ (some 11) _ = _
             simp only [Act.put, xi, xj, xk, i64_w, i32_w]
             rfl
            exact norm_ pB (hJ0_3_8 (v190, v193, v202) _ ⟨hHeld, (by (with_reducible repeat (first | apply Kd.R_alloc | apply Kd.R_drewN | apply Kd.R_drew)); exact Kd.R_mono HO194.out (fun _ hk => hk.2)), (by (with_reducible repeat (first | apply Kd.R_alloc | apply Kd.R_drewN | apply Kd.R_drew)); exact Kd.R_mono HO203.out (fun _ hk => hk.2)), (kB BK187), (kB BK188), bG⟩)
         ·skip
          rintro ⟨v190, v196, v202⟩ w14 ⟨hS_, h0_, h1_, h2_, h3_, h4_, h5_⟩
          have n0_ : Aside0 (Kd.R k51 51 w14 w.heap.size (fun k_ => some k_ ≠ (v196 : Value).ownBlock ∧ some k_ ≠ (v202 : Value).ownBlock) v190 y189) := ⟨h0_⟩
          have n1_ : Aside0 (Kd.R k51 51 w14 w.heap.size (fun k_ => some k_ ≠ (v190 : Value).ownBlock ∧ some k_ ≠ (v202 : Value).ownBlock) v196 y195) := ⟨h1_⟩
          have n2_ : Aside0 (Kd.R k51 51 w14 w.heap.size (fun k_ => some k_ ≠ (v190 : Value).ownBlock ∧ some k_ ≠ (v196 : Value).ownBlock) v202 y201) := ⟨h2_⟩
          have n3_ : Aside0 (w14.heap[gb187]? = some (.cells #[.slice A0_0 l0_0.length c0_0, .slice A0_1 l0_1.length c0_1, .slice A0_2 l0_2.length c0_2, .int .i64 a0_3, .int .i64 a0_4] 53 (0, 0))) := ⟨h3_⟩
          have n4_ : Aside0 (w14.heap[gb188]? = some (.cells #[.slice none 0 0, .slice none 0 0, .slice none 0 0, .int .i64 0, .int .i64 0] 53 (0, 0))) := ⟨h4_⟩
          have n5_ : Aside0 (Below w.heap.size w w14) := ⟨h5_⟩
          clear BK187
          clear BK188
          clear HB
          clear h0_ h1_ h2_ h3_ h4_ h5_
          have HO191 := n0_
          have HO197 := n1_
          have HO203 := n2_
          have BK187 := n3_
          have BK188 := n4_
          have HB := n5_
          clear n0_ n1_ n2_ n3_ n4_ n5_
          have hHeld : w14.cell? ⟨gb187, 0, none⟩ = some (.slice A0_0 l0_0.length c0_0) ∧ w14.cell? ⟨gb187, 1, none⟩ = some (.slice A0_1 l0_1.length c0_1) ∧ w14.cell? ⟨gb187, 2, none⟩ = some (.slice A0_2 l0_2.length c0_2) ∧ w14.cell? ⟨gb187, 3, none⟩ = some (.int .i64 a0_3) ∧ w14.cell? ⟨gb187, 4, none⟩ = some (.int .i64 a0_4) := hS_
          refine norm_ (a' := ?_) ?_ ?_
          rotate_left
          ·simp only [putAll, Act.put, xi, xj, xk]
           rfl
          refine one_ (i := 3) (N := some 6) #[Y,Y,Y,Y,Y,Y,Y,Z,Y,Y,Y,Z,Y,Y,Z,Z] rfl rfl (one_of HT_.out (by kernel_rfl)) (by decide) (fun K hK => ?_)
          refine Kd.R_append_rows_step k51 (w0 := w) w.heap.size (by rfl) (.tmp 3) (.tmp 5) 50 51 (.agg #[(.int .i64 0), (.int .i64 0)]) 16 rfl Try.underlying50 info51 rfl (by decide) (by omega) v190 y189 l0_0 _ _ _ (fun k_ => some k_ ≠ (v196 : Value).ownBlock ∧ some k_ ≠ (v202 : Value).ownBlock) (fun _ => False) rfl rfl ?aO ?aR (fun _ _ h => h) (fun _ h => h.elim) ?aF ?aB ?aS ?aL ?_
          (case aR => exact cB (Kd.C_below HR0_0.out HB.out))
          (case aB => exact bG)
          (case aF => exact (fun k_ hk => ⟨Kd.fresh' (Kd.R_lt (rB HO197)) k_ hk, Kd.fresh' (Kd.R_lt (rB HO203)) k_ hk⟩))
          (case aO => exact (rB HO191))
          (case aS => exact (xz bG))
          (case aL => have := LMc2.out; omega)
          intro v193 w15 ho hb hg hat
          rw [← Ny192.out] at ho
          have n0_ := xm (blk_grown (kB BK187) hg (Kd.R_ne HO191.out BK187.out (by decide)))
          have n1_ := xm (blk_grown (kB BK188) hg (Kd.R_ne HO191.out BK188.out (by decide)))
          have n2_ := xm (Kd.R_after (ok := (fun k_ => some k_ ≠ (v202 : Value).ownBlock)) (by (with_reducible repeat (first | apply Kd.R_alloc | apply Kd.R_drewN | apply Kd.R_drew)); exact Kd.R_mono HO197.out (fun _ hk => ⟨hk.2, hk.1⟩)) hg hat)
          have n3_ := xm (Kd.R_after (ok := (fun k_ => some k_ ≠ (v196 : Value).ownBlock)) (by (with_reducible repeat (first | apply Kd.R_alloc | apply Kd.R_drewN | apply Kd.R_drew)); exact Kd.R_mono HO203.out (fun _ hk => ⟨hk.2, hk.1⟩)) hg hat)
          have n4_ := xm (hb)
          have n5_ := xm (ho)
          clear BK187
          clear BK188
          clear HO197
          clear HO203
          clear HB
          clear HO191
          have BK187 := n0_
          have BK188 := n1_
          have HO197 := n2_
          have HO203 := n3_
          have HB := n4_
          have HO194 := n5_
          clear n0_ n1_ n2_ n3_ n4_ n5_
          clear ho hb hg hat
          refine hK.out _ _ ⟨(xc BK187.out 0).trans rfl, (xc BK187.out 1).trans rfl, (xc BK187.out 2).trans rfl, (xc BK187.out 3).trans rfl, (xc BK187.out 4).trans rfl⟩ (fun hHeld => ?_)
          clear hK K
          refine norm_ (a' := ?_) ?_ ?_
          rotate_left
          ·show Act.put _ (some 6) _ = _
           simp only [Act.put, xi, xj, xk, i64_w, i32_w]
           rfl
          exact norm_ pB (hJ0_3_4_8 (v190, v193, v196, v202) _ ⟨hHeld, (rB HO194), (by (with_reducible repeat (first | apply Kd.R_alloc | apply Kd.R_drewN | apply Kd.R_drew)); exact Kd.R_mono HO197.out (fun _ hk => ⟨hk.2, hk.1⟩)), (by (with_reducible repeat (first | apply Kd.R_alloc | apply Kd.R_drewN | apply Kd.R_drew)); exact Kd.R_mono HO203.out (fun _ hk => ⟨hk.2, hk.1⟩)), (kB BK187), (kB BK188), bG⟩)
        ·skip
         rintro ⟨v190, v193, v202⟩ w13 ⟨hS_, h0_, h1_, h2_, h3_, h4_⟩
         have n0_ : Aside0 (Kd.R k51 51 w13 w.heap.size (fun k_ => some k_ ≠ (v202 : Value).ownBlock) v193 y192) := ⟨h0_⟩
         have n1_ : Aside0 (Kd.R k51 51 w13 w.heap.size (fun k_ => some k_ ≠ (v193 : Value).ownBlock) v202 y201) := ⟨h1_⟩
         have n2_ : Aside0 (w13.heap[gb187]? = some (.cells #[.slice A0_0 l0_0.length c0_0, .slice A0_1 l0_1.length c0_1, .slice A0_2 l0_2.length c0_2, .int .i64 a0_3, .int .i64 a0_4] 53 (0, 0))) := ⟨h2_⟩
         have n3_ : Aside0 (w13.heap[gb188]? = some (.cells #[.slice none 0 0, .slice none 0 0, .slice none 0 0, .int .i64 0, .int .i64 0] 53 (0, 0))) := ⟨h3_⟩
         have n4_ : Aside0 (Below w.heap.size w w13) := ⟨h4_⟩
         clear BK187
         clear BK188
         clear HB
         clear h0_ h1_ h2_ h3_ h4_
         have HO194 := n0_
         have HO203 := n1_
         have BK187 := n2_
         have BK188 := n3_
         have HB := n4_
         clear n0_ n1_ n2_ n3_ n4_
         have hHeld : w13.cell? ⟨gb187, 0, none⟩ = some (.slice A0_0 l0_0.length c0_0) ∧ w13.cell? ⟨gb187, 1, none⟩ = some (.slice A0_1 l0_1.length c0_1) ∧ w13.cell? ⟨gb187, 2, none⟩ = some (.slice A0_2 l0_2.length c0_2) ∧ w13.cell? ⟨gb187, 3, none⟩ = some (.int .i64 a0_3) ∧ w13.cell? ⟨gb187, 4, none⟩ = some (.int .i64 a0_4) := hS_
         refine norm_ (a' := ?_) ?_ ?_
         rotate_left
         ·simp only [putAll, Act.put, xi, xj, xk]
          rfl
         refine one_ (i := 4) (N := some 7) #[Y,Y,Y,Y,Y,Y,Y,Z,Y,Y,Y,Z,Y,Y,Z,Z] rfl rfl (one_of HT_.out (by kernel_rfl)) (by decide) (fun K hK => ?_)
         refine Kd.R_lit_step k51 _ 51 ?hg (N := 7) ?hd (xs := ([] : List (S51))) (inner := []) (ok := fun _ => True) (okp := fun _ => True) ?hr ?hp (fun _ hk => hk) trivial (Below.refl _ _) (Nat.le_refl _) (by simp) ?_; (case hd => rfl); (case hg => rfl); (case hr => exact zB); (case hp => exact (Reps.none _ _))
         intro v196 w14 ho15 hb hg_ hnew_
         clear hg_ hnew_
         (first | rw [← Ny195.out] at ho15 | (simp only [Int.reduceToNat] at ho15; rw [← Ny195.out] at ho15))
         have n0_ := xm (Kd.R_elder' (rB HO194) (Kd.R_base ho15) hb)
         have n1_ := xm (Kd.R_elder' (rB HO203) (Kd.R_base ho15) hb)
         have n2_ := xm (Kd.R_lower (Kd.R_new' (Kd.R_new' ho15 (Kd.R_lt (rB HO194))) (Kd.R_lt (rB HO203))) (xz bG))
         have n3_ := xm (blk_below (kB BK187) hb)
         have n4_ := xm (blk_below (kB BK188) hb)
         have n5_ := xm (below_step bG hb)
         clear HO194
         clear HO203
         clear BK187
         clear BK188
         clear HB
         have HO194 := n0_
         have HO203 := n1_
         have HO197 := n2_
         have BK187 := n3_
         have BK188 := n4_
         have HB := n5_
         clear n0_ n1_ n2_ n3_ n4_ n5_
         clear hb ho15
         refine hK.out _ _ ⟨(xc BK187.out 0).trans rfl, (xc BK187.out 1).trans rfl, (xc BK187.out 2).trans rfl, (xc BK187.out 3).trans rfl, (xc BK187.out 4).trans rfl⟩ (fun hHeld => ?_)
         clear hK K
         refine norm_ (a' := ?_) ?_ ?_
         rotate_left
         ·show Act.put _ (some 7) _ = _
          simp only [Act.put, xi, xj, xk, i64_w, i32_w]
          rfl
         exact norm_ pB (hJ0_3_4_8 (v190, v193, v196, v202) _ ⟨hHeld, (by (with_reducible repeat (first | apply Kd.R_alloc | apply Kd.R_drewN | apply Kd.R_drew)); exact Kd.R_mono HO194.out (fun _ hk => ⟨hk.2, hk.1⟩)), (by (with_reducible repeat (first | apply Kd.R_alloc | apply Kd.R_drewN | apply Kd.R_drew)); exact Kd.R_mono HO197.out (fun _ hk => ⟨hk.1.2, hk.2⟩)), (rB HO203), (kB BK187), (kB BK188), bG⟩)
       ·skip
        rintro ⟨v190, v193, v196⟩ w13 ⟨hS_, h0_, h1_, h2_, h3_, h4_⟩
        have n0_ : Aside0 (Kd.R k51 51 w13 w.heap.size (fun k_ => some k_ ≠ (v196 : Value).ownBlock) v193 y192) := ⟨h0_⟩
        have n1_ : Aside0 (Kd.R k51 51 w13 w.heap.size (fun k_ => some k_ ≠ (v193 : Value).ownBlock) v196 y195) := ⟨h1_⟩
        have n2_ : Aside0 (w13.heap[gb187]? = some (.cells #[.slice A0_0 l0_0.length c0_0, .slice A0_1 l0_1.length c0_1, .slice A0_2 l0_2.length c0_2, .int .i64 a0_3, .int .i64 a0_4] 53 (0, 0))) := ⟨h2_⟩
        have n3_ : Aside0 (w13.heap[gb188]? = some (.cells #[.slice none 0 0, .slice none 0 0, .slice none 0 0, .int .i64 0, .int .i64 0] 53 (0, 0))) := ⟨h3_⟩
        have n4_ : Aside0 (Below w.heap.size w w13) := ⟨h4_⟩
        clear BK187
        clear BK188
        clear HB
        clear h0_ h1_ h2_ h3_ h4_
        have HO194 := n0_
        have HO197 := n1_
        have BK187 := n2_
        have BK188 := n3_
        have HB := n4_
        clear n0_ n1_ n2_ n3_ n4_
        have hHeld : w13.cell? ⟨gb187, 0, none⟩ = some (.slice A0_0 l0_0.length c0_0) ∧ w13.cell? ⟨gb187, 1, none⟩ = some (.slice A0_1 l0_1.length c0_1) ∧ w13.cell? ⟨gb187, 2, none⟩ = some (.slice A0_2 l0_2.length c0_2) ∧ w13.cell? ⟨gb187, 3, none⟩ = some (.int .i64 a0_3) ∧ w13.cell? ⟨gb187, 4, none⟩ = some (.int .i64 a0_4) := hS_
        refine norm_ (a' := ?_) ?_ ?_
        rotate_left
        ·simp only [putAll, Act.put, xi, xj, xk]
         rfl
        refine two_ (i := 7) (j := 8) (Ni := some 10) (Nj := some 11) #[Y,Y,Y,Y,Y,Y,Y,Y,Z,Y,Y,Z,Y,Y,Z,Z] #[Y,Y,Y,Y,Y,Y,Y,Z,Y,Y,Y,Z,Y,Y,Z,Z] rfl rfl rfl rfl (two_of HT_.out (by kernel_rfl)) (by decide) (by decide) (fun K hK => ?_) (fun K hK => ?_)
        ·skip
         refine Kd.R_append_rows_step k51 (w0 := w) w.heap.size (by rfl) (.tmp 7) (.tmp 9) 50 51 (.agg #[(.int .i64 0), (.int .i64 0)]) 16 rfl Try.underlying50 info51 rfl (by decide) (by omega) v196 y195 l0_1 _ _ _ (fun k_ => some k_ ≠ (v193 : Value).ownBlock) (fun _ => False) rfl rfl ?aO ?aR (fun _ _ h => h) (fun _ h => h.elim) ?aF ?aB ?aS ?aL ?_
         (case aR => exact cB (Kd.C_below HR0_1.out HB.out))
         (case aB => exact bG)
         (case aF => exact (fun k_ hk => Kd.fresh' (Kd.R_lt (rB HO194)) k_ hk))
         (case aO => exact (rB HO197))
         (case aS => exact (xz bG))
         (case aL => have := LMc3.out; omega)
         intro v199 w14 ho hb hg hat
         rw [← Ny198.out] at ho
         have n0_ := xm (blk_grown (kB BK187) hg (Kd.R_ne HO197.out BK187.out (by decide)))
         have n1_ := xm (blk_grown (kB BK188) hg (Kd.R_ne HO197.out BK188.out (by decide)))
         have n2_ := xm (Kd.R_after (ok := (fun _ => True)) (by (with_reducible repeat (first | apply Kd.R_alloc | apply Kd.R_drewN | apply Kd.R_drew)); exact Kd.R_mono HO194.out (fun _ hk => ⟨trivial, hk⟩)) hg hat)
         have n3_ := xm (hb)
         have n4_ := xm (ho)
         clear BK187
         clear BK188
         clear HO194
         clear HB
         clear HO197
         have BK187 := n0_
         have BK188 := n1_
         have HO194 := n2_
         have HB := n3_
         have HO200 := n4_
         clear n0_ n1_ n2_ n3_ n4_
         clear ho hb hg hat
         refine hK.out _ _ ⟨(xc BK187.out 0).trans rfl, (xc BK187.out 1).trans rfl, (xc BK187.out 2).trans rfl, (xc BK187.out 3).trans rfl, (xc BK187.out 4).trans rfl⟩ (fun hHeld => ?_)
         clear hK K
         refine norm_ (a' := ?_) ?_ ?_
         rotate_left
         ·show Act.put _ (some 10) _ = _
          simp only [Act.put, xi, xj, xk, i64_w, i32_w]
          rfl
         exact norm_ pB (hJ0_3_4_7 (v190, v193, v196, v199) _ ⟨hHeld, (by (with_reducible repeat (first | apply Kd.R_alloc | apply Kd.R_drewN | apply Kd.R_drew)); exact Kd.R_mono HO194.out (fun _ hk => hk.2)), (rB HO200), (kB BK187), (kB BK188), bG⟩)
        ·skip
         refine Kd.R_lit_step k51 _ 51 ?hg (N := 11) ?hd (xs := ([] : List (S51))) (inner := []) (ok := fun _ => True) (okp := fun _ => True) ?hr ?hp (fun _ hk => hk) trivial (Below.refl _ _) (Nat.le_refl _) (by simp) ?_; (case hd => rfl); (case hg => rfl); (case hr => exact zB); (case hp => exact (Reps.none _ _))
         intro v202 w14 ho15 hb hg_ hnew_
         clear hg_ hnew_
         (first | rw [← Ny201.out] at ho15 | (simp only [Int.reduceToNat] at ho15; rw [← Ny201.out] at ho15))
         have n0_ := xm (Kd.R_elder' (rB HO194) (Kd.R_base ho15) hb)
         have n1_ := xm (Kd.R_elder' (rB HO197) (Kd.R_base ho15) hb)
         have n2_ := xm (Kd.R_lower (Kd.R_new' (Kd.R_new' ho15 (Kd.R_lt (rB HO194))) (Kd.R_lt (rB HO197))) (xz bG))
         have n3_ := xm (blk_below (kB BK187) hb)
         have n4_ := xm (blk_below (kB BK188) hb)
         have n5_ := xm (below_step bG hb)
         clear HO194
         clear HO197
         clear BK187
         clear BK188
         clear HB
         have HO194 := n0_
         have HO197 := n1_
         have HO203 := n2_
         have BK187 := n3_
         have BK188 := n4_
         have HB := n5_
         clear n0_ n1_ n2_ n3_ n4_ n5_
         clear hb ho15
         refine hK.out _ _ ⟨(xc BK187.out 0).trans rfl, (xc BK187.out 1).trans rfl, (xc BK187.out 2).trans rfl, (xc BK187.out 3).trans rfl, (xc BK187.out 4).trans rfl⟩ (fun hHeld => ?_)
         clear hK K
         refine norm_ (a' := ?_) ?_ ?_
         rotate_left
         ·show Act.put _ (some 11) _ = _
          simp only [Act.put, xi, xj, xk, i64_w, i32_w]
          rfl
         exact norm_ pB (hJ0_3_4_8 (v190, v193, v196, v202) _ ⟨hHeld, (rB HO194), (rB HO197), (by (with_reducible repeat (first | apply Kd.R_alloc | apply Kd.R_drewN | apply Kd.R_drew)); exact Kd.R_mono HO203.out (fun _ hk => ⟨hk.1.2, hk.2⟩)), (kB BK187), (kB BK188), bG⟩)
      ·skip
       rintro ⟨v190, v193, v196, v202⟩ w15 ⟨hS_, h0_, h1_, h2_, h3_, h4_, h5_⟩
       have n0_ : Aside0 (Kd.R k51 51 w15 w.heap.size (fun k_ => some k_ ≠ (v196 : Value).ownBlock ∧ some k_ ≠ (v202 : Value).ownBlock) v193 y192) := ⟨h0_⟩
       have n1_ : Aside0 (Kd.R k51 51 w15 w.heap.size (fun k_ => some k_ ≠ (v193 : Value).ownBlock ∧ some k_ ≠ (v202 : Value).ownBlock) v196 y195) := ⟨h1_⟩
       have n2_ : Aside0 (Kd.R k51 51 w15 w.heap.size (fun k_ => some k_ ≠ (v193 : Value).ownBlock ∧ some k_ ≠ (v196 : Value).ownBlock) v202 y201) := ⟨h2_⟩
       have n3_ : Aside0 (w15.heap[gb187]? = some (.cells #[.slice A0_0 l0_0.length c0_0, .slice A0_1 l0_1.length c0_1, .slice A0_2 l0_2.length c0_2, .int .i64 a0_3, .int .i64 a0_4] 53 (0, 0))) := ⟨h3_⟩
       have n4_ : Aside0 (w15.heap[gb188]? = some (.cells #[.slice none 0 0, .slice none 0 0, .slice none 0 0, .int .i64 0, .int .i64 0] 53 (0, 0))) := ⟨h4_⟩
       have n5_ : Aside0 (Below w.heap.size w w15) := ⟨h5_⟩
       clear BK187
       clear BK188
       clear HB
       clear h0_ h1_ h2_ h3_ h4_ h5_
       have HO194 := n0_
       have HO197 := n1_
       have HO203 := n2_
       have BK187 := n3_
       have BK188 := n4_
       have HB := n5_
       clear n0_ n1_ n2_ n3_ n4_ n5_
       have hHeld : w15.cell? ⟨gb187, 0, none⟩ = some (.slice A0_0 l0_0.length c0_0) ∧ w15.cell? ⟨gb187, 1, none⟩ = some (.slice A0_1 l0_1.length c0_1) ∧ w15.cell? ⟨gb187, 2, none⟩ = some (.slice A0_2 l0_2.length c0_2) ∧ w15.cell? ⟨gb187, 3, none⟩ = some (.int .i64 a0_3) ∧ w15.cell? ⟨gb187, 4, none⟩ = some (.int .i64 a0_4) := hS_
       refine norm_ (a' := ?_) ?_ ?_
       rotate_left
       ·simp only [putAll, Act.put, xi, xj, xk]
        rfl
       refine one_ (i := 7) (N := some 10) #[Y,Y,Y,Y,Y,Y,Y,Y,Y,Y,Y,Z,Y,Y,Z,Z] rfl rfl (one_of HT_.out (by kernel_rfl)) (by decide) (fun K hK => ?_)
       refine Kd.R_append_rows_step k51 (w0 := w) w.heap.size (by rfl) (.tmp 7) (.tmp 9) 50 51 (.agg #[(.int .i64 0), (.int .i64 0)]) 16 rfl Try.underlying50 info51 rfl (by decide) (by omega) v196 y195 l0_1 _ _ _ (fun k_ => some k_ ≠ (v193 : Value).ownBlock ∧ some k_ ≠ (v202 : Value).ownBlock) (fun _ => False) rfl rfl ?aO ?aR (fun _ _ h => h) (fun _ h => h.elim) ?aF ?aB ?aS ?aL ?_
       (case aR => exact cB (Kd.C_below HR0_1.out HB.out))
       (case aB => exact bG)
       (case aF => exact (fun k_ hk => ⟨Kd.fresh' (Kd.R_lt (rB HO194)) k_ hk, Kd.fresh' (Kd.R_lt (rB HO203)) k_ hk⟩))
       (case aO => exact (rB HO197))
       (case aS => exact (xz bG))
       (case aL => have := LMc3.out; omega)
       intro v199 w16 ho hb hg hat
       rw [← Ny198.out] at ho
       have n0_ := xm (blk_grown (kB BK187) hg (Kd.R_ne HO197.out BK187.out (by decide)))
       have n1_ := xm (blk_grown (kB BK188) hg (Kd.R_ne HO197.out BK188.out (by decide)))
       have n2_ := xm (Kd.R_after (ok := (fun k_ => some k_ ≠ (v202 : Value).ownBlock)) (by (with_reducible repeat (first | apply Kd.R_alloc | apply Kd.R_drewN | apply Kd.R_drew)); exact Kd.R_mono HO194.out (fun _ hk => ⟨hk.2, hk.1⟩)) hg hat)
       have n3_ := xm (Kd.R_after (ok := (fun k_ => some k_ ≠ (v193 : Value).ownBlock)) (rB HO203) hg hat)
       have n4_ := xm (hb)
       have n5_ := xm (ho)
       clear BK187
       clear BK188
       clear HO194
       clear HO203
       clear HB
       clear HO197
       have BK187 := n0_
       have BK188 := n1_
       have HO194 := n2_
       have HO203 := n3_
       have HB := n4_
       have HO200 := n5_
       clear n0_ n1_ n2_ n3_ n4_ n5_
       clear ho hb hg hat
       refine hK.out _ _ ⟨(xc BK187.out 0).trans rfl, (xc BK187.out 1).trans rfl, (xc BK187.out 2).trans rfl, (xc BK187.out 3).trans rfl, (xc BK187.out 4).trans rfl⟩ (fun hHeld => ?_)
       clear hK K
       refine norm_ (a' := ?_) ?_ ?_
       rotate_left
       ·show Act.put _ (some 10) _ = _
        simp only [Act.put, xi, xj, xk, i64_w, i32_w]
        rfl
       exact norm_ pB (hJ0_3_4_7_8 (v190, v193, v196, v199, v202) _ ⟨hHeld, (by (with_reducible repeat (first | apply Kd.R_alloc | apply Kd.R_drewN | apply Kd.R_drew)); exact Kd.R_mono HO194.out (fun _ hk => ⟨hk.2, hk.1⟩)), (rB HO200), (rB HO203), (kB BK187), (kB BK188), bG⟩)
     ·skip
      rintro ⟨v190, v193, v196, v199⟩ w14 ⟨hS_, h0_, h1_, h2_, h3_, h4_⟩
      have n0_ : Aside0 (Kd.R k51 51 w14 w.heap.size (fun k_ => some k_ ≠ (v199 : Value).ownBlock) v193 y192) := ⟨h0_⟩
      have n1_ : Aside0 (Kd.R k51 51 w14 w.heap.size (fun k_ => some k_ ≠ (v193 : Value).ownBlock) v199 y198) := ⟨h1_⟩
      have n2_ : Aside0 (w14.heap[gb187]? = some (.cells #[.slice A0_0 l0_0.length c0_0, .slice A0_1 l0_1.length c0_1, .slice A0_2 l0_2.length c0_2, .int .i64 a0_3, .int .i64 a0_4] 53 (0, 0))) := ⟨h2_⟩
      have n3_ : Aside0 (w14.heap[gb188]? = some (.cells #[.slice none 0 0, .slice none 0 0, .slice none 0 0, .int .i64 0, .int .i64 0] 53 (0, 0))) := ⟨h3_⟩
      have n4_ : Aside0 (Below w.heap.size w w14) := ⟨h4_⟩
      clear BK187
      clear BK188
      clear HB
      clear h0_ h1_ h2_ h3_ h4_
      have HO194 := n0_
      have HO200 := n1_
      have BK187 := n2_
      have BK188 := n3_
      have HB := n4_
      clear n0_ n1_ n2_ n3_ n4_
      have hHeld : w14.cell? ⟨gb187, 0, none⟩ = some (.slice A0_0 l0_0.length c0_0) ∧ w14.cell? ⟨gb187, 1, none⟩ = some (.slice A0_1 l0_1.length c0_1) ∧ w14.cell? ⟨gb187, 2, none⟩ = some (.slice A0_2 l0_2.length c0_2) ∧ w14.cell? ⟨gb187, 3, none⟩ = some (.int .i64 a0_3) ∧ w14.cell? ⟨gb187, 4, none⟩ = some (.int .i64 a0_4) := hS_
      refine norm_ (a' := ?_) ?_ ?_
      rotate_left
      ·simp only [putAll, Act.put, xi, xj, xk]
       rfl
      refine one_ (i := 8) (N := some 11) #[Y,Y,Y,Y,Y,Y,Y,Y,Y,Y,Y,Z,Y,Y,Z,Z] rfl rfl (one_of HT_.out (by kernel_rfl)) (by decide) (fun K hK => ?_)
      refine Kd.R_lit_step k51 _ 51 ?hg (N := 11) ?hd (xs := ([] : List (S51))) (inner := []) (ok := fun _ => True) (okp := fun _ => True) ?hr ?hp (fun _ hk => hk) trivial (Below.refl _ _) (Nat.le_refl _) (by simp) ?_; (case hd => rfl); (case hg => rfl); (case hr => exact zB); (case hp => exact (Reps.none _ _))
      intro v202 w15 ho16 hb hg_ hnew_
      clear hg_ hnew_
      (first | rw [← Ny201.out] at ho16 | (simp only [Int.reduceToNat] at ho16; rw [← Ny201.out] at ho16))
      have n0_ := xm (Kd.R_elder' (rB HO194) (Kd.R_base ho16) hb)
      have n1_ := xm (Kd.R_elder' (rB HO200) (Kd.R_base ho16) hb)
      have n2_ := xm (Kd.R_lower (Kd.R_new' (Kd.R_new' ho16 (Kd.R_lt (rB HO194))) (Kd.R_lt (rB HO200))) (xz bG))
      have n3_ := xm (blk_below (kB BK187) hb)
      have n4_ := xm (blk_below (kB BK188) hb)
      have n5_ := xm (below_step bG hb)
      clear HO194
      clear HO200
      clear BK187
      clear BK188
      clear HB
      have HO194 := n0_
      have HO200 := n1_
      have HO203 := n2_
      have BK187 := n3_
      have BK188 := n4_
      have HB := n5_
      clear n0_ n1_ n2_ n3_ n4_ n5_
      clear hb ho16
      refine hK.out _ _ ⟨(xc BK187.out 0).trans rfl, (xc BK187.out 1).trans rfl, (xc BK187.out 2).trans rfl, (xc BK187.out 3).trans rfl, (xc BK187.out 4).trans rfl⟩ (fun hHeld => ?_)
      clear hK K
      refine norm_ (a' := ?_) ?_ ?_
      rotate_left
      ·show Act.put _ (some 11) _ = _
       simp only [Act.put, xi, xj, xk, i64_w, i32_w]
       rfl
      exact norm_ pB (hJ0_3_4_7_8 (v190, v193, v196, v199, v202) _ ⟨hHeld, (rB HO194), (rB HO200), (by (with_reducible repeat (first | apply Kd.R_alloc | apply Kd.R_drewN | apply Kd.R_drew)); exact Kd.R_mono HO203.out (fun _ hk => ⟨hk.1.2, hk.2⟩)), (kB BK187), (kB BK188), bG⟩)
    rintro ⟨v190, v193, v196, v199, v202⟩ w16 ⟨hS_, h0_, h1_, h2_, h3_, h4_, h5_⟩
    have n0_ : Aside0 (Kd.R k51 51 w16 w.heap.size (fun k_ => some k_ ≠ (v199 : Value).ownBlock ∧ some k_ ≠ (v202 : Value).ownBlock) v193 y192) := ⟨h0_⟩
    have n1_ : Aside0 (Kd.R k51 51 w16 w.heap.size (fun k_ => some k_ ≠ (v193 : Value).ownBlock ∧ some k_ ≠ (v202 : Value).ownBlock) v199 y198) := ⟨h1_⟩
    have n2_ : Aside0 (Kd.R k51 51 w16 w.heap.size (fun k_ => some k_ ≠ (v193 : Value).ownBlock ∧ some k_ ≠ (v199 : Value).ownBlock) v202 y201) := ⟨h2_⟩
    have n3_ : Aside0 (w16.heap[gb187]? = some (.cells #[.slice A0_0 l0_0.length c0_0, .slice A0_1 l0_1.length c0_1, .slice A0_2 l0_2.length c0_2, .int .i64 a0_3, .int .i64 a0_4] 53 (0, 0))) := ⟨h3_⟩
    have n4_ : Aside0 (w16.heap[gb188]? = some (.cells #[.slice none 0 0, .slice none 0 0, .slice none 0 0, .int .i64 0, .int .i64 0] 53 (0, 0))) := ⟨h4_⟩
    have n5_ : Aside0 (Below w.heap.size w w16) := ⟨h5_⟩
    clear BK187
    clear BK188
    clear HB
    clear h0_ h1_ h2_ h3_ h4_ h5_
    have HO194 := n0_
    have HO200 := n1_
    have HO203 := n2_
    have BK187 := n3_
    have BK188 := n4_
    have HB := n5_
    clear n0_ n1_ n2_ n3_ n4_ n5_
    have hHeld : w16.cell? ⟨gb187, 0, none⟩ = some (.slice A0_0 l0_0.length c0_0) ∧ w16.cell? ⟨gb187, 1, none⟩ = some (.slice A0_1 l0_1.length c0_1) ∧ w16.cell? ⟨gb187, 2, none⟩ = some (.slice A0_2 l0_2.length c0_2) ∧ w16.cell? ⟨gb187, 3, none⟩ = some (.int .i64 a0_3) ∧ w16.cell? ⟨gb187, 4, none⟩ = some (.int .i64 a0_4) := hS_
    refine norm_ (a' := ?_) ?_ ?_
    rotate_left
    ·simp only [putAll, Act.put, xi, xj, xk]
     rfl
    refine one_ (i := 11) (N := some 14) #[Y,Y,Y,Y,Y,Y,Y,Y,Y,Y,Y,Y,Y,Y,Z,Z] rfl rfl (one_of HT_.out (by kernel_rfl)) (by decide) (fun K hK => ?_)
    refine Kd.R_append_rows_step k51 (w0 := w) w.heap.size (by rfl) (.tmp 11) (.tmp 13) 50 51 (.agg #[(.int .i64 0), (.int .i64 0)]) 16 rfl Try.underlying50 info51 rfl (by decide) (by omega) v202 y201 l0_2 _ _ _ (fun k_ => some k_ ≠ (v193 : Value).ownBlock ∧ some k_ ≠ (v199 : Value).ownBlock) (fun _ => False) rfl rfl ?aO ?aR (fun _ _ h => h) (fun _ h => h.elim) ?aF ?aB ?aS ?aL ?_
    (case aR => exact cB (Kd.C_below HR0_2.out HB.out))
    (case aB => exact bG)
    (case aF => exact (fun k_ hk => ⟨Kd.fresh' (Kd.R_lt (rB HO194)) k_ hk, Kd.fresh' (Kd.R_lt (rB HO200)) k_ hk⟩))
    (case aO => exact (rB HO203))
    (case aS => exact (xz bG))
    (case aL => have := LMc4.out; omega)
    intro v205 w17 ho hb hg hat
    rw [← Ny204.out] at ho
    have n0_ := xm (blk_grown (kB BK187) hg (Kd.R_ne HO203.out BK187.out (by decide)))
    have n1_ := xm (blk_grown (kB BK188) hg (Kd.R_ne HO203.out BK188.out (by decide)))
    have n2_ := xm (Kd.R_after (ok := (fun k_ => some k_ ≠ (v199 : Value).ownBlock)) (rB HO194) hg hat)
    have n3_ := xm (Kd.R_after (ok := (fun k_ => some k_ ≠ (v193 : Value).ownBlock)) (rB HO200) hg hat)
    have n4_ := xm (hb)
    have n5_ := xm (ho)
    clear BK187
    clear BK188
    clear HO194
    clear HO200
    clear HB
    clear HO203
    have BK187 := n0_
    have BK188 := n1_
    have HO194 := n2_
    have HO200 := n3_
    have HB := n4_
    have HO206 := n5_
    clear n0_ n1_ n2_ n3_ n4_ n5_
    clear ho hb hg hat
    obtain ⟨Ao18, co18, eo18⟩ := Kd.R_slice HO206.out
    (first | subst eo18 | (injection eo18 with f1_ f2_ f3_; have f4_ := f1_.symm; have f5_ := f3_.symm; clear f1_ f2_ f3_; subst f4_; subst f5_))
    obtain ⟨Ao19, co19, eo19⟩ := Kd.R_slice HO200.out
    (first | subst eo19 | (injection eo19 with f1_ f2_ f3_; have f4_ := f1_.symm; have f5_ := f3_.symm; clear f1_ f2_ f3_; subst f4_; subst f5_))
    obtain ⟨Ao20, co20, eo20⟩ := Kd.R_slice HO194.out
    (first | subst eo20 | (injection eo20 with f1_ f2_ f3_; have f4_ := f1_.symm; have f5_ := f3_.symm; clear f1_ f2_ f3_; subst f4_; subst f5_))
    refine hK.out _ _ ⟨(xc BK187.out 0).trans rfl, (xc BK187.out 1).trans rfl, (xc BK187.out 2).trans rfl, (xc BK187.out 3).trans rfl, (xc BK187.out 4).trans rfl⟩ (fun hHeld => ?_)
    clear hK K
    refine norm_ (a' := ?_) ?_ ?_
    rotate_left
    ·show Act.put _ (some 14) _ = _
     simp only [Act.put, xi, xj, xk, i64_w, i32_w]
     rfl
    refine px 14 16 32767 (any_of HT_.out (by kernel_rfl)) ?_
    refine one_ (i := 15) (N := none) #[Y,Y,Y,Y,Y,Y,Y,Y,Y,Y,Y,Y,Y,Y,Y,Y] rfl rfl (one_of HT_.out (by kernel_rfl)) (by decide) (fun K hK => ?_)
    have hs21 : w17.cell? ⟨gb188, 0, none⟩ = some (.slice none 0 0) := (xc BK188.out 0).trans rfl
    have hfs21 := xf BK188.out 0
    have hns21_0 := NB187_188.out
    have hms21_0 := NB188_187.out
    have hs22 : w17.cell? ⟨gb188, 1, none⟩ = some (.slice none 0 0) := (xc BK188.out 1).trans rfl
    have hfs22 := xf BK188.out 1
    have hns22_0 := NB187_188.out
    have hms22_0 := NB188_187.out
    have hs23 : w17.cell? ⟨gb188, 2, none⟩ = some (.slice none 0 0) := (xc BK188.out 2).trans rfl
    have hfs23 := xf BK188.out 2
    have hns23_0 := NB187_188.out
    have hms23_0 := NB188_187.out
    have hs24 : w17.cell? ⟨gb188, 3, none⟩ = some (.int .i64 0) := (xc BK188.out 3).trans rfl
    have hfs24 := xf BK188.out 3
    have hns24_0 := NB187_188.out
    have hms24_0 := NB188_187.out
    have hs25 : w17.cell? ⟨gb188, 4, none⟩ = some (.int .i64 0) := (xc BK188.out 4).trans rfl
    have hfs25 := xf BK188.out 4
    have hns25_0 := NB187_188.out
    have hms25_0 := NB188_187.out
    refine skip_ (w1 := ?_) (by rfl) rfl ?_ ?_
    rotate_left
    ·go_simp
     rfl
    refine hK.out _ _ ⟨((cell_far (p := ⟨gb188, _, none⟩) NB187_188.out _).trans (((cell_far (p := ⟨gb188, _, none⟩) NB187_188.out _).trans (((cell_far (p := ⟨gb188, _, none⟩) NB187_188.out _).trans (((cell_far (p := ⟨gb188, _, none⟩) NB187_188.out _).trans (((cell_far (p := ⟨gb188, _, none⟩) NB187_188.out _).trans (hHeld.1)))))))))), ((cell_far (p := ⟨gb188, _, none⟩) NB187_188.out _).trans (((cell_far (p := ⟨gb188, _, none⟩) NB187_188.out _).trans (((cell_far (p := ⟨gb188, _, none⟩) NB187_188.out _).trans (((cell_far (p := ⟨gb188, _, none⟩) NB187_188.out _).trans (((cell_far (p := ⟨gb188, _, none⟩) NB187_188.out _).trans (hHeld.2.1)))))))))), ((cell_far (p := ⟨gb188, _, none⟩) NB187_188.out _).trans (((cell_far (p := ⟨gb188, _, none⟩) NB187_188.out _).trans (((cell_far (p := ⟨gb188, _, none⟩) NB187_188.out _).trans (((cell_far (p := ⟨gb188, _, none⟩) NB187_188.out _).trans (((cell_far (p := ⟨gb188, _, none⟩) NB187_188.out _).trans (hHeld.2.2.1)))))))))), ((cell_far (p := ⟨gb188, _, none⟩) NB187_188.out _).trans (((cell_far (p := ⟨gb188, _, none⟩) NB187_188.out _).trans (((cell_far (p := ⟨gb188, _, none⟩) NB187_188.out _).trans (((cell_far (p := ⟨gb188, _, none⟩) NB187_188.out _).trans (((cell_far (p := ⟨gb188, _, none⟩) NB187_188.out _).trans (hHeld.2.2.2.1)))))))))), ((cell_far (p := ⟨gb188, _, none⟩) NB187_188.out _).trans (((cell_far (p := ⟨gb188, _, none⟩) NB187_188.out _).trans (((cell_far (p := ⟨gb188, _, none⟩) NB187_188.out _).trans (((cell_far (p := ⟨gb188, _, none⟩) NB187_188.out _).trans (((cell_far (p := ⟨gb188, _, none⟩) NB187_188.out _).trans (hHeld.2.2.2.2))))))))))⟩ (fun hHeld => ?_)
    clear hK K
    refine done_ (done_of HT_.out (by kernel_rfl)) ?_
    try go_wp2
    refine bodyPost_ret (results_cell_row rfl _ _ gb188 53 #[.slice Ao20 y192.length co20, .slice Ao19 y198.length co19, .slice Ao18 y204.length co18, .int .i64 a0_3, .int .i64 a0_4] (0, 0) _ rfl (by (with_reducible repeat (first | refine xq ?_ _ | refine xr ?_ | refine xo ?_ _)); refine blk_put (cs := #[.slice Ao20 y192.length co20, .slice Ao19 y198.length co19, .slice Ao18 y204.length co18, .int .i64 a0_3, .int .i64 0]) ?_ 4 _ rfl; (with_reducible repeat (first | refine xq ?_ _ | refine xr ?_ | refine xo ?_ _)); refine blk_put (cs := #[.slice Ao20 y192.length co20, .slice Ao19 y198.length co19, .slice Ao18 y204.length co18, .int .i64 0, .int .i64 0]) ?_ 3 _ rfl; (with_reducible repeat (first | refine xq ?_ _ | refine xr ?_ | refine xo ?_ _)); refine blk_put (cs := #[.slice Ao20 y192.length co20, .slice Ao19 y198.length co19, .slice none 0 0, .int .i64 0, .int .i64 0]) ?_ 2 _ rfl; (with_reducible repeat (first | refine xq ?_ _ | refine xr ?_ | refine xo ?_ _)); refine blk_put (cs := #[.slice Ao20 y192.length co20, .slice none 0 0, .slice none 0 0, .int .i64 0, .int .i64 0]) ?_ 1 _ rfl; (with_reducible repeat (first | refine xq ?_ _ | refine xr ?_ | refine xo ?_ _)); refine blk_put (cs := #[.slice none 0 0, .slice none 0 0, .slice none 0 0, .int .i64 0, .int .i64 0]) ?_ 0 _ rfl; (with_reducible repeat (first | refine xq ?_ _ | refine xr ?_ | refine xo ?_ _)); exact BK188.out) Try.underlying53 rfl (by kernel_rfl)) rfl ?_
    exact ⟨_, _, _, by first | rfl | (simp [errW_none, errW_some] <;> rfl) | (simp [*, errW_none, errW_some] <;> rfl), by (with_reducible repeat (first | apply Kd.R_alloc | apply Kd.R_drewN | apply Kd.R_drew)); exact Kd.R_mono (Kd.R_far (p := ⟨gb188, 4, none⟩) (Kd.R_far (p := ⟨gb188, 3, none⟩) (Kd.R_far (p := ⟨gb188, 2, none⟩) (Kd.R_far (p := ⟨gb188, 1, none⟩) (Kd.R_far (p := ⟨gb188, 0, none⟩) (Kd.R_types HO194.out BK188.out (by decide)) (fun _ hk => hk.2) (.slice Ao20 y192.length co20)) (fun _ hk => hk.2) (.slice Ao19 y198.length co19)) (fun _ hk => hk.2) (.slice Ao18 y204.length co18)) (fun _ hk => hk.2) (.int .i64 a0_3)) (fun _ hk => hk.2) (.int .i64 a0_4)) (fun _ hk => ⟨hk.1.1, hk.1.2⟩), by (with_reducible repeat (first | apply Kd.R_alloc | apply Kd.R_drewN | apply Kd.R_drew)); exact Kd.R_mono (Kd.R_far (p := ⟨gb188, 4, none⟩) (Kd.R_far (p := ⟨gb188, 3, none⟩) (Kd.R_far (p := ⟨gb188, 2, none⟩) (Kd.R_far (p := ⟨gb188, 1, none⟩) (Kd.R_far (p := ⟨gb188, 0, none⟩) (Kd.R_types HO200.out BK188.out (by decide)) (fun _ hk => hk.2) (.slice Ao20 y192.length co20)) (fun _ hk => hk.2) (.slice Ao19 y198.length co19)) (fun _ hk => hk.2) (.slice Ao18 y204.length co18)) (fun _ hk => hk.2) (.int .i64 a0_3)) (fun _ hk => hk.2) (.int .i64 a0_4)) (fun _ hk => ⟨hk.1.1, hk.1.2⟩), by (with_reducible repeat (first | apply Kd.R_alloc | apply Kd.R_drewN | apply Kd.R_drew)); exact Kd.R_mono (Kd.R_far (p := ⟨gb188, 4, none⟩) (Kd.R_far (p := ⟨gb188, 3, none⟩) (Kd.R_far (p := ⟨gb188, 2, none⟩) (Kd.R_far (p := ⟨gb188, 1, none⟩) (Kd.R_far (p := ⟨gb188, 0, none⟩) (Kd.R_types HO206.out BK188.out (by decide)) (fun _ hk => hk.2) (.slice Ao20 y192.length co20)) (fun _ hk => hk.2) (.slice Ao19 y198.length co19)) (fun _ hk => hk.2) (.slice Ao18 y204.length co18)) (fun _ hk => hk.2) (.int .i64 a0_3)) (fun _ hk => hk.2) (.int .i64 a0_4)) (fun _ hk => ⟨hk.1.1, hk.1.2⟩), by repeat (first | (with_reducible first | exact HB.out | apply xa | apply xn | apply xd | refine xt ?_ GE187.out | refine xt ?_ GE188.out) | exact HB.out)⟩
   ·rw [if_neg c4] at H
    exact absurd H (by simp)
  ·rw [if_neg c3] at H
   exact absurd H (by simp)
 ·rw [if_neg c2] at H
  exact absurd H (by simp)

end Go.Proofs.Ytpbpglbldgpckaa.G
