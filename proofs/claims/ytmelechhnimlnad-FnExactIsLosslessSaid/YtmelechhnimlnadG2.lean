/- Written by a program of this claim's own, out of the translation: functions of the program as plain functions, and that the calls answer as these. No conditions. -/
import Derived.Test.YtmelechhnimlnadG0
import Derived.Test.YtmelechhnimlnadG1
namespace Go.Proofs.Ytmelechhnimlnad.G
open Go.RowKit Go.Proofs.Ytmelechhnimlnad.X Go.Proofs.YtmelechhnimlnadW.PrintWords Go.Proofs.YtmelechhnimlnadW.PrintLast Go.Proofs.YtmelechhnimlnadW.PrintMore
attribute [local go_sem] max2_int min2_int max_two min_two max_three min_three max_four min_four   -- for this text's walks alone
set_option linter.unusedVariables false
set_option linter.unusedSimpArgs false

/-! ### spec_l7Put: function 31 -/
def spec_l7Put.l0 : Nat → List Int → Int → Int → Option (List Int)
 | 0, _, _, _ => none
 | k + 1, x0, x1, x5 => if x5 < (x0.length : Int) then (if 0 ≤ x5 then (if (rd x0 x5) < x1 then (spec_l7Put.l0 k x0 x1 (wrap64 (x5 + 1))) else (if x5 ≤ (x0.length : Int) then ((some (x0.take (x5 : Int).toNat : List Int)).bind fun y113 => (if ([] : List Int).length + y113.length < 17592186044416 then ((some (([] : List Int) ++ y113 : List Int)).bind fun y117 => (if y117.length < 17592186044416 then ((some (y117 ++ [x1] : List Int)).bind fun y120 => ((some (x0.drop (x5 : Int).toNat : List Int)).bind fun y123 => (if y120.length + y123.length < 17592186044416 then (some (y120 ++ y123)) else (none)))) else (none))) else (none))) else (none))) else (none)) else (if 0 ≤ x5 then (if x5 ≤ (x0.length : Int) then ((some (x0.take (x5 : Int).toNat : List Int)).bind fun y130 => (if ([] : List Int).length + y130.length < 17592186044416 then ((some (([] : List Int) ++ y130 : List Int)).bind fun y134 => (if y134.length < 17592186044416 then ((some (y134 ++ [x1] : List Int)).bind fun y137 => ((some (x0.drop (x5 : Int).toNat : List Int)).bind fun y140 => (if y137.length + y140.length < 17592186044416 then (some (y137 ++ y140)) else (none)))) else (none))) else (none))) else (none)) else (none))
def spec_l7Put.f (k : Nat) (l0 : List Int) (a1 : Int) : Option (List Int) := (spec_l1Has.f k l0 a1).bind fun t111 => (if t111 = true then (some l0) else (spec_l7Put.l0 k l0 a1 0))
theorem spec_l7Put.mono_l : ∀ k, (∀ y0 y1 y2, LeO (spec_l7Put.l0 k y0 y1 y2) (spec_l7Put.l0 (k + 1) y0 y1 y2))
 | 0 => fun _ _ _ r h => by simp [spec_l7Put.l0] at h
 | k + 1 => by
  have ih0 := spec_l7Put.mono_l k
  ·intro y0 y1 y2
   unfold spec_l7Put.l0
   repeat' first
   | (with_reducible exact ih0 _ _ _)
   | (with_reducible exact spec_l1Has.mono _ _ _)
   | (with_reducible exact LeO.refl _)
   | (with_reducible exact LeO.none _)
   | (with_reducible refine LeO.ite ?_ ?_)
   | (with_reducible refine LeO.bind ?_ (fun _ => ?_))
   | exact ih0 _ _ _
   | exact spec_l1Has.mono _ _ _
   | exact LeO.none _
   | refine LeO.ite ?_ ?_
   | refine LeO.bind ?_ (fun _ => ?_)
theorem spec_l7Put.mono : ∀ a0 a1 k, LeO (spec_l7Put.f k a0 a1) (spec_l7Put.f (k + 1) a0 a1) := by
 intro a0 a1 k
 have ih0 := spec_l7Put.mono_l k
 unfold spec_l7Put.f
 repeat' first
   | (with_reducible exact ih0 _ _ _)
   | (with_reducible exact spec_l1Has.mono _ _ _)
   | (with_reducible exact LeO.refl _)
   | (with_reducible exact LeO.none _)
   | (with_reducible refine LeO.ite ?_ ?_)
   | (with_reducible refine LeO.bind ?_ (fun _ => ?_))
   | exact ih0 _ _ _
   | exact spec_l1Has.mono _ _ _
   | exact LeO.none _
   | refine LeO.ite ?_ ?_
   | refine LeO.bind ?_ (fun _ => ?_)
set_option maxHeartbeats 8000000 in
set_option maxRecDepth 100000 in
theorem spec_l7Put.calls (k : Nat) (P0_ : Nat → Prop) (u9000_ : Value) (l0 : List Int) (a1 : Int) (r : List Int) (w0 w : World) (hB : Below w0.heap.size w0 w) (ho0 : Kd.R (Kd.int .i64) 3 w w0.heap.size P0_ u9000_ l0) (h : spec_l7Put.f k l0 a1 = some r) :
  Calls Try.prog 31 #[u9000_, .int .i64 a1] w fun e w' => ∃ v0_ : Value, e = .returned (v0_) ∧ Kd.R (Kd.int .i64) 3 w' w0.heap.size (fun k_ => (P0_ k_ ∨ w.heap.size ≤ k_)) v0_ r ∧ Below w0.heap.size w0 w' ∧ Kept w w' (fun k_ => P0_ k_) := by
 have HO0 := xm (show Kd.R (Kd.int .i64) 3 w w0.heap.size (fun k_ => (P0_ k_ ∨ w.heap.size ≤ k_)) u9000_ l0 from Kd.R_mono ho0 (fun k_ hk => (.inl hk)))
 have HK := xm (Kept.refl w (fun k_ => P0_ k_))
 have HW0 := xm hB.size
 have HB := xm hB
 clear hB
 have H : ((spec_l1Has.f k l0 a1).bind fun t111 => (if t111 = true then (some l0) else (spec_l7Put.l0 k l0 a1 0))) = some r := h
 clear h
 replace H := Option.bind_eq_some_iff.mp H
 obtain ⟨t111, A30, H⟩ := H
 replace H : (if t111 = true then (some l0) else (spec_l7Put.l0 k l0 a1 0)) = some r := H
 have A3 := xm A30
 clear A30
 by_cases c4 : t111 = true
 ·subst c4
  have H1 : (some l0) = some r := by first | (with_reducible rfl) | (rw [if_pos rfl] at H; exact H)
  clear H
  have H := H1
  clear H1
  obtain rfl := Option.some.inj H
  obtain ⟨Ao5, co5, eo5⟩ := Kd.R_slice HO0.out
  subst eo5
  go_enter Try.func31, Try.ntmps31
  go_wp2_with (first | ((with_reducible refine gate_callee (f := 35) rfl ?_); refine goesL_ (some 9) rfl rfl Try.func35 (by kernel_rfl) rfl #[.slice Ao5 l0.length co5, .int .i64 a1] rfl mB ?_; (with_reducible refine (spec_l1Has.calls k _ _ l0 a1 true _ ?side1 ?side2 A3.out).mono ?_); (case side1 => repeat (first | exact (Kd.R_reads' HO0.out).2.2 | (with_reducible refine Kd.C_alloc ?_ _) | (with_reducible refine Kd.C_drewN ?_ _) | (with_reducible refine Kd.C_drew ?_))); (case side2 => exact (Kd.R_reads' HO0.out).2.1); rintro e w' ⟨rfl, ⟨nd, rfl⟩⟩; refine ⟨_, rfl, ?_⟩))
  go_ret
  exact ⟨_, eB, rB HO0, bG, by repeat (first | (with_reducible first | exact HK.out | apply Kept.alloc | apply Kept.drewN | apply Kept.drew) | exact HK.out)⟩
 ·replace c4 := Bool.eq_false_iff.mpr c4
  subst c4
  have H1 : (spec_l7Put.l0 k l0 a1 0) = some r := by first | (with_reducible rfl) | (rw [if_neg (show ¬ (false = true) by decide)] at H; exact H)
  clear H
  have H := H1
  clear H1
  have H' := xm H
  clear H
  obtain ⟨Ao6, co6, eo6⟩ := Kd.R_slice HO0.out
  subst eo6
  go_enter Try.func31, Try.ntmps31
  go_wp2_with (first | ((with_reducible refine gate_callee (f := 35) rfl ?_); refine goesL_ (some 9) rfl rfl Try.func35 (by kernel_rfl) rfl #[.slice Ao6 l0.length co6, .int .i64 a1] rfl mB ?_; (with_reducible refine (spec_l1Has.calls k _ _ l0 a1 false _ ?side1 ?side2 A3.out).mono ?_); (case side1 => repeat (first | exact (Kd.R_reads' HO0.out).2.2 | (with_reducible refine Kd.C_alloc ?_ _) | (with_reducible refine Kd.C_drewN ?_ _) | (with_reducible refine Kd.C_drew ?_))); (case side2 => exact (Kd.R_reads' HO0.out).2.1); rintro e w' ⟨rfl, ⟨nd, rfl⟩⟩; refine ⟨_, rfl, ?_⟩))
  go_loopg [5] k (fun kq v5 w' => ∃ (x5_1 : Int), v5 = .int .i64 x5_1 ∧ Aside0 (spec_l7Put.l0 kq l0 a1 x5_1 = some r) ∧ Aside0 (kq ≤ k) ∧ Aside0 (Kd.R (Kd.int .i64) 3 w' w0.heap.size (fun k_ => (P0_ k_ ∨ w.heap.size ≤ k_)) (.slice Ao6 l0.length co6) l0) ∧ Aside0 (Kept w w' (fun k_ => P0_ k_)) ∧ Aside0 (Below w0.heap.size w0 w'))
  case atStart => exact ⟨(0), sB, H', ⟨Nat.le_refl _⟩, ⟨rB HO0⟩, ⟨by repeat (first | (with_reducible first | exact HK.out | apply Kept.alloc | apply Kept.drewN | apply Kept.drew) | exact HK.out)⟩, ⟨bG⟩⟩
  case round =>
   clear H'
   try clear p2
   try clear c3
   try clear c4
   obtain ⟨x5_1, rfl, HA, HK1, HO_0, HK, HB⟩ := hrel
   cases gk with
   | zero => exact absurd HA.out (by simp [spec_l7Put.l0])
   | succ k1 =>
    have H := HA.out
    clear HA
    simp only [spec_l7Put.l0] at H
    by_cases c7 : x5_1 < (l0.length : Int)
    ·rw [if_pos c7] at H
     have c7b0 : decide (x5_1 < (l0.length : Int)) = true := decide_eq_true c7
     clear c7
     by_cases c8 : 0 ≤ x5_1
     ·rw [if_pos c8] at H
      have c8b0 : decide (0 ≤ x5_1) = true := decide_eq_true c8
      clear c8
      by_cases c9 : (rd l0 x5_1) < a1
      ·rw [if_pos c9] at H
       have c9b0 : decide ((rd l0 x5_1) < a1) = true := decide_eq_true c9
       clear c9
       have H' := xm H
       clear H
       have p112 : 0 ≤ (x5_1 : Int) := of_decide_eq_true aB
       have q112 : x5_1 < (l0.length : Int) := of_decide_eq_true aB
       obtain ⟨ad112, e112, hx112_0⟩ := Kd.at_int (Kd.R_reads' HO_0.out).2.2 x5_1 p112 q112
       cases e112
       replace p112 := eq_true p112
       replace q112 := eq_true q112
       go_wp2
       go_roundg k1
       case measure => have := HK1.out; omega
       case rel => exact ⟨(wrap64 (x5_1 + 1)), sB, H', ⟨by have := HK1.out; omega⟩, ⟨rB HO_0⟩, ⟨by repeat (first | (with_reducible first | exact HK.out | apply Kept.alloc | apply Kept.drewN | apply Kept.drew) | exact HK.out)⟩, ⟨bG⟩⟩
      ·rw [if_neg c9] at H
       have c9b0 : decide ((rd l0 x5_1) < a1) = false := decide_eq_false c9
       clear c9
       have c10b0 := eq_true (of_decide_eq_true aB : 0 ≤ x5_1)
       by_cases c11 : x5_1 ≤ (l0.length : Int)
       ·rw [if_pos c11] at H
        have c11b0 := eq_true c11
        have c11b1 : decide (x5_1 ≤ (l0.length : Int)) = true := decide_eq_true c11
        clear c11
        obtain ⟨y113, hy113⟩ : ∃ y_ : List Int, y_ = (l0.take (x5_1 : Int).toNat) := ⟨_, rfl⟩
        replace H : (if ([] : List Int).length + y113.length < 17592186044416 then ((some (([] : List Int) ++ y113 : List Int)).bind fun y117 => (if y117.length < 17592186044416 then ((some (y117 ++ [a1] : List Int)).bind fun y120 => ((some (l0.drop (x5_1 : Int).toNat : List Int)).bind fun y123 => (if y120.length + y123.length < 17592186044416 then (some (y120 ++ y123)) else (none)))) else (none))) else (none)) = some r := by first | (rw [hy113]; with_reducible exact H) | (have H2_ := (Option.bind_some _ _).symm.trans H; rw [hy113]; with_reducible exact H2_) | (have H2_ := (Option.bind_some _ _).symm.trans H; with_reducible exact H2_) | with_reducible exact H | (rw [hy113]; exact H) | exact H
        have Ny113 := xm hy113
        clear hy113
        by_cases c12 : ([] : List Int).length + y113.length < 17592186044416
        ·rw [if_pos c12] at H
         have LMc12 := xm c12
         clear c12
         obtain ⟨y117, hy117⟩ : ∃ y_ : List Int, y_ = (([] : List Int) ++ y113) := ⟨_, rfl⟩
         replace H : (if y117.length < 17592186044416 then ((some (y117 ++ [a1] : List Int)).bind fun y120 => ((some (l0.drop (x5_1 : Int).toNat : List Int)).bind fun y123 => (if y120.length + y123.length < 17592186044416 then (some (y120 ++ y123)) else (none)))) else (none)) = some r := by first | (rw [hy117]; with_reducible exact H) | (have H2_ := (Option.bind_some _ _).symm.trans H; rw [hy117]; with_reducible exact H2_) | (have H2_ := (Option.bind_some _ _).symm.trans H; with_reducible exact H2_) | with_reducible exact H | (rw [hy117]; exact H) | exact H
         have Ny117 := xm hy117
         clear hy117
         by_cases c13 : y117.length < 17592186044416
         ·rw [if_pos c13] at H
          have LMc13 := xm c13
          clear c13
          obtain ⟨y120, hy120⟩ : ∃ y_ : List Int, y_ = (y117 ++ [a1]) := ⟨_, rfl⟩
          replace H : ((some (l0.drop (x5_1 : Int).toNat : List Int)).bind fun y123 => (if y120.length + y123.length < 17592186044416 then (some (y120 ++ y123)) else (none))) = some r := by first | (rw [hy120]; with_reducible exact H) | (have H2_ := (Option.bind_some _ _).symm.trans H; rw [hy120]; with_reducible exact H2_) | (have H2_ := (Option.bind_some _ _).symm.trans H; with_reducible exact H2_) | with_reducible exact H | (rw [hy120]; exact H) | exact H
          have Ny120 := xm hy120
          clear hy120
          have c14b0 := eq_true (of_decide_eq_true aB : 0 ≤ x5_1)
          have c15b0 := eq_true (of_decide_eq_true aB : x5_1 ≤ (l0.length : Int))
          obtain ⟨y123, hy123⟩ : ∃ y_ : List Int, y_ = (l0.drop (x5_1 : Int).toNat) := ⟨_, rfl⟩
          replace H : (if y120.length + y123.length < 17592186044416 then (some (y120 ++ y123)) else (none)) = some r := by first | (rw [hy123]; with_reducible exact H) | (have H2_ := (Option.bind_some _ _).symm.trans H; rw [hy123]; with_reducible exact H2_) | (have H2_ := (Option.bind_some _ _).symm.trans H; with_reducible exact H2_) | with_reducible exact H | (rw [hy123]; exact H) | exact H
          have Ny123 := xm hy123
          clear hy123
          by_cases c16 : y120.length + y123.length < 17592186044416
          ·rw [if_pos c16] at H
           have LMc16 := xm c16
           clear c16
           obtain ⟨y127, hy127⟩ : ∃ y_ : List Int, y_ = (y120 ++ y123) := ⟨_, rfl⟩
           replace H : (some y127) = some r := by first | (rw [hy127]; with_reducible exact H) | (have H2_ := (Option.bind_some _ _).symm.trans H; rw [hy127]; with_reducible exact H2_) | (have H2_ := (Option.bind_some _ _).symm.trans H; with_reducible exact H2_) | with_reducible exact H | (rw [hy127]; exact H) | exact H
           have Ny127 := xm hy127
           clear hy127
           obtain rfl := Option.some.inj H
           have p112 : 0 ≤ (x5_1 : Int) := of_decide_eq_true aB
           have q112 : x5_1 < (l0.length : Int) := of_decide_eq_true aB
           obtain ⟨ad112, e112, hx112_0⟩ := Kd.at_int (Kd.R_reads' HO_0.out).2.2 x5_1 p112 q112
           cases e112
           replace p112 := eq_true p112
           replace q112 := eq_true q112
           have q17 : (x5_1 : Int) ≤ ((l0.length : Int) : Int) := of_decide_eq_true aB
           obtain ⟨i017, hi017, _, hsz17, _⟩ := info_parts info3
           have hroom17 : l0.length ≤ co6 := (Kd.R_reads' HO_0.out).2.1
           have hC17 : Kd.C (Kd.int .i64) _ (some ad112) l0.length l0 := (Kd.R_reads' HO_0.out).2.2
           have hcut17 := cut_to (P := Try.prog) 35 3 .i64 Try.underlying35 hi017 (some ad112) l0.length co6 x5_1 (of_decide_eq_true aB) q17 hroom17
           have hr17 := Kd.C_take (m := (x5_1 : Int).toNat) hC17 (by omega)
           have hy17 : y113.length = (x5_1 : Int).toNat := (by rw [Ny113.out, List.length_take]; omega)
           rw [← Ny113.out] at hr17
           rw [← hy17] at hcut17
           have HR116 := xm hr17
           have HC116 := xm (show y113.length ≤ co6 from by omega)
           clear hr17 hC17 hroom17 hi017 hsz17
           have KY17 := xm hy17
           clear hy17
           have KL17 := xm (show (x5_1 : Int).toNat ≤ l0.length from by omega)
           replace q17 := eq_true q17
           go_wp2_with (first | ((with_reducible refine gate_builtin (b := .append) (xs := #[.tmp 25, .tmp 28]) rfl ?_); at_builtin; refine Kd.R_append_rows (Kd.int .i64) (w0 := w0) w0.heap.size rfl (.tmp 25) (.tmp 28) 35 3 (.int .i64 0) 8 rfl Try.underlying35 info3 rfl (by decide) (by omega) (.slice none 0 0) ([] : List Int) y113 _ _ _ (fun k_ => (P0_ k_ ∨ w.heap.size ≤ k_) ∧ some k_ ≠ (.slice (some ad112) l0.length co6 : Value).ownBlock) (fun _ => False) rfl rfl ?aO ?aR (fun _ _ h => h) (fun _ h => h.elim) ?aF ?aB ?aS ?aL ?_; (case aR => repeat (first | exact (by repeat (first | (with_reducible exact HR116.out) | (with_reducible refine Kd.C_alloc ?_ _) | (with_reducible refine Kd.C_drewN ?_ _) | (with_reducible refine Kd.C_drew ?_) | exact HR116.out)) | (with_reducible refine Kd.C_alloc ?_ _) | (with_reducible refine Kd.C_drewN ?_ _) | (with_reducible refine Kd.C_drew ?_))); (case aB => exact bB); (case aF => exact (fun k_ hk => ⟨(.inr (Nat.le_trans (by first | exact HK.out.1 | exact (show Kept w _ (fun k_ => P0_ k_) from by repeat (first | (with_reducible first | exact HK.out | apply Kept.alloc | apply Kept.drewN | apply Kept.drew) | exact HK.out)).1) hk)), Kd.fresh' (Kd.R_lt (rB HO_0)) k_ hk⟩)); (case aO => exact ((Kd.R_nil _ _ _ _ (fun k_ => (P0_ k_ ∨ w.heap.size ≤ k_) ∧ some k_ ≠ (.slice (some ad112) l0.length co6 : Value).ownBlock)))); (case aS => exact (xz bB)); (case aL => have := LMc12.out; omega); intro v118 w18 ho hb hg hat; rw [← Ny117.out] at ho; have n0_ := xm (Kd.R_after (Kd.R_apart_nil (rB HO_0)) hg hat); have n1_ := xm (hb); have n2_ := xm (Kept.of_grown (S := (fun k_ => P0_ k_)) hg (by repeat (first | (with_reducible first | exact HK.out | apply Kept.alloc | apply Kept.drewN | apply Kept.drew) | exact HK.out)) (fun k_ e_ => by simp [Value.ownBlock] at e_)); have n3_ := xm ((show Kd.C (Kd.int .i64) w18 (some ad112) y113.length y113 from by rw [Ny113.out]; exact Kd.C_take (m := (x5_1 : Int).toNat) ((Kd.R_reads' (Kd.R_after (Kd.R_apart_nil (rB HO_0)) hg hat)).2.2) KL17.out)); have n4_ := xm (ho); revert n0_ n1_ n2_ n3_ n4_; clear HO_0 HB HK HR116; intro HO_0 HB HK HR116 HO119; clear ho hb hg hat) | ((with_reducible refine gate_builtin (b := .append) (xs := #[.tmp 30, .tmp 32]) rfl ?_); at_builtin; refine Kd.R_append (Kd.int .i64) (w0 := w0) w0.heap.size rfl (.tmp 30) (.tmp 32) 35 3 (.int .i64 0) 8 rfl Try.underlying35 info3 rfl (by decide) (by omega) v118 y117 a1 [.int .i64 a1] (fun k_ => (P0_ k_ ∨ w.heap.size ≤ k_) ∧ some k_ ≠ (.slice (some ad112) l0.length co6 : Value).ownBlock) (fun _ => False) rfl rfl ?aP (fun _ hk => hk.elim) ?aF ?aO ?aB ?aS ?aL ?_; (case aP => exact rfl); (case aB => exact bB); (case aF => exact (fun k_ hk => ⟨(.inr (Nat.le_trans (by first | exact HK.out.1 | exact (show Kept w _ (fun k_ => P0_ k_) from by repeat (first | (with_reducible first | exact HK.out | apply Kept.alloc | apply Kept.drewN | apply Kept.drew) | exact HK.out)).1) hk)), Kd.fresh' (Kd.R_lt (rB HO_0)) k_ hk⟩)); (case aO => exact (rB HO119)); (case aS => exact (xz bB)); (case aL => have := LMc13.out; omega); intro v121 w19 ho hb hg hat; rw [← Ny120.out] at ho; have n0_ := xm (Kd.R_after (ok := (fun k_ => (P0_ k_ ∨ w.heap.size ≤ k_))) (rB HO_0) hg hat); have n1_ := xm (hb); have n2_ := xm (Kept.of_grown (S := (fun k_ => P0_ k_)) hg (by repeat (first | (with_reducible first | exact HK.out | apply Kept.alloc | apply Kept.drewN | apply Kept.drew) | exact HK.out)) (fun k_ e_ => (HO119.out.1 k_ e_).1)); have n3_ := xm ((show Kd.C (Kd.int .i64) w19 (some ad112) y113.length y113 from by rw [Ny113.out]; exact Kd.C_take (m := (x5_1 : Int).toNat) ((Kd.R_reads' (Kd.R_after (ok := (fun k_ => (P0_ k_ ∨ w.heap.size ≤ k_))) (rB HO_0) hg hat)).2.2) KL17.out)); have n4_ := xm (ho); revert n0_ n1_ n2_ n3_ n4_; clear HO_0 HB HK HR116 HO119; intro HO_0 HB HK HR116 HO122; clear ho hb hg hat; have q20 : (x5_1 : Int) ≤ ((l0.length : Int) : Int) := of_decide_eq_true aB; obtain ⟨i020, hi020, _, hsz20, _⟩ := info_parts info3; have hroom20 : l0.length ≤ co6 := (Kd.R_reads' HO_0.out).2.1; have hC20 : Kd.C (Kd.int .i64) _ (some ad112) l0.length l0 := (Kd.R_reads' HO_0.out).2.2; have q020 : (0 : Int) ≤ (x5_1 : Int) := of_decide_eq_true aB; have hcut20 := cut_from (P := Try.prog) 35 3 .i64 Try.underlying35 hi020 1 hsz20 (some ad112) l0.length co6 x5_1 q020 q20; have hr20 := Kd.C_drop (m := (x5_1 : Int).toNat) (c := co6) hC20 (by omega) hroom20; obtain ⟨A20, hA20⟩ : ∃ Aq_, Aq_ = (if co6 = (x5_1 : Int).toNat then (some ad112) else ((some ad112) : Option Addr).map (·.add ((x5_1 : Int).toNat * 1))) := ⟨_, rfl⟩; obtain ⟨c20, hc20⟩ : ∃ cq_, cq_ = co6 - (x5_1 : Int).toNat := ⟨_, rfl⟩; have hy20 : y123.length = l0.length - (x5_1 : Int).toNat := (by rw [Ny123.out, List.length_drop] <;> omega); rw [show (l0).drop (x5_1 : Int).toNat = y123 from Ny123.out.symm] at hr20; replace hr20 : Kd.C (Kd.int .i64) _ A20 y123.length y123 := (by rw [hA20]; exact hr20); rw [← hy20, ← hA20, ← hc20] at hcut20; have HR126 := xm hr20; have HC126 := xm (show y123.length ≤ c20 from by rw [hy20, hc20]; exact Nat.sub_le_sub_right hroom20 _); clear hr20 hC20 hroom20 hi020 hsz20 hc20; have KY20 := xm hy20; have KA20 := xm hA20; clear hy20 hA20; have KL20 := xm (show (x5_1 : Int).toNat ≤ l0.length from by omega); replace q20 := eq_true q20) | ((with_reducible refine gate_builtin (b := .append) (xs := #[.tmp 34, .tmp 37]) rfl ?_); at_builtin; refine Kd.R_append_rows (Kd.int .i64) (w0 := w0) w0.heap.size rfl (.tmp 34) (.tmp 37) 35 3 (.int .i64 0) 8 rfl Try.underlying35 info3 rfl (by decide) (by omega) v121 y120 y123 _ _ _ (fun k_ => (P0_ k_ ∨ w.heap.size ≤ k_) ∧ some k_ ≠ (.slice (some ad112) l0.length co6 : Value).ownBlock) (fun _ => False) rfl rfl ?aO ?aR (fun _ _ h => h) (fun _ h => h.elim) ?aF ?aB ?aS ?aL ?_; (case aR => repeat (first | exact (by repeat (first | (with_reducible exact HR126.out) | (with_reducible refine Kd.C_alloc ?_ _) | (with_reducible refine Kd.C_drewN ?_ _) | (with_reducible refine Kd.C_drew ?_) | exact HR126.out)) | (with_reducible refine Kd.C_alloc ?_ _) | (with_reducible refine Kd.C_drewN ?_ _) | (with_reducible refine Kd.C_drew ?_))); (case aB => exact bB); (case aF => exact (fun k_ hk => ⟨(.inr (Nat.le_trans (by first | exact HK.out.1 | exact (show Kept w _ (fun k_ => P0_ k_) from by repeat (first | (with_reducible first | exact HK.out | apply Kept.alloc | apply Kept.drewN | apply Kept.drew) | exact HK.out)).1) hk)), Kd.fresh' (Kd.R_lt (rB HO_0)) k_ hk⟩)); (case aO => exact (rB HO122)); (case aS => exact (xz bB)); (case aL => have := LMc16.out; omega); intro v128 w21 ho hb hg hat; rw [← Ny127.out] at ho; have n0_ := xm (Kd.R_after (ok := (fun k_ => (P0_ k_ ∨ w.heap.size ≤ k_))) (rB HO_0) hg hat); have n1_ := xm (hb); have n2_ := xm (Kept.of_grown (S := (fun k_ => P0_ k_)) hg (by repeat (first | (with_reducible first | exact HK.out | apply Kept.alloc | apply Kept.drewN | apply Kept.drew) | exact HK.out)) (fun k_ e_ => (HO122.out.1 k_ e_).1)); have n3_ := xm ((show Kd.C (Kd.int .i64) w21 (some ad112) y113.length y113 from by rw [Ny113.out]; exact Kd.C_take (m := (x5_1 : Int).toNat) ((Kd.R_reads' (Kd.R_after (ok := (fun k_ => (P0_ k_ ∨ w.heap.size ≤ k_))) (rB HO_0) hg hat)).2.2) KL17.out)); have n4_ := xm ((show Kd.C (Kd.int .i64) w21 A20 y123.length y123 from by rw [Ny123.out, KA20.out]; exact Kd.C_drop (m := (x5_1 : Int).toNat) (c := co6) ((Kd.R_reads' (Kd.R_after (ok := (fun k_ => (P0_ k_ ∨ w.heap.size ≤ k_))) (rB HO_0) hg hat)).2.2) KL20.out ((Kd.R_reads' (Kd.R_after (ok := (fun k_ => (P0_ k_ ∨ w.heap.size ≤ k_))) (rB HO_0) hg hat)).2.1))); have n5_ := xm (ho); revert n0_ n1_ n2_ n3_ n4_ n5_; clear HO_0 HB HK HR116 HR126 HO122; intro HO_0 HB HK HR116 HR126 HO129; clear ho hb hg hat))
           go_ret
           exact ⟨_, eB, by (with_reducible repeat (first | apply Kd.R_alloc | apply Kd.R_drewN | apply Kd.R_drew)); exact Kd.R_mono HO129.out (fun _ hk => hk.1), bG, by repeat (first | (with_reducible first | exact HK.out | apply Kept.alloc | apply Kept.drewN | apply Kept.drew) | exact HK.out)⟩
          ·rw [if_neg c16] at H
           exact absurd H (by simp)
         ·rw [if_neg c13] at H
          exact absurd H (by simp)
        ·rw [if_neg c12] at H
         exact absurd H (by simp)
       ·rw [if_neg c11] at H
        exact absurd H (by simp)
     ·rw [if_neg c8] at H
      exact absurd H (by simp)
    ·rw [if_neg c7] at H
     have c7b0 : decide (x5_1 < (l0.length : Int)) = false := decide_eq_false c7
     clear c7
     by_cases c22 : 0 ≤ x5_1
     ·rw [if_pos c22] at H
      have c22b0 := eq_true c22
      have c22b1 : decide (0 ≤ x5_1) = true := decide_eq_true c22
      clear c22
      by_cases c23 : x5_1 ≤ (l0.length : Int)
      ·rw [if_pos c23] at H
       have c23b0 := eq_true c23
       have c23b1 : decide (x5_1 ≤ (l0.length : Int)) = true := decide_eq_true c23
       clear c23
       obtain ⟨y130, hy130⟩ : ∃ y_ : List Int, y_ = (l0.take (x5_1 : Int).toNat) := ⟨_, rfl⟩
       replace H : (if ([] : List Int).length + y130.length < 17592186044416 then ((some (([] : List Int) ++ y130 : List Int)).bind fun y134 => (if y134.length < 17592186044416 then ((some (y134 ++ [a1] : List Int)).bind fun y137 => ((some (l0.drop (x5_1 : Int).toNat : List Int)).bind fun y140 => (if y137.length + y140.length < 17592186044416 then (some (y137 ++ y140)) else (none)))) else (none))) else (none)) = some r := by first | (rw [hy130]; with_reducible exact H) | (have H2_ := (Option.bind_some _ _).symm.trans H; rw [hy130]; with_reducible exact H2_) | (have H2_ := (Option.bind_some _ _).symm.trans H; with_reducible exact H2_) | with_reducible exact H | (rw [hy130]; exact H) | exact H
       have Ny130 := xm hy130
       clear hy130
       by_cases c24 : ([] : List Int).length + y130.length < 17592186044416
       ·rw [if_pos c24] at H
        have LMc24 := xm c24
        clear c24
        obtain ⟨y134, hy134⟩ : ∃ y_ : List Int, y_ = (([] : List Int) ++ y130) := ⟨_, rfl⟩
        replace H : (if y134.length < 17592186044416 then ((some (y134 ++ [a1] : List Int)).bind fun y137 => ((some (l0.drop (x5_1 : Int).toNat : List Int)).bind fun y140 => (if y137.length + y140.length < 17592186044416 then (some (y137 ++ y140)) else (none)))) else (none)) = some r := by first | (rw [hy134]; with_reducible exact H) | (have H2_ := (Option.bind_some _ _).symm.trans H; rw [hy134]; with_reducible exact H2_) | (have H2_ := (Option.bind_some _ _).symm.trans H; with_reducible exact H2_) | with_reducible exact H | (rw [hy134]; exact H) | exact H
        have Ny134 := xm hy134
        clear hy134
        by_cases c25 : y134.length < 17592186044416
        ·rw [if_pos c25] at H
         have LMc25 := xm c25
         clear c25
         obtain ⟨y137, hy137⟩ : ∃ y_ : List Int, y_ = (y134 ++ [a1]) := ⟨_, rfl⟩
         replace H : ((some (l0.drop (x5_1 : Int).toNat : List Int)).bind fun y140 => (if y137.length + y140.length < 17592186044416 then (some (y137 ++ y140)) else (none))) = some r := by first | (rw [hy137]; with_reducible exact H) | (have H2_ := (Option.bind_some _ _).symm.trans H; rw [hy137]; with_reducible exact H2_) | (have H2_ := (Option.bind_some _ _).symm.trans H; with_reducible exact H2_) | with_reducible exact H | (rw [hy137]; exact H) | exact H
         have Ny137 := xm hy137
         clear hy137
         have c26b0 := eq_true (of_decide_eq_true aB : 0 ≤ x5_1)
         have c27b0 := eq_true (of_decide_eq_true aB : x5_1 ≤ (l0.length : Int))
         obtain ⟨y140, hy140⟩ : ∃ y_ : List Int, y_ = (l0.drop (x5_1 : Int).toNat) := ⟨_, rfl⟩
         replace H : (if y137.length + y140.length < 17592186044416 then (some (y137 ++ y140)) else (none)) = some r := by first | (rw [hy140]; with_reducible exact H) | (have H2_ := (Option.bind_some _ _).symm.trans H; rw [hy140]; with_reducible exact H2_) | (have H2_ := (Option.bind_some _ _).symm.trans H; with_reducible exact H2_) | with_reducible exact H | (rw [hy140]; exact H) | exact H
         have Ny140 := xm hy140
         clear hy140
         by_cases c28 : y137.length + y140.length < 17592186044416
         ·rw [if_pos c28] at H
          have LMc28 := xm c28
          clear c28
          obtain ⟨y144, hy144⟩ : ∃ y_ : List Int, y_ = (y137 ++ y140) := ⟨_, rfl⟩
          replace H : (some y144) = some r := by first | (rw [hy144]; with_reducible exact H) | (have H2_ := (Option.bind_some _ _).symm.trans H; rw [hy144]; with_reducible exact H2_) | (have H2_ := (Option.bind_some _ _).symm.trans H; with_reducible exact H2_) | with_reducible exact H | (rw [hy144]; exact H) | exact H
          have Ny144 := xm hy144
          clear hy144
          obtain rfl := Option.some.inj H
          have q29 : (x5_1 : Int) ≤ ((l0.length : Int) : Int) := of_decide_eq_true aB
          obtain ⟨i029, hi029, _, hsz29, _⟩ := info_parts info3
          have hroom29 : l0.length ≤ co6 := (Kd.R_reads' HO_0.out).2.1
          have hC29 : Kd.C (Kd.int .i64) _ Ao6 l0.length l0 := (Kd.R_reads' HO_0.out).2.2
          have hcut29 := cut_to (P := Try.prog) 35 3 .i64 Try.underlying35 hi029 Ao6 l0.length co6 x5_1 (of_decide_eq_true aB) q29 hroom29
          have hr29 := Kd.C_take (m := (x5_1 : Int).toNat) hC29 (by omega)
          have hy29 : y130.length = (x5_1 : Int).toNat := (by rw [Ny130.out, List.length_take]; omega)
          rw [← Ny130.out] at hr29
          rw [← hy29] at hcut29
          have HR133 := xm hr29
          have HC133 := xm (show y130.length ≤ co6 from by omega)
          clear hr29 hC29 hroom29 hi029 hsz29
          have KY29 := xm hy29
          clear hy29
          have KL29 := xm (show (x5_1 : Int).toNat ≤ l0.length from by omega)
          replace q29 := eq_true q29
          go_wp2_with (first | ((with_reducible refine gate_builtin (b := .append) (xs := #[.tmp 25, .tmp 28]) rfl ?_); at_builtin; refine Kd.R_append_rows (Kd.int .i64) (w0 := w0) w0.heap.size rfl (.tmp 25) (.tmp 28) 35 3 (.int .i64 0) 8 rfl Try.underlying35 info3 rfl (by decide) (by omega) (.slice none 0 0) ([] : List Int) y130 _ _ _ (fun k_ => (P0_ k_ ∨ w.heap.size ≤ k_) ∧ some k_ ≠ (.slice Ao6 l0.length co6 : Value).ownBlock) (fun _ => False) rfl rfl ?aO ?aR (fun _ _ h => h) (fun _ h => h.elim) ?aF ?aB ?aS ?aL ?_; (case aR => repeat (first | exact (by repeat (first | (with_reducible exact HR133.out) | (with_reducible refine Kd.C_alloc ?_ _) | (with_reducible refine Kd.C_drewN ?_ _) | (with_reducible refine Kd.C_drew ?_) | exact HR133.out)) | (with_reducible refine Kd.C_alloc ?_ _) | (with_reducible refine Kd.C_drewN ?_ _) | (with_reducible refine Kd.C_drew ?_))); (case aB => exact bB); (case aF => exact (fun k_ hk => ⟨(.inr (Nat.le_trans (by first | exact HK.out.1 | exact (show Kept w _ (fun k_ => P0_ k_) from by repeat (first | (with_reducible first | exact HK.out | apply Kept.alloc | apply Kept.drewN | apply Kept.drew) | exact HK.out)).1) hk)), Kd.fresh' (Kd.R_lt (rB HO_0)) k_ hk⟩)); (case aO => exact ((Kd.R_nil _ _ _ _ (fun k_ => (P0_ k_ ∨ w.heap.size ≤ k_) ∧ some k_ ≠ (.slice Ao6 l0.length co6 : Value).ownBlock)))); (case aS => exact (xz bB)); (case aL => have := LMc24.out; omega); intro v135 w30 ho hb hg hat; rw [← Ny134.out] at ho; have n0_ := xm (Kd.R_after (Kd.R_apart_nil (rB HO_0)) hg hat); have n1_ := xm (hb); have n2_ := xm (Kept.of_grown (S := (fun k_ => P0_ k_)) hg (by repeat (first | (with_reducible first | exact HK.out | apply Kept.alloc | apply Kept.drewN | apply Kept.drew) | exact HK.out)) (fun k_ e_ => by simp [Value.ownBlock] at e_)); have n3_ := xm ((show Kd.C (Kd.int .i64) w30 Ao6 y130.length y130 from by rw [Ny130.out]; exact Kd.C_take (m := (x5_1 : Int).toNat) ((Kd.R_reads' (Kd.R_after (Kd.R_apart_nil (rB HO_0)) hg hat)).2.2) KL29.out)); have n4_ := xm (ho); revert n0_ n1_ n2_ n3_ n4_; clear HO_0 HB HK HR133; intro HO_0 HB HK HR133 HO136; clear ho hb hg hat) | ((with_reducible refine gate_builtin (b := .append) (xs := #[.tmp 30, .tmp 32]) rfl ?_); at_builtin; refine Kd.R_append (Kd.int .i64) (w0 := w0) w0.heap.size rfl (.tmp 30) (.tmp 32) 35 3 (.int .i64 0) 8 rfl Try.underlying35 info3 rfl (by decide) (by omega) v135 y134 a1 [.int .i64 a1] (fun k_ => (P0_ k_ ∨ w.heap.size ≤ k_) ∧ some k_ ≠ (.slice Ao6 l0.length co6 : Value).ownBlock) (fun _ => False) rfl rfl ?aP (fun _ hk => hk.elim) ?aF ?aO ?aB ?aS ?aL ?_; (case aP => exact rfl); (case aB => exact bB); (case aF => exact (fun k_ hk => ⟨(.inr (Nat.le_trans (by first | exact HK.out.1 | exact (show Kept w _ (fun k_ => P0_ k_) from by repeat (first | (with_reducible first | exact HK.out | apply Kept.alloc | apply Kept.drewN | apply Kept.drew) | exact HK.out)).1) hk)), Kd.fresh' (Kd.R_lt (rB HO_0)) k_ hk⟩)); (case aO => exact (rB HO136)); (case aS => exact (xz bB)); (case aL => have := LMc25.out; omega); intro v138 w31 ho hb hg hat; rw [← Ny137.out] at ho; have n0_ := xm (Kd.R_after (ok := (fun k_ => (P0_ k_ ∨ w.heap.size ≤ k_))) (rB HO_0) hg hat); have n1_ := xm (hb); have n2_ := xm (Kept.of_grown (S := (fun k_ => P0_ k_)) hg (by repeat (first | (with_reducible first | exact HK.out | apply Kept.alloc | apply Kept.drewN | apply Kept.drew) | exact HK.out)) (fun k_ e_ => (HO136.out.1 k_ e_).1)); have n3_ := xm ((show Kd.C (Kd.int .i64) w31 Ao6 y130.length y130 from by rw [Ny130.out]; exact Kd.C_take (m := (x5_1 : Int).toNat) ((Kd.R_reads' (Kd.R_after (ok := (fun k_ => (P0_ k_ ∨ w.heap.size ≤ k_))) (rB HO_0) hg hat)).2.2) KL29.out)); have n4_ := xm (ho); revert n0_ n1_ n2_ n3_ n4_; clear HO_0 HB HK HR133 HO136; intro HO_0 HB HK HR133 HO139; clear ho hb hg hat; have q32 : (x5_1 : Int) ≤ ((l0.length : Int) : Int) := of_decide_eq_true aB; obtain ⟨i032, hi032, _, hsz32, _⟩ := info_parts info3; have hroom32 : l0.length ≤ co6 := (Kd.R_reads' HO_0.out).2.1; have hC32 : Kd.C (Kd.int .i64) _ Ao6 l0.length l0 := (Kd.R_reads' HO_0.out).2.2; have q032 : (0 : Int) ≤ (x5_1 : Int) := of_decide_eq_true aB; have hcut32 := cut_from (P := Try.prog) 35 3 .i64 Try.underlying35 hi032 1 hsz32 Ao6 l0.length co6 x5_1 q032 q32; have hr32 := Kd.C_drop (m := (x5_1 : Int).toNat) (c := co6) hC32 (by omega) hroom32; obtain ⟨A32, hA32⟩ : ∃ Aq_, Aq_ = (if co6 = (x5_1 : Int).toNat then Ao6 else (Ao6 : Option Addr).map (·.add ((x5_1 : Int).toNat * 1))) := ⟨_, rfl⟩; obtain ⟨c32, hc32⟩ : ∃ cq_, cq_ = co6 - (x5_1 : Int).toNat := ⟨_, rfl⟩; have hy32 : y140.length = l0.length - (x5_1 : Int).toNat := (by rw [Ny140.out, List.length_drop] <;> omega); rw [show (l0).drop (x5_1 : Int).toNat = y140 from Ny140.out.symm] at hr32; replace hr32 : Kd.C (Kd.int .i64) _ A32 y140.length y140 := (by rw [hA32]; exact hr32); rw [← hy32, ← hA32, ← hc32] at hcut32; have HR143 := xm hr32; have HC143 := xm (show y140.length ≤ c32 from by rw [hy32, hc32]; exact Nat.sub_le_sub_right hroom32 _); clear hr32 hC32 hroom32 hi032 hsz32 hc32; have KY32 := xm hy32; have KA32 := xm hA32; clear hy32 hA32; have KL32 := xm (show (x5_1 : Int).toNat ≤ l0.length from by omega); replace q32 := eq_true q32) | ((with_reducible refine gate_builtin (b := .append) (xs := #[.tmp 34, .tmp 37]) rfl ?_); at_builtin; refine Kd.R_append_rows (Kd.int .i64) (w0 := w0) w0.heap.size rfl (.tmp 34) (.tmp 37) 35 3 (.int .i64 0) 8 rfl Try.underlying35 info3 rfl (by decide) (by omega) v138 y137 y140 _ _ _ (fun k_ => (P0_ k_ ∨ w.heap.size ≤ k_) ∧ some k_ ≠ (.slice Ao6 l0.length co6 : Value).ownBlock) (fun _ => False) rfl rfl ?aO ?aR (fun _ _ h => h) (fun _ h => h.elim) ?aF ?aB ?aS ?aL ?_; (case aR => repeat (first | exact (by repeat (first | (with_reducible exact HR143.out) | (with_reducible refine Kd.C_alloc ?_ _) | (with_reducible refine Kd.C_drewN ?_ _) | (with_reducible refine Kd.C_drew ?_) | exact HR143.out)) | (with_reducible refine Kd.C_alloc ?_ _) | (with_reducible refine Kd.C_drewN ?_ _) | (with_reducible refine Kd.C_drew ?_))); (case aB => exact bB); (case aF => exact (fun k_ hk => ⟨(.inr (Nat.le_trans (by first | exact HK.out.1 | exact (show Kept w _ (fun k_ => P0_ k_) from by repeat (first | (with_reducible first | exact HK.out | apply Kept.alloc | apply Kept.drewN | apply Kept.drew) | exact HK.out)).1) hk)), Kd.fresh' (Kd.R_lt (rB HO_0)) k_ hk⟩)); (case aO => exact (rB HO139)); (case aS => exact (xz bB)); (case aL => have := LMc28.out; omega); intro v145 w33 ho hb hg hat; rw [← Ny144.out] at ho; have n0_ := xm (Kd.R_after (ok := (fun k_ => (P0_ k_ ∨ w.heap.size ≤ k_))) (rB HO_0) hg hat); have n1_ := xm (hb); have n2_ := xm (Kept.of_grown (S := (fun k_ => P0_ k_)) hg (by repeat (first | (with_reducible first | exact HK.out | apply Kept.alloc | apply Kept.drewN | apply Kept.drew) | exact HK.out)) (fun k_ e_ => (HO139.out.1 k_ e_).1)); have n3_ := xm ((show Kd.C (Kd.int .i64) w33 Ao6 y130.length y130 from by rw [Ny130.out]; exact Kd.C_take (m := (x5_1 : Int).toNat) ((Kd.R_reads' (Kd.R_after (ok := (fun k_ => (P0_ k_ ∨ w.heap.size ≤ k_))) (rB HO_0) hg hat)).2.2) KL29.out)); have n4_ := xm ((show Kd.C (Kd.int .i64) w33 A32 y140.length y140 from by rw [Ny140.out, KA32.out]; exact Kd.C_drop (m := (x5_1 : Int).toNat) (c := co6) ((Kd.R_reads' (Kd.R_after (ok := (fun k_ => (P0_ k_ ∨ w.heap.size ≤ k_))) (rB HO_0) hg hat)).2.2) KL32.out ((Kd.R_reads' (Kd.R_after (ok := (fun k_ => (P0_ k_ ∨ w.heap.size ≤ k_))) (rB HO_0) hg hat)).2.1))); have n5_ := xm (ho); revert n0_ n1_ n2_ n3_ n4_ n5_; clear HO_0 HB HK HR133 HR143 HO139; intro HO_0 HB HK HR133 HR143 HO146; clear ho hb hg hat))
          go_ret
          exact ⟨_, eB, by (with_reducible repeat (first | apply Kd.R_alloc | apply Kd.R_drewN | apply Kd.R_drew)); exact Kd.R_mono HO146.out (fun _ hk => hk.1), bG, by repeat (first | (with_reducible first | exact HK.out | apply Kept.alloc | apply Kept.drewN | apply Kept.drew) | exact HK.out)⟩
         ·rw [if_neg c28] at H
          exact absurd H (by simp)
        ·rw [if_neg c25] at H
         exact absurd H (by simp)
       ·rw [if_neg c24] at H
        exact absurd H (by simp)
      ·rw [if_neg c23] at H
       exact absurd H (by simp)
     ·rw [if_neg c22] at H
      exact absurd H (by simp)

/-! ### spec_l1In: function 32 -/
def spec_l1In.f (a0 : Int) (a1 : Int) (a2 : Int) : Option (Bool) := if a0 ≥ a1 then (some (decide (a0 ≤ a2))) else (some false)
set_option maxHeartbeats 8000000 in
set_option maxRecDepth 100000 in
theorem spec_l1In.calls (a0 : Int) (a1 : Int) (a2 : Int) (r : Bool) (w : World) (h : spec_l1In.f a0 a1 a2 = some r) :
  Calls Try.prog 32 #[.int .i64 a0, .int .i64 a1, .int .i64 a2] w fun e w' => e = .returned (.bool r) ∧ Drawn0 w w' := by
 have H : (if a0 ≥ a1 then (some (decide (a0 ≤ a2))) else (some false)) = some r := h
 clear h
 by_cases c4 : a0 ≥ a1
 ·rw [if_pos c4] at H
  have c4b0 : decide (a1 ≤ a0) = true := decide_eq_true c4
  clear c4
  obtain rfl := Option.some.inj H
  go_enter Try.func32, Try.ntmps32
  go_wp2
  go_ret
  exact ⟨sB, dB⟩
 ·rw [if_neg c4] at H
  have c4b0 : decide (a1 ≤ a0) = false := decide_eq_false c4
  clear c4
  obtain rfl := Option.some.inj H
  go_enter Try.func32, Try.ntmps32
  go_wp2
  go_ret
  exact ⟨sB, dB⟩

/-! ### spec_GoodParts: function 14 -/
mutual
def spec_GoodParts.l0 : Nat → List (List Int) → Int → List Int → List (List Int) → Int → Int → Option (Bool)
 | 0, _, _, _, _, _, _ => none
 | k + 1, x0, x1, x5, x10, x11, x12 => if x12 < x11 then (if 0 ≤ x12 then (if x12 < (x10.length : Int) then ((spec_l1Some.f k (rd_L1 x10 x12) x1).bind fun t150 => (if t150 = true then (spec_GoodParts.j1 k x0 x1 x5 (rd_L1 x10 x12) x10 x11 x12 (((rd_L1 x10 x12).length : Int) == 0)) else (spec_GoodParts.j1 k x0 x1 x5 (rd_L1 x10 x12) x10 x11 x12 true))) else (none)) else (none)) else ((spec_l1In.f x1 1 6).bind fun t147 => (if t147 = true then ((spec_l1In.f (x0.length : Int) 1 8).bind fun t148 => (if t148 = true then (some ((x5.length : Int) == x1)) else (some false))) else (some false)))
def spec_GoodParts.j1 : Nat → List (List Int) → Int → List Int → List Int → List (List Int) → Int → Int → Bool → Option (Bool)
 | 0, _, _, _, _, _, _, _, _ => none
 | k + 1, x0, x1, x5, x7, x10, x11, x12, x24 => if x24 = true then (some false) else (spec_GoodParts.l1 k x0 x1 x5 x10 x11 x12 x7 (x7.length : Int) 0)
def spec_GoodParts.l1 : Nat → List (List Int) → Int → List Int → List (List Int) → Int → Int → List Int → Int → Int → Option (Bool)
 | 0, _, _, _, _, _, _, _, _, _ => none
 | k + 1, x0, x1, x5, x10, x11, x12, x25, x26, x27 => if x27 < x26 then (if 0 ≤ x27 then (if x27 < (x25.length : Int) then ((spec_l7Put.f k x5 (rd x25 x27)).bind fun t152 => (spec_GoodParts.l1 k x0 x1 t152 x10 x11 x12 x25 x26 (wrap64 (x27 + 1)))) else (none)) else (none)) else (spec_GoodParts.l0 k x0 x1 x5 x10 x11 (wrap64 (x12 + 1)))
end
def spec_GoodParts.f (k : Nat) (l0 : List (List Int)) (a1 : Int) : Option (Bool) := spec_GoodParts.l0 k l0 a1 ([] : List Int) l0 (l0.length : Int) 0
theorem spec_GoodParts.mono_l : ∀ k, (∀ y0 y1 y2 y3 y4 y5, LeO (spec_GoodParts.l0 k y0 y1 y2 y3 y4 y5) (spec_GoodParts.l0 (k + 1) y0 y1 y2 y3 y4 y5)) ∧ (∀ y0 y1 y2 y3 y4 y5 y6 y7, LeO (spec_GoodParts.j1 k y0 y1 y2 y3 y4 y5 y6 y7) (spec_GoodParts.j1 (k + 1) y0 y1 y2 y3 y4 y5 y6 y7)) ∧ (∀ y0 y1 y2 y3 y4 y5 y6 y7 y8, LeO (spec_GoodParts.l1 k y0 y1 y2 y3 y4 y5 y6 y7 y8) (spec_GoodParts.l1 (k + 1) y0 y1 y2 y3 y4 y5 y6 y7 y8))
 | 0 => ⟨fun _ _ _ _ _ _ r h => by simp [spec_GoodParts.l0] at h, fun _ _ _ _ _ _ _ _ r h => by simp [spec_GoodParts.j1] at h, fun _ _ _ _ _ _ _ _ _ r h => by simp [spec_GoodParts.l1] at h⟩
 | k + 1 => by
  obtain ⟨ih0, ih1, ih2⟩ := spec_GoodParts.mono_l k
  refine ⟨?_, ?_, ?_⟩
  ·intro y0 y1 y2 y3 y4 y5
   unfold spec_GoodParts.l0
   repeat' first
   | (with_reducible exact ih0 _ _ _ _ _ _)
   | (with_reducible exact ih1 _ _ _ _ _ _ _ _)
   | (with_reducible exact ih2 _ _ _ _ _ _ _ _ _)
   | (with_reducible exact spec_l1Some.mono _ _ _)
   | (with_reducible exact spec_l7Put.mono _ _ _)
   | (with_reducible exact LeO.refl _)
   | (with_reducible exact LeO.none _)
   | (with_reducible refine LeO.ite ?_ ?_)
   | (with_reducible refine LeO.bind ?_ (fun _ => ?_))
   | exact ih0 _ _ _ _ _ _
   | exact ih1 _ _ _ _ _ _ _ _
   | exact ih2 _ _ _ _ _ _ _ _ _
   | exact spec_l1Some.mono _ _ _
   | exact spec_l7Put.mono _ _ _
   | exact LeO.none _
   | refine LeO.ite ?_ ?_
   | refine LeO.bind ?_ (fun _ => ?_)
  ·intro y0 y1 y2 y3 y4 y5 y6 y7
   unfold spec_GoodParts.j1
   repeat' first
   | (with_reducible exact ih0 _ _ _ _ _ _)
   | (with_reducible exact ih1 _ _ _ _ _ _ _ _)
   | (with_reducible exact ih2 _ _ _ _ _ _ _ _ _)
   | (with_reducible exact spec_l1Some.mono _ _ _)
   | (with_reducible exact spec_l7Put.mono _ _ _)
   | (with_reducible exact LeO.refl _)
   | (with_reducible exact LeO.none _)
   | (with_reducible refine LeO.ite ?_ ?_)
   | (with_reducible refine LeO.bind ?_ (fun _ => ?_))
   | exact ih0 _ _ _ _ _ _
   | exact ih1 _ _ _ _ _ _ _ _
   | exact ih2 _ _ _ _ _ _ _ _ _
   | exact spec_l1Some.mono _ _ _
   | exact spec_l7Put.mono _ _ _
   | exact LeO.none _
   | refine LeO.ite ?_ ?_
   | refine LeO.bind ?_ (fun _ => ?_)
  ·intro y0 y1 y2 y3 y4 y5 y6 y7 y8
   unfold spec_GoodParts.l1
   repeat' first
   | (with_reducible exact ih0 _ _ _ _ _ _)
   | (with_reducible exact ih1 _ _ _ _ _ _ _ _)
   | (with_reducible exact ih2 _ _ _ _ _ _ _ _ _)
   | (with_reducible exact spec_l1Some.mono _ _ _)
   | (with_reducible exact spec_l7Put.mono _ _ _)
   | (with_reducible exact LeO.refl _)
   | (with_reducible exact LeO.none _)
   | (with_reducible refine LeO.ite ?_ ?_)
   | (with_reducible refine LeO.bind ?_ (fun _ => ?_))
   | exact ih0 _ _ _ _ _ _
   | exact ih1 _ _ _ _ _ _ _ _
   | exact ih2 _ _ _ _ _ _ _ _ _
   | exact spec_l1Some.mono _ _ _
   | exact spec_l7Put.mono _ _ _
   | exact LeO.none _
   | refine LeO.ite ?_ ?_
   | refine LeO.bind ?_ (fun _ => ?_)
theorem spec_GoodParts.mono : ∀ a0 a1 k, LeO (spec_GoodParts.f k a0 a1) (spec_GoodParts.f (k + 1) a0 a1) := by
 intro a0 a1 k
 obtain ⟨ih0, ih1, ih2⟩ := spec_GoodParts.mono_l k
 unfold spec_GoodParts.f
 repeat' first
   | (with_reducible exact ih0 _ _ _ _ _ _)
   | (with_reducible exact ih1 _ _ _ _ _ _ _ _)
   | (with_reducible exact ih2 _ _ _ _ _ _ _ _ _)
   | (with_reducible exact spec_l1Some.mono _ _ _)
   | (with_reducible exact spec_l7Put.mono _ _ _)
   | (with_reducible exact LeO.refl _)
   | (with_reducible exact LeO.none _)
   | (with_reducible refine LeO.ite ?_ ?_)
   | (with_reducible refine LeO.bind ?_ (fun _ => ?_))
   | exact ih0 _ _ _ _ _ _
   | exact ih1 _ _ _ _ _ _ _ _
   | exact ih2 _ _ _ _ _ _ _ _ _
   | exact spec_l1Some.mono _ _ _
   | exact spec_l7Put.mono _ _ _
   | exact LeO.none _
   | refine LeO.ite ?_ ?_
   | refine LeO.bind ?_ (fun _ => ?_)
set_option maxHeartbeats 8000000 in
set_option maxRecDepth 100000 in
theorem spec_GoodParts.calls (k : Nat) (A0 : Option Addr) (c0 : Nat) (l0 : List (List Int)) (a1 : Int) (r : Bool) (w : World) (hr0 : Kd.C (Kd.slice 3 (Kd.int .i64)) w A0 l0.length l0) (hc0 : l0.length ≤ c0) (h : spec_GoodParts.f k l0 a1 = some r) :
  Calls Try.prog 14 #[.slice A0 l0.length c0, .int .i64 a1] w fun e w' => e = .returned (.bool r) ∧ Below w.heap.size w w' := by
 have HR0 := xm hr0
 have HC0 := xm hc0
 clear hr0 hc0
 have HB := xm (Below.refl w.heap.size w)
 have H : (spec_GoodParts.l0 k l0 a1 ([] : List Int) l0 (l0.length : Int) 0) = some r := h
 clear h
 have H' := xm H
 clear H
 go_enter Try.func14, Try.ntmps14
 go_wp2
 go_loopg [5, 12] k (fun kq v5 v12 w' => ∃ (x5_1 : List Int) (x12_1 : Int), v12 = .int .i64 x12_1 ∧ Aside0 (spec_GoodParts.l0 kq l0 a1 x5_1 l0 (l0.length : Int) x12_1 = some r) ∧ Aside0 (kq ≤ k) ∧ Aside0 (Kd.R (Kd.int .i64) 3 w' w.heap.size (fun _ => True) v5 x5_1) ∧ Aside0 (Below w.heap.size w w'))
 case atStart => exact ⟨(([] : List Int)), (0), sB, H', ⟨Nat.le_refl _⟩, ⟨by first | exact Kd.R_nil _ _ _ _ _ | exact Kd.N_nil _ _ _ _ _ | exact Kd.V_nil _ _ _ _ _ | exact Kd.Q_nil _ _ _ _ _ | exact Kd.S_nil _ _ _ _ _⟩, ⟨bG⟩⟩
 case round =>
  clear H'
  try clear c1
  try clear p2
  obtain ⟨x5_1, x12_1, rfl, HA, HK1, HO_5, HB⟩ := hrel
  cases gk with
  | zero => exact absurd HA.out (by simp [spec_GoodParts.l0])
  | succ k1 =>
   have H := HA.out
   clear HA
   simp only [spec_GoodParts.l0] at H
   by_cases c3 : x12_1 < (l0.length : Int)
   ·rw [if_pos c3] at H
    have c3b0 : decide (x12_1 < (l0.length : Int)) = true := decide_eq_true c3
    clear c3
    by_cases c4 : 0 ≤ x12_1
    ·rw [if_pos c4] at H
     have c4b0 : decide (0 ≤ x12_1) = true := decide_eq_true c4
     clear c4
     by_cases c5 : x12_1 < (l0.length : Int)
     ·rw [if_pos c5] at H
      have c5b0 : decide (x12_1 < (l0.length : Int)) = true := decide_eq_true c5
      clear c5
      have HC6 := xm H
      clear H
      have p149 : 0 ≤ (x12_1 : Int) := of_decide_eq_true aB
      have q149 : x12_1 < (l0.length : Int) := of_decide_eq_true aB
      obtain ⟨ad149, A149_0, c149_0, e149, hx149_0, hl149_0, hi149_0⟩ := at_L1 HR0.out x12_1 p149 q149
      cases e149
      replace hx149_0 := hU hx149_0
      have HR149_0 := xm hi149_0
      have HC149_0 := xm hl149_0
      clear hi149_0 hl149_0
      replace p149 := eq_true p149
      replace q149 := eq_true q149
      go_upto_region 5 with (fail)
      go_cut [24] (fun v24 wc => ∃ (kq : Nat) (x24_5 : Bool), v24 = .bool x24_5 ∧ Aside0 (spec_GoodParts.j1 kq l0 a1 x5_1 (rd_L1 l0 x12_1) l0 (l0.length : Int) x12_1 x24_5 = some r) ∧ Aside0 (kq ≤ k1) ∧ Aside0 (Kd.R (Kd.int .i64) 3 wc w.heap.size (fun _ => True) u5 x5_1) ∧ Aside0 (Below w.heap.size w wc))
      case first =>
       have H := HC6.out
       clear HC6
       replace H := Option.bind_eq_some_iff.mp H
       obtain ⟨t150, A70, H⟩ := H
       replace H : (if t150 = true then (spec_GoodParts.j1 k1 l0 a1 x5_1 (rd_L1 l0 x12_1) l0 (l0.length : Int) x12_1 (((rd_L1 l0 x12_1).length : Int) == 0)) else (spec_GoodParts.j1 k1 l0 a1 x5_1 (rd_L1 l0 x12_1) l0 (l0.length : Int) x12_1 true)) = some r := H
       have A7 := xm A70
       clear A70
       by_cases c8 : t150 = true
       ·subst c8
        have H1 : (spec_GoodParts.j1 k1 l0 a1 x5_1 (rd_L1 l0 x12_1) l0 (l0.length : Int) x12_1 (((rd_L1 l0 x12_1).length : Int) == 0)) = some r := by first | (with_reducible rfl) | (rw [if_pos rfl] at H; exact H)
        clear H
        have H := H1
        clear H1
        have H' := xm H
        clear H
        go_wp2_with (first | ((with_reducible refine gate_callee (f := 30) rfl ?_); refine goesL_ (some 18) rfl rfl Try.func30 (by kernel_rfl) rfl #[.slice A149_0 (rd_L1 l0 x12_1).length c149_0, .int .i64 a1] rfl mB ?_; (with_reducible refine (spec_l1Some.calls k1 _ _ (rd_L1 l0 x12_1) a1 true _ ?side1 ?side2 A7.out).mono ?_); (case side1 => exact cB (Kd.C_below HR149_0.out HB.out)); (case side2 => exact HC149_0.out); rintro e w' ⟨rfl, ⟨nd, rfl⟩⟩; refine ⟨_, rfl, ?_⟩))
        go_meet
        case rel => exact ⟨_, ((((rd_L1 l0 x12_1).length : Int) == 0)), sB, H', ⟨by have := HK1.out; first | omega | exact Nat.le_refl _⟩, ⟨rB HO_5⟩, ⟨bG⟩⟩
       ·replace c8 := Bool.eq_false_iff.mpr c8
        subst c8
        have H1 : (spec_GoodParts.j1 k1 l0 a1 x5_1 (rd_L1 l0 x12_1) l0 (l0.length : Int) x12_1 true) = some r := by first | (with_reducible rfl) | (rw [if_neg (show ¬ (false = true) by decide)] at H; exact H)
        clear H
        have H := H1
        clear H1
        have H' := xm H
        clear H
        go_wp2_with (first | ((with_reducible refine gate_callee (f := 30) rfl ?_); refine goesL_ (some 18) rfl rfl Try.func30 (by kernel_rfl) rfl #[.slice A149_0 (rd_L1 l0 x12_1).length c149_0, .int .i64 a1] rfl mB ?_; (with_reducible refine (spec_l1Some.calls k1 _ _ (rd_L1 l0 x12_1) a1 false _ ?side1 ?side2 A7.out).mono ?_); (case side1 => exact cB (Kd.C_below HR149_0.out HB.out)); (case side2 => exact HC149_0.out); rintro e w' ⟨rfl, ⟨nd, rfl⟩⟩; refine ⟨_, rfl, ?_⟩))
        go_meet
        case rel => exact ⟨_, (true), sB, H', ⟨by have := HK1.out; first | omega | exact Nat.le_refl _⟩, ⟨rB HO_5⟩, ⟨bG⟩⟩
      case rest =>
       clear HC6
       try clear c1
       try clear p1
       try clear q1
       try clear hx1
       try clear p2
       try clear c3
       try clear c3b0
       try clear c4
       try clear c4b0
       try clear c5
       try clear c5b0
       try clear c8
       try clear hx149_0
       try clear p149
       try clear p2
       try clear q149
       obtain ⟨kq, x24_5, rfl, HA, HJ5, HO_5, HB⟩ := hcut
       cases kq with
       | zero => exact absurd HA.out (by simp [spec_GoodParts.j1])
       | succ kj5 =>
        have H := HA.out
        clear HA
        simp only [spec_GoodParts.j1] at H
        by_cases c9 : x24_5 = true
        ·subst c9
         have H1 : (some false) = some r := by first | (with_reducible rfl) | (rw [if_pos rfl] at H; exact H)
         clear H
         have H := H1
         clear H1
         obtain rfl := Option.some.inj H
         go_wp2
         go_ret
         exact ⟨eB, bG⟩
        ·replace c9 := Bool.eq_false_iff.mpr c9
         subst c9
         have H1 : (spec_GoodParts.l1 kj5 l0 a1 x5_1 l0 (l0.length : Int) x12_1 (rd_L1 l0 x12_1) ((rd_L1 l0 x12_1).length : Int) 0) = some r := by first | (with_reducible rfl) | (rw [if_neg (show ¬ (false = true) by decide)] at H; exact H)
         clear H
         have H := H1
         clear H1
         have H' := xm H
         clear H
         go_wp2
         go_loopg [5, 27] kj5 (fun kq v5 v27 w' => ∃ (x5_3 : List Int) (x27_3 : Int), v27 = .int .i64 x27_3 ∧ Aside0 (spec_GoodParts.l1 kq l0 a1 x5_3 l0 (l0.length : Int) x12_1 (rd_L1 l0 x12_1) ((rd_L1 l0 x12_1).length : Int) x27_3 = some r) ∧ Aside0 (kq ≤ kj5) ∧ Aside0 (Kd.R (Kd.int .i64) 3 w' w.heap.size (fun _ => True) v5 x5_3) ∧ Aside0 (Below w.heap.size w w'))
         case atStart => exact ⟨(x5_1), (0), sB, H', ⟨Nat.le_refl _⟩, ⟨rB HO_5⟩, ⟨bG⟩⟩
         case round =>
          clear H'
          try clear c1
          try clear p1
          try clear q1
          try clear hx1
          try clear p2
          try clear c3
          try clear c3b0
          try clear c4
          try clear c4b0
          try clear c5
          try clear c5b0
          try clear c8
          try clear c9
          try clear hx149_0
          try clear p1
          try clear p149
          try clear p2
          try clear q1
          try clear q149
          obtain ⟨x5_3, x27_3, rfl, HA, HK3, HO_5, HB⟩ := hrel
          cases gk with
          | zero => exact absurd HA.out (by simp [spec_GoodParts.l1])
          | succ k3 =>
           have H := HA.out
           clear HA
           simp only [spec_GoodParts.l1] at H
           by_cases c10 : x27_3 < ((rd_L1 l0 x12_1).length : Int)
           ·rw [if_pos c10] at H
            have c10b0 : decide (x27_3 < ((rd_L1 l0 x12_1).length : Int)) = true := decide_eq_true c10
            clear c10
            by_cases c11 : 0 ≤ x27_3
            ·rw [if_pos c11] at H
             have c11b0 : decide (0 ≤ x27_3) = true := decide_eq_true c11
             clear c11
             by_cases c12 : x27_3 < ((rd_L1 l0 x12_1).length : Int)
             ·rw [if_pos c12] at H
              have c12b0 : decide (x27_3 < ((rd_L1 l0 x12_1).length : Int)) = true := decide_eq_true c12
              clear c12
              replace H := Option.bind_eq_some_iff.mp H
              obtain ⟨t152, A130, H⟩ := H
              replace H : (spec_GoodParts.l1 k3 l0 a1 t152 l0 (l0.length : Int) x12_1 (rd_L1 l0 x12_1) ((rd_L1 l0 x12_1).length : Int) (wrap64 (x27_3 + 1))) = some r := H
              have A13 := xm A130
              clear A130
              have H' := xm H
              clear H
              have p151 : 0 ≤ (x27_3 : Int) := of_decide_eq_true aB
              have q151 : x27_3 < ((rd_L1 l0 x12_1).length : Int) := of_decide_eq_true aB
              obtain ⟨ad151, e151, hx151_0⟩ := Kd.at_int HR149_0.out x27_3 p151 q151
              cases e151
              replace hx151_0 := hU hx151_0
              replace p151 := eq_true p151
              replace q151 := eq_true q151
              obtain ⟨Ao14, co14, eo14⟩ := Kd.R_slice HO_5.out
              subst eo14
              go_wp2_with (first | ((with_reducible refine gate_callee (f := 31) rfl ?_); refine goesL_ (some 33) rfl rfl Try.func31 (by kernel_rfl) rfl #[.slice Ao14 x5_3.length co14, .int .i64 (rd (rd_L1 l0 x12_1) x27_3)] rfl mB ?_; (with_reducible refine (spec_l7Put.calls k3 (fun k_ => some k_ = (.slice Ao14 x5_3.length co14 : Value).ownBlock) (.slice Ao14 x5_3.length co14) x5_3 (rd (rd_L1 l0 x12_1) x27_3) t152 w _ ?side1 ?side2 A13.out).mono ?_); (case side1 => repeat (first | (with_reducible first | exact HB.out | apply xa | apply xn | apply xd) | exact HB.out)); (case side2 => exact Kd.R_tight rfl HO_5.out); rintro e w15 ⟨v153, rfl, ho0, hb, hkp⟩; refine ⟨_, rfl, ?_⟩; have n0_ := xm (Kd.R_mono (ok' := fun k_ => True) ho0 (fun k_ hk_ => trivial)); have n1_ := xm (hb); revert n0_ n1_; clear HB HO_5; intro HO154 HB; (try clear hb); (try clear hkp); (try clear ho0)))
              go_roundg k3
              case measure => have := HK1.out; have := HJ5.out; have := HK3.out; omega
              case rel => exact ⟨(t152), (wrap64 (x27_3 + 1)), sB, H', ⟨by have := HK1.out; have := HJ5.out; have := HK3.out; omega⟩, ⟨rB HO154⟩, ⟨bG⟩⟩
             ·rw [if_neg c12] at H
              exact absurd H (by simp)
            ·rw [if_neg c11] at H
             exact absurd H (by simp)
           ·rw [if_neg c10] at H
            have c10b0 : decide (x27_3 < ((rd_L1 l0 x12_1).length : Int)) = false := decide_eq_false c10
            clear c10
            have H' := xm H
            clear H
            go_wp2
            go_roundg k3
            case measure => have := HK1.out; have := HJ5.out; have := HK3.out; omega
            case rel => exact ⟨(x5_3), (wrap64 (x12_1 + 1)), sB, H', ⟨by have := HK1.out; have := HJ5.out; have := HK3.out; omega⟩, ⟨rB HO_5⟩, ⟨bG⟩⟩
     ·rw [if_neg c5] at H
      exact absurd H (by simp)
    ·rw [if_neg c4] at H
     exact absurd H (by simp)
   ·rw [if_neg c3] at H
    have c3b0 : decide (x12_1 < (l0.length : Int)) = false := decide_eq_false c3
    clear c3
    replace H := Option.bind_eq_some_iff.mp H
    obtain ⟨t147, A160, H⟩ := H
    replace H : (if t147 = true then ((spec_l1In.f (l0.length : Int) 1 8).bind fun t148 => (if t148 = true then (some ((x5_1.length : Int) == a1)) else (some false))) else (some false)) = some r := H
    have A16 := xm A160
    clear A160
    by_cases c17 : t147 = true
    ·subst c17
     have H1 : ((spec_l1In.f (l0.length : Int) 1 8).bind fun t148 => (if t148 = true then (some ((x5_1.length : Int) == a1)) else (some false))) = some r := by first | (with_reducible rfl) | (rw [if_pos rfl] at H; exact H)
     clear H
     have H := H1
     clear H1
     replace H := Option.bind_eq_some_iff.mp H
     obtain ⟨t148, A180, H⟩ := H
     replace H : (if t148 = true then (some ((x5_1.length : Int) == a1)) else (some false)) = some r := H
     have A18 := xm A180
     clear A180
     by_cases c19 : t148 = true
     ·subst c19
      have H1 : (some ((x5_1.length : Int) == a1)) = some r := by first | (with_reducible rfl) | (rw [if_pos rfl] at H; exact H)
      clear H
      have H := H1
      clear H1
      obtain rfl := Option.some.inj H
      go_wp2_with (first | ((with_reducible refine gate_callee (f := 32) rfl ?_); refine goesL_ (some 37) rfl rfl Try.func32 (by kernel_rfl) rfl #[.int .i64 a1, .int .i64 1, .int .i64 6] rfl mB ?_; (with_reducible refine (spec_l1In.calls a1 1 6 true _ A16.out).mono ?_); rintro e w' ⟨rfl, ⟨nd, rfl⟩⟩; refine ⟨_, rfl, ?_⟩) | (go_at_call 32; (with_reducible refine (spec_l1In.calls (l0.length : Int) 1 8 true _ A18.out).mono ?_); rintro e w' ⟨rfl, ⟨nd, rfl⟩⟩; obtain ⟨Ao20, co20, eo20⟩ := Kd.R_slice HO_5.out; subst eo20))
      go_ret
      exact ⟨eB, bG⟩
     ·replace c19 := Bool.eq_false_iff.mpr c19
      subst c19
      have H1 : (some false) = some r := by first | (with_reducible rfl) | (rw [if_neg (show ¬ (false = true) by decide)] at H; exact H)
      clear H
      have H := H1
      clear H1
      obtain rfl := Option.some.inj H
      go_wp2_with (first | ((with_reducible refine gate_callee (f := 32) rfl ?_); refine goesL_ (some 37) rfl rfl Try.func32 (by kernel_rfl) rfl #[.int .i64 a1, .int .i64 1, .int .i64 6] rfl mB ?_; (with_reducible refine (spec_l1In.calls a1 1 6 true _ A16.out).mono ?_); rintro e w' ⟨rfl, ⟨nd, rfl⟩⟩; refine ⟨_, rfl, ?_⟩) | (go_at_call 32; (with_reducible refine (spec_l1In.calls (l0.length : Int) 1 8 false _ A18.out).mono ?_); rintro e w' ⟨rfl, ⟨nd, rfl⟩⟩))
      go_ret
      exact ⟨eB, bG⟩
    ·replace c17 := Bool.eq_false_iff.mpr c17
     subst c17
     have H1 : (some false) = some r := by first | (with_reducible rfl) | (rw [if_neg (show ¬ (false = true) by decide)] at H; exact H)
     clear H
     have H := H1
     clear H1
     obtain rfl := Option.some.inj H
     go_wp2_with (first | ((with_reducible refine gate_callee (f := 32) rfl ?_); refine goesL_ (some 37) rfl rfl Try.func32 (by kernel_rfl) rfl #[.int .i64 a1, .int .i64 1, .int .i64 6] rfl mB ?_; (with_reducible refine (spec_l1In.calls a1 1 6 false _ A16.out).mono ?_); rintro e w' ⟨rfl, ⟨nd, rfl⟩⟩; refine ⟨_, rfl, ?_⟩))
     go_ret
     exact ⟨eB, bG⟩

end Go.Proofs.Ytmelechhnimlnad.G
