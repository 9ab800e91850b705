/- Written by a program of this claim's own, out of the translation: functions of the program as plain functions, and that the calls answer as these. No conditions. -/
import Derived.Test.YtaddemalepndfaiG0
import Derived.Test.YtaddemalepndfaiG2
import Derived.Test.YtaddemalepndfaiG4
namespace Go.Proofs.Ytaddemalepndfai.G
open Go.RowKit Go.Proofs.Ytaddemalepndfai.X Go.Proofs.YtaddemalepndfaiW.PrintWords Go.Proofs.YtaddemalepndfaiW.PrintLast Go.Proofs.YtaddemalepndfaiW.PrintMore
attribute [local go_sem] max2_int min2_int max_two min_two max_three min_three max_four min_four   -- for this text's walks alone
set_option linter.unusedVariables false
set_option linter.unusedSimpArgs false

/-! ### impl_ReadRow: function 11 -/
mutual
def impl_ReadRow.j0 : Nat → ByteArray → Bool → Option (List Int × Bool)
 | 0, _, _ => none
 | k + 1, x0, x15 => if x15 = true then (some (([] : List Int), false)) else (impl_ReadRow.l0 k x0 1 ([] : List Int))
def impl_ReadRow.l0 : Nat → ByteArray → Int → List Int → Option (List Int × Bool)
 | 0, _, _, _ => none
 | k + 1, x0, x5, x211000 => if x5 < (x0.size : Int) then (if 0 ≤ x5 then (if 0 ≤ (wrap64 (x5 + 1)) then (if (wrap64 (x5 + 1)) < (x0.size : Int) then (if 0 ≤ (wrap64 (x5 + 2)) then (if (wrap64 (x5 + 2)) < (x0.size : Int) then (if x211000.length < 17592186044416 then (impl_ReadRow.l0 k x0 (wrap64 (x5 + 3)) (x211000 ++ [wrap64 ((Go.bits .or .i64 (Go.bits .or .i64 (wrap64 ((wrap64 (bt x0 x5)) * 65536)) (wrap64 ((wrap64 (bt x0 (wrap64 (x5 + 1)))) * 256))) (wrap64 (bt x0 (wrap64 (x5 + 2))))) - 100000)])) else (none)) else (none)) else (none)) else (none)) else (none)) else (none)) else ((impl_GoodRow.f x211000).bind fun t214 => (if t214 = true then ((impl_rowBytes.f k x211000).bind fun t215 => (if t215.toList = x0.toList then (some (x211000, true)) else (some (([] : List Int), false)))) else (some (([] : List Int), false))))
end
def impl_ReadRow.f (k : Nat) (a0 : ByteArray) : Option (List Int × Bool) := (impl_within.f (a0.size : Int) 1 19).bind fun t209 => (if t209 = true then (impl_ReadRow.j0 k a0 (((a0.size : Int) % 3) != 1)) else (impl_ReadRow.j0 k a0 true))
theorem impl_ReadRow.mono_l : ∀ k, (∀ y0 y1, LeO (impl_ReadRow.j0 k y0 y1) (impl_ReadRow.j0 (k + 1) y0 y1)) ∧ (∀ y0 y1 y2, LeO (impl_ReadRow.l0 k y0 y1 y2) (impl_ReadRow.l0 (k + 1) y0 y1 y2))
 | 0 => ⟨fun _ _ r h => by simp [impl_ReadRow.j0] at h, fun _ _ _ r h => by simp [impl_ReadRow.l0] at h⟩
 | k + 1 => by
  obtain ⟨ih0, ih1⟩ := impl_ReadRow.mono_l k
  refine ⟨?_, ?_⟩
  ·intro y0 y1
   unfold impl_ReadRow.j0
   repeat' first
   | (with_reducible exact ih0 _ _)
   | (with_reducible exact ih1 _ _ _)
   | (with_reducible exact impl_rowBytes.mono _ _)
   | (with_reducible exact LeO.refl _)
   | (with_reducible exact LeO.none _)
   | (with_reducible refine LeO.ite ?_ ?_)
   | (with_reducible refine LeO.bind ?_ (fun _ => ?_))
   | exact ih0 _ _
   | exact ih1 _ _ _
   | exact impl_rowBytes.mono _ _
   | exact LeO.none _
   | refine LeO.ite ?_ ?_
   | refine LeO.bind ?_ (fun _ => ?_)
  ·intro y0 y1 y2
   unfold impl_ReadRow.l0
   repeat' first
   | (with_reducible exact ih0 _ _)
   | (with_reducible exact ih1 _ _ _)
   | (with_reducible exact impl_rowBytes.mono _ _)
   | (with_reducible exact LeO.refl _)
   | (with_reducible exact LeO.none _)
   | (with_reducible refine LeO.ite ?_ ?_)
   | (with_reducible refine LeO.bind ?_ (fun _ => ?_))
   | exact ih0 _ _
   | exact ih1 _ _ _
   | exact impl_rowBytes.mono _ _
   | exact LeO.none _
   | refine LeO.ite ?_ ?_
   | refine LeO.bind ?_ (fun _ => ?_)
theorem impl_ReadRow.mono : ∀ a0 k, LeO (impl_ReadRow.f k a0) (impl_ReadRow.f (k + 1) a0) := by
 intro a0 k
 obtain ⟨ih0, ih1⟩ := impl_ReadRow.mono_l k
 unfold impl_ReadRow.f
 repeat' first
   | (with_reducible exact ih0 _ _)
   | (with_reducible exact ih1 _ _ _)
   | (with_reducible exact impl_rowBytes.mono _ _)
   | (with_reducible exact LeO.refl _)
   | (with_reducible exact LeO.none _)
   | (with_reducible refine LeO.ite ?_ ?_)
   | (with_reducible refine LeO.bind ?_ (fun _ => ?_))
   | exact ih0 _ _
   | exact ih1 _ _ _
   | exact impl_rowBytes.mono _ _
   | exact LeO.none _
   | refine LeO.ite ?_ ?_
   | refine LeO.bind ?_ (fun _ => ?_)
def impl_ReadRow.T7 : Bool × List (List Nat × List Nat) := (true, [([], []), ([0], [0]), ([], []), ([], []), ([2, 3], [2, 3]), ([4], [4]), ([5], [5]), ([], []), ([], []), ([8], [8]), ([7, 9], [7, 9]), ([10], [10]), ([11], [11]), ([6, 12], [6, 12]), ([], []), ([], []), ([15], [15]), ([14, 16], [14, 16]), ([17], [17]), ([13, 18], [13, 18]), ([19], [19]), ([20], [20]), ([1, 21], [1, 21]), ([0, 1, 2, 3, 4, 5, 6, 7, 8, 9, 10, 11, 12, 13, 14, 15, 16, 17, 18, 19, 20, 21, 22], []), ([23, 22, 22, 0, 1, 2, 3, 4, 5, 6, 7, 8, 9, 10, 11, 12, 13, 14, 15, 16, 17, 18, 19, 20, 21, 22], [22, 23])])
def impl_ReadRow.B7 : List Nat := [0, 1, 0, 0, 12, 28, 60, 0, 0, 256, 896, 1920, 3968, 8188, 0, 0, 32768, 114688, 245760, 524284, 1048572, 2097148, 4194303, 8388607, 16777215]
theorem impl_ReadRow.tab7 : rtab .any (opsOf Try.f11 7) = impl_ReadRow.T7 := by kernel_rfl
theorem impl_ReadRow.bits7 : waitsOk impl_ReadRow.T7.2 impl_ReadRow.B7 = true := by kernel_rfl
set_option maxHeartbeats 8000000 in
set_option maxRecDepth 100000 in
theorem impl_ReadRow.calls (k : Nat) (a0 : ByteArray) (r1 : List Int) (r2 : Bool) (w : World) (h : impl_ReadRow.f k a0 = some (r1, r2)) :
  Calls Try.prog 11 #[.string a0] w fun e w' => ∃ v0_ : Value, e = .returned (.tuple #[.agg #[v0_], .bool r2]) ∧ Kd.R (Kd.int .i64) 3 w' w.heap.size (fun _ => True) v0_ r1 ∧ Below w.heap.size w w' := by
 have hu25 := Try.underlying25
 have HB := xm (Below.refl w.heap.size w)
 have H : ((impl_within.f (a0.size : Int) 1 19).bind fun t209 => (if t209 = true then (impl_ReadRow.j0 k a0 (((a0.size : Int) % 3) != 1)) else (impl_ReadRow.j0 k a0 true))) = some (r1, r2) := h
 clear h
 have HC2 := xm H
 clear H
 go_enter Try.func11, Try.ntmps11
 go_upto_region 1 with (first | ((with_reducible refine gate_dst (N := 2) rfl ?_); (try (refine gate_guard (by rfl) ?_; dsimp only)); refine box_event ?hg (N := 2) ?hd (cs := #[.slice none 0 0]) (t := 25) ?hr ?_; (case hd => rfl); (case hg => rfl); (case hr => exact zB); intro gb208 hg w3 hbox hb; have n0_ := xm (below_step bB hb); have n1_ := xm (hbox); have n2_ := xm ((by rw [hg]; exact (xz bB) : w.heap.size ≤ gb208)); have n3_ := xm ((by rw [hg]; exact (xz bB) : w.heap.size ≤ gb208)); revert n0_ n1_ n2_ n3_; clear HB; intro HB BK208 GW208 GE208; clear hb hbox hg))
 (try simp only [Act.put, xi, xj, xk])
 go_cut [15] (fun v15 wc => ∃ (kq : Nat) (x15_1 : Bool), v15 = .bool x15_1 ∧ Aside0 (impl_ReadRow.j0 kq a0 x15_1 = some (r1, r2)) ∧ Aside0 (kq ≤ k) ∧ Aside0 (wc.heap[gb208]? = some (.cells #[(.slice none 0 0)] 25 (0, 0))) ∧ Aside0 (Below w.heap.size w wc))
 case first =>
  have H := HC2.out
  clear HC2
  replace H := Option.bind_eq_some_iff.mp H
  obtain ⟨t209, A40, H⟩ := H
  replace H : (if t209 = true then (impl_ReadRow.j0 k a0 (((a0.size : Int) % 3) != 1)) else (impl_ReadRow.j0 k a0 true)) = some (r1, r2) := H
  have A4 := xm A40
  clear A40
  by_cases c5 : t209 = true
  ·subst c5
   have H1 : (impl_ReadRow.j0 k a0 (((a0.size : Int) % 3) != 1)) = some (r1, r2) := by first | (with_reducible rfl) | (rw [if_pos rfl] at H; exact H)
   clear H
   have H := H1
   clear H1
   have H' := xm H
   clear H
   go_wp2_with (first | ((with_reducible refine gate_callee (f := 24) rfl ?_); refine goesL_ (some 8) rfl rfl Try.func24 (by kernel_rfl) rfl #[.int .i64 (a0.size : Int), .int .i64 1, .int .i64 19] rfl mB ?_; (with_reducible refine (impl_within.calls (a0.size : Int) 1 19 true _ A4.out).mono ?_); rintro e w' ⟨rfl, ⟨nd, rfl⟩⟩; refine ⟨_, rfl, ?_⟩))
   go_meet
   case rel => exact ⟨_, ((((a0.size : Int) % 3) != 1)), sB, H', ⟨by first | omega | exact Nat.le_refl _⟩, ⟨kB BK208⟩, ⟨bG⟩⟩
  ·replace c5 := Bool.eq_false_iff.mpr c5
   subst c5
   have H1 : (impl_ReadRow.j0 k a0 true) = some (r1, r2) := by first | (with_reducible rfl) | (rw [if_neg (show ¬ (false = true) by decide)] at H; exact H)
   clear H
   have H := H1
   clear H1
   have H' := xm H
   clear H
   go_wp2_with (first | ((with_reducible refine gate_callee (f := 24) rfl ?_); refine goesL_ (some 8) rfl rfl Try.func24 (by kernel_rfl) rfl #[.int .i64 (a0.size : Int), .int .i64 1, .int .i64 19] rfl mB ?_; (with_reducible refine (impl_within.calls (a0.size : Int) 1 19 false _ A4.out).mono ?_); rintro e w' ⟨rfl, ⟨nd, rfl⟩⟩; refine ⟨_, rfl, ?_⟩))
   go_meet
   case rel => exact ⟨_, (true), sB, H', ⟨by first | omega | exact Nat.le_refl _⟩, ⟨kB BK208⟩, ⟨bG⟩⟩
 case rest =>
  clear HC2
  try clear c1
  try clear c2
  try clear p2
  try clear c5
  obtain ⟨kq, x15_1, rfl, HA, HJ1, BK208, HB⟩ := hcut
  cases kq with
  | zero => exact absurd HA.out (by simp [impl_ReadRow.j0])
  | succ kj1 =>
   have H := HA.out
   clear HA
   simp only [impl_ReadRow.j0] at H
   by_cases c6 : x15_1 = true
   ·subst c6
    have H1 : (some (([] : List Int), false)) = some (r1, r2) := by first | (with_reducible rfl) | (rw [if_pos rfl] at H; exact H)
    clear H
    have H := H1
    clear H1
    simp only [Option.some.injEq, Prod.mk.injEq] at H
    obtain ⟨rfl, rfl⟩ := H
    obtain ⟨hcz7_0, hfz7_0⟩ := cz1 BK208.out
    go_wp2
    refine bodyPost_ret (results_ct rfl _ _ gb208 25 #[.slice none 0 0] (0, 0) _ rfl (by (with_reducible repeat (first | refine xq ?_ _ | refine xr ?_ | refine xo ?_ _)); refine blk_put (cs := #[.slice none 0 0]) ?_ 0 _ rfl; (with_reducible repeat (first | refine xq ?_ _ | refine xr ?_ | refine xo ?_ _)); exact BK208.out) Try.underlying25 rfl (by kernel_rfl)) rfl ?_
    exact ⟨_, eB, by first | exact Kd.R_nil _ _ _ _ _ | exact Kd.N_nil _ _ _ _ _ | exact Kd.V_nil _ _ _ _ _ | exact Kd.Q_nil _ _ _ _ _ | exact Kd.S_nil _ _ _ _ _, bG⟩
   ·replace c6 := Bool.eq_false_iff.mpr c6
    subst c6
    have H1 : (impl_ReadRow.l0 kj1 a0 1 ([] : List Int)) = some (r1, r2) := by first | (with_reducible rfl) | (rw [if_neg (show ¬ (false = true) by decide)] at H; exact H)
    clear H
    have H := H1
    clear H1
    have H' := xm H
    clear H
    go_wp2_with (first | ((with_reducible refine gate_dst (N := 4) rfl ?_); (try (refine gate_guard (by rfl) ?_; dsimp only)); refine box_event ?hg (N := 4) ?hd (cs := #[.slice none 0 0]) (t := 25) ?hr ?_; (case hd => rfl); (case hg => rfl); (case hr => exact zB); intro gb210 hg w8 hbox hb; have n0_ := xm (blk_below (kB BK208) hb); have n1_ := xm (below_step bG hb); have n2_ := xm (hbox); have n3_ := xm ((by rw [hg]; exact (xz bG) : w.heap.size ≤ gb210)); have n4_ := xm ((by rw [hg]; exact (xz bG) : w.heap.size ≤ gb210)); have n5_ := xm ((by rw [hg]; exact Nat.ne_of_lt (blk_lt (kB BK208)) : gb208 ≠ gb210)); have n6_ := xm ((by rw [hg]; exact Nat.ne_of_gt (blk_lt (kB BK208)) : gb210 ≠ gb208)); revert n0_ n1_ n2_ n3_ n4_ n5_ n6_; clear BK208 HB; intro BK208 HB BK210 GW210 GE210 NB208_210 NB210_208; clear hb hbox hg))
    go_loopg [5] kj1 (fun kq v5 w' => ∃ (x5_2 : Int) (x211000_2 : List Int) (u211000 : Value), v5 = .int .i64 x5_2 ∧ Aside0 (impl_ReadRow.l0 kq a0 x5_2 x211000_2 = some (r1, r2)) ∧ Aside0 (kq ≤ kj1) ∧ Aside0 (Kd.R (Kd.int .i64) 3 w' w.heap.size (fun _ => True) u211000 x211000_2) ∧ Aside0 (w'.heap[gb208]? = some (.cells #[(.slice none 0 0)] 25 (0, 0))) ∧ Aside0 (w'.heap[gb210]? = some (.cells #[u211000] 25 (0, 0))) ∧ Aside0 (Below w.heap.size w w'))
    case atStart => exact ⟨(1), (([] : List Int)), (.slice none 0 0), sB, H', ⟨Nat.le_refl _⟩, ⟨by first | exact Kd.R_nil _ _ _ _ _ | exact Kd.N_nil _ _ _ _ _ | exact Kd.V_nil _ _ _ _ _ | exact Kd.Q_nil _ _ _ _ _ | exact Kd.S_nil _ _ _ _ _⟩, ⟨kB BK208⟩, ⟨kB BK210⟩, ⟨bG⟩⟩
    case round =>
     clear H'
     try clear c1
     try clear c2
     try clear p2
     try clear c5
     try clear c6
     try clear hcz7_0 hfz7_0
     try clear p2
     obtain ⟨x5_2, x211000_2, u211000, rfl, HA, HK2, HO_211000, BK208, BK210, HB⟩ := hrel
     cases gk with
     | zero => exact absurd HA.out (by simp [impl_ReadRow.l0])
     | succ k2 =>
      have H := HA.out
      clear HA
      simp only [impl_ReadRow.l0] at H
      by_cases c9 : x5_2 < (a0.size : Int)
      ·rw [if_pos c9] at H
       have c9b0 : decide (x5_2 < (a0.size : Int)) = true := decide_eq_true c9
       clear c9
       by_cases c10 : 0 ≤ x5_2
       ·rw [if_pos c10] at H
        have c10b0 : decide (0 ≤ x5_2) = true := decide_eq_true c10
        clear c10
        obtain ⟨ji12, hji12⟩ : ∃ j_ : Int, (wrap64 (x5_2 + 1)) = j_ := ⟨_, rfl⟩
        replace H : (if 0 ≤ (ji12) then (if (ji12) < (a0.size : Int) then (if 0 ≤ (wrap64 (x5_2 + 2)) then (if (wrap64 (x5_2 + 2)) < (a0.size : Int) then (if x211000_2.length < 17592186044416 then (impl_ReadRow.l0 k2 a0 (wrap64 (x5_2 + 3)) (x211000_2 ++ [wrap64 ((Go.bits .or .i64 (Go.bits .or .i64 (wrap64 ((wrap64 (bt a0 x5_2)) * 65536)) (wrap64 ((wrap64 (bt a0 (ji12))) * 256))) (wrap64 (bt a0 (wrap64 (x5_2 + 2))))) - 100000)])) else (none)) else (none)) else (none)) else (none)) else (none)) = some (r1, r2) := by first | (rw [hji12] at H; exact H) | (simp only [hji12] at H ⊢; exact H)
        have hji12w : (IntKind.i64.wrap (x5_2 + 1)) = ji12 := (i64_w _).trans hji12
        by_cases c13 : 0 ≤ (ji12)
        ·rw [if_pos c13] at H
         have c13b0 : decide (0 ≤ (ji12)) = true := decide_eq_true c13
         clear c13
         by_cases c14 : (ji12) < (a0.size : Int)
         ·rw [if_pos c14] at H
          have c14b0 : decide ((ji12) < (a0.size : Int)) = true := decide_eq_true c14
          clear c14
          obtain ⟨ji16, hji16⟩ : ∃ j_ : Int, (wrap64 (x5_2 + 2)) = j_ := ⟨_, rfl⟩
          replace H : (if 0 ≤ (ji16) then (if (ji16) < (a0.size : Int) then (if x211000_2.length < 17592186044416 then (impl_ReadRow.l0 k2 a0 (wrap64 (x5_2 + 3)) (x211000_2 ++ [wrap64 ((Go.bits .or .i64 (Go.bits .or .i64 (wrap64 ((wrap64 (bt a0 x5_2)) * 65536)) (wrap64 ((wrap64 (bt a0 (ji12))) * 256))) (wrap64 (bt a0 (ji16)))) - 100000)])) else (none)) else (none)) else (none)) = some (r1, r2) := by first | (rw [hji16] at H; exact H) | (simp only [hji16] at H ⊢; exact H)
          have hji16w : (IntKind.i64.wrap (x5_2 + 2)) = ji16 := (i64_w _).trans hji16
          by_cases c17 : 0 ≤ (ji16)
          ·rw [if_pos c17] at H
           have c17b0 : decide (0 ≤ (ji16)) = true := decide_eq_true c17
           clear c17
           by_cases c18 : (ji16) < (a0.size : Int)
           ·rw [if_pos c18] at H
            have c18b0 : decide ((ji16) < (a0.size : Int)) = true := decide_eq_true c18
            clear c18
            by_cases c20 : x211000_2.length < 17592186044416
            ·rw [if_pos c20] at H
             have LMc20 := xm c20
             clear c20
             obtain ⟨y211, hy211⟩ : ∃ y_ : List Int, y_ = (x211000_2 ++ [wrap64 ((Go.bits .or .i64 (Go.bits .or .i64 (wrap64 ((wrap64 (bt a0 x5_2)) * 65536)) (wrap64 ((wrap64 (bt a0 (ji12))) * 256))) (wrap64 (bt a0 (ji16)))) - 100000)]) := ⟨_, rfl⟩
             replace H : (impl_ReadRow.l0 k2 a0 (wrap64 (x5_2 + 3)) y211) = some (r1, r2) := by first | (rw [hy211]; with_reducible exact H) | (have H2_ := (Option.bind_some _ _).symm.trans H; rw [hy211]; with_reducible exact H2_) | (have H2_ := (Option.bind_some _ _).symm.trans H; with_reducible exact H2_) | with_reducible exact H | (rw [hy211]; exact H) | exact H
             have Ny211 := xm hy211
             clear hy211
             have H' := xm H
             clear H
             try go_wp2
             have n0_ := xm (Kd.R_drew HO_211000.out)
             have n1_ := xm (xr BK208.out)
             have n2_ := xm (xr BK210.out)
             have n3_ := xm (xd HB.out)
             revert n0_ n1_ n2_ n3_; clear HO_211000 BK208 BK210 HB; intro HO_211000 BK208 BK210 HB
             have p11 : 0 ≤ (x5_2 : Int) := of_decide_eq_true aB
             have q11 : x5_2 < (a0.size : Int) := of_decide_eq_true aB
             have hx11 := bt_at a0 x5_2
             replace p11 := eq_true p11
             replace q11 := eq_true q11
             have p15 : 0 ≤ ((ji12) : Int) := of_decide_eq_true aB
             have q15 : (ji12) < (a0.size : Int) := of_decide_eq_true aB
             have hx15 := bt_at a0 (ji12)
             replace p15 := eq_true p15
             replace q15 := eq_true q15
             have p19 : 0 ≤ ((ji16) : Int) := of_decide_eq_true aB
             have q19 : (ji16) < (a0.size : Int) := of_decide_eq_true aB
             have hx19 := bt_at a0 (ji16)
             replace p19 := eq_true p19
             replace q19 := eq_true q19
             refine start_ (n := 25) (S := fun w' => w'.cell? ⟨gb210, 0, none⟩ = some (u211000)) (ds := [24]) #[Z,Z,Z,Z,Z,Z,Z,Z,Z,Z,Z,Z,Z,Z,Z,Z,Z,Z,Z,Z,Z,Z,Z,Z,Z] (by kernel_rfl) rfl rfl ((xc BK210.out 0).trans rfl) (fun hHeld => ?_); refine with_tabW impl_ReadRow.tab7 impl_ReadRow.bits7 (fun HT_ HW_ => ?_)
             generalize wr.drew = w21 at HO_211000 BK208 BK210 HB hHeld ⊢
             refine pu 0 25 1 ?_
             refine pu 2 25 5 ?_
             refine pu 3 25 13 ?_
             refine pu 7 25 141 ?_
             refine pu 8 25 397 ?_
             refine pu 9 25 909 ?_
             refine pu 14 25 17293 ?_
             refine pu 15 25 50061 ?_
             refine pu 16 25 115597 ?_
             refine take_ (i := 1) (N := some 24) (v := ?_) (a' := ?_) #[Y,Y,Y,Y,Z,Z,Z,Y,Y,Y,Z,Z,Z,Z,Y,Y,Y,Z,Z,Z,Z,Z,Z,Z,Z] rfl rfl (take_ofW HT_.out HW_.out (by kernel_rfl)) (fun _ _ _ h => h) (Or.inl ⟨by rfl, ?_⟩) hHeld ?_ ?_
             rotate_left
             ·intro w' s0
              go_simp
              with_reducible rfl
             rotate_left
             ·simp only [Act.put, xi, xj, xk, i64_w, i32_w]
              rfl
             refine take_ (i := 4) (N := some 27) (v := ?_) (a' := ?_) #[Y,Y,Y,Y,Y,Z,Z,Y,Y,Y,Z,Z,Z,Z,Y,Y,Y,Z,Z,Z,Z,Z,Z,Z,Z] rfl rfl (take_ofW HT_.out HW_.out (by kernel_rfl)) (fun _ _ _ h => h) (Or.inl ⟨by rfl, ?_⟩) hHeld ?_ ?_
             rotate_left
             ·intro w' s0
              go_simp
              with_reducible rfl
             rotate_left
             ·simp only [Act.put, xi, xj, xk, i64_w, i32_w]
              rfl
             refine pu 5 25 115647 ?_
             refine pu 6 25 115711 ?_
             refine take_ (i := 10) (N := some 33) (v := ?_) (a' := ?_) #[Y,Y,Y,Y,Y,Y,Y,Y,Y,Y,Y,Z,Z,Z,Y,Y,Y,Z,Z,Z,Z,Z,Z,Z,Z] rfl rfl (take_ofW HT_.out HW_.out (by kernel_rfl)) (fun _ _ _ h => h) (Or.inl ⟨by rfl, ?_⟩) hHeld ?_ ?_
             rotate_left
             ·intro w' s0
              go_simp
              with_reducible rfl
             rotate_left
             ·simp only [Act.put, xi, xj, xk, i64_w, i32_w]
              rfl
             refine pu 11 25 118783 ?_
             refine pu 12 25 122879 ?_
             refine pu 13 25 131071 ?_
             refine take_ (i := 17) (N := some 40) (v := ?_) (a' := ?_) #[Y,Y,Y,Y,Y,Y,Y,Y,Y,Y,Y,Y,Y,Y,Y,Y,Y,Y,Z,Z,Z,Z,Z,Z,Z] rfl rfl (take_ofW HT_.out HW_.out (by kernel_rfl)) (fun _ _ _ h => h) (Or.inl ⟨by rfl, ?_⟩) hHeld ?_ ?_
             rotate_left
             ·intro w' s0
              go_simp
              with_reducible rfl
             rotate_left
             ·simp only [Act.put, xi, xj, xk, i64_w, i32_w]
              rfl
             refine pu 18 25 524287 ?_
             refine pu 19 25 1048575 ?_
             refine pu 20 25 2097151 ?_
             refine one_ (i := 21) (N := some 44) #[Y,Y,Y,Y,Y,Y,Y,Y,Y,Y,Y,Y,Y,Y,Y,Y,Y,Y,Y,Y,Y,Y,Z,Z,Z] rfl rfl (one_of HT_.out (by kernel_rfl)) (by decide) (fun K hK => ?_)
             refine value_ (w1 := ?_) (v := ?_) (by rfl) rfl ?_ ?_
             rotate_left 2
             ·go_simp
              constructor
              ·rfl
              ·rfl
             refine hK.out _ _ ((xc (xo BK210.out _) 0).trans rfl) (fun hHeld => nC ?_)
             clear hK K
             refine one_ (i := 22) (N := some 45) #[Y,Y,Y,Y,Y,Y,Y,Y,Y,Y,Y,Y,Y,Y,Y,Y,Y,Y,Y,Y,Y,Y,Y,Z,Z] rfl rfl (one_of HT_.out (by kernel_rfl)) (by decide) (fun K hK => ?_)
             refine Kd.R_append_step (Kd.int .i64) (w0 := w) w.heap.size (by rfl) (.tmp 24) (.tmp 44) 23 3 (.int .i64 0) 8 rfl Try.underlying23 info3 rfl (by decide) (by omega) u211000 x211000_2 (wrap64 ((Go.bits .or .i64 (Go.bits .or .i64 (wrap64 ((wrap64 (bt a0 x5_2)) * 65536)) (wrap64 ((wrap64 (bt a0 (ji12))) * 256))) (wrap64 (bt a0 (ji16)))) - 100000)) [.int .i64 (wrap64 ((Go.bits .or .i64 (Go.bits .or .i64 (wrap64 ((wrap64 (bt a0 x5_2)) * 65536)) (wrap64 ((wrap64 (bt a0 (ji12))) * 256))) (wrap64 (bt a0 (ji16)))) - 100000))] (fun _ => True) (fun _ => False) rfl rfl ?aP (fun _ hk => hk.elim) ?aF ?aO ?aB ?aS ?aL ?_
             (case aP => exact rfl)
             (case aB => exact bG)
             (case aF => exact (fun _ _ => trivial))
             (case aO => exact (rB HO_211000))
             (case aS => exact (xz bG))
             (case aL => have := LMc20.out; omega)
             intro v212 w22 ho hb hg hat
             rw [← Ny211.out] at ho
             have n0_ := xm (blk_grown (kB BK208) hg (Kd.R_ne HO_211000.out BK208.out (by decide)))
             have n1_ := xm (blk_grown (kB BK210) hg (Kd.R_ne HO_211000.out BK210.out (by decide)))
             have n2_ := xm (hb)
             have n3_ := xm (ho)
             revert n0_ n1_ n2_ n3_; clear BK208 BK210 HB HO_211000; intro BK208 BK210 HB HO213
             clear ho hb hg hat
             obtain ⟨Ao23, co23, eo23⟩ := Kd.R_slice HO213.out
             (first | subst eo23 | (injection eo23 with f1_ f2_ f3_; have f4_ := f1_.symm; have f5_ := f3_.symm; clear f1_ f2_ f3_; subst f4_; subst f5_))
             refine hK.out _ _ ((xc BK210.out 0).trans rfl) (fun hHeld => nC ?_)
             clear hK K
             refine pu 23 25 16777215 ?_
             refine last_ (i := 24) (N := none) #[Y,Y,Y,Y,Y,Y,Y,Y,Y,Y,Y,Y,Y,Y,Y,Y,Y,Y,Y,Y,Y,Y,Y,Y,Y] rfl rfl (one_of HT_.out (by kernel_rfl)) (by decide) (fun K hK => ?_)
             have hs24 : w22.cell? ⟨gb210, 0, none⟩ = some (u211000) := (xc BK210.out 0).trans rfl
             have hfs24 := xf BK210.out 0
             have hns24_0 := NB208_210.out
             have hms24_0 := NB210_208.out
             refine skip_ (w1 := ?_) (by rfl) rfl ?_ ?_
             rotate_left
             ·go_simp
              rfl
             refine hK.out _ _ ?_
             clear hK K
             refine done_ (done_of HT_.out (by kernel_rfl)) ?_
             try go_wp2
             go_roundg k2
             case measure => have := HJ1.out; have := HK2.out; omega
             case rel => exact ⟨(wrap64 (x5_2 + 3)), (y211), (.slice Ao23 y211.length co23), sB, H', ⟨by have := HJ1.out; have := HK2.out; omega⟩, ⟨by (with_reducible repeat (first | apply Kd.R_alloc | apply Kd.R_drewN | apply Kd.R_drew)); exact Kd.R_mono (Kd.R_far (p := ⟨gb210, 0, none⟩) (Kd.R_types HO213.out BK210.out (by decide)) (fun _ hk => hk.2) (.slice Ao23 y211.length co23)) (fun _ hk => trivial)⟩, ⟨by (with_reducible repeat (first | refine xq ?_ _ | refine xr ?_ | refine xo ?_ _)); refine blk_far ?_ NB208_210.out _; (with_reducible repeat (first | refine xq ?_ _ | refine xr ?_ | refine xo ?_ _)); exact BK208.out⟩, ⟨by (with_reducible repeat (first | refine xq ?_ _ | refine xr ?_ | refine xo ?_ _)); refine blk_put (cs := #[u211000]) ?_ 0 _ rfl; (with_reducible repeat (first | refine xq ?_ _ | refine xr ?_ | refine xo ?_ _)); exact BK210.out⟩, ⟨bG⟩⟩
            ·rw [if_neg c20] at H
             exact absurd H (by simp)
           ·rw [if_neg c18] at H
            exact absurd H (by simp)
          ·rw [if_neg c17] at H
           exact absurd H (by simp)
         ·rw [if_neg c14] at H
          exact absurd H (by simp)
        ·rw [if_neg c13] at H
         exact absurd H (by simp)
       ·rw [if_neg c10] at H
        exact absurd H (by simp)
      ·rw [if_neg c9] at H
       have c9b0 : decide (x5_2 < (a0.size : Int)) = false := decide_eq_false c9
       clear c9
       replace H := Option.bind_eq_some_iff.mp H
       obtain ⟨t214, A250, H⟩ := H
       replace H : (if t214 = true then ((impl_rowBytes.f k2 x211000_2).bind fun t215 => (if t215.toList = a0.toList then (some (x211000_2, true)) else (some (([] : List Int), false)))) else (some (([] : List Int), false))) = some (r1, r2) := H
       have A25 := xm A250
       clear A250
       by_cases c26 : t214 = true
       ·subst c26
        have H1 : ((impl_rowBytes.f k2 x211000_2).bind fun t215 => (if t215.toList = a0.toList then (some (x211000_2, true)) else (some (([] : List Int), false)))) = some (r1, r2) := by first | (with_reducible rfl) | (rw [if_pos rfl] at H; exact H)
        clear H
        have H := H1
        clear H1
        replace H := Option.bind_eq_some_iff.mp H
        obtain ⟨t215, A270, H⟩ := H
        replace H : (if t215.toList = a0.toList then (some (x211000_2, true)) else (some (([] : List Int), false))) = some (r1, r2) := H
        have A27 := xm A270
        clear A270
        by_cases c28 : t215.toList = a0.toList
        ·rw [if_pos c28] at H
         have c28b0 : (t215.toList == a0.toList) = true := beq_iff_eq.mpr c28
         have c28b1 : (t215.toList != a0.toList) = false := bne_eq_false_iff_eq.mpr c28
         clear c28
         simp only [Option.some.injEq, Prod.mk.injEq] at H
         obtain ⟨rfl, rfl⟩ := H
         have hnb29 := NB210_208.out
         have hnc29 := NB208_210.out
         obtain ⟨hcz30_0, hfz30_0⟩ := cz1 BK210.out
         obtain ⟨Ao31, co31, eo31⟩ := Kd.R_slice HO_211000.out
         subst eo31
         go_wp2_with (first | ((with_reducible refine gate_callee (f := 9) rfl ?_); refine goesL_ (some 48) rfl rfl Try.func9 (by kernel_rfl) rfl #[.agg #[.slice Ao31 x211000_2.length co31]] rfl mB ?_; (with_reducible refine (impl_GoodRow.calls _ _ x211000_2 true _ ?side1 ?side2 A25.out).mono ?_); (case side1 => repeat (first | exact (Kd.R_reads' HO_211000.out).2.2 | (with_reducible refine Kd.C_alloc ?_ _) | (with_reducible refine Kd.C_drewN ?_ _) | (with_reducible refine Kd.C_drew ?_))); (case side2 => exact (Kd.R_reads' HO_211000.out).2.1); rintro e w32 ⟨rfl, hb⟩; refine ⟨_, rfl, ?_⟩; have n0_ := xm (Kd.R_below (rB HO_211000) hb); have n1_ := xm (blk_below (kB BK208) hb); have n2_ := xm (blk_below (kB BK210) hb); have n3_ := xm (below_step bG hb); revert n0_ n1_ n2_ n3_; clear HO_211000 BK208 BK210 HB; intro HO_211000 BK208 BK210 HB; (try clear hb); obtain ⟨hcz33_0, hfz33_0⟩ := cz1 BK210.out) | (go_at_call 20; (with_reducible refine (impl_rowBytes.calls k2 _ _ x211000_2 t215 _ ?side1 ?side2 A27.out).mono ?_); (case side1 => repeat (first | exact (Kd.R_reads' HO_211000.out).2.2 | (with_reducible refine Kd.C_alloc ?_ _) | (with_reducible refine Kd.C_drewN ?_ _) | (with_reducible refine Kd.C_drew ?_))); (case side2 => exact (Kd.R_reads' HO_211000.out).2.1); rintro e w34 ⟨rfl, hb⟩; have n0_ := xm (Kd.R_below (rB HO_211000) hb); have n1_ := xm (blk_below (kB BK208) hb); have n2_ := xm (blk_below (kB BK210) hb); have n3_ := xm (below_step bG hb); revert n0_ n1_ n2_ n3_; clear HO_211000 BK208 BK210 HB; intro HO_211000 BK208 BK210 HB; (try clear hb); obtain ⟨hcz35_0, hfz35_0⟩ := cz1 BK210.out; obtain ⟨hcz36_0, hfz36_0⟩ := cz1 BK208.out))
         refine bodyPost_ret (results_ct rfl _ _ gb208 25 #[.slice Ao31 x211000_2.length co31] (0, 0) _ rfl (by (with_reducible repeat (first | refine xq ?_ _ | refine xr ?_ | refine xo ?_ _)); refine blk_put (cs := #[.slice none 0 0]) ?_ 0 _ rfl; (with_reducible repeat (first | refine xq ?_ _ | refine xr ?_ | refine xo ?_ _)); exact BK208.out) Try.underlying25 rfl (by kernel_rfl)) rfl ?_
         exact ⟨_, eB, by (with_reducible repeat (first | apply Kd.R_alloc | apply Kd.R_drewN | apply Kd.R_drew)); exact Kd.R_mono (Kd.R_far (p := ⟨gb208, 0, none⟩) (Kd.R_types HO_211000.out BK208.out (by decide)) (fun _ hk => hk.2) (.slice Ao31 x211000_2.length co31)) (fun _ hk => trivial), bG⟩
        ·rw [if_neg c28] at H
         have c28b0 : (t215.toList == a0.toList) = false := beq_eq_false_iff_ne.mpr c28
         have c28b1 : (t215.toList != a0.toList) = true := bne_iff_ne.mpr c28
         simp only [Option.some.injEq, Prod.mk.injEq] at H
         obtain ⟨rfl, rfl⟩ := H
         have hnb37 := NB210_208.out
         have hnc37 := NB208_210.out
         obtain ⟨hcz38_0, hfz38_0⟩ := cz1 BK210.out
         obtain ⟨Ao39, co39, eo39⟩ := Kd.R_slice HO_211000.out
         subst eo39
         go_wp2_with (first | ((with_reducible refine gate_callee (f := 9) rfl ?_); refine goesL_ (some 48) rfl rfl Try.func9 (by kernel_rfl) rfl #[.agg #[.slice Ao39 x211000_2.length co39]] rfl mB ?_; (with_reducible refine (impl_GoodRow.calls _ _ x211000_2 true _ ?side1 ?side2 A25.out).mono ?_); (case side1 => repeat (first | exact (Kd.R_reads' HO_211000.out).2.2 | (with_reducible refine Kd.C_alloc ?_ _) | (with_reducible refine Kd.C_drewN ?_ _) | (with_reducible refine Kd.C_drew ?_))); (case side2 => exact (Kd.R_reads' HO_211000.out).2.1); rintro e w40 ⟨rfl, hb⟩; refine ⟨_, rfl, ?_⟩; have n0_ := xm (Kd.R_below (rB HO_211000) hb); have n1_ := xm (blk_below (kB BK208) hb); have n2_ := xm (blk_below (kB BK210) hb); have n3_ := xm (below_step bG hb); revert n0_ n1_ n2_ n3_; clear HO_211000 BK208 BK210 HB; intro HO_211000 BK208 BK210 HB; (try clear hb); obtain ⟨hcz41_0, hfz41_0⟩ := cz1 BK210.out) | (go_at_call 20; (with_reducible refine (impl_rowBytes.calls k2 _ _ x211000_2 t215 _ ?side1 ?side2 A27.out).mono ?_); (case side1 => repeat (first | exact (Kd.R_reads' HO_211000.out).2.2 | (with_reducible refine Kd.C_alloc ?_ _) | (with_reducible refine Kd.C_drewN ?_ _) | (with_reducible refine Kd.C_drew ?_))); (case side2 => exact (Kd.R_reads' HO_211000.out).2.1); rintro e w42 ⟨rfl, hb⟩; have n0_ := xm (Kd.R_below (rB HO_211000) hb); have n1_ := xm (blk_below (kB BK208) hb); have n2_ := xm (blk_below (kB BK210) hb); have n3_ := xm (below_step bG hb); revert n0_ n1_ n2_ n3_; clear HO_211000 BK208 BK210 HB; intro HO_211000 BK208 BK210 HB; (try clear hb); obtain ⟨hcz43_0, hfz43_0⟩ := cz1 BK208.out))
         refine bodyPost_ret (results_ct rfl _ _ gb208 25 #[.slice none 0 0] (0, 0) _ rfl (by (with_reducible repeat (first | refine xq ?_ _ | refine xr ?_ | refine xo ?_ _)); refine blk_put (cs := #[.slice none 0 0]) ?_ 0 _ rfl; (with_reducible repeat (first | refine xq ?_ _ | refine xr ?_ | refine xo ?_ _)); exact BK208.out) Try.underlying25 rfl (by kernel_rfl)) rfl ?_
         exact ⟨_, eB, by first | exact Kd.R_nil _ _ _ _ _ | exact Kd.N_nil _ _ _ _ _ | exact Kd.V_nil _ _ _ _ _ | exact Kd.Q_nil _ _ _ _ _ | exact Kd.S_nil _ _ _ _ _, bG⟩
       ·replace c26 := Bool.eq_false_iff.mpr c26
        subst c26
        have H1 : (some (([] : List Int), false)) = some (r1, r2) := by first | (with_reducible rfl) | (rw [if_neg (show ¬ (false = true) by decide)] at H; exact H)
        clear H
        have H := H1
        clear H1
        simp only [Option.some.injEq, Prod.mk.injEq] at H
        obtain ⟨rfl, rfl⟩ := H
        have hnb44 := NB210_208.out
        have hnc44 := NB208_210.out
        obtain ⟨hcz45_0, hfz45_0⟩ := cz1 BK210.out
        obtain ⟨Ao46, co46, eo46⟩ := Kd.R_slice HO_211000.out
        subst eo46
        go_wp2_with (first | ((with_reducible refine gate_callee (f := 9) rfl ?_); refine goesL_ (some 48) rfl rfl Try.func9 (by kernel_rfl) rfl #[.agg #[.slice Ao46 x211000_2.length co46]] rfl mB ?_; (with_reducible refine (impl_GoodRow.calls _ _ x211000_2 false _ ?side1 ?side2 A25.out).mono ?_); (case side1 => repeat (first | exact (Kd.R_reads' HO_211000.out).2.2 | (with_reducible refine Kd.C_alloc ?_ _) | (with_reducible refine Kd.C_drewN ?_ _) | (with_reducible refine Kd.C_drew ?_))); (case side2 => exact (Kd.R_reads' HO_211000.out).2.1); rintro e w47 ⟨rfl, hb⟩; refine ⟨_, rfl, ?_⟩; have n0_ := xm (Kd.R_below (rB HO_211000) hb); have n1_ := xm (blk_below (kB BK208) hb); have n2_ := xm (blk_below (kB BK210) hb); have n3_ := xm (below_step bG hb); revert n0_ n1_ n2_ n3_; clear HO_211000 BK208 BK210 HB; intro HO_211000 BK208 BK210 HB; (try clear hb); obtain ⟨hcz48_0, hfz48_0⟩ := cz1 BK208.out))
        refine bodyPost_ret (results_ct rfl _ _ gb208 25 #[.slice none 0 0] (0, 0) _ rfl (by (with_reducible repeat (first | refine xq ?_ _ | refine xr ?_ | refine xo ?_ _)); refine blk_put (cs := #[.slice none 0 0]) ?_ 0 _ rfl; (with_reducible repeat (first | refine xq ?_ _ | refine xr ?_ | refine xo ?_ _)); exact BK208.out) Try.underlying25 rfl (by kernel_rfl)) rfl ?_
        exact ⟨_, eB, by first | exact Kd.R_nil _ _ _ _ _ | exact Kd.N_nil _ _ _ _ _ | exact Kd.V_nil _ _ _ _ _ | exact Kd.Q_nil _ _ _ _ _ | exact Kd.S_nil _ _ _ _ _, bG⟩

end Go.Proofs.Ytaddemalepndfai.G
