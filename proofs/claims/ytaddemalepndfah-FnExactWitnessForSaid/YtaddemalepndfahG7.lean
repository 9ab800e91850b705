/- Written by a program of this claim's own, out of the translation: functions of the program as plain functions, and that the calls answer as these. No conditions. -/
import Derived.Test.YtaddemalepndfahG0
import Derived.Test.YtaddemalepndfahG2
import Derived.Test.YtaddemalepndfahG3
import Derived.Test.YtaddemalepndfahG6
namespace Go.Proofs.Ytaddemalepndfah.G
open Go.RowKit Go.Proofs.Ytaddemalepndfah.X Go.Proofs.YtaddemalepndfahW.PrintWords Go.Proofs.YtaddemalepndfahW.PrintLast Go.Proofs.YtaddemalepndfahW.PrintMore
attribute [local go_sem] max2_int min2_int max_two min_two max_three min_three max_four min_four   -- for this text's walks alone
set_option linter.unusedVariables false
set_option linter.unusedSimpArgs false

/-! ### spec_WitnessFor: function 6 -/
mutual
def spec_WitnessFor.j0 : Nat → List (S35) → Int → Bool → List Int → List Int → Option (Int × (List (S53)) × Bool)
 | 0, _, _, _, _, _ => none
 | k + 1, x0, x1, x25, x214000, x214001 => if x25 = true then (some (0, ([] : List (S53)), false)) else ((spec_l7Closure.f k x0 x214000).bind fun t217 => (spec_WitnessFor.l0 k x1 t217 0 ([] : List Int) ([] : List Int)))
def spec_WitnessFor.l0 : Nat → Int → List Int → Int → List Int → List Int → Option (Int × (List (S53)) × Bool)
 | 0, _, _, _, _, _ => none
 | k + 1, x1, x10, x13, x221000, x222000 => if x13 < x1 then (if x221000.length < 17592186044416 then ((some (x221000 ++ [0] : List Int)).bind fun y222 => ((spec_l1Has.f k x10 x13).bind fun t225 => (if t225 = true then (if x222000.length < 17592186044416 then (spec_WitnessFor.l0 k x1 x10 (wrap64 (x13 + 1)) y222 (x222000 ++ [0])) else (none)) else (if x222000.length < 17592186044416 then (spec_WitnessFor.l0 k x1 x10 (wrap64 (x13 + 1)) y222 (x222000 ++ [1])) else (none))))) else (none)) else ((spec_l2Tell.f k x1 (([(⟨(⟨x221000⟩ : S49), 1⟩ : S53), (⟨(⟨x222000⟩ : S49), 1⟩ : S53)] : List (S53)))).bind fun bt235 => (some (bt235.1, bt235.2.1, bt235.2.2)))
end
def spec_WitnessFor.f (k : Nat) (l0 : List (S35)) (a1 : Int) (l2_0 : List Int) (l2_1 : List Int) : Option (Int × (List (S53)) × Bool) := (spec_Implies.f k l0 a1 l2_0 l2_1).bind fun bt215 => (if bt215.1 = true then (spec_WitnessFor.j0 k l0 a1 true l2_0 l2_1) else (spec_WitnessFor.j0 k l0 a1 (!bt215.2) l2_0 l2_1))
theorem spec_WitnessFor.mono_l : ∀ k, (∀ y0 y1 y2 y3 y4, LeO (spec_WitnessFor.j0 k y0 y1 y2 y3 y4) (spec_WitnessFor.j0 (k + 1) y0 y1 y2 y3 y4)) ∧ (∀ y0 y1 y2 y3 y4, LeO (spec_WitnessFor.l0 k y0 y1 y2 y3 y4) (spec_WitnessFor.l0 (k + 1) y0 y1 y2 y3 y4))
 | 0 => ⟨fun _ _ _ _ _ r h => by simp [spec_WitnessFor.j0] at h, fun _ _ _ _ _ r h => by simp [spec_WitnessFor.l0] at h⟩
 | k + 1 => by
  obtain ⟨ih0, ih1⟩ := spec_WitnessFor.mono_l k
  refine ⟨?_, ?_⟩
  ·intro y0 y1 y2 y3 y4
   unfold spec_WitnessFor.j0
   repeat' first
   | (with_reducible exact ih0 _ _ _ _ _)
   | (with_reducible exact ih1 _ _ _ _ _)
   | (with_reducible exact spec_Implies.mono _ _ _ _ _)
   | (with_reducible exact spec_l1Has.mono _ _ _)
   | (with_reducible exact spec_l2Tell.mono _ _ _)
   | (with_reducible exact spec_l7Closure.mono _ _ _)
   | (with_reducible exact LeO.refl _)
   | (with_reducible exact LeO.none _)
   | (with_reducible refine LeO.ite ?_ ?_)
   | (with_reducible refine LeO.bind ?_ (fun _ => ?_))
   | exact ih0 _ _ _ _ _
   | exact ih1 _ _ _ _ _
   | exact spec_Implies.mono _ _ _ _ _
   | exact spec_l1Has.mono _ _ _
   | exact spec_l2Tell.mono _ _ _
   | exact spec_l7Closure.mono _ _ _
   | exact LeO.none _
   | refine LeO.ite ?_ ?_
   | refine LeO.bind ?_ (fun _ => ?_)
  ·intro y0 y1 y2 y3 y4
   unfold spec_WitnessFor.l0
   repeat' first
   | (with_reducible exact ih0 _ _ _ _ _)
   | (with_reducible exact ih1 _ _ _ _ _)
   | (with_reducible exact spec_Implies.mono _ _ _ _ _)
   | (with_reducible exact spec_l1Has.mono _ _ _)
   | (with_reducible exact spec_l2Tell.mono _ _ _)
   | (with_reducible exact spec_l7Closure.mono _ _ _)
   | (with_reducible exact LeO.refl _)
   | (with_reducible exact LeO.none _)
   | (with_reducible refine LeO.ite ?_ ?_)
   | (with_reducible refine LeO.bind ?_ (fun _ => ?_))
   | exact ih0 _ _ _ _ _
   | exact ih1 _ _ _ _ _
   | exact spec_Implies.mono _ _ _ _ _
   | exact spec_l1Has.mono _ _ _
   | exact spec_l2Tell.mono _ _ _
   | exact spec_l7Closure.mono _ _ _
   | exact LeO.none _
   | refine LeO.ite ?_ ?_
   | refine LeO.bind ?_ (fun _ => ?_)
theorem spec_WitnessFor.mono : ∀ a0 a1 a2 a3 k, LeO (spec_WitnessFor.f k a0 a1 a2 a3) (spec_WitnessFor.f (k + 1) a0 a1 a2 a3) := by
 intro a0 a1 a2 a3 k
 obtain ⟨ih0, ih1⟩ := spec_WitnessFor.mono_l k
 unfold spec_WitnessFor.f
 repeat' first
   | (with_reducible exact ih0 _ _ _ _ _)
   | (with_reducible exact ih1 _ _ _ _ _)
   | (with_reducible exact spec_Implies.mono _ _ _ _ _)
   | (with_reducible exact spec_l1Has.mono _ _ _)
   | (with_reducible exact spec_l2Tell.mono _ _ _)
   | (with_reducible exact spec_l7Closure.mono _ _ _)
   | (with_reducible exact LeO.refl _)
   | (with_reducible exact LeO.none _)
   | (with_reducible refine LeO.ite ?_ ?_)
   | (with_reducible refine LeO.bind ?_ (fun _ => ?_))
   | exact ih0 _ _ _ _ _
   | exact ih1 _ _ _ _ _
   | exact spec_Implies.mono _ _ _ _ _
   | exact spec_l1Has.mono _ _ _
   | exact spec_l2Tell.mono _ _ _
   | exact spec_l7Closure.mono _ _ _
   | exact LeO.none _
   | refine LeO.ite ?_ ?_
   | refine LeO.bind ?_ (fun _ => ?_)
set_option maxHeartbeats 8000000 in
set_option maxRecDepth 100000 in
theorem spec_WitnessFor.calls (k : Nat) (A0 : Option Addr) (c0 : Nat) (l0 : List (S35)) (a1 : Int) (A2_0 : Option Addr) (c2_0 : Nat) (l2_0 : List Int) (A2_1 : Option Addr) (c2_1 : Nat) (l2_1 : List Int) (r1 : Int) (r2 : List (S53)) (r3 : Bool) (w : World) (hr0 : Kd.C k35 w A0 l0.length l0) (hc0 : l0.length ≤ c0) (hr2_0 : Kd.C (Kd.int .i64) w A2_0 l2_0.length l2_0) (hc2_0 : l2_0.length ≤ c2_0) (hr2_1 : Kd.C (Kd.int .i64) w A2_1 l2_1.length l2_1) (hc2_1 : l2_1.length ≤ c2_1) (h : spec_WitnessFor.f k l0 a1 l2_0 l2_1 = some (r1, r2, r3)) :
  Calls Try.prog 6 #[.slice A0 l0.length c0, .int .i64 a1, .agg #[.slice A2_0 l2_0.length c2_0, .slice A2_1 l2_1.length c2_1]] w fun e w' => ∃ v1_ : Value, e = .returned (.tuple #[.agg #[.int .i64 r1, v1_], .bool r3]) ∧ Kd.S k53 53 w' w.heap.size (fun _ => True) v1_ r2 ∧ Below w.heap.size w w' := by
 have hu35 := Try.underlying35
 have hu30 := Try.underlying30
 have hu49 := Try.underlying49
 have hu53 := Try.underlying53
 have HR0 := xm hr0
 have HC0 := xm hc0
 clear hr0 hc0
 have HR2_0 := xm hr2_0
 have HC2_0 := xm hc2_0
 clear hr2_0 hc2_0
 have HR2_1 := xm hr2_1
 have HC2_1 := xm hc2_1
 clear hr2_1 hc2_1
 have HB := xm (Below.refl w.heap.size w)
 have H : ((spec_Implies.f k l0 a1 l2_0 l2_1).bind fun bt215 => (if bt215.1 = true then (spec_WitnessFor.j0 k l0 a1 true l2_0 l2_1) else (spec_WitnessFor.j0 k l0 a1 (!bt215.2) l2_0 l2_1))) = some (r1, r2, r3) := h
 clear h
 replace H := Option.bind_eq_some_iff.mp H
 obtain ⟨⟨t215, t216⟩, A40, H⟩ := H
 replace H : (if t215 = true then (spec_WitnessFor.j0 k l0 a1 true l2_0 l2_1) else (spec_WitnessFor.j0 k l0 a1 (!t216) l2_0 l2_1)) = some (r1, r2, r3) := H
 have A4 := xm A40
 clear A40
 have HC5 := xm H
 clear H
 go_enter Try.func6, Try.ntmps6
 go_upto_region 2 with (first | ((with_reducible refine gate_dst (N := 5) rfl ?_); refine box_event ?hg (N := 5) ?hd (cs := #[.slice A2_0 l2_0.length c2_0, .slice A2_1 l2_1.length c2_1]) (t := 35) ?hr ?_; (case hd => rfl); (case hg => rfl); (case hr => exact zB); intro gb213 hg w6 hbox hb; have n0_ := xm (below_step bB hb); have n1_ := xm (hbox); have n2_ := xm ((by rw [hg]; exact (xz bB) : w.heap.size ≤ gb213)); have n3_ := xm ((by rw [hg]; exact (xz bB) : w.heap.size ≤ gb213)); revert n0_ n1_ n2_ n3_; clear HB; intro HB BK213 GW213 GE213; clear hb hbox hg) | ((with_reducible refine gate_dst (N := 6) rfl ?_); refine box_event ?hg (N := 6) ?hd (cs := #[.int .i64 0, .slice none 0 0]) (t := 30) ?hr ?_; (case hd => rfl); (case hg => rfl); (case hr => exact zB); intro gb214 hg w7 hbox hb; have n0_ := xm (blk_below (kB BK213) hb); have n1_ := xm (below_step bG hb); have n2_ := xm (hbox); have n3_ := xm ((by rw [hg]; exact (xz bG) : w.heap.size ≤ gb214)); have n4_ := xm ((by rw [hg]; exact (xz bG) : w.heap.size ≤ gb214)); have n5_ := xm ((by rw [hg]; exact Nat.ne_of_lt (blk_lt (kB BK213)) : gb213 ≠ gb214)); have n6_ := xm ((by rw [hg]; exact Nat.ne_of_gt (blk_lt (kB BK213)) : gb214 ≠ gb213)); revert n0_ n1_ n2_ n3_ n4_ n5_ n6_; clear BK213 HB; intro BK213 HB BK214 GW214 GE214 NB213_214 NB214_213; clear hb hbox hg; have hnb8 := NB213_214.out; have hnc8 := NB214_213.out; obtain ⟨hcz9_0, hcz9_1, hfz9_0, hfz9_1⟩ := cz2 BK213.out) | ((with_reducible refine gate_callee (f := 18) rfl ?_); refine goesL_ (some 18) rfl rfl Try.func18 (by kernel_rfl) rfl #[.slice A0 l0.length c0, .int .i64 a1, .agg #[.slice A2_0 l2_0.length c2_0, .slice A2_1 l2_1.length c2_1]] rfl mB ?_; (with_reducible refine (spec_Implies.calls k _ _ l0 a1 _ _ l2_0 _ _ l2_1 t215 t216 _ ?side1 ?side2 ?side3 ?side4 ?side5 ?side6 A4.out).mono ?_); (case side1 => exact cB (Kd.C_below HR0.out HB.out)); (case side2 => exact HC0.out); (case side3 => exact cB (Kd.C_below HR2_0.out HB.out)); (case side4 => exact HC2_0.out); (case side5 => exact cB (Kd.C_below HR2_1.out HB.out)); (case side6 => exact HC2_1.out); rintro e w10 ⟨rfl, hb⟩; refine ⟨_, rfl, ?_⟩; have n0_ := xm (blk_below (kB BK213) hb); have n1_ := xm (blk_below (kB BK214) hb); have n2_ := xm (below_step bG hb); revert n0_ n1_ n2_; clear BK213 BK214 HB; intro BK213 BK214 HB; (try clear hb)))
 (try simp only [Act.put, xi, xj, xk])
 go_cut [25] (fun v25 wc => ∃ (kq : Nat) (x25_4 : Bool), v25 = .bool x25_4 ∧ Aside0 (spec_WitnessFor.j0 kq l0 a1 x25_4 l2_0 l2_1 = some (r1, r2, r3)) ∧ Aside0 (kq ≤ k) ∧ Aside0 (wc.heap[gb213]? = some (.cells #[(.slice A2_0 l2_0.length c2_0), (.slice A2_1 l2_1.length c2_1)] 35 (0, 0))) ∧ Aside0 (wc.heap[gb214]? = some (.cells #[.int .i64 0, (.slice none 0 0)] 30 (0, 0))) ∧ Aside0 (Below w.heap.size w wc))
 case first =>
  have H := HC5.out
  clear HC5
  by_cases c11 : t215 = true
  ·subst c11
   have H1 : (spec_WitnessFor.j0 k l0 a1 true l2_0 l2_1) = some (r1, r2, r3) := by first | (with_reducible rfl) | (rw [if_pos rfl] at H; exact H)
   clear H
   have H := H1
   clear H1
   have H' := xm H
   clear H
   go_wp2
   go_meet
   case rel => exact ⟨_, (true), sB, H', ⟨by first | omega | exact Nat.le_refl _⟩, ⟨kB BK213⟩, ⟨kB BK214⟩, ⟨bG⟩⟩
  ·replace c11 := Bool.eq_false_iff.mpr c11
   subst c11
   have H1 : (spec_WitnessFor.j0 k l0 a1 (!t216) l2_0 l2_1) = some (r1, r2, r3) := by first | (with_reducible rfl) | (rw [if_neg (show ¬ (false = true) by decide)] at H; exact H)
   clear H
   have H := H1
   clear H1
   have H' := xm H
   clear H
   go_wp2
   go_meet
   case rel => exact ⟨_, (!t216), sB, H', ⟨by first | omega | exact Nat.le_refl _⟩, ⟨kB BK213⟩, ⟨kB BK214⟩, ⟨bG⟩⟩
 case rest =>
  clear HC5
  try clear c1
  try clear c2
  try clear p2
  try clear c6
  try clear c8
  try clear c11
  try clear hcz9_0 hcz9_1 hfz9_0 hfz9_1
  obtain ⟨kq, x25_4, rfl, HA, HJ4, BK213, BK214, HB⟩ := hcut
  cases kq with
  | zero => exact absurd HA.out (by simp [spec_WitnessFor.j0])
  | succ kj4 =>
   have H := HA.out
   clear HA
   simp only [spec_WitnessFor.j0] at H
   by_cases c12 : x25_4 = true
   ·subst c12
    have H1 : (some (0, ([] : List (S53)), false)) = some (r1, r2, r3) := by first | (with_reducible rfl) | (rw [if_pos rfl] at H; exact H)
    clear H
    have H := H1
    clear H1
    simp only [Option.some.injEq, Prod.mk.injEq] at H
    obtain ⟨rfl, rfl, rfl⟩ := H
    have hnb13 := NB214_213.out
    have hnc13 := NB213_214.out
    obtain ⟨hcz14_0, hcz14_1, hfz14_0, hfz14_1⟩ := cz2 BK214.out
    go_wp2
    refine bodyPost_ret (results_ct rfl _ _ gb214 30 #[.int .i64 0, .slice none 0 0] (0, 0) _ rfl (by (with_reducible repeat (first | refine xq ?_ _ | refine xr ?_ | refine xo ?_ _)); refine blk_put (cs := #[.int .i64 0, .slice none 0 0]) ?_ 1 _ rfl; (with_reducible repeat (first | refine xq ?_ _ | refine xr ?_ | refine xo ?_ _)); refine blk_put (cs := #[.int .i64 0, .slice none 0 0]) ?_ 0 _ rfl; (with_reducible repeat (first | refine xq ?_ _ | refine xr ?_ | refine xo ?_ _)); exact BK214.out) Try.underlying30 rfl (by kernel_rfl)) rfl ?_
    exact ⟨_, eB, by first | exact Kd.S_nil _ _ _ _ _ | exact Kd.N_nil _ _ _ _ _ | exact Kd.V_nil _ _ _ _ _ | exact Kd.Q_nil _ _ _ _ _ | exact Kd.R_nil _ _ _ _ _, bG⟩
   ·replace c12 := Bool.eq_false_iff.mpr c12
    subst c12
    have H1 : ((spec_l7Closure.f kj4 l0 l2_0).bind fun t217 => (spec_WitnessFor.l0 kj4 a1 t217 0 ([] : List Int) ([] : List Int))) = some (r1, r2, r3) := by first | (with_reducible rfl) | (rw [if_neg (show ¬ (false = true) by decide)] at H; exact H)
    clear H
    have H := H1
    clear H1
    replace H := Option.bind_eq_some_iff.mp H
    obtain ⟨t217, A150, H⟩ := H
    replace H : (spec_WitnessFor.l0 kj4 a1 t217 0 ([] : List Int) ([] : List Int)) = some (r1, r2, r3) := H
    have A15 := xm A150
    clear A150
    have H' := xm H
    clear H
    have hnb16 := NB213_214.out
    have hnc16 := NB214_213.out
    obtain ⟨hcz17_0, hcz17_1, hfz17_0, hfz17_1⟩ := cz2 BK213.out
    go_wp2_with (first | ((with_reducible refine gate_callee (f := 19) rfl ?_); refine goesL_ (some 30) rfl rfl Try.func19 (by kernel_rfl) rfl #[.slice A0 l0.length c0, .slice A2_0 l2_0.length c2_0] rfl mB ?_; (with_reducible refine (spec_l7Closure.calls kj4 _ _ l0 _ _ l2_0 t217 _ ?side1 ?side2 ?side3 ?side4 A15.out).mono ?_); (case side1 => exact cB (Kd.C_below HR0.out HB.out)); (case side2 => exact HC0.out); (case side3 => exact cB (Kd.C_below HR2_0.out HB.out)); (case side4 => exact HC2_0.out); rintro e w18 ⟨v218, rfl, ho0, hb⟩; refine ⟨_, rfl, ?_⟩; have n0_ := xm (Kd.R_lower (Kd.R_newM (M := fun k_ => (w.heap.size ≤ k_)) ho0 (xz bG) (fun k_ h_ => h_)) (xz bG)); have n1_ := xm (blk_below (kB BK213) hb); have n2_ := xm (blk_below (kB BK214) hb); have n3_ := xm (below_step bG hb); revert n0_ n1_ n2_ n3_; clear BK213 BK214 HB; intro HO219 BK213 BK214 HB; (try clear hb); (try clear hk); (try clear ho0)) | ((with_reducible refine gate_dst (N := 11) rfl ?_); refine box_event ?hg (N := 11) ?hd (cs := #[.slice none 0 0]) (t := 49) ?hr ?_; (case hd => rfl); (case hg => rfl); (case hr => exact zB); intro gb220 hg w19 hbox hb; have n0_ := xm (Kd.R_below (rB HO219) hb); have n1_ := xm (blk_below (kB BK213) hb); have n2_ := xm (blk_below (kB BK214) hb); have n3_ := xm (below_step bG hb); have n4_ := xm (hbox); have n5_ := xm ((by rw [hg]; exact (xz bG) : w.heap.size ≤ gb220)); have n6_ := xm ((by rw [hg]; exact (xz bG) : w.heap.size ≤ gb220)); have n7_ := xm ((by rw [hg]; exact Nat.ne_of_lt (blk_lt (kB BK213)) : gb213 ≠ gb220)); have n8_ := xm ((by rw [hg]; exact Nat.ne_of_gt (blk_lt (kB BK213)) : gb220 ≠ gb213)); have n9_ := xm ((by rw [hg]; exact Nat.ne_of_lt (blk_lt (kB BK214)) : gb214 ≠ gb220)); have n10_ := xm ((by rw [hg]; exact Nat.ne_of_gt (blk_lt (kB BK214)) : gb220 ≠ gb214)); revert n0_ n1_ n2_ n3_ n4_ n5_ n6_ n7_ n8_ n9_ n10_; clear HO219 BK213 BK214 HB; intro HO219 BK213 BK214 HB BK220 GW220 GE220 NB213_220 NB220_213 NB214_220 NB220_214; clear hb hbox hg; have hnb20 := NB220_213.out; have hnc20 := NB213_220.out; have hnb21 := NB220_214.out; have hnc21 := NB214_220.out; obtain ⟨hcz22_0, hfz22_0⟩ := cz1 BK220.out) | ((with_reducible refine gate_dst (N := 12) rfl ?_); refine box_event ?hg (N := 12) ?hd (cs := #[.slice none 0 0]) (t := 49) ?hr ?_; (case hd => rfl); (case hg => rfl); (case hr => exact zB); intro gb221 hg w23 hbox hb; have n0_ := xm (Kd.R_below (by (with_reducible repeat (first | apply Kd.R_alloc | apply Kd.R_drewN | apply Kd.R_drew)); exact (Kd.R_mono (Kd.R_far (p := ⟨gb220, 0, none⟩) (Kd.R_types HO219.out BK220.out (by decide)) (fun _ hk => hk.2) (.slice none 0 0)) (fun _ h_ => h_.1))) hb); have n1_ := xm (blk_below (g := gb213) (o := .cells #[.slice A2_0 l2_0.length c2_0, .slice A2_1 l2_1.length c2_1] 35 (0, 0)) (by (with_reducible repeat (first | refine xq ?_ _ | refine xr ?_ | refine xo ?_ _)); refine blk_far ?_ NB213_220.out _; (with_reducible repeat (first | refine xq ?_ _ | refine xr ?_ | refine xo ?_ _)); exact BK213.out) hb); have n2_ := xm (blk_below (g := gb214) (o := .cells #[.int .i64 0, .slice none 0 0] 30 (0, 0)) (by (with_reducible repeat (first | refine xq ?_ _ | refine xr ?_ | refine xo ?_ _)); refine blk_far ?_ NB214_220.out _; (with_reducible repeat (first | refine xq ?_ _ | refine xr ?_ | refine xo ?_ _)); exact BK214.out) hb); have n3_ := xm (blk_below (g := gb220) (o := .cells #[.slice none 0 0] 49 (0, 0)) (by (with_reducible repeat (first | refine xq ?_ _ | refine xr ?_ | refine xo ?_ _)); refine blk_put (cs := #[.slice none 0 0]) ?_ 0 _ rfl; (with_reducible repeat (first | refine xq ?_ _ | refine xr ?_ | refine xo ?_ _)); exact BK220.out) hb); have n4_ := xm (below_step bG hb); have n5_ := xm (hbox); have n6_ := xm ((by rw [hg]; exact (xz bG) : w.heap.size ≤ gb221)); have n7_ := xm ((by rw [hg]; exact (xz bG) : w.heap.size ≤ gb221)); have n8_ := xm ((by rw [hg]; exact Nat.ne_of_lt (blk_lt (g := gb213) (o := .cells #[.slice A2_0 l2_0.length c2_0, .slice A2_1 l2_1.length c2_1] 35 (0, 0)) (by (with_reducible repeat (first | refine xq ?_ _ | refine xr ?_ | refine xo ?_ _)); refine blk_far ?_ NB213_220.out _; (with_reducible repeat (first | refine xq ?_ _ | refine xr ?_ | refine xo ?_ _)); exact BK213.out)) : gb213 ≠ gb221)); have n9_ := xm ((by rw [hg]; exact Nat.ne_of_gt (blk_lt (g := gb213) (o := .cells #[.slice A2_0 l2_0.length c2_0, .slice A2_1 l2_1.length c2_1] 35 (0, 0)) (by (with_reducible repeat (first | refine xq ?_ _ | refine xr ?_ | refine xo ?_ _)); refine blk_far ?_ NB213_220.out _; (with_reducible repeat (first | refine xq ?_ _ | refine xr ?_ | refine xo ?_ _)); exact BK213.out)) : gb221 ≠ gb213)); have n10_ := xm ((by rw [hg]; exact Nat.ne_of_lt (blk_lt (g := gb214) (o := .cells #[.int .i64 0, .slice none 0 0] 30 (0, 0)) (by (with_reducible repeat (first | refine xq ?_ _ | refine xr ?_ | refine xo ?_ _)); refine blk_far ?_ NB214_220.out _; (with_reducible repeat (first | refine xq ?_ _ | refine xr ?_ | refine xo ?_ _)); exact BK214.out)) : gb214 ≠ gb221)); have n11_ := xm ((by rw [hg]; exact Nat.ne_of_gt (blk_lt (g := gb214) (o := .cells #[.int .i64 0, .slice none 0 0] 30 (0, 0)) (by (with_reducible repeat (first | refine xq ?_ _ | refine xr ?_ | refine xo ?_ _)); refine blk_far ?_ NB214_220.out _; (with_reducible repeat (first | refine xq ?_ _ | refine xr ?_ | refine xo ?_ _)); exact BK214.out)) : gb221 ≠ gb214)); have n12_ := xm ((by rw [hg]; exact Nat.ne_of_lt (blk_lt (g := gb220) (o := .cells #[.slice none 0 0] 49 (0, 0)) (by (with_reducible repeat (first | refine xq ?_ _ | refine xr ?_ | refine xo ?_ _)); refine blk_put (cs := #[.slice none 0 0]) ?_ 0 _ rfl; (with_reducible repeat (first | refine xq ?_ _ | refine xr ?_ | refine xo ?_ _)); exact BK220.out)) : gb220 ≠ gb221)); have n13_ := xm ((by rw [hg]; exact Nat.ne_of_gt (blk_lt (g := gb220) (o := .cells #[.slice none 0 0] 49 (0, 0)) (by (with_reducible repeat (first | refine xq ?_ _ | refine xr ?_ | refine xo ?_ _)); refine blk_put (cs := #[.slice none 0 0]) ?_ 0 _ rfl; (with_reducible repeat (first | refine xq ?_ _ | refine xr ?_ | refine xo ?_ _)); exact BK220.out)) : gb221 ≠ gb220)); revert n0_ n1_ n2_ n3_ n4_ n5_ n6_ n7_ n8_ n9_ n10_ n11_ n12_ n13_; clear HO219 BK213 BK214 BK220 HB; intro HO219 BK213 BK214 BK220 HB BK221 GW221 GE221 NB213_221 NB221_213 NB214_221 NB221_214 NB220_221 NB221_220; clear hb hbox hg; have hnb24 := NB221_213.out; have hnc24 := NB213_221.out; have hnb25 := NB221_214.out; have hnc25 := NB214_221.out; have hnb26 := NB221_220.out; have hnc26 := NB220_221.out; obtain ⟨hcz27_0, hfz27_0⟩ := cz1 BK221.out))
    go_loopg [13] kj4 (fun kq v13 w' => ∃ (x13_2 : Int) (x221000_2 : List Int) (x222000_2 : List Int) (u221000 : Value) (u222000 : Value), v13 = .int .i64 x13_2 ∧ Aside0 (spec_WitnessFor.l0 kq a1 t217 x13_2 x221000_2 x222000_2 = some (r1, r2, r3)) ∧ Aside0 (kq ≤ kj4) ∧ Aside0 (Kd.R (Kd.int .i64) 3 w' w.heap.size (fun k_ => (w.heap.size ≤ k_) ∧ some k_ ≠ (u221000 : Value).ownBlock ∧ some k_ ≠ (u222000 : Value).ownBlock) v218 t217) ∧ Aside0 (Kd.R (Kd.int .i64) 3 w' w.heap.size (fun k_ => (w.heap.size ≤ k_) ∧ some k_ ≠ (v218 : Value).ownBlock ∧ some k_ ≠ (u222000 : Value).ownBlock) u221000 x221000_2) ∧ Aside0 (Kd.R (Kd.int .i64) 3 w' w.heap.size (fun k_ => (w.heap.size ≤ k_) ∧ some k_ ≠ (v218 : Value).ownBlock ∧ some k_ ≠ (u221000 : Value).ownBlock) u222000 x222000_2) ∧ Aside0 (w'.heap[gb213]? = some (.cells #[(.slice A2_0 l2_0.length c2_0), (.slice A2_1 l2_1.length c2_1)] 35 (0, 0))) ∧ Aside0 (w'.heap[gb214]? = some (.cells #[.int .i64 0, (.slice none 0 0)] 30 (0, 0))) ∧ Aside0 (w'.heap[gb220]? = some (.cells #[u221000] 49 (0, 0))) ∧ Aside0 (w'.heap[gb221]? = some (.cells #[u222000] 49 (0, 0))) ∧ Aside0 (Below w.heap.size w w'))
    case atStart => exact ⟨(0), (([] : List Int)), (([] : List Int)), (.slice none 0 0), (.slice none 0 0), sB, H', ⟨Nat.le_refl _⟩, ⟨by (with_reducible repeat (first | apply Kd.R_alloc | apply Kd.R_drewN | apply Kd.R_drew)); exact Kd.R_mono (Kd.R_far (p := ⟨gb221, 0, none⟩) (Kd.R_types HO219.out BK221.out (by decide)) (fun _ hk => hk.2) (.slice none 0 0)) (fun _ hk => ⟨hk.1.1, ⟨(by simp [Value.ownBlock]), (by simp [Value.ownBlock])⟩⟩)⟩, ⟨by first | exact Kd.R_nil _ _ _ _ _ | exact Kd.N_nil _ _ _ _ _ | exact Kd.V_nil _ _ _ _ _ | exact Kd.Q_nil _ _ _ _ _ | exact Kd.S_nil _ _ _ _ _⟩, ⟨by first | exact Kd.R_nil _ _ _ _ _ | exact Kd.N_nil _ _ _ _ _ | exact Kd.V_nil _ _ _ _ _ | exact Kd.Q_nil _ _ _ _ _ | exact Kd.S_nil _ _ _ _ _⟩, ⟨by (with_reducible repeat (first | refine xq ?_ _ | refine xr ?_ | refine xo ?_ _)); refine blk_far ?_ NB213_221.out _; (with_reducible repeat (first | refine xq ?_ _ | refine xr ?_ | refine xo ?_ _)); exact BK213.out⟩, ⟨by (with_reducible repeat (first | refine xq ?_ _ | refine xr ?_ | refine xo ?_ _)); refine blk_far ?_ NB214_221.out _; (with_reducible repeat (first | refine xq ?_ _ | refine xr ?_ | refine xo ?_ _)); exact BK214.out⟩, ⟨by (with_reducible repeat (first | refine xq ?_ _ | refine xr ?_ | refine xo ?_ _)); refine blk_far ?_ NB220_221.out _; (with_reducible repeat (first | refine xq ?_ _ | refine xr ?_ | refine xo ?_ _)); exact BK220.out⟩, ⟨by (with_reducible repeat (first | refine xq ?_ _ | refine xr ?_ | refine xo ?_ _)); refine blk_put (cs := #[.slice none 0 0]) ?_ 0 _ rfl; (with_reducible repeat (first | refine xq ?_ _ | refine xr ?_ | refine xo ?_ _)); exact BK221.out⟩, ⟨bG⟩⟩
    case round =>
     clear H'
     try clear c1
     try clear c2
     try clear p2
     try clear c6
     try clear c8
     try clear c11
     try clear c12
     try clear c13
     try clear c16
     try clear c18
     try clear c19
     try clear c20
     try clear c21
     try clear c24
     try clear c25
     try clear c26
     try clear hcz14_0 hcz14_1
     try clear hcz17_0 hcz17_1
     try clear hcz22_0
     try clear hcz27_0
     try clear hcz9_0 hcz9_1
     try clear hfz14_0 hfz14_1
     try clear hfz17_0 hfz17_1
     try clear hfz22_0
     try clear hfz27_0
     try clear hfz9_0 hfz9_1
     try clear p2
     obtain ⟨x13_2, x221000_2, x222000_2, u221000, u222000, rfl, HA, HK2, HO_10, HO_221000, HO_222000, BK213, BK214, BK220, BK221, HB⟩ := hrel
     cases gk with
     | zero => exact absurd HA.out (by simp [spec_WitnessFor.l0])
     | succ k2 =>
      have H := HA.out
      clear HA
      simp only [spec_WitnessFor.l0] at H
      by_cases c28 : x13_2 < a1
      ·rw [if_pos c28] at H
       have c28b0 : decide (x13_2 < a1) = true := decide_eq_true c28
       clear c28
       by_cases c29 : x221000_2.length < 17592186044416
       ·rw [if_pos c29] at H
        have LMc29 := xm c29
        clear c29
        obtain ⟨y222, hy222⟩ : ∃ y_ : List Int, y_ = (x221000_2 ++ [0]) := ⟨_, rfl⟩
        replace H : ((spec_l1Has.f k2 t217 x13_2).bind fun t225 => (if t225 = true then (if x222000_2.length < 17592186044416 then (spec_WitnessFor.l0 k2 a1 t217 (wrap64 (x13_2 + 1)) y222 (x222000_2 ++ [0])) else (none)) else (if x222000_2.length < 17592186044416 then (spec_WitnessFor.l0 k2 a1 t217 (wrap64 (x13_2 + 1)) y222 (x222000_2 ++ [1])) else (none)))) = some (r1, r2, r3) := by first | (rw [hy222]; with_reducible exact H) | (have H2_ := (Option.bind_some _ _).symm.trans H; rw [hy222]; with_reducible exact H2_) | (have H2_ := (Option.bind_some _ _).symm.trans H; with_reducible exact H2_) | with_reducible exact H | (rw [hy222]; exact H) | exact H
        have Ny222 := xm hy222
        clear hy222
        replace H := Option.bind_eq_some_iff.mp H
        obtain ⟨t225, A300, H⟩ := H
        replace H : (if t225 = true then (if x222000_2.length < 17592186044416 then (spec_WitnessFor.l0 k2 a1 t217 (wrap64 (x13_2 + 1)) y222 (x222000_2 ++ [0])) else (none)) else (if x222000_2.length < 17592186044416 then (spec_WitnessFor.l0 k2 a1 t217 (wrap64 (x13_2 + 1)) y222 (x222000_2 ++ [1])) else (none))) = some (r1, r2, r3) := H
        have A30 := xm A300
        clear A300
        by_cases c31 : t225 = true
        ·subst c31
         have H1 : (if x222000_2.length < 17592186044416 then (spec_WitnessFor.l0 k2 a1 t217 (wrap64 (x13_2 + 1)) y222 (x222000_2 ++ [0])) else (none)) = some (r1, r2, r3) := by first | (with_reducible rfl) | (rw [if_pos rfl] at H; exact H)
         clear H
         have H := H1
         clear H1
         by_cases c32 : x222000_2.length < 17592186044416
         ·rw [if_pos c32] at H
          have LMc32 := xm c32
          clear c32
          obtain ⟨y226, hy226⟩ : ∃ y_ : List Int, y_ = (x222000_2 ++ [0]) := ⟨_, rfl⟩
          replace H : (spec_WitnessFor.l0 k2 a1 t217 (wrap64 (x13_2 + 1)) y222 y226) = some (r1, r2, r3) := by first | (rw [hy226]; with_reducible exact H) | (have H2_ := (Option.bind_some _ _).symm.trans H; rw [hy226]; with_reducible exact H2_) | (have H2_ := (Option.bind_some _ _).symm.trans H; with_reducible exact H2_) | with_reducible exact H | (rw [hy226]; exact H) | exact H
          have Ny226 := xm hy226
          clear hy226
          have H' := xm H
          clear H
          have hnb33 := NB220_213.out
          have hnc33 := NB213_220.out
          have hnb34 := NB220_214.out
          have hnc34 := NB214_220.out
          have hnb35 := NB220_221.out
          have hnc35 := NB221_220.out
          obtain ⟨hcz36_0, hfz36_0⟩ := cz1 BK220.out
          go_wp2_with (first | ((with_reducible refine gate_builtin (b := .append) (xs := #[.tmp 39, .tmp 40]) rfl ?_); at_builtin; refine Kd.R_append (Kd.int .i64) (w0 := w) w.heap.size rfl (.tmp 39) (.tmp 40) 23 3 (.int .i64 0) 8 rfl Try.underlying23 info3 rfl (by decide) (by omega) u221000 x221000_2 0 [.int .i64 0] (fun k_ => (w.heap.size ≤ k_) ∧ some k_ ≠ (v218 : Value).ownBlock ∧ some k_ ≠ (u222000 : Value).ownBlock) (fun _ => False) rfl rfl ?aP (fun _ hk => hk.elim) ?aF ?aO ?aB ?aS ?aL ?_; (case aP => exact rfl); (case aB => exact bG); (case aF => exact (fun k_ hk => ⟨(Nat.le_trans (xz bG) hk), Kd.fresh' (Kd.R_lt (rB HO_10)) k_ hk, Kd.fresh' (Kd.R_lt (rB HO_222000)) k_ hk⟩)); (case aO => exact (rB HO_221000)); (case aS => exact (xz bG)); (case aL => have := LMc29.out; omega); intro v223 w37 ho hb hg hat; rw [← Ny222.out] at ho; have n0_ := xm (Kd.R_after (ok := (fun k_ => (w.heap.size ≤ k_) ∧ some k_ ≠ (u222000 : Value).ownBlock)) (by (with_reducible repeat (first | apply Kd.R_alloc | apply Kd.R_drewN | apply Kd.R_drew)); exact Kd.R_mono HO_10.out (fun _ hk => ⟨⟨hk.1, hk.2.2⟩, hk.2.1⟩)) hg hat); have n1_ := xm (Kd.R_after (ok := (fun k_ => (w.heap.size ≤ k_) ∧ some k_ ≠ (v218 : Value).ownBlock)) (by (with_reducible repeat (first | apply Kd.R_alloc | apply Kd.R_drewN | apply Kd.R_drew)); exact Kd.R_mono HO_222000.out (fun _ hk => ⟨⟨hk.1, hk.2.1⟩, hk.2.2⟩)) hg hat); have n2_ := xm (blk_grown (kB BK213) hg (Kd.R_ne HO_221000.out BK213.out (by decide))); have n3_ := xm (blk_grown (kB BK214) hg (Kd.R_ne HO_221000.out BK214.out (by decide))); have n4_ := xm (blk_grown (kB BK220) hg (Kd.R_ne HO_221000.out BK220.out (by decide))); have n5_ := xm (blk_grown (kB BK221) hg (Kd.R_ne HO_221000.out BK221.out (by decide))); have n6_ := xm (hb); have n7_ := xm (ho); revert n0_ n1_ n2_ n3_ n4_ n5_ n6_ n7_; clear HO_10 HO_222000 BK213 BK214 BK220 BK221 HB HO_221000; intro HO_10 HO_222000 BK213 BK214 BK220 BK221 HB HO224; clear ho hb hg hat; obtain ⟨Ao38, co38, eo38⟩ := Kd.R_slice HO224.out; subst eo38; obtain ⟨hcz39_0, hfz39_0⟩ := cz1 BK220.out; obtain ⟨Ao40, co40, eo40⟩ := Kd.R_slice HO_10.out; subst eo40) | ((with_reducible refine gate_callee (f := 20) rfl ?_); refine goesL_ (some 45) rfl rfl Try.func20 (by kernel_rfl) rfl #[.slice Ao40 t217.length co40, .int .i64 x13_2] rfl mB ?_; (with_reducible refine (spec_l1Has.calls k2 _ _ t217 x13_2 true _ ?side1 ?side2 A30.out).mono ?_); (case side1 => refine (Kd.R_reads' (e := 3) (base := w.heap.size) (ok := fun k_ => (((w.heap.size ≤ k_) ∧ some k_ ≠ (u222000 : Value).ownBlock) ∧ some k_ ≠ (.slice Ao38 y222.length co38 : Value).ownBlock)) (n := t217.length) (c := co40) ?_).2.2; exact (by (with_reducible repeat (first | apply Kd.R_alloc | apply Kd.R_drewN | apply Kd.R_drew)); exact (Kd.R_mono (Kd.R_far (p := ⟨gb220, 0, none⟩) (Kd.R_types HO_10.out BK220.out (by decide)) (fun _ hk => hk.2) (.slice Ao38 y222.length co38)) (fun _ h_ => h_.1)))); (case side2 => exact (Kd.R_reads' HO_10.out).2.1); rintro e w' ⟨rfl, ⟨nd, rfl⟩⟩; refine ⟨_, rfl, ?_⟩; have hnb41 := NB221_213.out; have hnc41 := NB213_221.out; have hnb42 := NB221_214.out; have hnc42 := NB214_221.out; obtain ⟨hcz43_0, hfz43_0⟩ := cz1 BK221.out) | ((with_reducible refine gate_builtin (b := .append) (xs := #[.tmp 47, .tmp 48]) rfl ?_); at_builtin; refine Kd.R_append (Kd.int .i64) (w0 := w) w.heap.size rfl (.tmp 47) (.tmp 48) 23 3 (.int .i64 0) 8 rfl Try.underlying23 info3 rfl (by decide) (by omega) u222000 x222000_2 0 [.int .i64 0] (fun k_ => (w.heap.size ≤ k_) ∧ some k_ ≠ (.slice Ao40 t217.length co40 : Value).ownBlock ∧ some k_ ≠ (.slice Ao38 y222.length co38 : Value).ownBlock) (fun _ => False) rfl zB ?aP (fun _ hk => hk.elim) ?aF ?aO ?aB ?aS ?aL ?_; (case aP => exact rfl); (case aB => exact bG); (case aF => exact (fun k_ hk => ⟨(Nat.le_trans (xz bG) hk), Kd.fresh' (Kd.R_lt (by (with_reducible repeat (first | apply Kd.R_alloc | apply Kd.R_drewN | apply Kd.R_drew)); exact (Kd.R_mono (Kd.R_far (p := ⟨gb220, 0, none⟩) (Kd.R_types HO_10.out BK220.out (by decide)) (fun _ hk => hk.2) (.slice Ao38 y222.length co38)) (fun _ h_ => h_.1)))) k_ hk, Kd.fresh' (Kd.R_lt (by (with_reducible repeat (first | apply Kd.R_alloc | apply Kd.R_drewN | apply Kd.R_drew)); exact (Kd.R_mono (Kd.R_far (p := ⟨gb220, 0, none⟩) (Kd.R_types HO224.out BK220.out (by decide)) (fun _ hk => hk.2) (.slice Ao38 y222.length co38)) (fun _ h_ => h_.1)))) k_ hk⟩)); (case aO => exact (by (with_reducible repeat (first | apply Kd.R_alloc | apply Kd.R_drewN | apply Kd.R_drew)); exact Kd.R_mono (Kd.R_far (p := ⟨gb220, 0, none⟩) (Kd.R_types HO_222000.out BK220.out (by decide)) (fun _ hk => hk.2) (.slice Ao38 y222.length co38)) (fun _ hk => ⟨hk.1.1.1, ⟨hk.1.1.2, hk.1.2⟩⟩))); (case aS => exact (xz bG)); (case aL => have := LMc32.out; omega); intro v227 w44 ho hb hg hat; rw [← Ny226.out] at ho; have n0_ := xm (Kd.R_after (ok := (fun k_ => (w.heap.size ≤ k_) ∧ some k_ ≠ (.slice Ao38 y222.length co38 : Value).ownBlock)) (by (with_reducible repeat (first | apply Kd.R_alloc | apply Kd.R_drewN | apply Kd.R_drew)); exact Kd.R_mono (Kd.R_far (p := ⟨gb220, 0, none⟩) (Kd.R_types HO_10.out BK220.out (by decide)) (fun _ hk => hk.2) (.slice Ao38 y222.length co38)) (fun _ hk => ⟨⟨hk.1.1.1, hk.1.2⟩, hk.1.1.2⟩)) hg hat); have n1_ := xm (blk_grown (g := gb213) (o := .cells #[.slice A2_0 l2_0.length c2_0, .slice A2_1 l2_1.length c2_1] 35 (0, 0)) (by (with_reducible repeat (first | refine xq ?_ _ | refine xr ?_ | refine xo ?_ _)); refine blk_far ?_ NB213_220.out _; (with_reducible repeat (first | refine xq ?_ _ | refine xr ?_ | refine xo ?_ _)); exact BK213.out) hg (Kd.R_ne HO_222000.out BK213.out (by decide))); have n2_ := xm (blk_grown (g := gb214) (o := .cells #[.int .i64 0, .slice none 0 0] 30 (0, 0)) (by (with_reducible repeat (first | refine xq ?_ _ | refine xr ?_ | refine xo ?_ _)); refine blk_far ?_ NB214_220.out _; (with_reducible repeat (first | refine xq ?_ _ | refine xr ?_ | refine xo ?_ _)); exact BK214.out) hg (Kd.R_ne HO_222000.out BK214.out (by decide))); have n3_ := xm (blk_grown (g := gb220) (o := .cells #[.slice Ao38 y222.length co38] 49 (0, 0)) (by (with_reducible repeat (first | refine xq ?_ _ | refine xr ?_ | refine xo ?_ _)); refine blk_put (cs := #[u221000]) ?_ 0 _ rfl; (with_reducible repeat (first | refine xq ?_ _ | refine xr ?_ | refine xo ?_ _)); exact BK220.out) hg (Kd.R_ne HO_222000.out BK220.out (by decide))); have n4_ := xm (blk_grown (g := gb221) (o := .cells #[u222000] 49 (0, 0)) (by (with_reducible repeat (first | refine xq ?_ _ | refine xr ?_ | refine xo ?_ _)); refine blk_far ?_ NB221_220.out _; (with_reducible repeat (first | refine xq ?_ _ | refine xr ?_ | refine xo ?_ _)); exact BK221.out) hg (Kd.R_ne HO_222000.out BK221.out (by decide))); have n5_ := xm (Kd.R_after (ok := (fun k_ => (w.heap.size ≤ k_) ∧ some k_ ≠ (.slice Ao40 t217.length co40 : Value).ownBlock)) (by (with_reducible repeat (first | apply Kd.R_alloc | apply Kd.R_drewN | apply Kd.R_drew)); exact Kd.R_mono (Kd.R_far (p := ⟨gb220, 0, none⟩) (Kd.R_types HO224.out BK220.out (by decide)) (fun _ hk => hk.2) (.slice Ao38 y222.length co38)) (fun _ hk => ⟨⟨hk.1.1, hk.1.2.1⟩, hk.1.2.2⟩)) hg hat); have n6_ := xm (hb); have n7_ := xm (ho); revert n0_ n1_ n2_ n3_ n4_ n5_ n6_ n7_; clear HO_10 BK213 BK214 BK220 BK221 HO224 HB HO_222000; intro HO_10 BK213 BK214 BK220 BK221 HO224 HB HO228; clear ho hb hg hat; obtain ⟨Ao45, co45, eo45⟩ := Kd.R_slice HO228.out; subst eo45; obtain ⟨hcz46_0, hfz46_0⟩ := cz1 BK221.out))
          go_roundg k2
          case measure => have := HJ4.out; have := HK2.out; omega
          case rel => exact ⟨(wrap64 (x13_2 + 1)), (y222), (y226), (.slice Ao38 y222.length co38), (.slice Ao45 y226.length co45), sB, H', ⟨by have := HJ4.out; have := HK2.out; omega⟩, ⟨by (with_reducible repeat (first | apply Kd.R_alloc | apply Kd.R_drewN | apply Kd.R_drew)); exact Kd.R_mono (Kd.R_far (p := ⟨gb221, 0, none⟩) (Kd.R_types HO_10.out BK221.out (by decide)) (fun _ hk => hk.2) (.slice Ao45 y226.length co45)) (fun _ hk => ⟨hk.1.1.1, ⟨hk.1.1.2, hk.1.2⟩⟩)⟩, ⟨by (with_reducible repeat (first | apply Kd.R_alloc | apply Kd.R_drewN | apply Kd.R_drew)); exact Kd.R_mono (Kd.R_far (p := ⟨gb221, 0, none⟩) (Kd.R_types HO224.out BK221.out (by decide)) (fun _ hk => hk.2) (.slice Ao45 y226.length co45)) (fun _ hk => ⟨hk.1.1.1, ⟨hk.1.1.2, hk.1.2⟩⟩)⟩, ⟨by (with_reducible repeat (first | apply Kd.R_alloc | apply Kd.R_drewN | apply Kd.R_drew)); exact Kd.R_mono (Kd.R_far (p := ⟨gb221, 0, none⟩) (Kd.R_types HO228.out BK221.out (by decide)) (fun _ hk => hk.2) (.slice Ao45 y226.length co45)) (fun _ hk => ⟨hk.1.1, ⟨hk.1.2.1, hk.1.2.2⟩⟩)⟩, ⟨by (with_reducible repeat (first | refine xq ?_ _ | refine xr ?_ | refine xo ?_ _)); refine blk_far ?_ NB213_221.out _; (with_reducible repeat (first | refine xq ?_ _ | refine xr ?_ | refine xo ?_ _)); exact BK213.out⟩, ⟨by (with_reducible repeat (first | refine xq ?_ _ | refine xr ?_ | refine xo ?_ _)); refine blk_far ?_ NB214_221.out _; (with_reducible repeat (first | refine xq ?_ _ | refine xr ?_ | refine xo ?_ _)); exact BK214.out⟩, ⟨by (with_reducible repeat (first | refine xq ?_ _ | refine xr ?_ | refine xo ?_ _)); refine blk_far ?_ NB220_221.out _; (with_reducible repeat (first | refine xq ?_ _ | refine xr ?_ | refine xo ?_ _)); exact BK220.out⟩, ⟨by (with_reducible repeat (first | refine xq ?_ _ | refine xr ?_ | refine xo ?_ _)); refine blk_put (cs := #[u222000]) ?_ 0 _ rfl; (with_reducible repeat (first | refine xq ?_ _ | refine xr ?_ | refine xo ?_ _)); exact BK221.out⟩, ⟨bG⟩⟩
         ·rw [if_neg c32] at H
          exact absurd H (by simp)
        ·replace c31 := Bool.eq_false_iff.mpr c31
         subst c31
         have H1 : (if x222000_2.length < 17592186044416 then (spec_WitnessFor.l0 k2 a1 t217 (wrap64 (x13_2 + 1)) y222 (x222000_2 ++ [1])) else (none)) = some (r1, r2, r3) := by first | (with_reducible rfl) | (rw [if_neg (show ¬ (false = true) by decide)] at H; exact H)
         clear H
         have H := H1
         clear H1
         by_cases c47 : x222000_2.length < 17592186044416
         ·rw [if_pos c47] at H
          have LMc47 := xm c47
          clear c47
          obtain ⟨y229, hy229⟩ : ∃ y_ : List Int, y_ = (x222000_2 ++ [1]) := ⟨_, rfl⟩
          replace H : (spec_WitnessFor.l0 k2 a1 t217 (wrap64 (x13_2 + 1)) y222 y229) = some (r1, r2, r3) := by first | (rw [hy229]; with_reducible exact H) | (have H2_ := (Option.bind_some _ _).symm.trans H; rw [hy229]; with_reducible exact H2_) | (have H2_ := (Option.bind_some _ _).symm.trans H; with_reducible exact H2_) | with_reducible exact H | (rw [hy229]; exact H) | exact H
          have Ny229 := xm hy229
          clear hy229
          have H' := xm H
          clear H
          have hnb48 := NB220_213.out
          have hnc48 := NB213_220.out
          have hnb49 := NB220_214.out
          have hnc49 := NB214_220.out
          have hnb50 := NB220_221.out
          have hnc50 := NB221_220.out
          obtain ⟨hcz51_0, hfz51_0⟩ := cz1 BK220.out
          go_wp2_with (first | ((with_reducible refine gate_builtin (b := .append) (xs := #[.tmp 39, .tmp 40]) rfl ?_); at_builtin; refine Kd.R_append (Kd.int .i64) (w0 := w) w.heap.size rfl (.tmp 39) (.tmp 40) 23 3 (.int .i64 0) 8 rfl Try.underlying23 info3 rfl (by decide) (by omega) u221000 x221000_2 0 [.int .i64 0] (fun k_ => (w.heap.size ≤ k_) ∧ some k_ ≠ (v218 : Value).ownBlock ∧ some k_ ≠ (u222000 : Value).ownBlock) (fun _ => False) rfl rfl ?aP (fun _ hk => hk.elim) ?aF ?aO ?aB ?aS ?aL ?_; (case aP => exact rfl); (case aB => exact bG); (case aF => exact (fun k_ hk => ⟨(Nat.le_trans (xz bG) hk), Kd.fresh' (Kd.R_lt (rB HO_10)) k_ hk, Kd.fresh' (Kd.R_lt (rB HO_222000)) k_ hk⟩)); (case aO => exact (rB HO_221000)); (case aS => exact (xz bG)); (case aL => have := LMc29.out; omega); intro v223 w52 ho hb hg hat; rw [← Ny222.out] at ho; have n0_ := xm (Kd.R_after (ok := (fun k_ => (w.heap.size ≤ k_) ∧ some k_ ≠ (u222000 : Value).ownBlock)) (by (with_reducible repeat (first | apply Kd.R_alloc | apply Kd.R_drewN | apply Kd.R_drew)); exact Kd.R_mono HO_10.out (fun _ hk => ⟨⟨hk.1, hk.2.2⟩, hk.2.1⟩)) hg hat); have n1_ := xm (Kd.R_after (ok := (fun k_ => (w.heap.size ≤ k_) ∧ some k_ ≠ (v218 : Value).ownBlock)) (by (with_reducible repeat (first | apply Kd.R_alloc | apply Kd.R_drewN | apply Kd.R_drew)); exact Kd.R_mono HO_222000.out (fun _ hk => ⟨⟨hk.1, hk.2.1⟩, hk.2.2⟩)) hg hat); have n2_ := xm (blk_grown (kB BK213) hg (Kd.R_ne HO_221000.out BK213.out (by decide))); have n3_ := xm (blk_grown (kB BK214) hg (Kd.R_ne HO_221000.out BK214.out (by decide))); have n4_ := xm (blk_grown (kB BK220) hg (Kd.R_ne HO_221000.out BK220.out (by decide))); have n5_ := xm (blk_grown (kB BK221) hg (Kd.R_ne HO_221000.out BK221.out (by decide))); have n6_ := xm (hb); have n7_ := xm (ho); revert n0_ n1_ n2_ n3_ n4_ n5_ n6_ n7_; clear HO_10 HO_222000 BK213 BK214 BK220 BK221 HB HO_221000; intro HO_10 HO_222000 BK213 BK214 BK220 BK221 HB HO224; clear ho hb hg hat; obtain ⟨Ao53, co53, eo53⟩ := Kd.R_slice HO224.out; subst eo53; obtain ⟨hcz54_0, hfz54_0⟩ := cz1 BK220.out; obtain ⟨Ao55, co55, eo55⟩ := Kd.R_slice HO_10.out; subst eo55) | ((with_reducible refine gate_callee (f := 20) rfl ?_); refine goesL_ (some 45) rfl rfl Try.func20 (by kernel_rfl) rfl #[.slice Ao55 t217.length co55, .int .i64 x13_2] rfl mB ?_; (with_reducible refine (spec_l1Has.calls k2 _ _ t217 x13_2 false _ ?side1 ?side2 A30.out).mono ?_); (case side1 => refine (Kd.R_reads' (e := 3) (base := w.heap.size) (ok := fun k_ => (((w.heap.size ≤ k_) ∧ some k_ ≠ (u222000 : Value).ownBlock) ∧ some k_ ≠ (.slice Ao53 y222.length co53 : Value).ownBlock)) (n := t217.length) (c := co55) ?_).2.2; exact (by (with_reducible repeat (first | apply Kd.R_alloc | apply Kd.R_drewN | apply Kd.R_drew)); exact (Kd.R_mono (Kd.R_far (p := ⟨gb220, 0, none⟩) (Kd.R_types HO_10.out BK220.out (by decide)) (fun _ hk => hk.2) (.slice Ao53 y222.length co53)) (fun _ h_ => h_.1)))); (case side2 => exact (Kd.R_reads' HO_10.out).2.1); rintro e w' ⟨rfl, ⟨nd, rfl⟩⟩; refine ⟨_, rfl, ?_⟩; have hnb56 := NB221_213.out; have hnc56 := NB213_221.out; have hnb57 := NB221_214.out; have hnc57 := NB214_221.out; obtain ⟨hcz58_0, hfz58_0⟩ := cz1 BK221.out) | ((with_reducible refine gate_builtin (b := .append) (xs := #[.tmp 52, .tmp 53]) rfl ?_); at_builtin; refine Kd.R_append (Kd.int .i64) (w0 := w) w.heap.size rfl (.tmp 52) (.tmp 53) 23 3 (.int .i64 0) 8 rfl Try.underlying23 info3 rfl (by decide) (by omega) u222000 x222000_2 1 [.int .i64 1] (fun k_ => (w.heap.size ≤ k_) ∧ some k_ ≠ (.slice Ao55 t217.length co55 : Value).ownBlock ∧ some k_ ≠ (.slice Ao53 y222.length co53 : Value).ownBlock) (fun _ => False) rfl zB ?aP (fun _ hk => hk.elim) ?aF ?aO ?aB ?aS ?aL ?_; (case aP => exact rfl); (case aB => exact bG); (case aF => exact (fun k_ hk => ⟨(Nat.le_trans (xz bG) hk), Kd.fresh' (Kd.R_lt (by (with_reducible repeat (first | apply Kd.R_alloc | apply Kd.R_drewN | apply Kd.R_drew)); exact (Kd.R_mono (Kd.R_far (p := ⟨gb220, 0, none⟩) (Kd.R_types HO_10.out BK220.out (by decide)) (fun _ hk => hk.2) (.slice Ao53 y222.length co53)) (fun _ h_ => h_.1)))) k_ hk, Kd.fresh' (Kd.R_lt (by (with_reducible repeat (first | apply Kd.R_alloc | apply Kd.R_drewN | apply Kd.R_drew)); exact (Kd.R_mono (Kd.R_far (p := ⟨gb220, 0, none⟩) (Kd.R_types HO224.out BK220.out (by decide)) (fun _ hk => hk.2) (.slice Ao53 y222.length co53)) (fun _ h_ => h_.1)))) k_ hk⟩)); (case aO => exact (by (with_reducible repeat (first | apply Kd.R_alloc | apply Kd.R_drewN | apply Kd.R_drew)); exact Kd.R_mono (Kd.R_far (p := ⟨gb220, 0, none⟩) (Kd.R_types HO_222000.out BK220.out (by decide)) (fun _ hk => hk.2) (.slice Ao53 y222.length co53)) (fun _ hk => ⟨hk.1.1.1, ⟨hk.1.1.2, hk.1.2⟩⟩))); (case aS => exact (xz bG)); (case aL => have := LMc47.out; omega); intro v230 w59 ho hb hg hat; rw [← Ny229.out] at ho; have n0_ := xm (Kd.R_after (ok := (fun k_ => (w.heap.size ≤ k_) ∧ some k_ ≠ (.slice Ao53 y222.length co53 : Value).ownBlock)) (by (with_reducible repeat (first | apply Kd.R_alloc | apply Kd.R_drewN | apply Kd.R_drew)); exact Kd.R_mono (Kd.R_far (p := ⟨gb220, 0, none⟩) (Kd.R_types HO_10.out BK220.out (by decide)) (fun _ hk => hk.2) (.slice Ao53 y222.length co53)) (fun _ hk => ⟨⟨hk.1.1.1, hk.1.2⟩, hk.1.1.2⟩)) hg hat); have n1_ := xm (blk_grown (g := gb213) (o := .cells #[.slice A2_0 l2_0.length c2_0, .slice A2_1 l2_1.length c2_1] 35 (0, 0)) (by (with_reducible repeat (first | refine xq ?_ _ | refine xr ?_ | refine xo ?_ _)); refine blk_far ?_ NB213_220.out _; (with_reducible repeat (first | refine xq ?_ _ | refine xr ?_ | refine xo ?_ _)); exact BK213.out) hg (Kd.R_ne HO_222000.out BK213.out (by decide))); have n2_ := xm (blk_grown (g := gb214) (o := .cells #[.int .i64 0, .slice none 0 0] 30 (0, 0)) (by (with_reducible repeat (first | refine xq ?_ _ | refine xr ?_ | refine xo ?_ _)); refine blk_far ?_ NB214_220.out _; (with_reducible repeat (first | refine xq ?_ _ | refine xr ?_ | refine xo ?_ _)); exact BK214.out) hg (Kd.R_ne HO_222000.out BK214.out (by decide))); have n3_ := xm (blk_grown (g := gb220) (o := .cells #[.slice Ao53 y222.length co53] 49 (0, 0)) (by (with_reducible repeat (first | refine xq ?_ _ | refine xr ?_ | refine xo ?_ _)); refine blk_put (cs := #[u221000]) ?_ 0 _ rfl; (with_reducible repeat (first | refine xq ?_ _ | refine xr ?_ | refine xo ?_ _)); exact BK220.out) hg (Kd.R_ne HO_222000.out BK220.out (by decide))); have n4_ := xm (blk_grown (g := gb221) (o := .cells #[u222000] 49 (0, 0)) (by (with_reducible repeat (first | refine xq ?_ _ | refine xr ?_ | refine xo ?_ _)); refine blk_far ?_ NB221_220.out _; (with_reducible repeat (first | refine xq ?_ _ | refine xr ?_ | refine xo ?_ _)); exact BK221.out) hg (Kd.R_ne HO_222000.out BK221.out (by decide))); have n5_ := xm (Kd.R_after (ok := (fun k_ => (w.heap.size ≤ k_) ∧ some k_ ≠ (.slice Ao55 t217.length co55 : Value).ownBlock)) (by (with_reducible repeat (first | apply Kd.R_alloc | apply Kd.R_drewN | apply Kd.R_drew)); exact Kd.R_mono (Kd.R_far (p := ⟨gb220, 0, none⟩) (Kd.R_types HO224.out BK220.out (by decide)) (fun _ hk => hk.2) (.slice Ao53 y222.length co53)) (fun _ hk => ⟨⟨hk.1.1, hk.1.2.1⟩, hk.1.2.2⟩)) hg hat); have n6_ := xm (hb); have n7_ := xm (ho); revert n0_ n1_ n2_ n3_ n4_ n5_ n6_ n7_; clear HO_10 BK213 BK214 BK220 BK221 HO224 HB HO_222000; intro HO_10 BK213 BK214 BK220 BK221 HO224 HB HO231; clear ho hb hg hat; obtain ⟨Ao60, co60, eo60⟩ := Kd.R_slice HO231.out; subst eo60; obtain ⟨hcz61_0, hfz61_0⟩ := cz1 BK221.out))
          go_roundg k2
          case measure => have := HJ4.out; have := HK2.out; omega
          case rel => exact ⟨(wrap64 (x13_2 + 1)), (y222), (y229), (.slice Ao53 y222.length co53), (.slice Ao60 y229.length co60), sB, H', ⟨by have := HJ4.out; have := HK2.out; omega⟩, ⟨by (with_reducible repeat (first | apply Kd.R_alloc | apply Kd.R_drewN | apply Kd.R_drew)); exact Kd.R_mono (Kd.R_far (p := ⟨gb221, 0, none⟩) (Kd.R_types HO_10.out BK221.out (by decide)) (fun _ hk => hk.2) (.slice Ao60 y229.length co60)) (fun _ hk => ⟨hk.1.1.1, ⟨hk.1.1.2, hk.1.2⟩⟩)⟩, ⟨by (with_reducible repeat (first | apply Kd.R_alloc | apply Kd.R_drewN | apply Kd.R_drew)); exact Kd.R_mono (Kd.R_far (p := ⟨gb221, 0, none⟩) (Kd.R_types HO224.out BK221.out (by decide)) (fun _ hk => hk.2) (.slice Ao60 y229.length co60)) (fun _ hk => ⟨hk.1.1.1, ⟨hk.1.1.2, hk.1.2⟩⟩)⟩, ⟨by (with_reducible repeat (first | apply Kd.R_alloc | apply Kd.R_drewN | apply Kd.R_drew)); exact Kd.R_mono (Kd.R_far (p := ⟨gb221, 0, none⟩) (Kd.R_types HO231.out BK221.out (by decide)) (fun _ hk => hk.2) (.slice Ao60 y229.length co60)) (fun _ hk => ⟨hk.1.1, ⟨hk.1.2.1, hk.1.2.2⟩⟩)⟩, ⟨by (with_reducible repeat (first | refine xq ?_ _ | refine xr ?_ | refine xo ?_ _)); refine blk_far ?_ NB213_221.out _; (with_reducible repeat (first | refine xq ?_ _ | refine xr ?_ | refine xo ?_ _)); exact BK213.out⟩, ⟨by (with_reducible repeat (first | refine xq ?_ _ | refine xr ?_ | refine xo ?_ _)); refine blk_far ?_ NB214_221.out _; (with_reducible repeat (first | refine xq ?_ _ | refine xr ?_ | refine xo ?_ _)); exact BK214.out⟩, ⟨by (with_reducible repeat (first | refine xq ?_ _ | refine xr ?_ | refine xo ?_ _)); refine blk_far ?_ NB220_221.out _; (with_reducible repeat (first | refine xq ?_ _ | refine xr ?_ | refine xo ?_ _)); exact BK220.out⟩, ⟨by (with_reducible repeat (first | refine xq ?_ _ | refine xr ?_ | refine xo ?_ _)); refine blk_put (cs := #[u222000]) ?_ 0 _ rfl; (with_reducible repeat (first | refine xq ?_ _ | refine xr ?_ | refine xo ?_ _)); exact BK221.out⟩, ⟨bG⟩⟩
         ·rw [if_neg c47] at H
          exact absurd H (by simp)
       ·rw [if_neg c29] at H
        exact absurd H (by simp)
      ·rw [if_neg c28] at H
       have c28b0 : decide (x13_2 < a1) = false := decide_eq_false c28
       clear c28
       obtain ⟨y232, hy232⟩ : ∃ y_ : List (S53), y_ = (([(⟨(⟨x221000_2⟩ : S49), 1⟩ : S53), (⟨(⟨x222000_2⟩ : S49), 1⟩ : S53)] : List (S53))) := ⟨_, rfl⟩
       replace H : ((spec_l2Tell.f k2 a1 y232).bind fun bt235 => (some (bt235.1, bt235.2.1, bt235.2.2))) = some (r1, r2, r3) := by first | (rw [hy232]; with_reducible exact H) | (have H2_ := (Option.bind_some _ _).symm.trans H; rw [hy232]; with_reducible exact H2_) | (have H2_ := (Option.bind_some _ _).symm.trans H; with_reducible exact H2_) | with_reducible exact H | (rw [hy232]; exact H) | exact H
       have Ny232 := xm hy232
       clear hy232
       replace H := Option.bind_eq_some_iff.mp H
       obtain ⟨⟨t235, t236, t239⟩, A620, H⟩ := H
       replace H : (some (t235, t236, t239)) = some (r1, r2, r3) := H
       have A62 := xm A620
       clear A620
       simp only [Option.some.injEq, Prod.mk.injEq] at H
       obtain ⟨rfl, rfl, rfl⟩ := H
       have hnb63 := NB220_213.out
       have hnc63 := NB213_220.out
       have hnb64 := NB220_214.out
       have hnc64 := NB214_220.out
       have hnb65 := NB220_221.out
       have hnc65 := NB221_220.out
       obtain ⟨hcz66_0, hfz66_0⟩ := cz1 BK220.out
       obtain ⟨Ao67, co67, eo67⟩ := Kd.R_slice HO_221000.out
       subst eo67
       have hnb68 := NB221_213.out
       have hnc68 := NB213_221.out
       have hnb69 := NB221_214.out
       have hnc69 := NB214_221.out
       obtain ⟨hcz70_0, hfz70_0⟩ := cz1 BK221.out
       obtain ⟨Ao71, co71, eo71⟩ := Kd.R_slice HO_222000.out
       subst eo71
       go_wp2_with (first | ((with_reducible refine gate_dst (N := 61) rfl ?_); refine Kd.N_lit k53 _ 53 ?hg (N' := 61) ?hd (xs := ([(⟨(⟨x221000_2⟩ : S49), 1⟩ : S53), (⟨(⟨x222000_2⟩ : S49), 1⟩ : S53)] : List (S53))) (inner := [.slice Ao67 x221000_2.length co67, .int .i64 1, .slice Ao71 x222000_2.length co71, .int .i64 1]) (ok := (fun k_ => (w.heap.size ≤ k_) ∧ some k_ ≠ (v218 : Value).ownBlock ∧ k_ ≠ gb213 ∧ k_ ≠ gb214 ∧ k_ ≠ gb220 ∧ k_ ≠ gb221)) (okp := (fun k_ => (w.heap.size ≤ k_) ∧ some k_ ≠ (v218 : Value).ownBlock ∧ k_ ≠ gb213 ∧ k_ ≠ gb214 ∧ k_ ≠ gb220 ∧ k_ ≠ gb221)) ?hr ?hp (fun _ hk => hk) ((show ∀ k_, wr.heap.size ≤ k_ → (fun k_ => (w.heap.size ≤ k_) ∧ some k_ ≠ (v218 : Value).ownBlock ∧ k_ ≠ gb213 ∧ k_ ≠ gb214 ∧ k_ ≠ gb220 ∧ k_ ≠ gb221) k_ from fun k_ hk => ⟨(Nat.le_trans (xz bG) hk), Kd.fresh' (Kd.R_lt (rB HO_10)) k_ hk, Kd.freshB (kB BK213) k_ hk, Kd.freshB (kB BK214) k_ hk, Kd.freshB (kB BK220) k_ hk, Kd.freshB (kB BK221) k_ hk⟩) _ (Nat.le_refl _)) (Below.refl _ _) (Nat.le_refl _) (by simp) ?_; (case hd => rfl); (case hg => rfl); (case hr => exact zB); (case hp => exact (Reps.c2 (show Kd.FK k53 _ _ (⟨(⟨x221000_2⟩ : S49), 1⟩ : S53) [.slice Ao67 x221000_2.length co67, .int .i64 1] from (k53_mkF _ _ (⟨(⟨x221000_2⟩ : S49), 1⟩ : S53) (Kd.R_reads' (Kd.R_mono (ok' := (fun k_ => (w.heap.size ≤ k_) ∧ some k_ ≠ (v218 : Value).ownBlock ∧ k_ ≠ gb213 ∧ k_ ≠ gb214 ∧ k_ ≠ gb220 ∧ k_ ≠ gb221)) (Kd.R_types (Kd.R_types (Kd.R_types (Kd.R_types (HO_221000.out) BK213.out (by decide)) BK214.out (by decide)) BK220.out (by decide)) BK221.out (by decide)) (fun k_ hk => ⟨hk.1.1.1.1.1, ⟨hk.1.1.1.1.2.1, ⟨hk.1.1.1.2, ⟨hk.1.1.2, ⟨hk.1.2, hk.2⟩⟩⟩⟩⟩))).2.1 (Kd.R_F (Kd.R_mono (ok' := (fun k_ => (w.heap.size ≤ k_) ∧ some k_ ≠ (v218 : Value).ownBlock ∧ k_ ≠ gb213 ∧ k_ ≠ gb214 ∧ k_ ≠ gb220 ∧ k_ ≠ gb221)) (Kd.R_types (Kd.R_types (Kd.R_types (Kd.R_types (HO_221000.out) BK213.out (by decide)) BK214.out (by decide)) BK220.out (by decide)) BK221.out (by decide)) (fun k_ hk => ⟨hk.1.1.1.1.1, ⟨hk.1.1.1.1.2.1, ⟨hk.1.1.1.2, ⟨hk.1.1.2, ⟨hk.1.2, hk.2⟩⟩⟩⟩⟩))))) (Reps.c2 (show Kd.FK k53 _ _ (⟨(⟨x222000_2⟩ : S49), 1⟩ : S53) [.slice Ao71 x222000_2.length co71, .int .i64 1] from (k53_mkF _ _ (⟨(⟨x222000_2⟩ : S49), 1⟩ : S53) (Kd.R_reads' (Kd.R_mono (ok' := (fun k_ => (w.heap.size ≤ k_) ∧ some k_ ≠ (v218 : Value).ownBlock ∧ k_ ≠ gb213 ∧ k_ ≠ gb214 ∧ k_ ≠ gb220 ∧ k_ ≠ gb221)) (Kd.R_types (Kd.R_types (Kd.R_types (Kd.R_types (HO_222000.out) BK213.out (by decide)) BK214.out (by decide)) BK220.out (by decide)) BK221.out (by decide)) (fun k_ hk => ⟨hk.1.1.1.1.1, ⟨hk.1.1.1.1.2.1, ⟨hk.1.1.1.2, ⟨hk.1.1.2, ⟨hk.1.2, hk.2⟩⟩⟩⟩⟩))).2.1 (Kd.R_F (Kd.R_mono (ok' := (fun k_ => (w.heap.size ≤ k_) ∧ some k_ ≠ (v218 : Value).ownBlock ∧ k_ ≠ gb213 ∧ k_ ≠ gb214 ∧ k_ ≠ gb220 ∧ k_ ≠ gb221)) (Kd.R_types (Kd.R_types (Kd.R_types (Kd.R_types (HO_222000.out) BK213.out (by decide)) BK214.out (by decide)) BK220.out (by decide)) BK221.out (by decide)) (fun k_ hk => ⟨hk.1.1.1.1.1, ⟨hk.1.1.1.1.2.1, ⟨hk.1.1.1.2, ⟨hk.1.1.2, ⟨hk.1.2, hk.2⟩⟩⟩⟩⟩))))) (Reps.none _ _)))); intro v233 w72 ho73 hb hg_ hnew_; clear hg_ hnew_; (first | rw [← Ny232.out] at ho73 | (simp only [Int.reduceToNat] at ho73; rw [← Ny232.out] at ho73)); have n0_ := xm (Kd.R_below (rB HO_10) hb); have n1_ := xm (Kd.N_lower ho73 (xz bG)); have n2_ := xm (blk_below (kB BK213) hb); have n3_ := xm (blk_below (kB BK214) hb); have n4_ := xm (blk_below (kB BK220) hb); have n5_ := xm (blk_below (kB BK221) hb); have n6_ := xm (below_step bG hb); revert n0_ n1_ n2_ n3_ n4_ n5_ n6_; clear HO_10 BK213 BK214 BK220 BK221 HB HO_221000 HO_222000; intro HO_10 HO234 BK213 BK214 BK220 BK221 HB; clear hb ho73; obtain ⟨Ao74, co74, eo74⟩ := Kd.N_slice HO234.out; subst eo74) | ((with_reducible refine gate_callee (f := 21) rfl ?_); refine goesL_ (some 62) rfl rfl Try.func21 (by kernel_rfl) rfl #[.int .i64 a1, .slice Ao74 y232.length co74] rfl mB ?_; (with_reducible refine (spec_l2Tell.calls k2 a1 _ _ y232 t235 t236 t239 _ ?side1 ?side2 A62.out).mono ?_); (case side1 => repeat (first | exact (Kd.N_reads' HO234.out).2.2 | (with_reducible refine Kd.C_alloc ?_ _) | (with_reducible refine Kd.C_drewN ?_ _) | (with_reducible refine Kd.C_drew ?_))); (case side2 => exact (Kd.N_reads' HO234.out).2.1); rintro e w75 ⟨v237, rfl, ho0, hb⟩; refine ⟨_, rfl, ?_⟩; have n0_ := xm (Kd.R_below (rB HO_10) hb); have n1_ := xm (Kd.N_elder' (by (with_reducible repeat (first | apply Kd.N_alloc | apply Kd.N_drewN | apply Kd.N_drew)); exact HO234.out) (Kd.S_base ho0) hb); have n2_ := xm (Kd.S_lower ho0 (xz bG)); have n3_ := xm (blk_below (kB BK213) hb); have n4_ := xm (blk_below (kB BK214) hb); have n5_ := xm (blk_below (kB BK220) hb); have n6_ := xm (blk_below (kB BK221) hb); have n7_ := xm (below_step bG hb); revert n0_ n1_ n2_ n3_ n4_ n5_ n6_ n7_; clear HO_10 HO234 BK213 BK214 BK220 BK221 HB; intro HO_10 HO234 HO238 BK213 BK214 BK220 BK221 HB; (try clear hb); (try clear ho0); have hnb76 := NB214_213.out; have hnc76 := NB213_214.out; obtain ⟨hcz77_0, hcz77_1, hfz77_0, hfz77_1⟩ := cz2 BK214.out; obtain ⟨Ao78, co78, eo78⟩ := Kd.S_slice HO238.out; subst eo78))
       refine bodyPost_ret (results_ct rfl _ _ gb214 30 #[.int .i64 t235, .slice Ao78 t236.length co78] (0, 0) _ rfl (by (with_reducible repeat (first | refine xq ?_ _ | refine xr ?_ | refine xo ?_ _)); refine blk_put (cs := #[.int .i64 t235, .slice none 0 0]) ?_ 1 _ rfl; (with_reducible repeat (first | refine xq ?_ _ | refine xr ?_ | refine xo ?_ _)); refine blk_put (cs := #[.int .i64 0, .slice none 0 0]) ?_ 0 _ rfl; (with_reducible repeat (first | refine xq ?_ _ | refine xr ?_ | refine xo ?_ _)); exact BK214.out) Try.underlying30 rfl (by kernel_rfl)) rfl ?_
       exact ⟨_, eB, by (with_reducible repeat (first | apply Kd.S_alloc | apply Kd.S_drewN | apply Kd.S_drew)); exact Kd.S_mono (Kd.S_far (p := ⟨gb214, 1, none⟩) (Kd.S_far (p := ⟨gb214, 0, none⟩) (Kd.S_types HO238.out BK214.out (by decide)) (fun _ hk => hk.2) (.int .i64 t235)) (fun _ hk => hk.2) (.slice Ao78 t236.length co78)) (fun _ _ => trivial), bG⟩

end Go.Proofs.Ytaddemalepndfah.G
