/- Written by a program of this claim's own, out of the translation: functions of the program as plain functions, and that the calls answer as these. No conditions. -/
import Derived.Test.YtaddemalepndfaiG0
import Derived.Test.YtaddemalepndfaiG3
namespace Go.Proofs.Ytaddemalepndfai.G
open Go.RowKit Go.Proofs.Ytaddemalepndfai.X Go.Proofs.YtaddemalepndfaiW.PrintWords Go.Proofs.YtaddemalepndfaiW.PrintLast Go.Proofs.YtaddemalepndfaiW.PrintMore
attribute [local go_sem] max2_int min2_int max_two min_two max_three min_three max_four min_four   -- for this text's walks alone
set_option linter.unusedVariables false
set_option linter.unusedSimpArgs false

/-! ### spec_RowBytes: function 8 -/
def spec_RowBytes.l0 : Nat → List Int → List Int → Int → Int → Option (ByteArray × Bool)
 | 0, _, _, _, _ => none
 | k + 1, x4, x17, x18, x19 => if x19 < x18 then (if 0 ≤ x19 then (if x19 < (x17.length : Int) then ((some (([((wrap64 ((rd x17 x19) + 100000)) / 65536) % 256, ((wrap64 ((rd x17 x19) + 100000)) / 256) % 256, (wrap64 ((rd x17 x19) + 100000)) % 256] : List Int) : List Int)).bind fun y197 => (if x4.length + y197.length < 140737488355328 then (spec_RowBytes.l0 k (x4 ++ y197) x17 x18 (wrap64 (x19 + 1))) else (none))) else (none)) else (none)) else (some (strOfNums x4, true))
def spec_RowBytes.f (k : Nat) (l0_0 : List Int) : Option (ByteArray × Bool) := (spec_GoodRow.f k l0_0).bind fun t192 => (if t192 = true then (spec_RowBytes.l0 k (([((l0_0.length : Int)) % 256] : List Int)) l0_0 (l0_0.length : Int) 0) else (some ((⟨#[]⟩ : ByteArray), false)))
theorem spec_RowBytes.mono_l : ∀ k, (∀ y0 y1 y2 y3, LeO (spec_RowBytes.l0 k y0 y1 y2 y3) (spec_RowBytes.l0 (k + 1) y0 y1 y2 y3))
 | 0 => fun _ _ _ _ r h => by simp [spec_RowBytes.l0] at h
 | k + 1 => by
  have ih0 := spec_RowBytes.mono_l k
  ·intro y0 y1 y2 y3
   unfold spec_RowBytes.l0
   repeat' first
   | (with_reducible exact ih0 _ _ _ _)
   | (with_reducible exact spec_GoodRow.mono _ _)
   | (with_reducible exact LeO.refl _)
   | (with_reducible exact LeO.none _)
   | (with_reducible refine LeO.ite ?_ ?_)
   | (with_reducible refine LeO.bind ?_ (fun _ => ?_))
   | exact ih0 _ _ _ _
   | exact spec_GoodRow.mono _ _
   | exact LeO.none _
   | refine LeO.ite ?_ ?_
   | refine LeO.bind ?_ (fun _ => ?_)
theorem spec_RowBytes.mono : ∀ a0 k, LeO (spec_RowBytes.f k a0) (spec_RowBytes.f (k + 1) a0) := by
 intro a0 k
 have ih0 := spec_RowBytes.mono_l k
 unfold spec_RowBytes.f
 repeat' first
   | (with_reducible exact ih0 _ _ _ _)
   | (with_reducible exact spec_GoodRow.mono _ _)
   | (with_reducible exact LeO.refl _)
   | (with_reducible exact LeO.none _)
   | (with_reducible refine LeO.ite ?_ ?_)
   | (with_reducible refine LeO.bind ?_ (fun _ => ?_))
   | exact ih0 _ _ _ _
   | exact spec_GoodRow.mono _ _
   | exact LeO.none _
   | refine LeO.ite ?_ ?_
   | refine LeO.bind ?_ (fun _ => ?_)
set_option maxHeartbeats 8000000 in
set_option maxRecDepth 100000 in
theorem spec_RowBytes.calls (k : Nat) (A0_0 : Option Addr) (c0_0 : Nat) (l0_0 : List Int) (r1 : ByteArray) (r2 : Bool) (w : World) (hr0_0 : Kd.C (Kd.int .i64) w A0_0 l0_0.length l0_0) (hc0_0 : l0_0.length ≤ c0_0) (h : spec_RowBytes.f k l0_0 = some (r1, r2)) :
  Calls Try.prog 8 #[.agg #[.slice A0_0 l0_0.length c0_0]] w fun e w' => e = .returned (.tuple #[.string r1, .bool r2]) ∧ Below w.heap.size w w' := by
 have hu25 := Try.underlying25
 have HR0_0 := xm hr0_0
 have HC0_0 := xm hc0_0
 clear hr0_0 hc0_0
 have HB := xm (Below.refl w.heap.size w)
 have H : ((spec_GoodRow.f k l0_0).bind fun t192 => (if t192 = true then (spec_RowBytes.l0 k (([((l0_0.length : Int)) % 256] : List Int)) l0_0 (l0_0.length : Int) 0) else (some ((⟨#[]⟩ : ByteArray), false)))) = some (r1, r2) := h
 clear h
 replace H := Option.bind_eq_some_iff.mp H
 obtain ⟨t192, A20, H⟩ := H
 replace H : (if t192 = true then (spec_RowBytes.l0 k (([((l0_0.length : Int)) % 256] : List Int)) l0_0 (l0_0.length : Int) 0) else (some ((⟨#[]⟩ : ByteArray), false))) = some (r1, r2) := H
 have A2 := xm A20
 clear A20
 by_cases c3 : t192 = true
 ·subst c3
  have H1 : (spec_RowBytes.l0 k (([((l0_0.length : Int)) % 256] : List Int)) l0_0 (l0_0.length : Int) 0) = some (r1, r2) := by first | (with_reducible rfl) | (rw [if_pos rfl] at H; exact H)
  clear H
  have H := H1
  clear H1
  obtain ⟨y193, hy193⟩ : ∃ y_ : List Int, y_ = (([((l0_0.length : Int)) % 256] : List Int)) := ⟨_, rfl⟩
  replace H : (spec_RowBytes.l0 k y193 l0_0 (l0_0.length : Int) 0) = some (r1, r2) := by first | (rw [hy193]; with_reducible exact H) | (have H2_ := (Option.bind_some _ _).symm.trans H; rw [hy193]; with_reducible exact H2_) | (have H2_ := (Option.bind_some _ _).symm.trans H; with_reducible exact H2_) | with_reducible exact H | (rw [hy193]; exact H) | exact H
  have Ny193 := xm hy193
  clear hy193
  have H' := xm H
  clear H
  go_enter Try.func8, Try.ntmps8
  go_wp2_with (first | ((with_reducible refine gate_dst (N := 1) rfl ?_); refine box_event ?hg (N := 1) ?hd (cs := #[.slice A0_0 l0_0.length c0_0]) (t := 25) ?hr ?_; (case hd => rfl); (case hg => rfl); (case hr => exact zB); intro gb191 hg w4 hbox hb; have n0_ := xm (below_step bB hb); have n1_ := xm (hbox); have n2_ := xm ((by rw [hg]; exact (xz bB) : w.heap.size ≤ gb191)); have n3_ := xm ((by rw [hg]; exact (xz bB) : w.heap.size ≤ gb191)); revert n0_ n1_ n2_ n3_; clear HB; intro HB BK191 GW191 GE191; clear hb hbox hg; obtain ⟨hcz5_0, hfz5_0⟩ := cz1 BK191.out) | ((with_reducible refine gate_callee (f := 18) rfl ?_); refine goesL_ (some 9) rfl rfl Try.func18 (by kernel_rfl) rfl #[.agg #[.slice A0_0 l0_0.length c0_0]] rfl mB ?_; (with_reducible refine (spec_GoodRow.calls k _ _ l0_0 true _ ?side1 ?side2 A2.out).mono ?_); (case side1 => exact cB (Kd.C_below HR0_0.out HB.out)); (case side2 => exact HC0_0.out); rintro e w6 ⟨rfl, hb⟩; refine ⟨_, rfl, ?_⟩; have n0_ := xm (blk_below (kB BK191) hb); have n1_ := xm (below_step bG hb); revert n0_ n1_; clear BK191 HB; intro BK191 HB; (try clear hb); (try clear hk); obtain ⟨hcz7_0, hfz7_0⟩ := cz1 BK191.out) | ((with_reducible refine gate_dst (N := 15) rfl ?_); refine Kd.R_lit (Kd.int .u8) _ 5 ?hg (N := 15) ?hd (xs := ([((l0_0.length : Int)) % 256] : List Int)) (inner := [.int .u8 (((l0_0.length : Int)) % 256)]) (ok := fun _ => True) (okp := fun _ => True) ?hr ?hp (fun _ hk => hk) trivial (Below.refl _ _) (Nat.le_refl _) (by simp) ?_; (case hd => rfl); (case hg => rfl); (case hr => exact zB); (case hp => exact (Reps.one (show Kd.M (Kd.int .u8) _ _ _ (((l0_0.length : Int)) % 256) [.int .u8 (((l0_0.length : Int)) % 256)] from rfl) (Reps.none _ _))); intro v194 w8 ho9 hb hg_ hnew_; clear hg_ hnew_; (first | rw [← Ny193.out] at ho9 | (simp only [Int.reduceToNat] at ho9; rw [← Ny193.out] at ho9)); have n0_ := xm (Kd.R_lower ho9 (xz bG)); have n1_ := xm (blk_below (kB BK191) hb); have n2_ := xm (below_step bG hb); revert n0_ n1_ n2_; clear BK191 HB; intro HO195 BK191 HB; clear hb ho9; obtain ⟨hcz10_0, hfz10_0⟩ := cz1 BK191.out))
  go_loopg [4, 19] k (fun kq v4 v19 w' => ∃ (x4_1 : List Int) (x19_1 : Int), v19 = .int .i64 x19_1 ∧ Aside0 (spec_RowBytes.l0 kq x4_1 l0_0 (l0_0.length : Int) x19_1 = some (r1, r2)) ∧ Aside0 (kq ≤ k) ∧ Aside0 (Kd.R (Kd.int .u8) 5 w' w.heap.size (fun _ => True) v4 x4_1) ∧ Aside0 (w'.heap[gb191]? = some (.cells #[(.slice A0_0 l0_0.length c0_0)] 25 (0, 0))) ∧ Aside0 (Below w.heap.size w w'))
  case atStart => exact ⟨(y193), (0), sB, H', ⟨Nat.le_refl _⟩, ⟨rB HO195⟩, ⟨kB BK191⟩, ⟨bG⟩⟩
  case round =>
   clear H'
   try clear c1
   try clear p2
   try clear c3
   try clear c8
   try clear hcz10_0
   try clear hcz5_0
   try clear hcz7_0
   try clear hfz10_0
   try clear hfz5_0
   try clear hfz7_0
   obtain ⟨x4_1, x19_1, rfl, HA, HK1, HO_4, BK191, HB⟩ := hrel
   cases gk with
   | zero => exact absurd HA.out (by simp [spec_RowBytes.l0])
   | succ k1 =>
    have H := HA.out
    clear HA
    simp only [spec_RowBytes.l0] at H
    by_cases c11 : x19_1 < (l0_0.length : Int)
    ·rw [if_pos c11] at H
     have c11b0 : decide (x19_1 < (l0_0.length : Int)) = true := decide_eq_true c11
     clear c11
     by_cases c12 : 0 ≤ x19_1
     ·rw [if_pos c12] at H
      have c12b0 : decide (0 ≤ x19_1) = true := decide_eq_true c12
      clear c12
      by_cases c13 : x19_1 < (l0_0.length : Int)
      ·rw [if_pos c13] at H
       have c13b0 : decide (x19_1 < (l0_0.length : Int)) = true := decide_eq_true c13
       clear c13
       obtain ⟨y197, hy197⟩ : ∃ y_ : List Int, y_ = (([((wrap64 ((rd l0_0 x19_1) + 100000)) / 65536) % 256, ((wrap64 ((rd l0_0 x19_1) + 100000)) / 256) % 256, (wrap64 ((rd l0_0 x19_1) + 100000)) % 256] : List Int)) := ⟨_, rfl⟩
       replace H : (if x4_1.length + y197.length < 140737488355328 then (spec_RowBytes.l0 k1 (x4_1 ++ y197) l0_0 (l0_0.length : Int) (wrap64 (x19_1 + 1))) else (none)) = some (r1, r2) := by first | (rw [hy197]; with_reducible exact H) | (have H2_ := (Option.bind_some _ _).symm.trans H; rw [hy197]; with_reducible exact H2_) | (have H2_ := (Option.bind_some _ _).symm.trans H; with_reducible exact H2_) | with_reducible exact H | (rw [hy197]; exact H) | exact H
       have Ny197 := xm hy197
       clear hy197
       by_cases c14 : x4_1.length + y197.length < 140737488355328
       ·rw [if_pos c14] at H
        have LMc14 := xm c14
        clear c14
        obtain ⟨y200, hy200⟩ : ∃ y_ : List Int, y_ = (x4_1 ++ y197) := ⟨_, rfl⟩
        replace H : (spec_RowBytes.l0 k1 y200 l0_0 (l0_0.length : Int) (wrap64 (x19_1 + 1))) = some (r1, r2) := by first | (rw [hy200]; with_reducible exact H) | (have H2_ := (Option.bind_some _ _).symm.trans H; rw [hy200]; with_reducible exact H2_) | (have H2_ := (Option.bind_some _ _).symm.trans H; with_reducible exact H2_) | with_reducible exact H | (rw [hy200]; exact H) | exact H
        have Ny200 := xm hy200
        clear hy200
        have H' := xm H
        clear H
        have p196 : 0 ≤ (x19_1 : Int) := of_decide_eq_true aB
        have q196 : x19_1 < (l0_0.length : Int) := of_decide_eq_true aB
        obtain ⟨ad196, e196, hx196_0⟩ := Kd.at_int HR0_0.out x19_1 p196 q196
        cases e196
        replace hx196_0 := hU hx196_0
        replace p196 := eq_true p196
        replace q196 := eq_true q196
        go_wp2_with (first | ((with_reducible refine gate_dst (N := 34) rfl ?_); refine Kd.R_lit (Kd.int .u8) _ 5 ?hg (N := 34) ?hd (xs := ([((wrap64 ((rd l0_0 x19_1) + 100000)) / 65536) % 256, ((wrap64 ((rd l0_0 x19_1) + 100000)) / 256) % 256, (wrap64 ((rd l0_0 x19_1) + 100000)) % 256] : List Int)) (inner := [.int .u8 (((wrap64 ((rd l0_0 x19_1) + 100000)) / 65536) % 256), .int .u8 (((wrap64 ((rd l0_0 x19_1) + 100000)) / 256) % 256), .int .u8 ((wrap64 ((rd l0_0 x19_1) + 100000)) % 256)]) (ok := fun _ => True) (okp := fun _ => True) ?hr ?hp (fun _ hk => hk) trivial (Below.refl _ _) (Nat.le_refl _) (by simp) ?_; (case hd => rfl); (case hg => rfl); (case hr => exact zB); (case hp => exact (Reps.one (show Kd.M (Kd.int .u8) _ _ _ (((wrap64 ((rd l0_0 x19_1) + 100000)) / 65536) % 256) [.int .u8 (((wrap64 ((rd l0_0 x19_1) + 100000)) / 65536) % 256)] from rfl) (Reps.one (show Kd.M (Kd.int .u8) _ _ _ (((wrap64 ((rd l0_0 x19_1) + 100000)) / 256) % 256) [.int .u8 (((wrap64 ((rd l0_0 x19_1) + 100000)) / 256) % 256)] from rfl) (Reps.one (show Kd.M (Kd.int .u8) _ _ _ ((wrap64 ((rd l0_0 x19_1) + 100000)) % 256) [.int .u8 ((wrap64 ((rd l0_0 x19_1) + 100000)) % 256)] from rfl) (Reps.none _ _))))); intro v198 w15 ho16 hb hg_ hnew_; clear hg_ hnew_; (first | rw [← Ny197.out] at ho16 | (simp only [Int.reduceToNat] at ho16; rw [← Ny197.out] at ho16)); have n0_ := xm (Kd.R_elder' (rB HO_4) (Kd.R_base ho16) hb); have n1_ := xm (Kd.R_lower (Kd.R_new' ho16 (Kd.R_lt (rB HO_4))) (xz bG)); have n2_ := xm (blk_below (kB BK191) hb); have n3_ := xm (below_step bG hb); revert n0_ n1_ n2_ n3_; clear HO_4 BK191 HB; intro HO_4 HO199 BK191 HB; clear hb ho16; obtain ⟨Ao18, co18, eo18⟩ := Kd.R_slice HO199.out; subst eo18) | ((with_reducible refine gate_builtin (b := .append) (xs := #[.tmp 25, .tmp 34]) rfl ?_); at_builtin; refine Kd.R_append_rows (Kd.int .u8) (w0 := w) w.heap.size rfl (.tmp 25) (.tmp 34) 22 5 (.int .u8 0) 1 rfl Try.underlying22 info5 rfl (by decide) (by omega) u4 x4_1 y197 _ _ _ (fun k_ => some k_ ≠ (.slice Ao18 y197.length co18 : Value).ownBlock) (fun _ => False) rfl rfl ?aO ?aR (fun _ _ h => h) (fun _ h => h.elim) ?aF ?aB ?aS ?aL ?_; (case aR => repeat (first | exact (Kd.R_reads' HO199.out).2.2 | (with_reducible refine Kd.C_alloc ?_ _) | (with_reducible refine Kd.C_drewN ?_ _) | (with_reducible refine Kd.C_drew ?_))); (case aB => exact bG); (case aF => exact (fun k_ hk => Kd.fresh' (Kd.R_lt (rB HO199)) k_ hk)); (case aO => exact (by (with_reducible repeat (first | apply Kd.R_alloc | apply Kd.R_drewN | apply Kd.R_drew)); exact Kd.R_mono HO_4.out (fun _ hk => hk.2))); (case aS => exact (xz bG)); (case aL => have := LMc14.out; omega); intro v201 w17 ho hb hg hat; rw [← Ny200.out] at ho; have n0_ := xm (blk_grown (kB BK191) hg (Kd.R_ne HO_4.out BK191.out (by decide))); have n1_ := xm (Kd.R_after (ok := (fun _ => True)) (rB HO199) hg hat); have n2_ := xm (hb); have n3_ := xm (ho); revert n0_ n1_ n2_ n3_; clear BK191 HO199 HB HO_4; intro BK191 HO199 HB HO202; clear ho hb hg hat))
        go_roundg k1
        case measure => have := HK1.out; omega
        case rel => exact ⟨(y200), (wrap64 (x19_1 + 1)), sB, H', ⟨by have := HK1.out; omega⟩, ⟨by (with_reducible repeat (first | apply Kd.R_alloc | apply Kd.R_drewN | apply Kd.R_drew)); exact Kd.R_mono HO202.out (fun _ hk => trivial)⟩, ⟨kB BK191⟩, ⟨bG⟩⟩
       ·rw [if_neg c14] at H
        exact absurd H (by simp)
      ·rw [if_neg c13] at H
       exact absurd H (by simp)
     ·rw [if_neg c12] at H
      exact absurd H (by simp)
    ·rw [if_neg c11] at H
     have c11b0 : decide (x19_1 < (l0_0.length : Int)) = false := decide_eq_false c11
     clear c11
     simp only [Option.some.injEq, Prod.mk.injEq] at H
     obtain ⟨rfl, rfl⟩ := H
     have hcv19 := own_string (P := Try.prog) Try.underlying22 Try.underlying5 Try.underlying9 (Kd.own_of_R HO_4.out)
     go_wp2
     go_ret2
     exact ⟨eB, bG⟩
 ·replace c3 := Bool.eq_false_iff.mpr c3
  subst c3
  have H1 : (some ((⟨#[]⟩ : ByteArray), false)) = some (r1, r2) := by first | (with_reducible rfl) | (rw [if_neg (show ¬ (false = true) by decide)] at H; exact H)
  clear H
  have H := H1
  clear H1
  simp only [Option.some.injEq, Prod.mk.injEq] at H
  obtain ⟨rfl, rfl⟩ := H
  go_enter Try.func8, Try.ntmps8
  go_wp2_with (first | ((with_reducible refine gate_dst (N := 1) rfl ?_); refine box_event ?hg (N := 1) ?hd (cs := #[.slice A0_0 l0_0.length c0_0]) (t := 25) ?hr ?_; (case hd => rfl); (case hg => rfl); (case hr => exact zB); intro gb191 hg w20 hbox hb; have n0_ := xm (below_step bB hb); have n1_ := xm (hbox); have n2_ := xm ((by rw [hg]; exact (xz bB) : w.heap.size ≤ gb191)); have n3_ := xm ((by rw [hg]; exact (xz bB) : w.heap.size ≤ gb191)); revert n0_ n1_ n2_ n3_; clear HB; intro HB BK191 GW191 GE191; clear hb hbox hg; obtain ⟨hcz21_0, hfz21_0⟩ := cz1 BK191.out) | ((with_reducible refine gate_callee (f := 18) rfl ?_); refine goesL_ (some 9) rfl rfl Try.func18 (by kernel_rfl) rfl #[.agg #[.slice A0_0 l0_0.length c0_0]] rfl mB ?_; (with_reducible refine (spec_GoodRow.calls k _ _ l0_0 false _ ?side1 ?side2 A2.out).mono ?_); (case side1 => exact cB (Kd.C_below HR0_0.out HB.out)); (case side2 => exact HC0_0.out); rintro e w22 ⟨rfl, hb⟩; refine ⟨_, rfl, ?_⟩; have n0_ := xm (blk_below (kB BK191) hb); have n1_ := xm (below_step bG hb); revert n0_ n1_; clear BK191 HB; intro BK191 HB; (try clear hb)))
  go_ret2
  exact ⟨eB, bG⟩

/-! ### laws_sameInts: function 23 -/
def laws_sameInts.l0 : Nat → List Int → List Int → Int → Int → Option (Bool)
 | 0, _, _, _, _ => none
 | k + 1, x0, x1, x12, x13 => if x13 < x12 then (if 0 ≤ x13 then (if x13 < (x0.length : Int) then (if x13 < (x1.length : Int) then (if (rd x0 x13) = (rd x1 x13) then (laws_sameInts.l0 k x0 x1 x12 (wrap64 (x13 + 1))) else (some false)) else (none)) else (none)) else (none)) else (some true)
def laws_sameInts.f (k : Nat) (l0 : List Int) (l1 : List Int) : Option (Bool) := if (l0.length : Int) = (l1.length : Int) then (laws_sameInts.l0 k l0 l1 (l0.length : Int) 0) else (some false)
theorem laws_sameInts.mono_l : ∀ k, (∀ y0 y1 y2 y3, LeO (laws_sameInts.l0 k y0 y1 y2 y3) (laws_sameInts.l0 (k + 1) y0 y1 y2 y3))
 | 0 => fun _ _ _ _ r h => by simp [laws_sameInts.l0] at h
 | k + 1 => by
  have ih0 := laws_sameInts.mono_l k
  ·intro y0 y1 y2 y3
   unfold laws_sameInts.l0
   repeat' first
   | (with_reducible exact ih0 _ _ _ _)
   | (with_reducible exact LeO.refl _)
   | (with_reducible exact LeO.none _)
   | (with_reducible refine LeO.ite ?_ ?_)
   | (with_reducible refine LeO.bind ?_ (fun _ => ?_))
   | exact ih0 _ _ _ _
   | exact LeO.none _
   | refine LeO.ite ?_ ?_
   | refine LeO.bind ?_ (fun _ => ?_)
theorem laws_sameInts.mono : ∀ a0 a1 k, LeO (laws_sameInts.f k a0 a1) (laws_sameInts.f (k + 1) a0 a1) := by
 intro a0 a1 k
 have ih0 := laws_sameInts.mono_l k
 unfold laws_sameInts.f
 repeat' first
   | (with_reducible exact ih0 _ _ _ _)
   | (with_reducible exact LeO.refl _)
   | (with_reducible exact LeO.none _)
   | (with_reducible refine LeO.ite ?_ ?_)
   | (with_reducible refine LeO.bind ?_ (fun _ => ?_))
   | exact ih0 _ _ _ _
   | exact LeO.none _
   | refine LeO.ite ?_ ?_
   | refine LeO.bind ?_ (fun _ => ?_)
set_option maxHeartbeats 8000000 in
set_option maxRecDepth 100000 in
theorem laws_sameInts.calls (k : Nat) (A0 : Option Addr) (c0 : Nat) (l0 : List Int) (A1 : Option Addr) (c1 : Nat) (l1 : List Int) (r : Bool) (w : World) (hr0 : Kd.C (Kd.int .i64) w A0 l0.length l0) (hc0 : l0.length ≤ c0) (hr1 : Kd.C (Kd.int .i64) w A1 l1.length l1) (hc1 : l1.length ≤ c1) (h : laws_sameInts.f k l0 l1 = some r) :
  Calls Try.prog 23 #[.slice A0 l0.length c0, .slice A1 l1.length c1] w fun e w' => e = .returned (.bool r) ∧ Drawn0 w w' := by
 have HR0 := xm hr0
 have HC0 := xm hc0
 clear hr0 hc0
 have HR1 := xm hr1
 have HC1 := xm hc1
 clear hr1 hc1
 have H : (if (l0.length : Int) = (l1.length : Int) then (laws_sameInts.l0 k l0 l1 (l0.length : Int) 0) else (some false)) = some r := h
 clear h
 by_cases c3 : (l0.length : Int) = (l1.length : Int)
 ·rw [if_pos c3] at H
  have c3b0 : ((l0.length : Int) == (l1.length : Int)) = true := beq_iff_eq.mpr c3
  have c3b1 : ((l0.length : Int) != (l1.length : Int)) = false := bne_eq_false_iff_eq.mpr c3
  have c3b2 : (l0.length == l1.length) = true := by first | simpa using c3 | (simp at c3 ⊢; omega)
  clear c3
  have H' := xm H
  clear H
  go_enter Try.func23, Try.ntmps23
  go_wp2
  repeat (go_quiet (fail); try go_wp2)
  go_loopg [13] k (fun kq v13 w' => ∃ (x13_1 : Int), v13 = .int .i64 x13_1 ∧ Aside0 (laws_sameInts.l0 kq l0 l1 (l0.length : Int) x13_1 = some r) ∧ Aside0 (kq ≤ k) ∧ Drawn0 w w')
  case atStart => exact ⟨(0), sB, H', ⟨Nat.le_refl _⟩, by repeat (first | exact Drawn0.refl _ | apply Drawn0.step)⟩
  case round =>
   clear H'
   try clear c1
   try clear c2
   try clear p2
   try clear c3
   try clear c3b0 c3b1 c3b2
   obtain ⟨x13_1, rfl, HA, HK1, ⟨m1, rfl⟩⟩ := hrel
   cases gk with
   | zero => exact absurd HA.out (by simp [laws_sameInts.l0])
   | succ k1 =>
    have H := HA.out
    clear HA
    simp only [laws_sameInts.l0] at H
    by_cases c4 : x13_1 < (l0.length : Int)
    ·rw [if_pos c4] at H
     have c4b0 : decide (x13_1 < (l0.length : Int)) = true := decide_eq_true c4
     clear c4
     by_cases c5 : 0 ≤ x13_1
     ·rw [if_pos c5] at H
      have c5b0 : decide (0 ≤ x13_1) = true := decide_eq_true c5
      clear c5
      by_cases c6 : x13_1 < (l0.length : Int)
      ·rw [if_pos c6] at H
       have c6b0 : decide (x13_1 < (l0.length : Int)) = true := decide_eq_true c6
       clear c6
       by_cases c7 : x13_1 < (l1.length : Int)
       ·rw [if_pos c7] at H
        have c7b0 : decide (x13_1 < (l1.length : Int)) = true := decide_eq_true c7
        clear c7
        by_cases c8 : (rd l0 x13_1) = (rd l1 x13_1)
        ·rw [if_pos c8] at H
         have c8b0 : ((rd l0 x13_1) == (rd l1 x13_1)) = true := beq_iff_eq.mpr c8
         have c8b1 : ((rd l0 x13_1) != (rd l1 x13_1)) = false := bne_eq_false_iff_eq.mpr c8
         clear c8
         have H' := xm H
         clear H
         have p203 : 0 ≤ (x13_1 : Int) := of_decide_eq_true aB
         have q203 : x13_1 < (l0.length : Int) := of_decide_eq_true aB
         obtain ⟨ad203, e203, hx203_0⟩ := Kd.at_int HR0.out x13_1 p203 q203
         cases e203
         replace p203 := eq_true p203
         replace q203 := eq_true q203
         have p204 : 0 ≤ (x13_1 : Int) := of_decide_eq_true aB
         have q204 : x13_1 < (l1.length : Int) := of_decide_eq_true aB
         obtain ⟨ad204, e204, hx204_0⟩ := Kd.at_int HR1.out x13_1 p204 q204
         cases e204
         replace p204 := eq_true p204
         replace q204 := eq_true q204
         go_wp2
         repeat (go_quiet (fail); try go_wp2)
         go_roundg k1
         case measure => have := HK1.out; omega
         case rel => exact ⟨(wrap64 (x13_1 + 1)), sB, H', ⟨by have := HK1.out; omega⟩, by repeat (first | exact Drawn0.refl _ | apply Drawn0.step)⟩
        ·rw [if_neg c8] at H
         have c8b0 : ((rd l0 x13_1) == (rd l1 x13_1)) = false := beq_eq_false_iff_ne.mpr c8
         have c8b1 : ((rd l0 x13_1) != (rd l1 x13_1)) = true := bne_iff_ne.mpr c8
         obtain rfl := Option.some.inj H
         have p203 : 0 ≤ (x13_1 : Int) := of_decide_eq_true aB
         have q203 : x13_1 < (l0.length : Int) := of_decide_eq_true aB
         obtain ⟨ad203, e203, hx203_0⟩ := Kd.at_int HR0.out x13_1 p203 q203
         cases e203
         replace p203 := eq_true p203
         replace q203 := eq_true q203
         have p204 : 0 ≤ (x13_1 : Int) := of_decide_eq_true aB
         have q204 : x13_1 < (l1.length : Int) := of_decide_eq_true aB
         obtain ⟨ad204, e204, hx204_0⟩ := Kd.at_int HR1.out x13_1 p204 q204
         cases e204
         replace p204 := eq_true p204
         replace q204 := eq_true q204
         go_wp2
         repeat (go_quiet (fail); try go_wp2)
         go_ret
         exact ⟨sB, dB⟩
       ·rw [if_neg c7] at H
        exact absurd H (by simp)
      ·rw [if_neg c6] at H
       exact absurd H (by simp)
     ·rw [if_neg c5] at H
      exact absurd H (by simp)
    ·rw [if_neg c4] at H
     have c4b0 : decide (x13_1 < (l0.length : Int)) = false := decide_eq_false c4
     clear c4
     obtain rfl := Option.some.inj H
     go_wp2
     repeat (go_quiet (fail); try go_wp2)
     go_ret
     exact ⟨sB, dB⟩
 ·rw [if_neg c3] at H
  have c3b0 : ((l0.length : Int) == (l1.length : Int)) = false := beq_eq_false_iff_ne.mpr c3
  have c3b1 : ((l0.length : Int) != (l1.length : Int)) = true := bne_iff_ne.mpr c3
  have c3b2 : (l0.length == l1.length) = false := by first | simpa using c3 | (simp at c3 ⊢; omega)
  obtain rfl := Option.some.inj H
  go_enter Try.func23, Try.ntmps23
  go_wp2
  repeat (go_quiet (fail); try go_wp2)
  go_ret
  exact ⟨sB, dB⟩

/-! ### laws_sameRow: function 10 -/
def laws_sameRow.f (k : Nat) (l0_0 : List Int) (l1_0 : List Int) : Option (Bool) := (laws_sameInts.f k l0_0 l1_0).bind fun t207 => (some t207)
theorem laws_sameRow.mono : ∀ a0 a1 k, LeO (laws_sameRow.f k a0 a1) (laws_sameRow.f (k + 1) a0 a1) := by
 intro a0 a1 k
 unfold laws_sameRow.f
 repeat' first
   | (with_reducible exact laws_sameInts.mono _ _ _)
   | (with_reducible exact LeO.refl _)
   | (with_reducible exact LeO.none _)
   | (with_reducible refine LeO.ite ?_ ?_)
   | (with_reducible refine LeO.bind ?_ (fun _ => ?_))
   | exact laws_sameInts.mono _ _ _
   | exact LeO.none _
   | refine LeO.ite ?_ ?_
   | refine LeO.bind ?_ (fun _ => ?_)
set_option maxHeartbeats 8000000 in
set_option maxRecDepth 100000 in
theorem laws_sameRow.calls (k : Nat) (A0_0 : Option Addr) (c0_0 : Nat) (l0_0 : List Int) (A1_0 : Option Addr) (c1_0 : Nat) (l1_0 : List Int) (r : Bool) (w : World) (hr0_0 : Kd.C (Kd.int .i64) w A0_0 l0_0.length l0_0) (hc0_0 : l0_0.length ≤ c0_0) (hr1_0 : Kd.C (Kd.int .i64) w A1_0 l1_0.length l1_0) (hc1_0 : l1_0.length ≤ c1_0) (h : laws_sameRow.f k l0_0 l1_0 = some r) :
  Calls Try.prog 10 #[.agg #[.slice A0_0 l0_0.length c0_0], .agg #[.slice A1_0 l1_0.length c1_0]] w fun e w' => e = .returned (.bool r) ∧ Below w.heap.size w w' := by
 have hu25 := Try.underlying25
 have HR0_0 := xm hr0_0
 have HC0_0 := xm hc0_0
 clear hr0_0 hc0_0
 have HR1_0 := xm hr1_0
 have HC1_0 := xm hc1_0
 clear hr1_0 hc1_0
 have HB := xm (Below.refl w.heap.size w)
 have H : ((laws_sameInts.f k l0_0 l1_0).bind fun t207 => (some t207)) = some r := h
 clear h
 replace H := Option.bind_eq_some_iff.mp H
 obtain ⟨t207, A30, H⟩ := H
 replace H : (some t207) = some r := H
 have A3 := xm A30
 clear A30
 obtain rfl := Option.some.inj H
 go_enter Try.func10, Try.ntmps10
 go_wp2_with (first | ((with_reducible refine gate_dst (N := 2) rfl ?_); refine box_event ?hg (N := 2) ?hd (cs := #[.slice A0_0 l0_0.length c0_0]) (t := 25) ?hr ?_; (case hd => rfl); (case hg => rfl); (case hr => exact zB); intro gb205 hg w4 hbox hb; have n0_ := xm (below_step bB hb); have n1_ := xm (hbox); have n2_ := xm ((by rw [hg]; exact (xz bB) : w.heap.size ≤ gb205)); have n3_ := xm ((by rw [hg]; exact (xz bB) : w.heap.size ≤ gb205)); revert n0_ n1_ n2_ n3_; clear HB; intro HB BK205 GW205 GE205; clear hb hbox hg) | ((with_reducible refine gate_dst (N := 3) rfl ?_); refine box_event ?hg (N := 3) ?hd (cs := #[.slice A1_0 l1_0.length c1_0]) (t := 25) ?hr ?_; (case hd => rfl); (case hg => rfl); (case hr => exact zB); intro gb206 hg w5 hbox hb; have n0_ := xm (blk_below (kB BK205) hb); have n1_ := xm (below_step bG hb); have n2_ := xm (hbox); have n3_ := xm ((by rw [hg]; exact (xz bG) : w.heap.size ≤ gb206)); have n4_ := xm ((by rw [hg]; exact (xz bG) : w.heap.size ≤ gb206)); have n5_ := xm ((by rw [hg]; exact Nat.ne_of_lt (blk_lt (kB BK205)) : gb205 ≠ gb206)); have n6_ := xm ((by rw [hg]; exact Nat.ne_of_gt (blk_lt (kB BK205)) : gb206 ≠ gb205)); revert n0_ n1_ n2_ n3_ n4_ n5_ n6_; clear BK205 HB; intro BK205 HB BK206 GW206 GE206 NB205_206 NB206_205; clear hb hbox hg; have hnb6 := NB205_206.out; have hnc6 := NB206_205.out; obtain ⟨hcz7_0, hfz7_0⟩ := cz1 BK205.out; obtain ⟨hcz8_0, hfz8_0⟩ := cz1 BK206.out) | ((with_reducible refine gate_callee (f := 23) rfl ?_); refine goesL_ (some 9) rfl rfl Try.func23 (by kernel_rfl) rfl #[.slice A0_0 l0_0.length c0_0, .slice A1_0 l1_0.length c1_0] rfl mB ?_; (with_reducible refine (laws_sameInts.calls k _ _ l0_0 _ _ l1_0 t207 _ ?side1 ?side2 ?side3 ?side4 A3.out).mono ?_); (case side1 => exact cB (Kd.C_below HR0_0.out HB.out)); (case side2 => exact HC0_0.out); (case side3 => exact cB (Kd.C_below HR1_0.out HB.out)); (case side4 => exact HC1_0.out); rintro e w' ⟨rfl, ⟨nd, rfl⟩⟩; refine ⟨_, rfl, ?_⟩))
 go_ret
 exact ⟨eB, bG⟩

end Go.Proofs.Ytaddemalepndfai.G
