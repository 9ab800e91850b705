/- Written by a program of this claim's own, out of the translation: functions of the program as plain functions, and that the calls answer as these. No conditions. -/
import Derived.Test.YtaddemalepndfaiG0
import Derived.Test.YtaddemalepndfaiG1
import Derived.Test.YtaddemalepndfaiG2
import Derived.Test.YtaddemalepndfaiG3
import Derived.Test.YtaddemalepndfaiG5
import Derived.Test.YtaddemalepndfaiG7
namespace Go.Proofs.Ytaddemalepndfai.G
open Go.RowKit Go.Proofs.Ytaddemalepndfai.X Go.Proofs.YtaddemalepndfaiW.PrintWords Go.Proofs.YtaddemalepndfaiW.PrintLast Go.Proofs.YtaddemalepndfaiW.PrintMore
attribute [local go_sem] max2_int min2_int max_two min_two max_three min_three max_four min_four   -- for this text's walks alone
set_option linter.unusedVariables false
set_option linter.unusedSimpArgs false

/-! ### spec_DrawReadRow: function 12 -/
def spec_DrawReadRow.f (k : Nat) (l0 : List Int) : Option ByteArray :=
 (spec_l1Cur_width.f l0 0 0).bind fun t => (spec_l1Cur_row.f k l0 t.2.1 t.2.2 t.1).bind fun u => (spec_RowBytes.f k u.1).bind fun b => (spec_l1Cur_one.f l0 u.2.1 u.2.2 3).bind fun o => if o.1 = true then (spec_l1Cur_spoilt.f k l0 o.2.1 o.2.2 b.1 ⟨#[0, 1, 255]⟩).bind fun s => some s.1 else some b.1
theorem spec_DrawReadRow.mono : ∀ a0 k, LeO (spec_DrawReadRow.f k a0) (spec_DrawReadRow.f (k + 1) a0) := fun a0 k =>
 LeO.bind (LeO.refl _) fun t => LeO.bind (spec_l1Cur_row.mono _ _ _ _ k) fun u => LeO.bind (spec_RowBytes.mono _ k) fun b => LeO.bind (LeO.refl _) fun o => by
  split
  ·exact LeO.bind (spec_l1Cur_spoilt.mono _ _ _ _ _ k) fun _ => LeO.refl _
  ·exact LeO.refl _
set_option maxHeartbeats 8000000 in
set_option maxRecDepth 100000 in
theorem spec_DrawReadRow.calls (k : Nat) (A0 : Option Addr) (c0 : Nat) (l0 : List Int) (r : ByteArray) (w : World) (hr0 : Kd.C (Kd.int .u8) w A0 l0.length l0) (hc0 : l0.length ≤ c0) (h : spec_DrawReadRow.f k l0 = some r) :
  Calls Try.prog 12 #[.slice A0 l0.length c0] w fun e w' => e = .returned (.string r) ∧ Below w.heap.size w w' := by
 have hu41 := Try.underlying41
 have hu25 := Try.underlying25
 obtain ⟨⟨t1, t2, t3⟩, a1, H⟩ := Option.bind_eq_some_iff.mp h
 obtain ⟨⟨u1, u2, u3⟩, a2, H⟩ := Option.bind_eq_some_iff.mp H
 obtain ⟨⟨b1, b2⟩, a3, H⟩ := Option.bind_eq_some_iff.mp H
 obtain ⟨⟨o1, o2, o3⟩, a4, H⟩ := Option.bind_eq_some_iff.mp H
 have A1 := xm a1
 have A2 := xm a2
 have A3 := xm a3
 have A4 := xm a4
 have HR := xm hr0
 have HB := xm (Below.refl w.heap.size w)
 clear h a1 a2 a3 a4 hr0 hc0
 cases o1 with
 | true =>
  replace H : (spec_l1Cur_spoilt.f k l0 o2 o3 b1 ⟨#[0, 1, 255]⟩).bind (fun s => some s.1) = some r := H
  obtain ⟨⟨s1, s2, s3⟩, a5, H⟩ := Option.bind_eq_some_iff.mp H
  have A5 := xm a5
  clear a5
  obtain rfl : s1 = r := Option.some.inj H
  clear H
  go_enter Try.func12, Try.ntmps12
  go_wp2_with (first
   | ((with_reducible refine gate_dst (N := 8) rfl ?_); refine box_event ?hg (N := 8) ?hd (cs := #[.slice A0 l0.length c0, .int .i64 0, .int .u64 0]) (t := 41) ?hr ?_; (case hd => rfl); (case hg => rfl); (case hr => exact zB); intro g hg w1 hbox hb; have n0_ := xm (show IsS41 w w1 g l0 0 0 from ⟨A0, c0, hbox, by rw [hg]; exact xz bB, HR.out⟩); have n1_ := xm (below_step bB hb); clear HB HR hbox hb hg; revert n0_ n1_; intro HI HB)
   | ((with_reducible refine gate_callee (f := 15) rfl ?_); refine goesL_ (some 12) rfl rfl Try.func15 (by kernel_rfl) rfl #[.pointer (some ⟨g, 0, none⟩)] rfl mB ?_; refine (spec_l1Cur_width.calls g l0 0 0  t1 t2 t3 w _ ?side1 ?side2 A1.out).mono ?_; (case side1 => repeat (first | (with_reducible first | exact HI.out | apply IsS41.alloc | apply IsS41.drewN | apply IsS41.drew) | exact HI.out)); (case side2 => repeat (first | (with_reducible first | exact HB.out | apply xa | apply xn | apply xd) | exact HB.out)); rintro e wz ⟨rfl, hi, hb, hk⟩; refine ⟨_, rfl, ?_⟩; clear HI HB hk ; have HI := xm hi; have HB := xm hb; clear hi hb; skip)
   | ((with_reducible refine gate_callee (f := 14) rfl ?_); refine goesL_ (some 13) rfl rfl Try.func14 (by kernel_rfl) rfl #[.pointer (some ⟨g, 0, none⟩), .int .i64 t1] rfl mB ?_; refine (spec_l1Cur_row.calls k g l0 t2 t3 t1 u1 u2 u3 w _ ?side1 ?side2 A2.out).mono ?_; (case side1 => repeat (first | (with_reducible first | exact HI.out | apply IsS41.alloc | apply IsS41.drewN | apply IsS41.drew) | exact HI.out)); (case side2 => repeat (first | (with_reducible first | exact HB.out | apply xa | apply xn | apply xd) | exact HB.out)); rintro e wz ⟨v0_, rfl, ho, hi, hb, hk⟩; refine ⟨_, rfl, ?_⟩; clear HI ; obtain ⟨AHO, cHO, eo⟩ := Kd.R_slice ho; subst eo; have HO := xm (Kd.R_lower ho (xz bB)); clear HB; have HI := xm hi; have HB := xm hb; clear hi hb ho hk; skip)
   | ((with_reducible refine gate_callee (f := 8) rfl ?_); refine goesL_ (some 14) rfl rfl Try.func8 (by kernel_rfl) rfl #[.agg #[.slice AHO u1.length cHO]] rfl mB ?_; refine (spec_RowBytes.calls k AHO cHO u1 b1 b2 _ ?side1 ?side2 A3.out).mono ?_; (case side1 => repeat (first | exact (Kd.R_reads' HO.out).2.2 | (with_reducible refine Kd.C_alloc ?_ _) | (with_reducible refine Kd.C_drewN ?_ _) | (with_reducible refine Kd.C_drew ?_))); (case side2 => exact (Kd.R_reads' HO.out).2.1); rintro e wz ⟨rfl, hb⟩; refine ⟨_, rfl, ?_⟩; have n0_ := xm (IsS41.below (by repeat (first | (with_reducible first | exact HI.out | apply IsS41.alloc | apply IsS41.drewN | apply IsS41.drew) | exact HI.out)) hb); have n1_ := xm (below_step bB hb); clear HI HB HO hb; revert n0_ n1_; intro HI HB)
   | ((with_reducible refine gate_callee (f := 16) rfl ?_); refine goesL_ (some 18) rfl rfl Try.func16 (by kernel_rfl) rfl #[.pointer (some ⟨g, 0, none⟩), .int .i64 3] rfl mB ?_; refine (spec_l1Cur_one.calls g l0 u2 u3 3 true o2 o3 w _ ?side1 ?side2 A4.out).mono ?_; (case side1 => repeat (first | (with_reducible first | exact HI.out | apply IsS41.alloc | apply IsS41.drewN | apply IsS41.drew) | exact HI.out)); (case side2 => repeat (first | (with_reducible first | exact HB.out | apply xa | apply xn | apply xd) | exact HB.out)); rintro e wz ⟨rfl, hi, hb, hk⟩; refine ⟨_, rfl, ?_⟩; clear HI HB hk ; have HI := xm hi; have HB := xm hb; clear hi hb; skip)
   | ((with_reducible refine gate_callee (f := 25) rfl ?_); refine goesL_ (some 21) rfl rfl Try.func25 (by kernel_rfl) rfl #[.pointer (some ⟨g, 0, none⟩), .string b1, .string ⟨#[0, 1, 255]⟩] rfl mB ?_; refine (spec_l1Cur_spoilt.calls k g l0 o2 o3 b1 ⟨#[0, 1, 255]⟩ s1 s2 s3 w _ ?side1 ?side2 A5.out).mono ?_; (case side1 => repeat (first | (with_reducible first | exact HI.out | apply IsS41.alloc | apply IsS41.drewN | apply IsS41.drew) | exact HI.out)); (case side2 => repeat (first | (with_reducible first | exact HB.out | apply xa | apply xn | apply xd) | exact HB.out)); rintro e wz ⟨rfl, hi, hb, hk⟩; refine ⟨_, rfl, ?_⟩; clear HI HB hk ; have HI := xm hi; have HB := xm hb; clear hi hb; skip))
  go_ret
  exact ⟨eB, bG⟩
 | false =>
  obtain rfl : b1 = r := Option.some.inj H
  clear H
  go_enter Try.func12, Try.ntmps12
  go_wp2_with (first
   | ((with_reducible refine gate_dst (N := 8) rfl ?_); refine box_event ?hg (N := 8) ?hd (cs := #[.slice A0 l0.length c0, .int .i64 0, .int .u64 0]) (t := 41) ?hr ?_; (case hd => rfl); (case hg => rfl); (case hr => exact zB); intro g hg w1 hbox hb; have n0_ := xm (show IsS41 w w1 g l0 0 0 from ⟨A0, c0, hbox, by rw [hg]; exact xz bB, HR.out⟩); have n1_ := xm (below_step bB hb); clear HB HR hbox hb hg; revert n0_ n1_; intro HI HB)
   | ((with_reducible refine gate_callee (f := 15) rfl ?_); refine goesL_ (some 12) rfl rfl Try.func15 (by kernel_rfl) rfl #[.pointer (some ⟨g, 0, none⟩)] rfl mB ?_; refine (spec_l1Cur_width.calls g l0 0 0  t1 t2 t3 w _ ?side1 ?side2 A1.out).mono ?_; (case side1 => repeat (first | (with_reducible first | exact HI.out | apply IsS41.alloc | apply IsS41.drewN | apply IsS41.drew) | exact HI.out)); (case side2 => repeat (first | (with_reducible first | exact HB.out | apply xa | apply xn | apply xd) | exact HB.out)); rintro e wz ⟨rfl, hi, hb, hk⟩; refine ⟨_, rfl, ?_⟩; clear HI HB hk ; have HI := xm hi; have HB := xm hb; clear hi hb; skip)
   | ((with_reducible refine gate_callee (f := 14) rfl ?_); refine goesL_ (some 13) rfl rfl Try.func14 (by kernel_rfl) rfl #[.pointer (some ⟨g, 0, none⟩), .int .i64 t1] rfl mB ?_; refine (spec_l1Cur_row.calls k g l0 t2 t3 t1 u1 u2 u3 w _ ?side1 ?side2 A2.out).mono ?_; (case side1 => repeat (first | (with_reducible first | exact HI.out | apply IsS41.alloc | apply IsS41.drewN | apply IsS41.drew) | exact HI.out)); (case side2 => repeat (first | (with_reducible first | exact HB.out | apply xa | apply xn | apply xd) | exact HB.out)); rintro e wz ⟨v0_, rfl, ho, hi, hb, hk⟩; refine ⟨_, rfl, ?_⟩; clear HI ; obtain ⟨AHO, cHO, eo⟩ := Kd.R_slice ho; subst eo; have HO := xm (Kd.R_lower ho (xz bB)); clear HB; have HI := xm hi; have HB := xm hb; clear hi hb ho hk; skip)
   | ((with_reducible refine gate_callee (f := 8) rfl ?_); refine goesL_ (some 14) rfl rfl Try.func8 (by kernel_rfl) rfl #[.agg #[.slice AHO u1.length cHO]] rfl mB ?_; refine (spec_RowBytes.calls k AHO cHO u1 b1 b2 _ ?side1 ?side2 A3.out).mono ?_; (case side1 => repeat (first | exact (Kd.R_reads' HO.out).2.2 | (with_reducible refine Kd.C_alloc ?_ _) | (with_reducible refine Kd.C_drewN ?_ _) | (with_reducible refine Kd.C_drew ?_))); (case side2 => exact (Kd.R_reads' HO.out).2.1); rintro e wz ⟨rfl, hb⟩; refine ⟨_, rfl, ?_⟩; have n0_ := xm (IsS41.below (by repeat (first | (with_reducible first | exact HI.out | apply IsS41.alloc | apply IsS41.drewN | apply IsS41.drew) | exact HI.out)) hb); have n1_ := xm (below_step bB hb); clear HI HB HO hb; revert n0_ n1_; intro HI HB)
   | ((with_reducible refine gate_callee (f := 16) rfl ?_); refine goesL_ (some 18) rfl rfl Try.func16 (by kernel_rfl) rfl #[.pointer (some ⟨g, 0, none⟩), .int .i64 3] rfl mB ?_; refine (spec_l1Cur_one.calls g l0 u2 u3 3 false o2 o3 w _ ?side1 ?side2 A4.out).mono ?_; (case side1 => repeat (first | (with_reducible first | exact HI.out | apply IsS41.alloc | apply IsS41.drewN | apply IsS41.drew) | exact HI.out)); (case side2 => repeat (first | (with_reducible first | exact HB.out | apply xa | apply xn | apply xd) | exact HB.out)); rintro e wz ⟨rfl, hi, hb, hk⟩; refine ⟨_, rfl, ?_⟩; clear HI HB hk ; have HI := xm hi; have HB := xm hb; clear hi hb; skip))
  go_ret
  exact ⟨eB, bG⟩

/-! ### spec_ReadRow: function 13 -/
mutual
def spec_ReadRow.j0 : Nat → ByteArray → Bool → Option (List Int × Bool)
 | 0, _, _ => none
 | k + 1, x0, x18 => if x18 = true then (some (([] : List Int), false)) else (spec_ReadRow.l0 k x0 1 ([] : List Int))
def spec_ReadRow.l0 : Nat → ByteArray → Int → List Int → Option (List Int × Bool)
 | 0, _, _, _ => none
 | k + 1, x0, x5, x233000 => if x5 < (x0.size : Int) then (if 0 ≤ x5 then (if 0 ≤ (wrap64 (x5 + 1)) then (if (wrap64 (x5 + 1)) < (x0.size : Int) then (if 0 ≤ (wrap64 (x5 + 2)) then (if (wrap64 (x5 + 2)) < (x0.size : Int) then (if x233000.length < 17592186044416 then (spec_ReadRow.l0 k x0 (wrap64 (x5 + 3)) (x233000 ++ [wrap64 ((wrap64 ((wrap64 ((wrap64 ((wrap64 (bt x0 x5)) * 65536)) + (wrap64 ((wrap64 (bt x0 (wrap64 (x5 + 1)))) * 256)))) + (wrap64 (bt x0 (wrap64 (x5 + 2)))))) - 100000)])) else (none)) else (none)) else (none)) else (none)) else (none)) else (none)) else ((spec_GoodRow.f k x233000).bind fun t236 => (if t236 = true then (some (x233000, true)) else (some (([] : List Int), false))))
end
def spec_ReadRow.f (k : Nat) (a0 : ByteArray) : Option (List Int × Bool) := if (a0.size : Int) = 0 then (spec_ReadRow.j0 k a0 true) else (if 0 < (a0.size : Int) then (spec_ReadRow.j0 k a0 ((a0.size : Int) != (wrap64 (1 + (wrap64 (3 * (wrap64 (bt a0 0)))))))) else (none))
theorem spec_ReadRow.mono_l : ∀ k, (∀ y0 y1, LeO (spec_ReadRow.j0 k y0 y1) (spec_ReadRow.j0 (k + 1) y0 y1)) ∧ (∀ y0 y1 y2, LeO (spec_ReadRow.l0 k y0 y1 y2) (spec_ReadRow.l0 (k + 1) y0 y1 y2))
 | 0 => ⟨fun _ _ r h => by simp [spec_ReadRow.j0] at h, fun _ _ _ r h => by simp [spec_ReadRow.l0] at h⟩
 | k + 1 => by
  obtain ⟨ih0, ih1⟩ := spec_ReadRow.mono_l k
  refine ⟨?_, ?_⟩
  ·intro y0 y1
   unfold spec_ReadRow.j0
   repeat' first
   | (with_reducible exact ih0 _ _)
   | (with_reducible exact ih1 _ _ _)
   | (with_reducible exact spec_GoodRow.mono _ _)
   | (with_reducible exact LeO.refl _)
   | (with_reducible exact LeO.none _)
   | (with_reducible refine LeO.ite ?_ ?_)
   | (with_reducible refine LeO.bind ?_ (fun _ => ?_))
   | exact ih0 _ _
   | exact ih1 _ _ _
   | exact spec_GoodRow.mono _ _
   | exact LeO.none _
   | refine LeO.ite ?_ ?_
   | refine LeO.bind ?_ (fun _ => ?_)
  ·intro y0 y1 y2
   unfold spec_ReadRow.l0
   repeat' first
   | (with_reducible exact ih0 _ _)
   | (with_reducible exact ih1 _ _ _)
   | (with_reducible exact spec_GoodRow.mono _ _)
   | (with_reducible exact LeO.refl _)
   | (with_reducible exact LeO.none _)
   | (with_reducible refine LeO.ite ?_ ?_)
   | (with_reducible refine LeO.bind ?_ (fun _ => ?_))
   | exact ih0 _ _
   | exact ih1 _ _ _
   | exact spec_GoodRow.mono _ _
   | exact LeO.none _
   | refine LeO.ite ?_ ?_
   | refine LeO.bind ?_ (fun _ => ?_)
theorem spec_ReadRow.mono : ∀ a0 k, LeO (spec_ReadRow.f k a0) (spec_ReadRow.f (k + 1) a0) := by
 intro a0 k
 obtain ⟨ih0, ih1⟩ := spec_ReadRow.mono_l k
 unfold spec_ReadRow.f
 repeat' first
   | (with_reducible exact ih0 _ _)
   | (with_reducible exact ih1 _ _ _)
   | (with_reducible exact spec_GoodRow.mono _ _)
   | (with_reducible exact LeO.refl _)
   | (with_reducible exact LeO.none _)
   | (with_reducible refine LeO.ite ?_ ?_)
   | (with_reducible refine LeO.bind ?_ (fun _ => ?_))
   | exact ih0 _ _
   | exact ih1 _ _ _
   | exact spec_GoodRow.mono _ _
   | exact LeO.none _
   | refine LeO.ite ?_ ?_
   | refine LeO.bind ?_ (fun _ => ?_)
def spec_ReadRow.T7 : Bool × List (List Nat × List Nat) := (true, [([], []), ([0], [0]), ([], []), ([], []), ([2, 3], [2, 3]), ([4], [4]), ([5], [5]), ([], []), ([], []), ([8], [8]), ([7, 9], [7, 9]), ([10], [10]), ([11], [11]), ([6, 12], [6, 12]), ([], []), ([], []), ([15], [15]), ([14, 16], [14, 16]), ([17], [17]), ([13, 18], [13, 18]), ([19], [19]), ([20], [20]), ([1, 21], [1, 21]), ([0, 1, 2, 3, 4, 5, 6, 7, 8, 9, 10, 11, 12, 13, 14, 15, 16, 17, 18, 19, 20, 21, 22], []), ([23, 22, 22, 0, 1, 2, 3, 4, 5, 6, 7, 8, 9, 10, 11, 12, 13, 14, 15, 16, 17, 18, 19, 20, 21, 22], [22, 23])])
def spec_ReadRow.B7 : List Nat := [0, 1, 0, 0, 12, 28, 60, 0, 0, 256, 896, 1920, 3968, 8188, 0, 0, 32768, 114688, 245760, 524284, 1048572, 2097148, 4194303, 8388607, 16777215]
theorem spec_ReadRow.tab7 : rtab .any (opsOf Try.f13 7) = spec_ReadRow.T7 := by kernel_rfl
theorem spec_ReadRow.bits7 : waitsOk spec_ReadRow.T7.2 spec_ReadRow.B7 = true := by kernel_rfl
set_option maxHeartbeats 8000000 in
set_option maxRecDepth 100000 in
theorem spec_ReadRow.calls (k : Nat) (a0 : ByteArray) (r1 : List Int) (r2 : Bool) (w : World) (h : spec_ReadRow.f k a0 = some (r1, r2)) :
  Calls Try.prog 13 #[.string a0] w fun e w' => ∃ v0_ : Value, e = .returned (.tuple #[.agg #[v0_], .bool r2]) ∧ Kd.R (Kd.int .i64) 3 w' w.heap.size (fun _ => True) v0_ r1 ∧ Below w.heap.size w w' := by
 have hu25 := Try.underlying25
 have HB := xm (Below.refl w.heap.size w)
 have H : (if (a0.size : Int) = 0 then (spec_ReadRow.j0 k a0 true) else (if 0 < (a0.size : Int) then (spec_ReadRow.j0 k a0 ((a0.size : Int) != (wrap64 (1 + (wrap64 (3 * (wrap64 (bt a0 0)))))))) else (none))) = some (r1, r2) := h
 clear h
 have HC2 := xm H
 clear H
 go_enter Try.func13, Try.ntmps13
 go_upto_region 1 with (first | ((with_reducible refine gate_dst (N := 2) rfl ?_); (try (refine gate_guard (by rfl) ?_; dsimp only)); refine box_event ?hg (N := 2) ?hd (cs := #[.slice none 0 0]) (t := 25) ?hr ?_; (case hd => rfl); (case hg => rfl); (case hr => exact zB); intro gb231 hg w3 hbox hb; have n0_ := xm (below_step bB hb); have n1_ := xm (hbox); have n2_ := xm ((by rw [hg]; exact (xz bB) : w.heap.size ≤ gb231)); have n3_ := xm ((by rw [hg]; exact (xz bB) : w.heap.size ≤ gb231)); revert n0_ n1_ n2_ n3_; clear HB; intro HB BK231 GW231 GE231; clear hb hbox hg))
 (try simp only [Act.put, xi, xj, xk])
 go_cut [18] (fun v18 wc => ∃ (kq : Nat) (x18_1 : Bool), v18 = .bool x18_1 ∧ Aside0 (spec_ReadRow.j0 kq a0 x18_1 = some (r1, r2)) ∧ Aside0 (kq ≤ k) ∧ Aside0 (wc.heap[gb231]? = some (.cells #[(.slice none 0 0)] 25 (0, 0))) ∧ Aside0 (Below w.heap.size w wc))
 case first =>
  have H := HC2.out
  clear HC2
  by_cases c4 : (a0.size : Int) = 0
  ·rw [if_pos c4] at H
   have c4b0 : ((a0.size : Int) == 0) = true := beq_iff_eq.mpr c4
   have c4b1 : ((a0.size : Int) != 0) = false := bne_eq_false_iff_eq.mpr c4
   clear c4
   (first | rw [c4b0] | (simp only [i64_w, i32_w]; rw [c4b0]) | skip)
   have H' := xm H
   clear H
   go_wp2
   go_meet
   case rel => exact ⟨_, (true), sB, H', ⟨by first | omega | exact Nat.le_refl _⟩, ⟨kB BK231⟩, ⟨bG⟩⟩
  ·rw [if_neg c4] at H
   have c4b0 : ((a0.size : Int) == 0) = false := beq_eq_false_iff_ne.mpr c4
   have c4b1 : ((a0.size : Int) != 0) = true := bne_iff_ne.mpr c4
   (first | rw [c4b0] | (simp only [i64_w, i32_w]; rw [c4b0]) | skip)
   by_cases c5 : 0 < (a0.size : Int)
   ·rw [if_pos c5] at H
    have c5b0 : decide (0 < (a0.size : Int)) = true := decide_eq_true c5
    have c5b1 : decide (0 < a0.size) = true := decide_eq_true (by omega)
    clear c5
    have H' := xm H
    clear H
    have p6 : 0 ≤ (0 : Int) := (by omega)
    have q6 : 0 < a0.size := (by have : (0 : Int) < (a0.size : Int) := of_decide_eq_true aB; omega)
    have hx6 : ∀ h : 0 < a0.size, ((a0[0]'h).toNat : Int) = bt a0 0 := bt_at a0 0
    clear p6
    have qi6 : (0 < (a0.size : Int)) = True := eq_true (of_decide_eq_true aB)
    replace q6 := eq_true q6
    go_wp2
    go_meet
    case rel => exact ⟨_, (((a0.size : Int) != (wrap64 (1 + (wrap64 (3 * (wrap64 (bt a0 0)))))))), sB, H', ⟨by first | omega | exact Nat.le_refl _⟩, ⟨kB BK231⟩, ⟨bG⟩⟩
   ·rw [if_neg c5] at H
    exact absurd H (by simp)
 case rest =>
  clear HC2
  try clear c1
  try clear p2
  try clear c4
  try clear c4b0 c4b1
  try clear c5
  try clear c5b0 c5b1
  try clear p6
  try clear q6
  try clear hx6
  try clear qi6
  try clear p6
  try clear q6
  obtain ⟨kq, x18_1, rfl, HA, HJ1, BK231, HB⟩ := hcut
  cases kq with
  | zero => exact absurd HA.out (by simp [spec_ReadRow.j0])
  | succ kj1 =>
   have H := HA.out
   clear HA
   simp only [spec_ReadRow.j0] at H
   by_cases c7 : x18_1 = true
   ·subst c7
    have H1 : (some (([] : List Int), false)) = some (r1, r2) := by first | (with_reducible rfl) | (rw [if_pos rfl] at H; exact H)
    clear H
    have H := H1
    clear H1
    simp only [Option.some.injEq, Prod.mk.injEq] at H
    obtain ⟨rfl, rfl⟩ := H
    obtain ⟨hcz8_0, hfz8_0⟩ := cz1 BK231.out
    go_wp2
    refine bodyPost_ret (results_ct rfl _ _ gb231 25 #[.slice none 0 0] (0, 0) _ rfl (by (with_reducible repeat (first | refine xq ?_ _ | refine xr ?_ | refine xo ?_ _)); refine blk_put (cs := #[.slice none 0 0]) ?_ 0 _ rfl; (with_reducible repeat (first | refine xq ?_ _ | refine xr ?_ | refine xo ?_ _)); exact BK231.out) Try.underlying25 rfl (by kernel_rfl)) rfl ?_
    exact ⟨_, eB, by first | exact Kd.R_nil _ _ _ _ _ | exact Kd.N_nil _ _ _ _ _ | exact Kd.V_nil _ _ _ _ _ | exact Kd.Q_nil _ _ _ _ _ | exact Kd.S_nil _ _ _ _ _, bG⟩
   ·replace c7 := Bool.eq_false_iff.mpr c7
    subst c7
    have H1 : (spec_ReadRow.l0 kj1 a0 1 ([] : List Int)) = some (r1, r2) := by first | (with_reducible rfl) | (rw [if_neg (show ¬ (false = true) by decide)] at H; exact H)
    clear H
    have H := H1
    clear H1
    have H' := xm H
    clear H
    go_wp2_with (first | ((with_reducible refine gate_dst (N := 4) rfl ?_); (try (refine gate_guard (by rfl) ?_; dsimp only)); refine box_event ?hg (N := 4) ?hd (cs := #[.slice none 0 0]) (t := 25) ?hr ?_; (case hd => rfl); (case hg => rfl); (case hr => exact zB); intro gb232 hg w9 hbox hb; have n0_ := xm (blk_below (kB BK231) hb); have n1_ := xm (below_step bG hb); have n2_ := xm (hbox); have n3_ := xm ((by rw [hg]; exact (xz bG) : w.heap.size ≤ gb232)); have n4_ := xm ((by rw [hg]; exact (xz bG) : w.heap.size ≤ gb232)); have n5_ := xm ((by rw [hg]; exact Nat.ne_of_lt (blk_lt (kB BK231)) : gb231 ≠ gb232)); have n6_ := xm ((by rw [hg]; exact Nat.ne_of_gt (blk_lt (kB BK231)) : gb232 ≠ gb231)); revert n0_ n1_ n2_ n3_ n4_ n5_ n6_; clear BK231 HB; intro BK231 HB BK232 GW232 GE232 NB231_232 NB232_231; clear hb hbox hg; have hnb10 := NB232_231.out; have hnc10 := NB231_232.out; obtain ⟨hcz11_0, hfz11_0⟩ := cz1 BK232.out))
    go_loopg [5] kj1 (fun kq v5 w' => ∃ (x5_2 : Int) (x233000_2 : List Int) (u233000 : Value), v5 = .int .i64 x5_2 ∧ Aside0 (spec_ReadRow.l0 kq a0 x5_2 x233000_2 = some (r1, r2)) ∧ Aside0 (kq ≤ kj1) ∧ Aside0 (Kd.R (Kd.int .i64) 3 w' w.heap.size (fun _ => True) u233000 x233000_2) ∧ Aside0 (w'.heap[gb231]? = some (.cells #[(.slice none 0 0)] 25 (0, 0))) ∧ Aside0 (w'.heap[gb232]? = some (.cells #[u233000] 25 (0, 0))) ∧ Aside0 (Below w.heap.size w w'))
    case atStart => exact ⟨(1), (([] : List Int)), (.slice none 0 0), sB, H', ⟨Nat.le_refl _⟩, ⟨by first | exact Kd.R_nil _ _ _ _ _ | exact Kd.N_nil _ _ _ _ _ | exact Kd.V_nil _ _ _ _ _ | exact Kd.Q_nil _ _ _ _ _ | exact Kd.S_nil _ _ _ _ _⟩, ⟨by (with_reducible repeat (first | refine xq ?_ _ | refine xr ?_ | refine xo ?_ _)); refine blk_far ?_ NB231_232.out _; (with_reducible repeat (first | refine xq ?_ _ | refine xr ?_ | refine xo ?_ _)); exact BK231.out⟩, ⟨by (with_reducible repeat (first | refine xq ?_ _ | refine xr ?_ | refine xo ?_ _)); refine blk_put (cs := #[.slice none 0 0]) ?_ 0 _ rfl; (with_reducible repeat (first | refine xq ?_ _ | refine xr ?_ | refine xo ?_ _)); exact BK232.out⟩, ⟨bG⟩⟩
    case round =>
     clear H'
     try clear c1
     try clear p2
     try clear c4
     try clear c4b0 c4b1
     try clear c5
     try clear c5b0 c5b1
     try clear p6
     try clear q6
     try clear hx6
     try clear qi6
     try clear c7
     try clear c10
     try clear hcz11_0
     try clear hcz8_0
     try clear hfz11_0
     try clear hfz8_0
     try clear p2
     try clear p6
     try clear q6
     obtain ⟨x5_2, x233000_2, u233000, rfl, HA, HK2, HO_233000, BK231, BK232, HB⟩ := hrel
     cases gk with
     | zero => exact absurd HA.out (by simp [spec_ReadRow.l0])
     | succ k2 =>
      have H := HA.out
      clear HA
      simp only [spec_ReadRow.l0] at H
      by_cases c12 : x5_2 < (a0.size : Int)
      ·rw [if_pos c12] at H
       have c12b0 : decide (x5_2 < (a0.size : Int)) = true := decide_eq_true c12
       clear c12
       by_cases c13 : 0 ≤ x5_2
       ·rw [if_pos c13] at H
        have c13b0 : decide (0 ≤ x5_2) = true := decide_eq_true c13
        clear c13
        obtain ⟨ji15, hji15⟩ : ∃ j_ : Int, (wrap64 (x5_2 + 1)) = j_ := ⟨_, rfl⟩
        replace H : (if 0 ≤ (ji15) then (if (ji15) < (a0.size : Int) then (if 0 ≤ (wrap64 (x5_2 + 2)) then (if (wrap64 (x5_2 + 2)) < (a0.size : Int) then (if x233000_2.length < 17592186044416 then (spec_ReadRow.l0 k2 a0 (wrap64 (x5_2 + 3)) (x233000_2 ++ [wrap64 ((wrap64 ((wrap64 ((wrap64 ((wrap64 (bt a0 x5_2)) * 65536)) + (wrap64 ((wrap64 (bt a0 (ji15))) * 256)))) + (wrap64 (bt a0 (wrap64 (x5_2 + 2)))))) - 100000)])) else (none)) else (none)) else (none)) else (none)) else (none)) = some (r1, r2) := by first | (rw [hji15] at H; exact H) | (simp only [hji15] at H ⊢; exact H)
        have hji15w : (IntKind.i64.wrap (x5_2 + 1)) = ji15 := (i64_w _).trans hji15
        by_cases c16 : 0 ≤ (ji15)
        ·rw [if_pos c16] at H
         have c16b0 : decide (0 ≤ (ji15)) = true := decide_eq_true c16
         clear c16
         by_cases c17 : (ji15) < (a0.size : Int)
         ·rw [if_pos c17] at H
          have c17b0 : decide ((ji15) < (a0.size : Int)) = true := decide_eq_true c17
          clear c17
          obtain ⟨ji19, hji19⟩ : ∃ j_ : Int, (wrap64 (x5_2 + 2)) = j_ := ⟨_, rfl⟩
          replace H : (if 0 ≤ (ji19) then (if (ji19) < (a0.size : Int) then (if x233000_2.length < 17592186044416 then (spec_ReadRow.l0 k2 a0 (wrap64 (x5_2 + 3)) (x233000_2 ++ [wrap64 ((wrap64 ((wrap64 ((wrap64 ((wrap64 (bt a0 x5_2)) * 65536)) + (wrap64 ((wrap64 (bt a0 (ji15))) * 256)))) + (wrap64 (bt a0 (ji19))))) - 100000)])) else (none)) else (none)) else (none)) = some (r1, r2) := by first | (rw [hji19] at H; exact H) | (simp only [hji19] at H ⊢; exact H)
          have hji19w : (IntKind.i64.wrap (x5_2 + 2)) = ji19 := (i64_w _).trans hji19
          by_cases c20 : 0 ≤ (ji19)
          ·rw [if_pos c20] at H
           have c20b0 : decide (0 ≤ (ji19)) = true := decide_eq_true c20
           clear c20
           by_cases c21 : (ji19) < (a0.size : Int)
           ·rw [if_pos c21] at H
            have c21b0 : decide ((ji19) < (a0.size : Int)) = true := decide_eq_true c21
            clear c21
            by_cases c23 : x233000_2.length < 17592186044416
            ·rw [if_pos c23] at H
             have LMc23 := xm c23
             clear c23
             obtain ⟨y233, hy233⟩ : ∃ y_ : List Int, y_ = (x233000_2 ++ [wrap64 ((wrap64 ((wrap64 ((wrap64 ((wrap64 (bt a0 x5_2)) * 65536)) + (wrap64 ((wrap64 (bt a0 (ji15))) * 256)))) + (wrap64 (bt a0 (ji19))))) - 100000)]) := ⟨_, rfl⟩
             replace H : (spec_ReadRow.l0 k2 a0 (wrap64 (x5_2 + 3)) y233) = some (r1, r2) := by first | (rw [hy233]; with_reducible exact H) | (have H2_ := (Option.bind_some _ _).symm.trans H; rw [hy233]; with_reducible exact H2_) | (have H2_ := (Option.bind_some _ _).symm.trans H; with_reducible exact H2_) | with_reducible exact H | (rw [hy233]; exact H) | exact H
             have Ny233 := xm hy233
             clear hy233
             have H' := xm H
             clear H
             try go_wp2
             have n0_ := xm (Kd.R_drew HO_233000.out)
             have n1_ := xm (xr BK231.out)
             have n2_ := xm (xr BK232.out)
             have n3_ := xm (xd HB.out)
             revert n0_ n1_ n2_ n3_; clear HO_233000 BK231 BK232 HB; intro HO_233000 BK231 BK232 HB
             have p14 : 0 ≤ (x5_2 : Int) := of_decide_eq_true aB
             have q14 : x5_2 < (a0.size : Int) := of_decide_eq_true aB
             have hx14 := bt_at a0 x5_2
             replace p14 := eq_true p14
             replace q14 := eq_true q14
             have p18 : 0 ≤ ((ji15) : Int) := of_decide_eq_true aB
             have q18 : (ji15) < (a0.size : Int) := of_decide_eq_true aB
             have hx18 := bt_at a0 (ji15)
             replace p18 := eq_true p18
             replace q18 := eq_true q18
             have p22 : 0 ≤ ((ji19) : Int) := of_decide_eq_true aB
             have q22 : (ji19) < (a0.size : Int) := of_decide_eq_true aB
             have hx22 := bt_at a0 (ji19)
             replace p22 := eq_true p22
             replace q22 := eq_true q22
             refine start_ (n := 25) (S := fun w' => w'.cell? ⟨gb232, 0, none⟩ = some (u233000)) (ds := [24]) #[Z,Z,Z,Z,Z,Z,Z,Z,Z,Z,Z,Z,Z,Z,Z,Z,Z,Z,Z,Z,Z,Z,Z,Z,Z] (by kernel_rfl) rfl rfl ((xc BK232.out 0).trans rfl) (fun hHeld => ?_); refine with_tabW spec_ReadRow.tab7 spec_ReadRow.bits7 (fun HT_ HW_ => ?_)
             generalize wr.drew = w24 at HO_233000 BK231 BK232 HB hHeld ⊢
             refine pu 0 25 1 ?_
             refine pu 2 25 5 ?_
             refine pu 3 25 13 ?_
             refine pu 7 25 141 ?_
             refine pu 8 25 397 ?_
             refine pu 9 25 909 ?_
             refine pu 14 25 17293 ?_
             refine pu 15 25 50061 ?_
             refine pu 16 25 115597 ?_
             refine take_ (i := 1) (N := some 28) (v := ?_) (a' := ?_) #[Y,Y,Y,Y,Z,Z,Z,Y,Y,Y,Z,Z,Z,Z,Y,Y,Y,Z,Z,Z,Z,Z,Z,Z,Z] rfl rfl (take_ofW HT_.out HW_.out (by kernel_rfl)) (fun _ _ _ h => h) (Or.inl ⟨by rfl, ?_⟩) hHeld ?_ ?_
             rotate_left
             ·intro w' s0
              go_simp
              with_reducible rfl
             rotate_left
             ·simp only [Act.put, xi, xj, xk, i64_w, i32_w]
              rfl
             refine take_ (i := 4) (N := some 31) (v := ?_) (a' := ?_) #[Y,Y,Y,Y,Y,Z,Z,Y,Y,Y,Z,Z,Z,Z,Y,Y,Y,Z,Z,Z,Z,Z,Z,Z,Z] rfl rfl (take_ofW HT_.out HW_.out (by kernel_rfl)) (fun _ _ _ h => h) (Or.inl ⟨by rfl, ?_⟩) hHeld ?_ ?_
             rotate_left
             ·intro w' s0
              go_simp
              with_reducible rfl
             rotate_left
             ·simp only [Act.put, xi, xj, xk, i64_w, i32_w]
              rfl
             refine pu 5 25 115647 ?_
             refine pu 6 25 115711 ?_
             refine take_ (i := 10) (N := some 37) (v := ?_) (a' := ?_) #[Y,Y,Y,Y,Y,Y,Y,Y,Y,Y,Y,Z,Z,Z,Y,Y,Y,Z,Z,Z,Z,Z,Z,Z,Z] rfl rfl (take_ofW HT_.out HW_.out (by kernel_rfl)) (fun _ _ _ h => h) (Or.inl ⟨by rfl, ?_⟩) hHeld ?_ ?_
             rotate_left
             ·intro w' s0
              go_simp
              with_reducible rfl
             rotate_left
             ·simp only [Act.put, xi, xj, xk, i64_w, i32_w]
              rfl
             refine pu 11 25 118783 ?_
             refine pu 12 25 122879 ?_
             refine pu 13 25 131071 ?_
             refine take_ (i := 17) (N := some 44) (v := ?_) (a' := ?_) #[Y,Y,Y,Y,Y,Y,Y,Y,Y,Y,Y,Y,Y,Y,Y,Y,Y,Y,Z,Z,Z,Z,Z,Z,Z] rfl rfl (take_ofW HT_.out HW_.out (by kernel_rfl)) (fun _ _ _ h => h) (Or.inl ⟨by rfl, ?_⟩) hHeld ?_ ?_
             rotate_left
             ·intro w' s0
              go_simp
              with_reducible rfl
             rotate_left
             ·simp only [Act.put, xi, xj, xk, i64_w, i32_w]
              rfl
             refine pu 18 25 524287 ?_
             refine pu 19 25 1048575 ?_
             refine pu 20 25 2097151 ?_
             refine one_ (i := 21) (N := some 48) #[Y,Y,Y,Y,Y,Y,Y,Y,Y,Y,Y,Y,Y,Y,Y,Y,Y,Y,Y,Y,Y,Y,Z,Z,Z] rfl rfl (one_of HT_.out (by kernel_rfl)) (by decide) (fun K hK => ?_)
             refine value_ (w1 := ?_) (v := ?_) (by rfl) rfl ?_ ?_
             rotate_left 2
             ·go_simp
              constructor
              ·rfl
              ·rfl
             refine hK.out _ _ ((xc (xo BK232.out _) 0).trans rfl) (fun hHeld => nC ?_)
             clear hK K
             refine one_ (i := 22) (N := some 49) #[Y,Y,Y,Y,Y,Y,Y,Y,Y,Y,Y,Y,Y,Y,Y,Y,Y,Y,Y,Y,Y,Y,Y,Z,Z] rfl rfl (one_of HT_.out (by kernel_rfl)) (by decide) (fun K hK => ?_)
             refine Kd.R_append_step (Kd.int .i64) (w0 := w) w.heap.size (by rfl) (.tmp 28) (.tmp 48) 23 3 (.int .i64 0) 8 rfl Try.underlying23 info3 rfl (by decide) (by omega) u233000 x233000_2 (wrap64 ((wrap64 ((wrap64 ((wrap64 ((wrap64 (bt a0 x5_2)) * 65536)) + (wrap64 ((wrap64 (bt a0 (ji15))) * 256)))) + (wrap64 (bt a0 (ji19))))) - 100000)) [.int .i64 (wrap64 ((wrap64 ((wrap64 ((wrap64 ((wrap64 (bt a0 x5_2)) * 65536)) + (wrap64 ((wrap64 (bt a0 (ji15))) * 256)))) + (wrap64 (bt a0 (ji19))))) - 100000))] (fun _ => True) (fun _ => False) rfl rfl ?aP (fun _ hk => hk.elim) ?aF ?aO ?aB ?aS ?aL ?_
             (case aP => exact rfl)
             (case aB => exact bG)
             (case aF => exact (fun _ _ => trivial))
             (case aO => exact (rB HO_233000))
             (case aS => exact (xz bG))
             (case aL => have := LMc23.out; omega)
             intro v234 w25 ho hb hg hat
             rw [← Ny233.out] at ho
             have n0_ := xm (blk_grown (kB BK231) hg (Kd.R_ne HO_233000.out BK231.out (by decide)))
             have n1_ := xm (blk_grown (kB BK232) hg (Kd.R_ne HO_233000.out BK232.out (by decide)))
             have n2_ := xm (hb)
             have n3_ := xm (ho)
             revert n0_ n1_ n2_ n3_; clear BK231 BK232 HB HO_233000; intro BK231 BK232 HB HO235
             clear ho hb hg hat
             obtain ⟨Ao26, co26, eo26⟩ := Kd.R_slice HO235.out
             (first | subst eo26 | (injection eo26 with f1_ f2_ f3_; have f4_ := f1_.symm; have f5_ := f3_.symm; clear f1_ f2_ f3_; subst f4_; subst f5_))
             refine hK.out _ _ ((xc BK232.out 0).trans rfl) (fun hHeld => nC ?_)
             clear hK K
             refine pu 23 25 16777215 ?_
             refine last_ (i := 24) (N := none) #[Y,Y,Y,Y,Y,Y,Y,Y,Y,Y,Y,Y,Y,Y,Y,Y,Y,Y,Y,Y,Y,Y,Y,Y,Y] rfl rfl (one_of HT_.out (by kernel_rfl)) (by decide) (fun K hK => ?_)
             have hs27 : w25.cell? ⟨gb232, 0, none⟩ = some (u233000) := (xc BK232.out 0).trans rfl
             have hfs27 := xf BK232.out 0
             have hns27_0 := NB231_232.out
             have hms27_0 := NB232_231.out
             refine skip_ (w1 := ?_) (by rfl) rfl ?_ ?_
             rotate_left
             ·go_simp
              rfl
             refine hK.out _ _ ?_
             clear hK K
             refine done_ (done_of HT_.out (by kernel_rfl)) ?_
             try go_wp2
             go_roundg k2
             case measure => have := HJ1.out; have := HK2.out; omega
             case rel => exact ⟨(wrap64 (x5_2 + 3)), (y233), (.slice Ao26 y233.length co26), sB, H', ⟨by have := HJ1.out; have := HK2.out; omega⟩, ⟨by (with_reducible repeat (first | apply Kd.R_alloc | apply Kd.R_drewN | apply Kd.R_drew)); exact Kd.R_mono (Kd.R_far (p := ⟨gb232, 0, none⟩) (Kd.R_types HO235.out BK232.out (by decide)) (fun _ hk => hk.2) (.slice Ao26 y233.length co26)) (fun _ hk => trivial)⟩, ⟨by (with_reducible repeat (first | refine xq ?_ _ | refine xr ?_ | refine xo ?_ _)); refine blk_far ?_ NB231_232.out _; (with_reducible repeat (first | refine xq ?_ _ | refine xr ?_ | refine xo ?_ _)); exact BK231.out⟩, ⟨by (with_reducible repeat (first | refine xq ?_ _ | refine xr ?_ | refine xo ?_ _)); refine blk_put (cs := #[u233000]) ?_ 0 _ rfl; (with_reducible repeat (first | refine xq ?_ _ | refine xr ?_ | refine xo ?_ _)); exact BK232.out⟩, ⟨bG⟩⟩
            ·rw [if_neg c23] at H
             exact absurd H (by simp)
           ·rw [if_neg c21] at H
            exact absurd H (by simp)
          ·rw [if_neg c20] at H
           exact absurd H (by simp)
         ·rw [if_neg c17] at H
          exact absurd H (by simp)
        ·rw [if_neg c16] at H
         exact absurd H (by simp)
       ·rw [if_neg c13] at H
        exact absurd H (by simp)
      ·rw [if_neg c12] at H
       have c12b0 : decide (x5_2 < (a0.size : Int)) = false := decide_eq_false c12
       clear c12
       replace H := Option.bind_eq_some_iff.mp H
       obtain ⟨t236, A280, H⟩ := H
       replace H : (if t236 = true then (some (x233000_2, true)) else (some (([] : List Int), false))) = some (r1, r2) := H
       have A28 := xm A280
       clear A280
       by_cases c29 : t236 = true
       ·subst c29
        have H1 : (some (x233000_2, true)) = some (r1, r2) := by first | (with_reducible rfl) | (rw [if_pos rfl] at H; exact H)
        clear H
        have H := H1
        clear H1
        simp only [Option.some.injEq, Prod.mk.injEq] at H
        obtain ⟨rfl, rfl⟩ := H
        have hnb30 := NB232_231.out
        have hnc30 := NB231_232.out
        obtain ⟨hcz31_0, hfz31_0⟩ := cz1 BK232.out
        obtain ⟨Ao32, co32, eo32⟩ := Kd.R_slice HO_233000.out
        subst eo32
        go_wp2_with (first | ((with_reducible refine gate_callee (f := 18) rfl ?_); refine goesL_ (some 52) rfl rfl Try.func18 (by kernel_rfl) rfl #[.agg #[.slice Ao32 x233000_2.length co32]] rfl mB ?_; (with_reducible refine (spec_GoodRow.calls k2 _ _ x233000_2 true _ ?side1 ?side2 A28.out).mono ?_); (case side1 => repeat (first | exact (Kd.R_reads' HO_233000.out).2.2 | (with_reducible refine Kd.C_alloc ?_ _) | (with_reducible refine Kd.C_drewN ?_ _) | (with_reducible refine Kd.C_drew ?_))); (case side2 => exact (Kd.R_reads' HO_233000.out).2.1); rintro e w33 ⟨rfl, hb⟩; refine ⟨_, rfl, ?_⟩; have n0_ := xm (Kd.R_below (rB HO_233000) hb); have n1_ := xm (blk_below (kB BK231) hb); have n2_ := xm (blk_below (kB BK232) hb); have n3_ := xm (below_step bG hb); revert n0_ n1_ n2_ n3_; clear HO_233000 BK231 BK232 HB; intro HO_233000 BK231 BK232 HB; (try clear hb); obtain ⟨hcz34_0, hfz34_0⟩ := cz1 BK232.out; obtain ⟨hcz35_0, hfz35_0⟩ := cz1 BK231.out))
        refine bodyPost_ret (results_ct rfl _ _ gb231 25 #[.slice Ao32 x233000_2.length co32] (0, 0) _ rfl (by (with_reducible repeat (first | refine xq ?_ _ | refine xr ?_ | refine xo ?_ _)); refine blk_put (cs := #[.slice none 0 0]) ?_ 0 _ rfl; (with_reducible repeat (first | refine xq ?_ _ | refine xr ?_ | refine xo ?_ _)); exact BK231.out) Try.underlying25 rfl (by kernel_rfl)) rfl ?_
        exact ⟨_, eB, by (with_reducible repeat (first | apply Kd.R_alloc | apply Kd.R_drewN | apply Kd.R_drew)); exact Kd.R_mono (Kd.R_far (p := ⟨gb231, 0, none⟩) (Kd.R_types HO_233000.out BK231.out (by decide)) (fun _ hk => hk.2) (.slice Ao32 x233000_2.length co32)) (fun _ hk => trivial), bG⟩
       ·replace c29 := Bool.eq_false_iff.mpr c29
        subst c29
        have H1 : (some (([] : List Int), false)) = some (r1, r2) := by first | (with_reducible rfl) | (rw [if_neg (show ¬ (false = true) by decide)] at H; exact H)
        clear H
        have H := H1
        clear H1
        simp only [Option.some.injEq, Prod.mk.injEq] at H
        obtain ⟨rfl, rfl⟩ := H
        have hnb36 := NB232_231.out
        have hnc36 := NB231_232.out
        obtain ⟨hcz37_0, hfz37_0⟩ := cz1 BK232.out
        obtain ⟨Ao38, co38, eo38⟩ := Kd.R_slice HO_233000.out
        subst eo38
        go_wp2_with (first | ((with_reducible refine gate_callee (f := 18) rfl ?_); refine goesL_ (some 52) rfl rfl Try.func18 (by kernel_rfl) rfl #[.agg #[.slice Ao38 x233000_2.length co38]] rfl mB ?_; (with_reducible refine (spec_GoodRow.calls k2 _ _ x233000_2 false _ ?side1 ?side2 A28.out).mono ?_); (case side1 => repeat (first | exact (Kd.R_reads' HO_233000.out).2.2 | (with_reducible refine Kd.C_alloc ?_ _) | (with_reducible refine Kd.C_drewN ?_ _) | (with_reducible refine Kd.C_drew ?_))); (case side2 => exact (Kd.R_reads' HO_233000.out).2.1); rintro e w39 ⟨rfl, hb⟩; refine ⟨_, rfl, ?_⟩; have n0_ := xm (Kd.R_below (rB HO_233000) hb); have n1_ := xm (blk_below (kB BK231) hb); have n2_ := xm (blk_below (kB BK232) hb); have n3_ := xm (below_step bG hb); revert n0_ n1_ n2_ n3_; clear HO_233000 BK231 BK232 HB; intro HO_233000 BK231 BK232 HB; (try clear hb); obtain ⟨hcz40_0, hfz40_0⟩ := cz1 BK231.out))
        refine bodyPost_ret (results_ct rfl _ _ gb231 25 #[.slice none 0 0] (0, 0) _ rfl (by (with_reducible repeat (first | refine xq ?_ _ | refine xr ?_ | refine xo ?_ _)); refine blk_put (cs := #[.slice none 0 0]) ?_ 0 _ rfl; (with_reducible repeat (first | refine xq ?_ _ | refine xr ?_ | refine xo ?_ _)); exact BK231.out) Try.underlying25 rfl (by kernel_rfl)) rfl ?_
        exact ⟨_, eB, by first | exact Kd.R_nil _ _ _ _ _ | exact Kd.N_nil _ _ _ _ _ | exact Kd.V_nil _ _ _ _ _ | exact Kd.Q_nil _ _ _ _ _ | exact Kd.S_nil _ _ _ _ _, bG⟩

end Go.Proofs.Ytaddemalepndfai.G
