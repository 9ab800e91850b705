/- Written by a program of this claim's own, out of the translation: functions of the program as plain functions, and that the calls answer as these. No conditions. -/
import Derived.Test.YtpbpglbldgpckaaG0
import Derived.Test.YtpbpglbldgpckaaG16
import Derived.Test.YtpbpglbldgpckaaG35
namespace Go.Proofs.Ytpbpglbldgpckaa.G
open Go.RowKit Go.Proofs.Ytpbpglbldgpckaa.X Go.Proofs.YtpbpglbldgpckaaW.PrintWords Go.Proofs.YtpbpglbldgpckaaW.PrintLast Go.Proofs.YtpbpglbldgpckaaW.PrintMore
attribute [local go_sem] max2_int min2_int max_two min_two max_three min_three max_four min_four   -- for this text's walks alone
set_option linter.unusedVariables false
set_option linter.unusedSimpArgs false

/-! ### laws_szProcS: function 116 -/
def laws_szProcS.f (l0 : List (S181)) (a1 : Int) : Option (Int) := if (wrap64 (a1 - (l0.length : Int))) < 0 then (some (-1)) else (some (wrap64 (a1 - (l0.length : Int))))
set_option maxHeartbeats 8000000 in
set_option maxRecDepth 100000 in
theorem laws_szProcS.calls (A0 : Option Addr) (c0 : Nat) (l0 : List (S181)) (a1 : Int) (r : Int) (w : World) (hr0 : Kd.C k181 w A0 l0.length l0) (hc0 : l0.length ≤ c0) (h : laws_szProcS.f l0 a1 = some r) :
  Calls Try.prog 116 #[.slice A0 l0.length c0, .int .i64 a1] w fun e w' => e = .returned (.int .i64 r) ∧ Drawn0 w w' := by
 have HR0 := xm hr0
 have HC0 := xm hc0
 clear hr0 hc0
 have H : (if (wrap64 (a1 - (l0.length : Int))) < 0 then (some (-1)) else (some (wrap64 (a1 - (l0.length : Int))))) = some r := h
 clear h
 by_cases c3 : (wrap64 (a1 - (l0.length : Int))) < 0
 ·rw [if_pos c3] at H
  have c3b0 : decide ((wrap64 (a1 - (l0.length : Int))) < 0) = true := decide_eq_true c3
  clear c3
  obtain rfl := Option.some.inj H
  go_enter Try.func116, Try.ntmps116
  go_wp2
  go_ret
  exact ⟨by first | rfl | (simp; done) | (simp [*]; done), by repeat (first | exact Drawn0.refl _ | apply Drawn0.step)⟩
 ·rw [if_neg c3] at H
  have c3b0 : decide ((wrap64 (a1 - (l0.length : Int))) < 0) = false := decide_eq_false c3
  clear c3
  obtain rfl := Option.some.inj H
  go_enter Try.func116, Try.ntmps116
  go_wp2
  go_ret
  exact ⟨by first | rfl | (simp; done) | (simp [*]; done), by repeat (first | exact Drawn0.refl _ | apply Drawn0.step)⟩

/-! ### laws_szWire: function 154 -/
def laws_szWire.f (l0_0 : List Int) (l0_1 : List Int) (a0_2 : Bool) (a1 : Int) : Option (Int) := (laws_szIntS.f l0_0 a1).bind fun t808 => (if t808 < 0 then (some (-1)) else ((laws_szIntS.f l0_1 t808).bind fun t809 => (if t809 < 0 then (some (-1)) else (some t809))))
set_option maxHeartbeats 8000000 in
set_option maxRecDepth 100000 in
theorem laws_szWire.calls (A0_0 : Option Addr) (c0_0 : Nat) (l0_0 : List Int) (A0_1 : Option Addr) (c0_1 : Nat) (l0_1 : List Int) (a0_2 : Bool) (a1 : Int) (r : Int) (w : World) (hr0_0 : Kd.C (Kd.int .i64) w A0_0 l0_0.length l0_0) (hc0_0 : l0_0.length ≤ c0_0) (hr0_1 : Kd.C (Kd.int .i64) w A0_1 l0_1.length l0_1) (hc0_1 : l0_1.length ≤ c0_1) (h : laws_szWire.f l0_0 l0_1 a0_2 a1 = some r) :
  Calls Try.prog 154 #[.agg #[.slice A0_0 l0_0.length c0_0, .slice A0_1 l0_1.length c0_1, .bool a0_2], .int .i64 a1] w fun e w' => e = .returned (.int .i64 r) ∧ Below w.heap.size w w' := by
 have hu179 := Try.underlying179
 have HR0_0 := xm hr0_0
 have HC0_0 := xm hc0_0
 clear hr0_0 hc0_0
 have HR0_1 := xm hr0_1
 have HC0_1 := xm hc0_1
 clear hr0_1 hc0_1
 have HB := xm (Below.refl w.heap.size w)
 have H : ((laws_szIntS.f l0_0 a1).bind fun t808 => (if t808 < 0 then (some (-1)) else ((laws_szIntS.f l0_1 t808).bind fun t809 => (if t809 < 0 then (some (-1)) else (some t809))))) = some r := h
 clear h
 replace H := Option.bind_eq_some_iff.mp H
 obtain ⟨t808, A30, H⟩ := H
 replace H : (if t808 < 0 then (some (-1)) else ((laws_szIntS.f l0_1 t808).bind fun t809 => (if t809 < 0 then (some (-1)) else (some t809)))) = some r := H
 have A3 := xm A30
 clear A30
 by_cases c4 : t808 < 0
 ·rw [if_pos c4] at H
  have c4b0 : decide (t808 < 0) = true := decide_eq_true c4
  clear c4
  obtain rfl := Option.some.inj H
  go_enter Try.func154, Try.ntmps154
  go_wp2_with (first | ((with_reducible refine gate_dst (N := 2) rfl ?_); refine box_event ?hg (N := 2) ?hd (cs := #[.slice A0_0 l0_0.length c0_0, .slice A0_1 l0_1.length c0_1, .bool a0_2]) (t := 179) ?hr ?_; (case hd => rfl); (case hg => rfl); (case hr => first | (go_simp; done) | (go_simp; rfl)); intro gb807 hg w5 hbox hb; have n0_ := xm (below_step (by repeat (first | (with_reducible first | exact HB.out | apply xa | apply xn | apply xd) | exact HB.out)) hb); have n1_ := xm (hbox); have n2_ := xm ((by rw [hg]; exact (xz (by repeat (first | (with_reducible first | exact HB.out | apply xa | apply xn | apply xd) | exact HB.out))) : w.heap.size ≤ gb807)); have n3_ := xm ((by rw [hg]; exact (xz (by repeat (first | (with_reducible first | exact HB.out | apply xa | apply xn | apply xd) | exact HB.out))) : w.heap.size ≤ gb807)); clear HB; have HB := n0_; have BK807 := n1_; have GW807 := n2_; have GE807 := n3_; clear n0_ n1_ n2_ n3_; clear hb hbox hg; have hcz6_0 : w5.cell? ⟨gb807, 0, none⟩ = some (.slice A0_0 l0_0.length c0_0) := (xc BK807.out 0).trans rfl; have hcz6_1 : w5.cell? ⟨gb807, 1, none⟩ = some (.slice A0_1 l0_1.length c0_1) := (xc BK807.out 1).trans rfl; have hcz6_2 : w5.cell? ⟨gb807, 2, none⟩ = some (.bool a0_2) := (xc BK807.out 2).trans rfl; have hfz6_0 := xf BK807.out 0; have hfz6_1 := xf BK807.out 1; have hfz6_2 := xf BK807.out 2) | ((with_reducible refine gate_callee (f := 107) rfl ?_); refine goesL_ (some 8) rfl rfl Try.func107 (by kernel_rfl) rfl #[.slice A0_0 l0_0.length c0_0, .int .i64 a1] rfl (by (try simp only [List.map_toArray, List.map_cons, List.map_nil]); first | done | rfl | (simp only [List.length_drop, List.length_take]; rfl)) ?_; (with_reducible refine (laws_szIntS.calls _ _ l0_0 a1 t808 _ ?side1 ?side2 A3.out).mono ?_); (case side1 => repeat (first | exact (Kd.C_below HR0_0.out HB.out) | (with_reducible refine Kd.C_alloc ?_ _) | (with_reducible refine Kd.C_drewN ?_ _) | (with_reducible refine Kd.C_drew ?_))); (case side2 => exact HC0_0.out); rintro e w' ⟨rfl, ⟨nd, rfl⟩⟩; refine ⟨_, rfl, ?_⟩))
  go_ret
  exact ⟨by first | rfl | (simp [errW_none, errW_some] <;> rfl) | (simp [*, errW_none, errW_some] <;> rfl), by repeat (first | (with_reducible first | exact HB.out | apply xa | apply xn | apply xd | refine xt ?_ GE807.out) | exact HB.out)⟩
 ·rw [if_neg c4] at H
  have c4b0 : decide (t808 < 0) = false := decide_eq_false c4
  clear c4
  replace H := Option.bind_eq_some_iff.mp H
  obtain ⟨t809, A70, H⟩ := H
  replace H : (if t809 < 0 then (some (-1)) else (some t809)) = some r := H
  have A7 := xm A70
  clear A70
  by_cases c8 : t809 < 0
  ·rw [if_pos c8] at H
   have c8b0 : decide (t809 < 0) = true := decide_eq_true c8
   clear c8
   obtain rfl := Option.some.inj H
   go_enter Try.func154, Try.ntmps154
   go_wp2_with (first | ((with_reducible refine gate_dst (N := 2) rfl ?_); refine box_event ?hg (N := 2) ?hd (cs := #[.slice A0_0 l0_0.length c0_0, .slice A0_1 l0_1.length c0_1, .bool a0_2]) (t := 179) ?hr ?_; (case hd => rfl); (case hg => rfl); (case hr => first | (go_simp; done) | (go_simp; rfl)); intro gb807 hg w9 hbox hb; have n0_ := xm (below_step (by repeat (first | (with_reducible first | exact HB.out | apply xa | apply xn | apply xd) | exact HB.out)) hb); have n1_ := xm (hbox); have n2_ := xm ((by rw [hg]; exact (xz (by repeat (first | (with_reducible first | exact HB.out | apply xa | apply xn | apply xd) | exact HB.out))) : w.heap.size ≤ gb807)); have n3_ := xm ((by rw [hg]; exact (xz (by repeat (first | (with_reducible first | exact HB.out | apply xa | apply xn | apply xd) | exact HB.out))) : w.heap.size ≤ gb807)); clear HB; have HB := n0_; have BK807 := n1_; have GW807 := n2_; have GE807 := n3_; clear n0_ n1_ n2_ n3_; clear hb hbox hg; have hcz10_0 : w9.cell? ⟨gb807, 0, none⟩ = some (.slice A0_0 l0_0.length c0_0) := (xc BK807.out 0).trans rfl; have hcz10_1 : w9.cell? ⟨gb807, 1, none⟩ = some (.slice A0_1 l0_1.length c0_1) := (xc BK807.out 1).trans rfl; have hcz10_2 : w9.cell? ⟨gb807, 2, none⟩ = some (.bool a0_2) := (xc BK807.out 2).trans rfl; have hfz10_0 := xf BK807.out 0; have hfz10_1 := xf BK807.out 1; have hfz10_2 := xf BK807.out 2) | ((with_reducible refine gate_callee (f := 107) rfl ?_); refine goesL_ (some 8) rfl rfl Try.func107 (by kernel_rfl) rfl #[.slice A0_0 l0_0.length c0_0, .int .i64 a1] rfl (by (try simp only [List.map_toArray, List.map_cons, List.map_nil]); first | done | rfl | (simp only [List.length_drop, List.length_take]; rfl)) ?_; (with_reducible refine (laws_szIntS.calls _ _ l0_0 a1 t808 _ ?side1 ?side2 A3.out).mono ?_); (case side1 => repeat (first | exact (Kd.C_below HR0_0.out HB.out) | (with_reducible refine Kd.C_alloc ?_ _) | (with_reducible refine Kd.C_drewN ?_ _) | (with_reducible refine Kd.C_drew ?_))); (case side2 => exact HC0_0.out); rintro e w' ⟨rfl, ⟨nd, rfl⟩⟩; refine ⟨_, rfl, ?_⟩) | ((with_reducible refine gate_callee (f := 107) rfl ?_); refine goesL_ (some 14) rfl rfl Try.func107 (by kernel_rfl) rfl #[.slice A0_1 l0_1.length c0_1, .int .i64 t808] rfl (by (try simp only [List.map_toArray, List.map_cons, List.map_nil]); first | done | rfl | (simp only [List.length_drop, List.length_take]; rfl)) ?_; (with_reducible refine (laws_szIntS.calls _ _ l0_1 t808 t809 _ ?side1 ?side2 A7.out).mono ?_); (case side1 => repeat (first | exact (Kd.C_below HR0_1.out (by repeat (first | (with_reducible first | exact HB.out | apply xa | apply xn | apply xd | refine xt ?_ GE807.out) | exact HB.out))) | (with_reducible refine Kd.C_alloc ?_ _) | (with_reducible refine Kd.C_drewN ?_ _) | (with_reducible refine Kd.C_drew ?_))); (case side2 => exact HC0_1.out); rintro e w' ⟨rfl, ⟨nd, rfl⟩⟩; refine ⟨_, rfl, ?_⟩))
   go_ret
   exact ⟨by first | rfl | (simp [errW_none, errW_some] <;> rfl) | (simp [*, errW_none, errW_some] <;> rfl), by repeat (first | (with_reducible first | exact HB.out | apply xa | apply xn | apply xd | refine xt ?_ GE807.out) | exact HB.out)⟩
  ·rw [if_neg c8] at H
   have c8b0 : decide (t809 < 0) = false := decide_eq_false c8
   clear c8
   obtain rfl := Option.some.inj H
   go_enter Try.func154, Try.ntmps154
   go_wp2_with (first | ((with_reducible refine gate_dst (N := 2) rfl ?_); refine box_event ?hg (N := 2) ?hd (cs := #[.slice A0_0 l0_0.length c0_0, .slice A0_1 l0_1.length c0_1, .bool a0_2]) (t := 179) ?hr ?_; (case hd => rfl); (case hg => rfl); (case hr => first | (go_simp; done) | (go_simp; rfl)); intro gb807 hg w11 hbox hb; have n0_ := xm (below_step (by repeat (first | (with_reducible first | exact HB.out | apply xa | apply xn | apply xd) | exact HB.out)) hb); have n1_ := xm (hbox); have n2_ := xm ((by rw [hg]; exact (xz (by repeat (first | (with_reducible first | exact HB.out | apply xa | apply xn | apply xd) | exact HB.out))) : w.heap.size ≤ gb807)); have n3_ := xm ((by rw [hg]; exact (xz (by repeat (first | (with_reducible first | exact HB.out | apply xa | apply xn | apply xd) | exact HB.out))) : w.heap.size ≤ gb807)); clear HB; have HB := n0_; have BK807 := n1_; have GW807 := n2_; have GE807 := n3_; clear n0_ n1_ n2_ n3_; clear hb hbox hg; have hcz12_0 : w11.cell? ⟨gb807, 0, none⟩ = some (.slice A0_0 l0_0.length c0_0) := (xc BK807.out 0).trans rfl; have hcz12_1 : w11.cell? ⟨gb807, 1, none⟩ = some (.slice A0_1 l0_1.length c0_1) := (xc BK807.out 1).trans rfl; have hcz12_2 : w11.cell? ⟨gb807, 2, none⟩ = some (.bool a0_2) := (xc BK807.out 2).trans rfl; have hfz12_0 := xf BK807.out 0; have hfz12_1 := xf BK807.out 1; have hfz12_2 := xf BK807.out 2) | ((with_reducible refine gate_callee (f := 107) rfl ?_); refine goesL_ (some 8) rfl rfl Try.func107 (by kernel_rfl) rfl #[.slice A0_0 l0_0.length c0_0, .int .i64 a1] rfl (by (try simp only [List.map_toArray, List.map_cons, List.map_nil]); first | done | rfl | (simp only [List.length_drop, List.length_take]; rfl)) ?_; (with_reducible refine (laws_szIntS.calls _ _ l0_0 a1 t808 _ ?side1 ?side2 A3.out).mono ?_); (case side1 => repeat (first | exact (Kd.C_below HR0_0.out HB.out) | (with_reducible refine Kd.C_alloc ?_ _) | (with_reducible refine Kd.C_drewN ?_ _) | (with_reducible refine Kd.C_drew ?_))); (case side2 => exact HC0_0.out); rintro e w' ⟨rfl, ⟨nd, rfl⟩⟩; refine ⟨_, rfl, ?_⟩) | ((with_reducible refine gate_callee (f := 107) rfl ?_); refine goesL_ (some 14) rfl rfl Try.func107 (by kernel_rfl) rfl #[.slice A0_1 l0_1.length c0_1, .int .i64 t808] rfl (by (try simp only [List.map_toArray, List.map_cons, List.map_nil]); first | done | rfl | (simp only [List.length_drop, List.length_take]; rfl)) ?_; (with_reducible refine (laws_szIntS.calls _ _ l0_1 t808 t809 _ ?side1 ?side2 A7.out).mono ?_); (case side1 => repeat (first | exact (Kd.C_below HR0_1.out (by repeat (first | (with_reducible first | exact HB.out | apply xa | apply xn | apply xd | refine xt ?_ GE807.out) | exact HB.out))) | (with_reducible refine Kd.C_alloc ?_ _) | (with_reducible refine Kd.C_drewN ?_ _) | (with_reducible refine Kd.C_drew ?_))); (case side2 => exact HC0_1.out); rintro e w' ⟨rfl, ⟨nd, rfl⟩⟩; refine ⟨_, rfl, ?_⟩))
   go_ret
   exact ⟨by first | rfl | (simp [errW_none, errW_some] <;> rfl) | (simp [*, errW_none, errW_some] <;> rfl), by repeat (first | (with_reducible first | exact HB.out | apply xa | apply xn | apply xd | refine xt ?_ GE807.out) | exact HB.out)⟩

/-! ### laws_szWireS: function 117 -/
def laws_szWireS.l0 : Nat → List (S179) → Int → Int → Option (Int)
 | 0, _, _, _ => none
 | k + 1, x0, x1, x5 => if x5 < (x0.length : Int) then (if 0 ≤ x5 then ((laws_szWire.f ((rd_T179 x0 x5).f0) ((rd_T179 x0 x5).f1) ((rd_T179 x0 x5).f2) x1).bind fun t811 => (if t811 < 0 then (some (-1)) else (laws_szWireS.l0 k x0 t811 (wrap64 (x5 + 1))))) else (none)) else (some x1)
def laws_szWireS.f (k : Nat) (l0 : List (S179)) (a1 : Int) : Option (Int) := if (wrap64 (a1 - (l0.length : Int))) < 0 then (some (-1)) else (laws_szWireS.l0 k l0 (wrap64 (a1 - (l0.length : Int))) 0)
theorem laws_szWireS.mono_l : ∀ k, (∀ y0 y1 y2, LeO (laws_szWireS.l0 k y0 y1 y2) (laws_szWireS.l0 (k + 1) y0 y1 y2))
 | 0 => fun _ _ _ r h => by simp [laws_szWireS.l0] at h
 | k + 1 => by
  have ih0 := laws_szWireS.mono_l k
  ·intro y0 y1 y2
   unfold laws_szWireS.l0
   repeat' first
   | (with_reducible exact ih0 _ _ _)
   | (with_reducible exact LeO.refl _)
   | (with_reducible exact LeO.none _)
   | (with_reducible refine LeO.ite ?_ ?_)
   | (with_reducible refine LeO.bind ?_ (fun _ => ?_))
   | exact ih0 _ _ _
   | exact LeO.none _
   | refine LeO.ite ?_ ?_
   | refine LeO.bind ?_ (fun _ => ?_)
theorem laws_szWireS.mono : ∀ a0 a1 k, LeO (laws_szWireS.f k a0 a1) (laws_szWireS.f (k + 1) a0 a1) := by
 intro a0 a1 k
 have ih0 := laws_szWireS.mono_l k
 unfold laws_szWireS.f
 repeat' first
   | (with_reducible exact ih0 _ _ _)
   | (with_reducible exact LeO.refl _)
   | (with_reducible exact LeO.none _)
   | (with_reducible refine LeO.ite ?_ ?_)
   | (with_reducible refine LeO.bind ?_ (fun _ => ?_))
   | exact ih0 _ _ _
   | exact LeO.none _
   | refine LeO.ite ?_ ?_
   | refine LeO.bind ?_ (fun _ => ?_)
set_option maxHeartbeats 8000000 in
set_option maxRecDepth 100000 in
theorem laws_szWireS.calls (k : Nat) (A0 : Option Addr) (c0 : Nat) (l0 : List (S179)) (a1 : Int) (r : Int) (w : World) (hr0 : Kd.C k179 w A0 l0.length l0) (hc0 : l0.length ≤ c0) (h : laws_szWireS.f k l0 a1 = some r) :
  Calls Try.prog 117 #[.slice A0 l0.length c0, .int .i64 a1] w fun e w' => e = .returned (.int .i64 r) ∧ Below w.heap.size w w' := by
 have hu179 := Try.underlying179
 have HR0 := xm hr0
 have HC0 := xm hc0
 clear hr0 hc0
 have HB := xm (Below.refl w.heap.size w)
 have H : (if (wrap64 (a1 - (l0.length : Int))) < 0 then (some (-1)) else (laws_szWireS.l0 k l0 (wrap64 (a1 - (l0.length : Int))) 0)) = some r := h
 clear h
 by_cases c3 : (wrap64 (a1 - (l0.length : Int))) < 0
 ·rw [if_pos c3] at H
  have c3b0 : decide ((wrap64 (a1 - (l0.length : Int))) < 0) = true := decide_eq_true c3
  clear c3
  obtain rfl := Option.some.inj H
  go_enter Try.func117, Try.ntmps117
  go_wp2
  go_ret
  exact ⟨by first | rfl | (simp [errW_none, errW_some] <;> rfl) | (simp [*, errW_none, errW_some] <;> rfl), by repeat (first | (with_reducible first | exact HB.out | apply xa | apply xn | apply xd) | exact HB.out)⟩
 ·rw [if_neg c3] at H
  have c3b0 : decide ((wrap64 (a1 - (l0.length : Int))) < 0) = false := decide_eq_false c3
  clear c3
  have H' := xm H
  clear H
  go_enter Try.func117, Try.ntmps117
  go_wp2
  go_loopg [1, 5] k (fun kq v1 v5 w' => ∃ (x1_1 : Int) (x5_1 : Int), v1 = .int .i64 x1_1 ∧ v5 = .int .i64 x5_1 ∧ Aside0 (laws_szWireS.l0 kq l0 x1_1 x5_1 = some r) ∧ Aside0 (kq ≤ k) ∧ Aside0 (Below w.heap.size w w'))
  case atStart => exact ⟨(wrap64 (a1 - (l0.length : Int))), (0), (by first | rfl | (simp; done) | (simp [*]; done)), (by first | rfl | (simp; done) | (simp [*]; done)), H', ⟨Nat.le_refl _⟩, ⟨by repeat (first | (with_reducible first | exact HB.out | apply xa | apply xn | apply xd) | exact HB.out)⟩⟩
  case round =>
   clear H'
   try clear c1
   try clear p2
   try clear c3
   try clear c3b0
   obtain ⟨x1_1, x5_1, rfl, rfl, HA, HK1, HB⟩ := hrel
   cases gk with
   | zero => exact absurd HA.out (by simp [laws_szWireS.l0])
   | succ k1 =>
    have H := HA.out
    clear HA
    simp only [laws_szWireS.l0] at H
    by_cases c4 : x5_1 < (l0.length : Int)
    ·rw [if_pos c4] at H
     have c4b0 : decide (x5_1 < (l0.length : Int)) = true := decide_eq_true c4
     clear c4
     by_cases c5 : 0 ≤ x5_1
     ·rw [if_pos c5] at H
      have c5b0 : decide (0 ≤ x5_1) = true := decide_eq_true c5
      clear c5
      replace H := Option.bind_eq_some_iff.mp H
      obtain ⟨t811, A60, H⟩ := H
      replace H : (if t811 < 0 then (some (-1)) else (laws_szWireS.l0 k1 l0 t811 (wrap64 (x5_1 + 1)))) = some r := H
      have A6 := xm A60
      clear A60
      by_cases c7 : t811 < 0
      ·rw [if_pos c7] at H
       have c7b0 : decide (t811 < 0) = true := decide_eq_true c7
       clear c7
       obtain rfl := Option.some.inj H
       have p810 : 0 ≤ (x5_1 : Int) := of_decide_eq_true (by first | (with_reducible assumption) | assumption)
       have q810 : x5_1 < (l0.length : Int) := of_decide_eq_true (by first | (with_reducible assumption) | assumption)
       obtain ⟨ad810, A810_0, c810_0, A810_1, c810_1, e810, hx810_0, hx810_1, hx810_2, hl810_0, hi810_0, hl810_1, hi810_1⟩ := at_T179 HR0.out x5_1 p810 q810
       cases e810
       replace hx810_0 := (HB.out.cell (World.block_lt_of_cell? w _ hx810_0)).trans hx810_0
       replace hx810_1 := (HB.out.cell (World.block_lt_of_cell? w _ hx810_1)).trans hx810_1
       replace hx810_2 := (HB.out.cell (World.block_lt_of_cell? w _ hx810_2)).trans hx810_2
       have HR810_0 := xm hi810_0
       have HC810_0 := xm hl810_0
       clear hi810_0 hl810_0
       have HR810_1 := xm hi810_1
       have HC810_1 := xm hl810_1
       clear hi810_1 hl810_1
       replace p810 := eq_true p810
       replace q810 := eq_true q810
       go_wp2_with (first | ((with_reducible refine gate_callee (f := 154) rfl ?_); refine goesL_ (some 23) rfl rfl Try.func154 (by kernel_rfl) rfl #[.agg #[.slice A810_0 ((rd_T179 l0 x5_1).f0).length c810_0, .slice A810_1 ((rd_T179 l0 x5_1).f1).length c810_1, .bool ((rd_T179 l0 x5_1).f2)], .int .i64 x1_1] rfl (by (try simp only [List.map_toArray, List.map_cons, List.map_nil]); first | done | rfl | (simp only [List.length_drop, List.length_take]; rfl)) ?_; (with_reducible refine (laws_szWire.calls _ _ ((rd_T179 l0 x5_1).f0) _ _ ((rd_T179 l0 x5_1).f1) ((rd_T179 l0 x5_1).f2) x1_1 t811 _ ?side1 ?side2 ?side3 ?side4 A6.out).mono ?_); (case side1 => repeat (first | exact (Kd.C_below HR810_0.out HB.out) | (with_reducible refine Kd.C_alloc ?_ _) | (with_reducible refine Kd.C_drewN ?_ _) | (with_reducible refine Kd.C_drew ?_))); (case side2 => exact HC810_0.out); (case side3 => repeat (first | exact (Kd.C_below HR810_1.out HB.out) | (with_reducible refine Kd.C_alloc ?_ _) | (with_reducible refine Kd.C_drewN ?_ _) | (with_reducible refine Kd.C_drew ?_))); (case side4 => exact HC810_1.out); rintro e w8 ⟨rfl, hb⟩; refine ⟨_, rfl, ?_⟩; have n0_ := xm (below_step (by repeat (first | (with_reducible first | exact HB.out | apply xa | apply xn | apply xd) | exact HB.out)) hb); clear HB; have HB := n0_; clear n0_; (try clear hb); (try clear hb2); (try clear hk); (try clear hi)))
       go_ret
       exact ⟨by first | rfl | (simp [errW_none, errW_some] <;> rfl) | (simp [*, errW_none, errW_some] <;> rfl), by repeat (first | (with_reducible first | exact HB.out | apply xa | apply xn | apply xd) | exact HB.out)⟩
      ·rw [if_neg c7] at H
       have c7b0 : decide (t811 < 0) = false := decide_eq_false c7
       clear c7
       have H' := xm H
       clear H
       have p810 : 0 ≤ (x5_1 : Int) := of_decide_eq_true (by first | (with_reducible assumption) | assumption)
       have q810 : x5_1 < (l0.length : Int) := of_decide_eq_true (by first | (with_reducible assumption) | assumption)
       obtain ⟨ad810, A810_0, c810_0, A810_1, c810_1, e810, hx810_0, hx810_1, hx810_2, hl810_0, hi810_0, hl810_1, hi810_1⟩ := at_T179 HR0.out x5_1 p810 q810
       cases e810
       replace hx810_0 := (HB.out.cell (World.block_lt_of_cell? w _ hx810_0)).trans hx810_0
       replace hx810_1 := (HB.out.cell (World.block_lt_of_cell? w _ hx810_1)).trans hx810_1
       replace hx810_2 := (HB.out.cell (World.block_lt_of_cell? w _ hx810_2)).trans hx810_2
       have HR810_0 := xm hi810_0
       have HC810_0 := xm hl810_0
       clear hi810_0 hl810_0
       have HR810_1 := xm hi810_1
       have HC810_1 := xm hl810_1
       clear hi810_1 hl810_1
       replace p810 := eq_true p810
       replace q810 := eq_true q810
       go_wp2_with (first | ((with_reducible refine gate_callee (f := 154) rfl ?_); refine goesL_ (some 23) rfl rfl Try.func154 (by kernel_rfl) rfl #[.agg #[.slice A810_0 ((rd_T179 l0 x5_1).f0).length c810_0, .slice A810_1 ((rd_T179 l0 x5_1).f1).length c810_1, .bool ((rd_T179 l0 x5_1).f2)], .int .i64 x1_1] rfl (by (try simp only [List.map_toArray, List.map_cons, List.map_nil]); first | done | rfl | (simp only [List.length_drop, List.length_take]; rfl)) ?_; (with_reducible refine (laws_szWire.calls _ _ ((rd_T179 l0 x5_1).f0) _ _ ((rd_T179 l0 x5_1).f1) ((rd_T179 l0 x5_1).f2) x1_1 t811 _ ?side1 ?side2 ?side3 ?side4 A6.out).mono ?_); (case side1 => repeat (first | exact (Kd.C_below HR810_0.out HB.out) | (with_reducible refine Kd.C_alloc ?_ _) | (with_reducible refine Kd.C_drewN ?_ _) | (with_reducible refine Kd.C_drew ?_))); (case side2 => exact HC810_0.out); (case side3 => repeat (first | exact (Kd.C_below HR810_1.out HB.out) | (with_reducible refine Kd.C_alloc ?_ _) | (with_reducible refine Kd.C_drewN ?_ _) | (with_reducible refine Kd.C_drew ?_))); (case side4 => exact HC810_1.out); rintro e w9 ⟨rfl, hb⟩; refine ⟨_, rfl, ?_⟩; have n0_ := xm (below_step (by repeat (first | (with_reducible first | exact HB.out | apply xa | apply xn | apply xd) | exact HB.out)) hb); clear HB; have HB := n0_; clear n0_; (try clear hb); (try clear hb2); (try clear hk); (try clear hi)))
       go_roundg k1
       case measure => have := HK1.out; omega
       case rel => exact ⟨(t811), (wrap64 (x5_1 + 1)), (by first | rfl | (simp; done) | (simp [*]; done)), (by first | rfl | (simp; done) | (simp [*]; done)), H', ⟨by have := HK1.out; omega⟩, ⟨by repeat (first | (with_reducible first | exact HB.out | apply xa | apply xn | apply xd) | exact HB.out)⟩⟩
     ·rw [if_neg c5] at H
      exact absurd H (by simp)
    ·rw [if_neg c4] at H
     have c4b0 : decide (x5_1 < (l0.length : Int)) = false := decide_eq_false c4
     clear c4
     obtain rfl := Option.some.inj H
     go_wp2
     go_ret
     exact ⟨by first | rfl | (simp [errW_none, errW_some] <;> rfl) | (simp [*, errW_none, errW_some] <;> rfl), by repeat (first | (with_reducible first | exact HB.out | apply xa | apply xn | apply xd) | exact HB.out)⟩

/-! ### laws_szSnap: function 55 -/
def laws_szSnap.f (k : Nat) (l0_0 : List (S181)) (l0_1 : List (S179)) (a1 : Int) : Option (Int) := (laws_szProcS.f l0_0 a1).bind fun t813 => (if t813 < 0 then (some (-1)) else ((laws_szWireS.f k l0_1 t813).bind fun t814 => (if t814 < 0 then (some (-1)) else (some t814))))
theorem laws_szSnap.mono : ∀ a0 a1 a2 k, LeO (laws_szSnap.f k a0 a1 a2) (laws_szSnap.f (k + 1) a0 a1 a2) := by
 intro a0 a1 a2 k
 unfold laws_szSnap.f
 repeat' first
   | (with_reducible exact laws_szWireS.mono _ _ _)
   | (with_reducible exact LeO.refl _)
   | (with_reducible exact LeO.none _)
   | (with_reducible refine LeO.ite ?_ ?_)
   | (with_reducible refine LeO.bind ?_ (fun _ => ?_))
   | exact laws_szWireS.mono _ _ _
   | exact LeO.none _
   | refine LeO.ite ?_ ?_
   | refine LeO.bind ?_ (fun _ => ?_)
set_option maxHeartbeats 8000000 in
set_option maxRecDepth 100000 in
theorem laws_szSnap.calls (k : Nat) (A0_0 : Option Addr) (c0_0 : Nat) (l0_0 : List (S181)) (A0_1 : Option Addr) (c0_1 : Nat) (l0_1 : List (S179)) (a1 : Int) (r : Int) (w : World) (hr0_0 : Kd.C k181 w A0_0 l0_0.length l0_0) (hc0_0 : l0_0.length ≤ c0_0) (hr0_1 : Kd.C k179 w A0_1 l0_1.length l0_1) (hc0_1 : l0_1.length ≤ c0_1) (h : laws_szSnap.f k l0_0 l0_1 a1 = some r) :
  Calls Try.prog 55 #[.agg #[.slice A0_0 l0_0.length c0_0, .slice A0_1 l0_1.length c0_1], .int .i64 a1] w fun e w' => e = .returned (.int .i64 r) ∧ Below w.heap.size w w' := by
 have hu79 := Try.underlying79
 have HR0_0 := xm hr0_0
 have HC0_0 := xm hc0_0
 clear hr0_0 hc0_0
 have HR0_1 := xm hr0_1
 have HC0_1 := xm hc0_1
 clear hr0_1 hc0_1
 have HB := xm (Below.refl w.heap.size w)
 have H : ((laws_szProcS.f l0_0 a1).bind fun t813 => (if t813 < 0 then (some (-1)) else ((laws_szWireS.f k l0_1 t813).bind fun t814 => (if t814 < 0 then (some (-1)) else (some t814))))) = some r := h
 clear h
 replace H := Option.bind_eq_some_iff.mp H
 obtain ⟨t813, A30, H⟩ := H
 replace H : (if t813 < 0 then (some (-1)) else ((laws_szWireS.f k l0_1 t813).bind fun t814 => (if t814 < 0 then (some (-1)) else (some t814)))) = some r := H
 have A3 := xm A30
 clear A30
 by_cases c4 : t813 < 0
 ·rw [if_pos c4] at H
  have c4b0 : decide (t813 < 0) = true := decide_eq_true c4
  clear c4
  obtain rfl := Option.some.inj H
  go_enter Try.func55, Try.ntmps55
  go_wp2_with (first | ((with_reducible refine gate_dst (N := 2) rfl ?_); refine box_event ?hg (N := 2) ?hd (cs := #[.slice A0_0 l0_0.length c0_0, .slice A0_1 l0_1.length c0_1]) (t := 79) ?hr ?_; (case hd => rfl); (case hg => rfl); (case hr => first | (go_simp; done) | (go_simp; rfl)); intro gb812 hg w5 hbox hb; have n0_ := xm (below_step (by repeat (first | (with_reducible first | exact HB.out | apply xa | apply xn | apply xd) | exact HB.out)) hb); have n1_ := xm (hbox); have n2_ := xm ((by rw [hg]; exact (xz (by repeat (first | (with_reducible first | exact HB.out | apply xa | apply xn | apply xd) | exact HB.out))) : w.heap.size ≤ gb812)); have n3_ := xm ((by rw [hg]; exact (xz (by repeat (first | (with_reducible first | exact HB.out | apply xa | apply xn | apply xd) | exact HB.out))) : w.heap.size ≤ gb812)); clear HB; have HB := n0_; have BK812 := n1_; have GW812 := n2_; have GE812 := n3_; clear n0_ n1_ n2_ n3_; clear hb hbox hg; have hcz6_0 : w5.cell? ⟨gb812, 0, none⟩ = some (.slice A0_0 l0_0.length c0_0) := (xc BK812.out 0).trans rfl; have hcz6_1 : w5.cell? ⟨gb812, 1, none⟩ = some (.slice A0_1 l0_1.length c0_1) := (xc BK812.out 1).trans rfl; have hfz6_0 := xf BK812.out 0; have hfz6_1 := xf BK812.out 1) | ((with_reducible refine gate_callee (f := 116) rfl ?_); refine goesL_ (some 8) rfl rfl Try.func116 (by kernel_rfl) rfl #[.slice A0_0 l0_0.length c0_0, .int .i64 a1] rfl (by (try simp only [List.map_toArray, List.map_cons, List.map_nil]); first | done | rfl | (simp only [List.length_drop, List.length_take]; rfl)) ?_; (with_reducible refine (laws_szProcS.calls _ _ l0_0 a1 t813 _ ?side1 ?side2 A3.out).mono ?_); (case side1 => repeat (first | exact (Kd.C_below HR0_0.out HB.out) | (with_reducible refine Kd.C_alloc ?_ _) | (with_reducible refine Kd.C_drewN ?_ _) | (with_reducible refine Kd.C_drew ?_))); (case side2 => exact HC0_0.out); rintro e w' ⟨rfl, ⟨nd, rfl⟩⟩; refine ⟨_, rfl, ?_⟩))
  go_ret
  exact ⟨by first | rfl | (simp [errW_none, errW_some] <;> rfl) | (simp [*, errW_none, errW_some] <;> rfl), by repeat (first | (with_reducible first | exact HB.out | apply xa | apply xn | apply xd | refine xt ?_ GE812.out) | exact HB.out)⟩
 ·rw [if_neg c4] at H
  have c4b0 : decide (t813 < 0) = false := decide_eq_false c4
  clear c4
  replace H := Option.bind_eq_some_iff.mp H
  obtain ⟨t814, A70, H⟩ := H
  replace H : (if t814 < 0 then (some (-1)) else (some t814)) = some r := H
  have A7 := xm A70
  clear A70
  by_cases c8 : t814 < 0
  ·rw [if_pos c8] at H
   have c8b0 : decide (t814 < 0) = true := decide_eq_true c8
   clear c8
   obtain rfl := Option.some.inj H
   go_enter Try.func55, Try.ntmps55
   go_wp2_with (first | ((with_reducible refine gate_dst (N := 2) rfl ?_); refine box_event ?hg (N := 2) ?hd (cs := #[.slice A0_0 l0_0.length c0_0, .slice A0_1 l0_1.length c0_1]) (t := 79) ?hr ?_; (case hd => rfl); (case hg => rfl); (case hr => first | (go_simp; done) | (go_simp; rfl)); intro gb812 hg w9 hbox hb; have n0_ := xm (below_step (by repeat (first | (with_reducible first | exact HB.out | apply xa | apply xn | apply xd) | exact HB.out)) hb); have n1_ := xm (hbox); have n2_ := xm ((by rw [hg]; exact (xz (by repeat (first | (with_reducible first | exact HB.out | apply xa | apply xn | apply xd) | exact HB.out))) : w.heap.size ≤ gb812)); have n3_ := xm ((by rw [hg]; exact (xz (by repeat (first | (with_reducible first | exact HB.out | apply xa | apply xn | apply xd) | exact HB.out))) : w.heap.size ≤ gb812)); clear HB; have HB := n0_; have BK812 := n1_; have GW812 := n2_; have GE812 := n3_; clear n0_ n1_ n2_ n3_; clear hb hbox hg; have hcz10_0 : w9.cell? ⟨gb812, 0, none⟩ = some (.slice A0_0 l0_0.length c0_0) := (xc BK812.out 0).trans rfl; have hcz10_1 : w9.cell? ⟨gb812, 1, none⟩ = some (.slice A0_1 l0_1.length c0_1) := (xc BK812.out 1).trans rfl; have hfz10_0 := xf BK812.out 0; have hfz10_1 := xf BK812.out 1) | ((with_reducible refine gate_callee (f := 116) rfl ?_); refine goesL_ (some 8) rfl rfl Try.func116 (by kernel_rfl) rfl #[.slice A0_0 l0_0.length c0_0, .int .i64 a1] rfl (by (try simp only [List.map_toArray, List.map_cons, List.map_nil]); first | done | rfl | (simp only [List.length_drop, List.length_take]; rfl)) ?_; (with_reducible refine (laws_szProcS.calls _ _ l0_0 a1 t813 _ ?side1 ?side2 A3.out).mono ?_); (case side1 => repeat (first | exact (Kd.C_below HR0_0.out HB.out) | (with_reducible refine Kd.C_alloc ?_ _) | (with_reducible refine Kd.C_drewN ?_ _) | (with_reducible refine Kd.C_drew ?_))); (case side2 => exact HC0_0.out); rintro e w' ⟨rfl, ⟨nd, rfl⟩⟩; refine ⟨_, rfl, ?_⟩) | ((with_reducible refine gate_callee (f := 117) rfl ?_); refine goesL_ (some 14) rfl rfl Try.func117 (by kernel_rfl) rfl #[.slice A0_1 l0_1.length c0_1, .int .i64 t813] rfl (by (try simp only [List.map_toArray, List.map_cons, List.map_nil]); first | done | rfl | (simp only [List.length_drop, List.length_take]; rfl)) ?_; (with_reducible refine (laws_szWireS.calls k _ _ l0_1 t813 t814 _ ?side1 ?side2 A7.out).mono ?_); (case side1 => repeat (first | exact (Kd.C_below HR0_1.out (by repeat (first | (with_reducible first | exact HB.out | apply xa | apply xn | apply xd | refine xt ?_ GE812.out) | exact HB.out))) | (with_reducible refine Kd.C_alloc ?_ _) | (with_reducible refine Kd.C_drewN ?_ _) | (with_reducible refine Kd.C_drew ?_))); (case side2 => exact HC0_1.out); rintro e w11 ⟨rfl, hb⟩; refine ⟨_, rfl, ?_⟩; have n0_ := xm (blk_below (g := gb812) (o := .cells #[.slice A0_0 l0_0.length c0_0, .slice A0_1 l0_1.length c0_1] 79 (0, 0)) (by (with_reducible repeat (first | refine xq ?_ _ | refine xr ?_ | refine xo ?_ _)); exact BK812.out) hb); have n1_ := xm (below_step (by repeat (first | (with_reducible first | exact HB.out | apply xa | apply xn | apply xd | refine xt ?_ GE812.out) | exact HB.out)) hb); clear BK812; clear HB; have BK812 := n0_; have HB := n1_; clear n0_ n1_; (try clear hb); (try clear hb2); (try clear hk); (try clear hi)))
   go_ret
   exact ⟨by first | rfl | (simp [errW_none, errW_some] <;> rfl) | (simp [*, errW_none, errW_some] <;> rfl), by repeat (first | (with_reducible first | exact HB.out | apply xa | apply xn | apply xd | refine xt ?_ GE812.out) | exact HB.out)⟩
  ·rw [if_neg c8] at H
   have c8b0 : decide (t814 < 0) = false := decide_eq_false c8
   clear c8
   obtain rfl := Option.some.inj H
   go_enter Try.func55, Try.ntmps55
   go_wp2_with (first | ((with_reducible refine gate_dst (N := 2) rfl ?_); refine box_event ?hg (N := 2) ?hd (cs := #[.slice A0_0 l0_0.length c0_0, .slice A0_1 l0_1.length c0_1]) (t := 79) ?hr ?_; (case hd => rfl); (case hg => rfl); (case hr => first | (go_simp; done) | (go_simp; rfl)); intro gb812 hg w12 hbox hb; have n0_ := xm (below_step (by repeat (first | (with_reducible first | exact HB.out | apply xa | apply xn | apply xd) | exact HB.out)) hb); have n1_ := xm (hbox); have n2_ := xm ((by rw [hg]; exact (xz (by repeat (first | (with_reducible first | exact HB.out | apply xa | apply xn | apply xd) | exact HB.out))) : w.heap.size ≤ gb812)); have n3_ := xm ((by rw [hg]; exact (xz (by repeat (first | (with_reducible first | exact HB.out | apply xa | apply xn | apply xd) | exact HB.out))) : w.heap.size ≤ gb812)); clear HB; have HB := n0_; have BK812 := n1_; have GW812 := n2_; have GE812 := n3_; clear n0_ n1_ n2_ n3_; clear hb hbox hg; have hcz13_0 : w12.cell? ⟨gb812, 0, none⟩ = some (.slice A0_0 l0_0.length c0_0) := (xc BK812.out 0).trans rfl; have hcz13_1 : w12.cell? ⟨gb812, 1, none⟩ = some (.slice A0_1 l0_1.length c0_1) := (xc BK812.out 1).trans rfl; have hfz13_0 := xf BK812.out 0; have hfz13_1 := xf BK812.out 1) | ((with_reducible refine gate_callee (f := 116) rfl ?_); refine goesL_ (some 8) rfl rfl Try.func116 (by kernel_rfl) rfl #[.slice A0_0 l0_0.length c0_0, .int .i64 a1] rfl (by (try simp only [List.map_toArray, List.map_cons, List.map_nil]); first | done | rfl | (simp only [List.length_drop, List.length_take]; rfl)) ?_; (with_reducible refine (laws_szProcS.calls _ _ l0_0 a1 t813 _ ?side1 ?side2 A3.out).mono ?_); (case side1 => repeat (first | exact (Kd.C_below HR0_0.out HB.out) | (with_reducible refine Kd.C_alloc ?_ _) | (with_reducible refine Kd.C_drewN ?_ _) | (with_reducible refine Kd.C_drew ?_))); (case side2 => exact HC0_0.out); rintro e w' ⟨rfl, ⟨nd, rfl⟩⟩; refine ⟨_, rfl, ?_⟩) | ((with_reducible refine gate_callee (f := 117) rfl ?_); refine goesL_ (some 14) rfl rfl Try.func117 (by kernel_rfl) rfl #[.slice A0_1 l0_1.length c0_1, .int .i64 t813] rfl (by (try simp only [List.map_toArray, List.map_cons, List.map_nil]); first | done | rfl | (simp only [List.length_drop, List.length_take]; rfl)) ?_; (with_reducible refine (laws_szWireS.calls k _ _ l0_1 t813 t814 _ ?side1 ?side2 A7.out).mono ?_); (case side1 => repeat (first | exact (Kd.C_below HR0_1.out (by repeat (first | (with_reducible first | exact HB.out | apply xa | apply xn | apply xd | refine xt ?_ GE812.out) | exact HB.out))) | (with_reducible refine Kd.C_alloc ?_ _) | (with_reducible refine Kd.C_drewN ?_ _) | (with_reducible refine Kd.C_drew ?_))); (case side2 => exact HC0_1.out); rintro e w14 ⟨rfl, hb⟩; refine ⟨_, rfl, ?_⟩; have n0_ := xm (blk_below (g := gb812) (o := .cells #[.slice A0_0 l0_0.length c0_0, .slice A0_1 l0_1.length c0_1] 79 (0, 0)) (by (with_reducible repeat (first | refine xq ?_ _ | refine xr ?_ | refine xo ?_ _)); exact BK812.out) hb); have n1_ := xm (below_step (by repeat (first | (with_reducible first | exact HB.out | apply xa | apply xn | apply xd | refine xt ?_ GE812.out) | exact HB.out)) hb); clear BK812; clear HB; have BK812 := n0_; have HB := n1_; clear n0_ n1_; (try clear hb); (try clear hb2); (try clear hk); (try clear hi)))
   go_ret
   exact ⟨by first | rfl | (simp [errW_none, errW_some] <;> rfl) | (simp [*, errW_none, errW_some] <;> rfl), by repeat (first | (with_reducible first | exact HB.out | apply xa | apply xn | apply xd | refine xt ?_ GE812.out) | exact HB.out)⟩

/-! ### laws_toProc: function 155 -/
def laws_toProc.f (a0_0 : Int) (a0_1 : Int) (a0_2 : Bool) : Option (Int × Int × Bool) := some (a0_0, a0_1, a0_2)
set_option maxHeartbeats 8000000 in
set_option maxRecDepth 100000 in
theorem laws_toProc.calls (a0_0 : Int) (a0_1 : Int) (a0_2 : Bool) (r1 : Int) (r2 : Int) (r3 : Bool) (w : World) (h : laws_toProc.f a0_0 a0_1 a0_2 = some (r1, r2, r3)) :
  Calls Try.prog 155 #[.agg #[.int .i64 a0_0, .int .i64 a0_1, .bool a0_2]] w fun e w' => e = .returned (.agg #[.int .i64 r1, .int .i64 r2, .bool r3]) ∧ Below w.heap.size w w' := by
 have hu181 := Try.underlying181
 have hu138 := Try.underlying138
 have HB := xm (Below.refl w.heap.size w)
 have H : (some (a0_0, a0_1, a0_2)) = some (r1, r2, r3) := h
 clear h
 simp only [Option.some.injEq, Prod.mk.injEq] at H
 obtain ⟨rfl, rfl, rfl⟩ := H
 go_enter Try.func155, Try.ntmps155
 go_wp2_with (first | ((with_reducible refine gate_dst (N := 1) rfl ?_); refine box_event ?hg (N := 1) ?hd (cs := #[.int .i64 a0_0, .int .i64 a0_1, .bool a0_2]) (t := 181) ?hr ?_; (case hd => rfl); (case hg => rfl); (case hr => first | (go_simp; done) | (go_simp; rfl)); intro gb830 hg w2 hbox hb; have n0_ := xm (below_step (by repeat (first | (with_reducible first | exact HB.out | apply xa | apply xn | apply xd) | exact HB.out)) hb); have n1_ := xm (hbox); have n2_ := xm ((by rw [hg]; exact (xz (by repeat (first | (with_reducible first | exact HB.out | apply xa | apply xn | apply xd) | exact HB.out))) : w.heap.size ≤ gb830)); have n3_ := xm ((by rw [hg]; exact (xz (by repeat (first | (with_reducible first | exact HB.out | apply xa | apply xn | apply xd) | exact HB.out))) : w.heap.size ≤ gb830)); clear HB; have HB := n0_; have BK830 := n1_; have GW830 := n2_; have GE830 := n3_; clear n0_ n1_ n2_ n3_; clear hb hbox hg) | ((with_reducible refine gate_dst (N := 2) rfl ?_); refine box_event ?hg (N := 2) ?hd (cs := #[.int .i64 0, .int .i64 0, .bool false]) (t := 138) ?hr ?_; (case hd => rfl); (case hg => rfl); (case hr => first | (go_simp; done) | (go_simp; rfl)); intro gb831 hg w3 hbox hb; have n0_ := xm (blk_below (g := gb830) (o := .cells #[.int .i64 a0_0, .int .i64 a0_1, .bool a0_2] 181 (0, 0)) (by (with_reducible repeat (first | refine xq ?_ _ | refine xr ?_ | refine xo ?_ _)); exact BK830.out) hb); have n1_ := xm (below_step (by repeat (first | (with_reducible first | exact HB.out | apply xa | apply xn | apply xd | refine xt ?_ GE830.out) | exact HB.out)) hb); have n2_ := xm (hbox); have n3_ := xm ((by rw [hg]; exact (xz (by repeat (first | (with_reducible first | exact HB.out | apply xa | apply xn | apply xd | refine xt ?_ GE830.out) | exact HB.out))) : w.heap.size ≤ gb831)); have n4_ := xm ((by rw [hg]; exact (xz (by repeat (first | (with_reducible first | exact HB.out | apply xa | apply xn | apply xd | refine xt ?_ GE830.out) | exact HB.out))) : w.heap.size ≤ gb831)); have n5_ := xm ((by rw [hg]; exact Nat.ne_of_lt (blk_lt (g := gb830) (o := .cells #[.int .i64 a0_0, .int .i64 a0_1, .bool a0_2] 181 (0, 0)) (by (with_reducible repeat (first | refine xq ?_ _ | refine xr ?_ | refine xo ?_ _)); exact BK830.out)) : gb830 ≠ gb831)); have n6_ := xm ((by rw [hg]; exact Nat.ne_of_gt (blk_lt (g := gb830) (o := .cells #[.int .i64 a0_0, .int .i64 a0_1, .bool a0_2] 181 (0, 0)) (by (with_reducible repeat (first | refine xq ?_ _ | refine xr ?_ | refine xo ?_ _)); exact BK830.out)) : gb831 ≠ gb830)); clear BK830; clear HB; have BK830 := n0_; have HB := n1_; have BK831 := n2_; have GW831 := n3_; have GE831 := n4_; have NB830_831 := n5_; have NB831_830 := n6_; clear n0_ n1_ n2_ n3_ n4_ n5_ n6_; clear hb hbox hg) | ((with_reducible refine gate_dst (N := 3) rfl ?_); refine box_event ?hg (N := 3) ?hd (cs := #[.int .i64 0, .int .i64 0, .bool false]) (t := 138) ?hr ?_; (case hd => rfl); (case hg => rfl); (case hr => first | (go_simp; done) | (go_simp; rfl)); intro gb832 hg w4 hbox hb; have n0_ := xm (blk_below (g := gb830) (o := .cells #[.int .i64 a0_0, .int .i64 a0_1, .bool a0_2] 181 (0, 0)) (by (with_reducible repeat (first | refine xq ?_ _ | refine xr ?_ | refine xo ?_ _)); exact BK830.out) hb); have n1_ := xm (blk_below (g := gb831) (o := .cells #[.int .i64 0, .int .i64 0, .bool false] 138 (0, 0)) (by (with_reducible repeat (first | refine xq ?_ _ | refine xr ?_ | refine xo ?_ _)); exact BK831.out) hb); have n2_ := xm (below_step (by repeat (first | (with_reducible first | exact HB.out | apply xa | apply xn | apply xd | refine xt ?_ GE830.out | refine xt ?_ GE831.out) | exact HB.out)) hb); have n3_ := xm (hbox); have n4_ := xm ((by rw [hg]; exact (xz (by repeat (first | (with_reducible first | exact HB.out | apply xa | apply xn | apply xd | refine xt ?_ GE830.out | refine xt ?_ GE831.out) | exact HB.out))) : w.heap.size ≤ gb832)); have n5_ := xm ((by rw [hg]; exact (xz (by repeat (first | (with_reducible first | exact HB.out | apply xa | apply xn | apply xd | refine xt ?_ GE830.out | refine xt ?_ GE831.out) | exact HB.out))) : w.heap.size ≤ gb832)); have n6_ := xm ((by rw [hg]; exact Nat.ne_of_lt (blk_lt (g := gb830) (o := .cells #[.int .i64 a0_0, .int .i64 a0_1, .bool a0_2] 181 (0, 0)) (by (with_reducible repeat (first | refine xq ?_ _ | refine xr ?_ | refine xo ?_ _)); exact BK830.out)) : gb830 ≠ gb832)); have n7_ := xm ((by rw [hg]; exact Nat.ne_of_gt (blk_lt (g := gb830) (o := .cells #[.int .i64 a0_0, .int .i64 a0_1, .bool a0_2] 181 (0, 0)) (by (with_reducible repeat (first | refine xq ?_ _ | refine xr ?_ | refine xo ?_ _)); exact BK830.out)) : gb832 ≠ gb830)); have n8_ := xm ((by rw [hg]; exact Nat.ne_of_lt (blk_lt (g := gb831) (o := .cells #[.int .i64 0, .int .i64 0, .bool false] 138 (0, 0)) (by (with_reducible repeat (first | refine xq ?_ _ | refine xr ?_ | refine xo ?_ _)); exact BK831.out)) : gb831 ≠ gb832)); have n9_ := xm ((by rw [hg]; exact Nat.ne_of_gt (blk_lt (g := gb831) (o := .cells #[.int .i64 0, .int .i64 0, .bool false] 138 (0, 0)) (by (with_reducible repeat (first | refine xq ?_ _ | refine xr ?_ | refine xo ?_ _)); exact BK831.out)) : gb832 ≠ gb831)); clear BK830; clear BK831; clear HB; have BK830 := n0_; have BK831 := n1_; have HB := n2_; have BK832 := n3_; have GW832 := n4_; have GE832 := n5_; have NB830_832 := n6_; have NB832_830 := n7_; have NB831_832 := n8_; have NB832_831 := n9_; clear n0_ n1_ n2_ n3_ n4_ n5_ n6_ n7_ n8_ n9_; clear hb hbox hg; have hnb5 := NB830_831.out; have hnc5 := NB831_830.out; have hnb6 := NB830_832.out; have hnc6 := NB832_830.out; have hcz7_0 : w4.cell? ⟨gb830, 0, none⟩ = some (.int .i64 a0_0) := (xc BK830.out 0).trans rfl; have hcz7_1 : w4.cell? ⟨gb830, 1, none⟩ = some (.int .i64 a0_1) := (xc BK830.out 1).trans rfl; have hcz7_2 : w4.cell? ⟨gb830, 2, none⟩ = some (.bool a0_2) := (xc BK830.out 2).trans rfl; have hfz7_0 := xf BK830.out 0; have hfz7_1 := xf BK830.out 1; have hfz7_2 := xf BK830.out 2; have hnb8 := NB832_831.out; have hnc8 := NB831_832.out; have hcz9_0 : w4.cell? ⟨gb832, 0, none⟩ = some (.int .i64 0) := (xc BK832.out 0).trans rfl; have hcz9_1 : w4.cell? ⟨gb832, 1, none⟩ = some (.int .i64 0) := (xc BK832.out 1).trans rfl; have hcz9_2 : w4.cell? ⟨gb832, 2, none⟩ = some (.bool false) := (xc BK832.out 2).trans rfl; have hfz9_0 := xf BK832.out 0; have hfz9_1 := xf BK832.out 1; have hfz9_2 := xf BK832.out 2; have hcz10_0 : w4.cell? ⟨gb831, 0, none⟩ = some (.int .i64 0) := (xc BK831.out 0).trans rfl; have hcz10_1 : w4.cell? ⟨gb831, 1, none⟩ = some (.int .i64 0) := (xc BK831.out 1).trans rfl; have hcz10_2 : w4.cell? ⟨gb831, 2, none⟩ = some (.bool false) := (xc BK831.out 2).trans rfl; have hfz10_0 := xf BK831.out 0; have hfz10_1 := xf BK831.out 1; have hfz10_2 := xf BK831.out 2))
 refine bodyPost_ret (results_cell_row rfl _ _ gb831 138 #[.int .i64 a0_0, .int .i64 a0_1, .bool a0_2] (0, 0) _ rfl (by (with_reducible repeat (first | refine xq ?_ _ | refine xr ?_ | refine xo ?_ _)); refine blk_put (cs := #[.int .i64 a0_0, .int .i64 a0_1, .bool false]) ?_ 2 _ rfl; (with_reducible repeat (first | refine xq ?_ _ | refine xr ?_ | refine xo ?_ _)); refine blk_put (cs := #[.int .i64 a0_0, .int .i64 0, .bool false]) ?_ 1 _ rfl; (with_reducible repeat (first | refine xq ?_ _ | refine xr ?_ | refine xo ?_ _)); refine blk_put (cs := #[.int .i64 0, .int .i64 0, .bool false]) ?_ 0 _ rfl; (with_reducible repeat (first | refine xq ?_ _ | refine xr ?_ | refine xo ?_ _)); refine blk_far ?_ NB831_832.out _; (with_reducible repeat (first | refine xq ?_ _ | refine xr ?_ | refine xo ?_ _)); refine blk_far ?_ NB831_832.out _; (with_reducible repeat (first | refine xq ?_ _ | refine xr ?_ | refine xo ?_ _)); refine blk_far ?_ NB831_832.out _; (with_reducible repeat (first | refine xq ?_ _ | refine xr ?_ | refine xo ?_ _)); exact BK831.out) Try.underlying138 rfl (by kernel_rfl)) rfl ?_
 exact ⟨by first | rfl | (simp [errW_none, errW_some] <;> rfl) | (simp [*, errW_none, errW_some] <;> rfl), by repeat (first | (with_reducible first | exact HB.out | apply xa | apply xn | apply xd | refine xt ?_ GE830.out | refine xt ?_ GE831.out | refine xt ?_ GE832.out) | exact HB.out)⟩

/-! ### laws_toProcS: function 119 -/
def laws_toProcS.l0 : Nat → List (S181) → List (S138) → Int → Option ((List (S138)))
 | 0, _, _, _ => none
 | k + 1, x0, x3, x4 => if x4 < (x0.length : Int) then (if 0 ≤ x4 then ((laws_toProc.f ((rd_T181 x0 x4).f0) ((rd_T181 x0 x4).f1) ((rd_T181 x0 x4).f2)).bind fun bt837 => (if x4 < (x3.length : Int) then (laws_toProcS.l0 k x0 (x3.set (x4 : Int).toNat (⟨bt837.1, bt837.2.1, bt837.2.2⟩ : S138)) (wrap64 (x4 + 1))) else (none))) else (none)) else (some x3)
def laws_toProcS.f (k : Nat) (l0 : List (S181)) : Option ((List (S138))) := if 0 ≤ (l0.length : Int) then (if ((l0.length : Int) : Int).toNat ≤ 11728124029610 then (laws_toProcS.l0 k l0 (List.replicate ((l0.length : Int) : Int).toNat z138) 0) else (none)) else (none)
theorem laws_toProcS.mono_l : ∀ k, (∀ y0 y1 y2, LeO (laws_toProcS.l0 k y0 y1 y2) (laws_toProcS.l0 (k + 1) y0 y1 y2))
 | 0 => fun _ _ _ r h => by simp [laws_toProcS.l0] at h
 | k + 1 => by
  have ih0 := laws_toProcS.mono_l k
  ·intro y0 y1 y2
   unfold laws_toProcS.l0
   repeat' first
   | (with_reducible exact ih0 _ _ _)
   | (with_reducible exact LeO.refl _)
   | (with_reducible exact LeO.none _)
   | (with_reducible refine LeO.ite ?_ ?_)
   | (with_reducible refine LeO.bind ?_ (fun _ => ?_))
   | exact ih0 _ _ _
   | exact LeO.none _
   | refine LeO.ite ?_ ?_
   | refine LeO.bind ?_ (fun _ => ?_)
theorem laws_toProcS.mono : ∀ a0 k, LeO (laws_toProcS.f k a0) (laws_toProcS.f (k + 1) a0) := by
 intro a0 k
 have ih0 := laws_toProcS.mono_l k
 unfold laws_toProcS.f
 repeat' first
   | (with_reducible exact ih0 _ _ _)
   | (with_reducible exact LeO.refl _)
   | (with_reducible exact LeO.none _)
   | (with_reducible refine LeO.ite ?_ ?_)
   | (with_reducible refine LeO.bind ?_ (fun _ => ?_))
   | exact ih0 _ _ _
   | exact LeO.none _
   | refine LeO.ite ?_ ?_
   | refine LeO.bind ?_ (fun _ => ?_)
set_option maxHeartbeats 8000000 in
set_option maxRecDepth 100000 in
theorem laws_toProcS.calls (k : Nat) (A0 : Option Addr) (c0 : Nat) (l0 : List (S181)) (r : List (S138)) (w : World) (hr0 : Kd.C k181 w A0 l0.length l0) (hc0 : l0.length ≤ c0) (h : laws_toProcS.f k l0 = some r) :
  Calls Try.prog 119 #[.slice A0 l0.length c0] w fun e w' => ∃ v0_ : Value, e = .returned (v0_) ∧ Kd.R k138 138 w' w.heap.size (fun _ => True) v0_ r ∧ Below w.heap.size w w' := by
 have hu181 := Try.underlying181
 have hu138 := Try.underlying138
 have HR0 := xm hr0
 have HC0 := xm hc0
 clear hr0 hc0
 have HB := xm (Below.refl w.heap.size w)
 have H : (if 0 ≤ (l0.length : Int) then (if ((l0.length : Int) : Int).toNat ≤ 11728124029610 then (laws_toProcS.l0 k l0 (List.replicate ((l0.length : Int) : Int).toNat z138) 0) else (none)) else (none)) = some r := h
 clear h
 by_cases c2 : 0 ≤ (l0.length : Int)
 ·rw [if_pos c2] at H
  have c2b0 := eq_true c2
  have c2b1 : decide (0 ≤ (l0.length : Int)) = true := decide_eq_true c2
  clear c2
  by_cases c3 : ((l0.length : Int) : Int).toNat ≤ 11728124029610
  ·rw [if_pos c3] at H
   have c3b0 := eq_true c3
   have c3b1 : decide (((l0.length : Int) : Int).toNat ≤ 11728124029610) = true := decide_eq_true c3
   clear c3
   obtain ⟨y833, hy833⟩ : ∃ y_ : List (S138), y_ = (List.replicate ((l0.length : Int) : Int).toNat z138) := ⟨_, rfl⟩
   replace H : (laws_toProcS.l0 k l0 y833 0) = some r := by first | (rw [hy833]; with_reducible exact H) | (have H2_ := (Option.bind_some _ _).symm.trans H; rw [hy833]; with_reducible exact H2_) | (have H2_ := (Option.bind_some _ _).symm.trans H; with_reducible exact H2_) | with_reducible exact H | (rw [hy833]; exact H) | exact H
   have Ny833 := xm hy833
   clear hy833
   have H' := xm H
   clear H
   go_enter Try.func119, Try.ntmps119
   go_wp2_with (first | ((with_reducible refine gate_dst (N := 7) rfl ?_); refine Kd.R_make k138 _ 138 rfl (N := 7) rfl 82 _ _ rfl (l0.length : Int) rfl rfl Try.underlying82 (.agg #[(.int .i64 0), (.int .i64 0), (.bool false)]) 24 info138 rfl (by decide) (by omega) z138 (ok := fun _ => True) (okp := fun _ => True) (k138_mkM _ _ _ z138 ) (fun _ hk => hk) trivial (of_decide_eq_true (by first | (with_reducible assumption) | assumption)) (Nat.le_trans (Nat.mul_le_mul_right _ (of_decide_eq_true (by first | (with_reducible assumption) | assumption) : (l0.length : Int).toNat ≤ 11728124029610)) (by omega)) (Below.refl _ _) (Nat.le_refl _) ?_; intro v834 w4 ho5 hb hg_ hnew_; clear hg_ hnew_; (first | rw [← Ny833.out] at ho5 | (simp only [Int.reduceToNat] at ho5; rw [← Ny833.out] at ho5)); have n0_ := xm (Kd.R_lower ho5 (xz (by repeat (first | (with_reducible first | exact HB.out | apply xa | apply xn | apply xd) | exact HB.out)))); have n1_ := xm (below_step (by repeat (first | (with_reducible first | exact HB.out | apply xa | apply xn | apply xd) | exact HB.out)) hb); clear HB; have HO835 := n0_; have HB := n1_; clear n0_ n1_; clear hb ho5))
   go_loopg [4] k (fun kq v4 w' => ∃ (x3_1 : List (S138)) (x4_1 : Int), v4 = .int .i64 x4_1 ∧ Aside0 (laws_toProcS.l0 kq l0 x3_1 x4_1 = some r) ∧ Aside0 (kq ≤ k) ∧ Aside0 (Kd.R k138 138 w' w.heap.size (fun _ => True) v834 x3_1) ∧ Aside0 (Below w.heap.size w w'))
   case atStart => exact ⟨(y833), (0), (by first | rfl | (simp; done) | (simp [*]; done)), H', ⟨Nat.le_refl _⟩, ⟨by (with_reducible repeat (first | apply Kd.R_alloc | apply Kd.R_drewN | apply Kd.R_drew)); exact HO835.out⟩, ⟨by repeat (first | (with_reducible first | exact HB.out | apply xa | apply xn | apply xd) | exact HB.out)⟩⟩
   case round =>
    clear H'
    try clear c1
    try clear c2
    try clear c2b0
    try clear c2b1
    try clear p2
    try clear c3
    try clear c3b0
    try clear c3b1
    obtain ⟨x3_1, x4_1, rfl, HA, HK1, HO_3, HB⟩ := hrel
    cases gk with
    | zero => exact absurd HA.out (by simp [laws_toProcS.l0])
    | succ k1 =>
     have H := HA.out
     clear HA
     simp only [laws_toProcS.l0] at H
     by_cases c6 : x4_1 < (l0.length : Int)
     ·rw [if_pos c6] at H
      have c6b0 : decide (x4_1 < (l0.length : Int)) = true := decide_eq_true c6
      clear c6
      by_cases c7 : 0 ≤ x4_1
      ·rw [if_pos c7] at H
       have c7b0 : decide (0 ≤ x4_1) = true := decide_eq_true c7
       clear c7
       replace H := Option.bind_eq_some_iff.mp H
       obtain ⟨⟨t837, t838, t839⟩, A80, H⟩ := H
       replace H : (if x4_1 < (x3_1.length : Int) then (laws_toProcS.l0 k1 l0 (x3_1.set (x4_1 : Int).toNat (⟨t837, t838, t839⟩ : S138)) (wrap64 (x4_1 + 1))) else (none)) = some r := H
       have A8 := xm A80
       clear A80
       by_cases c9 : x4_1 < (x3_1.length : Int)
       ·rw [if_pos c9] at H
        have c9b0 : decide (x4_1 < (x3_1.length : Int)) = true := decide_eq_true c9
        clear c9
        obtain ⟨y840, hy840⟩ : ∃ y_ : List (S138), y_ = (x3_1.set (x4_1 : Int).toNat (⟨t837, t838, t839⟩ : S138)) := ⟨_, rfl⟩
        replace H : (laws_toProcS.l0 k1 l0 y840 (wrap64 (x4_1 + 1))) = some r := by first | (rw [hy840]; with_reducible exact H) | (have H2_ := (Option.bind_some _ _).symm.trans H; rw [hy840]; with_reducible exact H2_) | (have H2_ := (Option.bind_some _ _).symm.trans H; with_reducible exact H2_) | with_reducible exact H | (rw [hy840]; exact H) | exact H
        have Ny840 := xm hy840
        clear hy840
        have H' := xm H
        clear H
        have p836 : 0 ≤ (x4_1 : Int) := of_decide_eq_true (by first | (with_reducible assumption) | assumption)
        have q836 : x4_1 < (l0.length : Int) := of_decide_eq_true (by first | (with_reducible assumption) | assumption)
        obtain ⟨ad836, e836, hx836_0, hx836_1, hx836_2⟩ := at_T181 HR0.out x4_1 p836 q836
        cases e836
        replace hx836_0 := (HB.out.cell (World.block_lt_of_cell? w _ hx836_0)).trans hx836_0
        replace hx836_1 := (HB.out.cell (World.block_lt_of_cell? w _ hx836_1)).trans hx836_1
        replace hx836_2 := (HB.out.cell (World.block_lt_of_cell? w _ hx836_2)).trans hx836_2
        replace p836 := eq_true p836
        replace q836 := eq_true q836
        go_wp2_with (first | ((with_reducible refine gate_callee (f := 155) rfl ?_); refine goesL_ (some 20) rfl rfl Try.func155 (by kernel_rfl) rfl #[.agg #[.int .i64 ((rd_T181 l0 x4_1).f0), .int .i64 ((rd_T181 l0 x4_1).f1), .bool ((rd_T181 l0 x4_1).f2)]] rfl (by (try simp only [List.map_toArray, List.map_cons, List.map_nil]); first | done | rfl | (simp only [List.length_drop, List.length_take]; rfl)) ?_; (with_reducible refine (laws_toProc.calls ((rd_T181 l0 x4_1).f0) ((rd_T181 l0 x4_1).f1) ((rd_T181 l0 x4_1).f2) t837 t838 t839 _ A8.out).mono ?_); rintro e w11 ⟨rfl, hb⟩; refine ⟨_, rfl, ?_⟩; have n0_ := xm (Kd.R_below (by (with_reducible repeat (first | apply Kd.R_alloc | apply Kd.R_drewN | apply Kd.R_drew)); exact HO_3.out) hb); have n1_ := xm (below_step (by repeat (first | (with_reducible first | exact HB.out | apply xa | apply xn | apply xd) | exact HB.out)) hb); clear HO_3; clear HB; have HO_3 := n0_; have HB := n1_; clear n0_ n1_; (try clear hb); (try clear hb2); (try clear hk); (try clear hi); have p10 : 0 ≤ (x4_1 : Int) := of_decide_eq_true (by first | (with_reducible assumption) | assumption); have q10 : (x4_1 : Int) < ((x3_1.length : Int) : Int) := of_decide_eq_true (by first | (with_reducible assumption) | assumption); obtain ⟨go10, co10, eo10, gb10, gl10, cl10, HG10⟩ := Kd.R_form HO_3.out (by omega); (first | cases eo10 | (injection eo10 with ea_ en_ ec_; (first | subst ea_ | (injection ea_ with ea_; subst ea_)); subst ec_; clear en_)); have GB10 := xm gb10; have GG10 := xm HG10; clear gb10 gl10 HG10; obtain ⟨ce10, hcl10, hM10, hcc10, hfr10⟩ := Kd.R_elem HO_3.out z138 (x4_1 : Int) p10 q10; obtain rfl := k138_openM hM10; have hx10_0 : w11.cell? ⟨go10, (x4_1 : Int).toNat * 3, none⟩ = some (.int .i64 ((rd_T138 x3_1 x4_1).f0)) := hcc10 0 _ rfl; have hx10_1 : w11.cell? ⟨go10, (x4_1 : Int).toNat * 3 + 1, none⟩ = some (.int .i64 ((rd_T138 x3_1 x4_1).f1)) := hcc10 1 _ rfl; have hx10_2 : w11.cell? ⟨go10, (x4_1 : Int).toNat * 3 + 2, none⟩ = some (.bool ((rd_T138 x3_1 x4_1).f2)) := hcc10 2 _ rfl; have hf10_0 : w11.frozen? ⟨go10, (x4_1 : Int).toNat * 3, none⟩ = false := hfr10 0; have hf10_1 : w11.frozen? ⟨go10, (x4_1 : Int).toNat * 3 + 1, none⟩ = false := hfr10 1; have hf10_2 : w11.frozen? ⟨go10, (x4_1 : Int).toNat * 3 + 2, none⟩ = false := hfr10 2; (try clear hM10); clear hcl10 hcc10 hfr10; replace p10 := eq_true p10; replace q10 := eq_true q10; have HX12 := xm (show Kd.R k138 138 w11 w.heap.size (fun _ => True) (.slice (some ⟨go10, 0, none⟩) x3_1.length co10) x3_1 from (by (with_reducible repeat (first | apply Kd.R_alloc | apply Kd.R_drewN | apply Kd.R_drew)); exact HO_3.out)); obtain ⟨ce12, hcl12, hM12, hcc12, hfr12⟩ := Kd.R_elem HX12.out z138 (x4_1 : Int) (of_decide_eq_true (by first | (with_reducible assumption) | assumption)) (by have h_ : (x4_1 : Int) < ((x3_1.length : Int) : Int) := of_decide_eq_true (by first | (with_reducible assumption) | assumption); first | exact h_ | (have e_ := (Kd.R_reads' HO_3.out).1; omega) | simpa using h_); obtain rfl := k138_openM hM12; have HP12 := Kd.R_seg HX12.out (x4_1 : Int) (of_decide_eq_true (by first | (with_reducible assumption) | assumption)) (by have h_ : (x4_1 : Int) < ((x3_1.length : Int) : Int) := of_decide_eq_true (by first | (with_reducible assumption) | assumption); first | exact h_ | (have e_ := (Kd.R_reads' HO_3.out).1; omega) | simpa using h_) (seg := [.int .i64 t837, .int .i64 t838, .bool t839]) (j := 0) hcl12 hcc12 (show 3 ≤ 3 from by decide) (x' := (⟨t837, t838, t839⟩ : S138)) (k138_mkM _ _ _ (⟨t837, t838, t839⟩ : S138) ) (fun _ hk => hk); have hx12_0 := hcc12 0 _ rfl; (try simp only [show (k138).sz = 3 from rfl, Nat.mul_one, Nat.add_zero] at hx12_0); have hf12_0 := hfr12 0; (try simp only [show (k138).sz = 3 from rfl, Nat.mul_one, Nat.add_zero] at hf12_0); have hx12_1 := hcc12 1 _ rfl; (try simp only [show (k138).sz = 3 from rfl, Nat.mul_one, Nat.add_zero] at hx12_1); have hf12_1 := hfr12 1; (try simp only [show (k138).sz = 3 from rfl, Nat.mul_one, Nat.add_zero] at hf12_1); have hx12_2 := hcc12 2 _ rfl; (try simp only [show (k138).sz = 3 from rfl, Nat.mul_one, Nat.add_zero] at hx12_2); have hf12_2 := hfr12 2; (try simp only [show (k138).sz = 3 from rfl, Nat.mul_one, Nat.add_zero] at hf12_2); (try clear hM12); clear hcl12 hcc12 hfr12) | ((with_reducible refine gate_store (t := 138) (p := 21) rfl ?_); refine store_event (t := 138) (p := 21) (v := ?vo_w13) (w1 := (((w11.setCell ⟨go10, (x4_1 : Int).toNat * 3, none⟩ (.int .i64 t837)).setCell ⟨go10, (x4_1 : Int).toNat * 3 + 1, none⟩ (.int .i64 t838)).setCell ⟨go10, (x4_1 : Int).toNat * 3 + 2, none⟩ (.bool t839))) ?hg ?ho ?hn ?hr ?_; (case ho => rfl); (case hg => rfl); (case hn => rfl); (case hr => first | (go_simp; done) | (go_simp; rfl)); intro w13 hw; have hg : w11.grownBy w13 (some go10) := (by rw [hw]; exact HP12.2); have hp_ : Kd.R k138 138 w13 w.heap.size (fun _ => True) (.slice (some ⟨go10, 0, none⟩) x3_1.length co10) y840 := (by rw [hw, Ny840.out]; exact HP12.1); clear HP12; have n0_ := xm (hp_); have n1_ := xm ((by rw [hw]; exact xt (xt (xt (HB.out) GB10.out) GB10.out) GB10.out : Below w.heap.size w w13)); clear HO_3; clear HB; have HO_3 := n0_; have HB := n1_; clear n0_ n1_; clear hg hw hp_))
        go_roundg k1
        case measure => have := HK1.out; omega
        case rel => exact ⟨(y840), (wrap64 (x4_1 + 1)), (by first | rfl | (simp; done) | (simp [*]; done)), H', ⟨by have := HK1.out; omega⟩, ⟨by (with_reducible repeat (first | apply Kd.R_alloc | apply Kd.R_drewN | apply Kd.R_drew)); exact HO_3.out⟩, ⟨by repeat (first | (with_reducible first | exact HB.out | apply xa | apply xn | apply xd) | exact HB.out)⟩⟩
       ·rw [if_neg c9] at H
        exact absurd H (by simp)
      ·rw [if_neg c7] at H
       exact absurd H (by simp)
     ·rw [if_neg c6] at H
      have c6b0 : decide (x4_1 < (l0.length : Int)) = false := decide_eq_false c6
      clear c6
      obtain rfl := Option.some.inj H
      go_wp2
      go_ret
      exact ⟨_, by first | rfl | (simp [errW_none, errW_some] <;> rfl) | (simp [*, errW_none, errW_some] <;> rfl), by (with_reducible repeat (first | apply Kd.R_alloc | apply Kd.R_drewN | apply Kd.R_drew)); exact HO_3.out, by repeat (first | (with_reducible first | exact HB.out | apply xa | apply xn | apply xd) | exact HB.out)⟩
  ·rw [if_neg c3] at H
   exact absurd H (by simp)
 ·rw [if_neg c2] at H
  exact absurd H (by simp)

/-! ### laws_toWire: function 156 -/
def laws_toWire.f (k : Nat) (l0_0 : List Int) (l0_1 : List Int) (a0_2 : Bool) : Option (List Int × List Int × Bool) := (laws_toIntS.f k l0_0).bind fun t844 => ((laws_toIntS.f k l0_1).bind fun t847 => (some (t844, t847, a0_2)))
theorem laws_toWire.mono : ∀ a0 a1 a2 k, LeO (laws_toWire.f k a0 a1 a2) (laws_toWire.f (k + 1) a0 a1 a2) := by
 intro a0 a1 a2 k
 unfold laws_toWire.f
 repeat' first
   | (with_reducible exact laws_toIntS.mono _ _)
   | (with_reducible exact LeO.refl _)
   | (with_reducible exact LeO.none _)
   | (with_reducible refine LeO.ite ?_ ?_)
   | (with_reducible refine LeO.bind ?_ (fun _ => ?_))
   | exact laws_toIntS.mono _ _
   | exact LeO.none _
   | refine LeO.ite ?_ ?_
   | refine LeO.bind ?_ (fun _ => ?_)
set_option maxHeartbeats 8000000 in
set_option maxRecDepth 100000 in
theorem laws_toWire.calls (k : Nat) (A0_0 : Option Addr) (c0_0 : Nat) (l0_0 : List Int) (A0_1 : Option Addr) (c0_1 : Nat) (l0_1 : List Int) (a0_2 : Bool) (r1 : List Int) (r2 : List Int) (r3 : Bool) (w : World) (hr0_0 : Kd.C (Kd.int .i64) w A0_0 l0_0.length l0_0) (hc0_0 : l0_0.length ≤ c0_0) (hr0_1 : Kd.C (Kd.int .i64) w A0_1 l0_1.length l0_1) (hc0_1 : l0_1.length ≤ c0_1) (h : laws_toWire.f k l0_0 l0_1 a0_2 = some (r1, r2, r3)) :
  Calls Try.prog 156 #[.agg #[.slice A0_0 l0_0.length c0_0, .slice A0_1 l0_1.length c0_1, .bool a0_2]] w fun e w' => ∃ v0_ v1_ : Value, e = .returned (.agg #[v0_, v1_, .bool r3]) ∧ Kd.R (Kd.int .i64) 3 w' w.heap.size (fun k_ => some k_ ≠ (v1_ : Value).ownBlock) v0_ r1 ∧ Kd.R (Kd.int .i64) 3 w' w.heap.size (fun k_ => some k_ ≠ (v0_ : Value).ownBlock) v1_ r2 ∧ Below w.heap.size w w' := by
 have hu179 := Try.underlying179
 have hu140 := Try.underlying140
 have HR0_0 := xm hr0_0
 have HC0_0 := xm hc0_0
 clear hr0_0 hc0_0
 have HR0_1 := xm hr0_1
 have HC0_1 := xm hc0_1
 clear hr0_1 hc0_1
 have HB := xm (Below.refl w.heap.size w)
 have H : ((laws_toIntS.f k l0_0).bind fun t844 => ((laws_toIntS.f k l0_1).bind fun t847 => (some (t844, t847, a0_2)))) = some (r1, r2, r3) := h
 clear h
 replace H := Option.bind_eq_some_iff.mp H
 obtain ⟨t844, A20, H⟩ := H
 replace H : ((laws_toIntS.f k l0_1).bind fun t847 => (some (t844, t847, a0_2))) = some (r1, r2, r3) := H
 have A2 := xm A20
 clear A20
 replace H := Option.bind_eq_some_iff.mp H
 obtain ⟨t847, A30, H⟩ := H
 replace H : (some (t844, t847, a0_2)) = some (r1, r2, r3) := H
 have A3 := xm A30
 clear A30
 simp only [Option.some.injEq, Prod.mk.injEq] at H
 obtain ⟨rfl, rfl, rfl⟩ := H
 go_enter Try.func156, Try.ntmps156
 go_wp2_with (first | ((with_reducible refine gate_dst (N := 1) rfl ?_); refine box_event ?hg (N := 1) ?hd (cs := #[.slice A0_0 l0_0.length c0_0, .slice A0_1 l0_1.length c0_1, .bool a0_2]) (t := 179) ?hr ?_; (case hd => rfl); (case hg => rfl); (case hr => first | (go_simp; done) | (go_simp; rfl)); intro gb841 hg w4 hbox hb; have n0_ := xm (below_step (by repeat (first | (with_reducible first | exact HB.out | apply xa | apply xn | apply xd) | exact HB.out)) hb); have n1_ := xm (hbox); have n2_ := xm ((by rw [hg]; exact (xz (by repeat (first | (with_reducible first | exact HB.out | apply xa | apply xn | apply xd) | exact HB.out))) : w.heap.size ≤ gb841)); have n3_ := xm ((by rw [hg]; exact (xz (by repeat (first | (with_reducible first | exact HB.out | apply xa | apply xn | apply xd) | exact HB.out))) : w.heap.size ≤ gb841)); clear HB; have HB := n0_; have BK841 := n1_; have GW841 := n2_; have GE841 := n3_; clear n0_ n1_ n2_ n3_; clear hb hbox hg) | ((with_reducible refine gate_dst (N := 2) rfl ?_); refine box_event ?hg (N := 2) ?hd (cs := #[.slice none 0 0, .slice none 0 0, .bool false]) (t := 140) ?hr ?_; (case hd => rfl); (case hg => rfl); (case hr => first | (go_simp; done) | (go_simp; rfl)); intro gb842 hg w5 hbox hb; have n0_ := xm (blk_below (g := gb841) (o := .cells #[.slice A0_0 l0_0.length c0_0, .slice A0_1 l0_1.length c0_1, .bool a0_2] 179 (0, 0)) (by (with_reducible repeat (first | refine xq ?_ _ | refine xr ?_ | refine xo ?_ _)); exact BK841.out) hb); have n1_ := xm (below_step (by repeat (first | (with_reducible first | exact HB.out | apply xa | apply xn | apply xd | refine xt ?_ GE841.out) | exact HB.out)) hb); have n2_ := xm (hbox); have n3_ := xm ((by rw [hg]; exact (xz (by repeat (first | (with_reducible first | exact HB.out | apply xa | apply xn | apply xd | refine xt ?_ GE841.out) | exact HB.out))) : w.heap.size ≤ gb842)); have n4_ := xm ((by rw [hg]; exact (xz (by repeat (first | (with_reducible first | exact HB.out | apply xa | apply xn | apply xd | refine xt ?_ GE841.out) | exact HB.out))) : w.heap.size ≤ gb842)); have n5_ := xm ((by rw [hg]; exact Nat.ne_of_lt (blk_lt (g := gb841) (o := .cells #[.slice A0_0 l0_0.length c0_0, .slice A0_1 l0_1.length c0_1, .bool a0_2] 179 (0, 0)) (by (with_reducible repeat (first | refine xq ?_ _ | refine xr ?_ | refine xo ?_ _)); exact BK841.out)) : gb841 ≠ gb842)); have n6_ := xm ((by rw [hg]; exact Nat.ne_of_gt (blk_lt (g := gb841) (o := .cells #[.slice A0_0 l0_0.length c0_0, .slice A0_1 l0_1.length c0_1, .bool a0_2] 179 (0, 0)) (by (with_reducible repeat (first | refine xq ?_ _ | refine xr ?_ | refine xo ?_ _)); exact BK841.out)) : gb842 ≠ gb841)); clear BK841; clear HB; have BK841 := n0_; have HB := n1_; have BK842 := n2_; have GW842 := n3_; have GE842 := n4_; have NB841_842 := n5_; have NB842_841 := n6_; clear n0_ n1_ n2_ n3_ n4_ n5_ n6_; clear hb hbox hg) | ((with_reducible refine gate_dst (N := 3) rfl ?_); refine box_event ?hg (N := 3) ?hd (cs := #[.slice none 0 0, .slice none 0 0, .bool false]) (t := 140) ?hr ?_; (case hd => rfl); (case hg => rfl); (case hr => first | (go_simp; done) | (go_simp; rfl)); intro gb843 hg w6 hbox hb; have n0_ := xm (blk_below (g := gb841) (o := .cells #[.slice A0_0 l0_0.length c0_0, .slice A0_1 l0_1.length c0_1, .bool a0_2] 179 (0, 0)) (by (with_reducible repeat (first | refine xq ?_ _ | refine xr ?_ | refine xo ?_ _)); exact BK841.out) hb); have n1_ := xm (blk_below (g := gb842) (o := .cells #[.slice none 0 0, .slice none 0 0, .bool false] 140 (0, 0)) (by (with_reducible repeat (first | refine xq ?_ _ | refine xr ?_ | refine xo ?_ _)); exact BK842.out) hb); have n2_ := xm (below_step (by repeat (first | (with_reducible first | exact HB.out | apply xa | apply xn | apply xd | refine xt ?_ GE841.out | refine xt ?_ GE842.out) | exact HB.out)) hb); have n3_ := xm (hbox); have n4_ := xm ((by rw [hg]; exact (xz (by repeat (first | (with_reducible first | exact HB.out | apply xa | apply xn | apply xd | refine xt ?_ GE841.out | refine xt ?_ GE842.out) | exact HB.out))) : w.heap.size ≤ gb843)); have n5_ := xm ((by rw [hg]; exact (xz (by repeat (first | (with_reducible first | exact HB.out | apply xa | apply xn | apply xd | refine xt ?_ GE841.out | refine xt ?_ GE842.out) | exact HB.out))) : w.heap.size ≤ gb843)); have n6_ := xm ((by rw [hg]; exact Nat.ne_of_lt (blk_lt (g := gb841) (o := .cells #[.slice A0_0 l0_0.length c0_0, .slice A0_1 l0_1.length c0_1, .bool a0_2] 179 (0, 0)) (by (with_reducible repeat (first | refine xq ?_ _ | refine xr ?_ | refine xo ?_ _)); exact BK841.out)) : gb841 ≠ gb843)); have n7_ := xm ((by rw [hg]; exact Nat.ne_of_gt (blk_lt (g := gb841) (o := .cells #[.slice A0_0 l0_0.length c0_0, .slice A0_1 l0_1.length c0_1, .bool a0_2] 179 (0, 0)) (by (with_reducible repeat (first | refine xq ?_ _ | refine xr ?_ | refine xo ?_ _)); exact BK841.out)) : gb843 ≠ gb841)); have n8_ := xm ((by rw [hg]; exact Nat.ne_of_lt (blk_lt (g := gb842) (o := .cells #[.slice none 0 0, .slice none 0 0, .bool false] 140 (0, 0)) (by (with_reducible repeat (first | refine xq ?_ _ | refine xr ?_ | refine xo ?_ _)); exact BK842.out)) : gb842 ≠ gb843)); have n9_ := xm ((by rw [hg]; exact Nat.ne_of_gt (blk_lt (g := gb842) (o := .cells #[.slice none 0 0, .slice none 0 0, .bool false] 140 (0, 0)) (by (with_reducible repeat (first | refine xq ?_ _ | refine xr ?_ | refine xo ?_ _)); exact BK842.out)) : gb843 ≠ gb842)); clear BK841; clear BK842; clear HB; have BK841 := n0_; have BK842 := n1_; have HB := n2_; have BK843 := n3_; have GW843 := n4_; have GE843 := n5_; have NB841_843 := n6_; have NB843_841 := n7_; have NB842_843 := n8_; have NB843_842 := n9_; clear n0_ n1_ n2_ n3_ n4_ n5_ n6_ n7_ n8_ n9_; clear hb hbox hg; have hnb7 := NB841_842.out; have hnc7 := NB842_841.out; have hnb8 := NB841_843.out; have hnc8 := NB843_841.out; have hcz9_0 : w6.cell? ⟨gb841, 0, none⟩ = some (.slice A0_0 l0_0.length c0_0) := (xc BK841.out 0).trans rfl; have hcz9_1 : w6.cell? ⟨gb841, 1, none⟩ = some (.slice A0_1 l0_1.length c0_1) := (xc BK841.out 1).trans rfl; have hcz9_2 : w6.cell? ⟨gb841, 2, none⟩ = some (.bool a0_2) := (xc BK841.out 2).trans rfl; have hfz9_0 := xf BK841.out 0; have hfz9_1 := xf BK841.out 1; have hfz9_2 := xf BK841.out 2) | ((with_reducible refine gate_callee (f := 26) rfl ?_); refine goesL_ (some 6) rfl rfl Try.func26 (by kernel_rfl) rfl #[.slice A0_0 l0_0.length c0_0] rfl (by (try simp only [List.map_toArray, List.map_cons, List.map_nil]); first | done | rfl | (simp only [List.length_drop, List.length_take]; rfl)) ?_; (with_reducible refine (laws_toIntS.calls k _ _ l0_0 t844 _ ?side1 ?side2 A2.out).mono ?_); (case side1 => repeat (first | exact (Kd.C_below HR0_0.out HB.out) | (with_reducible refine Kd.C_alloc ?_ _) | (with_reducible refine Kd.C_drewN ?_ _) | (with_reducible refine Kd.C_drew ?_))); (case side2 => exact HC0_0.out); rintro e w10 ⟨v845, rfl, ho0, hb⟩; refine ⟨_, rfl, ?_⟩; have n0_ := xm (Kd.R_lower ho0 (xz (by repeat (first | (with_reducible first | exact HB.out | apply xa | apply xn | apply xd | refine xt ?_ GE841.out | refine xt ?_ GE842.out | refine xt ?_ GE843.out) | exact HB.out)))); have n1_ := xm (blk_below (g := gb841) (o := .cells #[.slice A0_0 l0_0.length c0_0, .slice A0_1 l0_1.length c0_1, .bool a0_2] 179 (0, 0)) (by (with_reducible repeat (first | refine xq ?_ _ | refine xr ?_ | refine xo ?_ _)); exact BK841.out) hb); have n2_ := xm (blk_below (g := gb842) (o := .cells #[.slice none 0 0, .slice none 0 0, .bool false] 140 (0, 0)) (by (with_reducible repeat (first | refine xq ?_ _ | refine xr ?_ | refine xo ?_ _)); exact BK842.out) hb); have n3_ := xm (blk_below (g := gb843) (o := .cells #[.slice none 0 0, .slice none 0 0, .bool false] 140 (0, 0)) (by (with_reducible repeat (first | refine xq ?_ _ | refine xr ?_ | refine xo ?_ _)); exact BK843.out) hb); have n4_ := xm (below_step (by repeat (first | (with_reducible first | exact HB.out | apply xa | apply xn | apply xd | refine xt ?_ GE841.out | refine xt ?_ GE842.out | refine xt ?_ GE843.out) | exact HB.out)) hb); clear BK841; clear BK842; clear BK843; clear HB; have HO846 := n0_; have BK841 := n1_; have BK842 := n2_; have BK843 := n3_; have HB := n4_; clear n0_ n1_ n2_ n3_ n4_; (try clear hb); (try clear hb2); (try clear hk); (try clear hi); (try clear ho0); obtain ⟨Ao11, co11, eo11⟩ := Kd.R_slice HO846.out; subst eo11; have hnb12 := NB843_842.out; have hnc12 := NB842_843.out; have hcz13_0 : w10.cell? ⟨gb843, 0, none⟩ = some (.slice none 0 0) := (xc BK843.out 0).trans rfl; have hcz13_1 : w10.cell? ⟨gb843, 1, none⟩ = some (.slice none 0 0) := (xc BK843.out 1).trans rfl; have hcz13_2 : w10.cell? ⟨gb843, 2, none⟩ = some (.bool false) := (xc BK843.out 2).trans rfl; have hfz13_0 := xf BK843.out 0; have hfz13_1 := xf BK843.out 1; have hfz13_2 := xf BK843.out 2; have hcz14_0 : w10.cell? ⟨gb841, 0, none⟩ = some (.slice A0_0 l0_0.length c0_0) := (xc BK841.out 0).trans rfl; have hcz14_1 : w10.cell? ⟨gb841, 1, none⟩ = some (.slice A0_1 l0_1.length c0_1) := (xc BK841.out 1).trans rfl; have hcz14_2 : w10.cell? ⟨gb841, 2, none⟩ = some (.bool a0_2) := (xc BK841.out 2).trans rfl; have hfz14_0 := xf BK841.out 0; have hfz14_1 := xf BK841.out 1; have hfz14_2 := xf BK841.out 2) | ((with_reducible refine gate_callee (f := 26) rfl ?_); refine goesL_ (some 10) rfl rfl Try.func26 (by kernel_rfl) rfl #[.slice A0_1 l0_1.length c0_1] rfl (by (try simp only [List.map_toArray, List.map_cons, List.map_nil]); first | done | rfl | (simp only [List.length_drop, List.length_take]; rfl)) ?_; (with_reducible refine (laws_toIntS.calls k _ _ l0_1 t847 _ ?side1 ?side2 A3.out).mono ?_); (case side1 => exact Kd.C_below HR0_1.out (by repeat (first | (with_reducible first | exact HB.out | apply xa | apply xn | apply xd | refine xt ?_ GE841.out | refine xt ?_ GE842.out | refine xt ?_ GE843.out) | exact HB.out))); (case side2 => exact HC0_1.out); rintro e w15 ⟨v848, rfl, ho0, hb⟩; refine ⟨_, rfl, ?_⟩; have n0_ := xm (Kd.R_elder' (by (with_reducible repeat (first | apply Kd.R_alloc | apply Kd.R_drewN | apply Kd.R_drew)); exact (Kd.R_mono (Kd.R_far (p := ⟨gb843, 0, none⟩) (Kd.R_types HO846.out BK843.out (by decide)) (fun _ hk => hk.2) (.slice Ao11 t844.length co11)) (fun _ h_ => h_.1))) (Kd.R_base ho0) hb); have n1_ := xm (Kd.R_lower (Kd.R_new' ho0 (Kd.R_lt (by (with_reducible repeat (first | apply Kd.R_alloc | apply Kd.R_drewN | apply Kd.R_drew)); exact (Kd.R_mono (Kd.R_far (p := ⟨gb843, 0, none⟩) (Kd.R_types HO846.out BK843.out (by decide)) (fun _ hk => hk.2) (.slice Ao11 t844.length co11)) (fun _ h_ => h_.1))))) (xz (by repeat (first | (with_reducible first | exact HB.out | apply xa | apply xn | apply xd | refine xt ?_ GE841.out | refine xt ?_ GE842.out | refine xt ?_ GE843.out) | exact HB.out)))); have n2_ := xm (blk_below (g := gb841) (o := .cells #[.slice A0_0 l0_0.length c0_0, .slice A0_1 l0_1.length c0_1, .bool a0_2] 179 (0, 0)) (by (with_reducible repeat (first | refine xq ?_ _ | refine xr ?_ | refine xo ?_ _)); refine blk_far ?_ NB841_843.out _; (with_reducible repeat (first | refine xq ?_ _ | refine xr ?_ | refine xo ?_ _)); exact BK841.out) hb); have n3_ := xm (blk_below (g := gb842) (o := .cells #[.slice none 0 0, .slice none 0 0, .bool false] 140 (0, 0)) (by (with_reducible repeat (first | refine xq ?_ _ | refine xr ?_ | refine xo ?_ _)); refine blk_far ?_ NB842_843.out _; (with_reducible repeat (first | refine xq ?_ _ | refine xr ?_ | refine xo ?_ _)); exact BK842.out) hb); have n4_ := xm (blk_below (g := gb843) (o := .cells #[.slice Ao11 t844.length co11, .slice none 0 0, .bool false] 140 (0, 0)) (by (with_reducible repeat (first | refine xq ?_ _ | refine xr ?_ | refine xo ?_ _)); refine blk_put (cs := #[.slice none 0 0, .slice none 0 0, .bool false]) ?_ 0 _ rfl; (with_reducible repeat (first | refine xq ?_ _ | refine xr ?_ | refine xo ?_ _)); exact BK843.out) hb); have n5_ := xm (below_step (by repeat (first | (with_reducible first | exact HB.out | apply xa | apply xn | apply xd | refine xt ?_ GE841.out | refine xt ?_ GE842.out | refine xt ?_ GE843.out) | exact HB.out)) hb); clear HO846; clear BK841; clear BK842; clear BK843; clear HB; have HO846 := n0_; have HO849 := n1_; have BK841 := n2_; have BK842 := n3_; have BK843 := n4_; have HB := n5_; clear n0_ n1_ n2_ n3_ n4_ n5_; (try clear hb); (try clear hb2); (try clear hk); (try clear hi); (try clear ho0); obtain ⟨Ao16, co16, eo16⟩ := Kd.R_slice HO849.out; subst eo16; have hcz17_0 : w15.cell? ⟨gb843, 0, none⟩ = some (.slice Ao11 t844.length co11) := (xc BK843.out 0).trans rfl; have hcz17_1 : w15.cell? ⟨gb843, 1, none⟩ = some (.slice none 0 0) := (xc BK843.out 1).trans rfl; have hcz17_2 : w15.cell? ⟨gb843, 2, none⟩ = some (.bool false) := (xc BK843.out 2).trans rfl; have hfz17_0 := xf BK843.out 0; have hfz17_1 := xf BK843.out 1; have hfz17_2 := xf BK843.out 2; have hcz18_0 : w15.cell? ⟨gb841, 0, none⟩ = some (.slice A0_0 l0_0.length c0_0) := (xc BK841.out 0).trans rfl; have hcz18_1 : w15.cell? ⟨gb841, 1, none⟩ = some (.slice A0_1 l0_1.length c0_1) := (xc BK841.out 1).trans rfl; have hcz18_2 : w15.cell? ⟨gb841, 2, none⟩ = some (.bool a0_2) := (xc BK841.out 2).trans rfl; have hfz18_0 := xf BK841.out 0; have hfz18_1 := xf BK841.out 1; have hfz18_2 := xf BK841.out 2; have hcz19_0 : w15.cell? ⟨gb842, 0, none⟩ = some (.slice none 0 0) := (xc BK842.out 0).trans rfl; have hcz19_1 : w15.cell? ⟨gb842, 1, none⟩ = some (.slice none 0 0) := (xc BK842.out 1).trans rfl; have hcz19_2 : w15.cell? ⟨gb842, 2, none⟩ = some (.bool false) := (xc BK842.out 2).trans rfl; have hfz19_0 := xf BK842.out 0; have hfz19_1 := xf BK842.out 1; have hfz19_2 := xf BK842.out 2))
 refine bodyPost_ret (results_cell_row rfl _ _ gb842 140 #[.slice Ao11 t844.length co11, .slice Ao16 t847.length co16, .bool a0_2] (0, 0) _ rfl (by (with_reducible repeat (first | refine xq ?_ _ | refine xr ?_ | refine xo ?_ _)); refine blk_put (cs := #[.slice Ao11 t844.length co11, .slice Ao16 t847.length co16, .bool false]) ?_ 2 _ rfl; (with_reducible repeat (first | refine xq ?_ _ | refine xr ?_ | refine xo ?_ _)); refine blk_put (cs := #[.slice Ao11 t844.length co11, .slice none 0 0, .bool false]) ?_ 1 _ rfl; (with_reducible repeat (first | refine xq ?_ _ | refine xr ?_ | refine xo ?_ _)); refine blk_put (cs := #[.slice none 0 0, .slice none 0 0, .bool false]) ?_ 0 _ rfl; (with_reducible repeat (first | refine xq ?_ _ | refine xr ?_ | refine xo ?_ _)); refine blk_far ?_ NB842_843.out _; (with_reducible repeat (first | refine xq ?_ _ | refine xr ?_ | refine xo ?_ _)); refine blk_far ?_ NB842_843.out _; (with_reducible repeat (first | refine xq ?_ _ | refine xr ?_ | refine xo ?_ _)); exact BK842.out) Try.underlying140 rfl (by kernel_rfl)) rfl ?_
 exact ⟨_, _, by first | rfl | (simp [errW_none, errW_some] <;> rfl) | (simp [*, errW_none, errW_some] <;> rfl), by (with_reducible repeat (first | apply Kd.R_alloc | apply Kd.R_drewN | apply Kd.R_drew)); exact Kd.R_mono (Kd.R_far (p := ⟨gb842, 2, none⟩) (Kd.R_far (p := ⟨gb842, 1, none⟩) (Kd.R_far (p := ⟨gb842, 0, none⟩) (Kd.R_far (p := ⟨gb843, 2, none⟩) (Kd.R_far (p := ⟨gb843, 1, none⟩) (Kd.R_types (Kd.R_types HO846.out BK843.out (by decide)) BK842.out (by decide)) (fun _ hk => hk.1.2) (.slice Ao16 t847.length co16)) (fun _ hk => hk.1.2) (.bool a0_2)) (fun _ hk => hk.2) (.slice Ao11 t844.length co11)) (fun _ hk => hk.2) (.slice Ao16 t847.length co16)) (fun _ hk => hk.2) (.bool a0_2)) (fun _ hk => hk.1.1.2), by (with_reducible repeat (first | apply Kd.R_alloc | apply Kd.R_drewN | apply Kd.R_drew)); exact Kd.R_mono (Kd.R_far (p := ⟨gb842, 2, none⟩) (Kd.R_far (p := ⟨gb842, 1, none⟩) (Kd.R_far (p := ⟨gb842, 0, none⟩) (Kd.R_far (p := ⟨gb843, 2, none⟩) (Kd.R_far (p := ⟨gb843, 1, none⟩) (Kd.R_types (Kd.R_types HO849.out BK843.out (by decide)) BK842.out (by decide)) (fun _ hk => hk.1.2) (.slice Ao16 t847.length co16)) (fun _ hk => hk.1.2) (.bool a0_2)) (fun _ hk => hk.2) (.slice Ao11 t844.length co11)) (fun _ hk => hk.2) (.slice Ao16 t847.length co16)) (fun _ hk => hk.2) (.bool a0_2)) (fun _ hk => hk.1.1.2), by repeat (first | (with_reducible first | exact HB.out | apply xa | apply xn | apply xd | refine xt ?_ GE841.out | refine xt ?_ GE842.out | refine xt ?_ GE843.out) | exact HB.out)⟩

/-! ### laws_toWireS: function 120 -/
def laws_toWireS.l0 : Nat → List (S179) → List (S140) → Int → Option ((List (S140)))
 | 0, _, _, _ => none
 | k + 1, x0, x3, x4 => if x4 < (x0.length : Int) then (if 0 ≤ x4 then ((laws_toWire.f k ((rd_T179 x0 x4).f0) ((rd_T179 x0 x4).f1) ((rd_T179 x0 x4).f2)).bind fun bt854 => (if x4 < (x3.length : Int) then (laws_toWireS.l0 k x0 (x3.set (x4 : Int).toNat (⟨bt854.1, bt854.2.1, bt854.2.2⟩ : S140)) (wrap64 (x4 + 1))) else (none))) else (none)) else (some x3)
def laws_toWireS.f (k : Nat) (l0 : List (S179)) : Option ((List (S140))) := if 0 ≤ (l0.length : Int) then (if ((l0.length : Int) : Int).toNat ≤ 5026338869833 then (laws_toWireS.l0 k l0 (List.replicate ((l0.length : Int) : Int).toNat z140) 0) else (none)) else (none)
theorem laws_toWireS.mono_l : ∀ k, (∀ y0 y1 y2, LeO (laws_toWireS.l0 k y0 y1 y2) (laws_toWireS.l0 (k + 1) y0 y1 y2))
 | 0 => fun _ _ _ r h => by simp [laws_toWireS.l0] at h
 | k + 1 => by
  have ih0 := laws_toWireS.mono_l k
  ·intro y0 y1 y2
   unfold laws_toWireS.l0
   repeat' first
   | (with_reducible exact ih0 _ _ _)
   | (with_reducible exact laws_toWire.mono _ _ _ _)
   | (with_reducible exact LeO.refl _)
   | (with_reducible exact LeO.none _)
   | (with_reducible refine LeO.ite ?_ ?_)
   | (with_reducible refine LeO.bind ?_ (fun _ => ?_))
   | exact ih0 _ _ _
   | exact laws_toWire.mono _ _ _ _
   | exact LeO.none _
   | refine LeO.ite ?_ ?_
   | refine LeO.bind ?_ (fun _ => ?_)
theorem laws_toWireS.mono : ∀ a0 k, LeO (laws_toWireS.f k a0) (laws_toWireS.f (k + 1) a0) := by
 intro a0 k
 have ih0 := laws_toWireS.mono_l k
 unfold laws_toWireS.f
 repeat' first
   | (with_reducible exact ih0 _ _ _)
   | (with_reducible exact laws_toWire.mono _ _ _ _)
   | (with_reducible exact LeO.refl _)
   | (with_reducible exact LeO.none _)
   | (with_reducible refine LeO.ite ?_ ?_)
   | (with_reducible refine LeO.bind ?_ (fun _ => ?_))
   | exact ih0 _ _ _
   | exact laws_toWire.mono _ _ _ _
   | exact LeO.none _
   | refine LeO.ite ?_ ?_
   | refine LeO.bind ?_ (fun _ => ?_)
set_option maxHeartbeats 8000000 in
set_option maxRecDepth 100000 in
theorem laws_toWireS.calls (k : Nat) (A0 : Option Addr) (c0 : Nat) (l0 : List (S179)) (r : List (S140)) (w : World) (hr0 : Kd.C k179 w A0 l0.length l0) (hc0 : l0.length ≤ c0) (h : laws_toWireS.f k l0 = some r) :
  Calls Try.prog 120 #[.slice A0 l0.length c0] w fun e w' => ∃ v0_ : Value, e = .returned (v0_) ∧ Kd.S k140 140 w' w.heap.size (fun _ => True) v0_ r ∧ Below w.heap.size w w' := by
 have hu179 := Try.underlying179
 have hu140 := Try.underlying140
 have HR0 := xm hr0
 have HC0 := xm hc0
 clear hr0 hc0
 have HB := xm (Below.refl w.heap.size w)
 have H : (if 0 ≤ (l0.length : Int) then (if ((l0.length : Int) : Int).toNat ≤ 5026338869833 then (laws_toWireS.l0 k l0 (List.replicate ((l0.length : Int) : Int).toNat z140) 0) else (none)) else (none)) = some r := h
 clear h
 by_cases c2 : 0 ≤ (l0.length : Int)
 ·rw [if_pos c2] at H
  have c2b0 := eq_true c2
  have c2b1 : decide (0 ≤ (l0.length : Int)) = true := decide_eq_true c2
  clear c2
  by_cases c3 : ((l0.length : Int) : Int).toNat ≤ 5026338869833
  ·rw [if_pos c3] at H
   have c3b0 := eq_true c3
   have c3b1 : decide (((l0.length : Int) : Int).toNat ≤ 5026338869833) = true := decide_eq_true c3
   clear c3
   obtain ⟨y850, hy850⟩ : ∃ y_ : List (S140), y_ = (List.replicate ((l0.length : Int) : Int).toNat z140) := ⟨_, rfl⟩
   replace H : (laws_toWireS.l0 k l0 y850 0) = some r := by first | (rw [hy850]; with_reducible exact H) | (have H2_ := (Option.bind_some _ _).symm.trans H; rw [hy850]; with_reducible exact H2_) | (have H2_ := (Option.bind_some _ _).symm.trans H; with_reducible exact H2_) | with_reducible exact H | (rw [hy850]; exact H) | exact H
   have Ny850 := xm hy850
   clear hy850
   have H' := xm H
   clear H
   go_enter Try.func120, Try.ntmps120
   go_wp2_with (first | ((with_reducible refine gate_dst (N := 7) rfl ?_); refine Kd.S_make k140 _ 140 rfl (N := 7) rfl 83 _ _ rfl (l0.length : Int) rfl rfl Try.underlying83 (.agg #[(.slice none 0 0), (.slice none 0 0), (.bool false)]) 56 info140 rfl (by decide) (by omega) z140 (ok := fun _ => True) (okp := fun _ => True) (k140_mkM _ _ _ z140 (Kd.R_nil _ _ _ _ _) (Kd.R_nil _ _ _ _ _)) (fun _ hk => hk) trivial (of_decide_eq_true (by first | (with_reducible assumption) | assumption)) (Nat.le_trans (Nat.mul_le_mul_right _ (of_decide_eq_true (by first | (with_reducible assumption) | assumption) : (l0.length : Int).toNat ≤ 5026338869833)) (by omega)) (Below.refl _ _) (Nat.le_refl _) ?_; intro v851 w4 ho5 hb hg_ hnew_; clear hg_ hnew_; (first | rw [← Ny850.out] at ho5 | (simp only [Int.reduceToNat] at ho5; rw [← Ny850.out] at ho5)); have n0_ := xm (Kd.S_lower ho5 (xz (by repeat (first | (with_reducible first | exact HB.out | apply xa | apply xn | apply xd) | exact HB.out)))); have n1_ := xm (below_step (by repeat (first | (with_reducible first | exact HB.out | apply xa | apply xn | apply xd) | exact HB.out)) hb); clear HB; have HO852 := n0_; have HB := n1_; clear n0_ n1_; clear hb ho5))
   go_loopg [4] k (fun kq v4 w' => ∃ (x3_1 : List (S140)) (x4_1 : Int), v4 = .int .i64 x4_1 ∧ Aside0 (laws_toWireS.l0 kq l0 x3_1 x4_1 = some r) ∧ Aside0 (kq ≤ k) ∧ Aside0 (Kd.S k140 140 w' w.heap.size (fun _ => True) v851 x3_1) ∧ Aside0 (Below w.heap.size w w'))
   case atStart => exact ⟨(y850), (0), (by first | rfl | (simp; done) | (simp [*]; done)), H', ⟨Nat.le_refl _⟩, ⟨by (with_reducible repeat (first | apply Kd.S_alloc | apply Kd.S_drewN | apply Kd.S_drew)); exact HO852.out⟩, ⟨by repeat (first | (with_reducible first | exact HB.out | apply xa | apply xn | apply xd) | exact HB.out)⟩⟩
   case round =>
    clear H'
    try clear c1
    try clear c2
    try clear c2b0
    try clear c2b1
    try clear p2
    try clear c3
    try clear c3b0
    try clear c3b1
    obtain ⟨x3_1, x4_1, rfl, HA, HK1, HO_3, HB⟩ := hrel
    cases gk with
    | zero => exact absurd HA.out (by simp [laws_toWireS.l0])
    | succ k1 =>
     have H := HA.out
     clear HA
     simp only [laws_toWireS.l0] at H
     by_cases c6 : x4_1 < (l0.length : Int)
     ·rw [if_pos c6] at H
      have c6b0 : decide (x4_1 < (l0.length : Int)) = true := decide_eq_true c6
      clear c6
      by_cases c7 : 0 ≤ x4_1
      ·rw [if_pos c7] at H
       have c7b0 : decide (0 ≤ x4_1) = true := decide_eq_true c7
       clear c7
       replace H := Option.bind_eq_some_iff.mp H
       obtain ⟨⟨t854, t857, t860⟩, A80, H⟩ := H
       replace H : (if x4_1 < (x3_1.length : Int) then (laws_toWireS.l0 k1 l0 (x3_1.set (x4_1 : Int).toNat (⟨t854, t857, t860⟩ : S140)) (wrap64 (x4_1 + 1))) else (none)) = some r := H
       have A8 := xm A80
       clear A80
       by_cases c9 : x4_1 < (x3_1.length : Int)
       ·rw [if_pos c9] at H
        have c9b0 : decide (x4_1 < (x3_1.length : Int)) = true := decide_eq_true c9
        clear c9
        obtain ⟨y861, hy861⟩ : ∃ y_ : List (S140), y_ = (x3_1.set (x4_1 : Int).toNat (⟨t854, t857, t860⟩ : S140)) := ⟨_, rfl⟩
        replace H : (laws_toWireS.l0 k1 l0 y861 (wrap64 (x4_1 + 1))) = some r := by first | (rw [hy861]; with_reducible exact H) | (have H2_ := (Option.bind_some _ _).symm.trans H; rw [hy861]; with_reducible exact H2_) | (have H2_ := (Option.bind_some _ _).symm.trans H; with_reducible exact H2_) | with_reducible exact H | (rw [hy861]; exact H) | exact H
        have Ny861 := xm hy861
        clear hy861
        have H' := xm H
        clear H
        have p853 : 0 ≤ (x4_1 : Int) := of_decide_eq_true (by first | (with_reducible assumption) | assumption)
        have q853 : x4_1 < (l0.length : Int) := of_decide_eq_true (by first | (with_reducible assumption) | assumption)
        obtain ⟨ad853, A853_0, c853_0, A853_1, c853_1, e853, hx853_0, hx853_1, hx853_2, hl853_0, hi853_0, hl853_1, hi853_1⟩ := at_T179 HR0.out x4_1 p853 q853
        cases e853
        replace hx853_0 := (HB.out.cell (World.block_lt_of_cell? w _ hx853_0)).trans hx853_0
        replace hx853_1 := (HB.out.cell (World.block_lt_of_cell? w _ hx853_1)).trans hx853_1
        replace hx853_2 := (HB.out.cell (World.block_lt_of_cell? w _ hx853_2)).trans hx853_2
        have HR853_0 := xm hi853_0
        have HC853_0 := xm hl853_0
        clear hi853_0 hl853_0
        have HR853_1 := xm hi853_1
        have HC853_1 := xm hl853_1
        clear hi853_1 hl853_1
        replace p853 := eq_true p853
        replace q853 := eq_true q853
        go_wp2_with (first | ((with_reducible refine gate_callee (f := 156) rfl ?_); refine goesL_ (some 20) rfl rfl Try.func156 (by kernel_rfl) rfl #[.agg #[.slice A853_0 ((rd_T179 l0 x4_1).f0).length c853_0, .slice A853_1 ((rd_T179 l0 x4_1).f1).length c853_1, .bool ((rd_T179 l0 x4_1).f2)]] rfl (by (try simp only [List.map_toArray, List.map_cons, List.map_nil]); first | done | rfl | (simp only [List.length_drop, List.length_take]; rfl)) ?_; (with_reducible refine (laws_toWire.calls k1 _ _ ((rd_T179 l0 x4_1).f0) _ _ ((rd_T179 l0 x4_1).f1) ((rd_T179 l0 x4_1).f2) t854 t857 t860 _ ?side1 ?side2 ?side3 ?side4 A8.out).mono ?_); (case side1 => repeat (first | exact (Kd.C_below HR853_0.out HB.out) | (with_reducible refine Kd.C_alloc ?_ _) | (with_reducible refine Kd.C_drewN ?_ _) | (with_reducible refine Kd.C_drew ?_))); (case side2 => exact HC853_0.out); (case side3 => repeat (first | exact (Kd.C_below HR853_1.out HB.out) | (with_reducible refine Kd.C_alloc ?_ _) | (with_reducible refine Kd.C_drewN ?_ _) | (with_reducible refine Kd.C_drew ?_))); (case side4 => exact HC853_1.out); rintro e w11 ⟨v855, v858, rfl, ho0, ho1, hb⟩; refine ⟨_, rfl, ?_⟩; have n0_ := xm (Kd.S_mono (Kd.S_told (Kd.S_told (Kd.S_old (by (with_reducible repeat (first | apply Kd.S_alloc | apply Kd.S_drewN | apply Kd.S_drew)); exact HO_3.out) hb) (Kd.R_base ho0)) (Kd.R_base ho1)) (fun _ h_ => h_.1)); have n1_ := xm (Kd.R_lower ho0 (xz (by repeat (first | (with_reducible first | exact HB.out | apply xa | apply xn | apply xd) | exact HB.out)))); have n2_ := xm (Kd.R_lower ho1 (xz (by repeat (first | (with_reducible first | exact HB.out | apply xa | apply xn | apply xd) | exact HB.out)))); have n3_ := xm (below_step (by repeat (first | (with_reducible first | exact HB.out | apply xa | apply xn | apply xd) | exact HB.out)) hb); clear HO_3; clear HB; have HO_3 := n0_; have HO856 := n1_; have HO859 := n2_; have HB := n3_; clear n0_ n1_ n2_ n3_; (try clear hb); (try clear hb2); (try clear hk); (try clear hi); (try clear ho0); (try clear ho1); have p10 : 0 ≤ (x4_1 : Int) := of_decide_eq_true (by first | (with_reducible assumption) | assumption); have q10 : (x4_1 : Int) < ((x3_1.length : Int) : Int) := of_decide_eq_true (by first | (with_reducible assumption) | assumption); obtain ⟨go10, co10, eo10, gb10, gl10, cl10, HG10⟩ := Kd.S_form HO_3.out (by omega); (first | cases eo10 | (injection eo10 with ea_ en_ ec_; (first | subst ea_ | (injection ea_ with ea_; subst ea_)); subst ec_; clear en_)); have GB10 := xm gb10; have GG10 := xm HG10; clear gb10 gl10 HG10; obtain ⟨_, ce10, hcl10, hM10, hcc10, hfr10, _, _⟩ := Kd.S_elem HO_3.out z140 (x4_1 : Int) p10 q10; obtain ⟨ve10_0, ve10_1, rfl, ge10_0, ge10_1⟩ := k140_openM hM10; have hx10_0 : w11.cell? ⟨go10, (x4_1 : Int).toNat * 3, none⟩ = some (ve10_0) := hcc10 0 _ rfl; have hx10_1 : w11.cell? ⟨go10, (x4_1 : Int).toNat * 3 + 1, none⟩ = some (ve10_1) := hcc10 1 _ rfl; have hx10_2 : w11.cell? ⟨go10, (x4_1 : Int).toNat * 3 + 2, none⟩ = some (.bool ((rd_T140 x3_1 x4_1).f2)) := hcc10 2 _ rfl; have hf10_0 : w11.frozen? ⟨go10, (x4_1 : Int).toNat * 3, none⟩ = false := hfr10 0; have hf10_1 : w11.frozen? ⟨go10, (x4_1 : Int).toNat * 3 + 1, none⟩ = false := hfr10 1; have hf10_2 : w11.frozen? ⟨go10, (x4_1 : Int).toNat * 3 + 2, none⟩ = false := hfr10 2; (try clear hM10); clear hcl10 hcc10 hfr10; replace p10 := eq_true p10; replace q10 := eq_true q10; obtain ⟨Ao14, co14, eo14⟩ := Kd.R_slice HO856.out; subst eo14; obtain ⟨Ao15, co15, eo15⟩ := Kd.R_slice HO859.out; subst eo15; have n_ := xm (Kd.S_mono (ok' := (fun k_ => some k_ ≠ (.slice Ao14 t854.length co14 : Value).ownBlock ∧ some k_ ≠ (.slice Ao15 t857.length co15 : Value).ownBlock)) HO_3.out (fun k_ hk => ⟨hk.1.2, hk.2⟩)); clear HO_3; have HO_3 := n_; clear n_; have HX12 := xm (show Kd.S k140 140 w11 w.heap.size (fun k_ => ((fun _ => True)) k_ ∧ ¬ ((fun k_ => some k_ = (.slice Ao14 t854.length co14 : Value).ownBlock ∨ some k_ = (.slice Ao15 t857.length co15 : Value).ownBlock)) k_) (.slice (some ⟨go10, 0, none⟩) x3_1.length co10) x3_1 from (by (with_reducible repeat (first | apply Kd.S_alloc | apply Kd.S_drewN | apply Kd.S_drew)); exact Kd.S_mono HO_3.out (fun k_ hk => ⟨trivial, fun e_ => e_.elim (fun h_ => hk.1 h_) (fun h_ => hk.2 h_)⟩))); obtain ⟨oki12, ce12, hcl12, hM12, hcc12, hfr12, hoki12, hH12⟩ := Kd.S_elem HX12.out z140 (x4_1 : Int) (of_decide_eq_true (by first | (with_reducible assumption) | assumption)) (by have h_ : (x4_1 : Int) < ((x3_1.length : Int) : Int) := of_decide_eq_true (by first | (with_reducible assumption) | assumption); first | exact h_ | (have e_ := (Kd.S_reads' HO_3.out).1; omega) | simpa using h_); obtain ⟨ve12_0, ve12_1, rfl, ge12_0, ge12_1⟩ := k140_openM hM12; have HP12 := Kd.S_seg hH12 (of_decide_eq_true (by first | (with_reducible assumption) | assumption)) (by have h_ : (x4_1 : Int) < ((x3_1.length : Int) : Int) := of_decide_eq_true (by first | (with_reducible assumption) | assumption); first | exact h_ | (have e_ := (Kd.S_reads' HO_3.out).1; omega) | simpa using h_) (seg := [.slice Ao14 t854.length co14, .slice Ao15 t857.length co15, .bool t860]) (j := 0) (show 3 ≤ 3 from by decide) (x' := (⟨t854, t857, t860⟩ : S140)) (k140_mkM _ _ _ (⟨t854, t857, t860⟩ : S140) (Kd.R_mono (Kd.R_tight rfl (Kd.R_mono (ok' := fun k_ => ((fun _ => True)) k_ ∧ k_ ≠ go10) (Kd.R_apart' (HO856.out) (Kd.S_typed HO_3.out) (by decide)) (fun k_ hk => ⟨trivial, fun e_ => (hk.2) (by rw [e_]; rfl)⟩))) (fun _ h_ => Or.inr (Or.inl h_))) (Kd.R_mono (Kd.R_tight rfl (Kd.R_mono (ok' := fun k_ => ((fun _ => True)) k_ ∧ k_ ≠ go10) (Kd.R_apart' (HO859.out) (Kd.S_typed HO_3.out) (by decide)) (fun k_ hk => ⟨trivial, fun e_ => (hk.2) (by rw [e_]; rfl)⟩))) (fun _ h_ => Or.inr (Or.inr (h_))))) (fun _ hk => hk) (fun k_ hk_ => hk_.elim (fun h_ => ((Kd.R_mono (ok' := fun k_ => ((fun _ => True)) k_ ∧ k_ ≠ go10) (Kd.R_apart' (HO856.out) (Kd.S_typed HO_3.out) (by decide)) (fun k_ hk => ⟨trivial, fun e_ => (hk.2) (by rw [e_]; rfl)⟩))).1 k_ h_.symm) (fun h_ => ((Kd.R_mono (ok' := fun k_ => ((fun _ => True)) k_ ∧ k_ ≠ go10) (Kd.R_apart' (HO859.out) (Kd.S_typed HO_3.out) (by decide)) (fun k_ hk => ⟨trivial, fun e_ => (hk.2) (by rw [e_]; rfl)⟩))).1 k_ h_.symm)); have hx12_0 := hcc12 0 _ rfl; (try simp only [show (k140).sz = 3 from rfl, Nat.mul_one, Nat.add_zero] at hx12_0); have hf12_0 := hfr12 0; (try simp only [show (k140).sz = 3 from rfl, Nat.mul_one, Nat.add_zero] at hf12_0); have hx12_1 := hcc12 1 _ rfl; (try simp only [show (k140).sz = 3 from rfl, Nat.mul_one, Nat.add_zero] at hx12_1); have hf12_1 := hfr12 1; (try simp only [show (k140).sz = 3 from rfl, Nat.mul_one, Nat.add_zero] at hf12_1); have hx12_2 := hcc12 2 _ rfl; (try simp only [show (k140).sz = 3 from rfl, Nat.mul_one, Nat.add_zero] at hx12_2); have hf12_2 := hfr12 2; (try simp only [show (k140).sz = 3 from rfl, Nat.mul_one, Nat.add_zero] at hf12_2); (try clear hM12); clear hcl12 hcc12 hfr12 hoki12 hH12) | ((with_reducible refine gate_store (t := 140) (p := 21) rfl ?_); refine store_event (t := 140) (p := 21) (v := ?vo_w13) (w1 := (((w11.setCell ⟨go10, (x4_1 : Int).toNat * 3, none⟩ (.slice Ao14 t854.length co14)).setCell ⟨go10, (x4_1 : Int).toNat * 3 + 1, none⟩ (.slice Ao15 t857.length co15)).setCell ⟨go10, (x4_1 : Int).toNat * 3 + 2, none⟩ (.bool t860))) ?hg ?ho ?hn ?hr ?_; (case ho => rfl); (case hg => rfl); (case hn => rfl); (case hr => first | (go_simp; done) | (go_simp; rfl)); intro w13 hw; have hg : w11.grownBy w13 (some go10) := (by rw [hw]; exact HP12.2); have hp_ : Kd.S k140 140 w13 w.heap.size (fun _ => True) (.slice (some ⟨go10, 0, none⟩) x3_1.length co10) y861 := (by rw [hw, Ny861.out]; exact HP12.1); clear HP12; have n0_ := xm (hp_); have n1_ := xm ((by rw [hw]; exact xt (xt (xt (HB.out) GB10.out) GB10.out) GB10.out : Below w.heap.size w w13)); clear HO_3; clear HB; clear HO856; clear HO859; have HO_3 := n0_; have HB := n1_; clear n0_ n1_; clear hg hw hp_))
        go_roundg k1
        case measure => have := HK1.out; omega
        case rel => exact ⟨(y861), (wrap64 (x4_1 + 1)), (by first | rfl | (simp; done) | (simp [*]; done)), H', ⟨by have := HK1.out; omega⟩, ⟨by (with_reducible repeat (first | apply Kd.S_alloc | apply Kd.S_drewN | apply Kd.S_drew)); exact HO_3.out⟩, ⟨by repeat (first | (with_reducible first | exact HB.out | apply xa | apply xn | apply xd) | exact HB.out)⟩⟩
       ·rw [if_neg c9] at H
        exact absurd H (by simp)
      ·rw [if_neg c7] at H
       exact absurd H (by simp)
     ·rw [if_neg c6] at H
      have c6b0 : decide (x4_1 < (l0.length : Int)) = false := decide_eq_false c6
      clear c6
      obtain rfl := Option.some.inj H
      go_wp2
      go_ret
      exact ⟨_, by first | rfl | (simp [errW_none, errW_some] <;> rfl) | (simp [*, errW_none, errW_some] <;> rfl), by (with_reducible repeat (first | apply Kd.S_alloc | apply Kd.S_drewN | apply Kd.S_drew)); exact HO_3.out, by repeat (first | (with_reducible first | exact HB.out | apply xa | apply xn | apply xd) | exact HB.out)⟩
  ·rw [if_neg c3] at H
   exact absurd H (by simp)
 ·rw [if_neg c2] at H
  exact absurd H (by simp)

/-! ### laws_toSnap: function 57 -/
def laws_toSnap.f (k : Nat) (l0_0 : List (S181)) (l0_1 : List (S179)) : Option ((List (S138)) × (List (S140))) := (laws_toProcS.f k l0_0).bind fun t865 => ((laws_toWireS.f k l0_1).bind fun t868 => (some (t865, t868)))
theorem laws_toSnap.mono : ∀ a0 a1 k, LeO (laws_toSnap.f k a0 a1) (laws_toSnap.f (k + 1) a0 a1) := by
 intro a0 a1 k
 unfold laws_toSnap.f
 repeat' first
   | (with_reducible exact laws_toProcS.mono _ _)
   | (with_reducible exact laws_toWireS.mono _ _)
   | (with_reducible exact LeO.refl _)
   | (with_reducible exact LeO.none _)
   | (with_reducible refine LeO.ite ?_ ?_)
   | (with_reducible refine LeO.bind ?_ (fun _ => ?_))
   | exact laws_toProcS.mono _ _
   | exact laws_toWireS.mono _ _
   | exact LeO.none _
   | refine LeO.ite ?_ ?_
   | refine LeO.bind ?_ (fun _ => ?_)
set_option maxHeartbeats 8000000 in
set_option maxRecDepth 100000 in
theorem laws_toSnap.calls (k : Nat) (A0_0 : Option Addr) (c0_0 : Nat) (l0_0 : List (S181)) (A0_1 : Option Addr) (c0_1 : Nat) (l0_1 : List (S179)) (r1 : List (S138)) (r2 : List (S140)) (w : World) (hr0_0 : Kd.C k181 w A0_0 l0_0.length l0_0) (hc0_0 : l0_0.length ≤ c0_0) (hr0_1 : Kd.C k179 w A0_1 l0_1.length l0_1) (hc0_1 : l0_1.length ≤ c0_1) (h : laws_toSnap.f k l0_0 l0_1 = some (r1, r2)) :
  Calls Try.prog 57 #[.agg #[.slice A0_0 l0_0.length c0_0, .slice A0_1 l0_1.length c0_1]] w fun e w' => ∃ v0_ v1_ : Value, e = .returned (.agg #[v0_, v1_]) ∧ Kd.R k138 138 w' w.heap.size (fun _ => True) v0_ r1 ∧ Kd.S k140 140 w' w.heap.size (fun _ => True) v1_ r2 ∧ Below w.heap.size w w' := by
 have hu79 := Try.underlying79
 have hu85 := Try.underlying85
 have HR0_0 := xm hr0_0
 have HC0_0 := xm hc0_0
 clear hr0_0 hc0_0
 have HR0_1 := xm hr0_1
 have HC0_1 := xm hc0_1
 clear hr0_1 hc0_1
 have HB := xm (Below.refl w.heap.size w)
 have H : ((laws_toProcS.f k l0_0).bind fun t865 => ((laws_toWireS.f k l0_1).bind fun t868 => (some (t865, t868)))) = some (r1, r2) := h
 clear h
 replace H := Option.bind_eq_some_iff.mp H
 obtain ⟨t865, A20, H⟩ := H
 replace H : ((laws_toWireS.f k l0_1).bind fun t868 => (some (t865, t868))) = some (r1, r2) := H
 have A2 := xm A20
 clear A20
 replace H := Option.bind_eq_some_iff.mp H
 obtain ⟨t868, A30, H⟩ := H
 replace H : (some (t865, t868)) = some (r1, r2) := H
 have A3 := xm A30
 clear A30
 simp only [Option.some.injEq, Prod.mk.injEq] at H
 obtain ⟨rfl, rfl⟩ := H
 go_enter Try.func57, Try.ntmps57
 go_wp2_with (first | ((with_reducible refine gate_dst (N := 1) rfl ?_); refine box_event ?hg (N := 1) ?hd (cs := #[.slice A0_0 l0_0.length c0_0, .slice A0_1 l0_1.length c0_1]) (t := 79) ?hr ?_; (case hd => rfl); (case hg => rfl); (case hr => first | (go_simp; done) | (go_simp; rfl)); intro gb862 hg w4 hbox hb; have n0_ := xm (below_step (by repeat (first | (with_reducible first | exact HB.out | apply xa | apply xn | apply xd) | exact HB.out)) hb); have n1_ := xm (hbox); have n2_ := xm ((by rw [hg]; exact (xz (by repeat (first | (with_reducible first | exact HB.out | apply xa | apply xn | apply xd) | exact HB.out))) : w.heap.size ≤ gb862)); have n3_ := xm ((by rw [hg]; exact (xz (by repeat (first | (with_reducible first | exact HB.out | apply xa | apply xn | apply xd) | exact HB.out))) : w.heap.size ≤ gb862)); clear HB; have HB := n0_; have BK862 := n1_; have GW862 := n2_; have GE862 := n3_; clear n0_ n1_ n2_ n3_; clear hb hbox hg) | ((with_reducible refine gate_dst (N := 2) rfl ?_); refine box_event ?hg (N := 2) ?hd (cs := #[.slice none 0 0, .slice none 0 0]) (t := 85) ?hr ?_; (case hd => rfl); (case hg => rfl); (case hr => first | (go_simp; done) | (go_simp; rfl)); intro gb863 hg w5 hbox hb; have n0_ := xm (blk_below (g := gb862) (o := .cells #[.slice A0_0 l0_0.length c0_0, .slice A0_1 l0_1.length c0_1] 79 (0, 0)) (by (with_reducible repeat (first | refine xq ?_ _ | refine xr ?_ | refine xo ?_ _)); exact BK862.out) hb); have n1_ := xm (below_step (by repeat (first | (with_reducible first | exact HB.out | apply xa | apply xn | apply xd | refine xt ?_ GE862.out) | exact HB.out)) hb); have n2_ := xm (hbox); have n3_ := xm ((by rw [hg]; exact (xz (by repeat (first | (with_reducible first | exact HB.out | apply xa | apply xn | apply xd | refine xt ?_ GE862.out) | exact HB.out))) : w.heap.size ≤ gb863)); have n4_ := xm ((by rw [hg]; exact (xz (by repeat (first | (with_reducible first | exact HB.out | apply xa | apply xn | apply xd | refine xt ?_ GE862.out) | exact HB.out))) : w.heap.size ≤ gb863)); have n5_ := xm ((by rw [hg]; exact Nat.ne_of_lt (blk_lt (g := gb862) (o := .cells #[.slice A0_0 l0_0.length c0_0, .slice A0_1 l0_1.length c0_1] 79 (0, 0)) (by (with_reducible repeat (first | refine xq ?_ _ | refine xr ?_ | refine xo ?_ _)); exact BK862.out)) : gb862 ≠ gb863)); have n6_ := xm ((by rw [hg]; exact Nat.ne_of_gt (blk_lt (g := gb862) (o := .cells #[.slice A0_0 l0_0.length c0_0, .slice A0_1 l0_1.length c0_1] 79 (0, 0)) (by (with_reducible repeat (first | refine xq ?_ _ | refine xr ?_ | refine xo ?_ _)); exact BK862.out)) : gb863 ≠ gb862)); clear BK862; clear HB; have BK862 := n0_; have HB := n1_; have BK863 := n2_; have GW863 := n3_; have GE863 := n4_; have NB862_863 := n5_; have NB863_862 := n6_; clear n0_ n1_ n2_ n3_ n4_ n5_ n6_; clear hb hbox hg) | ((with_reducible refine gate_dst (N := 3) rfl ?_); refine box_event ?hg (N := 3) ?hd (cs := #[.slice none 0 0, .slice none 0 0]) (t := 85) ?hr ?_; (case hd => rfl); (case hg => rfl); (case hr => first | (go_simp; done) | (go_simp; rfl)); intro gb864 hg w6 hbox hb; have n0_ := xm (blk_below (g := gb862) (o := .cells #[.slice A0_0 l0_0.length c0_0, .slice A0_1 l0_1.length c0_1] 79 (0, 0)) (by (with_reducible repeat (first | refine xq ?_ _ | refine xr ?_ | refine xo ?_ _)); exact BK862.out) hb); have n1_ := xm (blk_below (g := gb863) (o := .cells #[.slice none 0 0, .slice none 0 0] 85 (0, 0)) (by (with_reducible repeat (first | refine xq ?_ _ | refine xr ?_ | refine xo ?_ _)); exact BK863.out) hb); have n2_ := xm (below_step (by repeat (first | (with_reducible first | exact HB.out | apply xa | apply xn | apply xd | refine xt ?_ GE862.out | refine xt ?_ GE863.out) | exact HB.out)) hb); have n3_ := xm (hbox); have n4_ := xm ((by rw [hg]; exact (xz (by repeat (first | (with_reducible first | exact HB.out | apply xa | apply xn | apply xd | refine xt ?_ GE862.out | refine xt ?_ GE863.out) | exact HB.out))) : w.heap.size ≤ gb864)); have n5_ := xm ((by rw [hg]; exact (xz (by repeat (first | (with_reducible first | exact HB.out | apply xa | apply xn | apply xd | refine xt ?_ GE862.out | refine xt ?_ GE863.out) | exact HB.out))) : w.heap.size ≤ gb864)); have n6_ := xm ((by rw [hg]; exact Nat.ne_of_lt (blk_lt (g := gb862) (o := .cells #[.slice A0_0 l0_0.length c0_0, .slice A0_1 l0_1.length c0_1] 79 (0, 0)) (by (with_reducible repeat (first | refine xq ?_ _ | refine xr ?_ | refine xo ?_ _)); exact BK862.out)) : gb862 ≠ gb864)); have n7_ := xm ((by rw [hg]; exact Nat.ne_of_gt (blk_lt (g := gb862) (o := .cells #[.slice A0_0 l0_0.length c0_0, .slice A0_1 l0_1.length c0_1] 79 (0, 0)) (by (with_reducible repeat (first | refine xq ?_ _ | refine xr ?_ | refine xo ?_ _)); exact BK862.out)) : gb864 ≠ gb862)); have n8_ := xm ((by rw [hg]; exact Nat.ne_of_lt (blk_lt (g := gb863) (o := .cells #[.slice none 0 0, .slice none 0 0] 85 (0, 0)) (by (with_reducible repeat (first | refine xq ?_ _ | refine xr ?_ | refine xo ?_ _)); exact BK863.out)) : gb863 ≠ gb864)); have n9_ := xm ((by rw [hg]; exact Nat.ne_of_gt (blk_lt (g := gb863) (o := .cells #[.slice none 0 0, .slice none 0 0] 85 (0, 0)) (by (with_reducible repeat (first | refine xq ?_ _ | refine xr ?_ | refine xo ?_ _)); exact BK863.out)) : gb864 ≠ gb863)); clear BK862; clear BK863; clear HB; have BK862 := n0_; have BK863 := n1_; have HB := n2_; have BK864 := n3_; have GW864 := n4_; have GE864 := n5_; have NB862_864 := n6_; have NB864_862 := n7_; have NB863_864 := n8_; have NB864_863 := n9_; clear n0_ n1_ n2_ n3_ n4_ n5_ n6_ n7_ n8_ n9_; clear hb hbox hg; have hnb7 := NB862_863.out; have hnc7 := NB863_862.out; have hnb8 := NB862_864.out; have hnc8 := NB864_862.out; have hcz9_0 : w6.cell? ⟨gb862, 0, none⟩ = some (.slice A0_0 l0_0.length c0_0) := (xc BK862.out 0).trans rfl; have hcz9_1 : w6.cell? ⟨gb862, 1, none⟩ = some (.slice A0_1 l0_1.length c0_1) := (xc BK862.out 1).trans rfl; have hfz9_0 := xf BK862.out 0; have hfz9_1 := xf BK862.out 1) | ((with_reducible refine gate_callee (f := 119) rfl ?_); refine goesL_ (some 6) rfl rfl Try.func119 (by kernel_rfl) rfl #[.slice A0_0 l0_0.length c0_0] rfl (by (try simp only [List.map_toArray, List.map_cons, List.map_nil]); first | done | rfl | (simp only [List.length_drop, List.length_take]; rfl)) ?_; (with_reducible refine (laws_toProcS.calls k _ _ l0_0 t865 _ ?side1 ?side2 A2.out).mono ?_); (case side1 => repeat (first | exact (Kd.C_below HR0_0.out HB.out) | (with_reducible refine Kd.C_alloc ?_ _) | (with_reducible refine Kd.C_drewN ?_ _) | (with_reducible refine Kd.C_drew ?_))); (case side2 => exact HC0_0.out); rintro e w10 ⟨v866, rfl, ho0, hb⟩; refine ⟨_, rfl, ?_⟩; have n0_ := xm (Kd.R_lower ho0 (xz (by repeat (first | (with_reducible first | exact HB.out | apply xa | apply xn | apply xd | refine xt ?_ GE862.out | refine xt ?_ GE863.out | refine xt ?_ GE864.out) | exact HB.out)))); have n1_ := xm (blk_below (g := gb862) (o := .cells #[.slice A0_0 l0_0.length c0_0, .slice A0_1 l0_1.length c0_1] 79 (0, 0)) (by (with_reducible repeat (first | refine xq ?_ _ | refine xr ?_ | refine xo ?_ _)); exact BK862.out) hb); have n2_ := xm (blk_below (g := gb863) (o := .cells #[.slice none 0 0, .slice none 0 0] 85 (0, 0)) (by (with_reducible repeat (first | refine xq ?_ _ | refine xr ?_ | refine xo ?_ _)); exact BK863.out) hb); have n3_ := xm (blk_below (g := gb864) (o := .cells #[.slice none 0 0, .slice none 0 0] 85 (0, 0)) (by (with_reducible repeat (first | refine xq ?_ _ | refine xr ?_ | refine xo ?_ _)); exact BK864.out) hb); have n4_ := xm (below_step (by repeat (first | (with_reducible first | exact HB.out | apply xa | apply xn | apply xd | refine xt ?_ GE862.out | refine xt ?_ GE863.out | refine xt ?_ GE864.out) | exact HB.out)) hb); clear BK862; clear BK863; clear BK864; clear HB; have HO867 := n0_; have BK862 := n1_; have BK863 := n2_; have BK864 := n3_; have HB := n4_; clear n0_ n1_ n2_ n3_ n4_; (try clear hb); (try clear hb2); (try clear hk); (try clear hi); (try clear ho0); obtain ⟨Ao11, co11, eo11⟩ := Kd.R_slice HO867.out; subst eo11; have hnb12 := NB864_863.out; have hnc12 := NB863_864.out; have hcz13_0 : w10.cell? ⟨gb864, 0, none⟩ = some (.slice none 0 0) := (xc BK864.out 0).trans rfl; have hcz13_1 : w10.cell? ⟨gb864, 1, none⟩ = some (.slice none 0 0) := (xc BK864.out 1).trans rfl; have hfz13_0 := xf BK864.out 0; have hfz13_1 := xf BK864.out 1; have hcz14_0 : w10.cell? ⟨gb862, 0, none⟩ = some (.slice A0_0 l0_0.length c0_0) := (xc BK862.out 0).trans rfl; have hcz14_1 : w10.cell? ⟨gb862, 1, none⟩ = some (.slice A0_1 l0_1.length c0_1) := (xc BK862.out 1).trans rfl; have hfz14_0 := xf BK862.out 0; have hfz14_1 := xf BK862.out 1) | ((with_reducible refine gate_callee (f := 120) rfl ?_); refine goesL_ (some 10) rfl rfl Try.func120 (by kernel_rfl) rfl #[.slice A0_1 l0_1.length c0_1] rfl (by (try simp only [List.map_toArray, List.map_cons, List.map_nil]); first | done | rfl | (simp only [List.length_drop, List.length_take]; rfl)) ?_; (with_reducible refine (laws_toWireS.calls k _ _ l0_1 t868 _ ?side1 ?side2 A3.out).mono ?_); (case side1 => exact Kd.C_below HR0_1.out (by repeat (first | (with_reducible first | exact HB.out | apply xa | apply xn | apply xd | refine xt ?_ GE862.out | refine xt ?_ GE863.out | refine xt ?_ GE864.out) | exact HB.out))); (case side2 => exact HC0_1.out); rintro e w15 ⟨v869, rfl, ho0, hb⟩; refine ⟨_, rfl, ?_⟩; have n0_ := xm (Kd.R_below (by (with_reducible repeat (first | apply Kd.R_alloc | apply Kd.R_drewN | apply Kd.R_drew)); exact (Kd.R_mono (Kd.R_far (p := ⟨gb864, 0, none⟩) (Kd.R_types HO867.out BK864.out (by decide)) (fun _ hk => hk.2) (.slice Ao11 t865.length co11)) (fun _ h_ => h_.1))) hb); have n1_ := xm (Kd.S_lower ho0 (xz (by repeat (first | (with_reducible first | exact HB.out | apply xa | apply xn | apply xd | refine xt ?_ GE862.out | refine xt ?_ GE863.out | refine xt ?_ GE864.out) | exact HB.out)))); have n2_ := xm (blk_below (g := gb862) (o := .cells #[.slice A0_0 l0_0.length c0_0, .slice A0_1 l0_1.length c0_1] 79 (0, 0)) (by (with_reducible repeat (first | refine xq ?_ _ | refine xr ?_ | refine xo ?_ _)); refine blk_far ?_ NB862_864.out _; (with_reducible repeat (first | refine xq ?_ _ | refine xr ?_ | refine xo ?_ _)); exact BK862.out) hb); have n3_ := xm (blk_below (g := gb863) (o := .cells #[.slice none 0 0, .slice none 0 0] 85 (0, 0)) (by (with_reducible repeat (first | refine xq ?_ _ | refine xr ?_ | refine xo ?_ _)); refine blk_far ?_ NB863_864.out _; (with_reducible repeat (first | refine xq ?_ _ | refine xr ?_ | refine xo ?_ _)); exact BK863.out) hb); have n4_ := xm (blk_below (g := gb864) (o := .cells #[.slice Ao11 t865.length co11, .slice none 0 0] 85 (0, 0)) (by (with_reducible repeat (first | refine xq ?_ _ | refine xr ?_ | refine xo ?_ _)); refine blk_put (cs := #[.slice none 0 0, .slice none 0 0]) ?_ 0 _ rfl; (with_reducible repeat (first | refine xq ?_ _ | refine xr ?_ | refine xo ?_ _)); exact BK864.out) hb); have n5_ := xm (below_step (by repeat (first | (with_reducible first | exact HB.out | apply xa | apply xn | apply xd | refine xt ?_ GE862.out | refine xt ?_ GE863.out | refine xt ?_ GE864.out) | exact HB.out)) hb); clear HO867; clear BK862; clear BK863; clear BK864; clear HB; have HO867 := n0_; have HO870 := n1_; have BK862 := n2_; have BK863 := n3_; have BK864 := n4_; have HB := n5_; clear n0_ n1_ n2_ n3_ n4_ n5_; (try clear hb); (try clear hb2); (try clear hk); (try clear hi); (try clear ho0); obtain ⟨Ao16, co16, eo16⟩ := Kd.S_slice HO870.out; subst eo16; have hcz17_0 : w15.cell? ⟨gb864, 0, none⟩ = some (.slice Ao11 t865.length co11) := (xc BK864.out 0).trans rfl; have hcz17_1 : w15.cell? ⟨gb864, 1, none⟩ = some (.slice none 0 0) := (xc BK864.out 1).trans rfl; have hfz17_0 := xf BK864.out 0; have hfz17_1 := xf BK864.out 1; have hcz18_0 : w15.cell? ⟨gb863, 0, none⟩ = some (.slice none 0 0) := (xc BK863.out 0).trans rfl; have hcz18_1 : w15.cell? ⟨gb863, 1, none⟩ = some (.slice none 0 0) := (xc BK863.out 1).trans rfl; have hfz18_0 := xf BK863.out 0; have hfz18_1 := xf BK863.out 1))
 refine bodyPost_ret (results_cell_row rfl _ _ gb863 85 #[.slice Ao11 t865.length co11, .slice Ao16 t868.length co16] (0, 0) _ rfl (by (with_reducible repeat (first | refine xq ?_ _ | refine xr ?_ | refine xo ?_ _)); refine blk_put (cs := #[.slice Ao11 t865.length co11, .slice none 0 0]) ?_ 1 _ rfl; (with_reducible repeat (first | refine xq ?_ _ | refine xr ?_ | refine xo ?_ _)); refine blk_put (cs := #[.slice none 0 0, .slice none 0 0]) ?_ 0 _ rfl; (with_reducible repeat (first | refine xq ?_ _ | refine xr ?_ | refine xo ?_ _)); refine blk_far ?_ NB863_864.out _; (with_reducible repeat (first | refine xq ?_ _ | refine xr ?_ | refine xo ?_ _)); exact BK863.out) Try.underlying85 rfl (by kernel_rfl)) rfl ?_
 exact ⟨_, _, by first | rfl | (simp [errW_none, errW_some] <;> rfl) | (simp [*, errW_none, errW_some] <;> rfl), by (with_reducible repeat (first | apply Kd.R_alloc | apply Kd.R_drewN | apply Kd.R_drew)); exact Kd.R_mono (Kd.R_far (p := ⟨gb863, 1, none⟩) (Kd.R_far (p := ⟨gb863, 0, none⟩) (Kd.R_far (p := ⟨gb864, 1, none⟩) (Kd.R_types (Kd.R_types HO867.out BK864.out (by decide)) BK863.out (by decide)) (fun _ hk => hk.1.2) (.slice Ao16 t868.length co16)) (fun _ hk => hk.2) (.slice Ao11 t865.length co11)) (fun _ hk => hk.2) (.slice Ao16 t868.length co16)) (fun _ hk => trivial), by (with_reducible repeat (first | apply Kd.S_alloc | apply Kd.S_drewN | apply Kd.S_drew)); exact Kd.S_mono (Kd.S_far (p := ⟨gb863, 1, none⟩) (Kd.S_far (p := ⟨gb863, 0, none⟩) (Kd.S_far (p := ⟨gb864, 1, none⟩) (Kd.S_types (Kd.S_types HO870.out BK864.out (by decide)) BK863.out (by decide)) (fun _ hk => hk.1.2) (.slice Ao16 t868.length co16)) (fun _ hk => hk.2) (.slice Ao11 t865.length co11)) (fun _ hk => hk.2) (.slice Ao16 t868.length co16)) (fun _ hk => trivial), by repeat (first | (with_reducible first | exact HB.out | apply xa | apply xn | apply xd | refine xt ?_ GE862.out | refine xt ?_ GE863.out | refine xt ?_ GE864.out) | exact HB.out)⟩

end Go.Proofs.Ytpbpglbldgpckaa.G
