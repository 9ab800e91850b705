/- Written by a program of this claim's own, out of the translation: functions of the program as plain functions, and that the calls answer as these. No conditions. -/
import Derived.Test.YtpbpglbldgpckaaG0
import Derived.Test.YtpbpglbldgpckaaG6
import Derived.Test.YtpbpglbldgpckaaG47
namespace Go.Proofs.Ytpbpglbldgpckaa.G
open Go.RowKit Go.Proofs.Ytpbpglbldgpckaa.X Go.Proofs.YtpbpglbldgpckaaW.PrintWords Go.Proofs.YtpbpglbldgpckaaW.PrintLast Go.Proofs.YtpbpglbldgpckaaW.PrintMore
attribute [local go_sem] max2_int min2_int max_two min_two max_three min_three max_four min_four   -- for this text's walks alone
set_option linter.unusedVariables false
set_option linter.unusedSimpArgs false

/-! ### spec_GoodSnap: function 56 -/
mutual
def spec_GoodSnap.j0 : Nat → Int → Bool → List (S138) → List (S140) → Option (Bool)
 | 0, _, _, _, _ => none
 | k + 1, x3, x27, x817000, x817001 => if x27 = true then (some false) else (spec_GoodSnap.l0 k x3 0 x817000 (x817000.length : Int) 0 x817000 x817001)
def spec_GoodSnap.l0 : Nat → Int → Int → List (S138) → Int → Int → List (S138) → List (S140) → Option (Bool)
 | 0, _, _, _, _, _, _, _ => none
 | k + 1, x3, x4, x29, x30, x31, x817000, x817001 => if x31 < x30 then (if 0 ≤ x31 then (if x31 < (x29.length : Int) then ((spec_l1In.f ((rd_T138 x29 x31).f0) 0 2000000000).bind fun t820 => (if t820 = true then ((spec_l1In.f ((rd_T138 x29 x31).f1) 0 2000000000).bind fun t821 => (if t821 = true then (if ((rd_T138 x29 x31).f2 = true) then (spec_GoodSnap.l0 k x3 (wrap64 (x4 + (wrap64 (((rd_T138 x29 x31).f0) + ((rd_T138 x29 x31).f1))))) x29 x30 (wrap64 (x31 + 1)) x817000 x817001) else (if ((rd_T138 x29 x31).f1) = 0 then (spec_GoodSnap.l0 k x3 (wrap64 (x4 + (wrap64 (((rd_T138 x29 x31).f0) + ((rd_T138 x29 x31).f1))))) x29 x30 (wrap64 (x31 + 1)) x817000 x817001) else (some false))) else (some false))) else (some false))) else (none)) else (none)) else (spec_GoodSnap.l1 k x3 x4 x817001 (x817001.length : Int) 0 x817000 x817001)
def spec_GoodSnap.l1 : Nat → Int → Int → List (S140) → Int → Int → List (S138) → List (S140) → Option (Bool)
 | 0, _, _, _, _, _, _, _ => none
 | k + 1, x3, x4, x64, x65, x66, x817000, x817001 => if x66 < x65 then (if 0 ≤ x66 then (if x66 < (x64.length : Int) then (spec_GoodSnap.l2 k x3 x4 x66 x64 x65 x66 ((rd_T140 x64 x66).f0) (((rd_T140 x64 x66).f0).length : Int) 0 x817000 x817001 ((rd_T140 x64 x66).f0) ((rd_T140 x64 x66).f1) ((rd_T140 x64 x66).f2)) else (none)) else (none)) else (some (decide (x4 ≤ 2000000000)))
def spec_GoodSnap.l2 : Nat → Int → Int → Int → List (S140) → Int → Int → List Int → Int → Int → List (S138) → List (S140) → List Int → List Int → Bool → Option (Bool)
 | 0, _, _, _, _, _, _, _, _, _, _, _, _, _, _ => none
 | k + 1, x3, x4, x7, x64, x65, x66, x72, x73, x74, x817000, x817001, x824000, x824001, x824002 => if x74 < x73 then (if 0 ≤ x74 then (if x74 < (x72.length : Int) then ((spec_l15Amount.f (rd x72 x74)).bind fun t825 => (if t825 = true then (spec_GoodSnap.l2 k x3 (wrap64 (x4 + (rd x72 x74))) x7 x64 x65 x66 x72 x73 (wrap64 (x74 + 1)) x817000 x817001 x824000 x824001 x824002) else (some false))) else (none)) else (none)) else (spec_GoodSnap.l3 k x3 x4 x7 x64 x65 x66 x824001 (x824001.length : Int) 0 x817000 x817001 x824000 x824001 x824002)
def spec_GoodSnap.l3 : Nat → Int → Int → Int → List (S140) → Int → Int → List Int → Int → Int → List (S138) → List (S140) → List Int → List Int → Bool → Option (Bool)
 | 0, _, _, _, _, _, _, _, _, _, _, _, _, _, _ => none
 | k + 1, x3, x4, x7, x64, x65, x66, x86, x87, x88, x817000, x817001, x824000, x824001, x824002 => if x88 < x87 then (if 0 ≤ x88 then (if x88 < (x86.length : Int) then (if (rd x86 x88) = 0 then (some false) else ((spec_l15Amount.f (rd x86 x88)).bind fun t827 => (if t827 = true then (spec_GoodSnap.l3 k x3 (wrap64 (x4 + (rd x86 x88))) x7 x64 x65 x66 x86 x87 (wrap64 (x88 + 1)) x817000 x817001 x824000 x824001 x824002) else (some false)))) else (none)) else (none)) else (if (x824000.length : Int) > 12 then (some false) else (if (x824001.length : Int) > 200 then (some false) else (if x3 = 0 then (none) else (if (wrap64 (Int.tdiv x7 x3)) = (Int.tmod x7 x3) then (if (x824000.length : Int) > 0 then (some false) else (if (x824001.length : Int) > 0 then (some false) else (if x824002 = true then (some false) else (if 0 ≤ (Int.tmod x7 x3) then (if (Int.tmod x7 x3) < (x817000.length : Int) then (if ((rd_T138 x817000 (Int.tmod x7 x3)).f2 = true) then (spec_GoodSnap.l1 k x3 x4 x64 x65 (wrap64 (x66 + 1)) x817000 x817001) else (spec_GoodSnap.l1 k x3 x4 x64 x65 (wrap64 (x66 + 1)) x817000 x817001)) else (none)) else (none))))) else (if 0 ≤ (Int.tmod x7 x3) then (if (Int.tmod x7 x3) < (x817000.length : Int) then (if ((rd_T138 x817000 (Int.tmod x7 x3)).f2 = true) then (spec_GoodSnap.l1 k x3 x4 x64 x65 (wrap64 (x66 + 1)) x817000 x817001) else (if x824002 = true then (some false) else (if (x824001.length : Int) > 0 then (some false) else (spec_GoodSnap.l1 k x3 x4 x64 x65 (wrap64 (x66 + 1)) x817000 x817001)))) else (none)) else (none))))))
end
def spec_GoodSnap.f (k : Nat) (l0_0 : List (S138)) (l0_1 : List (S140)) : Option (Bool) := (spec_l1In.f (l0_0.length : Int) 2 4).bind fun t817 => (if t817 = true then (spec_GoodSnap.j0 k (l0_0.length : Int) ((l0_1.length : Int) != (wrap64 ((l0_0.length : Int) * (l0_0.length : Int)))) l0_0 l0_1) else (spec_GoodSnap.j0 k (l0_0.length : Int) true l0_0 l0_1))
theorem spec_GoodSnap.mono_l : ∀ k, (∀ y0 y1 y2 y3, LeO (spec_GoodSnap.j0 k y0 y1 y2 y3) (spec_GoodSnap.j0 (k + 1) y0 y1 y2 y3)) ∧ (∀ y0 y1 y2 y3 y4 y5 y6, LeO (spec_GoodSnap.l0 k y0 y1 y2 y3 y4 y5 y6) (spec_GoodSnap.l0 (k + 1) y0 y1 y2 y3 y4 y5 y6)) ∧ (∀ y0 y1 y2 y3 y4 y5 y6, LeO (spec_GoodSnap.l1 k y0 y1 y2 y3 y4 y5 y6) (spec_GoodSnap.l1 (k + 1) y0 y1 y2 y3 y4 y5 y6)) ∧ (∀ y0 y1 y2 y3 y4 y5 y6 y7 y8 y9 y10 y11 y12 y13, LeO (spec_GoodSnap.l2 k y0 y1 y2 y3 y4 y5 y6 y7 y8 y9 y10 y11 y12 y13) (spec_GoodSnap.l2 (k + 1) y0 y1 y2 y3 y4 y5 y6 y7 y8 y9 y10 y11 y12 y13)) ∧ (∀ y0 y1 y2 y3 y4 y5 y6 y7 y8 y9 y10 y11 y12 y13, LeO (spec_GoodSnap.l3 k y0 y1 y2 y3 y4 y5 y6 y7 y8 y9 y10 y11 y12 y13) (spec_GoodSnap.l3 (k + 1) y0 y1 y2 y3 y4 y5 y6 y7 y8 y9 y10 y11 y12 y13))
 | 0 => ⟨fun _ _ _ _ r h => by simp [spec_GoodSnap.j0] at h, fun _ _ _ _ _ _ _ r h => by simp [spec_GoodSnap.l0] at h, fun _ _ _ _ _ _ _ r h => by simp [spec_GoodSnap.l1] at h, fun _ _ _ _ _ _ _ _ _ _ _ _ _ _ r h => by simp [spec_GoodSnap.l2] at h, fun _ _ _ _ _ _ _ _ _ _ _ _ _ _ r h => by simp [spec_GoodSnap.l3] at h⟩
 | k + 1 => by
  obtain ⟨ih0, ih1, ih2, ih3, ih4⟩ := spec_GoodSnap.mono_l k
  refine ⟨?_, ?_, ?_, ?_, ?_⟩
  ·intro y0 y1 y2 y3
   unfold spec_GoodSnap.j0
   repeat' first
   | (with_reducible exact ih0 _ _ _ _)
   | (with_reducible exact ih1 _ _ _ _ _ _ _)
   | (with_reducible exact ih2 _ _ _ _ _ _ _)
   | (with_reducible exact ih3 _ _ _ _ _ _ _ _ _ _ _ _ _ _)
   | (with_reducible exact ih4 _ _ _ _ _ _ _ _ _ _ _ _ _ _)
   | (with_reducible exact LeO.refl _)
   | (with_reducible exact LeO.none _)
   | (with_reducible refine LeO.ite ?_ ?_)
   | (with_reducible refine LeO.bind ?_ (fun _ => ?_))
   | exact ih0 _ _ _ _
   | exact ih1 _ _ _ _ _ _ _
   | exact ih2 _ _ _ _ _ _ _
   | exact ih3 _ _ _ _ _ _ _ _ _ _ _ _ _ _
   | exact ih4 _ _ _ _ _ _ _ _ _ _ _ _ _ _
   | exact LeO.none _
   | refine LeO.ite ?_ ?_
   | refine LeO.bind ?_ (fun _ => ?_)
  ·intro y0 y1 y2 y3 y4 y5 y6
   unfold spec_GoodSnap.l0
   repeat' first
   | (with_reducible exact ih0 _ _ _ _)
   | (with_reducible exact ih1 _ _ _ _ _ _ _)
   | (with_reducible exact ih2 _ _ _ _ _ _ _)
   | (with_reducible exact ih3 _ _ _ _ _ _ _ _ _ _ _ _ _ _)
   | (with_reducible exact ih4 _ _ _ _ _ _ _ _ _ _ _ _ _ _)
   | (with_reducible exact LeO.refl _)
   | (with_reducible exact LeO.none _)
   | (with_reducible refine LeO.ite ?_ ?_)
   | (with_reducible refine LeO.bind ?_ (fun _ => ?_))
   | exact ih0 _ _ _ _
   | exact ih1 _ _ _ _ _ _ _
   | exact ih2 _ _ _ _ _ _ _
   | exact ih3 _ _ _ _ _ _ _ _ _ _ _ _ _ _
   | exact ih4 _ _ _ _ _ _ _ _ _ _ _ _ _ _
   | exact LeO.none _
   | refine LeO.ite ?_ ?_
   | refine LeO.bind ?_ (fun _ => ?_)
  ·intro y0 y1 y2 y3 y4 y5 y6
   unfold spec_GoodSnap.l1
   repeat' first
   | (with_reducible exact ih0 _ _ _ _)
   | (with_reducible exact ih1 _ _ _ _ _ _ _)
   | (with_reducible exact ih2 _ _ _ _ _ _ _)
   | (with_reducible exact ih3 _ _ _ _ _ _ _ _ _ _ _ _ _ _)
   | (with_reducible exact ih4 _ _ _ _ _ _ _ _ _ _ _ _ _ _)
   | (with_reducible exact LeO.refl _)
   | (with_reducible exact LeO.none _)
   | (with_reducible refine LeO.ite ?_ ?_)
   | (with_reducible refine LeO.bind ?_ (fun _ => ?_))
   | exact ih0 _ _ _ _
   | exact ih1 _ _ _ _ _ _ _
   | exact ih2 _ _ _ _ _ _ _
   | exact ih3 _ _ _ _ _ _ _ _ _ _ _ _ _ _
   | exact ih4 _ _ _ _ _ _ _ _ _ _ _ _ _ _
   | exact LeO.none _
   | refine LeO.ite ?_ ?_
   | refine LeO.bind ?_ (fun _ => ?_)
  ·intro y0 y1 y2 y3 y4 y5 y6 y7 y8 y9 y10 y11 y12 y13
   unfold spec_GoodSnap.l2
   repeat' first
   | (with_reducible exact ih0 _ _ _ _)
   | (with_reducible exact ih1 _ _ _ _ _ _ _)
   | (with_reducible exact ih2 _ _ _ _ _ _ _)
   | (with_reducible exact ih3 _ _ _ _ _ _ _ _ _ _ _ _ _ _)
   | (with_reducible exact ih4 _ _ _ _ _ _ _ _ _ _ _ _ _ _)
   | (with_reducible exact LeO.refl _)
   | (with_reducible exact LeO.none _)
   | (with_reducible refine LeO.ite ?_ ?_)
   | (with_reducible refine LeO.bind ?_ (fun _ => ?_))
   | exact ih0 _ _ _ _
   | exact ih1 _ _ _ _ _ _ _
   | exact ih2 _ _ _ _ _ _ _
   | exact ih3 _ _ _ _ _ _ _ _ _ _ _ _ _ _
   | exact ih4 _ _ _ _ _ _ _ _ _ _ _ _ _ _
   | exact LeO.none _
   | refine LeO.ite ?_ ?_
   | refine LeO.bind ?_ (fun _ => ?_)
  ·intro y0 y1 y2 y3 y4 y5 y6 y7 y8 y9 y10 y11 y12 y13
   unfold spec_GoodSnap.l3
   repeat' first
   | (with_reducible exact ih0 _ _ _ _)
   | (with_reducible exact ih1 _ _ _ _ _ _ _)
   | (with_reducible exact ih2 _ _ _ _ _ _ _)
   | (with_reducible exact ih3 _ _ _ _ _ _ _ _ _ _ _ _ _ _)
   | (with_reducible exact ih4 _ _ _ _ _ _ _ _ _ _ _ _ _ _)
   | (with_reducible exact LeO.refl _)
   | (with_reducible exact LeO.none _)
   | (with_reducible refine LeO.ite ?_ ?_)
   | (with_reducible refine LeO.bind ?_ (fun _ => ?_))
   | exact ih0 _ _ _ _
   | exact ih1 _ _ _ _ _ _ _
   | exact ih2 _ _ _ _ _ _ _
   | exact ih3 _ _ _ _ _ _ _ _ _ _ _ _ _ _
   | exact ih4 _ _ _ _ _ _ _ _ _ _ _ _ _ _
   | exact LeO.none _
   | refine LeO.ite ?_ ?_
   | refine LeO.bind ?_ (fun _ => ?_)
theorem spec_GoodSnap.mono : ∀ a0 a1 k, LeO (spec_GoodSnap.f k a0 a1) (spec_GoodSnap.f (k + 1) a0 a1) := by
 intro a0 a1 k
 obtain ⟨ih0, ih1, ih2, ih3, ih4⟩ := spec_GoodSnap.mono_l k
 unfold spec_GoodSnap.f
 repeat' first
   | (with_reducible exact ih0 _ _ _ _)
   | (with_reducible exact ih1 _ _ _ _ _ _ _)
   | (with_reducible exact ih2 _ _ _ _ _ _ _)
   | (with_reducible exact ih3 _ _ _ _ _ _ _ _ _ _ _ _ _ _)
   | (with_reducible exact ih4 _ _ _ _ _ _ _ _ _ _ _ _ _ _)
   | (with_reducible exact LeO.refl _)
   | (with_reducible exact LeO.none _)
   | (with_reducible refine LeO.ite ?_ ?_)
   | (with_reducible refine LeO.bind ?_ (fun _ => ?_))
   | exact ih0 _ _ _ _
   | exact ih1 _ _ _ _ _ _ _
   | exact ih2 _ _ _ _ _ _ _
   | exact ih3 _ _ _ _ _ _ _ _ _ _ _ _ _ _
   | exact ih4 _ _ _ _ _ _ _ _ _ _ _ _ _ _
   | exact LeO.none _
   | refine LeO.ite ?_ ?_
   | refine LeO.bind ?_ (fun _ => ?_)
set_option maxHeartbeats 8000000 in
set_option maxRecDepth 100000 in
theorem spec_GoodSnap.calls (k : Nat) (A0_0 : Option Addr) (c0_0 : Nat) (l0_0 : List (S138)) (A0_1 : Option Addr) (c0_1 : Nat) (l0_1 : List (S140)) (r : Bool) (w : World) (hr0_0 : Kd.C k138 w A0_0 l0_0.length l0_0) (hc0_0 : l0_0.length ≤ c0_0) (hr0_1 : Kd.C k140 w A0_1 l0_1.length l0_1) (hc0_1 : l0_1.length ≤ c0_1) (h : spec_GoodSnap.f k l0_0 l0_1 = some r) :
  Calls Try.prog 56 #[.agg #[.slice A0_0 l0_0.length c0_0, .slice A0_1 l0_1.length c0_1]] w fun e w' => e = .returned (.bool r) ∧ Below w.heap.size w w' := by
 have hu85 := Try.underlying85
 have hu138 := Try.underlying138
 have hu140 := Try.underlying140
 have HR0_0 := xm hr0_0
 have HC0_0 := xm hc0_0
 clear hr0_0 hc0_0
 have HR0_1 := xm hr0_1
 have HC0_1 := xm hc0_1
 clear hr0_1 hc0_1
 have HB := xm (Below.refl w.heap.size w)
 have H : ((spec_l1In.f (l0_0.length : Int) 2 4).bind fun t817 => (if t817 = true then (spec_GoodSnap.j0 k (l0_0.length : Int) ((l0_1.length : Int) != (wrap64 ((l0_0.length : Int) * (l0_0.length : Int)))) l0_0 l0_1) else (spec_GoodSnap.j0 k (l0_0.length : Int) true l0_0 l0_1))) = some r := h
 clear h
 have HC2 := xm H
 clear H
 go_enter Try.func56, Try.ntmps56
 go_upto_region 2 with (first | ((with_reducible refine gate_dst (N := 1) rfl ?_); (try (refine gate_guard (by rfl) ?_; dsimp only)); refine box_event ?hg (N := 1) ?hd (cs := #[.slice A0_0 l0_0.length c0_0, .slice A0_1 l0_1.length c0_1]) (t := 85) ?hr ?_; (case hd => rfl); (case hg => rfl); (case hr => first | (go_simp; done) | (go_simp; rfl)); intro gb816 hg w3 hbox hb; have n0_ := xm (below_step (by repeat (first | (with_reducible first | exact HB.out | apply xa | apply xn | apply xd) | exact HB.out)) hb); have n1_ := xm (hbox); have n2_ := xm ((by rw [hg]; exact (xz (by repeat (first | (with_reducible first | exact HB.out | apply xa | apply xn | apply xd) | exact HB.out))) : w.heap.size ≤ gb816)); have n3_ := xm ((by rw [hg]; exact (xz (by repeat (first | (with_reducible first | exact HB.out | apply xa | apply xn | apply xd) | exact HB.out))) : w.heap.size ≤ gb816)); clear HB; have HB := n0_; have BK816 := n1_; have GW816 := n2_; have GE816 := n3_; clear n0_ n1_ n2_ n3_; clear hb hbox hg; have hcz4_0 : w3.cell? ⟨gb816, 0, none⟩ = some (.slice A0_0 l0_0.length c0_0) := (xc BK816.out 0).trans rfl; have hcz4_1 : w3.cell? ⟨gb816, 1, none⟩ = some (.slice A0_1 l0_1.length c0_1) := (xc BK816.out 1).trans rfl; have hfz4_0 := xf BK816.out 0; have hfz4_1 := xf BK816.out 1))
 repeat (go_quiet (first | ((with_reducible refine gate_dst (N := 1) rfl ?_); (try (refine gate_guard (by rfl) ?_; dsimp only)); refine box_event ?hg (N := 1) ?hd (cs := #[.slice A0_0 l0_0.length c0_0, .slice A0_1 l0_1.length c0_1]) (t := 85) ?hr ?_; (case hd => rfl); (case hg => rfl); (case hr => first | (go_simp; done) | (go_simp; rfl)); intro gb816 hg w3 hbox hb; have n0_ := xm (below_step (by repeat (first | (with_reducible first | exact HB.out | apply xa | apply xn | apply xd) | exact HB.out)) hb); have n1_ := xm (hbox); have n2_ := xm ((by rw [hg]; exact (xz (by repeat (first | (with_reducible first | exact HB.out | apply xa | apply xn | apply xd) | exact HB.out))) : w.heap.size ≤ gb816)); have n3_ := xm ((by rw [hg]; exact (xz (by repeat (first | (with_reducible first | exact HB.out | apply xa | apply xn | apply xd) | exact HB.out))) : w.heap.size ≤ gb816)); clear HB; have HB := n0_; have BK816 := n1_; have GW816 := n2_; have GE816 := n3_; clear n0_ n1_ n2_ n3_; clear hb hbox hg; have hcz4_0 : w3.cell? ⟨gb816, 0, none⟩ = some (.slice A0_0 l0_0.length c0_0) := (xc BK816.out 0).trans rfl; have hcz4_1 : w3.cell? ⟨gb816, 1, none⟩ = some (.slice A0_1 l0_1.length c0_1) := (xc BK816.out 1).trans rfl; have hfz4_0 := xf BK816.out 0; have hfz4_1 := xf BK816.out 1)); go_upto_region 2 with (first | ((with_reducible refine gate_dst (N := 1) rfl ?_); (try (refine gate_guard (by rfl) ?_; dsimp only)); refine box_event ?hg (N := 1) ?hd (cs := #[.slice A0_0 l0_0.length c0_0, .slice A0_1 l0_1.length c0_1]) (t := 85) ?hr ?_; (case hd => rfl); (case hg => rfl); (case hr => first | (go_simp; done) | (go_simp; rfl)); intro gb816 hg w3 hbox hb; have n0_ := xm (below_step (by repeat (first | (with_reducible first | exact HB.out | apply xa | apply xn | apply xd) | exact HB.out)) hb); have n1_ := xm (hbox); have n2_ := xm ((by rw [hg]; exact (xz (by repeat (first | (with_reducible first | exact HB.out | apply xa | apply xn | apply xd) | exact HB.out))) : w.heap.size ≤ gb816)); have n3_ := xm ((by rw [hg]; exact (xz (by repeat (first | (with_reducible first | exact HB.out | apply xa | apply xn | apply xd) | exact HB.out))) : w.heap.size ≤ gb816)); clear HB; have HB := n0_; have BK816 := n1_; have GW816 := n2_; have GE816 := n3_; clear n0_ n1_ n2_ n3_; clear hb hbox hg; have hcz4_0 : w3.cell? ⟨gb816, 0, none⟩ = some (.slice A0_0 l0_0.length c0_0) := (xc BK816.out 0).trans rfl; have hcz4_1 : w3.cell? ⟨gb816, 1, none⟩ = some (.slice A0_1 l0_1.length c0_1) := (xc BK816.out 1).trans rfl; have hfz4_0 := xf BK816.out 0; have hfz4_1 := xf BK816.out 1)))
 (try simp only [Act.put, xi, xj, xk])
 go_cut [27] (fun v27 wc => ∃ (kq : Nat) (x27_1 : Bool), v27 = .bool x27_1 ∧ Aside0 (spec_GoodSnap.j0 kq (l0_0.length : Int) x27_1 l0_0 l0_1 = some r) ∧ Aside0 (kq ≤ k) ∧ Aside0 (wc.heap[gb816]? = some (.cells #[(.slice A0_0 l0_0.length c0_0), (.slice A0_1 l0_1.length c0_1)] 85 (0, 0))) ∧ Aside0 (Below w.heap.size w wc))
 case first =>
  have H := HC2.out
  clear HC2
  replace H := Option.bind_eq_some_iff.mp H
  obtain ⟨t817, A50, H⟩ := H
  replace H : (if t817 = true then (spec_GoodSnap.j0 k (l0_0.length : Int) ((l0_1.length : Int) != (wrap64 ((l0_0.length : Int) * (l0_0.length : Int)))) l0_0 l0_1) else (spec_GoodSnap.j0 k (l0_0.length : Int) true l0_0 l0_1)) = some r := H
  have A5 := xm A50
  clear A50
  by_cases c6 : t817 = true
  ·subst c6
   have H1 : (spec_GoodSnap.j0 k (l0_0.length : Int) ((l0_1.length : Int) != (wrap64 ((l0_0.length : Int) * (l0_0.length : Int)))) l0_0 l0_1) = some r := by first | (with_reducible rfl) | (rw [if_pos rfl] at H; exact H)
   clear H
   have H := H1
   clear H1
   have H' := xm H
   clear H
   go_wp2_with (first | (go_at_call 102; (with_reducible refine (spec_l1In.calls (l0_0.length : Int) 2 4 true _ A5.out).mono ?_); rintro e w' ⟨rfl, ⟨nd, rfl⟩⟩; (try first | exact ⟨rfl, _, World.drewN_drewN _ _ _⟩ | exact ⟨rfl, _, Eq.trans (World.drewN_drewN _ _ _) (congrArg (World.drewN _) (Nat.add_assoc _ _ _))⟩); have hcz7_0 : w3.cell? ⟨gb816, 0, none⟩ = some (.slice A0_0 l0_0.length c0_0) := (xc BK816.out 0).trans rfl; have hcz7_1 : w3.cell? ⟨gb816, 1, none⟩ = some (.slice A0_1 l0_1.length c0_1) := (xc BK816.out 1).trans rfl; have hfz7_0 := xf BK816.out 0; have hfz7_1 := xf BK816.out 1))
   repeat (go_quiet (first | (go_at_call 102; (with_reducible refine (spec_l1In.calls (l0_0.length : Int) 2 4 true _ A5.out).mono ?_); rintro e w' ⟨rfl, ⟨nd, rfl⟩⟩; (try first | exact ⟨rfl, _, World.drewN_drewN _ _ _⟩ | exact ⟨rfl, _, Eq.trans (World.drewN_drewN _ _ _) (congrArg (World.drewN _) (Nat.add_assoc _ _ _))⟩); have hcz7_0 : w3.cell? ⟨gb816, 0, none⟩ = some (.slice A0_0 l0_0.length c0_0) := (xc BK816.out 0).trans rfl; have hcz7_1 : w3.cell? ⟨gb816, 1, none⟩ = some (.slice A0_1 l0_1.length c0_1) := (xc BK816.out 1).trans rfl; have hfz7_0 := xf BK816.out 0; have hfz7_1 := xf BK816.out 1)); try go_wp2_with (first | (go_at_call 102; (with_reducible refine (spec_l1In.calls (l0_0.length : Int) 2 4 true _ A5.out).mono ?_); rintro e w' ⟨rfl, ⟨nd, rfl⟩⟩; (try first | exact ⟨rfl, _, World.drewN_drewN _ _ _⟩ | exact ⟨rfl, _, Eq.trans (World.drewN_drewN _ _ _) (congrArg (World.drewN _) (Nat.add_assoc _ _ _))⟩); have hcz7_0 : w3.cell? ⟨gb816, 0, none⟩ = some (.slice A0_0 l0_0.length c0_0) := (xc BK816.out 0).trans rfl; have hcz7_1 : w3.cell? ⟨gb816, 1, none⟩ = some (.slice A0_1 l0_1.length c0_1) := (xc BK816.out 1).trans rfl; have hfz7_0 := xf BK816.out 0; have hfz7_1 := xf BK816.out 1)))
   go_meet
   case rel => exact ⟨_, (((l0_1.length : Int) != (wrap64 ((l0_0.length : Int) * (l0_0.length : Int))))), (by first | rfl | (simp; done) | (simp [*]; done)), H', ⟨by first | omega | exact Nat.le_refl _⟩, ⟨by (with_reducible repeat (first | refine xq ?_ _ | refine xr ?_ | refine xo ?_ _)); exact BK816.out⟩, ⟨by repeat (first | (with_reducible first | exact HB.out | apply xa | apply xn | apply xd | refine xt ?_ GE816.out) | exact HB.out)⟩⟩
  ·replace c6 := Bool.eq_false_iff.mpr c6
   subst c6
   have H1 : (spec_GoodSnap.j0 k (l0_0.length : Int) true l0_0 l0_1) = some r := by first | (with_reducible rfl) | (rw [if_neg (show ¬ (false = true) by decide)] at H; exact H)
   clear H
   have H := H1
   clear H1
   have H' := xm H
   clear H
   go_wp2_with (first | (go_at_call 102; (with_reducible refine (spec_l1In.calls (l0_0.length : Int) 2 4 false _ A5.out).mono ?_); rintro e w' ⟨rfl, ⟨nd, rfl⟩⟩; (try first | exact ⟨rfl, _, World.drewN_drewN _ _ _⟩ | exact ⟨rfl, _, Eq.trans (World.drewN_drewN _ _ _) (congrArg (World.drewN _) (Nat.add_assoc _ _ _))⟩)))
   repeat (go_quiet (first | (go_at_call 102; (with_reducible refine (spec_l1In.calls (l0_0.length : Int) 2 4 false _ A5.out).mono ?_); rintro e w' ⟨rfl, ⟨nd, rfl⟩⟩; (try first | exact ⟨rfl, _, World.drewN_drewN _ _ _⟩ | exact ⟨rfl, _, Eq.trans (World.drewN_drewN _ _ _) (congrArg (World.drewN _) (Nat.add_assoc _ _ _))⟩))); try go_wp2_with (first | (go_at_call 102; (with_reducible refine (spec_l1In.calls (l0_0.length : Int) 2 4 false _ A5.out).mono ?_); rintro e w' ⟨rfl, ⟨nd, rfl⟩⟩; (try first | exact ⟨rfl, _, World.drewN_drewN _ _ _⟩ | exact ⟨rfl, _, Eq.trans (World.drewN_drewN _ _ _) (congrArg (World.drewN _) (Nat.add_assoc _ _ _))⟩))))
   go_meet
   case rel => exact ⟨_, (true), (by first | rfl | (simp; done) | (simp [*]; done)), H', ⟨by first | omega | exact Nat.le_refl _⟩, ⟨by (with_reducible repeat (first | refine xq ?_ _ | refine xr ?_ | refine xo ?_ _)); exact BK816.out⟩, ⟨by repeat (first | (with_reducible first | exact HB.out | apply xa | apply xn | apply xd | refine xt ?_ GE816.out) | exact HB.out)⟩⟩
 case rest =>
  clear HC2
  try clear p2
  try clear c5
  try clear c6
  try clear p6
  try clear hcz4_0
  try clear hcz4_1
  try clear hcz7_0
  try clear hcz7_1
  try clear hfz4_0
  try clear hfz4_1
  try clear hfz7_0
  try clear hfz7_1
  obtain ⟨kq, x27_1, rfl, HA, HJ1, BK816, HB⟩ := hcut
  cases kq with
  | zero => exact absurd HA.out (by simp [spec_GoodSnap.j0])
  | succ kj1 =>
   have H := HA.out
   clear HA
   simp only [spec_GoodSnap.j0] at H
   by_cases c8 : x27_1 = true
   ·subst c8
    have H1 : (some false) = some r := by first | (with_reducible rfl) | (rw [if_pos rfl] at H; exact H)
    clear H
    have H := H1
    clear H1
    obtain rfl := Option.some.inj H
    go_wp2
    repeat (go_quiet (fail); try go_wp2)
    go_ret
    exact ⟨by first | rfl | (simp [errW_none, errW_some] <;> rfl) | (simp [*, errW_none, errW_some] <;> rfl), by repeat (first | (with_reducible first | exact HB.out | apply xa | apply xn | apply xd | refine xt ?_ GE816.out) | exact HB.out)⟩
   ·replace c8 := Bool.eq_false_iff.mpr c8
    subst c8
    have H1 : (spec_GoodSnap.l0 kj1 (l0_0.length : Int) 0 l0_0 (l0_0.length : Int) 0 l0_0 l0_1) = some r := by first | (with_reducible rfl) | (rw [if_neg (show ¬ (false = true) by decide)] at H; exact H)
    clear H
    have H := H1
    clear H1
    have H' := xm H
    clear H
    have hcz9_0 : wc.cell? ⟨gb816, 0, none⟩ = some (.slice A0_0 l0_0.length c0_0) := (xc BK816.out 0).trans rfl
    have hcz9_1 : wc.cell? ⟨gb816, 1, none⟩ = some (.slice A0_1 l0_1.length c0_1) := (xc BK816.out 1).trans rfl
    have hfz9_0 := xf BK816.out 0
    have hfz9_1 := xf BK816.out 1
    go_wp2
    repeat (go_quiet (fail); try go_wp2)
    go_loopg [4, 31] kj1 (fun kq v4 v31 w' => ∃ (x4_2 : Int) (x31_2 : Int), v4 = .int .i64 x4_2 ∧ v31 = .int .i64 x31_2 ∧ Aside0 (spec_GoodSnap.l0 kq (l0_0.length : Int) x4_2 l0_0 (l0_0.length : Int) x31_2 l0_0 l0_1 = some r) ∧ Aside0 (kq ≤ kj1) ∧ Aside0 (w'.heap[gb816]? = some (.cells #[(.slice A0_0 l0_0.length c0_0), (.slice A0_1 l0_1.length c0_1)] 85 (0, 0))) ∧ Aside0 (Below w.heap.size w w'))
    case atStart => exact ⟨(0), (0), (by first | rfl | (simp; done) | (simp [*]; done)), (by first | rfl | (simp; done) | (simp [*]; done)), H', ⟨Nat.le_refl _⟩, ⟨by (with_reducible repeat (first | refine xq ?_ _ | refine xr ?_ | refine xo ?_ _)); exact BK816.out⟩, ⟨by repeat (first | (with_reducible first | exact HB.out | apply xa | apply xn | apply xd | refine xt ?_ GE816.out) | exact HB.out)⟩⟩
    case round =>
     clear H'
     try clear p2
     try clear c5
     try clear c6
     try clear p6
     try clear c8
     try clear hcz4_0
     try clear hcz4_1
     try clear hcz7_0
     try clear hcz7_1
     try clear hcz9_0
     try clear hcz9_1
     try clear hfz4_0
     try clear hfz4_1
     try clear hfz7_0
     try clear hfz7_1
     try clear hfz9_0
     try clear hfz9_1
     try clear p2
     try clear p6
     obtain ⟨x4_2, x31_2, rfl, rfl, HA, HK2, BK816, HB⟩ := hrel
     cases gk with
     | zero => exact absurd HA.out (by simp [spec_GoodSnap.l0])
     | succ k2 =>
      have H := HA.out
      clear HA
      simp only [spec_GoodSnap.l0] at H
      by_cases c10 : x31_2 < (l0_0.length : Int)
      ·rw [if_pos c10] at H
       have c10b0 : decide (x31_2 < (l0_0.length : Int)) = true := decide_eq_true c10
       clear c10
       by_cases c11 : 0 ≤ x31_2
       ·rw [if_pos c11] at H
        have c11b0 : decide (0 ≤ x31_2) = true := decide_eq_true c11
        clear c11
        by_cases c12 : x31_2 < (l0_0.length : Int)
        ·rw [if_pos c12] at H
         have c12b0 : decide (x31_2 < (l0_0.length : Int)) = true := decide_eq_true c12
         clear c12
         replace H := Option.bind_eq_some_iff.mp H
         obtain ⟨t820, A130, H⟩ := H
         replace H : (if t820 = true then ((spec_l1In.f ((rd_T138 l0_0 x31_2).f1) 0 2000000000).bind fun t821 => (if t821 = true then (if ((rd_T138 l0_0 x31_2).f2 = true) then (spec_GoodSnap.l0 k2 (l0_0.length : Int) (wrap64 (x4_2 + (wrap64 (((rd_T138 l0_0 x31_2).f0) + ((rd_T138 l0_0 x31_2).f1))))) l0_0 (l0_0.length : Int) (wrap64 (x31_2 + 1)) l0_0 l0_1) else (if ((rd_T138 l0_0 x31_2).f1) = 0 then (spec_GoodSnap.l0 k2 (l0_0.length : Int) (wrap64 (x4_2 + (wrap64 (((rd_T138 l0_0 x31_2).f0) + ((rd_T138 l0_0 x31_2).f1))))) l0_0 (l0_0.length : Int) (wrap64 (x31_2 + 1)) l0_0 l0_1) else (some false))) else (some false))) else (some false)) = some r := H
         have A13 := xm A130
         clear A130
         by_cases c14 : t820 = true
         ·subst c14
          have H1 : ((spec_l1In.f ((rd_T138 l0_0 x31_2).f1) 0 2000000000).bind fun t821 => (if t821 = true then (if ((rd_T138 l0_0 x31_2).f2 = true) then (spec_GoodSnap.l0 k2 (l0_0.length : Int) (wrap64 (x4_2 + (wrap64 (((rd_T138 l0_0 x31_2).f0) + ((rd_T138 l0_0 x31_2).f1))))) l0_0 (l0_0.length : Int) (wrap64 (x31_2 + 1)) l0_0 l0_1) else (if ((rd_T138 l0_0 x31_2).f1) = 0 then (spec_GoodSnap.l0 k2 (l0_0.length : Int) (wrap64 (x4_2 + (wrap64 (((rd_T138 l0_0 x31_2).f0) + ((rd_T138 l0_0 x31_2).f1))))) l0_0 (l0_0.length : Int) (wrap64 (x31_2 + 1)) l0_0 l0_1) else (some false))) else (some false))) = some r := by first | (with_reducible rfl) | (rw [if_pos rfl] at H; exact H)
          clear H
          have H := H1
          clear H1
          replace H := Option.bind_eq_some_iff.mp H
          obtain ⟨t821, A150, H⟩ := H
          replace H : (if t821 = true then (if ((rd_T138 l0_0 x31_2).f2 = true) then (spec_GoodSnap.l0 k2 (l0_0.length : Int) (wrap64 (x4_2 + (wrap64 (((rd_T138 l0_0 x31_2).f0) + ((rd_T138 l0_0 x31_2).f1))))) l0_0 (l0_0.length : Int) (wrap64 (x31_2 + 1)) l0_0 l0_1) else (if ((rd_T138 l0_0 x31_2).f1) = 0 then (spec_GoodSnap.l0 k2 (l0_0.length : Int) (wrap64 (x4_2 + (wrap64 (((rd_T138 l0_0 x31_2).f0) + ((rd_T138 l0_0 x31_2).f1))))) l0_0 (l0_0.length : Int) (wrap64 (x31_2 + 1)) l0_0 l0_1) else (some false))) else (some false)) = some r := H
          have A15 := xm A150
          clear A150
          by_cases c16 : t821 = true
          ·subst c16
           have H1 : (if ((rd_T138 l0_0 x31_2).f2 = true) then (spec_GoodSnap.l0 k2 (l0_0.length : Int) (wrap64 (x4_2 + (wrap64 (((rd_T138 l0_0 x31_2).f0) + ((rd_T138 l0_0 x31_2).f1))))) l0_0 (l0_0.length : Int) (wrap64 (x31_2 + 1)) l0_0 l0_1) else (if ((rd_T138 l0_0 x31_2).f1) = 0 then (spec_GoodSnap.l0 k2 (l0_0.length : Int) (wrap64 (x4_2 + (wrap64 (((rd_T138 l0_0 x31_2).f0) + ((rd_T138 l0_0 x31_2).f1))))) l0_0 (l0_0.length : Int) (wrap64 (x31_2 + 1)) l0_0 l0_1) else (some false))) = some r := by first | (with_reducible rfl) | (rw [if_pos rfl] at H; exact H)
           clear H
           have H := H1
           clear H1
           obtain ⟨bq17, hbq17⟩ : ∃ b_ : Bool, b_ = ((rd_T138 l0_0 x31_2).f2) := ⟨_, rfl⟩
           replace H : (if (bq17 = true) then (spec_GoodSnap.l0 k2 (l0_0.length : Int) (wrap64 (x4_2 + (wrap64 (((rd_T138 l0_0 x31_2).f0) + ((rd_T138 l0_0 x31_2).f1))))) l0_0 (l0_0.length : Int) (wrap64 (x31_2 + 1)) l0_0 l0_1) else (if ((rd_T138 l0_0 x31_2).f1) = 0 then (spec_GoodSnap.l0 k2 (l0_0.length : Int) (wrap64 (x4_2 + (wrap64 (((rd_T138 l0_0 x31_2).f0) + ((rd_T138 l0_0 x31_2).f1))))) l0_0 (l0_0.length : Int) (wrap64 (x31_2 + 1)) l0_0 l0_1) else (some false))) = some r := by rw [← hbq17] at H; exact H
           have Nbq17 := xm hbq17
           clear hbq17
           by_cases c18 : (bq17 = true)
           ·subst c18
            have H1 : (spec_GoodSnap.l0 k2 (l0_0.length : Int) (wrap64 (x4_2 + (wrap64 (((rd_T138 l0_0 x31_2).f0) + ((rd_T138 l0_0 x31_2).f1))))) l0_0 (l0_0.length : Int) (wrap64 (x31_2 + 1)) l0_0 l0_1) = some r := by first | (with_reducible rfl) | (rw [if_pos rfl] at H; exact H)
            clear H
            have H := H1
            clear H1
            have H' := xm H
            clear H
            have p818 : 0 ≤ (x31_2 : Int) := of_decide_eq_true (by first | (with_reducible assumption) | assumption)
            have q818 : x31_2 < (l0_0.length : Int) := of_decide_eq_true (by first | (with_reducible assumption) | assumption)
            obtain ⟨ad818, e818, hx818_0, hx818_1, hx818_2⟩ := at_T138 HR0_0.out x31_2 p818 q818
            (try rw [← Nbq17.out] at hx818_2)
            cases e818
            replace hx818_0 := (HB.out.cell (World.block_lt_of_cell? w _ hx818_0)).trans hx818_0
            replace hx818_1 := (HB.out.cell (World.block_lt_of_cell? w _ hx818_1)).trans hx818_1
            replace hx818_2 := (HB.out.cell (World.block_lt_of_cell? w _ hx818_2)).trans hx818_2
            replace p818 := eq_true p818
            replace q818 := eq_true q818
            go_wp2_with (first | ((with_reducible refine gate_dst (N := 6) rfl ?_); (try (refine gate_guard (by rfl) ?_; dsimp only)); refine box_event ?hg (N := 6) ?hd (cs := #[.int .i64 0, .int .i64 0, .bool false]) (t := 138) ?hr ?_; (case hd => rfl); (case hg => rfl); (case hr => first | (go_simp; done) | (go_simp; rfl)); intro gb819 hg w19 hbox hb; have n0_ := xm (blk_below (g := gb816) (o := .cells #[.slice (some ad818) l0_0.length c0_0, .slice A0_1 l0_1.length c0_1] 85 (0, 0)) (by (with_reducible repeat (first | refine xq ?_ _ | refine xr ?_ | refine xo ?_ _)); exact BK816.out) hb); have n1_ := xm (below_step (by repeat (first | (with_reducible first | exact HB.out | apply xa | apply xn | apply xd | refine xt ?_ GE816.out) | exact HB.out)) hb); have n2_ := xm (hbox); have n3_ := xm ((by rw [hg]; exact (xz (by repeat (first | (with_reducible first | exact HB.out | apply xa | apply xn | apply xd | refine xt ?_ GE816.out) | exact HB.out))) : w.heap.size ≤ gb819)); have n4_ := xm ((by rw [hg]; exact (xz (by repeat (first | (with_reducible first | exact HB.out | apply xa | apply xn | apply xd | refine xt ?_ GE816.out) | exact HB.out))) : w.heap.size ≤ gb819)); have n5_ := xm ((by rw [hg]; exact Nat.ne_of_lt (blk_lt (g := gb816) (o := .cells #[.slice (some ad818) l0_0.length c0_0, .slice A0_1 l0_1.length c0_1] 85 (0, 0)) (by (with_reducible repeat (first | refine xq ?_ _ | refine xr ?_ | refine xo ?_ _)); exact BK816.out)) : gb816 ≠ gb819)); have n6_ := xm ((by rw [hg]; exact Nat.ne_of_gt (blk_lt (g := gb816) (o := .cells #[.slice (some ad818) l0_0.length c0_0, .slice A0_1 l0_1.length c0_1] 85 (0, 0)) (by (with_reducible repeat (first | refine xq ?_ _ | refine xr ?_ | refine xo ?_ _)); exact BK816.out)) : gb819 ≠ gb816)); clear BK816; clear HB; have BK816 := n0_; have HB := n1_; have BK819 := n2_; have GW819 := n3_; have GE819 := n4_; have NB816_819 := n5_; have NB819_816 := n6_; clear n0_ n1_ n2_ n3_ n4_ n5_ n6_; clear hb hbox hg; have hnb20 := NB819_816.out; have hnc20 := NB816_819.out; have hcz21_0 : w19.cell? ⟨gb819, 0, none⟩ = some (.int .i64 0) := (xc BK819.out 0).trans rfl; have hcz21_1 : w19.cell? ⟨gb819, 1, none⟩ = some (.int .i64 0) := (xc BK819.out 1).trans rfl; have hcz21_2 : w19.cell? ⟨gb819, 2, none⟩ = some (.bool false) := (xc BK819.out 2).trans rfl; have hfz21_0 := xf BK819.out 0; have hfz21_1 := xf BK819.out 1; have hfz21_2 := xf BK819.out 2) | (go_at_call 102; (with_reducible refine (spec_l1In.calls ((rd_T138 l0_0 x31_2).f0) 0 2000000000 true _ A13.out).mono ?_); rintro e w' ⟨rfl, ⟨nd, rfl⟩⟩; (try first | exact ⟨rfl, _, World.drewN_drewN _ _ _⟩ | exact ⟨rfl, _, Eq.trans (World.drewN_drewN _ _ _) (congrArg (World.drewN _) (Nat.add_assoc _ _ _))⟩)) | (go_at_call 102; (with_reducible refine (spec_l1In.calls ((rd_T138 l0_0 x31_2).f1) 0 2000000000 true _ A15.out).mono ?_); rintro e w' ⟨rfl, ⟨nd, rfl⟩⟩; (try first | exact ⟨rfl, _, World.drewN_drewN _ _ _⟩ | exact ⟨rfl, _, Eq.trans (World.drewN_drewN _ _ _) (congrArg (World.drewN _) (Nat.add_assoc _ _ _))⟩)))
            repeat (go_quiet (first | ((with_reducible refine gate_dst (N := 6) rfl ?_); (try (refine gate_guard (by rfl) ?_; dsimp only)); refine box_event ?hg (N := 6) ?hd (cs := #[.int .i64 0, .int .i64 0, .bool false]) (t := 138) ?hr ?_; (case hd => rfl); (case hg => rfl); (case hr => first | (go_simp; done) | (go_simp; rfl)); intro gb819 hg w19 hbox hb; have n0_ := xm (blk_below (g := gb816) (o := .cells #[.slice (some ad818) l0_0.length c0_0, .slice A0_1 l0_1.length c0_1] 85 (0, 0)) (by (with_reducible repeat (first | refine xq ?_ _ | refine xr ?_ | refine xo ?_ _)); exact BK816.out) hb); have n1_ := xm (below_step (by repeat (first | (with_reducible first | exact HB.out | apply xa | apply xn | apply xd | refine xt ?_ GE816.out) | exact HB.out)) hb); have n2_ := xm (hbox); have n3_ := xm ((by rw [hg]; exact (xz (by repeat (first | (with_reducible first | exact HB.out | apply xa | apply xn | apply xd | refine xt ?_ GE816.out) | exact HB.out))) : w.heap.size ≤ gb819)); have n4_ := xm ((by rw [hg]; exact (xz (by repeat (first | (with_reducible first | exact HB.out | apply xa | apply xn | apply xd | refine xt ?_ GE816.out) | exact HB.out))) : w.heap.size ≤ gb819)); have n5_ := xm ((by rw [hg]; exact Nat.ne_of_lt (blk_lt (g := gb816) (o := .cells #[.slice (some ad818) l0_0.length c0_0, .slice A0_1 l0_1.length c0_1] 85 (0, 0)) (by (with_reducible repeat (first | refine xq ?_ _ | refine xr ?_ | refine xo ?_ _)); exact BK816.out)) : gb816 ≠ gb819)); have n6_ := xm ((by rw [hg]; exact Nat.ne_of_gt (blk_lt (g := gb816) (o := .cells #[.slice (some ad818) l0_0.length c0_0, .slice A0_1 l0_1.length c0_1] 85 (0, 0)) (by (with_reducible repeat (first | refine xq ?_ _ | refine xr ?_ | refine xo ?_ _)); exact BK816.out)) : gb819 ≠ gb816)); clear BK816; clear HB; have BK816 := n0_; have HB := n1_; have BK819 := n2_; have GW819 := n3_; have GE819 := n4_; have NB816_819 := n5_; have NB819_816 := n6_; clear n0_ n1_ n2_ n3_ n4_ n5_ n6_; clear hb hbox hg; have hnb20 := NB819_816.out; have hnc20 := NB816_819.out; have hcz21_0 : w19.cell? ⟨gb819, 0, none⟩ = some (.int .i64 0) := (xc BK819.out 0).trans rfl; have hcz21_1 : w19.cell? ⟨gb819, 1, none⟩ = some (.int .i64 0) := (xc BK819.out 1).trans rfl; have hcz21_2 : w19.cell? ⟨gb819, 2, none⟩ = some (.bool false) := (xc BK819.out 2).trans rfl; have hfz21_0 := xf BK819.out 0; have hfz21_1 := xf BK819.out 1; have hfz21_2 := xf BK819.out 2) | (go_at_call 102; (with_reducible refine (spec_l1In.calls ((rd_T138 l0_0 x31_2).f0) 0 2000000000 true _ A13.out).mono ?_); rintro e w' ⟨rfl, ⟨nd, rfl⟩⟩; (try first | exact ⟨rfl, _, World.drewN_drewN _ _ _⟩ | exact ⟨rfl, _, Eq.trans (World.drewN_drewN _ _ _) (congrArg (World.drewN _) (Nat.add_assoc _ _ _))⟩)) | (go_at_call 102; (with_reducible refine (spec_l1In.calls ((rd_T138 l0_0 x31_2).f1) 0 2000000000 true _ A15.out).mono ?_); rintro e w' ⟨rfl, ⟨nd, rfl⟩⟩; (try first | exact ⟨rfl, _, World.drewN_drewN _ _ _⟩ | exact ⟨rfl, _, Eq.trans (World.drewN_drewN _ _ _) (congrArg (World.drewN _) (Nat.add_assoc _ _ _))⟩))); try go_wp2_with (first | ((with_reducible refine gate_dst (N := 6) rfl ?_); (try (refine gate_guard (by rfl) ?_; dsimp only)); refine box_event ?hg (N := 6) ?hd (cs := #[.int .i64 0, .int .i64 0, .bool false]) (t := 138) ?hr ?_; (case hd => rfl); (case hg => rfl); (case hr => first | (go_simp; done) | (go_simp; rfl)); intro gb819 hg w19 hbox hb; have n0_ := xm (blk_below (g := gb816) (o := .cells #[.slice (some ad818) l0_0.length c0_0, .slice A0_1 l0_1.length c0_1] 85 (0, 0)) (by (with_reducible repeat (first | refine xq ?_ _ | refine xr ?_ | refine xo ?_ _)); exact BK816.out) hb); have n1_ := xm (below_step (by repeat (first | (with_reducible first | exact HB.out | apply xa | apply xn | apply xd | refine xt ?_ GE816.out) | exact HB.out)) hb); have n2_ := xm (hbox); have n3_ := xm ((by rw [hg]; exact (xz (by repeat (first | (with_reducible first | exact HB.out | apply xa | apply xn | apply xd | refine xt ?_ GE816.out) | exact HB.out))) : w.heap.size ≤ gb819)); have n4_ := xm ((by rw [hg]; exact (xz (by repeat (first | (with_reducible first | exact HB.out | apply xa | apply xn | apply xd | refine xt ?_ GE816.out) | exact HB.out))) : w.heap.size ≤ gb819)); have n5_ := xm ((by rw [hg]; exact Nat.ne_of_lt (blk_lt (g := gb816) (o := .cells #[.slice (some ad818) l0_0.length c0_0, .slice A0_1 l0_1.length c0_1] 85 (0, 0)) (by (with_reducible repeat (first | refine xq ?_ _ | refine xr ?_ | refine xo ?_ _)); exact BK816.out)) : gb816 ≠ gb819)); have n6_ := xm ((by rw [hg]; exact Nat.ne_of_gt (blk_lt (g := gb816) (o := .cells #[.slice (some ad818) l0_0.length c0_0, .slice A0_1 l0_1.length c0_1] 85 (0, 0)) (by (with_reducible repeat (first | refine xq ?_ _ | refine xr ?_ | refine xo ?_ _)); exact BK816.out)) : gb819 ≠ gb816)); clear BK816; clear HB; have BK816 := n0_; have HB := n1_; have BK819 := n2_; have GW819 := n3_; have GE819 := n4_; have NB816_819 := n5_; have NB819_816 := n6_; clear n0_ n1_ n2_ n3_ n4_ n5_ n6_; clear hb hbox hg; have hnb20 := NB819_816.out; have hnc20 := NB816_819.out; have hcz21_0 : w19.cell? ⟨gb819, 0, none⟩ = some (.int .i64 0) := (xc BK819.out 0).trans rfl; have hcz21_1 : w19.cell? ⟨gb819, 1, none⟩ = some (.int .i64 0) := (xc BK819.out 1).trans rfl; have hcz21_2 : w19.cell? ⟨gb819, 2, none⟩ = some (.bool false) := (xc BK819.out 2).trans rfl; have hfz21_0 := xf BK819.out 0; have hfz21_1 := xf BK819.out 1; have hfz21_2 := xf BK819.out 2) | (go_at_call 102; (with_reducible refine (spec_l1In.calls ((rd_T138 l0_0 x31_2).f0) 0 2000000000 true _ A13.out).mono ?_); rintro e w' ⟨rfl, ⟨nd, rfl⟩⟩; (try first | exact ⟨rfl, _, World.drewN_drewN _ _ _⟩ | exact ⟨rfl, _, Eq.trans (World.drewN_drewN _ _ _) (congrArg (World.drewN _) (Nat.add_assoc _ _ _))⟩)) | (go_at_call 102; (with_reducible refine (spec_l1In.calls ((rd_T138 l0_0 x31_2).f1) 0 2000000000 true _ A15.out).mono ?_); rintro e w' ⟨rfl, ⟨nd, rfl⟩⟩; (try first | exact ⟨rfl, _, World.drewN_drewN _ _ _⟩ | exact ⟨rfl, _, Eq.trans (World.drewN_drewN _ _ _) (congrArg (World.drewN _) (Nat.add_assoc _ _ _))⟩))))
            go_roundg k2
            case measure => have := HJ1.out; have := HK2.out; omega
            case rel => (try rw [← Nbq17.out]); exact ⟨(wrap64 (x4_2 + (wrap64 (((rd_T138 l0_0 x31_2).f0) + ((rd_T138 l0_0 x31_2).f1))))), (wrap64 (x31_2 + 1)), (by first | rfl | (simp; done) | (simp [*]; done)), (by first | rfl | (simp; done) | (simp [*]; done)), H', ⟨by have := HJ1.out; have := HK2.out; omega⟩, ⟨by (with_reducible repeat (first | refine xq ?_ _ | refine xr ?_ | refine xo ?_ _)); refine blk_far ?_ NB816_819.out _; (with_reducible repeat (first | refine xq ?_ _ | refine xr ?_ | refine xo ?_ _)); refine blk_far ?_ NB816_819.out _; (with_reducible repeat (first | refine xq ?_ _ | refine xr ?_ | refine xo ?_ _)); refine blk_far ?_ NB816_819.out _; (with_reducible repeat (first | refine xq ?_ _ | refine xr ?_ | refine xo ?_ _)); exact BK816.out⟩, ⟨by repeat (first | (with_reducible first | exact HB.out | apply xa | apply xn | apply xd | refine xt ?_ GE816.out | refine xt ?_ GE819.out) | exact HB.out)⟩⟩
           ·replace c18 := Bool.eq_false_iff.mpr c18
            subst c18
            have H1 : (if ((rd_T138 l0_0 x31_2).f1) = 0 then (spec_GoodSnap.l0 k2 (l0_0.length : Int) (wrap64 (x4_2 + (wrap64 (((rd_T138 l0_0 x31_2).f0) + ((rd_T138 l0_0 x31_2).f1))))) l0_0 (l0_0.length : Int) (wrap64 (x31_2 + 1)) l0_0 l0_1) else (some false)) = some r := by first | (with_reducible rfl) | (rw [if_neg (show ¬ (false = true) by decide)] at H; exact H)
            clear H
            have H := H1
            clear H1
            by_cases c22 : ((rd_T138 l0_0 x31_2).f1) = 0
            ·rw [if_pos c22] at H
             have c22b0 : (((rd_T138 l0_0 x31_2).f1) == 0) = true := beq_iff_eq.mpr c22
             have c22b1 : (((rd_T138 l0_0 x31_2).f1) != 0) = false := bne_eq_false_iff_eq.mpr c22
             clear c22
             have H' := xm H
             clear H
             have p818 : 0 ≤ (x31_2 : Int) := of_decide_eq_true (by first | (with_reducible assumption) | assumption)
             have q818 : x31_2 < (l0_0.length : Int) := of_decide_eq_true (by first | (with_reducible assumption) | assumption)
             obtain ⟨ad818, e818, hx818_0, hx818_1, hx818_2⟩ := at_T138 HR0_0.out x31_2 p818 q818
             (try rw [← Nbq17.out] at hx818_2)
             cases e818
             replace hx818_0 := (HB.out.cell (World.block_lt_of_cell? w _ hx818_0)).trans hx818_0
             replace hx818_1 := (HB.out.cell (World.block_lt_of_cell? w _ hx818_1)).trans hx818_1
             replace hx818_2 := (HB.out.cell (World.block_lt_of_cell? w _ hx818_2)).trans hx818_2
             replace p818 := eq_true p818
             replace q818 := eq_true q818
             go_wp2_with (first | ((with_reducible refine gate_dst (N := 6) rfl ?_); (try (refine gate_guard (by rfl) ?_; dsimp only)); refine box_event ?hg (N := 6) ?hd (cs := #[.int .i64 0, .int .i64 0, .bool false]) (t := 138) ?hr ?_; (case hd => rfl); (case hg => rfl); (case hr => first | (go_simp; done) | (go_simp; rfl)); intro gb819 hg w23 hbox hb; have n0_ := xm (blk_below (g := gb816) (o := .cells #[.slice (some ad818) l0_0.length c0_0, .slice A0_1 l0_1.length c0_1] 85 (0, 0)) (by (with_reducible repeat (first | refine xq ?_ _ | refine xr ?_ | refine xo ?_ _)); exact BK816.out) hb); have n1_ := xm (below_step (by repeat (first | (with_reducible first | exact HB.out | apply xa | apply xn | apply xd | refine xt ?_ GE816.out) | exact HB.out)) hb); have n2_ := xm (hbox); have n3_ := xm ((by rw [hg]; exact (xz (by repeat (first | (with_reducible first | exact HB.out | apply xa | apply xn | apply xd | refine xt ?_ GE816.out) | exact HB.out))) : w.heap.size ≤ gb819)); have n4_ := xm ((by rw [hg]; exact (xz (by repeat (first | (with_reducible first | exact HB.out | apply xa | apply xn | apply xd | refine xt ?_ GE816.out) | exact HB.out))) : w.heap.size ≤ gb819)); have n5_ := xm ((by rw [hg]; exact Nat.ne_of_lt (blk_lt (g := gb816) (o := .cells #[.slice (some ad818) l0_0.length c0_0, .slice A0_1 l0_1.length c0_1] 85 (0, 0)) (by (with_reducible repeat (first | refine xq ?_ _ | refine xr ?_ | refine xo ?_ _)); exact BK816.out)) : gb816 ≠ gb819)); have n6_ := xm ((by rw [hg]; exact Nat.ne_of_gt (blk_lt (g := gb816) (o := .cells #[.slice (some ad818) l0_0.length c0_0, .slice A0_1 l0_1.length c0_1] 85 (0, 0)) (by (with_reducible repeat (first | refine xq ?_ _ | refine xr ?_ | refine xo ?_ _)); exact BK816.out)) : gb819 ≠ gb816)); clear BK816; clear HB; have BK816 := n0_; have HB := n1_; have BK819 := n2_; have GW819 := n3_; have GE819 := n4_; have NB816_819 := n5_; have NB819_816 := n6_; clear n0_ n1_ n2_ n3_ n4_ n5_ n6_; clear hb hbox hg; have hnb24 := NB819_816.out; have hnc24 := NB816_819.out; have hcz25_0 : w23.cell? ⟨gb819, 0, none⟩ = some (.int .i64 0) := (xc BK819.out 0).trans rfl; have hcz25_1 : w23.cell? ⟨gb819, 1, none⟩ = some (.int .i64 0) := (xc BK819.out 1).trans rfl; have hcz25_2 : w23.cell? ⟨gb819, 2, none⟩ = some (.bool false) := (xc BK819.out 2).trans rfl; have hfz25_0 := xf BK819.out 0; have hfz25_1 := xf BK819.out 1; have hfz25_2 := xf BK819.out 2) | (go_at_call 102; (with_reducible refine (spec_l1In.calls ((rd_T138 l0_0 x31_2).f0) 0 2000000000 true _ A13.out).mono ?_); rintro e w' ⟨rfl, ⟨nd, rfl⟩⟩; (try first | exact ⟨rfl, _, World.drewN_drewN _ _ _⟩ | exact ⟨rfl, _, Eq.trans (World.drewN_drewN _ _ _) (congrArg (World.drewN _) (Nat.add_assoc _ _ _))⟩)) | (go_at_call 102; (with_reducible refine (spec_l1In.calls ((rd_T138 l0_0 x31_2).f1) 0 2000000000 true _ A15.out).mono ?_); rintro e w' ⟨rfl, ⟨nd, rfl⟩⟩; (try first | exact ⟨rfl, _, World.drewN_drewN _ _ _⟩ | exact ⟨rfl, _, Eq.trans (World.drewN_drewN _ _ _) (congrArg (World.drewN _) (Nat.add_assoc _ _ _))⟩)))
             repeat (go_quiet (first | ((with_reducible refine gate_dst (N := 6) rfl ?_); (try (refine gate_guard (by rfl) ?_; dsimp only)); refine box_event ?hg (N := 6) ?hd (cs := #[.int .i64 0, .int .i64 0, .bool false]) (t := 138) ?hr ?_; (case hd => rfl); (case hg => rfl); (case hr => first | (go_simp; done) | (go_simp; rfl)); intro gb819 hg w23 hbox hb; have n0_ := xm (blk_below (g := gb816) (o := .cells #[.slice (some ad818) l0_0.length c0_0, .slice A0_1 l0_1.length c0_1] 85 (0, 0)) (by (with_reducible repeat (first | refine xq ?_ _ | refine xr ?_ | refine xo ?_ _)); exact BK816.out) hb); have n1_ := xm (below_step (by repeat (first | (with_reducible first | exact HB.out | apply xa | apply xn | apply xd | refine xt ?_ GE816.out) | exact HB.out)) hb); have n2_ := xm (hbox); have n3_ := xm ((by rw [hg]; exact (xz (by repeat (first | (with_reducible first | exact HB.out | apply xa | apply xn | apply xd | refine xt ?_ GE816.out) | exact HB.out))) : w.heap.size ≤ gb819)); have n4_ := xm ((by rw [hg]; exact (xz (by repeat (first | (with_reducible first | exact HB.out | apply xa | apply xn | apply xd | refine xt ?_ GE816.out) | exact HB.out))) : w.heap.size ≤ gb819)); have n5_ := xm ((by rw [hg]; exact Nat.ne_of_lt (blk_lt (g := gb816) (o := .cells #[.slice (some ad818) l0_0.length c0_0, .slice A0_1 l0_1.length c0_1] 85 (0, 0)) (by (with_reducible repeat (first | refine xq ?_ _ | refine xr ?_ | refine xo ?_ _)); exact BK816.out)) : gb816 ≠ gb819)); have n6_ := xm ((by rw [hg]; exact Nat.ne_of_gt (blk_lt (g := gb816) (o := .cells #[.slice (some ad818) l0_0.length c0_0, .slice A0_1 l0_1.length c0_1] 85 (0, 0)) (by (with_reducible repeat (first | refine xq ?_ _ | refine xr ?_ | refine xo ?_ _)); exact BK816.out)) : gb819 ≠ gb816)); clear BK816; clear HB; have BK816 := n0_; have HB := n1_; have BK819 := n2_; have GW819 := n3_; have GE819 := n4_; have NB816_819 := n5_; have NB819_816 := n6_; clear n0_ n1_ n2_ n3_ n4_ n5_ n6_; clear hb hbox hg; have hnb24 := NB819_816.out; have hnc24 := NB816_819.out; have hcz25_0 : w23.cell? ⟨gb819, 0, none⟩ = some (.int .i64 0) := (xc BK819.out 0).trans rfl; have hcz25_1 : w23.cell? ⟨gb819, 1, none⟩ = some (.int .i64 0) := (xc BK819.out 1).trans rfl; have hcz25_2 : w23.cell? ⟨gb819, 2, none⟩ = some (.bool false) := (xc BK819.out 2).trans rfl; have hfz25_0 := xf BK819.out 0; have hfz25_1 := xf BK819.out 1; have hfz25_2 := xf BK819.out 2) | (go_at_call 102; (with_reducible refine (spec_l1In.calls ((rd_T138 l0_0 x31_2).f0) 0 2000000000 true _ A13.out).mono ?_); rintro e w' ⟨rfl, ⟨nd, rfl⟩⟩; (try first | exact ⟨rfl, _, World.drewN_drewN _ _ _⟩ | exact ⟨rfl, _, Eq.trans (World.drewN_drewN _ _ _) (congrArg (World.drewN _) (Nat.add_assoc _ _ _))⟩)) | (go_at_call 102; (with_reducible refine (spec_l1In.calls ((rd_T138 l0_0 x31_2).f1) 0 2000000000 true _ A15.out).mono ?_); rintro e w' ⟨rfl, ⟨nd, rfl⟩⟩; (try first | exact ⟨rfl, _, World.drewN_drewN _ _ _⟩ | exact ⟨rfl, _, Eq.trans (World.drewN_drewN _ _ _) (congrArg (World.drewN _) (Nat.add_assoc _ _ _))⟩))); try go_wp2_with (first | ((with_reducible refine gate_dst (N := 6) rfl ?_); (try (refine gate_guard (by rfl) ?_; dsimp only)); refine box_event ?hg (N := 6) ?hd (cs := #[.int .i64 0, .int .i64 0, .bool false]) (t := 138) ?hr ?_; (case hd => rfl); (case hg => rfl); (case hr => first | (go_simp; done) | (go_simp; rfl)); intro gb819 hg w23 hbox hb; have n0_ := xm (blk_below (g := gb816) (o := .cells #[.slice (some ad818) l0_0.length c0_0, .slice A0_1 l0_1.length c0_1] 85 (0, 0)) (by (with_reducible repeat (first | refine xq ?_ _ | refine xr ?_ | refine xo ?_ _)); exact BK816.out) hb); have n1_ := xm (below_step (by repeat (first | (with_reducible first | exact HB.out | apply xa | apply xn | apply xd | refine xt ?_ GE816.out) | exact HB.out)) hb); have n2_ := xm (hbox); have n3_ := xm ((by rw [hg]; exact (xz (by repeat (first | (with_reducible first | exact HB.out | apply xa | apply xn | apply xd | refine xt ?_ GE816.out) | exact HB.out))) : w.heap.size ≤ gb819)); have n4_ := xm ((by rw [hg]; exact (xz (by repeat (first | (with_reducible first | exact HB.out | apply xa | apply xn | apply xd | refine xt ?_ GE816.out) | exact HB.out))) : w.heap.size ≤ gb819)); have n5_ := xm ((by rw [hg]; exact Nat.ne_of_lt (blk_lt (g := gb816) (o := .cells #[.slice (some ad818) l0_0.length c0_0, .slice A0_1 l0_1.length c0_1] 85 (0, 0)) (by (with_reducible repeat (first | refine xq ?_ _ | refine xr ?_ | refine xo ?_ _)); exact BK816.out)) : gb816 ≠ gb819)); have n6_ := xm ((by rw [hg]; exact Nat.ne_of_gt (blk_lt (g := gb816) (o := .cells #[.slice (some ad818) l0_0.length c0_0, .slice A0_1 l0_1.length c0_1] 85 (0, 0)) (by (with_reducible repeat (first | refine xq ?_ _ | refine xr ?_ | refine xo ?_ _)); exact BK816.out)) : gb819 ≠ gb816)); clear BK816; clear HB; have BK816 := n0_; have HB := n1_; have BK819 := n2_; have GW819 := n3_; have GE819 := n4_; have NB816_819 := n5_; have NB819_816 := n6_; clear n0_ n1_ n2_ n3_ n4_ n5_ n6_; clear hb hbox hg; have hnb24 := NB819_816.out; have hnc24 := NB816_819.out; have hcz25_0 : w23.cell? ⟨gb819, 0, none⟩ = some (.int .i64 0) := (xc BK819.out 0).trans rfl; have hcz25_1 : w23.cell? ⟨gb819, 1, none⟩ = some (.int .i64 0) := (xc BK819.out 1).trans rfl; have hcz25_2 : w23.cell? ⟨gb819, 2, none⟩ = some (.bool false) := (xc BK819.out 2).trans rfl; have hfz25_0 := xf BK819.out 0; have hfz25_1 := xf BK819.out 1; have hfz25_2 := xf BK819.out 2) | (go_at_call 102; (with_reducible refine (spec_l1In.calls ((rd_T138 l0_0 x31_2).f0) 0 2000000000 true _ A13.out).mono ?_); rintro e w' ⟨rfl, ⟨nd, rfl⟩⟩; (try first | exact ⟨rfl, _, World.drewN_drewN _ _ _⟩ | exact ⟨rfl, _, Eq.trans (World.drewN_drewN _ _ _) (congrArg (World.drewN _) (Nat.add_assoc _ _ _))⟩)) | (go_at_call 102; (with_reducible refine (spec_l1In.calls ((rd_T138 l0_0 x31_2).f1) 0 2000000000 true _ A15.out).mono ?_); rintro e w' ⟨rfl, ⟨nd, rfl⟩⟩; (try first | exact ⟨rfl, _, World.drewN_drewN _ _ _⟩ | exact ⟨rfl, _, Eq.trans (World.drewN_drewN _ _ _) (congrArg (World.drewN _) (Nat.add_assoc _ _ _))⟩))))
             go_roundg k2
             case measure => have := HJ1.out; have := HK2.out; omega
             case rel => (try rw [← Nbq17.out]); exact ⟨(wrap64 (x4_2 + (wrap64 (((rd_T138 l0_0 x31_2).f0) + ((rd_T138 l0_0 x31_2).f1))))), (wrap64 (x31_2 + 1)), (by first | rfl | (simp; done) | (simp [*]; done)), (by first | rfl | (simp; done) | (simp [*]; done)), H', ⟨by have := HJ1.out; have := HK2.out; omega⟩, ⟨by (with_reducible repeat (first | refine xq ?_ _ | refine xr ?_ | refine xo ?_ _)); refine blk_far ?_ NB816_819.out _; (with_reducible repeat (first | refine xq ?_ _ | refine xr ?_ | refine xo ?_ _)); refine blk_far ?_ NB816_819.out _; (with_reducible repeat (first | refine xq ?_ _ | refine xr ?_ | refine xo ?_ _)); refine blk_far ?_ NB816_819.out _; (with_reducible repeat (first | refine xq ?_ _ | refine xr ?_ | refine xo ?_ _)); exact BK816.out⟩, ⟨by repeat (first | (with_reducible first | exact HB.out | apply xa | apply xn | apply xd | refine xt ?_ GE816.out | refine xt ?_ GE819.out) | exact HB.out)⟩⟩
            ·rw [if_neg c22] at H
             have c22b0 : (((rd_T138 l0_0 x31_2).f1) == 0) = false := beq_eq_false_iff_ne.mpr c22
             have c22b1 : (((rd_T138 l0_0 x31_2).f1) != 0) = true := bne_iff_ne.mpr c22
             obtain rfl := Option.some.inj H
             have p818 : 0 ≤ (x31_2 : Int) := of_decide_eq_true (by first | (with_reducible assumption) | assumption)
             have q818 : x31_2 < (l0_0.length : Int) := of_decide_eq_true (by first | (with_reducible assumption) | assumption)
             obtain ⟨ad818, e818, hx818_0, hx818_1, hx818_2⟩ := at_T138 HR0_0.out x31_2 p818 q818
             (try rw [← Nbq17.out] at hx818_2)
             cases e818
             replace hx818_0 := (HB.out.cell (World.block_lt_of_cell? w _ hx818_0)).trans hx818_0
             replace hx818_1 := (HB.out.cell (World.block_lt_of_cell? w _ hx818_1)).trans hx818_1
             replace hx818_2 := (HB.out.cell (World.block_lt_of_cell? w _ hx818_2)).trans hx818_2
             replace p818 := eq_true p818
             replace q818 := eq_true q818
             go_wp2_with (first | ((with_reducible refine gate_dst (N := 6) rfl ?_); (try (refine gate_guard (by rfl) ?_; dsimp only)); refine box_event ?hg (N := 6) ?hd (cs := #[.int .i64 0, .int .i64 0, .bool false]) (t := 138) ?hr ?_; (case hd => rfl); (case hg => rfl); (case hr => first | (go_simp; done) | (go_simp; rfl)); intro gb819 hg w26 hbox hb; have n0_ := xm (blk_below (g := gb816) (o := .cells #[.slice (some ad818) l0_0.length c0_0, .slice A0_1 l0_1.length c0_1] 85 (0, 0)) (by (with_reducible repeat (first | refine xq ?_ _ | refine xr ?_ | refine xo ?_ _)); exact BK816.out) hb); have n1_ := xm (below_step (by repeat (first | (with_reducible first | exact HB.out | apply xa | apply xn | apply xd | refine xt ?_ GE816.out) | exact HB.out)) hb); have n2_ := xm (hbox); have n3_ := xm ((by rw [hg]; exact (xz (by repeat (first | (with_reducible first | exact HB.out | apply xa | apply xn | apply xd | refine xt ?_ GE816.out) | exact HB.out))) : w.heap.size ≤ gb819)); have n4_ := xm ((by rw [hg]; exact (xz (by repeat (first | (with_reducible first | exact HB.out | apply xa | apply xn | apply xd | refine xt ?_ GE816.out) | exact HB.out))) : w.heap.size ≤ gb819)); have n5_ := xm ((by rw [hg]; exact Nat.ne_of_lt (blk_lt (g := gb816) (o := .cells #[.slice (some ad818) l0_0.length c0_0, .slice A0_1 l0_1.length c0_1] 85 (0, 0)) (by (with_reducible repeat (first | refine xq ?_ _ | refine xr ?_ | refine xo ?_ _)); exact BK816.out)) : gb816 ≠ gb819)); have n6_ := xm ((by rw [hg]; exact Nat.ne_of_gt (blk_lt (g := gb816) (o := .cells #[.slice (some ad818) l0_0.length c0_0, .slice A0_1 l0_1.length c0_1] 85 (0, 0)) (by (with_reducible repeat (first | refine xq ?_ _ | refine xr ?_ | refine xo ?_ _)); exact BK816.out)) : gb819 ≠ gb816)); clear BK816; clear HB; have BK816 := n0_; have HB := n1_; have BK819 := n2_; have GW819 := n3_; have GE819 := n4_; have NB816_819 := n5_; have NB819_816 := n6_; clear n0_ n1_ n2_ n3_ n4_ n5_ n6_; clear hb hbox hg; have hnb27 := NB819_816.out; have hnc27 := NB816_819.out; have hcz28_0 : w26.cell? ⟨gb819, 0, none⟩ = some (.int .i64 0) := (xc BK819.out 0).trans rfl; have hcz28_1 : w26.cell? ⟨gb819, 1, none⟩ = some (.int .i64 0) := (xc BK819.out 1).trans rfl; have hcz28_2 : w26.cell? ⟨gb819, 2, none⟩ = some (.bool false) := (xc BK819.out 2).trans rfl; have hfz28_0 := xf BK819.out 0; have hfz28_1 := xf BK819.out 1; have hfz28_2 := xf BK819.out 2) | (go_at_call 102; (with_reducible refine (spec_l1In.calls ((rd_T138 l0_0 x31_2).f0) 0 2000000000 true _ A13.out).mono ?_); rintro e w' ⟨rfl, ⟨nd, rfl⟩⟩; (try first | exact ⟨rfl, _, World.drewN_drewN _ _ _⟩ | exact ⟨rfl, _, Eq.trans (World.drewN_drewN _ _ _) (congrArg (World.drewN _) (Nat.add_assoc _ _ _))⟩)) | (go_at_call 102; (with_reducible refine (spec_l1In.calls ((rd_T138 l0_0 x31_2).f1) 0 2000000000 true _ A15.out).mono ?_); rintro e w' ⟨rfl, ⟨nd, rfl⟩⟩; (try first | exact ⟨rfl, _, World.drewN_drewN _ _ _⟩ | exact ⟨rfl, _, Eq.trans (World.drewN_drewN _ _ _) (congrArg (World.drewN _) (Nat.add_assoc _ _ _))⟩)))
             repeat (go_quiet (first | ((with_reducible refine gate_dst (N := 6) rfl ?_); (try (refine gate_guard (by rfl) ?_; dsimp only)); refine box_event ?hg (N := 6) ?hd (cs := #[.int .i64 0, .int .i64 0, .bool false]) (t := 138) ?hr ?_; (case hd => rfl); (case hg => rfl); (case hr => first | (go_simp; done) | (go_simp; rfl)); intro gb819 hg w26 hbox hb; have n0_ := xm (blk_below (g := gb816) (o := .cells #[.slice (some ad818) l0_0.length c0_0, .slice A0_1 l0_1.length c0_1] 85 (0, 0)) (by (with_reducible repeat (first | refine xq ?_ _ | refine xr ?_ | refine xo ?_ _)); exact BK816.out) hb); have n1_ := xm (below_step (by repeat (first | (with_reducible first | exact HB.out | apply xa | apply xn | apply xd | refine xt ?_ GE816.out) | exact HB.out)) hb); have n2_ := xm (hbox); have n3_ := xm ((by rw [hg]; exact (xz (by repeat (first | (with_reducible first | exact HB.out | apply xa | apply xn | apply xd | refine xt ?_ GE816.out) | exact HB.out))) : w.heap.size ≤ gb819)); have n4_ := xm ((by rw [hg]; exact (xz (by repeat (first | (with_reducible first | exact HB.out | apply xa | apply xn | apply xd | refine xt ?_ GE816.out) | exact HB.out))) : w.heap.size ≤ gb819)); have n5_ := xm ((by rw [hg]; exact Nat.ne_of_lt (blk_lt (g := gb816) (o := .cells #[.slice (some ad818) l0_0.length c0_0, .slice A0_1 l0_1.length c0_1] 85 (0, 0)) (by (with_reducible repeat (first | refine xq ?_ _ | refine xr ?_ | refine xo ?_ _)); exact BK816.out)) : gb816 ≠ gb819)); have n6_ := xm ((by rw [hg]; exact Nat.ne_of_gt (blk_lt (g := gb816) (o := .cells #[.slice (some ad818) l0_0.length c0_0, .slice A0_1 l0_1.length c0_1] 85 (0, 0)) (by (with_reducible repeat (first | refine xq ?_ _ | refine xr ?_ | refine xo ?_ _)); exact BK816.out)) : gb819 ≠ gb816)); clear BK816; clear HB; have BK816 := n0_; have HB := n1_; have BK819 := n2_; have GW819 := n3_; have GE819 := n4_; have NB816_819 := n5_; have NB819_816 := n6_; clear n0_ n1_ n2_ n3_ n4_ n5_ n6_; clear hb hbox hg; have hnb27 := NB819_816.out; have hnc27 := NB816_819.out; have hcz28_0 : w26.cell? ⟨gb819, 0, none⟩ = some (.int .i64 0) := (xc BK819.out 0).trans rfl; have hcz28_1 : w26.cell? ⟨gb819, 1, none⟩ = some (.int .i64 0) := (xc BK819.out 1).trans rfl; have hcz28_2 : w26.cell? ⟨gb819, 2, none⟩ = some (.bool false) := (xc BK819.out 2).trans rfl; have hfz28_0 := xf BK819.out 0; have hfz28_1 := xf BK819.out 1; have hfz28_2 := xf BK819.out 2) | (go_at_call 102; (with_reducible refine (spec_l1In.calls ((rd_T138 l0_0 x31_2).f0) 0 2000000000 true _ A13.out).mono ?_); rintro e w' ⟨rfl, ⟨nd, rfl⟩⟩; (try first | exact ⟨rfl, _, World.drewN_drewN _ _ _⟩ | exact ⟨rfl, _, Eq.trans (World.drewN_drewN _ _ _) (congrArg (World.drewN _) (Nat.add_assoc _ _ _))⟩)) | (go_at_call 102; (with_reducible refine (spec_l1In.calls ((rd_T138 l0_0 x31_2).f1) 0 2000000000 true _ A15.out).mono ?_); rintro e w' ⟨rfl, ⟨nd, rfl⟩⟩; (try first | exact ⟨rfl, _, World.drewN_drewN _ _ _⟩ | exact ⟨rfl, _, Eq.trans (World.drewN_drewN _ _ _) (congrArg (World.drewN _) (Nat.add_assoc _ _ _))⟩))); try go_wp2_with (first | ((with_reducible refine gate_dst (N := 6) rfl ?_); (try (refine gate_guard (by rfl) ?_; dsimp only)); refine box_event ?hg (N := 6) ?hd (cs := #[.int .i64 0, .int .i64 0, .bool false]) (t := 138) ?hr ?_; (case hd => rfl); (case hg => rfl); (case hr => first | (go_simp; done) | (go_simp; rfl)); intro gb819 hg w26 hbox hb; have n0_ := xm (blk_below (g := gb816) (o := .cells #[.slice (some ad818) l0_0.length c0_0, .slice A0_1 l0_1.length c0_1] 85 (0, 0)) (by (with_reducible repeat (first | refine xq ?_ _ | refine xr ?_ | refine xo ?_ _)); exact BK816.out) hb); have n1_ := xm (below_step (by repeat (first | (with_reducible first | exact HB.out | apply xa | apply xn | apply xd | refine xt ?_ GE816.out) | exact HB.out)) hb); have n2_ := xm (hbox); have n3_ := xm ((by rw [hg]; exact (xz (by repeat (first | (with_reducible first | exact HB.out | apply xa | apply xn | apply xd | refine xt ?_ GE816.out) | exact HB.out))) : w.heap.size ≤ gb819)); have n4_ := xm ((by rw [hg]; exact (xz (by repeat (first | (with_reducible first | exact HB.out | apply xa | apply xn | apply xd | refine xt ?_ GE816.out) | exact HB.out))) : w.heap.size ≤ gb819)); have n5_ := xm ((by rw [hg]; exact Nat.ne_of_lt (blk_lt (g := gb816) (o := .cells #[.slice (some ad818) l0_0.length c0_0, .slice A0_1 l0_1.length c0_1] 85 (0, 0)) (by (with_reducible repeat (first | refine xq ?_ _ | refine xr ?_ | refine xo ?_ _)); exact BK816.out)) : gb816 ≠ gb819)); have n6_ := xm ((by rw [hg]; exact Nat.ne_of_gt (blk_lt (g := gb816) (o := .cells #[.slice (some ad818) l0_0.length c0_0, .slice A0_1 l0_1.length c0_1] 85 (0, 0)) (by (with_reducible repeat (first | refine xq ?_ _ | refine xr ?_ | refine xo ?_ _)); exact BK816.out)) : gb819 ≠ gb816)); clear BK816; clear HB; have BK816 := n0_; have HB := n1_; have BK819 := n2_; have GW819 := n3_; have GE819 := n4_; have NB816_819 := n5_; have NB819_816 := n6_; clear n0_ n1_ n2_ n3_ n4_ n5_ n6_; clear hb hbox hg; have hnb27 := NB819_816.out; have hnc27 := NB816_819.out; have hcz28_0 : w26.cell? ⟨gb819, 0, none⟩ = some (.int .i64 0) := (xc BK819.out 0).trans rfl; have hcz28_1 : w26.cell? ⟨gb819, 1, none⟩ = some (.int .i64 0) := (xc BK819.out 1).trans rfl; have hcz28_2 : w26.cell? ⟨gb819, 2, none⟩ = some (.bool false) := (xc BK819.out 2).trans rfl; have hfz28_0 := xf BK819.out 0; have hfz28_1 := xf BK819.out 1; have hfz28_2 := xf BK819.out 2) | (go_at_call 102; (with_reducible refine (spec_l1In.calls ((rd_T138 l0_0 x31_2).f0) 0 2000000000 true _ A13.out).mono ?_); rintro e w' ⟨rfl, ⟨nd, rfl⟩⟩; (try first | exact ⟨rfl, _, World.drewN_drewN _ _ _⟩ | exact ⟨rfl, _, Eq.trans (World.drewN_drewN _ _ _) (congrArg (World.drewN _) (Nat.add_assoc _ _ _))⟩)) | (go_at_call 102; (with_reducible refine (spec_l1In.calls ((rd_T138 l0_0 x31_2).f1) 0 2000000000 true _ A15.out).mono ?_); rintro e w' ⟨rfl, ⟨nd, rfl⟩⟩; (try first | exact ⟨rfl, _, World.drewN_drewN _ _ _⟩ | exact ⟨rfl, _, Eq.trans (World.drewN_drewN _ _ _) (congrArg (World.drewN _) (Nat.add_assoc _ _ _))⟩))))
             go_ret
             exact ⟨by first | rfl | (simp [errW_none, errW_some] <;> rfl) | (simp [*, errW_none, errW_some] <;> rfl), by repeat (first | (with_reducible first | exact HB.out | apply xa | apply xn | apply xd | refine xt ?_ GE816.out | refine xt ?_ GE819.out) | exact HB.out)⟩
          ·replace c16 := Bool.eq_false_iff.mpr c16
           subst c16
           have H1 : (some false) = some r := by first | (with_reducible rfl) | (rw [if_neg (show ¬ (false = true) by decide)] at H; exact H)
           clear H
           have H := H1
           clear H1
           obtain rfl := Option.some.inj H
           have p818 : 0 ≤ (x31_2 : Int) := of_decide_eq_true (by first | (with_reducible assumption) | assumption)
           have q818 : x31_2 < (l0_0.length : Int) := of_decide_eq_true (by first | (with_reducible assumption) | assumption)
           obtain ⟨ad818, e818, hx818_0, hx818_1, hx818_2⟩ := at_T138 HR0_0.out x31_2 p818 q818
           cases e818
           replace hx818_0 := (HB.out.cell (World.block_lt_of_cell? w _ hx818_0)).trans hx818_0
           replace hx818_1 := (HB.out.cell (World.block_lt_of_cell? w _ hx818_1)).trans hx818_1
           replace hx818_2 := (HB.out.cell (World.block_lt_of_cell? w _ hx818_2)).trans hx818_2
           replace p818 := eq_true p818
           replace q818 := eq_true q818
           go_wp2_with (first | ((with_reducible refine gate_dst (N := 6) rfl ?_); (try (refine gate_guard (by rfl) ?_; dsimp only)); refine box_event ?hg (N := 6) ?hd (cs := #[.int .i64 0, .int .i64 0, .bool false]) (t := 138) ?hr ?_; (case hd => rfl); (case hg => rfl); (case hr => first | (go_simp; done) | (go_simp; rfl)); intro gb819 hg w29 hbox hb; have n0_ := xm (blk_below (g := gb816) (o := .cells #[.slice (some ad818) l0_0.length c0_0, .slice A0_1 l0_1.length c0_1] 85 (0, 0)) (by (with_reducible repeat (first | refine xq ?_ _ | refine xr ?_ | refine xo ?_ _)); exact BK816.out) hb); have n1_ := xm (below_step (by repeat (first | (with_reducible first | exact HB.out | apply xa | apply xn | apply xd | refine xt ?_ GE816.out) | exact HB.out)) hb); have n2_ := xm (hbox); have n3_ := xm ((by rw [hg]; exact (xz (by repeat (first | (with_reducible first | exact HB.out | apply xa | apply xn | apply xd | refine xt ?_ GE816.out) | exact HB.out))) : w.heap.size ≤ gb819)); have n4_ := xm ((by rw [hg]; exact (xz (by repeat (first | (with_reducible first | exact HB.out | apply xa | apply xn | apply xd | refine xt ?_ GE816.out) | exact HB.out))) : w.heap.size ≤ gb819)); have n5_ := xm ((by rw [hg]; exact Nat.ne_of_lt (blk_lt (g := gb816) (o := .cells #[.slice (some ad818) l0_0.length c0_0, .slice A0_1 l0_1.length c0_1] 85 (0, 0)) (by (with_reducible repeat (first | refine xq ?_ _ | refine xr ?_ | refine xo ?_ _)); exact BK816.out)) : gb816 ≠ gb819)); have n6_ := xm ((by rw [hg]; exact Nat.ne_of_gt (blk_lt (g := gb816) (o := .cells #[.slice (some ad818) l0_0.length c0_0, .slice A0_1 l0_1.length c0_1] 85 (0, 0)) (by (with_reducible repeat (first | refine xq ?_ _ | refine xr ?_ | refine xo ?_ _)); exact BK816.out)) : gb819 ≠ gb816)); clear BK816; clear HB; have BK816 := n0_; have HB := n1_; have BK819 := n2_; have GW819 := n3_; have GE819 := n4_; have NB816_819 := n5_; have NB819_816 := n6_; clear n0_ n1_ n2_ n3_ n4_ n5_ n6_; clear hb hbox hg; have hnb30 := NB819_816.out; have hnc30 := NB816_819.out; have hcz31_0 : w29.cell? ⟨gb819, 0, none⟩ = some (.int .i64 0) := (xc BK819.out 0).trans rfl; have hcz31_1 : w29.cell? ⟨gb819, 1, none⟩ = some (.int .i64 0) := (xc BK819.out 1).trans rfl; have hcz31_2 : w29.cell? ⟨gb819, 2, none⟩ = some (.bool false) := (xc BK819.out 2).trans rfl; have hfz31_0 := xf BK819.out 0; have hfz31_1 := xf BK819.out 1; have hfz31_2 := xf BK819.out 2) | (go_at_call 102; (with_reducible refine (spec_l1In.calls ((rd_T138 l0_0 x31_2).f0) 0 2000000000 true _ A13.out).mono ?_); rintro e w' ⟨rfl, ⟨nd, rfl⟩⟩; (try first | exact ⟨rfl, _, World.drewN_drewN _ _ _⟩ | exact ⟨rfl, _, Eq.trans (World.drewN_drewN _ _ _) (congrArg (World.drewN _) (Nat.add_assoc _ _ _))⟩)) | (go_at_call 102; (with_reducible refine (spec_l1In.calls ((rd_T138 l0_0 x31_2).f1) 0 2000000000 false _ A15.out).mono ?_); rintro e w' ⟨rfl, ⟨nd, rfl⟩⟩; (try first | exact ⟨rfl, _, World.drewN_drewN _ _ _⟩ | exact ⟨rfl, _, Eq.trans (World.drewN_drewN _ _ _) (congrArg (World.drewN _) (Nat.add_assoc _ _ _))⟩)))
           repeat (go_quiet (first | ((with_reducible refine gate_dst (N := 6) rfl ?_); (try (refine gate_guard (by rfl) ?_; dsimp only)); refine box_event ?hg (N := 6) ?hd (cs := #[.int .i64 0, .int .i64 0, .bool false]) (t := 138) ?hr ?_; (case hd => rfl); (case hg => rfl); (case hr => first | (go_simp; done) | (go_simp; rfl)); intro gb819 hg w29 hbox hb; have n0_ := xm (blk_below (g := gb816) (o := .cells #[.slice (some ad818) l0_0.length c0_0, .slice A0_1 l0_1.length c0_1] 85 (0, 0)) (by (with_reducible repeat (first | refine xq ?_ _ | refine xr ?_ | refine xo ?_ _)); exact BK816.out) hb); have n1_ := xm (below_step (by repeat (first | (with_reducible first | exact HB.out | apply xa | apply xn | apply xd | refine xt ?_ GE816.out) | exact HB.out)) hb); have n2_ := xm (hbox); have n3_ := xm ((by rw [hg]; exact (xz (by repeat (first | (with_reducible first | exact HB.out | apply xa | apply xn | apply xd | refine xt ?_ GE816.out) | exact HB.out))) : w.heap.size ≤ gb819)); have n4_ := xm ((by rw [hg]; exact (xz (by repeat (first | (with_reducible first | exact HB.out | apply xa | apply xn | apply xd | refine xt ?_ GE816.out) | exact HB.out))) : w.heap.size ≤ gb819)); have n5_ := xm ((by rw [hg]; exact Nat.ne_of_lt (blk_lt (g := gb816) (o := .cells #[.slice (some ad818) l0_0.length c0_0, .slice A0_1 l0_1.length c0_1] 85 (0, 0)) (by (with_reducible repeat (first | refine xq ?_ _ | refine xr ?_ | refine xo ?_ _)); exact BK816.out)) : gb816 ≠ gb819)); have n6_ := xm ((by rw [hg]; exact Nat.ne_of_gt (blk_lt (g := gb816) (o := .cells #[.slice (some ad818) l0_0.length c0_0, .slice A0_1 l0_1.length c0_1] 85 (0, 0)) (by (with_reducible repeat (first | refine xq ?_ _ | refine xr ?_ | refine xo ?_ _)); exact BK816.out)) : gb819 ≠ gb816)); clear BK816; clear HB; have BK816 := n0_; have HB := n1_; have BK819 := n2_; have GW819 := n3_; have GE819 := n4_; have NB816_819 := n5_; have NB819_816 := n6_; clear n0_ n1_ n2_ n3_ n4_ n5_ n6_; clear hb hbox hg; have hnb30 := NB819_816.out; have hnc30 := NB816_819.out; have hcz31_0 : w29.cell? ⟨gb819, 0, none⟩ = some (.int .i64 0) := (xc BK819.out 0).trans rfl; have hcz31_1 : w29.cell? ⟨gb819, 1, none⟩ = some (.int .i64 0) := (xc BK819.out 1).trans rfl; have hcz31_2 : w29.cell? ⟨gb819, 2, none⟩ = some (.bool false) := (xc BK819.out 2).trans rfl; have hfz31_0 := xf BK819.out 0; have hfz31_1 := xf BK819.out 1; have hfz31_2 := xf BK819.out 2) | (go_at_call 102; (with_reducible refine (spec_l1In.calls ((rd_T138 l0_0 x31_2).f0) 0 2000000000 true _ A13.out).mono ?_); rintro e w' ⟨rfl, ⟨nd, rfl⟩⟩; (try first | exact ⟨rfl, _, World.drewN_drewN _ _ _⟩ | exact ⟨rfl, _, Eq.trans (World.drewN_drewN _ _ _) (congrArg (World.drewN _) (Nat.add_assoc _ _ _))⟩)) | (go_at_call 102; (with_reducible refine (spec_l1In.calls ((rd_T138 l0_0 x31_2).f1) 0 2000000000 false _ A15.out).mono ?_); rintro e w' ⟨rfl, ⟨nd, rfl⟩⟩; (try first | exact ⟨rfl, _, World.drewN_drewN _ _ _⟩ | exact ⟨rfl, _, Eq.trans (World.drewN_drewN _ _ _) (congrArg (World.drewN _) (Nat.add_assoc _ _ _))⟩))); try go_wp2_with (first | ((with_reducible refine gate_dst (N := 6) rfl ?_); (try (refine gate_guard (by rfl) ?_; dsimp only)); refine box_event ?hg (N := 6) ?hd (cs := #[.int .i64 0, .int .i64 0, .bool false]) (t := 138) ?hr ?_; (case hd => rfl); (case hg => rfl); (case hr => first | (go_simp; done) | (go_simp; rfl)); intro gb819 hg w29 hbox hb; have n0_ := xm (blk_below (g := gb816) (o := .cells #[.slice (some ad818) l0_0.length c0_0, .slice A0_1 l0_1.length c0_1] 85 (0, 0)) (by (with_reducible repeat (first | refine xq ?_ _ | refine xr ?_ | refine xo ?_ _)); exact BK816.out) hb); have n1_ := xm (below_step (by repeat (first | (with_reducible first | exact HB.out | apply xa | apply xn | apply xd | refine xt ?_ GE816.out) | exact HB.out)) hb); have n2_ := xm (hbox); have n3_ := xm ((by rw [hg]; exact (xz (by repeat (first | (with_reducible first | exact HB.out | apply xa | apply xn | apply xd | refine xt ?_ GE816.out) | exact HB.out))) : w.heap.size ≤ gb819)); have n4_ := xm ((by rw [hg]; exact (xz (by repeat (first | (with_reducible first | exact HB.out | apply xa | apply xn | apply xd | refine xt ?_ GE816.out) | exact HB.out))) : w.heap.size ≤ gb819)); have n5_ := xm ((by rw [hg]; exact Nat.ne_of_lt (blk_lt (g := gb816) (o := .cells #[.slice (some ad818) l0_0.length c0_0, .slice A0_1 l0_1.length c0_1] 85 (0, 0)) (by (with_reducible repeat (first | refine xq ?_ _ | refine xr ?_ | refine xo ?_ _)); exact BK816.out)) : gb816 ≠ gb819)); have n6_ := xm ((by rw [hg]; exact Nat.ne_of_gt (blk_lt (g := gb816) (o := .cells #[.slice (some ad818) l0_0.length c0_0, .slice A0_1 l0_1.length c0_1] 85 (0, 0)) (by (with_reducible repeat (first | refine xq ?_ _ | refine xr ?_ | refine xo ?_ _)); exact BK816.out)) : gb819 ≠ gb816)); clear BK816; clear HB; have BK816 := n0_; have HB := n1_; have BK819 := n2_; have GW819 := n3_; have GE819 := n4_; have NB816_819 := n5_; have NB819_816 := n6_; clear n0_ n1_ n2_ n3_ n4_ n5_ n6_; clear hb hbox hg; have hnb30 := NB819_816.out; have hnc30 := NB816_819.out; have hcz31_0 : w29.cell? ⟨gb819, 0, none⟩ = some (.int .i64 0) := (xc BK819.out 0).trans rfl; have hcz31_1 : w29.cell? ⟨gb819, 1, none⟩ = some (.int .i64 0) := (xc BK819.out 1).trans rfl; have hcz31_2 : w29.cell? ⟨gb819, 2, none⟩ = some (.bool false) := (xc BK819.out 2).trans rfl; have hfz31_0 := xf BK819.out 0; have hfz31_1 := xf BK819.out 1; have hfz31_2 := xf BK819.out 2) | (go_at_call 102; (with_reducible refine (spec_l1In.calls ((rd_T138 l0_0 x31_2).f0) 0 2000000000 true _ A13.out).mono ?_); rintro e w' ⟨rfl, ⟨nd, rfl⟩⟩; (try first | exact ⟨rfl, _, World.drewN_drewN _ _ _⟩ | exact ⟨rfl, _, Eq.trans (World.drewN_drewN _ _ _) (congrArg (World.drewN _) (Nat.add_assoc _ _ _))⟩)) | (go_at_call 102; (with_reducible refine (spec_l1In.calls ((rd_T138 l0_0 x31_2).f1) 0 2000000000 false _ A15.out).mono ?_); rintro e w' ⟨rfl, ⟨nd, rfl⟩⟩; (try first | exact ⟨rfl, _, World.drewN_drewN _ _ _⟩ | exact ⟨rfl, _, Eq.trans (World.drewN_drewN _ _ _) (congrArg (World.drewN _) (Nat.add_assoc _ _ _))⟩))))
           go_ret
           exact ⟨by first | rfl | (simp [errW_none, errW_some] <;> rfl) | (simp [*, errW_none, errW_some] <;> rfl), by repeat (first | (with_reducible first | exact HB.out | apply xa | apply xn | apply xd | refine xt ?_ GE816.out | refine xt ?_ GE819.out) | exact HB.out)⟩
         ·replace c14 := Bool.eq_false_iff.mpr c14
          subst c14
          have H1 : (some false) = some r := by first | (with_reducible rfl) | (rw [if_neg (show ¬ (false = true) by decide)] at H; exact H)
          clear H
          have H := H1
          clear H1
          obtain rfl := Option.some.inj H
          have p818 : 0 ≤ (x31_2 : Int) := of_decide_eq_true (by first | (with_reducible assumption) | assumption)
          have q818 : x31_2 < (l0_0.length : Int) := of_decide_eq_true (by first | (with_reducible assumption) | assumption)
          obtain ⟨ad818, e818, hx818_0, hx818_1, hx818_2⟩ := at_T138 HR0_0.out x31_2 p818 q818
          cases e818
          replace hx818_0 := (HB.out.cell (World.block_lt_of_cell? w _ hx818_0)).trans hx818_0
          replace hx818_1 := (HB.out.cell (World.block_lt_of_cell? w _ hx818_1)).trans hx818_1
          replace hx818_2 := (HB.out.cell (World.block_lt_of_cell? w _ hx818_2)).trans hx818_2
          replace p818 := eq_true p818
          replace q818 := eq_true q818
          go_wp2_with (first | ((with_reducible refine gate_dst (N := 6) rfl ?_); (try (refine gate_guard (by rfl) ?_; dsimp only)); refine box_event ?hg (N := 6) ?hd (cs := #[.int .i64 0, .int .i64 0, .bool false]) (t := 138) ?hr ?_; (case hd => rfl); (case hg => rfl); (case hr => first | (go_simp; done) | (go_simp; rfl)); intro gb819 hg w32 hbox hb; have n0_ := xm (blk_below (g := gb816) (o := .cells #[.slice (some ad818) l0_0.length c0_0, .slice A0_1 l0_1.length c0_1] 85 (0, 0)) (by (with_reducible repeat (first | refine xq ?_ _ | refine xr ?_ | refine xo ?_ _)); exact BK816.out) hb); have n1_ := xm (below_step (by repeat (first | (with_reducible first | exact HB.out | apply xa | apply xn | apply xd | refine xt ?_ GE816.out) | exact HB.out)) hb); have n2_ := xm (hbox); have n3_ := xm ((by rw [hg]; exact (xz (by repeat (first | (with_reducible first | exact HB.out | apply xa | apply xn | apply xd | refine xt ?_ GE816.out) | exact HB.out))) : w.heap.size ≤ gb819)); have n4_ := xm ((by rw [hg]; exact (xz (by repeat (first | (with_reducible first | exact HB.out | apply xa | apply xn | apply xd | refine xt ?_ GE816.out) | exact HB.out))) : w.heap.size ≤ gb819)); have n5_ := xm ((by rw [hg]; exact Nat.ne_of_lt (blk_lt (g := gb816) (o := .cells #[.slice (some ad818) l0_0.length c0_0, .slice A0_1 l0_1.length c0_1] 85 (0, 0)) (by (with_reducible repeat (first | refine xq ?_ _ | refine xr ?_ | refine xo ?_ _)); exact BK816.out)) : gb816 ≠ gb819)); have n6_ := xm ((by rw [hg]; exact Nat.ne_of_gt (blk_lt (g := gb816) (o := .cells #[.slice (some ad818) l0_0.length c0_0, .slice A0_1 l0_1.length c0_1] 85 (0, 0)) (by (with_reducible repeat (first | refine xq ?_ _ | refine xr ?_ | refine xo ?_ _)); exact BK816.out)) : gb819 ≠ gb816)); clear BK816; clear HB; have BK816 := n0_; have HB := n1_; have BK819 := n2_; have GW819 := n3_; have GE819 := n4_; have NB816_819 := n5_; have NB819_816 := n6_; clear n0_ n1_ n2_ n3_ n4_ n5_ n6_; clear hb hbox hg; have hnb33 := NB819_816.out; have hnc33 := NB816_819.out; have hcz34_0 : w32.cell? ⟨gb819, 0, none⟩ = some (.int .i64 0) := (xc BK819.out 0).trans rfl; have hcz34_1 : w32.cell? ⟨gb819, 1, none⟩ = some (.int .i64 0) := (xc BK819.out 1).trans rfl; have hcz34_2 : w32.cell? ⟨gb819, 2, none⟩ = some (.bool false) := (xc BK819.out 2).trans rfl; have hfz34_0 := xf BK819.out 0; have hfz34_1 := xf BK819.out 1; have hfz34_2 := xf BK819.out 2) | (go_at_call 102; (with_reducible refine (spec_l1In.calls ((rd_T138 l0_0 x31_2).f0) 0 2000000000 false _ A13.out).mono ?_); rintro e w' ⟨rfl, ⟨nd, rfl⟩⟩; (try first | exact ⟨rfl, _, World.drewN_drewN _ _ _⟩ | exact ⟨rfl, _, Eq.trans (World.drewN_drewN _ _ _) (congrArg (World.drewN _) (Nat.add_assoc _ _ _))⟩)))
          repeat (go_quiet (first | ((with_reducible refine gate_dst (N := 6) rfl ?_); (try (refine gate_guard (by rfl) ?_; dsimp only)); refine box_event ?hg (N := 6) ?hd (cs := #[.int .i64 0, .int .i64 0, .bool false]) (t := 138) ?hr ?_; (case hd => rfl); (case hg => rfl); (case hr => first | (go_simp; done) | (go_simp; rfl)); intro gb819 hg w32 hbox hb; have n0_ := xm (blk_below (g := gb816) (o := .cells #[.slice (some ad818) l0_0.length c0_0, .slice A0_1 l0_1.length c0_1] 85 (0, 0)) (by (with_reducible repeat (first | refine xq ?_ _ | refine xr ?_ | refine xo ?_ _)); exact BK816.out) hb); have n1_ := xm (below_step (by repeat (first | (with_reducible first | exact HB.out | apply xa | apply xn | apply xd | refine xt ?_ GE816.out) | exact HB.out)) hb); have n2_ := xm (hbox); have n3_ := xm ((by rw [hg]; exact (xz (by repeat (first | (with_reducible first | exact HB.out | apply xa | apply xn | apply xd | refine xt ?_ GE816.out) | exact HB.out))) : w.heap.size ≤ gb819)); have n4_ := xm ((by rw [hg]; exact (xz (by repeat (first | (with_reducible first | exact HB.out | apply xa | apply xn | apply xd | refine xt ?_ GE816.out) | exact HB.out))) : w.heap.size ≤ gb819)); have n5_ := xm ((by rw [hg]; exact Nat.ne_of_lt (blk_lt (g := gb816) (o := .cells #[.slice (some ad818) l0_0.length c0_0, .slice A0_1 l0_1.length c0_1] 85 (0, 0)) (by (with_reducible repeat (first | refine xq ?_ _ | refine xr ?_ | refine xo ?_ _)); exact BK816.out)) : gb816 ≠ gb819)); have n6_ := xm ((by rw [hg]; exact Nat.ne_of_gt (blk_lt (g := gb816) (o := .cells #[.slice (some ad818) l0_0.length c0_0, .slice A0_1 l0_1.length c0_1] 85 (0, 0)) (by (with_reducible repeat (first | refine xq ?_ _ | refine xr ?_ | refine xo ?_ _)); exact BK816.out)) : gb819 ≠ gb816)); clear BK816; clear HB; have BK816 := n0_; have HB := n1_; have BK819 := n2_; have GW819 := n3_; have GE819 := n4_; have NB816_819 := n5_; have NB819_816 := n6_; clear n0_ n1_ n2_ n3_ n4_ n5_ n6_; clear hb hbox hg; have hnb33 := NB819_816.out; have hnc33 := NB816_819.out; have hcz34_0 : w32.cell? ⟨gb819, 0, none⟩ = some (.int .i64 0) := (xc BK819.out 0).trans rfl; have hcz34_1 : w32.cell? ⟨gb819, 1, none⟩ = some (.int .i64 0) := (xc BK819.out 1).trans rfl; have hcz34_2 : w32.cell? ⟨gb819, 2, none⟩ = some (.bool false) := (xc BK819.out 2).trans rfl; have hfz34_0 := xf BK819.out 0; have hfz34_1 := xf BK819.out 1; have hfz34_2 := xf BK819.out 2) | (go_at_call 102; (with_reducible refine (spec_l1In.calls ((rd_T138 l0_0 x31_2).f0) 0 2000000000 false _ A13.out).mono ?_); rintro e w' ⟨rfl, ⟨nd, rfl⟩⟩; (try first | exact ⟨rfl, _, World.drewN_drewN _ _ _⟩ | exact ⟨rfl, _, Eq.trans (World.drewN_drewN _ _ _) (congrArg (World.drewN _) (Nat.add_assoc _ _ _))⟩))); try go_wp2_with (first | ((with_reducible refine gate_dst (N := 6) rfl ?_); (try (refine gate_guard (by rfl) ?_; dsimp only)); refine box_event ?hg (N := 6) ?hd (cs := #[.int .i64 0, .int .i64 0, .bool false]) (t := 138) ?hr ?_; (case hd => rfl); (case hg => rfl); (case hr => first | (go_simp; done) | (go_simp; rfl)); intro gb819 hg w32 hbox hb; have n0_ := xm (blk_below (g := gb816) (o := .cells #[.slice (some ad818) l0_0.length c0_0, .slice A0_1 l0_1.length c0_1] 85 (0, 0)) (by (with_reducible repeat (first | refine xq ?_ _ | refine xr ?_ | refine xo ?_ _)); exact BK816.out) hb); have n1_ := xm (below_step (by repeat (first | (with_reducible first | exact HB.out | apply xa | apply xn | apply xd | refine xt ?_ GE816.out) | exact HB.out)) hb); have n2_ := xm (hbox); have n3_ := xm ((by rw [hg]; exact (xz (by repeat (first | (with_reducible first | exact HB.out | apply xa | apply xn | apply xd | refine xt ?_ GE816.out) | exact HB.out))) : w.heap.size ≤ gb819)); have n4_ := xm ((by rw [hg]; exact (xz (by repeat (first | (with_reducible first | exact HB.out | apply xa | apply xn | apply xd | refine xt ?_ GE816.out) | exact HB.out))) : w.heap.size ≤ gb819)); have n5_ := xm ((by rw [hg]; exact Nat.ne_of_lt (blk_lt (g := gb816) (o := .cells #[.slice (some ad818) l0_0.length c0_0, .slice A0_1 l0_1.length c0_1] 85 (0, 0)) (by (with_reducible repeat (first | refine xq ?_ _ | refine xr ?_ | refine xo ?_ _)); exact BK816.out)) : gb816 ≠ gb819)); have n6_ := xm ((by rw [hg]; exact Nat.ne_of_gt (blk_lt (g := gb816) (o := .cells #[.slice (some ad818) l0_0.length c0_0, .slice A0_1 l0_1.length c0_1] 85 (0, 0)) (by (with_reducible repeat (first | refine xq ?_ _ | refine xr ?_ | refine xo ?_ _)); exact BK816.out)) : gb819 ≠ gb816)); clear BK816; clear HB; have BK816 := n0_; have HB := n1_; have BK819 := n2_; have GW819 := n3_; have GE819 := n4_; have NB816_819 := n5_; have NB819_816 := n6_; clear n0_ n1_ n2_ n3_ n4_ n5_ n6_; clear hb hbox hg; have hnb33 := NB819_816.out; have hnc33 := NB816_819.out; have hcz34_0 : w32.cell? ⟨gb819, 0, none⟩ = some (.int .i64 0) := (xc BK819.out 0).trans rfl; have hcz34_1 : w32.cell? ⟨gb819, 1, none⟩ = some (.int .i64 0) := (xc BK819.out 1).trans rfl; have hcz34_2 : w32.cell? ⟨gb819, 2, none⟩ = some (.bool false) := (xc BK819.out 2).trans rfl; have hfz34_0 := xf BK819.out 0; have hfz34_1 := xf BK819.out 1; have hfz34_2 := xf BK819.out 2) | (go_at_call 102; (with_reducible refine (spec_l1In.calls ((rd_T138 l0_0 x31_2).f0) 0 2000000000 false _ A13.out).mono ?_); rintro e w' ⟨rfl, ⟨nd, rfl⟩⟩; (try first | exact ⟨rfl, _, World.drewN_drewN _ _ _⟩ | exact ⟨rfl, _, Eq.trans (World.drewN_drewN _ _ _) (congrArg (World.drewN _) (Nat.add_assoc _ _ _))⟩))))
          go_ret
          exact ⟨by first | rfl | (simp [errW_none, errW_some] <;> rfl) | (simp [*, errW_none, errW_some] <;> rfl), by repeat (first | (with_reducible first | exact HB.out | apply xa | apply xn | apply xd | refine xt ?_ GE816.out | refine xt ?_ GE819.out) | exact HB.out)⟩
        ·rw [if_neg c12] at H
         exact absurd H (by simp)
       ·rw [if_neg c11] at H
        exact absurd H (by simp)
      ·rw [if_neg c10] at H
       have c10b0 : decide (x31_2 < (l0_0.length : Int)) = false := decide_eq_false c10
       clear c10
       have H' := xm H
       clear H
       have hcz35_0 : wr.cell? ⟨gb816, 0, none⟩ = some (.slice A0_0 l0_0.length c0_0) := (xc BK816.out 0).trans rfl
       have hcz35_1 : wr.cell? ⟨gb816, 1, none⟩ = some (.slice A0_1 l0_1.length c0_1) := (xc BK816.out 1).trans rfl
       have hfz35_0 := xf BK816.out 0
       have hfz35_1 := xf BK816.out 1
       go_wp2
       repeat (go_quiet (fail); try go_wp2)
       go_loopg [4, 66] k2 (fun kq v4 v66 w' => ∃ (x4_3 : Int) (x66_3 : Int), v4 = .int .i64 x4_3 ∧ v66 = .int .i64 x66_3 ∧ Aside0 (spec_GoodSnap.l1 kq (l0_0.length : Int) x4_3 l0_1 (l0_1.length : Int) x66_3 l0_0 l0_1 = some r) ∧ Aside0 (kq ≤ k2) ∧ Aside0 (w'.heap[gb816]? = some (.cells #[(.slice A0_0 l0_0.length c0_0), (.slice A0_1 l0_1.length c0_1)] 85 (0, 0))) ∧ Aside0 (Below w.heap.size w w'))
       case atStart => exact ⟨(x4_2), (0), (by first | rfl | (simp; done) | (simp [*]; done)), (by first | rfl | (simp; done) | (simp [*]; done)), H', ⟨Nat.le_refl _⟩, ⟨by (with_reducible repeat (first | refine xq ?_ _ | refine xr ?_ | refine xo ?_ _)); exact BK816.out⟩, ⟨by repeat (first | (with_reducible first | exact HB.out | apply xa | apply xn | apply xd | refine xt ?_ GE816.out) | exact HB.out)⟩⟩
       case round =>
        clear H'
        try clear c1
        try clear q1
        try clear c2
        try clear p2
        try clear c3
        try clear c5
        try clear c6
        try clear p6
        try clear c8
        try clear p8
        try clear q8
        try clear hx8
        try clear c10
        try clear c10b0
        try clear c11
        try clear c11b0
        try clear c12
        try clear c12b0
        try clear c14
        try clear c16
        try clear q17
        try clear c18
        try clear c20
        try clear c22
        try clear c22b0
        try clear c22b1
        try clear c24
        try clear c27
        try clear c30
        try clear c33
        try clear hcz21_0
        try clear hcz21_1
        try clear hcz21_2
        try clear hcz25_0
        try clear hcz25_1
        try clear hcz25_2
        try clear hcz28_0
        try clear hcz28_1
        try clear hcz28_2
        try clear hcz31_0
        try clear hcz31_1
        try clear hcz31_2
        try clear hcz34_0
        try clear hcz34_1
        try clear hcz34_2
        try clear hcz35_0
        try clear hcz35_1
        try clear hcz4_0
        try clear hcz4_1
        try clear hcz7_0
        try clear hcz7_1
        try clear hcz9_0
        try clear hcz9_1
        try clear hfz21_0
        try clear hfz21_1
        try clear hfz21_2
        try clear hfz25_0
        try clear hfz25_1
        try clear hfz25_2
        try clear hfz28_0
        try clear hfz28_1
        try clear hfz28_2
        try clear hfz31_0
        try clear hfz31_1
        try clear hfz31_2
        try clear hfz34_0
        try clear hfz34_1
        try clear hfz34_2
        try clear hfz35_0
        try clear hfz35_1
        try clear hfz4_0
        try clear hfz4_1
        try clear hfz7_0
        try clear hfz7_1
        try clear hfz9_0
        try clear hfz9_1
        try clear hx818_0
        try clear hx818_1
        try clear hx818_2
        try clear p2
        try clear p6
        try clear p818
        try clear q818
        obtain ⟨x4_3, x66_3, rfl, rfl, HA, HK3, BK816, HB⟩ := hrel
        cases gk with
        | zero => exact absurd HA.out (by simp [spec_GoodSnap.l1])
        | succ k3 =>
         have H := HA.out
         clear HA
         simp only [spec_GoodSnap.l1] at H
         by_cases c36 : x66_3 < (l0_1.length : Int)
         ·rw [if_pos c36] at H
          have c36b0 : decide (x66_3 < (l0_1.length : Int)) = true := decide_eq_true c36
          clear c36
          by_cases c37 : 0 ≤ x66_3
          ·rw [if_pos c37] at H
           have c37b0 : decide (0 ≤ x66_3) = true := decide_eq_true c37
           clear c37
           by_cases c38 : x66_3 < (l0_1.length : Int)
           ·rw [if_pos c38] at H
            have c38b0 : decide (x66_3 < (l0_1.length : Int)) = true := decide_eq_true c38
            clear c38
            have H' := xm H
            clear H
            have p822 : 0 ≤ (x66_3 : Int) := of_decide_eq_true (by first | (with_reducible assumption) | assumption)
            have q822 : x66_3 < (l0_1.length : Int) := of_decide_eq_true (by first | (with_reducible assumption) | assumption)
            obtain ⟨ad822, A822_0, c822_0, A822_1, c822_1, e822, hx822_0, hx822_1, hx822_2, hl822_0, hi822_0, hl822_1, hi822_1⟩ := at_T140 HR0_1.out x66_3 p822 q822
            cases e822
            replace hx822_0 := (HB.out.cell (World.block_lt_of_cell? w _ hx822_0)).trans hx822_0
            replace hx822_1 := (HB.out.cell (World.block_lt_of_cell? w _ hx822_1)).trans hx822_1
            replace hx822_2 := (HB.out.cell (World.block_lt_of_cell? w _ hx822_2)).trans hx822_2
            have HR822_0 := xm hi822_0
            have HC822_0 := xm hl822_0
            clear hi822_0 hl822_0
            have HR822_1 := xm hi822_1
            have HC822_1 := xm hl822_1
            clear hi822_1 hl822_1
            replace p822 := eq_true p822
            replace q822 := eq_true q822
            go_wp2_with (first | ((with_reducible refine gate_dst (N := 8) rfl ?_); (try (refine gate_guard (by rfl) ?_; dsimp only)); refine box_event ?hg (N := 8) ?hd (cs := #[.slice none 0 0, .slice none 0 0, .bool false]) (t := 140) ?hr ?_; (case hd => rfl); (case hg => rfl); (case hr => first | (go_simp; done) | (go_simp; rfl)); intro gb823 hg w39 hbox hb; have n0_ := xm (blk_below (g := gb816) (o := .cells #[.slice A0_0 l0_0.length c0_0, .slice (some ad822) l0_1.length c0_1] 85 (0, 0)) (by (with_reducible repeat (first | refine xq ?_ _ | refine xr ?_ | refine xo ?_ _)); exact BK816.out) hb); have n1_ := xm (below_step (by repeat (first | (with_reducible first | exact HB.out | apply xa | apply xn | apply xd | refine xt ?_ GE816.out) | exact HB.out)) hb); have n2_ := xm (hbox); have n3_ := xm ((by rw [hg]; exact (xz (by repeat (first | (with_reducible first | exact HB.out | apply xa | apply xn | apply xd | refine xt ?_ GE816.out) | exact HB.out))) : w.heap.size ≤ gb823)); have n4_ := xm ((by rw [hg]; exact (xz (by repeat (first | (with_reducible first | exact HB.out | apply xa | apply xn | apply xd | refine xt ?_ GE816.out) | exact HB.out))) : w.heap.size ≤ gb823)); have n5_ := xm ((by rw [hg]; exact Nat.ne_of_lt (blk_lt (g := gb816) (o := .cells #[.slice A0_0 l0_0.length c0_0, .slice (some ad822) l0_1.length c0_1] 85 (0, 0)) (by (with_reducible repeat (first | refine xq ?_ _ | refine xr ?_ | refine xo ?_ _)); exact BK816.out)) : gb816 ≠ gb823)); have n6_ := xm ((by rw [hg]; exact Nat.ne_of_gt (blk_lt (g := gb816) (o := .cells #[.slice A0_0 l0_0.length c0_0, .slice (some ad822) l0_1.length c0_1] 85 (0, 0)) (by (with_reducible repeat (first | refine xq ?_ _ | refine xr ?_ | refine xo ?_ _)); exact BK816.out)) : gb823 ≠ gb816)); clear BK816; clear HB; have BK816 := n0_; have HB := n1_; have BK823 := n2_; have GW823 := n3_; have GE823 := n4_; have NB816_823 := n5_; have NB823_816 := n6_; clear n0_ n1_ n2_ n3_ n4_ n5_ n6_; clear hb hbox hg; have hnb40 := NB823_816.out; have hnc40 := NB816_823.out; have hcz41_0 : w39.cell? ⟨gb823, 0, none⟩ = some (.slice none 0 0) := (xc BK823.out 0).trans rfl; have hcz41_1 : w39.cell? ⟨gb823, 1, none⟩ = some (.slice none 0 0) := (xc BK823.out 1).trans rfl; have hcz41_2 : w39.cell? ⟨gb823, 2, none⟩ = some (.bool false) := (xc BK823.out 2).trans rfl; have hfz41_0 := xf BK823.out 0; have hfz41_1 := xf BK823.out 1; have hfz41_2 := xf BK823.out 2))
            repeat (go_quiet (first | ((with_reducible refine gate_dst (N := 8) rfl ?_); (try (refine gate_guard (by rfl) ?_; dsimp only)); refine box_event ?hg (N := 8) ?hd (cs := #[.slice none 0 0, .slice none 0 0, .bool false]) (t := 140) ?hr ?_; (case hd => rfl); (case hg => rfl); (case hr => first | (go_simp; done) | (go_simp; rfl)); intro gb823 hg w39 hbox hb; have n0_ := xm (blk_below (g := gb816) (o := .cells #[.slice A0_0 l0_0.length c0_0, .slice (some ad822) l0_1.length c0_1] 85 (0, 0)) (by (with_reducible repeat (first | refine xq ?_ _ | refine xr ?_ | refine xo ?_ _)); exact BK816.out) hb); have n1_ := xm (below_step (by repeat (first | (with_reducible first | exact HB.out | apply xa | apply xn | apply xd | refine xt ?_ GE816.out) | exact HB.out)) hb); have n2_ := xm (hbox); have n3_ := xm ((by rw [hg]; exact (xz (by repeat (first | (with_reducible first | exact HB.out | apply xa | apply xn | apply xd | refine xt ?_ GE816.out) | exact HB.out))) : w.heap.size ≤ gb823)); have n4_ := xm ((by rw [hg]; exact (xz (by repeat (first | (with_reducible first | exact HB.out | apply xa | apply xn | apply xd | refine xt ?_ GE816.out) | exact HB.out))) : w.heap.size ≤ gb823)); have n5_ := xm ((by rw [hg]; exact Nat.ne_of_lt (blk_lt (g := gb816) (o := .cells #[.slice A0_0 l0_0.length c0_0, .slice (some ad822) l0_1.length c0_1] 85 (0, 0)) (by (with_reducible repeat (first | refine xq ?_ _ | refine xr ?_ | refine xo ?_ _)); exact BK816.out)) : gb816 ≠ gb823)); have n6_ := xm ((by rw [hg]; exact Nat.ne_of_gt (blk_lt (g := gb816) (o := .cells #[.slice A0_0 l0_0.length c0_0, .slice (some ad822) l0_1.length c0_1] 85 (0, 0)) (by (with_reducible repeat (first | refine xq ?_ _ | refine xr ?_ | refine xo ?_ _)); exact BK816.out)) : gb823 ≠ gb816)); clear BK816; clear HB; have BK816 := n0_; have HB := n1_; have BK823 := n2_; have GW823 := n3_; have GE823 := n4_; have NB816_823 := n5_; have NB823_816 := n6_; clear n0_ n1_ n2_ n3_ n4_ n5_ n6_; clear hb hbox hg; have hnb40 := NB823_816.out; have hnc40 := NB816_823.out; have hcz41_0 : w39.cell? ⟨gb823, 0, none⟩ = some (.slice none 0 0) := (xc BK823.out 0).trans rfl; have hcz41_1 : w39.cell? ⟨gb823, 1, none⟩ = some (.slice none 0 0) := (xc BK823.out 1).trans rfl; have hcz41_2 : w39.cell? ⟨gb823, 2, none⟩ = some (.bool false) := (xc BK823.out 2).trans rfl; have hfz41_0 := xf BK823.out 0; have hfz41_1 := xf BK823.out 1; have hfz41_2 := xf BK823.out 2)); try go_wp2_with (first | ((with_reducible refine gate_dst (N := 8) rfl ?_); (try (refine gate_guard (by rfl) ?_; dsimp only)); refine box_event ?hg (N := 8) ?hd (cs := #[.slice none 0 0, .slice none 0 0, .bool false]) (t := 140) ?hr ?_; (case hd => rfl); (case hg => rfl); (case hr => first | (go_simp; done) | (go_simp; rfl)); intro gb823 hg w39 hbox hb; have n0_ := xm (blk_below (g := gb816) (o := .cells #[.slice A0_0 l0_0.length c0_0, .slice (some ad822) l0_1.length c0_1] 85 (0, 0)) (by (with_reducible repeat (first | refine xq ?_ _ | refine xr ?_ | refine xo ?_ _)); exact BK816.out) hb); have n1_ := xm (below_step (by repeat (first | (with_reducible first | exact HB.out | apply xa | apply xn | apply xd | refine xt ?_ GE816.out) | exact HB.out)) hb); have n2_ := xm (hbox); have n3_ := xm ((by rw [hg]; exact (xz (by repeat (first | (with_reducible first | exact HB.out | apply xa | apply xn | apply xd | refine xt ?_ GE816.out) | exact HB.out))) : w.heap.size ≤ gb823)); have n4_ := xm ((by rw [hg]; exact (xz (by repeat (first | (with_reducible first | exact HB.out | apply xa | apply xn | apply xd | refine xt ?_ GE816.out) | exact HB.out))) : w.heap.size ≤ gb823)); have n5_ := xm ((by rw [hg]; exact Nat.ne_of_lt (blk_lt (g := gb816) (o := .cells #[.slice A0_0 l0_0.length c0_0, .slice (some ad822) l0_1.length c0_1] 85 (0, 0)) (by (with_reducible repeat (first | refine xq ?_ _ | refine xr ?_ | refine xo ?_ _)); exact BK816.out)) : gb816 ≠ gb823)); have n6_ := xm ((by rw [hg]; exact Nat.ne_of_gt (blk_lt (g := gb816) (o := .cells #[.slice A0_0 l0_0.length c0_0, .slice (some ad822) l0_1.length c0_1] 85 (0, 0)) (by (with_reducible repeat (first | refine xq ?_ _ | refine xr ?_ | refine xo ?_ _)); exact BK816.out)) : gb823 ≠ gb816)); clear BK816; clear HB; have BK816 := n0_; have HB := n1_; have BK823 := n2_; have GW823 := n3_; have GE823 := n4_; have NB816_823 := n5_; have NB823_816 := n6_; clear n0_ n1_ n2_ n3_ n4_ n5_ n6_; clear hb hbox hg; have hnb40 := NB823_816.out; have hnc40 := NB816_823.out; have hcz41_0 : w39.cell? ⟨gb823, 0, none⟩ = some (.slice none 0 0) := (xc BK823.out 0).trans rfl; have hcz41_1 : w39.cell? ⟨gb823, 1, none⟩ = some (.slice none 0 0) := (xc BK823.out 1).trans rfl; have hcz41_2 : w39.cell? ⟨gb823, 2, none⟩ = some (.bool false) := (xc BK823.out 2).trans rfl; have hfz41_0 := xf BK823.out 0; have hfz41_1 := xf BK823.out 1; have hfz41_2 := xf BK823.out 2)))
            go_loopg [4, 74] k3 (fun kq v4 v74 w' => ∃ (x4_4 : Int) (x74_4 : Int), v4 = .int .i64 x4_4 ∧ v74 = .int .i64 x74_4 ∧ Aside0 (spec_GoodSnap.l2 kq (l0_0.length : Int) x4_4 x66_3 l0_1 (l0_1.length : Int) x66_3 ((rd_T140 l0_1 x66_3).f0) (((rd_T140 l0_1 x66_3).f0).length : Int) x74_4 l0_0 l0_1 ((rd_T140 l0_1 x66_3).f0) ((rd_T140 l0_1 x66_3).f1) ((rd_T140 l0_1 x66_3).f2) = some r) ∧ Aside0 (kq ≤ k3) ∧ Aside0 (w'.heap[gb816]? = some (.cells #[(.slice A0_0 l0_0.length c0_0), (.slice (some ad822) l0_1.length c0_1)] 85 (0, 0))) ∧ Aside0 (w'.heap[gb823]? = some (.cells #[(.slice A822_0 ((rd_T140 l0_1 x66_3).f0).length c822_0), (.slice A822_1 ((rd_T140 l0_1 x66_3).f1).length c822_1), .bool ((rd_T140 l0_1 x66_3).f2)] 140 (0, 0))) ∧ Aside0 (Below w.heap.size w w'))
            case atStart => exact ⟨(x4_3), (0), (by first | rfl | (simp; done) | (simp [*]; done)), (by first | rfl | (simp; done) | (simp [*]; done)), H', ⟨Nat.le_refl _⟩, ⟨by (with_reducible repeat (first | refine xq ?_ _ | refine xr ?_ | refine xo ?_ _)); refine blk_far ?_ NB816_823.out _; (with_reducible repeat (first | refine xq ?_ _ | refine xr ?_ | refine xo ?_ _)); refine blk_far ?_ NB816_823.out _; (with_reducible repeat (first | refine xq ?_ _ | refine xr ?_ | refine xo ?_ _)); refine blk_far ?_ NB816_823.out _; (with_reducible repeat (first | refine xq ?_ _ | refine xr ?_ | refine xo ?_ _)); exact BK816.out⟩, ⟨by (with_reducible repeat (first | refine xq ?_ _ | refine xr ?_ | refine xo ?_ _)); refine blk_put (cs := #[.slice A822_0 ((rd_T140 l0_1 x66_3).f0).length c822_0, .slice A822_1 ((rd_T140 l0_1 x66_3).f1).length c822_1, .bool false]) ?_ 2 _ rfl; (with_reducible repeat (first | refine xq ?_ _ | refine xr ?_ | refine xo ?_ _)); refine blk_put (cs := #[.slice A822_0 ((rd_T140 l0_1 x66_3).f0).length c822_0, .slice none 0 0, .bool false]) ?_ 1 _ rfl; (with_reducible repeat (first | refine xq ?_ _ | refine xr ?_ | refine xo ?_ _)); refine blk_put (cs := #[.slice none 0 0, .slice none 0 0, .bool false]) ?_ 0 _ rfl; (with_reducible repeat (first | refine xq ?_ _ | refine xr ?_ | refine xo ?_ _)); exact BK823.out⟩, ⟨by repeat (first | (with_reducible first | exact HB.out | apply xa | apply xn | apply xd | refine xt ?_ GE816.out | refine xt ?_ GE823.out) | exact HB.out)⟩⟩
            case round =>
             clear H'
             try clear c1
             try clear q1
             try clear c2
             try clear p2
             try clear c3
             try clear c4
             try clear c5
             try clear c6
             try clear p6
             try clear c8
             try clear p8
             try clear q8
             try clear hx8
             try clear c10
             try clear c10b0
             try clear c11
             try clear c11b0
             try clear c12
             try clear c12b0
             try clear c14
             try clear c16
             try clear q17
             try clear c18
             try clear c20
             try clear c22
             try clear c22b0
             try clear c22b1
             try clear c24
             try clear c27
             try clear c30
             try clear c33
             try clear c36
             try clear c36b0
             try clear c37
             try clear c37b0
             try clear c38
             try clear c38b0
             try clear c40
             try clear hcz21_0
             try clear hcz21_1
             try clear hcz21_2
             try clear hcz25_0
             try clear hcz25_1
             try clear hcz25_2
             try clear hcz28_0
             try clear hcz28_1
             try clear hcz28_2
             try clear hcz31_0
             try clear hcz31_1
             try clear hcz31_2
             try clear hcz34_0
             try clear hcz34_1
             try clear hcz34_2
             try clear hcz35_0
             try clear hcz35_1
             try clear hcz41_0
             try clear hcz41_1
             try clear hcz41_2
             try clear hcz4_0
             try clear hcz4_1
             try clear hcz7_0
             try clear hcz7_1
             try clear hcz9_0
             try clear hcz9_1
             try clear hfz21_0
             try clear hfz21_1
             try clear hfz21_2
             try clear hfz25_0
             try clear hfz25_1
             try clear hfz25_2
             try clear hfz28_0
             try clear hfz28_1
             try clear hfz28_2
             try clear hfz31_0
             try clear hfz31_1
             try clear hfz31_2
             try clear hfz34_0
             try clear hfz34_1
             try clear hfz34_2
             try clear hfz35_0
             try clear hfz35_1
             try clear hfz41_0
             try clear hfz41_1
             try clear hfz41_2
             try clear hfz4_0
             try clear hfz4_1
             try clear hfz7_0
             try clear hfz7_1
             try clear hfz9_0
             try clear hfz9_1
             try clear hx818_0
             try clear hx818_1
             try clear hx818_2
             try clear hx822_0
             try clear hx822_1
             try clear hx822_2
             try clear p2
             try clear p6
             try clear p8
             try clear p818
             try clear p822
             try clear q1
             try clear q17
             try clear q8
             try clear q818
             try clear q822
             obtain ⟨x4_4, x74_4, rfl, rfl, HA, HK4, BK816, BK823, HB⟩ := hrel
             cases gk with
             | zero => exact absurd HA.out (by simp [spec_GoodSnap.l2])
             | succ k4 =>
              have H := HA.out
              clear HA
              simp only [spec_GoodSnap.l2] at H
              by_cases c42 : x74_4 < (((rd_T140 l0_1 x66_3).f0).length : Int)
              ·rw [if_pos c42] at H
               have c42b0 : decide (x74_4 < (((rd_T140 l0_1 x66_3).f0).length : Int)) = true := decide_eq_true c42
               clear c42
               by_cases c43 : 0 ≤ x74_4
               ·rw [if_pos c43] at H
                have c43b0 : decide (0 ≤ x74_4) = true := decide_eq_true c43
                clear c43
                by_cases c44 : x74_4 < (((rd_T140 l0_1 x66_3).f0).length : Int)
                ·rw [if_pos c44] at H
                 have c44b0 : decide (x74_4 < (((rd_T140 l0_1 x66_3).f0).length : Int)) = true := decide_eq_true c44
                 clear c44
                 replace H := Option.bind_eq_some_iff.mp H
                 obtain ⟨t825, A450, H⟩ := H
                 replace H : (if t825 = true then (spec_GoodSnap.l2 k4 (l0_0.length : Int) (wrap64 (x4_4 + (rd ((rd_T140 l0_1 x66_3).f0) x74_4))) x66_3 l0_1 (l0_1.length : Int) x66_3 ((rd_T140 l0_1 x66_3).f0) (((rd_T140 l0_1 x66_3).f0).length : Int) (wrap64 (x74_4 + 1)) l0_0 l0_1 ((rd_T140 l0_1 x66_3).f0) ((rd_T140 l0_1 x66_3).f1) ((rd_T140 l0_1 x66_3).f2)) else (some false)) = some r := H
                 have A45 := xm A450
                 clear A450
                 by_cases c46 : t825 = true
                 ·subst c46
                  have H1 : (spec_GoodSnap.l2 k4 (l0_0.length : Int) (wrap64 (x4_4 + (rd ((rd_T140 l0_1 x66_3).f0) x74_4))) x66_3 l0_1 (l0_1.length : Int) x66_3 ((rd_T140 l0_1 x66_3).f0) (((rd_T140 l0_1 x66_3).f0).length : Int) (wrap64 (x74_4 + 1)) l0_0 l0_1 ((rd_T140 l0_1 x66_3).f0) ((rd_T140 l0_1 x66_3).f1) ((rd_T140 l0_1 x66_3).f2)) = some r := by first | (with_reducible rfl) | (rw [if_pos rfl] at H; exact H)
                  clear H
                  have H := H1
                  clear H1
                  have H' := xm H
                  clear H
                  have p824 : 0 ≤ (x74_4 : Int) := of_decide_eq_true (by first | (with_reducible assumption) | assumption)
                  have q824 : x74_4 < (((rd_T140 l0_1 x66_3).f0).length : Int) := of_decide_eq_true (by first | (with_reducible assumption) | assumption)
                  obtain ⟨ad824, e824, hx824_0⟩ := Kd.at_int HR822_0.out x74_4 p824 q824
                  cases e824
                  replace hx824_0 := (HB.out.cell (World.block_lt_of_cell? w _ hx824_0)).trans hx824_0
                  replace p824 := eq_true p824
                  replace q824 := eq_true q824
                  go_wp2_with (first | (go_at_call 118; (with_reducible refine (spec_l15Amount.calls (rd ((rd_T140 l0_1 x66_3).f0) x74_4) true _ A45.out).mono ?_); rintro e w' ⟨rfl, ⟨nd, rfl⟩⟩; (try first | exact ⟨rfl, _, World.drewN_drewN _ _ _⟩ | exact ⟨rfl, _, Eq.trans (World.drewN_drewN _ _ _) (congrArg (World.drewN _) (Nat.add_assoc _ _ _))⟩)))
                  repeat (go_quiet (first | (go_at_call 118; (with_reducible refine (spec_l15Amount.calls (rd ((rd_T140 l0_1 x66_3).f0) x74_4) true _ A45.out).mono ?_); rintro e w' ⟨rfl, ⟨nd, rfl⟩⟩; (try first | exact ⟨rfl, _, World.drewN_drewN _ _ _⟩ | exact ⟨rfl, _, Eq.trans (World.drewN_drewN _ _ _) (congrArg (World.drewN _) (Nat.add_assoc _ _ _))⟩))); try go_wp2_with (first | (go_at_call 118; (with_reducible refine (spec_l15Amount.calls (rd ((rd_T140 l0_1 x66_3).f0) x74_4) true _ A45.out).mono ?_); rintro e w' ⟨rfl, ⟨nd, rfl⟩⟩; (try first | exact ⟨rfl, _, World.drewN_drewN _ _ _⟩ | exact ⟨rfl, _, Eq.trans (World.drewN_drewN _ _ _) (congrArg (World.drewN _) (Nat.add_assoc _ _ _))⟩))))
                  go_roundg k4
                  case measure => have := HJ1.out; have := HK2.out; have := HK3.out; have := HK4.out; omega
                  case rel => exact ⟨(wrap64 (x4_4 + (rd ((rd_T140 l0_1 x66_3).f0) x74_4))), (wrap64 (x74_4 + 1)), (by first | rfl | (simp; done) | (simp [*]; done)), (by first | rfl | (simp; done) | (simp [*]; done)), H', ⟨by have := HJ1.out; have := HK2.out; have := HK3.out; have := HK4.out; omega⟩, ⟨by (with_reducible repeat (first | refine xq ?_ _ | refine xr ?_ | refine xo ?_ _)); exact BK816.out⟩, ⟨by (with_reducible repeat (first | refine xq ?_ _ | refine xr ?_ | refine xo ?_ _)); exact BK823.out⟩, ⟨by repeat (first | (with_reducible first | exact HB.out | apply xa | apply xn | apply xd | refine xt ?_ GE816.out | refine xt ?_ GE823.out) | exact HB.out)⟩⟩
                 ·replace c46 := Bool.eq_false_iff.mpr c46
                  subst c46
                  have H1 : (some false) = some r := by first | (with_reducible rfl) | (rw [if_neg (show ¬ (false = true) by decide)] at H; exact H)
                  clear H
                  have H := H1
                  clear H1
                  obtain rfl := Option.some.inj H
                  have p824 : 0 ≤ (x74_4 : Int) := of_decide_eq_true (by first | (with_reducible assumption) | assumption)
                  have q824 : x74_4 < (((rd_T140 l0_1 x66_3).f0).length : Int) := of_decide_eq_true (by first | (with_reducible assumption) | assumption)
                  obtain ⟨ad824, e824, hx824_0⟩ := Kd.at_int HR822_0.out x74_4 p824 q824
                  cases e824
                  replace hx824_0 := (HB.out.cell (World.block_lt_of_cell? w _ hx824_0)).trans hx824_0
                  replace p824 := eq_true p824
                  replace q824 := eq_true q824
                  go_wp2_with (first | (go_at_call 118; (with_reducible refine (spec_l15Amount.calls (rd ((rd_T140 l0_1 x66_3).f0) x74_4) false _ A45.out).mono ?_); rintro e w' ⟨rfl, ⟨nd, rfl⟩⟩; (try first | exact ⟨rfl, _, World.drewN_drewN _ _ _⟩ | exact ⟨rfl, _, Eq.trans (World.drewN_drewN _ _ _) (congrArg (World.drewN _) (Nat.add_assoc _ _ _))⟩)))
                  repeat (go_quiet (first | (go_at_call 118; (with_reducible refine (spec_l15Amount.calls (rd ((rd_T140 l0_1 x66_3).f0) x74_4) false _ A45.out).mono ?_); rintro e w' ⟨rfl, ⟨nd, rfl⟩⟩; (try first | exact ⟨rfl, _, World.drewN_drewN _ _ _⟩ | exact ⟨rfl, _, Eq.trans (World.drewN_drewN _ _ _) (congrArg (World.drewN _) (Nat.add_assoc _ _ _))⟩))); try go_wp2_with (first | (go_at_call 118; (with_reducible refine (spec_l15Amount.calls (rd ((rd_T140 l0_1 x66_3).f0) x74_4) false _ A45.out).mono ?_); rintro e w' ⟨rfl, ⟨nd, rfl⟩⟩; (try first | exact ⟨rfl, _, World.drewN_drewN _ _ _⟩ | exact ⟨rfl, _, Eq.trans (World.drewN_drewN _ _ _) (congrArg (World.drewN _) (Nat.add_assoc _ _ _))⟩))))
                  go_ret
                  exact ⟨by first | rfl | (simp [errW_none, errW_some] <;> rfl) | (simp [*, errW_none, errW_some] <;> rfl), by repeat (first | (with_reducible first | exact HB.out | apply xa | apply xn | apply xd | refine xt ?_ GE816.out | refine xt ?_ GE823.out) | exact HB.out)⟩
                ·rw [if_neg c44] at H
                 exact absurd H (by simp)
               ·rw [if_neg c43] at H
                exact absurd H (by simp)
              ·rw [if_neg c42] at H
               have c42b0 : decide (x74_4 < (((rd_T140 l0_1 x66_3).f0).length : Int)) = false := decide_eq_false c42
               clear c42
               have H' := xm H
               clear H
               have hnb47 := NB823_816.out
               have hnc47 := NB816_823.out
               have hcz48_0 : wr.cell? ⟨gb823, 0, none⟩ = some (.slice A822_0 ((rd_T140 l0_1 x66_3).f0).length c822_0) := (xc BK823.out 0).trans rfl
               have hcz48_1 : wr.cell? ⟨gb823, 1, none⟩ = some (.slice A822_1 ((rd_T140 l0_1 x66_3).f1).length c822_1) := (xc BK823.out 1).trans rfl
               have hcz48_2 : wr.cell? ⟨gb823, 2, none⟩ = some (.bool ((rd_T140 l0_1 x66_3).f2)) := (xc BK823.out 2).trans rfl
               have hfz48_0 := xf BK823.out 0
               have hfz48_1 := xf BK823.out 1
               have hfz48_2 := xf BK823.out 2
               go_wp2
               repeat (go_quiet (fail); try go_wp2)
               go_loopg [4, 88] k4 (fun kq v4 v88 w' => ∃ (x4_5 : Int) (x88_5 : Int), v4 = .int .i64 x4_5 ∧ v88 = .int .i64 x88_5 ∧ Aside0 (spec_GoodSnap.l3 kq (l0_0.length : Int) x4_5 x66_3 l0_1 (l0_1.length : Int) x66_3 ((rd_T140 l0_1 x66_3).f1) (((rd_T140 l0_1 x66_3).f1).length : Int) x88_5 l0_0 l0_1 ((rd_T140 l0_1 x66_3).f0) ((rd_T140 l0_1 x66_3).f1) ((rd_T140 l0_1 x66_3).f2) = some r) ∧ Aside0 (kq ≤ k4) ∧ Aside0 (w'.heap[gb816]? = some (.cells #[(.slice A0_0 l0_0.length c0_0), (.slice (some ad822) l0_1.length c0_1)] 85 (0, 0))) ∧ Aside0 (w'.heap[gb823]? = some (.cells #[(.slice A822_0 ((rd_T140 l0_1 x66_3).f0).length c822_0), (.slice A822_1 ((rd_T140 l0_1 x66_3).f1).length c822_1), .bool ((rd_T140 l0_1 x66_3).f2)] 140 (0, 0))) ∧ Aside0 (Below w.heap.size w w'))
               case atStart => exact ⟨(x4_4), (0), (by first | rfl | (simp; done) | (simp [*]; done)), (by first | rfl | (simp; done) | (simp [*]; done)), H', ⟨Nat.le_refl _⟩, ⟨by (with_reducible repeat (first | refine xq ?_ _ | refine xr ?_ | refine xo ?_ _)); exact BK816.out⟩, ⟨by (with_reducible repeat (first | refine xq ?_ _ | refine xr ?_ | refine xo ?_ _)); exact BK823.out⟩, ⟨by repeat (first | (with_reducible first | exact HB.out | apply xa | apply xn | apply xd | refine xt ?_ GE816.out | refine xt ?_ GE823.out) | exact HB.out)⟩⟩
               case round =>
                clear H'
                try clear c1
                try clear q1
                try clear c2
                try clear p2
                try clear c3
                try clear c4
                try clear c5
                try clear c6
                try clear p6
                try clear c8
                try clear p8
                try clear q8
                try clear hx8
                try clear c10
                try clear c10b0
                try clear c11
                try clear c11b0
                try clear c12
                try clear c12b0
                try clear c14
                try clear c16
                try clear q17
                try clear c18
                try clear c20
                try clear c22
                try clear c22b0
                try clear c22b1
                try clear c24
                try clear c27
                try clear c30
                try clear c33
                try clear c36
                try clear c36b0
                try clear c37
                try clear c37b0
                try clear c38
                try clear c38b0
                try clear c40
                try clear c42
                try clear c42b0
                try clear c43
                try clear c43b0
                try clear c44
                try clear c44b0
                try clear c46
                try clear c47
                try clear hcz21_0
                try clear hcz21_1
                try clear hcz21_2
                try clear hcz25_0
                try clear hcz25_1
                try clear hcz25_2
                try clear hcz28_0
                try clear hcz28_1
                try clear hcz28_2
                try clear hcz31_0
                try clear hcz31_1
                try clear hcz31_2
                try clear hcz34_0
                try clear hcz34_1
                try clear hcz34_2
                try clear hcz35_0
                try clear hcz35_1
                try clear hcz41_0
                try clear hcz41_1
                try clear hcz41_2
                try clear hcz48_0
                try clear hcz48_1
                try clear hcz48_2
                try clear hcz4_0
                try clear hcz4_1
                try clear hcz7_0
                try clear hcz7_1
                try clear hcz9_0
                try clear hcz9_1
                try clear hfz21_0
                try clear hfz21_1
                try clear hfz21_2
                try clear hfz25_0
                try clear hfz25_1
                try clear hfz25_2
                try clear hfz28_0
                try clear hfz28_1
                try clear hfz28_2
                try clear hfz31_0
                try clear hfz31_1
                try clear hfz31_2
                try clear hfz34_0
                try clear hfz34_1
                try clear hfz34_2
                try clear hfz35_0
                try clear hfz35_1
                try clear hfz41_0
                try clear hfz41_1
                try clear hfz41_2
                try clear hfz48_0
                try clear hfz48_1
                try clear hfz48_2
                try clear hfz4_0
                try clear hfz4_1
                try clear hfz7_0
                try clear hfz7_1
                try clear hfz9_0
                try clear hfz9_1
                try clear hx818_0
                try clear hx818_1
                try clear hx818_2
                try clear hx822_0
                try clear hx822_1
                try clear hx822_2
                try clear hx824_0
                try clear p2
                try clear p6
                try clear p8
                try clear p818
                try clear p822
                try clear p824
                try clear q1
                try clear q17
                try clear q8
                try clear q818
                try clear q822
                try clear q824
                obtain ⟨x4_5, x88_5, rfl, rfl, HA, HK5, BK816, BK823, HB⟩ := hrel
                cases gk with
                | zero => exact absurd HA.out (by simp [spec_GoodSnap.l3])
                | succ k5 =>
                 have H := HA.out
                 clear HA
                 simp only [spec_GoodSnap.l3] at H
                 by_cases c49 : x88_5 < (((rd_T140 l0_1 x66_3).f1).length : Int)
                 ·rw [if_pos c49] at H
                  have c49b0 : decide (x88_5 < (((rd_T140 l0_1 x66_3).f1).length : Int)) = true := decide_eq_true c49
                  clear c49
                  by_cases c50 : 0 ≤ x88_5
                  ·rw [if_pos c50] at H
                   have c50b0 : decide (0 ≤ x88_5) = true := decide_eq_true c50
                   clear c50
                   by_cases c51 : x88_5 < (((rd_T140 l0_1 x66_3).f1).length : Int)
                   ·rw [if_pos c51] at H
                    have c51b0 : decide (x88_5 < (((rd_T140 l0_1 x66_3).f1).length : Int)) = true := decide_eq_true c51
                    clear c51
                    by_cases c52 : (rd ((rd_T140 l0_1 x66_3).f1) x88_5) = 0
                    ·rw [if_pos c52] at H
                     have c52b0 : ((rd ((rd_T140 l0_1 x66_3).f1) x88_5) == 0) = true := beq_iff_eq.mpr c52
                     have c52b1 : ((rd ((rd_T140 l0_1 x66_3).f1) x88_5) != 0) = false := bne_eq_false_iff_eq.mpr c52
                     clear c52
                     obtain rfl := Option.some.inj H
                     have p826 : 0 ≤ (x88_5 : Int) := of_decide_eq_true (by first | (with_reducible assumption) | assumption)
                     have q826 : x88_5 < (((rd_T140 l0_1 x66_3).f1).length : Int) := of_decide_eq_true (by first | (with_reducible assumption) | assumption)
                     obtain ⟨ad826, e826, hx826_0⟩ := Kd.at_int HR822_1.out x88_5 p826 q826
                     cases e826
                     replace hx826_0 := (HB.out.cell (World.block_lt_of_cell? w _ hx826_0)).trans hx826_0
                     replace p826 := eq_true p826
                     replace q826 := eq_true q826
                     go_wp2
                     repeat (go_quiet (fail); try go_wp2)
                     go_ret
                     exact ⟨by first | rfl | (simp [errW_none, errW_some] <;> rfl) | (simp [*, errW_none, errW_some] <;> rfl), by repeat (first | (with_reducible first | exact HB.out | apply xa | apply xn | apply xd | refine xt ?_ GE816.out | refine xt ?_ GE823.out) | exact HB.out)⟩
                    ·rw [if_neg c52] at H
                     have c52b0 : ((rd ((rd_T140 l0_1 x66_3).f1) x88_5) == 0) = false := beq_eq_false_iff_ne.mpr c52
                     have c52b1 : ((rd ((rd_T140 l0_1 x66_3).f1) x88_5) != 0) = true := bne_iff_ne.mpr c52
                     replace H := Option.bind_eq_some_iff.mp H
                     obtain ⟨t827, A530, H⟩ := H
                     replace H : (if t827 = true then (spec_GoodSnap.l3 k5 (l0_0.length : Int) (wrap64 (x4_5 + (rd ((rd_T140 l0_1 x66_3).f1) x88_5))) x66_3 l0_1 (l0_1.length : Int) x66_3 ((rd_T140 l0_1 x66_3).f1) (((rd_T140 l0_1 x66_3).f1).length : Int) (wrap64 (x88_5 + 1)) l0_0 l0_1 ((rd_T140 l0_1 x66_3).f0) ((rd_T140 l0_1 x66_3).f1) ((rd_T140 l0_1 x66_3).f2)) else (some false)) = some r := H
                     have A53 := xm A530
                     clear A530
                     by_cases c54 : t827 = true
                     ·subst c54
                      have H1 : (spec_GoodSnap.l3 k5 (l0_0.length : Int) (wrap64 (x4_5 + (rd ((rd_T140 l0_1 x66_3).f1) x88_5))) x66_3 l0_1 (l0_1.length : Int) x66_3 ((rd_T140 l0_1 x66_3).f1) (((rd_T140 l0_1 x66_3).f1).length : Int) (wrap64 (x88_5 + 1)) l0_0 l0_1 ((rd_T140 l0_1 x66_3).f0) ((rd_T140 l0_1 x66_3).f1) ((rd_T140 l0_1 x66_3).f2)) = some r := by first | (with_reducible rfl) | (rw [if_pos rfl] at H; exact H)
                      clear H
                      have H := H1
                      clear H1
                      have H' := xm H
                      clear H
                      have p826 : 0 ≤ (x88_5 : Int) := of_decide_eq_true (by first | (with_reducible assumption) | assumption)
                      have q826 : x88_5 < (((rd_T140 l0_1 x66_3).f1).length : Int) := of_decide_eq_true (by first | (with_reducible assumption) | assumption)
                      obtain ⟨ad826, e826, hx826_0⟩ := Kd.at_int HR822_1.out x88_5 p826 q826
                      cases e826
                      replace hx826_0 := (HB.out.cell (World.block_lt_of_cell? w _ hx826_0)).trans hx826_0
                      replace p826 := eq_true p826
                      replace q826 := eq_true q826
                      go_wp2_with (first | (go_at_call 118; (with_reducible refine (spec_l15Amount.calls (rd ((rd_T140 l0_1 x66_3).f1) x88_5) true _ A53.out).mono ?_); rintro e w' ⟨rfl, ⟨nd, rfl⟩⟩; (try first | exact ⟨rfl, _, World.drewN_drewN _ _ _⟩ | exact ⟨rfl, _, Eq.trans (World.drewN_drewN _ _ _) (congrArg (World.drewN _) (Nat.add_assoc _ _ _))⟩)))
                      repeat (go_quiet (first | (go_at_call 118; (with_reducible refine (spec_l15Amount.calls (rd ((rd_T140 l0_1 x66_3).f1) x88_5) true _ A53.out).mono ?_); rintro e w' ⟨rfl, ⟨nd, rfl⟩⟩; (try first | exact ⟨rfl, _, World.drewN_drewN _ _ _⟩ | exact ⟨rfl, _, Eq.trans (World.drewN_drewN _ _ _) (congrArg (World.drewN _) (Nat.add_assoc _ _ _))⟩))); try go_wp2_with (first | (go_at_call 118; (with_reducible refine (spec_l15Amount.calls (rd ((rd_T140 l0_1 x66_3).f1) x88_5) true _ A53.out).mono ?_); rintro e w' ⟨rfl, ⟨nd, rfl⟩⟩; (try first | exact ⟨rfl, _, World.drewN_drewN _ _ _⟩ | exact ⟨rfl, _, Eq.trans (World.drewN_drewN _ _ _) (congrArg (World.drewN _) (Nat.add_assoc _ _ _))⟩))))
                      go_roundg k5
                      case measure => have := HJ1.out; have := HK2.out; have := HK3.out; have := HK4.out; have := HK5.out; omega
                      case rel => exact ⟨(wrap64 (x4_5 + (rd ((rd_T140 l0_1 x66_3).f1) x88_5))), (wrap64 (x88_5 + 1)), (by first | rfl | (simp; done) | (simp [*]; done)), (by first | rfl | (simp; done) | (simp [*]; done)), H', ⟨by have := HJ1.out; have := HK2.out; have := HK3.out; have := HK4.out; have := HK5.out; omega⟩, ⟨by (with_reducible repeat (first | refine xq ?_ _ | refine xr ?_ | refine xo ?_ _)); exact BK816.out⟩, ⟨by (with_reducible repeat (first | refine xq ?_ _ | refine xr ?_ | refine xo ?_ _)); exact BK823.out⟩, ⟨by repeat (first | (with_reducible first | exact HB.out | apply xa | apply xn | apply xd | refine xt ?_ GE816.out | refine xt ?_ GE823.out) | exact HB.out)⟩⟩
                     ·replace c54 := Bool.eq_false_iff.mpr c54
                      subst c54
                      have H1 : (some false) = some r := by first | (with_reducible rfl) | (rw [if_neg (show ¬ (false = true) by decide)] at H; exact H)
                      clear H
                      have H := H1
                      clear H1
                      obtain rfl := Option.some.inj H
                      have p826 : 0 ≤ (x88_5 : Int) := of_decide_eq_true (by first | (with_reducible assumption) | assumption)
                      have q826 : x88_5 < (((rd_T140 l0_1 x66_3).f1).length : Int) := of_decide_eq_true (by first | (with_reducible assumption) | assumption)
                      obtain ⟨ad826, e826, hx826_0⟩ := Kd.at_int HR822_1.out x88_5 p826 q826
                      cases e826
                      replace hx826_0 := (HB.out.cell (World.block_lt_of_cell? w _ hx826_0)).trans hx826_0
                      replace p826 := eq_true p826
                      replace q826 := eq_true q826
                      go_wp2_with (first | (go_at_call 118; (with_reducible refine (spec_l15Amount.calls (rd ((rd_T140 l0_1 x66_3).f1) x88_5) false _ A53.out).mono ?_); rintro e w' ⟨rfl, ⟨nd, rfl⟩⟩; (try first | exact ⟨rfl, _, World.drewN_drewN _ _ _⟩ | exact ⟨rfl, _, Eq.trans (World.drewN_drewN _ _ _) (congrArg (World.drewN _) (Nat.add_assoc _ _ _))⟩)))
                      repeat (go_quiet (first | (go_at_call 118; (with_reducible refine (spec_l15Amount.calls (rd ((rd_T140 l0_1 x66_3).f1) x88_5) false _ A53.out).mono ?_); rintro e w' ⟨rfl, ⟨nd, rfl⟩⟩; (try first | exact ⟨rfl, _, World.drewN_drewN _ _ _⟩ | exact ⟨rfl, _, Eq.trans (World.drewN_drewN _ _ _) (congrArg (World.drewN _) (Nat.add_assoc _ _ _))⟩))); try go_wp2_with (first | (go_at_call 118; (with_reducible refine (spec_l15Amount.calls (rd ((rd_T140 l0_1 x66_3).f1) x88_5) false _ A53.out).mono ?_); rintro e w' ⟨rfl, ⟨nd, rfl⟩⟩; (try first | exact ⟨rfl, _, World.drewN_drewN _ _ _⟩ | exact ⟨rfl, _, Eq.trans (World.drewN_drewN _ _ _) (congrArg (World.drewN _) (Nat.add_assoc _ _ _))⟩))))
                      go_ret
                      exact ⟨by first | rfl | (simp [errW_none, errW_some] <;> rfl) | (simp [*, errW_none, errW_some] <;> rfl), by repeat (first | (with_reducible first | exact HB.out | apply xa | apply xn | apply xd | refine xt ?_ GE816.out | refine xt ?_ GE823.out) | exact HB.out)⟩
                   ·rw [if_neg c51] at H
                    exact absurd H (by simp)
                  ·rw [if_neg c50] at H
                   exact absurd H (by simp)
                 ·rw [if_neg c49] at H
                  have c49b0 : decide (x88_5 < (((rd_T140 l0_1 x66_3).f1).length : Int)) = false := decide_eq_false c49
                  clear c49
                  by_cases c55 : (((rd_T140 l0_1 x66_3).f0).length : Int) > 12
                  ·rw [if_pos c55] at H
                   have c55b0 : decide (12 < (((rd_T140 l0_1 x66_3).f0).length : Int)) = true := decide_eq_true c55
                   have c55b1 : decide (12 < ((rd_T140 l0_1 x66_3).f0).length) = true := decide_eq_true (by omega)
                   clear c55
                   obtain rfl := Option.some.inj H
                   have hnb56 := NB823_816.out
                   have hnc56 := NB816_823.out
                   have hcz57_0 : wr.cell? ⟨gb823, 0, none⟩ = some (.slice A822_0 ((rd_T140 l0_1 x66_3).f0).length c822_0) := (xc BK823.out 0).trans rfl
                   have hcz57_1 : wr.cell? ⟨gb823, 1, none⟩ = some (.slice A822_1 ((rd_T140 l0_1 x66_3).f1).length c822_1) := (xc BK823.out 1).trans rfl
                   have hcz57_2 : wr.cell? ⟨gb823, 2, none⟩ = some (.bool ((rd_T140 l0_1 x66_3).f2)) := (xc BK823.out 2).trans rfl
                   have hfz57_0 := xf BK823.out 0
                   have hfz57_1 := xf BK823.out 1
                   have hfz57_2 := xf BK823.out 2
                   go_wp2
                   repeat (go_quiet (fail); try go_wp2)
                   go_ret
                   exact ⟨by first | rfl | (simp [errW_none, errW_some] <;> rfl) | (simp [*, errW_none, errW_some] <;> rfl), by repeat (first | (with_reducible first | exact HB.out | apply xa | apply xn | apply xd | refine xt ?_ GE816.out | refine xt ?_ GE823.out) | exact HB.out)⟩
                  ·rw [if_neg c55] at H
                   have c55b0 : decide (12 < (((rd_T140 l0_1 x66_3).f0).length : Int)) = false := decide_eq_false c55
                   have c55b1 : decide (12 < ((rd_T140 l0_1 x66_3).f0).length) = false := decide_eq_false (by omega)
                   clear c55
                   by_cases c58 : (((rd_T140 l0_1 x66_3).f1).length : Int) > 200
                   ·rw [if_pos c58] at H
                    have c58b0 : decide (200 < (((rd_T140 l0_1 x66_3).f1).length : Int)) = true := decide_eq_true c58
                    have c58b1 : decide (200 < ((rd_T140 l0_1 x66_3).f1).length) = true := decide_eq_true (by omega)
                    clear c58
                    obtain rfl := Option.some.inj H
                    have hnb59 := NB823_816.out
                    have hnc59 := NB816_823.out
                    have hcz60_0 : wr.cell? ⟨gb823, 0, none⟩ = some (.slice A822_0 ((rd_T140 l0_1 x66_3).f0).length c822_0) := (xc BK823.out 0).trans rfl
                    have hcz60_1 : wr.cell? ⟨gb823, 1, none⟩ = some (.slice A822_1 ((rd_T140 l0_1 x66_3).f1).length c822_1) := (xc BK823.out 1).trans rfl
                    have hcz60_2 : wr.cell? ⟨gb823, 2, none⟩ = some (.bool ((rd_T140 l0_1 x66_3).f2)) := (xc BK823.out 2).trans rfl
                    have hfz60_0 := xf BK823.out 0
                    have hfz60_1 := xf BK823.out 1
                    have hfz60_2 := xf BK823.out 2
                    go_wp2
                    repeat (go_quiet (fail); try go_wp2)
                    go_ret
                    exact ⟨by first | rfl | (simp [errW_none, errW_some] <;> rfl) | (simp [*, errW_none, errW_some] <;> rfl), by repeat (first | (with_reducible first | exact HB.out | apply xa | apply xn | apply xd | refine xt ?_ GE816.out | refine xt ?_ GE823.out) | exact HB.out)⟩
                   ·rw [if_neg c58] at H
                    have c58b0 : decide (200 < (((rd_T140 l0_1 x66_3).f1).length : Int)) = false := decide_eq_false c58
                    have c58b1 : decide (200 < ((rd_T140 l0_1 x66_3).f1).length) = false := decide_eq_false (by omega)
                    clear c58
                    by_cases c61 : (l0_0.length : Int) = 0
                    ·rw [if_pos c61] at H
                     exact absurd H (by simp)
                    ·rw [if_neg c61] at H
                     have c61b0 : ((l0_0.length : Int) == 0) = false := beq_eq_false_iff_ne.mpr c61
                     have c61b1 : ((l0_0.length : Int) != 0) = true := bne_iff_ne.mpr c61
                     have c61b2 : ¬ (l0_0 = []) := fun h_ => c61 (by rw [h_]; rfl)
                     by_cases c62 : (wrap64 (Int.tdiv x66_3 (l0_0.length : Int))) = (Int.tmod x66_3 (l0_0.length : Int))
                     ·rw [if_pos c62] at H
                      have c62b0 : ((wrap64 (Int.tdiv x66_3 (l0_0.length : Int))) == (Int.tmod x66_3 (l0_0.length : Int))) = true := beq_iff_eq.mpr c62
                      have c62b1 : ((wrap64 (Int.tdiv x66_3 (l0_0.length : Int))) != (Int.tmod x66_3 (l0_0.length : Int))) = false := bne_eq_false_iff_eq.mpr c62
                      clear c62
                      by_cases c63 : (((rd_T140 l0_1 x66_3).f0).length : Int) > 0
                      ·rw [if_pos c63] at H
                       have c63b0 : decide (0 < (((rd_T140 l0_1 x66_3).f0).length : Int)) = true := decide_eq_true c63
                       have c63b1 : decide (0 < ((rd_T140 l0_1 x66_3).f0).length) = true := decide_eq_true (by omega)
                       clear c63
                       obtain rfl := Option.some.inj H
                       have hnb64 := NB823_816.out
                       have hnc64 := NB816_823.out
                       have hcz65_0 : wr.cell? ⟨gb823, 0, none⟩ = some (.slice A822_0 ((rd_T140 l0_1 x66_3).f0).length c822_0) := (xc BK823.out 0).trans rfl
                       have hcz65_1 : wr.cell? ⟨gb823, 1, none⟩ = some (.slice A822_1 ((rd_T140 l0_1 x66_3).f1).length c822_1) := (xc BK823.out 1).trans rfl
                       have hcz65_2 : wr.cell? ⟨gb823, 2, none⟩ = some (.bool ((rd_T140 l0_1 x66_3).f2)) := (xc BK823.out 2).trans rfl
                       have hfz65_0 := xf BK823.out 0
                       have hfz65_1 := xf BK823.out 1
                       have hfz65_2 := xf BK823.out 2
                       go_wp2
                       repeat (go_quiet (fail); try go_wp2)
                       go_ret
                       exact ⟨by first | rfl | (simp [errW_none, errW_some] <;> rfl) | (simp [*, errW_none, errW_some] <;> rfl), by repeat (first | (with_reducible first | exact HB.out | apply xa | apply xn | apply xd | refine xt ?_ GE816.out | refine xt ?_ GE823.out) | exact HB.out)⟩
                      ·rw [if_neg c63] at H
                       have c63b0 : decide (0 < (((rd_T140 l0_1 x66_3).f0).length : Int)) = false := decide_eq_false c63
                       have c63b1 : decide (0 < ((rd_T140 l0_1 x66_3).f0).length) = false := decide_eq_false (by omega)
                       clear c63
                       by_cases c66 : (((rd_T140 l0_1 x66_3).f1).length : Int) > 0
                       ·rw [if_pos c66] at H
                        have c66b0 : decide (0 < (((rd_T140 l0_1 x66_3).f1).length : Int)) = true := decide_eq_true c66
                        have c66b1 : decide (0 < ((rd_T140 l0_1 x66_3).f1).length) = true := decide_eq_true (by omega)
                        clear c66
                        obtain rfl := Option.some.inj H
                        have hnb67 := NB823_816.out
                        have hnc67 := NB816_823.out
                        have hcz68_0 : wr.cell? ⟨gb823, 0, none⟩ = some (.slice A822_0 ((rd_T140 l0_1 x66_3).f0).length c822_0) := (xc BK823.out 0).trans rfl
                        have hcz68_1 : wr.cell? ⟨gb823, 1, none⟩ = some (.slice A822_1 ((rd_T140 l0_1 x66_3).f1).length c822_1) := (xc BK823.out 1).trans rfl
                        have hcz68_2 : wr.cell? ⟨gb823, 2, none⟩ = some (.bool ((rd_T140 l0_1 x66_3).f2)) := (xc BK823.out 2).trans rfl
                        have hfz68_0 := xf BK823.out 0
                        have hfz68_1 := xf BK823.out 1
                        have hfz68_2 := xf BK823.out 2
                        go_wp2
                        repeat (go_quiet (fail); try go_wp2)
                        go_ret
                        exact ⟨by first | rfl | (simp [errW_none, errW_some] <;> rfl) | (simp [*, errW_none, errW_some] <;> rfl), by repeat (first | (with_reducible first | exact HB.out | apply xa | apply xn | apply xd | refine xt ?_ GE816.out | refine xt ?_ GE823.out) | exact HB.out)⟩
                       ·rw [if_neg c66] at H
                        have c66b0 : decide (0 < (((rd_T140 l0_1 x66_3).f1).length : Int)) = false := decide_eq_false c66
                        have c66b1 : decide (0 < ((rd_T140 l0_1 x66_3).f1).length) = false := decide_eq_false (by omega)
                        clear c66
                        by_cases c69 : ((rd_T140 l0_1 x66_3).f2) = true
                        ·rw [if_pos c69] at H
                         have c69b0 : ((rd_T140 l0_1 x66_3).f2) = true := c69
                         clear c69
                         obtain rfl := Option.some.inj H
                         have hnb70 := NB823_816.out
                         have hnc70 := NB816_823.out
                         have hcz71_0 : wr.cell? ⟨gb823, 0, none⟩ = some (.slice A822_0 ((rd_T140 l0_1 x66_3).f0).length c822_0) := (xc BK823.out 0).trans rfl
                         have hcz71_1 : wr.cell? ⟨gb823, 1, none⟩ = some (.slice A822_1 ((rd_T140 l0_1 x66_3).f1).length c822_1) := (xc BK823.out 1).trans rfl
                         have hcz71_2 : wr.cell? ⟨gb823, 2, none⟩ = some (.bool ((rd_T140 l0_1 x66_3).f2)) := (xc BK823.out 2).trans rfl
                         have hfz71_0 := xf BK823.out 0
                         have hfz71_1 := xf BK823.out 1
                         have hfz71_2 := xf BK823.out 2
                         go_wp2
                         repeat (go_quiet (fail); try go_wp2)
                         go_ret
                         exact ⟨by first | rfl | (simp [errW_none, errW_some] <;> rfl) | (simp [*, errW_none, errW_some] <;> rfl), by repeat (first | (with_reducible first | exact HB.out | apply xa | apply xn | apply xd | refine xt ?_ GE816.out | refine xt ?_ GE823.out) | exact HB.out)⟩
                        ·rw [if_neg c69] at H
                         have c69b0 : ((rd_T140 l0_1 x66_3).f2) = false := by simpa using c69
                         clear c69
                         obtain ⟨ji72, hji72⟩ : ∃ j_ : Int, (Int.tmod x66_3 (l0_0.length : Int)) = j_ := ⟨_, rfl⟩
                         replace H : (if 0 ≤ (ji72) then (if (ji72) < (l0_0.length : Int) then (if ((rd_T138 l0_0 (ji72)).f2 = true) then (spec_GoodSnap.l1 k5 (l0_0.length : Int) x4_5 l0_1 (l0_1.length : Int) (wrap64 (x66_3 + 1)) l0_0 l0_1) else (spec_GoodSnap.l1 k5 (l0_0.length : Int) x4_5 l0_1 (l0_1.length : Int) (wrap64 (x66_3 + 1)) l0_0 l0_1)) else (none)) else (none)) = some r := by first | (rw [hji72] at H; exact H) | (simp only [hji72] at H ⊢; exact H)
                         (try rw [hji72] at c62b0)
                         (try rw [hji72] at c62b1)
                         by_cases c73 : 0 ≤ (ji72)
                         ·rw [if_pos c73] at H
                          have c73b0 : decide (0 ≤ (ji72)) = true := decide_eq_true c73
                          clear c73
                          by_cases c74 : (ji72) < (l0_0.length : Int)
                          ·rw [if_pos c74] at H
                           have c74b0 : decide ((ji72) < (l0_0.length : Int)) = true := decide_eq_true c74
                           clear c74
                           obtain ⟨bq75, hbq75⟩ : ∃ b_ : Bool, b_ = ((rd_T138 l0_0 (ji72)).f2) := ⟨_, rfl⟩
                           replace H : (if (bq75 = true) then (spec_GoodSnap.l1 k5 (l0_0.length : Int) x4_5 l0_1 (l0_1.length : Int) (wrap64 (x66_3 + 1)) l0_0 l0_1) else (spec_GoodSnap.l1 k5 (l0_0.length : Int) x4_5 l0_1 (l0_1.length : Int) (wrap64 (x66_3 + 1)) l0_0 l0_1)) = some r := by rw [← hbq75] at H; exact H
                           have Nbq75 := xm hbq75
                           clear hbq75
                           by_cases c76 : (bq75 = true)
                           ·subst c76
                            have H1 : (spec_GoodSnap.l1 k5 (l0_0.length : Int) x4_5 l0_1 (l0_1.length : Int) (wrap64 (x66_3 + 1)) l0_0 l0_1) = some r := by first | (with_reducible rfl) | (rw [if_pos rfl] at H; exact H)
                            clear H
                            have H := H1
                            clear H1
                            have H' := xm H
                            clear H
                            have hnb77 := NB823_816.out
                            have hnc77 := NB816_823.out
                            have hcz78_0 : wr.cell? ⟨gb823, 0, none⟩ = some (.slice A822_0 ((rd_T140 l0_1 x66_3).f0).length c822_0) := (xc BK823.out 0).trans rfl
                            have hcz78_1 : wr.cell? ⟨gb823, 1, none⟩ = some (.slice A822_1 ((rd_T140 l0_1 x66_3).f1).length c822_1) := (xc BK823.out 1).trans rfl
                            have hcz78_2 : wr.cell? ⟨gb823, 2, none⟩ = some (.bool ((rd_T140 l0_1 x66_3).f2)) := (xc BK823.out 2).trans rfl
                            have hfz78_0 := xf BK823.out 0
                            have hfz78_1 := xf BK823.out 1
                            have hfz78_2 := xf BK823.out 2
                            have hcz79_0 : wr.cell? ⟨gb816, 0, none⟩ = some (.slice A0_0 l0_0.length c0_0) := (xc BK816.out 0).trans rfl
                            have hcz79_1 : wr.cell? ⟨gb816, 1, none⟩ = some (.slice (some ad822) l0_1.length c0_1) := (xc BK816.out 1).trans rfl
                            have hfz79_0 := xf BK816.out 0
                            have hfz79_1 := xf BK816.out 1
                            have p828 : 0 ≤ ((ji72) : Int) := of_decide_eq_true (by first | (with_reducible assumption) | assumption)
                            have q828 : (ji72) < (l0_0.length : Int) := of_decide_eq_true (by first | (with_reducible assumption) | assumption)
                            obtain ⟨ad828, e828, hx828_0, hx828_1, hx828_2⟩ := at_T138 HR0_0.out (ji72) p828 q828
                            (try rw [← Nbq75.out] at hx828_2)
                            cases e828
                            replace hx828_0 := (HB.out.cell (World.block_lt_of_cell? w _ hx828_0)).trans hx828_0
                            replace hx828_1 := (HB.out.cell (World.block_lt_of_cell? w _ hx828_1)).trans hx828_1
                            replace hx828_2 := (HB.out.cell (World.block_lt_of_cell? w _ hx828_2)).trans hx828_2
                            replace p828 := eq_true p828
                            replace q828 := eq_true q828
                            go_wp2
                            repeat (go_quiet (fail); try go_wp2)
                            go_roundg k5
                            case measure => have := HJ1.out; have := HK2.out; have := HK3.out; have := HK4.out; have := HK5.out; omega
                            case rel => (try rw [← Nbq75.out]); exact ⟨(x4_5), (wrap64 (x66_3 + 1)), (by first | rfl | (simp; done) | (simp [*]; done)), (by first | rfl | (simp; done) | (simp [*]; done)), H', ⟨by have := HJ1.out; have := HK2.out; have := HK3.out; have := HK4.out; have := HK5.out; omega⟩, ⟨by (with_reducible repeat (first | refine xq ?_ _ | refine xr ?_ | refine xo ?_ _)); exact BK816.out⟩, ⟨by repeat (first | (with_reducible first | exact HB.out | apply xa | apply xn | apply xd | refine xt ?_ GE816.out | refine xt ?_ GE823.out) | exact HB.out)⟩⟩
                           ·replace c76 := Bool.eq_false_iff.mpr c76
                            subst c76
                            have H1 : (spec_GoodSnap.l1 k5 (l0_0.length : Int) x4_5 l0_1 (l0_1.length : Int) (wrap64 (x66_3 + 1)) l0_0 l0_1) = some r := by first | (with_reducible rfl) | (rw [if_neg (show ¬ (false = true) by decide)] at H; exact H)
                            clear H
                            have H := H1
                            clear H1
                            have H' := xm H
                            clear H
                            have hnb80 := NB823_816.out
                            have hnc80 := NB816_823.out
                            have hcz81_0 : wr.cell? ⟨gb823, 0, none⟩ = some (.slice A822_0 ((rd_T140 l0_1 x66_3).f0).length c822_0) := (xc BK823.out 0).trans rfl
                            have hcz81_1 : wr.cell? ⟨gb823, 1, none⟩ = some (.slice A822_1 ((rd_T140 l0_1 x66_3).f1).length c822_1) := (xc BK823.out 1).trans rfl
                            have hcz81_2 : wr.cell? ⟨gb823, 2, none⟩ = some (.bool ((rd_T140 l0_1 x66_3).f2)) := (xc BK823.out 2).trans rfl
                            have hfz81_0 := xf BK823.out 0
                            have hfz81_1 := xf BK823.out 1
                            have hfz81_2 := xf BK823.out 2
                            have hcz82_0 : wr.cell? ⟨gb816, 0, none⟩ = some (.slice A0_0 l0_0.length c0_0) := (xc BK816.out 0).trans rfl
                            have hcz82_1 : wr.cell? ⟨gb816, 1, none⟩ = some (.slice (some ad822) l0_1.length c0_1) := (xc BK816.out 1).trans rfl
                            have hfz82_0 := xf BK816.out 0
                            have hfz82_1 := xf BK816.out 1
                            have p828 : 0 ≤ ((ji72) : Int) := of_decide_eq_true (by first | (with_reducible assumption) | assumption)
                            have q828 : (ji72) < (l0_0.length : Int) := of_decide_eq_true (by first | (with_reducible assumption) | assumption)
                            obtain ⟨ad828, e828, hx828_0, hx828_1, hx828_2⟩ := at_T138 HR0_0.out (ji72) p828 q828
                            (try rw [← Nbq75.out] at hx828_2)
                            cases e828
                            replace hx828_0 := (HB.out.cell (World.block_lt_of_cell? w _ hx828_0)).trans hx828_0
                            replace hx828_1 := (HB.out.cell (World.block_lt_of_cell? w _ hx828_1)).trans hx828_1
                            replace hx828_2 := (HB.out.cell (World.block_lt_of_cell? w _ hx828_2)).trans hx828_2
                            replace p828 := eq_true p828
                            replace q828 := eq_true q828
                            go_wp2
                            repeat (go_quiet (fail); try go_wp2)
                            go_roundg k5
                            case measure => have := HJ1.out; have := HK2.out; have := HK3.out; have := HK4.out; have := HK5.out; omega
                            case rel => (try rw [← Nbq75.out]); exact ⟨(x4_5), (wrap64 (x66_3 + 1)), (by first | rfl | (simp; done) | (simp [*]; done)), (by first | rfl | (simp; done) | (simp [*]; done)), H', ⟨by have := HJ1.out; have := HK2.out; have := HK3.out; have := HK4.out; have := HK5.out; omega⟩, ⟨by (with_reducible repeat (first | refine xq ?_ _ | refine xr ?_ | refine xo ?_ _)); exact BK816.out⟩, ⟨by repeat (first | (with_reducible first | exact HB.out | apply xa | apply xn | apply xd | refine xt ?_ GE816.out | refine xt ?_ GE823.out) | exact HB.out)⟩⟩
                          ·rw [if_neg c74] at H
                           exact absurd H (by simp)
                         ·rw [if_neg c73] at H
                          exact absurd H (by simp)
                     ·rw [if_neg c62] at H
                      have c62b0 : ((wrap64 (Int.tdiv x66_3 (l0_0.length : Int))) == (Int.tmod x66_3 (l0_0.length : Int))) = false := beq_eq_false_iff_ne.mpr c62
                      have c62b1 : ((wrap64 (Int.tdiv x66_3 (l0_0.length : Int))) != (Int.tmod x66_3 (l0_0.length : Int))) = true := bne_iff_ne.mpr c62
                      obtain ⟨ji83, hji83⟩ : ∃ j_ : Int, (Int.tmod x66_3 (l0_0.length : Int)) = j_ := ⟨_, rfl⟩
                      replace H : (if 0 ≤ (ji83) then (if (ji83) < (l0_0.length : Int) then (if ((rd_T138 l0_0 (ji83)).f2 = true) then (spec_GoodSnap.l1 k5 (l0_0.length : Int) x4_5 l0_1 (l0_1.length : Int) (wrap64 (x66_3 + 1)) l0_0 l0_1) else (if ((rd_T140 l0_1 x66_3).f2) = true then (some false) else (if (((rd_T140 l0_1 x66_3).f1).length : Int) > 0 then (some false) else (spec_GoodSnap.l1 k5 (l0_0.length : Int) x4_5 l0_1 (l0_1.length : Int) (wrap64 (x66_3 + 1)) l0_0 l0_1)))) else (none)) else (none)) = some r := by first | (rw [hji83] at H; exact H) | (simp only [hji83] at H ⊢; exact H)
                      (try rw [hji83] at c62b0)
                      (try rw [hji83] at c62b1)
                      by_cases c84 : 0 ≤ (ji83)
                      ·rw [if_pos c84] at H
                       have c84b0 : decide (0 ≤ (ji83)) = true := decide_eq_true c84
                       clear c84
                       by_cases c85 : (ji83) < (l0_0.length : Int)
                       ·rw [if_pos c85] at H
                        have c85b0 : decide ((ji83) < (l0_0.length : Int)) = true := decide_eq_true c85
                        clear c85
                        obtain ⟨bq86, hbq86⟩ : ∃ b_ : Bool, b_ = ((rd_T138 l0_0 (ji83)).f2) := ⟨_, rfl⟩
                        replace H : (if (bq86 = true) then (spec_GoodSnap.l1 k5 (l0_0.length : Int) x4_5 l0_1 (l0_1.length : Int) (wrap64 (x66_3 + 1)) l0_0 l0_1) else (if ((rd_T140 l0_1 x66_3).f2) = true then (some false) else (if (((rd_T140 l0_1 x66_3).f1).length : Int) > 0 then (some false) else (spec_GoodSnap.l1 k5 (l0_0.length : Int) x4_5 l0_1 (l0_1.length : Int) (wrap64 (x66_3 + 1)) l0_0 l0_1)))) = some r := by rw [← hbq86] at H; exact H
                        have Nbq86 := xm hbq86
                        clear hbq86
                        by_cases c87 : (bq86 = true)
                        ·subst c87
                         have H1 : (spec_GoodSnap.l1 k5 (l0_0.length : Int) x4_5 l0_1 (l0_1.length : Int) (wrap64 (x66_3 + 1)) l0_0 l0_1) = some r := by first | (with_reducible rfl) | (rw [if_pos rfl] at H; exact H)
                         clear H
                         have H := H1
                         clear H1
                         have H' := xm H
                         clear H
                         have hnb88 := NB823_816.out
                         have hnc88 := NB816_823.out
                         have hcz89_0 : wr.cell? ⟨gb823, 0, none⟩ = some (.slice A822_0 ((rd_T140 l0_1 x66_3).f0).length c822_0) := (xc BK823.out 0).trans rfl
                         have hcz89_1 : wr.cell? ⟨gb823, 1, none⟩ = some (.slice A822_1 ((rd_T140 l0_1 x66_3).f1).length c822_1) := (xc BK823.out 1).trans rfl
                         have hcz89_2 : wr.cell? ⟨gb823, 2, none⟩ = some (.bool ((rd_T140 l0_1 x66_3).f2)) := (xc BK823.out 2).trans rfl
                         have hfz89_0 := xf BK823.out 0
                         have hfz89_1 := xf BK823.out 1
                         have hfz89_2 := xf BK823.out 2
                         have hcz90_0 : wr.cell? ⟨gb816, 0, none⟩ = some (.slice A0_0 l0_0.length c0_0) := (xc BK816.out 0).trans rfl
                         have hcz90_1 : wr.cell? ⟨gb816, 1, none⟩ = some (.slice (some ad822) l0_1.length c0_1) := (xc BK816.out 1).trans rfl
                         have hfz90_0 := xf BK816.out 0
                         have hfz90_1 := xf BK816.out 1
                         have p829 : 0 ≤ ((ji83) : Int) := of_decide_eq_true (by first | (with_reducible assumption) | assumption)
                         have q829 : (ji83) < (l0_0.length : Int) := of_decide_eq_true (by first | (with_reducible assumption) | assumption)
                         obtain ⟨ad829, e829, hx829_0, hx829_1, hx829_2⟩ := at_T138 HR0_0.out (ji83) p829 q829
                         (try rw [← Nbq86.out] at hx829_2)
                         cases e829
                         replace hx829_0 := (HB.out.cell (World.block_lt_of_cell? w _ hx829_0)).trans hx829_0
                         replace hx829_1 := (HB.out.cell (World.block_lt_of_cell? w _ hx829_1)).trans hx829_1
                         replace hx829_2 := (HB.out.cell (World.block_lt_of_cell? w _ hx829_2)).trans hx829_2
                         replace p829 := eq_true p829
                         replace q829 := eq_true q829
                         go_wp2
                         repeat (go_quiet (fail); try go_wp2)
                         go_roundg k5
                         case measure => have := HJ1.out; have := HK2.out; have := HK3.out; have := HK4.out; have := HK5.out; omega
                         case rel => (try rw [← Nbq86.out]); exact ⟨(x4_5), (wrap64 (x66_3 + 1)), (by first | rfl | (simp; done) | (simp [*]; done)), (by first | rfl | (simp; done) | (simp [*]; done)), H', ⟨by have := HJ1.out; have := HK2.out; have := HK3.out; have := HK4.out; have := HK5.out; omega⟩, ⟨by (with_reducible repeat (first | refine xq ?_ _ | refine xr ?_ | refine xo ?_ _)); exact BK816.out⟩, ⟨by repeat (first | (with_reducible first | exact HB.out | apply xa | apply xn | apply xd | refine xt ?_ GE816.out | refine xt ?_ GE823.out) | exact HB.out)⟩⟩
                        ·replace c87 := Bool.eq_false_iff.mpr c87
                         subst c87
                         have H1 : (if ((rd_T140 l0_1 x66_3).f2) = true then (some false) else (if (((rd_T140 l0_1 x66_3).f1).length : Int) > 0 then (some false) else (spec_GoodSnap.l1 k5 (l0_0.length : Int) x4_5 l0_1 (l0_1.length : Int) (wrap64 (x66_3 + 1)) l0_0 l0_1))) = some r := by first | (with_reducible rfl) | (rw [if_neg (show ¬ (false = true) by decide)] at H; exact H)
                         clear H
                         have H := H1
                         clear H1
                         by_cases c91 : ((rd_T140 l0_1 x66_3).f2) = true
                         ·rw [if_pos c91] at H
                          have c91b0 : ((rd_T140 l0_1 x66_3).f2) = true := c91
                          clear c91
                          obtain rfl := Option.some.inj H
                          have hnb92 := NB823_816.out
                          have hnc92 := NB816_823.out
                          have hcz93_0 : wr.cell? ⟨gb823, 0, none⟩ = some (.slice A822_0 ((rd_T140 l0_1 x66_3).f0).length c822_0) := (xc BK823.out 0).trans rfl
                          have hcz93_1 : wr.cell? ⟨gb823, 1, none⟩ = some (.slice A822_1 ((rd_T140 l0_1 x66_3).f1).length c822_1) := (xc BK823.out 1).trans rfl
                          have hcz93_2 : wr.cell? ⟨gb823, 2, none⟩ = some (.bool ((rd_T140 l0_1 x66_3).f2)) := (xc BK823.out 2).trans rfl
                          have hfz93_0 := xf BK823.out 0
                          have hfz93_1 := xf BK823.out 1
                          have hfz93_2 := xf BK823.out 2
                          have hcz94_0 : wr.cell? ⟨gb816, 0, none⟩ = some (.slice A0_0 l0_0.length c0_0) := (xc BK816.out 0).trans rfl
                          have hcz94_1 : wr.cell? ⟨gb816, 1, none⟩ = some (.slice (some ad822) l0_1.length c0_1) := (xc BK816.out 1).trans rfl
                          have hfz94_0 := xf BK816.out 0
                          have hfz94_1 := xf BK816.out 1
                          have p829 : 0 ≤ ((ji83) : Int) := of_decide_eq_true (by first | (with_reducible assumption) | assumption)
                          have q829 : (ji83) < (l0_0.length : Int) := of_decide_eq_true (by first | (with_reducible assumption) | assumption)
                          obtain ⟨ad829, e829, hx829_0, hx829_1, hx829_2⟩ := at_T138 HR0_0.out (ji83) p829 q829
                          (try rw [← Nbq86.out] at hx829_2)
                          cases e829
                          replace hx829_0 := (HB.out.cell (World.block_lt_of_cell? w _ hx829_0)).trans hx829_0
                          replace hx829_1 := (HB.out.cell (World.block_lt_of_cell? w _ hx829_1)).trans hx829_1
                          replace hx829_2 := (HB.out.cell (World.block_lt_of_cell? w _ hx829_2)).trans hx829_2
                          replace p829 := eq_true p829
                          replace q829 := eq_true q829
                          go_wp2
                          repeat (go_quiet (fail); try go_wp2)
                          go_ret
                          exact ⟨by first | rfl | (simp [errW_none, errW_some] <;> rfl) | (simp only [← hji83]; first | rfl | (simp [errW_none, errW_some] <;> rfl)) | (simp [*, errW_none, errW_some] <;> rfl), by repeat (first | (with_reducible first | exact HB.out | apply xa | apply xn | apply xd | refine xt ?_ GE816.out | refine xt ?_ GE823.out) | exact HB.out)⟩
                         ·rw [if_neg c91] at H
                          have c91b0 : ((rd_T140 l0_1 x66_3).f2) = false := by simpa using c91
                          clear c91
                          by_cases c95 : (((rd_T140 l0_1 x66_3).f1).length : Int) > 0
                          ·rw [if_pos c95] at H
                           have c95b0 : decide (0 < (((rd_T140 l0_1 x66_3).f1).length : Int)) = true := decide_eq_true c95
                           have c95b1 : decide (0 < ((rd_T140 l0_1 x66_3).f1).length) = true := decide_eq_true (by omega)
                           clear c95
                           obtain rfl := Option.some.inj H
                           have hnb96 := NB823_816.out
                           have hnc96 := NB816_823.out
                           have hcz97_0 : wr.cell? ⟨gb823, 0, none⟩ = some (.slice A822_0 ((rd_T140 l0_1 x66_3).f0).length c822_0) := (xc BK823.out 0).trans rfl
                           have hcz97_1 : wr.cell? ⟨gb823, 1, none⟩ = some (.slice A822_1 ((rd_T140 l0_1 x66_3).f1).length c822_1) := (xc BK823.out 1).trans rfl
                           have hcz97_2 : wr.cell? ⟨gb823, 2, none⟩ = some (.bool ((rd_T140 l0_1 x66_3).f2)) := (xc BK823.out 2).trans rfl
                           have hfz97_0 := xf BK823.out 0
                           have hfz97_1 := xf BK823.out 1
                           have hfz97_2 := xf BK823.out 2
                           have hcz98_0 : wr.cell? ⟨gb816, 0, none⟩ = some (.slice A0_0 l0_0.length c0_0) := (xc BK816.out 0).trans rfl
                           have hcz98_1 : wr.cell? ⟨gb816, 1, none⟩ = some (.slice (some ad822) l0_1.length c0_1) := (xc BK816.out 1).trans rfl
                           have hfz98_0 := xf BK816.out 0
                           have hfz98_1 := xf BK816.out 1
                           have p829 : 0 ≤ ((ji83) : Int) := of_decide_eq_true (by first | (with_reducible assumption) | assumption)
                           have q829 : (ji83) < (l0_0.length : Int) := of_decide_eq_true (by first | (with_reducible assumption) | assumption)
                           obtain ⟨ad829, e829, hx829_0, hx829_1, hx829_2⟩ := at_T138 HR0_0.out (ji83) p829 q829
                           (try rw [← Nbq86.out] at hx829_2)
                           cases e829
                           replace hx829_0 := (HB.out.cell (World.block_lt_of_cell? w _ hx829_0)).trans hx829_0
                           replace hx829_1 := (HB.out.cell (World.block_lt_of_cell? w _ hx829_1)).trans hx829_1
                           replace hx829_2 := (HB.out.cell (World.block_lt_of_cell? w _ hx829_2)).trans hx829_2
                           replace p829 := eq_true p829
                           replace q829 := eq_true q829
                           go_wp2
                           repeat (go_quiet (fail); try go_wp2)
                           go_ret
                           exact ⟨by first | rfl | (simp [errW_none, errW_some] <;> rfl) | (simp only [← hji83]; first | rfl | (simp [errW_none, errW_some] <;> rfl)) | (simp [*, errW_none, errW_some] <;> rfl), by repeat (first | (with_reducible first | exact HB.out | apply xa | apply xn | apply xd | refine xt ?_ GE816.out | refine xt ?_ GE823.out) | exact HB.out)⟩
                          ·rw [if_neg c95] at H
                           have c95b0 : decide (0 < (((rd_T140 l0_1 x66_3).f1).length : Int)) = false := decide_eq_false c95
                           have c95b1 : decide (0 < ((rd_T140 l0_1 x66_3).f1).length) = false := decide_eq_false (by omega)
                           clear c95
                           have H' := xm H
                           clear H
                           have hnb99 := NB823_816.out
                           have hnc99 := NB816_823.out
                           have hcz100_0 : wr.cell? ⟨gb823, 0, none⟩ = some (.slice A822_0 ((rd_T140 l0_1 x66_3).f0).length c822_0) := (xc BK823.out 0).trans rfl
                           have hcz100_1 : wr.cell? ⟨gb823, 1, none⟩ = some (.slice A822_1 ((rd_T140 l0_1 x66_3).f1).length c822_1) := (xc BK823.out 1).trans rfl
                           have hcz100_2 : wr.cell? ⟨gb823, 2, none⟩ = some (.bool ((rd_T140 l0_1 x66_3).f2)) := (xc BK823.out 2).trans rfl
                           have hfz100_0 := xf BK823.out 0
                           have hfz100_1 := xf BK823.out 1
                           have hfz100_2 := xf BK823.out 2
                           have hcz101_0 : wr.cell? ⟨gb816, 0, none⟩ = some (.slice A0_0 l0_0.length c0_0) := (xc BK816.out 0).trans rfl
                           have hcz101_1 : wr.cell? ⟨gb816, 1, none⟩ = some (.slice (some ad822) l0_1.length c0_1) := (xc BK816.out 1).trans rfl
                           have hfz101_0 := xf BK816.out 0
                           have hfz101_1 := xf BK816.out 1
                           have p829 : 0 ≤ ((ji83) : Int) := of_decide_eq_true (by first | (with_reducible assumption) | assumption)
                           have q829 : (ji83) < (l0_0.length : Int) := of_decide_eq_true (by first | (with_reducible assumption) | assumption)
                           obtain ⟨ad829, e829, hx829_0, hx829_1, hx829_2⟩ := at_T138 HR0_0.out (ji83) p829 q829
                           (try rw [← Nbq86.out] at hx829_2)
                           cases e829
                           replace hx829_0 := (HB.out.cell (World.block_lt_of_cell? w _ hx829_0)).trans hx829_0
                           replace hx829_1 := (HB.out.cell (World.block_lt_of_cell? w _ hx829_1)).trans hx829_1
                           replace hx829_2 := (HB.out.cell (World.block_lt_of_cell? w _ hx829_2)).trans hx829_2
                           replace p829 := eq_true p829
                           replace q829 := eq_true q829
                           go_wp2
                           repeat (go_quiet (fail); try go_wp2)
                           go_roundg k5
                           case measure => have := HJ1.out; have := HK2.out; have := HK3.out; have := HK4.out; have := HK5.out; omega
                           case rel => (try rw [← Nbq86.out]); exact ⟨(x4_5), (wrap64 (x66_3 + 1)), (by first | rfl | (simp; done) | (simp [*]; done)), (by first | rfl | (simp; done) | (simp [*]; done)), H', ⟨by have := HJ1.out; have := HK2.out; have := HK3.out; have := HK4.out; have := HK5.out; omega⟩, ⟨by (with_reducible repeat (first | refine xq ?_ _ | refine xr ?_ | refine xo ?_ _)); exact BK816.out⟩, ⟨by repeat (first | (with_reducible first | exact HB.out | apply xa | apply xn | apply xd | refine xt ?_ GE816.out | refine xt ?_ GE823.out) | exact HB.out)⟩⟩
                       ·rw [if_neg c85] at H
                        exact absurd H (by simp)
                      ·rw [if_neg c84] at H
                       exact absurd H (by simp)
           ·rw [if_neg c38] at H
            exact absurd H (by simp)
          ·rw [if_neg c37] at H
           exact absurd H (by simp)
         ·rw [if_neg c36] at H
          have c36b0 : decide (x66_3 < (l0_1.length : Int)) = false := decide_eq_false c36
          clear c36
          obtain rfl := Option.some.inj H
          go_wp2
          repeat (go_quiet (fail); try go_wp2)
          go_ret
          exact ⟨by first | rfl | (simp [errW_none, errW_some] <;> rfl) | (simp [*, errW_none, errW_some] <;> rfl), by repeat (first | (with_reducible first | exact HB.out | apply xa | apply xn | apply xd | refine xt ?_ GE816.out) | exact HB.out)⟩

end Go.Proofs.Ytpbpglbldgpckaa.G
