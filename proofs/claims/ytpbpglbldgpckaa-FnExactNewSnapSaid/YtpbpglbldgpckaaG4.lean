/- Written by a program of this claim's own, out of the translation: functions of the program as plain functions, and that the calls answer as these. No conditions. -/
import Derived.Test.YtpbpglbldgpckaaG0
import Derived.Test.YtpbpglbldgpckaaG3
namespace Go.Proofs.Ytpbpglbldgpckaa.G
open Go.RowKit Go.Proofs.Ytpbpglbldgpckaa.X Go.Proofs.YtpbpglbldgpckaaW.PrintWords Go.Proofs.YtpbpglbldgpckaaW.PrintLast Go.Proofs.YtpbpglbldgpckaaW.PrintMore
attribute [local go_sem] max2_int min2_int max_two min_two max_three min_three max_four min_four   -- for this text's walks alone
set_option linter.unusedVariables false
set_option linter.unusedSimpArgs false

/-! ### spec_GoodSnap: function 56 -/
mutual
def spec_GoodSnap.j0 : Nat → Int → Bool → List (S138) → List (S140) → Option (Bool)
 | 0, _, _, _, _ => none
 | k + 1, x3, x27, x127000, x127001 => if x27 = true then (some false) else (spec_GoodSnap.l0 k x3 0 x127000 (x127000.length : Int) 0 x127000 x127001)
def spec_GoodSnap.l0 : Nat → Int → Int → List (S138) → Int → Int → List (S138) → List (S140) → Option (Bool)
 | 0, _, _, _, _, _, _, _ => none
 | k + 1, x3, x4, x29, x30, x31, x127000, x127001 => if x31 < x30 then (if 0 ≤ x31 then (if x31 < (x29.length : Int) then ((spec_l1In.f ((rd_T138 x29 x31).f0) 0 2000000000).bind fun t130 => (if t130 = true then ((spec_l1In.f ((rd_T138 x29 x31).f1) 0 2000000000).bind fun t131 => (if t131 = true then (if ((rd_T138 x29 x31).f2 = true) then (spec_GoodSnap.l0 k x3 (wrap64 (x4 + (wrap64 (((rd_T138 x29 x31).f0) + ((rd_T138 x29 x31).f1))))) x29 x30 (wrap64 (x31 + 1)) x127000 x127001) else (if ((rd_T138 x29 x31).f1) = 0 then (spec_GoodSnap.l0 k x3 (wrap64 (x4 + (wrap64 (((rd_T138 x29 x31).f0) + ((rd_T138 x29 x31).f1))))) x29 x30 (wrap64 (x31 + 1)) x127000 x127001) else (some false))) else (some false))) else (some false))) else (none)) else (none)) else (spec_GoodSnap.l1 k x3 x4 x127001 (x127001.length : Int) 0 x127000 x127001)
def spec_GoodSnap.l1 : Nat → Int → Int → List (S140) → Int → Int → List (S138) → List (S140) → Option (Bool)
 | 0, _, _, _, _, _, _, _ => none
 | k + 1, x3, x4, x64, x65, x66, x127000, x127001 => if x66 < x65 then (if 0 ≤ x66 then (if x66 < (x64.length : Int) then (spec_GoodSnap.l2 k x3 x4 x66 x64 x65 x66 ((rd_T140 x64 x66).f0) (((rd_T140 x64 x66).f0).length : Int) 0 x127000 x127001 ((rd_T140 x64 x66).f0) ((rd_T140 x64 x66).f1) ((rd_T140 x64 x66).f2)) else (none)) else (none)) else (some (decide (x4 ≤ 2000000000)))
def spec_GoodSnap.l2 : Nat → Int → Int → Int → List (S140) → Int → Int → List Int → Int → Int → List (S138) → List (S140) → List Int → List Int → Bool → Option (Bool)
 | 0, _, _, _, _, _, _, _, _, _, _, _, _, _, _ => none
 | k + 1, x3, x4, x7, x64, x65, x66, x72, x73, x74, x127000, x127001, x134000, x134001, x134002 => if x74 < x73 then (if 0 ≤ x74 then (if x74 < (x72.length : Int) then ((spec_l15Amount.f (rd x72 x74)).bind fun t135 => (if t135 = true then (spec_GoodSnap.l2 k x3 (wrap64 (x4 + (rd x72 x74))) x7 x64 x65 x66 x72 x73 (wrap64 (x74 + 1)) x127000 x127001 x134000 x134001 x134002) else (some false))) else (none)) else (none)) else (spec_GoodSnap.l3 k x3 x4 x7 x64 x65 x66 x134001 (x134001.length : Int) 0 x127000 x127001 x134000 x134001 x134002)
def spec_GoodSnap.l3 : Nat → Int → Int → Int → List (S140) → Int → Int → List Int → Int → Int → List (S138) → List (S140) → List Int → List Int → Bool → Option (Bool)
 | 0, _, _, _, _, _, _, _, _, _, _, _, _, _, _ => none
 | k + 1, x3, x4, x7, x64, x65, x66, x86, x87, x88, x127000, x127001, x134000, x134001, x134002 => if x88 < x87 then (if 0 ≤ x88 then (if x88 < (x86.length : Int) then (if (rd x86 x88) = 0 then (some false) else ((spec_l15Amount.f (rd x86 x88)).bind fun t137 => (if t137 = true then (spec_GoodSnap.l3 k x3 (wrap64 (x4 + (rd x86 x88))) x7 x64 x65 x66 x86 x87 (wrap64 (x88 + 1)) x127000 x127001 x134000 x134001 x134002) else (some false)))) else (none)) else (none)) else (if (x134000.length : Int) > 12 then (some false) else (if (x134001.length : Int) > 200 then (some false) else (if x3 = 0 then (none) else (if (wrap64 (Int.tdiv x7 x3)) = (Int.tmod x7 x3) then (if (x134000.length : Int) > 0 then (some false) else (if (x134001.length : Int) > 0 then (some false) else (if x134002 = true then (some false) else (if 0 ≤ (Int.tmod x7 x3) then (if (Int.tmod x7 x3) < (x127000.length : Int) then (if ((rd_T138 x127000 (Int.tmod x7 x3)).f2 = true) then (spec_GoodSnap.l1 k x3 x4 x64 x65 (wrap64 (x66 + 1)) x127000 x127001) else (spec_GoodSnap.l1 k x3 x4 x64 x65 (wrap64 (x66 + 1)) x127000 x127001)) else (none)) else (none))))) else (if 0 ≤ (Int.tmod x7 x3) then (if (Int.tmod x7 x3) < (x127000.length : Int) then (if ((rd_T138 x127000 (Int.tmod x7 x3)).f2 = true) then (spec_GoodSnap.l1 k x3 x4 x64 x65 (wrap64 (x66 + 1)) x127000 x127001) else (if x134002 = true then (some false) else (if (x134001.length : Int) > 0 then (some false) else (spec_GoodSnap.l1 k x3 x4 x64 x65 (wrap64 (x66 + 1)) x127000 x127001)))) else (none)) else (none))))))
end
def spec_GoodSnap.f (k : Nat) (l0_0 : List (S138)) (l0_1 : List (S140)) : Option (Bool) := (spec_l1In.f (l0_0.length : Int) 2 4).bind fun t127 => (if t127 = true then (spec_GoodSnap.j0 k (l0_0.length : Int) ((l0_1.length : Int) != (wrap64 ((l0_0.length : Int) * (l0_0.length : Int)))) l0_0 l0_1) else (spec_GoodSnap.j0 k (l0_0.length : Int) true l0_0 l0_1))
theorem spec_GoodSnap.mono_l : ∀ k, (∀ y0 y1 y2 y3, LeO (spec_GoodSnap.j0 k y0 y1 y2 y3) (spec_GoodSnap.j0 (k + 1) y0 y1 y2 y3)) ∧ (∀ y0 y1 y2 y3 y4 y5 y6, LeO (spec_GoodSnap.l0 k y0 y1 y2 y3 y4 y5 y6) (spec_GoodSnap.l0 (k + 1) y0 y1 y2 y3 y4 y5 y6)) ∧ (∀ y0 y1 y2 y3 y4 y5 y6, LeO (spec_GoodSnap.l1 k y0 y1 y2 y3 y4 y5 y6) (spec_GoodSnap.l1 (k + 1) y0 y1 y2 y3 y4 y5 y6)) ∧ (∀ y0 y1 y2 y3 y4 y5 y6 y7 y8 y9 y10 y11 y12 y13, LeO (spec_GoodSnap.l2 k y0 y1 y2 y3 y4 y5 y6 y7 y8 y9 y10 y11 y12 y13) (spec_GoodSnap.l2 (k + 1) y0 y1 y2 y3 y4 y5 y6 y7 y8 y9 y10 y11 y12 y13)) ∧ (∀ y0 y1 y2 y3 y4 y5 y6 y7 y8 y9 y10 y11 y12 y13, LeO (spec_GoodSnap.l3 k y0 y1 y2 y3 y4 y5 y6 y7 y8 y9 y10 y11 y12 y13) (spec_GoodSnap.l3 (k + 1) y0 y1 y2 y3 y4 y5 y6 y7 y8 y9 y10 y11 y12 y13))
 | 0 => ⟨fun _ _ _ _ r h => by simp [spec_GoodSnap.j0] at h, fun _ _ _ _ _ _ _ r h => by simp [spec_GoodSnap.l0] at h, fun _ _ _ _ _ _ _ r h => by simp [spec_GoodSnap.l1] at h, fun _ _ _ _ _ _ _ _ _ _ _ _ _ _ r h => by simp [spec_GoodSnap.l2] at h, fun _ _ _ _ _ _ _ _ _ _ _ _ _ _ r h => by simp [spec_GoodSnap.l3] at h⟩
 | k + 1 => by
  obtain ⟨ih0, ih1, ih2, ih3, ih4⟩ := spec_GoodSnap.mono_l k
  refine ⟨?_, ?_, ?_, ?_, ?_⟩
  ·intro y0 y1 y2 y3
   unfold spec_GoodSnap.j0
   repeat' first
   | (with_reducible exact ih0 _ _ _ _)
   | (with_reducible exact ih1 _ _ _ _ _ _ _)
   | (with_reducible exact ih2 _ _ _ _ _ _ _)
   | (with_reducible exact ih3 _ _ _ _ _ _ _ _ _ _ _ _ _ _)
   | (with_reducible exact ih4 _ _ _ _ _ _ _ _ _ _ _ _ _ _)
   | (with_reducible exact LeO.refl _)
   | (with_reducible exact LeO.none _)
   | (with_reducible refine LeO.ite ?_ ?_)
   | (with_reducible refine LeO.bind ?_ (fun _ => ?_))
   | exact ih0 _ _ _ _
   | exact ih1 _ _ _ _ _ _ _
   | exact ih2 _ _ _ _ _ _ _
   | exact ih3 _ _ _ _ _ _ _ _ _ _ _ _ _ _
   | exact ih4 _ _ _ _ _ _ _ _ _ _ _ _ _ _
   | exact LeO.none _
   | refine LeO.ite ?_ ?_
   | refine LeO.bind ?_ (fun _ => ?_)
  ·intro y0 y1 y2 y3 y4 y5 y6
   unfold spec_GoodSnap.l0
   repeat' first
   | (with_reducible exact ih0 _ _ _ _)
   | (with_reducible exact ih1 _ _ _ _ _ _ _)
   | (with_reducible exact ih2 _ _ _ _ _ _ _)
   | (with_reducible exact ih3 _ _ _ _ _ _ _ _ _ _ _ _ _ _)
   | (with_reducible exact ih4 _ _ _ _ _ _ _ _ _ _ _ _ _ _)
   | (with_reducible exact LeO.refl _)
   | (with_reducible exact LeO.none _)
   | (with_reducible refine LeO.ite ?_ ?_)
   | (with_reducible refine LeO.bind ?_ (fun _ => ?_))
   | exact ih0 _ _ _ _
   | exact ih1 _ _ _ _ _ _ _
   | exact ih2 _ _ _ _ _ _ _
   | exact ih3 _ _ _ _ _ _ _ _ _ _ _ _ _ _
   | exact ih4 _ _ _ _ _ _ _ _ _ _ _ _ _ _
   | exact LeO.none _
   | refine LeO.ite ?_ ?_
   | refine LeO.bind ?_ (fun _ => ?_)
  ·intro y0 y1 y2 y3 y4 y5 y6
   unfold spec_GoodSnap.l1
   repeat' first
   | (with_reducible exact ih0 _ _ _ _)
   | (with_reducible exact ih1 _ _ _ _ _ _ _)
   | (with_reducible exact ih2 _ _ _ _ _ _ _)
   | (with_reducible exact ih3 _ _ _ _ _ _ _ _ _ _ _ _ _ _)
   | (with_reducible exact ih4 _ _ _ _ _ _ _ _ _ _ _ _ _ _)
   | (with_reducible exact LeO.refl _)
   | (with_reducible exact LeO.none _)
   | (with_reducible refine LeO.ite ?_ ?_)
   | (with_reducible refine LeO.bind ?_ (fun _ => ?_))
   | exact ih0 _ _ _ _
   | exact ih1 _ _ _ _ _ _ _
   | exact ih2 _ _ _ _ _ _ _
   | exact ih3 _ _ _ _ _ _ _ _ _ _ _ _ _ _
   | exact ih4 _ _ _ _ _ _ _ _ _ _ _ _ _ _
   | exact LeO.none _
   | refine LeO.ite ?_ ?_
   | refine LeO.bind ?_ (fun _ => ?_)
  ·intro y0 y1 y2 y3 y4 y5 y6 y7 y8 y9 y10 y11 y12 y13
   unfold spec_GoodSnap.l2
   repeat' first
   | (with_reducible exact ih0 _ _ _ _)
   | (with_reducible exact ih1 _ _ _ _ _ _ _)
   | (with_reducible exact ih2 _ _ _ _ _ _ _)
   | (with_reducible exact ih3 _ _ _ _ _ _ _ _ _ _ _ _ _ _)
   | (with_reducible exact ih4 _ _ _ _ _ _ _ _ _ _ _ _ _ _)
   | (with_reducible exact LeO.refl _)
   | (with_reducible exact LeO.none _)
   | (with_reducible refine LeO.ite ?_ ?_)
   | (with_reducible refine LeO.bind ?_ (fun _ => ?_))
   | exact ih0 _ _ _ _
   | exact ih1 _ _ _ _ _ _ _
   | exact ih2 _ _ _ _ _ _ _
   | exact ih3 _ _ _ _ _ _ _ _ _ _ _ _ _ _
   | exact ih4 _ _ _ _ _ _ _ _ _ _ _ _ _ _
   | exact LeO.none _
   | refine LeO.ite ?_ ?_
   | refine LeO.bind ?_ (fun _ => ?_)
  ·intro y0 y1 y2 y3 y4 y5 y6 y7 y8 y9 y10 y11 y12 y13
   unfold spec_GoodSnap.l3
   repeat' first
   | (with_reducible exact ih0 _ _ _ _)
   | (with_reducible exact ih1 _ _ _ _ _ _ _)
   | (with_reducible exact ih2 _ _ _ _ _ _ _)
   | (with_reducible exact ih3 _ _ _ _ _ _ _ _ _ _ _ _ _ _)
   | (with_reducible exact ih4 _ _ _ _ _ _ _ _ _ _ _ _ _ _)
   | (with_reducible exact LeO.refl _)
   | (with_reducible exact LeO.none _)
   | (with_reducible refine LeO.ite ?_ ?_)
   | (with_reducible refine LeO.bind ?_ (fun _ => ?_))
   | exact ih0 _ _ _ _
   | exact ih1 _ _ _ _ _ _ _
   | exact ih2 _ _ _ _ _ _ _
   | exact ih3 _ _ _ _ _ _ _ _ _ _ _ _ _ _
   | exact ih4 _ _ _ _ _ _ _ _ _ _ _ _ _ _
   | exact LeO.none _
   | refine LeO.ite ?_ ?_
   | refine LeO.bind ?_ (fun _ => ?_)
theorem spec_GoodSnap.mono : ∀ a0 a1 k, LeO (spec_GoodSnap.f k a0 a1) (spec_GoodSnap.f (k + 1) a0 a1) := by
 intro a0 a1 k
 obtain ⟨ih0, ih1, ih2, ih3, ih4⟩ := spec_GoodSnap.mono_l k
 unfold spec_GoodSnap.f
 repeat' first
   | (with_reducible exact ih0 _ _ _ _)
   | (with_reducible exact ih1 _ _ _ _ _ _ _)
   | (with_reducible exact ih2 _ _ _ _ _ _ _)
   | (with_reducible exact ih3 _ _ _ _ _ _ _ _ _ _ _ _ _ _)
   | (with_reducible exact ih4 _ _ _ _ _ _ _ _ _ _ _ _ _ _)
   | (with_reducible exact LeO.refl _)
   | (with_reducible exact LeO.none _)
   | (with_reducible refine LeO.ite ?_ ?_)
   | (with_reducible refine LeO.bind ?_ (fun _ => ?_))
   | exact ih0 _ _ _ _
   | exact ih1 _ _ _ _ _ _ _
   | exact ih2 _ _ _ _ _ _ _
   | exact ih3 _ _ _ _ _ _ _ _ _ _ _ _ _ _
   | exact ih4 _ _ _ _ _ _ _ _ _ _ _ _ _ _
   | exact LeO.none _
   | refine LeO.ite ?_ ?_
   | refine LeO.bind ?_ (fun _ => ?_)
set_option maxHeartbeats 8000000 in
set_option maxRecDepth 100000 in
theorem spec_GoodSnap.calls (k : Nat) (A0_0 : Option Addr) (c0_0 : Nat) (l0_0 : List (S138)) (A0_1 : Option Addr) (c0_1 : Nat) (l0_1 : List (S140)) (r : Bool) (w : World) (hr0_0 : Kd.C k138 w A0_0 l0_0.length l0_0) (hc0_0 : l0_0.length ≤ c0_0) (hr0_1 : Kd.C k140 w A0_1 l0_1.length l0_1) (hc0_1 : l0_1.length ≤ c0_1) (h : spec_GoodSnap.f k l0_0 l0_1 = some r) :
  Calls Try.prog 56 #[.agg #[.slice A0_0 l0_0.length c0_0, .slice A0_1 l0_1.length c0_1]] w fun e w' => e = .returned (.bool r) ∧ Below w.heap.size w w' := by
 have hu85 := Try.underlying85
 have hu138 := Try.underlying138
 have hu140 := Try.underlying140
 have HR0_0 := xm hr0_0
 have HC0_0 := xm hc0_0
 clear hr0_0 hc0_0
 have HR0_1 := xm hr0_1
 have HC0_1 := xm hc0_1
 clear hr0_1 hc0_1
 have HB := xm (Below.refl w.heap.size w)
 have H : ((spec_l1In.f (l0_0.length : Int) 2 4).bind fun t127 => (if t127 = true then (spec_GoodSnap.j0 k (l0_0.length : Int) ((l0_1.length : Int) != (wrap64 ((l0_0.length : Int) * (l0_0.length : Int)))) l0_0 l0_1) else (spec_GoodSnap.j0 k (l0_0.length : Int) true l0_0 l0_1))) = some r := h
 clear h
 have HC2 := xm H
 clear H
 go_enter Try.func56, Try.ntmps56
 go_upto_region 2 with (first | ((with_reducible refine gate_dst (N := 1) rfl ?_); (try (refine gate_guard (by rfl) ?_; dsimp only)); refine box_event ?hg (N := 1) ?hd (cs := #[.slice A0_0 l0_0.length c0_0, .slice A0_1 l0_1.length c0_1]) (t := 85) ?hr ?_; (case hd => rfl); (case hg => rfl); (case hr => exact zB); intro gb126 hg w3 hbox hb; have n0_ := xm (below_step bB hb); have n1_ := xm (hbox); have n2_ := xm ((by rw [hg]; exact (xz bB) : w.heap.size ≤ gb126)); have n3_ := xm ((by rw [hg]; exact (xz bB) : w.heap.size ≤ gb126)); clear HB; have HB := n0_; have BK126 := n1_; have GW126 := n2_; have GE126 := n3_; clear n0_ n1_ n2_ n3_; clear hb hbox hg; obtain ⟨hcz4_0, hcz4_1, hfz4_0, hfz4_1⟩ := cz2 BK126.out))
 repeat (go_quiet (first | ((with_reducible refine gate_dst (N := 1) rfl ?_); (try (refine gate_guard (by rfl) ?_; dsimp only)); refine box_event ?hg (N := 1) ?hd (cs := #[.slice A0_0 l0_0.length c0_0, .slice A0_1 l0_1.length c0_1]) (t := 85) ?hr ?_; (case hd => rfl); (case hg => rfl); (case hr => exact zB); intro gb126 hg w3 hbox hb; have n0_ := xm (below_step bB hb); have n1_ := xm (hbox); have n2_ := xm ((by rw [hg]; exact (xz bB) : w.heap.size ≤ gb126)); have n3_ := xm ((by rw [hg]; exact (xz bB) : w.heap.size ≤ gb126)); clear HB; have HB := n0_; have BK126 := n1_; have GW126 := n2_; have GE126 := n3_; clear n0_ n1_ n2_ n3_; clear hb hbox hg; obtain ⟨hcz4_0, hcz4_1, hfz4_0, hfz4_1⟩ := cz2 BK126.out)); go_upto_region 2 with (first | ((with_reducible refine gate_dst (N := 1) rfl ?_); (try (refine gate_guard (by rfl) ?_; dsimp only)); refine box_event ?hg (N := 1) ?hd (cs := #[.slice A0_0 l0_0.length c0_0, .slice A0_1 l0_1.length c0_1]) (t := 85) ?hr ?_; (case hd => rfl); (case hg => rfl); (case hr => exact zB); intro gb126 hg w3 hbox hb; have n0_ := xm (below_step bB hb); have n1_ := xm (hbox); have n2_ := xm ((by rw [hg]; exact (xz bB) : w.heap.size ≤ gb126)); have n3_ := xm ((by rw [hg]; exact (xz bB) : w.heap.size ≤ gb126)); clear HB; have HB := n0_; have BK126 := n1_; have GW126 := n2_; have GE126 := n3_; clear n0_ n1_ n2_ n3_; clear hb hbox hg; obtain ⟨hcz4_0, hcz4_1, hfz4_0, hfz4_1⟩ := cz2 BK126.out)))
 (try simp only [Act.put, xi, xj, xk])
 go_cut [27] (fun v27 wc => ∃ (kq : Nat) (x27_1 : Bool), v27 = .bool x27_1 ∧ Aside0 (spec_GoodSnap.j0 kq (l0_0.length : Int) x27_1 l0_0 l0_1 = some r) ∧ Aside0 (kq ≤ k) ∧ Aside0 (wc.heap[gb126]? = some (.cells #[(.slice A0_0 l0_0.length c0_0), (.slice A0_1 l0_1.length c0_1)] 85 (0, 0))) ∧ Aside0 (Below w.heap.size w wc))
 case first =>
  have H := HC2.out
  clear HC2
  replace H := Option.bind_eq_some_iff.mp H
  obtain ⟨t127, A50, H⟩ := H
  replace H : (if t127 = true then (spec_GoodSnap.j0 k (l0_0.length : Int) ((l0_1.length : Int) != (wrap64 ((l0_0.length : Int) * (l0_0.length : Int)))) l0_0 l0_1) else (spec_GoodSnap.j0 k (l0_0.length : Int) true l0_0 l0_1)) = some r := H
  have A5 := xm A50
  clear A50
  by_cases c6 : t127 = true
  ·subst c6
   have H1 : (spec_GoodSnap.j0 k (l0_0.length : Int) ((l0_1.length : Int) != (wrap64 ((l0_0.length : Int) * (l0_0.length : Int)))) l0_0 l0_1) = some r := by first | (with_reducible rfl) | (rw [if_pos rfl] at H; exact H)
   clear H
   have H := H1
   clear H1
   have H' := xm H
   clear H
   go_wp2_with (first | (go_at_call 102; (with_reducible refine (spec_l1In.calls (l0_0.length : Int) 2 4 true _ A5.out).mono ?_); rintro e w' ⟨rfl, ⟨nd, rfl⟩⟩; (try first | exact ⟨rfl, _, World.drewN_drewN _ _ _⟩ | exact ⟨rfl, _, Eq.trans (World.drewN_drewN _ _ _) (congrArg (World.drewN _) (Nat.add_assoc _ _ _))⟩); obtain ⟨hcz7_0, hcz7_1, hfz7_0, hfz7_1⟩ := cz2 BK126.out))
   repeat (go_quiet (first | (go_at_call 102; (with_reducible refine (spec_l1In.calls (l0_0.length : Int) 2 4 true _ A5.out).mono ?_); rintro e w' ⟨rfl, ⟨nd, rfl⟩⟩; (try first | exact ⟨rfl, _, World.drewN_drewN _ _ _⟩ | exact ⟨rfl, _, Eq.trans (World.drewN_drewN _ _ _) (congrArg (World.drewN _) (Nat.add_assoc _ _ _))⟩); obtain ⟨hcz7_0, hcz7_1, hfz7_0, hfz7_1⟩ := cz2 BK126.out)); try go_wp2_with (first | (go_at_call 102; (with_reducible refine (spec_l1In.calls (l0_0.length : Int) 2 4 true _ A5.out).mono ?_); rintro e w' ⟨rfl, ⟨nd, rfl⟩⟩; (try first | exact ⟨rfl, _, World.drewN_drewN _ _ _⟩ | exact ⟨rfl, _, Eq.trans (World.drewN_drewN _ _ _) (congrArg (World.drewN _) (Nat.add_assoc _ _ _))⟩); obtain ⟨hcz7_0, hcz7_1, hfz7_0, hfz7_1⟩ := cz2 BK126.out)))
   go_meet
   case rel => exact ⟨_, (((l0_1.length : Int) != (wrap64 ((l0_0.length : Int) * (l0_0.length : Int))))), (by first | rfl | (simp; done) | (simp [*]; done)), H', ⟨by first | omega | exact Nat.le_refl _⟩, ⟨by (with_reducible repeat (first | refine xq ?_ _ | refine xr ?_ | refine xo ?_ _)); exact BK126.out⟩, ⟨by repeat (first | (with_reducible first | exact HB.out | apply xa | apply xn | apply xd | refine xt ?_ GE126.out) | exact HB.out)⟩⟩
  ·replace c6 := Bool.eq_false_iff.mpr c6
   subst c6
   have H1 : (spec_GoodSnap.j0 k (l0_0.length : Int) true l0_0 l0_1) = some r := by first | (with_reducible rfl) | (rw [if_neg (show ¬ (false = true) by decide)] at H; exact H)
   clear H
   have H := H1
   clear H1
   have H' := xm H
   clear H
   go_wp2_with (first | (go_at_call 102; (with_reducible refine (spec_l1In.calls (l0_0.length : Int) 2 4 false _ A5.out).mono ?_); rintro e w' ⟨rfl, ⟨nd, rfl⟩⟩; (try first | exact ⟨rfl, _, World.drewN_drewN _ _ _⟩ | exact ⟨rfl, _, Eq.trans (World.drewN_drewN _ _ _) (congrArg (World.drewN _) (Nat.add_assoc _ _ _))⟩)))
   repeat (go_quiet (first | (go_at_call 102; (with_reducible refine (spec_l1In.calls (l0_0.length : Int) 2 4 false _ A5.out).mono ?_); rintro e w' ⟨rfl, ⟨nd, rfl⟩⟩; (try first | exact ⟨rfl, _, World.drewN_drewN _ _ _⟩ | exact ⟨rfl, _, Eq.trans (World.drewN_drewN _ _ _) (congrArg (World.drewN _) (Nat.add_assoc _ _ _))⟩))); try go_wp2_with (first | (go_at_call 102; (with_reducible refine (spec_l1In.calls (l0_0.length : Int) 2 4 false _ A5.out).mono ?_); rintro e w' ⟨rfl, ⟨nd, rfl⟩⟩; (try first | exact ⟨rfl, _, World.drewN_drewN _ _ _⟩ | exact ⟨rfl, _, Eq.trans (World.drewN_drewN _ _ _) (congrArg (World.drewN _) (Nat.add_assoc _ _ _))⟩))))
   go_meet
   case rel => exact ⟨_, (true), (by first | rfl | (simp; done) | (simp [*]; done)), H', ⟨by first | omega | exact Nat.le_refl _⟩, ⟨by (with_reducible repeat (first | refine xq ?_ _ | refine xr ?_ | refine xo ?_ _)); exact BK126.out⟩, ⟨by repeat (first | (with_reducible first | exact HB.out | apply xa | apply xn | apply xd | refine xt ?_ GE126.out) | exact HB.out)⟩⟩
 case rest =>
  clear HC2
  try clear p2
  try clear c5
  try clear c6
  try clear p6
  try clear hcz4_0
  try clear hcz4_1
  try clear hcz7_0
  try clear hcz7_1
  try clear hfz4_0
  try clear hfz4_1
  try clear hfz7_0
  try clear hfz7_1
  obtain ⟨kq, x27_1, rfl, HA, HJ1, BK126, HB⟩ := hcut
  cases kq with
  | zero => exact absurd HA.out (by simp [spec_GoodSnap.j0])
  | succ kj1 =>
   have H := HA.out
   clear HA
   simp only [spec_GoodSnap.j0] at H
   by_cases c8 : x27_1 = true
   ·subst c8
    have H1 : (some false) = some r := by first | (with_reducible rfl) | (rw [if_pos rfl] at H; exact H)
    clear H
    have H := H1
    clear H1
    obtain rfl := Option.some.inj H
    go_wp2
    repeat (go_quiet (fail); try go_wp2)
    go_ret
    exact ⟨by first | rfl | (simp [errW_none, errW_some] <;> rfl) | (simp [*, errW_none, errW_some] <;> rfl), by repeat (first | (with_reducible first | exact HB.out | apply xa | apply xn | apply xd | refine xt ?_ GE126.out) | exact HB.out)⟩
   ·replace c8 := Bool.eq_false_iff.mpr c8
    subst c8
    have H1 : (spec_GoodSnap.l0 kj1 (l0_0.length : Int) 0 l0_0 (l0_0.length : Int) 0 l0_0 l0_1) = some r := by first | (with_reducible rfl) | (rw [if_neg (show ¬ (false = true) by decide)] at H; exact H)
    clear H
    have H := H1
    clear H1
    have H' := xm H
    clear H
    obtain ⟨hcz9_0, hcz9_1, hfz9_0, hfz9_1⟩ := cz2 BK126.out
    go_wp2
    repeat (go_quiet (fail); try go_wp2)
    go_loopg [4, 31] kj1 (fun kq v4 v31 w' => ∃ (x4_2 : Int) (x31_2 : Int), v4 = .int .i64 x4_2 ∧ v31 = .int .i64 x31_2 ∧ Aside0 (spec_GoodSnap.l0 kq (l0_0.length : Int) x4_2 l0_0 (l0_0.length : Int) x31_2 l0_0 l0_1 = some r) ∧ Aside0 (kq ≤ kj1) ∧ Aside0 (w'.heap[gb126]? = some (.cells #[(.slice A0_0 l0_0.length c0_0), (.slice A0_1 l0_1.length c0_1)] 85 (0, 0))) ∧ Aside0 (Below w.heap.size w w'))
    case atStart => exact ⟨(0), (0), (by first | rfl | (simp; done) | (simp [*]; done)), (by first | rfl | (simp; done) | (simp [*]; done)), H', ⟨Nat.le_refl _⟩, ⟨by (with_reducible repeat (first | refine xq ?_ _ | refine xr ?_ | refine xo ?_ _)); exact BK126.out⟩, ⟨by repeat (first | (with_reducible first | exact HB.out | apply xa | apply xn | apply xd | refine xt ?_ GE126.out) | exact HB.out)⟩⟩
    case round =>
     clear H'
     try clear p2
     try clear c5
     try clear c6
     try clear p6
     try clear c8
     try clear hcz4_0
     try clear hcz4_1
     try clear hcz7_0
     try clear hcz7_1
     try clear hcz9_0
     try clear hcz9_1
     try clear hfz4_0
     try clear hfz4_1
     try clear hfz7_0
     try clear hfz7_1
     try clear hfz9_0
     try clear hfz9_1
     try clear p2
     try clear p6
     obtain ⟨x4_2, x31_2, rfl, rfl, HA, HK2, BK126, HB⟩ := hrel
     cases gk with
     | zero => exact absurd HA.out (by simp [spec_GoodSnap.l0])
     | succ k2 =>
      have H := HA.out
      clear HA
      simp only [spec_GoodSnap.l0] at H
      by_cases c10 : x31_2 < (l0_0.length : Int)
      ·rw [if_pos c10] at H
       have c10b0 : decide (x31_2 < (l0_0.length : Int)) = true := decide_eq_true c10
       clear c10
       by_cases c11 : 0 ≤ x31_2
       ·rw [if_pos c11] at H
        have c11b0 : decide (0 ≤ x31_2) = true := decide_eq_true c11
        clear c11
        by_cases c12 : x31_2 < (l0_0.length : Int)
        ·rw [if_pos c12] at H
         have c12b0 : decide (x31_2 < (l0_0.length : Int)) = true := decide_eq_true c12
         clear c12
         replace H := Option.bind_eq_some_iff.mp H
         obtain ⟨t130, A130, H⟩ := H
         replace H : (if t130 = true then ((spec_l1In.f ((rd_T138 l0_0 x31_2).f1) 0 2000000000).bind fun t131 => (if t131 = true then (if ((rd_T138 l0_0 x31_2).f2 = true) then (spec_GoodSnap.l0 k2 (l0_0.length : Int) (wrap64 (x4_2 + (wrap64 (((rd_T138 l0_0 x31_2).f0) + ((rd_T138 l0_0 x31_2).f1))))) l0_0 (l0_0.length : Int) (wrap64 (x31_2 + 1)) l0_0 l0_1) else (if ((rd_T138 l0_0 x31_2).f1) = 0 then (spec_GoodSnap.l0 k2 (l0_0.length : Int) (wrap64 (x4_2 + (wrap64 (((rd_T138 l0_0 x31_2).f0) + ((rd_T138 l0_0 x31_2).f1))))) l0_0 (l0_0.length : Int) (wrap64 (x31_2 + 1)) l0_0 l0_1) else (some false))) else (some false))) else (some false)) = some r := H
         have A13 := xm A130
         clear A130
         by_cases c14 : t130 = true
         ·subst c14
          have H1 : ((spec_l1In.f ((rd_T138 l0_0 x31_2).f1) 0 2000000000).bind fun t131 => (if t131 = true then (if ((rd_T138 l0_0 x31_2).f2 = true) then (spec_GoodSnap.l0 k2 (l0_0.length : Int) (wrap64 (x4_2 + (wrap64 (((rd_T138 l0_0 x31_2).f0) + ((rd_T138 l0_0 x31_2).f1))))) l0_0 (l0_0.length : Int) (wrap64 (x31_2 + 1)) l0_0 l0_1) else (if ((rd_T138 l0_0 x31_2).f1) = 0 then (spec_GoodSnap.l0 k2 (l0_0.length : Int) (wrap64 (x4_2 + (wrap64 (((rd_T138 l0_0 x31_2).f0) + ((rd_T138 l0_0 x31_2).f1))))) l0_0 (l0_0.length : Int) (wrap64 (x31_2 + 1)) l0_0 l0_1) else (some false))) else (some false))) = some r := by first | (with_reducible rfl) | (rw [if_pos rfl] at H; exact H)
          clear H
          have H := H1
          clear H1
          replace H := Option.bind_eq_some_iff.mp H
          obtain ⟨t131, A150, H⟩ := H
          replace H : (if t131 = true then (if ((rd_T138 l0_0 x31_2).f2 = true) then (spec_GoodSnap.l0 k2 (l0_0.length : Int) (wrap64 (x4_2 + (wrap64 (((rd_T138 l0_0 x31_2).f0) + ((rd_T138 l0_0 x31_2).f1))))) l0_0 (l0_0.length : Int) (wrap64 (x31_2 + 1)) l0_0 l0_1) else (if ((rd_T138 l0_0 x31_2).f1) = 0 then (spec_GoodSnap.l0 k2 (l0_0.length : Int) (wrap64 (x4_2 + (wrap64 (((rd_T138 l0_0 x31_2).f0) + ((rd_T138 l0_0 x31_2).f1))))) l0_0 (l0_0.length : Int) (wrap64 (x31_2 + 1)) l0_0 l0_1) else (some false))) else (some false)) = some r := H
          have A15 := xm A150
          clear A150
          by_cases c16 : t131 = true
          ·subst c16
           have H1 : (if ((rd_T138 l0_0 x31_2).f2 = true) then (spec_GoodSnap.l0 k2 (l0_0.length : Int) (wrap64 (x4_2 + (wrap64 (((rd_T138 l0_0 x31_2).f0) + ((rd_T138 l0_0 x31_2).f1))))) l0_0 (l0_0.length : Int) (wrap64 (x31_2 + 1)) l0_0 l0_1) else (if ((rd_T138 l0_0 x31_2).f1) = 0 then (spec_GoodSnap.l0 k2 (l0_0.length : Int) (wrap64 (x4_2 + (wrap64 (((rd_T138 l0_0 x31_2).f0) + ((rd_T138 l0_0 x31_2).f1))))) l0_0 (l0_0.length : Int) (wrap64 (x31_2 + 1)) l0_0 l0_1) else (some false))) = some r := by first | (with_reducible rfl) | (rw [if_pos rfl] at H; exact H)
           clear H
           have H := H1
           clear H1
           obtain ⟨bq17, hbq17⟩ : ∃ b_ : Bool, b_ = ((rd_T138 l0_0 x31_2).f2) := ⟨_, rfl⟩
           replace H : (if (bq17 = true) then (spec_GoodSnap.l0 k2 (l0_0.length : Int) (wrap64 (x4_2 + (wrap64 (((rd_T138 l0_0 x31_2).f0) + ((rd_T138 l0_0 x31_2).f1))))) l0_0 (l0_0.length : Int) (wrap64 (x31_2 + 1)) l0_0 l0_1) else (if ((rd_T138 l0_0 x31_2).f1) = 0 then (spec_GoodSnap.l0 k2 (l0_0.length : Int) (wrap64 (x4_2 + (wrap64 (((rd_T138 l0_0 x31_2).f0) + ((rd_T138 l0_0 x31_2).f1))))) l0_0 (l0_0.length : Int) (wrap64 (x31_2 + 1)) l0_0 l0_1) else (some false))) = some r := by rw [← hbq17] at H; exact H
           have Nbq17 := xm hbq17
           clear hbq17
           by_cases c18 : (bq17 = true)
           ·subst c18
            have H1 : (spec_GoodSnap.l0 k2 (l0_0.length : Int) (wrap64 (x4_2 + (wrap64 (((rd_T138 l0_0 x31_2).f0) + ((rd_T138 l0_0 x31_2).f1))))) l0_0 (l0_0.length : Int) (wrap64 (x31_2 + 1)) l0_0 l0_1) = some r := by first | (with_reducible rfl) | (rw [if_pos rfl] at H; exact H)
            clear H
            have H := H1
            clear H1
            have H' := xm H
            clear H
            have p128 : 0 ≤ (x31_2 : Int) := of_decide_eq_true aB
            have q128 : x31_2 < (l0_0.length : Int) := of_decide_eq_true aB
            obtain ⟨ad128, e128, hx128_0, hx128_1, hx128_2⟩ := at_T138 HR0_0.out x31_2 p128 q128
            (try rw [← Nbq17.out] at hx128_2)
            cases e128
            replace hx128_0 := (HB.out.cell (World.block_lt_of_cell? w _ hx128_0)).trans hx128_0
            replace hx128_1 := (HB.out.cell (World.block_lt_of_cell? w _ hx128_1)).trans hx128_1
            replace hx128_2 := (HB.out.cell (World.block_lt_of_cell? w _ hx128_2)).trans hx128_2
            replace p128 := eq_true p128
            replace q128 := eq_true q128
            go_wp2_with (first | ((with_reducible refine gate_dst (N := 6) rfl ?_); (try (refine gate_guard (by rfl) ?_; dsimp only)); refine box_event ?hg (N := 6) ?hd (cs := #[.int .i64 0, .int .i64 0, .bool false]) (t := 138) ?hr ?_; (case hd => rfl); (case hg => rfl); (case hr => exact zB); intro gb129 hg w19 hbox hb; have n0_ := xm (blk_below (kB BK126) hb); have n1_ := xm (below_step bG hb); have n2_ := xm (hbox); have n3_ := xm ((by rw [hg]; exact (xz bG) : w.heap.size ≤ gb129)); have n4_ := xm ((by rw [hg]; exact (xz bG) : w.heap.size ≤ gb129)); have n5_ := xm ((by rw [hg]; exact Nat.ne_of_lt (blk_lt (kB BK126)) : gb126 ≠ gb129)); have n6_ := xm ((by rw [hg]; exact Nat.ne_of_gt (blk_lt (kB BK126)) : gb129 ≠ gb126)); clear BK126; clear HB; have BK126 := n0_; have HB := n1_; have BK129 := n2_; have GW129 := n3_; have GE129 := n4_; have NB126_129 := n5_; have NB129_126 := n6_; clear n0_ n1_ n2_ n3_ n4_ n5_ n6_; clear hb hbox hg; have hnb20 := NB129_126.out; have hnc20 := NB126_129.out; obtain ⟨hcz21_0, hcz21_1, hcz21_2, hfz21_0, hfz21_1, hfz21_2⟩ := cz3 BK129.out) | (go_at_call 102; (with_reducible refine (spec_l1In.calls ((rd_T138 l0_0 x31_2).f0) 0 2000000000 true _ A13.out).mono ?_); rintro e w' ⟨rfl, ⟨nd, rfl⟩⟩; (try first | exact ⟨rfl, _, World.drewN_drewN _ _ _⟩ | exact ⟨rfl, _, Eq.trans (World.drewN_drewN _ _ _) (congrArg (World.drewN _) (Nat.add_assoc _ _ _))⟩)) | (go_at_call 102; (with_reducible refine (spec_l1In.calls ((rd_T138 l0_0 x31_2).f1) 0 2000000000 true _ A15.out).mono ?_); rintro e w' ⟨rfl, ⟨nd, rfl⟩⟩; (try first | exact ⟨rfl, _, World.drewN_drewN _ _ _⟩ | exact ⟨rfl, _, Eq.trans (World.drewN_drewN _ _ _) (congrArg (World.drewN _) (Nat.add_assoc _ _ _))⟩)))
            repeat (go_quiet (first | ((with_reducible refine gate_dst (N := 6) rfl ?_); (try (refine gate_guard (by rfl) ?_; dsimp only)); refine box_event ?hg (N := 6) ?hd (cs := #[.int .i64 0, .int .i64 0, .bool false]) (t := 138) ?hr ?_; (case hd => rfl); (case hg => rfl); (case hr => exact zB); intro gb129 hg w19 hbox hb; have n0_ := xm (blk_below (kB BK126) hb); have n1_ := xm (below_step bG hb); have n2_ := xm (hbox); have n3_ := xm ((by rw [hg]; exact (xz bG) : w.heap.size ≤ gb129)); have n4_ := xm ((by rw [hg]; exact (xz bG) : w.heap.size ≤ gb129)); have n5_ := xm ((by rw [hg]; exact Nat.ne_of_lt (blk_lt (kB BK126)) : gb126 ≠ gb129)); have n6_ := xm ((by rw [hg]; exact Nat.ne_of_gt (blk_lt (kB BK126)) : gb129 ≠ gb126)); clear BK126; clear HB; have BK126 := n0_; have HB := n1_; have BK129 := n2_; have GW129 := n3_; have GE129 := n4_; have NB126_129 := n5_; have NB129_126 := n6_; clear n0_ n1_ n2_ n3_ n4_ n5_ n6_; clear hb hbox hg; have hnb20 := NB129_126.out; have hnc20 := NB126_129.out; obtain ⟨hcz21_0, hcz21_1, hcz21_2, hfz21_0, hfz21_1, hfz21_2⟩ := cz3 BK129.out) | (go_at_call 102; (with_reducible refine (spec_l1In.calls ((rd_T138 l0_0 x31_2).f0) 0 2000000000 true _ A13.out).mono ?_); rintro e w' ⟨rfl, ⟨nd, rfl⟩⟩; (try first | exact ⟨rfl, _, World.drewN_drewN _ _ _⟩ | exact ⟨rfl, _, Eq.trans (World.drewN_drewN _ _ _) (congrArg (World.drewN _) (Nat.add_assoc _ _ _))⟩)) | (go_at_call 102; (with_reducible refine (spec_l1In.calls ((rd_T138 l0_0 x31_2).f1) 0 2000000000 true _ A15.out).mono ?_); rintro e w' ⟨rfl, ⟨nd, rfl⟩⟩; (try first | exact ⟨rfl, _, World.drewN_drewN _ _ _⟩ | exact ⟨rfl, _, Eq.trans (World.drewN_drewN _ _ _) (congrArg (World.drewN _) (Nat.add_assoc _ _ _))⟩))); try go_wp2_with (first | ((with_reducible refine gate_dst (N := 6) rfl ?_); (try (refine gate_guard (by rfl) ?_; dsimp only)); refine box_event ?hg (N := 6) ?hd (cs := #[.int .i64 0, .int .i64 0, .bool false]) (t := 138) ?hr ?_; (case hd => rfl); (case hg => rfl); (case hr => exact zB); intro gb129 hg w19 hbox hb; have n0_ := xm (blk_below (kB BK126) hb); have n1_ := xm (below_step bG hb); have n2_ := xm (hbox); have n3_ := xm ((by rw [hg]; exact (xz bG) : w.heap.size ≤ gb129)); have n4_ := xm ((by rw [hg]; exact (xz bG) : w.heap.size ≤ gb129)); have n5_ := xm ((by rw [hg]; exact Nat.ne_of_lt (blk_lt (kB BK126)) : gb126 ≠ gb129)); have n6_ := xm ((by rw [hg]; exact Nat.ne_of_gt (blk_lt (kB BK126)) : gb129 ≠ gb126)); clear BK126; clear HB; have BK126 := n0_; have HB := n1_; have BK129 := n2_; have GW129 := n3_; have GE129 := n4_; have NB126_129 := n5_; have NB129_126 := n6_; clear n0_ n1_ n2_ n3_ n4_ n5_ n6_; clear hb hbox hg; have hnb20 := NB129_126.out; have hnc20 := NB126_129.out; obtain ⟨hcz21_0, hcz21_1, hcz21_2, hfz21_0, hfz21_1, hfz21_2⟩ := cz3 BK129.out) | (go_at_call 102; (with_reducible refine (spec_l1In.calls ((rd_T138 l0_0 x31_2).f0) 0 2000000000 true _ A13.out).mono ?_); rintro e w' ⟨rfl, ⟨nd, rfl⟩⟩; (try first | exact ⟨rfl, _, World.drewN_drewN _ _ _⟩ | exact ⟨rfl, _, Eq.trans (World.drewN_drewN _ _ _) (congrArg (World.drewN _) (Nat.add_assoc _ _ _))⟩)) | (go_at_call 102; (with_reducible refine (spec_l1In.calls ((rd_T138 l0_0 x31_2).f1) 0 2000000000 true _ A15.out).mono ?_); rintro e w' ⟨rfl, ⟨nd, rfl⟩⟩; (try first | exact ⟨rfl, _, World.drewN_drewN _ _ _⟩ | exact ⟨rfl, _, Eq.trans (World.drewN_drewN _ _ _) (congrArg (World.drewN _) (Nat.add_assoc _ _ _))⟩))))
            go_roundg k2
            case measure => have := HJ1.out; have := HK2.out; omega
            case rel => (try rw [← Nbq17.out]); exact ⟨(wrap64 (x4_2 + (wrap64 (((rd_T138 l0_0 x31_2).f0) + ((rd_T138 l0_0 x31_2).f1))))), (wrap64 (x31_2 + 1)), (by first | rfl | (simp; done) | (simp [*]; done)), (by first | rfl | (simp; done) | (simp [*]; done)), H', ⟨by have := HJ1.out; have := HK2.out; omega⟩, ⟨by (with_reducible repeat (first | refine xq ?_ _ | refine xr ?_ | refine xo ?_ _)); refine blk_far ?_ NB126_129.out _; (with_reducible repeat (first | refine xq ?_ _ | refine xr ?_ | refine xo ?_ _)); refine blk_far ?_ NB126_129.out _; (with_reducible repeat (first | refine xq ?_ _ | refine xr ?_ | refine xo ?_ _)); refine blk_far ?_ NB126_129.out _; (with_reducible repeat (first | refine xq ?_ _ | refine xr ?_ | refine xo ?_ _)); exact BK126.out⟩, ⟨by repeat (first | (with_reducible first | exact HB.out | apply xa | apply xn | apply xd | refine xt ?_ GE126.out | refine xt ?_ GE129.out) | exact HB.out)⟩⟩
           ·replace c18 := Bool.eq_false_iff.mpr c18
            subst c18
            have H1 : (if ((rd_T138 l0_0 x31_2).f1) = 0 then (spec_GoodSnap.l0 k2 (l0_0.length : Int) (wrap64 (x4_2 + (wrap64 (((rd_T138 l0_0 x31_2).f0) + ((rd_T138 l0_0 x31_2).f1))))) l0_0 (l0_0.length : Int) (wrap64 (x31_2 + 1)) l0_0 l0_1) else (some false)) = some r := by first | (with_reducible rfl) | (rw [if_neg (show ¬ (false = true) by decide)] at H; exact H)
            clear H
            have H := H1
            clear H1
            by_cases c22 : ((rd_T138 l0_0 x31_2).f1) = 0
            ·rw [if_pos c22] at H
             have c22b0 : (((rd_T138 l0_0 x31_2).f1) == 0) = true := beq_iff_eq.mpr c22
             have c22b1 : (((rd_T138 l0_0 x31_2).f1) != 0) = false := bne_eq_false_iff_eq.mpr c22
             clear c22
             have H' := xm H
             clear H
             have p128 : 0 ≤ (x31_2 : Int) := of_decide_eq_true aB
             have q128 : x31_2 < (l0_0.length : Int) := of_decide_eq_true aB
             obtain ⟨ad128, e128, hx128_0, hx128_1, hx128_2⟩ := at_T138 HR0_0.out x31_2 p128 q128
             (try rw [← Nbq17.out] at hx128_2)
             cases e128
             replace hx128_0 := (HB.out.cell (World.block_lt_of_cell? w _ hx128_0)).trans hx128_0
             replace hx128_1 := (HB.out.cell (World.block_lt_of_cell? w _ hx128_1)).trans hx128_1
             replace hx128_2 := (HB.out.cell (World.block_lt_of_cell? w _ hx128_2)).trans hx128_2
             replace p128 := eq_true p128
             replace q128 := eq_true q128
             go_wp2_with (first | ((with_reducible refine gate_dst (N := 6) rfl ?_); (try (refine gate_guard (by rfl) ?_; dsimp only)); refine box_event ?hg (N := 6) ?hd (cs := #[.int .i64 0, .int .i64 0, .bool false]) (t := 138) ?hr ?_; (case hd => rfl); (case hg => rfl); (case hr => exact zB); intro gb129 hg w23 hbox hb; have n0_ := xm (blk_below (kB BK126) hb); have n1_ := xm (below_step bG hb); have n2_ := xm (hbox); have n3_ := xm ((by rw [hg]; exact (xz bG) : w.heap.size ≤ gb129)); have n4_ := xm ((by rw [hg]; exact (xz bG) : w.heap.size ≤ gb129)); have n5_ := xm ((by rw [hg]; exact Nat.ne_of_lt (blk_lt (kB BK126)) : gb126 ≠ gb129)); have n6_ := xm ((by rw [hg]; exact Nat.ne_of_gt (blk_lt (kB BK126)) : gb129 ≠ gb126)); clear BK126; clear HB; have BK126 := n0_; have HB := n1_; have BK129 := n2_; have GW129 := n3_; have GE129 := n4_; have NB126_129 := n5_; have NB129_126 := n6_; clear n0_ n1_ n2_ n3_ n4_ n5_ n6_; clear hb hbox hg; have hnb24 := NB129_126.out; have hnc24 := NB126_129.out; obtain ⟨hcz25_0, hcz25_1, hcz25_2, hfz25_0, hfz25_1, hfz25_2⟩ := cz3 BK129.out) | (go_at_call 102; (with_reducible refine (spec_l1In.calls ((rd_T138 l0_0 x31_2).f0) 0 2000000000 true _ A13.out).mono ?_); rintro e w' ⟨rfl, ⟨nd, rfl⟩⟩; (try first | exact ⟨rfl, _, World.drewN_drewN _ _ _⟩ | exact ⟨rfl, _, Eq.trans (World.drewN_drewN _ _ _) (congrArg (World.drewN _) (Nat.add_assoc _ _ _))⟩)) | (go_at_call 102; (with_reducible refine (spec_l1In.calls ((rd_T138 l0_0 x31_2).f1) 0 2000000000 true _ A15.out).mono ?_); rintro e w' ⟨rfl, ⟨nd, rfl⟩⟩; (try first | exact ⟨rfl, _, World.drewN_drewN _ _ _⟩ | exact ⟨rfl, _, Eq.trans (World.drewN_drewN _ _ _) (congrArg (World.drewN _) (Nat.add_assoc _ _ _))⟩)))
             repeat (go_quiet (first | ((with_reducible refine gate_dst (N := 6) rfl ?_); (try (refine gate_guard (by rfl) ?_; dsimp only)); refine box_event ?hg (N := 6) ?hd (cs := #[.int .i64 0, .int .i64 0, .bool false]) (t := 138) ?hr ?_; (case hd => rfl); (case hg => rfl); (case hr => exact zB); intro gb129 hg w23 hbox hb; have n0_ := xm (blk_below (kB BK126) hb); have n1_ := xm (below_step bG hb); have n2_ := xm (hbox); have n3_ := xm ((by rw [hg]; exact (xz bG) : w.heap.size ≤ gb129)); have n4_ := xm ((by rw [hg]; exact (xz bG) : w.heap.size ≤ gb129)); have n5_ := xm ((by rw [hg]; exact Nat.ne_of_lt (blk_lt (kB BK126)) : gb126 ≠ gb129)); have n6_ := xm ((by rw [hg]; exact Nat.ne_of_gt (blk_lt (kB BK126)) : gb129 ≠ gb126)); clear BK126; clear HB; have BK126 := n0_; have HB := n1_; have BK129 := n2_; have GW129 := n3_; have GE129 := n4_; have NB126_129 := n5_; have NB129_126 := n6_; clear n0_ n1_ n2_ n3_ n4_ n5_ n6_; clear hb hbox hg; have hnb24 := NB129_126.out; have hnc24 := NB126_129.out; obtain ⟨hcz25_0, hcz25_1, hcz25_2, hfz25_0, hfz25_1, hfz25_2⟩ := cz3 BK129.out) | (go_at_call 102; (with_reducible refine (spec_l1In.calls ((rd_T138 l0_0 x31_2).f0) 0 2000000000 true _ A13.out).mono ?_); rintro e w' ⟨rfl, ⟨nd, rfl⟩⟩; (try first | exact ⟨rfl, _, World.drewN_drewN _ _ _⟩ | exact ⟨rfl, _, Eq.trans (World.drewN_drewN _ _ _) (congrArg (World.drewN _) (Nat.add_assoc _ _ _))⟩)) | (go_at_call 102; (with_reducible refine (spec_l1In.calls ((rd_T138 l0_0 x31_2).f1) 0 2000000000 true _ A15.out).mono ?_); rintro e w' ⟨rfl, ⟨nd, rfl⟩⟩; (try first | exact ⟨rfl, _, World.drewN_drewN _ _ _⟩ | exact ⟨rfl, _, Eq.trans (World.drewN_drewN _ _ _) (congrArg (World.drewN _) (Nat.add_assoc _ _ _))⟩))); try go_wp2_with (first | ((with_reducible refine gate_dst (N := 6) rfl ?_); (try (refine gate_guard (by rfl) ?_; dsimp only)); refine box_event ?hg (N := 6) ?hd (cs := #[.int .i64 0, .int .i64 0, .bool false]) (t := 138) ?hr ?_; (case hd => rfl); (case hg => rfl); (case hr => exact zB); intro gb129 hg w23 hbox hb; have n0_ := xm (blk_below (kB BK126) hb); have n1_ := xm (below_step bG hb); have n2_ := xm (hbox); have n3_ := xm ((by rw [hg]; exact (xz bG) : w.heap.size ≤ gb129)); have n4_ := xm ((by rw [hg]; exact (xz bG) : w.heap.size ≤ gb129)); have n5_ := xm ((by rw [hg]; exact Nat.ne_of_lt (blk_lt (kB BK126)) : gb126 ≠ gb129)); have n6_ := xm ((by rw [hg]; exact Nat.ne_of_gt (blk_lt (kB BK126)) : gb129 ≠ gb126)); clear BK126; clear HB; have BK126 := n0_; have HB := n1_; have BK129 := n2_; have GW129 := n3_; have GE129 := n4_; have NB126_129 := n5_; have NB129_126 := n6_; clear n0_ n1_ n2_ n3_ n4_ n5_ n6_; clear hb hbox hg; have hnb24 := NB129_126.out; have hnc24 := NB126_129.out; obtain ⟨hcz25_0, hcz25_1, hcz25_2, hfz25_0, hfz25_1, hfz25_2⟩ := cz3 BK129.out) | (go_at_call 102; (with_reducible refine (spec_l1In.calls ((rd_T138 l0_0 x31_2).f0) 0 2000000000 true _ A13.out).mono ?_); rintro e w' ⟨rfl, ⟨nd, rfl⟩⟩; (try first | exact ⟨rfl, _, World.drewN_drewN _ _ _⟩ | exact ⟨rfl, _, Eq.trans (World.drewN_drewN _ _ _) (congrArg (World.drewN _) (Nat.add_assoc _ _ _))⟩)) | (go_at_call 102; (with_reducible refine (spec_l1In.calls ((rd_T138 l0_0 x31_2).f1) 0 2000000000 true _ A15.out).mono ?_); rintro e w' ⟨rfl, ⟨nd, rfl⟩⟩; (try first | exact ⟨rfl, _, World.drewN_drewN _ _ _⟩ | exact ⟨rfl, _, Eq.trans (World.drewN_drewN _ _ _) (congrArg (World.drewN _) (Nat.add_assoc _ _ _))⟩))))
             go_roundg k2
             case measure => have := HJ1.out; have := HK2.out; omega
             case rel => (try rw [← Nbq17.out]); exact ⟨(wrap64 (x4_2 + (wrap64 (((rd_T138 l0_0 x31_2).f0) + ((rd_T138 l0_0 x31_2).f1))))), (wrap64 (x31_2 + 1)), (by first | rfl | (simp; done) | (simp [*]; done)), (by first | rfl | (simp; done) | (simp [*]; done)), H', ⟨by have := HJ1.out; have := HK2.out; omega⟩, ⟨by (with_reducible repeat (first | refine xq ?_ _ | refine xr ?_ | refine xo ?_ _)); refine blk_far ?_ NB126_129.out _; (with_reducible repeat (first | refine xq ?_ _ | refine xr ?_ | refine xo ?_ _)); refine blk_far ?_ NB126_129.out _; (with_reducible repeat (first | refine xq ?_ _ | refine xr ?_ | refine xo ?_ _)); refine blk_far ?_ NB126_129.out _; (with_reducible repeat (first | refine xq ?_ _ | refine xr ?_ | refine xo ?_ _)); exact BK126.out⟩, ⟨by repeat (first | (with_reducible first | exact HB.out | apply xa | apply xn | apply xd | refine xt ?_ GE126.out | refine xt ?_ GE129.out) | exact HB.out)⟩⟩
            ·rw [if_neg c22] at H
             have c22b0 : (((rd_T138 l0_0 x31_2).f1) == 0) = false := beq_eq_false_iff_ne.mpr c22
             have c22b1 : (((rd_T138 l0_0 x31_2).f1) != 0) = true := bne_iff_ne.mpr c22
             obtain rfl := Option.some.inj H
             have p128 : 0 ≤ (x31_2 : Int) := of_decide_eq_true aB
             have q128 : x31_2 < (l0_0.length : Int) := of_decide_eq_true aB
             obtain ⟨ad128, e128, hx128_0, hx128_1, hx128_2⟩ := at_T138 HR0_0.out x31_2 p128 q128
             (try rw [← Nbq17.out] at hx128_2)
             cases e128
             replace hx128_0 := (HB.out.cell (World.block_lt_of_cell? w _ hx128_0)).trans hx128_0
             replace hx128_1 := (HB.out.cell (World.block_lt_of_cell? w _ hx128_1)).trans hx128_1
             replace hx128_2 := (HB.out.cell (World.block_lt_of_cell? w _ hx128_2)).trans hx128_2
             replace p128 := eq_true p128
             replace q128 := eq_true q128
             go_wp2_with (first | ((with_reducible refine gate_dst (N := 6) rfl ?_); (try (refine gate_guard (by rfl) ?_; dsimp only)); refine box_event ?hg (N := 6) ?hd (cs := #[.int .i64 0, .int .i64 0, .bool false]) (t := 138) ?hr ?_; (case hd => rfl); (case hg => rfl); (case hr => exact zB); intro gb129 hg w26 hbox hb; have n0_ := xm (blk_below (kB BK126) hb); have n1_ := xm (below_step bG hb); have n2_ := xm (hbox); have n3_ := xm ((by rw [hg]; exact (xz bG) : w.heap.size ≤ gb129)); have n4_ := xm ((by rw [hg]; exact (xz bG) : w.heap.size ≤ gb129)); have n5_ := xm ((by rw [hg]; exact Nat.ne_of_lt (blk_lt (kB BK126)) : gb126 ≠ gb129)); have n6_ := xm ((by rw [hg]; exact Nat.ne_of_gt (blk_lt (kB BK126)) : gb129 ≠ gb126)); clear BK126; clear HB; have BK126 := n0_; have HB := n1_; have BK129 := n2_; have GW129 := n3_; have GE129 := n4_; have NB126_129 := n5_; have NB129_126 := n6_; clear n0_ n1_ n2_ n3_ n4_ n5_ n6_; clear hb hbox hg; have hnb27 := NB129_126.out; have hnc27 := NB126_129.out; obtain ⟨hcz28_0, hcz28_1, hcz28_2, hfz28_0, hfz28_1, hfz28_2⟩ := cz3 BK129.out) | (go_at_call 102; (with_reducible refine (spec_l1In.calls ((rd_T138 l0_0 x31_2).f0) 0 2000000000 true _ A13.out).mono ?_); rintro e w' ⟨rfl, ⟨nd, rfl⟩⟩; (try first | exact ⟨rfl, _, World.drewN_drewN _ _ _⟩ | exact ⟨rfl, _, Eq.trans (World.drewN_drewN _ _ _) (congrArg (World.drewN _) (Nat.add_assoc _ _ _))⟩)) | (go_at_call 102; (with_reducible refine (spec_l1In.calls ((rd_T138 l0_0 x31_2).f1) 0 2000000000 true _ A15.out).mono ?_); rintro e w' ⟨rfl, ⟨nd, rfl⟩⟩; (try first | exact ⟨rfl, _, World.drewN_drewN _ _ _⟩ | exact ⟨rfl, _, Eq.trans (World.drewN_drewN _ _ _) (congrArg (World.drewN _) (Nat.add_assoc _ _ _))⟩)))
             repeat (go_quiet (first | ((with_reducible refine gate_dst (N := 6) rfl ?_); (try (refine gate_guard (by rfl) ?_; dsimp only)); refine box_event ?hg (N := 6) ?hd (cs := #[.int .i64 0, .int .i64 0, .bool false]) (t := 138) ?hr ?_; (case hd => rfl); (case hg => rfl); (case hr => exact zB); intro gb129 hg w26 hbox hb; have n0_ := xm (blk_below (kB BK126) hb); have n1_ := xm (below_step bG hb); have n2_ := xm (hbox); have n3_ := xm ((by rw [hg]; exact (xz bG) : w.heap.size ≤ gb129)); have n4_ := xm ((by rw [hg]; exact (xz bG) : w.heap.size ≤ gb129)); have n5_ := xm ((by rw [hg]; exact Nat.ne_of_lt (blk_lt (kB BK126)) : gb126 ≠ gb129)); have n6_ := xm ((by rw [hg]; exact Nat.ne_of_gt (blk_lt (kB BK126)) : gb129 ≠ gb126)); clear BK126; clear HB; have BK126 := n0_; have HB := n1_; have BK129 := n2_; have GW129 := n3_; have GE129 := n4_; have NB126_129 := n5_; have NB129_126 := n6_; clear n0_ n1_ n2_ n3_ n4_ n5_ n6_; clear hb hbox hg; have hnb27 := NB129_126.out; have hnc27 := NB126_129.out; obtain ⟨hcz28_0, hcz28_1, hcz28_2, hfz28_0, hfz28_1, hfz28_2⟩ := cz3 BK129.out) | (go_at_call 102; (with_reducible refine (spec_l1In.calls ((rd_T138 l0_0 x31_2).f0) 0 2000000000 true _ A13.out).mono ?_); rintro e w' ⟨rfl, ⟨nd, rfl⟩⟩; (try first | exact ⟨rfl, _, World.drewN_drewN _ _ _⟩ | exact ⟨rfl, _, Eq.trans (World.drewN_drewN _ _ _) (congrArg (World.drewN _) (Nat.add_assoc _ _ _))⟩)) | (go_at_call 102; (with_reducible refine (spec_l1In.calls ((rd_T138 l0_0 x31_2).f1) 0 2000000000 true _ A15.out).mono ?_); rintro e w' ⟨rfl, ⟨nd, rfl⟩⟩; (try first | exact ⟨rfl, _, World.drewN_drewN _ _ _⟩ | exact ⟨rfl, _, Eq.trans (World.drewN_drewN _ _ _) (congrArg (World.drewN _) (Nat.add_assoc _ _ _))⟩))); try go_wp2_with (first | ((with_reducible refine gate_dst (N := 6) rfl ?_); (try (refine gate_guard (by rfl) ?_; dsimp only)); refine box_event ?hg (N := 6) ?hd (cs := #[.int .i64 0, .int .i64 0, .bool false]) (t := 138) ?hr ?_; (case hd => rfl); (case hg => rfl); (case hr => exact zB); intro gb129 hg w26 hbox hb; have n0_ := xm (blk_below (kB BK126) hb); have n1_ := xm (below_step bG hb); have n2_ := xm (hbox); have n3_ := xm ((by rw [hg]; exact (xz bG) : w.heap.size ≤ gb129)); have n4_ := xm ((by rw [hg]; exact (xz bG) : w.heap.size ≤ gb129)); have n5_ := xm ((by rw [hg]; exact Nat.ne_of_lt (blk_lt (kB BK126)) : gb126 ≠ gb129)); have n6_ := xm ((by rw [hg]; exact Nat.ne_of_gt (blk_lt (kB BK126)) : gb129 ≠ gb126)); clear BK126; clear HB; have BK126 := n0_; have HB := n1_; have BK129 := n2_; have GW129 := n3_; have GE129 := n4_; have NB126_129 := n5_; have NB129_126 := n6_; clear n0_ n1_ n2_ n3_ n4_ n5_ n6_; clear hb hbox hg; have hnb27 := NB129_126.out; have hnc27 := NB126_129.out; obtain ⟨hcz28_0, hcz28_1, hcz28_2, hfz28_0, hfz28_1, hfz28_2⟩ := cz3 BK129.out) | (go_at_call 102; (with_reducible refine (spec_l1In.calls ((rd_T138 l0_0 x31_2).f0) 0 2000000000 true _ A13.out).mono ?_); rintro e w' ⟨rfl, ⟨nd, rfl⟩⟩; (try first | exact ⟨rfl, _, World.drewN_drewN _ _ _⟩ | exact ⟨rfl, _, Eq.trans (World.drewN_drewN _ _ _) (congrArg (World.drewN _) (Nat.add_assoc _ _ _))⟩)) | (go_at_call 102; (with_reducible refine (spec_l1In.calls ((rd_T138 l0_0 x31_2).f1) 0 2000000000 true _ A15.out).mono ?_); rintro e w' ⟨rfl, ⟨nd, rfl⟩⟩; (try first | exact ⟨rfl, _, World.drewN_drewN _ _ _⟩ | exact ⟨rfl, _, Eq.trans (World.drewN_drewN _ _ _) (congrArg (World.drewN _) (Nat.add_assoc _ _ _))⟩))))
             go_ret
             exact ⟨by first | rfl | (simp [errW_none, errW_some] <;> rfl) | (simp [*, errW_none, errW_some] <;> rfl), by repeat (first | (with_reducible first | exact HB.out | apply xa | apply xn | apply xd | refine xt ?_ GE126.out | refine xt ?_ GE129.out) | exact HB.out)⟩
          ·replace c16 := Bool.eq_false_iff.mpr c16
           subst c16
           have H1 : (some false) = some r := by first | (with_reducible rfl) | (rw [if_neg (show ¬ (false = true) by decide)] at H; exact H)
           clear H
           have H := H1
           clear H1
           obtain rfl := Option.some.inj H
           have p128 : 0 ≤ (x31_2 : Int) := of_decide_eq_true aB
           have q128 : x31_2 < (l0_0.length : Int) := of_decide_eq_true aB
           obtain ⟨ad128, e128, hx128_0, hx128_1, hx128_2⟩ := at_T138 HR0_0.out x31_2 p128 q128
           cases e128
           replace hx128_0 := (HB.out.cell (World.block_lt_of_cell? w _ hx128_0)).trans hx128_0
           replace hx128_1 := (HB.out.cell (World.block_lt_of_cell? w _ hx128_1)).trans hx128_1
           replace hx128_2 := (HB.out.cell (World.block_lt_of_cell? w _ hx128_2)).trans hx128_2
           replace p128 := eq_true p128
           replace q128 := eq_true q128
           go_wp2_with (first | ((with_reducible refine gate_dst (N := 6) rfl ?_); (try (refine gate_guard (by rfl) ?_; dsimp only)); refine box_event ?hg (N := 6) ?hd (cs := #[.int .i64 0, .int .i64 0, .bool false]) (t := 138) ?hr ?_; (case hd => rfl); (case hg => rfl); (case hr => exact zB); intro gb129 hg w29 hbox hb; have n0_ := xm (blk_below (kB BK126) hb); have n1_ := xm (below_step bG hb); have n2_ := xm (hbox); have n3_ := xm ((by rw [hg]; exact (xz bG) : w.heap.size ≤ gb129)); have n4_ := xm ((by rw [hg]; exact (xz bG) : w.heap.size ≤ gb129)); have n5_ := xm ((by rw [hg]; exact Nat.ne_of_lt (blk_lt (kB BK126)) : gb126 ≠ gb129)); have n6_ := xm ((by rw [hg]; exact Nat.ne_of_gt (blk_lt (kB BK126)) : gb129 ≠ gb126)); clear BK126; clear HB; have BK126 := n0_; have HB := n1_; have BK129 := n2_; have GW129 := n3_; have GE129 := n4_; have NB126_129 := n5_; have NB129_126 := n6_; clear n0_ n1_ n2_ n3_ n4_ n5_ n6_; clear hb hbox hg; have hnb30 := NB129_126.out; have hnc30 := NB126_129.out; obtain ⟨hcz31_0, hcz31_1, hcz31_2, hfz31_0, hfz31_1, hfz31_2⟩ := cz3 BK129.out) | (go_at_call 102; (with_reducible refine (spec_l1In.calls ((rd_T138 l0_0 x31_2).f0) 0 2000000000 true _ A13.out).mono ?_); rintro e w' ⟨rfl, ⟨nd, rfl⟩⟩; (try first | exact ⟨rfl, _, World.drewN_drewN _ _ _⟩ | exact ⟨rfl, _, Eq.trans (World.drewN_drewN _ _ _) (congrArg (World.drewN _) (Nat.add_assoc _ _ _))⟩)) | (go_at_call 102; (with_reducible refine (spec_l1In.calls ((rd_T138 l0_0 x31_2).f1) 0 2000000000 false _ A15.out).mono ?_); rintro e w' ⟨rfl, ⟨nd, rfl⟩⟩; (try first | exact ⟨rfl, _, World.drewN_drewN _ _ _⟩ | exact ⟨rfl, _, Eq.trans (World.drewN_drewN _ _ _) (congrArg (World.drewN _) (Nat.add_assoc _ _ _))⟩)))
           repeat (go_quiet (first | ((with_reducible refine gate_dst (N := 6) rfl ?_); (try (refine gate_guard (by rfl) ?_; dsimp only)); refine box_event ?hg (N := 6) ?hd (cs := #[.int .i64 0, .int .i64 0, .bool false]) (t := 138) ?hr ?_; (case hd => rfl); (case hg => rfl); (case hr => exact zB); intro gb129 hg w29 hbox hb; have n0_ := xm (blk_below (kB BK126) hb); have n1_ := xm (below_step bG hb); have n2_ := xm (hbox); have n3_ := xm ((by rw [hg]; exact (xz bG) : w.heap.size ≤ gb129)); have n4_ := xm ((by rw [hg]; exact (xz bG) : w.heap.size ≤ gb129)); have n5_ := xm ((by rw [hg]; exact Nat.ne_of_lt (blk_lt (kB BK126)) : gb126 ≠ gb129)); have n6_ := xm ((by rw [hg]; exact Nat.ne_of_gt (blk_lt (kB BK126)) : gb129 ≠ gb126)); clear BK126; clear HB; have BK126 := n0_; have HB := n1_; have BK129 := n2_; have GW129 := n3_; have GE129 := n4_; have NB126_129 := n5_; have NB129_126 := n6_; clear n0_ n1_ n2_ n3_ n4_ n5_ n6_; clear hb hbox hg; have hnb30 := NB129_126.out; have hnc30 := NB126_129.out; obtain ⟨hcz31_0, hcz31_1, hcz31_2, hfz31_0, hfz31_1, hfz31_2⟩ := cz3 BK129.out) | (go_at_call 102; (with_reducible refine (spec_l1In.calls ((rd_T138 l0_0 x31_2).f0) 0 2000000000 true _ A13.out).mono ?_); rintro e w' ⟨rfl, ⟨nd, rfl⟩⟩; (try first | exact ⟨rfl, _, World.drewN_drewN _ _ _⟩ | exact ⟨rfl, _, Eq.trans (World.drewN_drewN _ _ _) (congrArg (World.drewN _) (Nat.add_assoc _ _ _))⟩)) | (go_at_call 102; (with_reducible refine (spec_l1In.calls ((rd_T138 l0_0 x31_2).f1) 0 2000000000 false _ A15.out).mono ?_); rintro e w' ⟨rfl, ⟨nd, rfl⟩⟩; (try first | exact ⟨rfl, _, World.drewN_drewN _ _ _⟩ | exact ⟨rfl, _, Eq.trans (World.drewN_drewN _ _ _) (congrArg (World.drewN _) (Nat.add_assoc _ _ _))⟩))); try go_wp2_with (first | ((with_reducible refine gate_dst (N := 6) rfl ?_); (try (refine gate_guard (by rfl) ?_; dsimp only)); refine box_event ?hg (N := 6) ?hd (cs := #[.int .i64 0, .int .i64 0, .bool false]) (t := 138) ?hr ?_; (case hd => rfl); (case hg => rfl); (case hr => exact zB); intro gb129 hg w29 hbox hb; have n0_ := xm (blk_below (kB BK126) hb); have n1_ := xm (below_step bG hb); have n2_ := xm (hbox); have n3_ := xm ((by rw [hg]; exact (xz bG) : w.heap.size ≤ gb129)); have n4_ := xm ((by rw [hg]; exact (xz bG) : w.heap.size ≤ gb129)); have n5_ := xm ((by rw [hg]; exact Nat.ne_of_lt (blk_lt (kB BK126)) : gb126 ≠ gb129)); have n6_ := xm ((by rw [hg]; exact Nat.ne_of_gt (blk_lt (kB BK126)) : gb129 ≠ gb126)); clear BK126; clear HB; have BK126 := n0_; have HB := n1_; have BK129 := n2_; have GW129 := n3_; have GE129 := n4_; have NB126_129 := n5_; have NB129_126 := n6_; clear n0_ n1_ n2_ n3_ n4_ n5_ n6_; clear hb hbox hg; have hnb30 := NB129_126.out; have hnc30 := NB126_129.out; obtain ⟨hcz31_0, hcz31_1, hcz31_2, hfz31_0, hfz31_1, hfz31_2⟩ := cz3 BK129.out) | (go_at_call 102; (with_reducible refine (spec_l1In.calls ((rd_T138 l0_0 x31_2).f0) 0 2000000000 true _ A13.out).mono ?_); rintro e w' ⟨rfl, ⟨nd, rfl⟩⟩; (try first | exact ⟨rfl, _, World.drewN_drewN _ _ _⟩ | exact ⟨rfl, _, Eq.trans (World.drewN_drewN _ _ _) (congrArg (World.drewN _) (Nat.add_assoc _ _ _))⟩)) | (go_at_call 102; (with_reducible refine (spec_l1In.calls ((rd_T138 l0_0 x31_2).f1) 0 2000000000 false _ A15.out).mono ?_); rintro e w' ⟨rfl, ⟨nd, rfl⟩⟩; (try first | exact ⟨rfl, _, World.drewN_drewN _ _ _⟩ | exact ⟨rfl, _, Eq.trans (World.drewN_drewN _ _ _) (congrArg (World.drewN _) (Nat.add_assoc _ _ _))⟩))))
           go_ret
           exact ⟨by first | rfl | (simp [errW_none, errW_some] <;> rfl) | (simp [*, errW_none, errW_some] <;> rfl), by repeat (first | (with_reducible first | exact HB.out | apply xa | apply xn | apply xd | refine xt ?_ GE126.out | refine xt ?_ GE129.out) | exact HB.out)⟩
         ·replace c14 := Bool.eq_false_iff.mpr c14
          subst c14
          have H1 : (some false) = some r := by first | (with_reducible rfl) | (rw [if_neg (show ¬ (false = true) by decide)] at H; exact H)
          clear H
          have H := H1
          clear H1
          obtain rfl := Option.some.inj H
          have p128 : 0 ≤ (x31_2 : Int) := of_decide_eq_true aB
          have q128 : x31_2 < (l0_0.length : Int) := of_decide_eq_true aB
          obtain ⟨ad128, e128, hx128_0, hx128_1, hx128_2⟩ := at_T138 HR0_0.out x31_2 p128 q128
          cases e128
          replace hx128_0 := (HB.out.cell (World.block_lt_of_cell? w _ hx128_0)).trans hx128_0
          replace hx128_1 := (HB.out.cell (World.block_lt_of_cell? w _ hx128_1)).trans hx128_1
          replace hx128_2 := (HB.out.cell (World.block_lt_of_cell? w _ hx128_2)).trans hx128_2
          replace p128 := eq_true p128
          replace q128 := eq_true q128
          go_wp2_with (first | ((with_reducible refine gate_dst (N := 6) rfl ?_); (try (refine gate_guard (by rfl) ?_; dsimp only)); refine box_event ?hg (N := 6) ?hd (cs := #[.int .i64 0, .int .i64 0, .bool false]) (t := 138) ?hr ?_; (case hd => rfl); (case hg => rfl); (case hr => exact zB); intro gb129 hg w32 hbox hb; have n0_ := xm (blk_below (kB BK126) hb); have n1_ := xm (below_step bG hb); have n2_ := xm (hbox); have n3_ := xm ((by rw [hg]; exact (xz bG) : w.heap.size ≤ gb129)); have n4_ := xm ((by rw [hg]; exact (xz bG) : w.heap.size ≤ gb129)); have n5_ := xm ((by rw [hg]; exact Nat.ne_of_lt (blk_lt (kB BK126)) : gb126 ≠ gb129)); have n6_ := xm ((by rw [hg]; exact Nat.ne_of_gt (blk_lt (kB BK126)) : gb129 ≠ gb126)); clear BK126; clear HB; have BK126 := n0_; have HB := n1_; have BK129 := n2_; have GW129 := n3_; have GE129 := n4_; have NB126_129 := n5_; have NB129_126 := n6_; clear n0_ n1_ n2_ n3_ n4_ n5_ n6_; clear hb hbox hg; have hnb33 := NB129_126.out; have hnc33 := NB126_129.out; obtain ⟨hcz34_0, hcz34_1, hcz34_2, hfz34_0, hfz34_1, hfz34_2⟩ := cz3 BK129.out) | (go_at_call 102; (with_reducible refine (spec_l1In.calls ((rd_T138 l0_0 x31_2).f0) 0 2000000000 false _ A13.out).mono ?_); rintro e w' ⟨rfl, ⟨nd, rfl⟩⟩; (try first | exact ⟨rfl, _, World.drewN_drewN _ _ _⟩ | exact ⟨rfl, _, Eq.trans (World.drewN_drewN _ _ _) (congrArg (World.drewN _) (Nat.add_assoc _ _ _))⟩)))
          repeat (go_quiet (first | ((with_reducible refine gate_dst (N := 6) rfl ?_); (try (refine gate_guard (by rfl) ?_; dsimp only)); refine box_event ?hg (N := 6) ?hd (cs := #[.int .i64 0, .int .i64 0, .bool false]) (t := 138) ?hr ?_; (case hd => rfl); (case hg => rfl); (case hr => exact zB); intro gb129 hg w32 hbox hb; have n0_ := xm (blk_below (kB BK126) hb); have n1_ := xm (below_step bG hb); have n2_ := xm (hbox); have n3_ := xm ((by rw [hg]; exact (xz bG) : w.heap.size ≤ gb129)); have n4_ := xm ((by rw [hg]; exact (xz bG) : w.heap.size ≤ gb129)); have n5_ := xm ((by rw [hg]; exact Nat.ne_of_lt (blk_lt (kB BK126)) : gb126 ≠ gb129)); have n6_ := xm ((by rw [hg]; exact Nat.ne_of_gt (blk_lt (kB BK126)) : gb129 ≠ gb126)); clear BK126; clear HB; have BK126 := n0_; have HB := n1_; have BK129 := n2_; have GW129 := n3_; have GE129 := n4_; have NB126_129 := n5_; have NB129_126 := n6_; clear n0_ n1_ n2_ n3_ n4_ n5_ n6_; clear hb hbox hg; have hnb33 := NB129_126.out; have hnc33 := NB126_129.out; obtain ⟨hcz34_0, hcz34_1, hcz34_2, hfz34_0, hfz34_1, hfz34_2⟩ := cz3 BK129.out) | (go_at_call 102; (with_reducible refine (spec_l1In.calls ((rd_T138 l0_0 x31_2).f0) 0 2000000000 false _ A13.out).mono ?_); rintro e w' ⟨rfl, ⟨nd, rfl⟩⟩; (try first | exact ⟨rfl, _, World.drewN_drewN _ _ _⟩ | exact ⟨rfl, _, Eq.trans (World.drewN_drewN _ _ _) (congrArg (World.drewN _) (Nat.add_assoc _ _ _))⟩))); try go_wp2_with (first | ((with_reducible refine gate_dst (N := 6) rfl ?_); (try (refine gate_guard (by rfl) ?_; dsimp only)); refine box_event ?hg (N := 6) ?hd (cs := #[.int .i64 0, .int .i64 0, .bool false]) (t := 138) ?hr ?_; (case hd => rfl); (case hg => rfl); (case hr => exact zB); intro gb129 hg w32 hbox hb; have n0_ := xm (blk_below (kB BK126) hb); have n1_ := xm (below_step bG hb); have n2_ := xm (hbox); have n3_ := xm ((by rw [hg]; exact (xz bG) : w.heap.size ≤ gb129)); have n4_ := xm ((by rw [hg]; exact (xz bG) : w.heap.size ≤ gb129)); have n5_ := xm ((by rw [hg]; exact Nat.ne_of_lt (blk_lt (kB BK126)) : gb126 ≠ gb129)); have n6_ := xm ((by rw [hg]; exact Nat.ne_of_gt (blk_lt (kB BK126)) : gb129 ≠ gb126)); clear BK126; clear HB; have BK126 := n0_; have HB := n1_; have BK129 := n2_; have GW129 := n3_; have GE129 := n4_; have NB126_129 := n5_; have NB129_126 := n6_; clear n0_ n1_ n2_ n3_ n4_ n5_ n6_; clear hb hbox hg; have hnb33 := NB129_126.out; have hnc33 := NB126_129.out; obtain ⟨hcz34_0, hcz34_1, hcz34_2, hfz34_0, hfz34_1, hfz34_2⟩ := cz3 BK129.out) | (go_at_call 102; (with_reducible refine (spec_l1In.calls ((rd_T138 l0_0 x31_2).f0) 0 2000000000 false _ A13.out).mono ?_); rintro e w' ⟨rfl, ⟨nd, rfl⟩⟩; (try first | exact ⟨rfl, _, World.drewN_drewN _ _ _⟩ | exact ⟨rfl, _, Eq.trans (World.drewN_drewN _ _ _) (congrArg (World.drewN _) (Nat.add_assoc _ _ _))⟩))))
          go_ret
          exact ⟨by first | rfl | (simp [errW_none, errW_some] <;> rfl) | (simp [*, errW_none, errW_some] <;> rfl), by repeat (first | (with_reducible first | exact HB.out | apply xa | apply xn | apply xd | refine xt ?_ GE126.out | refine xt ?_ GE129.out) | exact HB.out)⟩
        ·rw [if_neg c12] at H
         exact absurd H (by simp)
       ·rw [if_neg c11] at H
        exact absurd H (by simp)
      ·rw [if_neg c10] at H
       have c10b0 : decide (x31_2 < (l0_0.length : Int)) = false := decide_eq_false c10
       clear c10
       have H' := xm H
       clear H
       obtain ⟨hcz35_0, hcz35_1, hfz35_0, hfz35_1⟩ := cz2 BK126.out
       go_wp2
       repeat (go_quiet (fail); try go_wp2)
       go_loopg [4, 66] k2 (fun kq v4 v66 w' => ∃ (x4_3 : Int) (x66_3 : Int), v4 = .int .i64 x4_3 ∧ v66 = .int .i64 x66_3 ∧ Aside0 (spec_GoodSnap.l1 kq (l0_0.length : Int) x4_3 l0_1 (l0_1.length : Int) x66_3 l0_0 l0_1 = some r) ∧ Aside0 (kq ≤ k2) ∧ Aside0 (w'.heap[gb126]? = some (.cells #[(.slice A0_0 l0_0.length c0_0), (.slice A0_1 l0_1.length c0_1)] 85 (0, 0))) ∧ Aside0 (Below w.heap.size w w'))
       case atStart => exact ⟨(x4_2), (0), (by first | rfl | (simp; done) | (simp [*]; done)), (by first | rfl | (simp; done) | (simp [*]; done)), H', ⟨Nat.le_refl _⟩, ⟨by (with_reducible repeat (first | refine xq ?_ _ | refine xr ?_ | refine xo ?_ _)); exact BK126.out⟩, ⟨by repeat (first | (with_reducible first | exact HB.out | apply xa | apply xn | apply xd | refine xt ?_ GE126.out) | exact HB.out)⟩⟩
       case round =>
        clear H'
        try clear c1
        try clear p1
        try clear q1
        try clear hx1
        try clear c2
        try clear p2
        try clear c3
        try clear c5
        try clear c6
        try clear p6
        try clear c8
        try clear c10
        try clear c10b0
        try clear c11
        try clear c11b0
        try clear c12
        try clear c12b0
        try clear p12
        try clear q12
        try clear hx12
        try clear c14
        try clear c16
        try clear q17
        try clear c18
        try clear c20
        try clear c22
        try clear c22b0
        try clear c22b1
        try clear c24
        try clear c27
        try clear c30
        try clear c33
        try clear hcz21_0
        try clear hcz21_1
        try clear hcz21_2
        try clear hcz25_0
        try clear hcz25_1
        try clear hcz25_2
        try clear hcz28_0
        try clear hcz28_1
        try clear hcz28_2
        try clear hcz31_0
        try clear hcz31_1
        try clear hcz31_2
        try clear hcz34_0
        try clear hcz34_1
        try clear hcz34_2
        try clear hcz35_0
        try clear hcz35_1
        try clear hcz4_0
        try clear hcz4_1
        try clear hcz7_0
        try clear hcz7_1
        try clear hcz9_0
        try clear hcz9_1
        try clear hfz21_0
        try clear hfz21_1
        try clear hfz21_2
        try clear hfz25_0
        try clear hfz25_1
        try clear hfz25_2
        try clear hfz28_0
        try clear hfz28_1
        try clear hfz28_2
        try clear hfz31_0
        try clear hfz31_1
        try clear hfz31_2
        try clear hfz34_0
        try clear hfz34_1
        try clear hfz34_2
        try clear hfz35_0
        try clear hfz35_1
        try clear hfz4_0
        try clear hfz4_1
        try clear hfz7_0
        try clear hfz7_1
        try clear hfz9_0
        try clear hfz9_1
        try clear hx128_0
        try clear hx128_1
        try clear hx128_2
        try clear p128
        try clear p2
        try clear p6
        try clear q128
        obtain ⟨x4_3, x66_3, rfl, rfl, HA, HK3, BK126, HB⟩ := hrel
        cases gk with
        | zero => exact absurd HA.out (by simp [spec_GoodSnap.l1])
        | succ k3 =>
         have H := HA.out
         clear HA
         simp only [spec_GoodSnap.l1] at H
         by_cases c36 : x66_3 < (l0_1.length : Int)
         ·rw [if_pos c36] at H
          have c36b0 : decide (x66_3 < (l0_1.length : Int)) = true := decide_eq_true c36
          clear c36
          by_cases c37 : 0 ≤ x66_3
          ·rw [if_pos c37] at H
           have c37b0 : decide (0 ≤ x66_3) = true := decide_eq_true c37
           clear c37
           by_cases c38 : x66_3 < (l0_1.length : Int)
           ·rw [if_pos c38] at H
            have c38b0 : decide (x66_3 < (l0_1.length : Int)) = true := decide_eq_true c38
            clear c38
            have H' := xm H
            clear H
            have p132 : 0 ≤ (x66_3 : Int) := of_decide_eq_true aB
            have q132 : x66_3 < (l0_1.length : Int) := of_decide_eq_true aB
            obtain ⟨ad132, A132_0, c132_0, A132_1, c132_1, e132, hx132_0, hx132_1, hx132_2, hl132_0, hi132_0, hl132_1, hi132_1⟩ := at_T140 HR0_1.out x66_3 p132 q132
            cases e132
            replace hx132_0 := (HB.out.cell (World.block_lt_of_cell? w _ hx132_0)).trans hx132_0
            replace hx132_1 := (HB.out.cell (World.block_lt_of_cell? w _ hx132_1)).trans hx132_1
            replace hx132_2 := (HB.out.cell (World.block_lt_of_cell? w _ hx132_2)).trans hx132_2
            have HR132_0 := xm hi132_0
            have HC132_0 := xm hl132_0
            clear hi132_0 hl132_0
            have HR132_1 := xm hi132_1
            have HC132_1 := xm hl132_1
            clear hi132_1 hl132_1
            replace p132 := eq_true p132
            replace q132 := eq_true q132
            go_wp2_with (first | ((with_reducible refine gate_dst (N := 8) rfl ?_); (try (refine gate_guard (by rfl) ?_; dsimp only)); refine box_event ?hg (N := 8) ?hd (cs := #[.slice none 0 0, .slice none 0 0, .bool false]) (t := 140) ?hr ?_; (case hd => rfl); (case hg => rfl); (case hr => exact zB); intro gb133 hg w39 hbox hb; have n0_ := xm (blk_below (kB BK126) hb); have n1_ := xm (below_step bG hb); have n2_ := xm (hbox); have n3_ := xm ((by rw [hg]; exact (xz bG) : w.heap.size ≤ gb133)); have n4_ := xm ((by rw [hg]; exact (xz bG) : w.heap.size ≤ gb133)); have n5_ := xm ((by rw [hg]; exact Nat.ne_of_lt (blk_lt (kB BK126)) : gb126 ≠ gb133)); have n6_ := xm ((by rw [hg]; exact Nat.ne_of_gt (blk_lt (kB BK126)) : gb133 ≠ gb126)); clear BK126; clear HB; have BK126 := n0_; have HB := n1_; have BK133 := n2_; have GW133 := n3_; have GE133 := n4_; have NB126_133 := n5_; have NB133_126 := n6_; clear n0_ n1_ n2_ n3_ n4_ n5_ n6_; clear hb hbox hg; have hnb40 := NB133_126.out; have hnc40 := NB126_133.out; obtain ⟨hcz41_0, hcz41_1, hcz41_2, hfz41_0, hfz41_1, hfz41_2⟩ := cz3 BK133.out))
            repeat (go_quiet (first | ((with_reducible refine gate_dst (N := 8) rfl ?_); (try (refine gate_guard (by rfl) ?_; dsimp only)); refine box_event ?hg (N := 8) ?hd (cs := #[.slice none 0 0, .slice none 0 0, .bool false]) (t := 140) ?hr ?_; (case hd => rfl); (case hg => rfl); (case hr => exact zB); intro gb133 hg w39 hbox hb; have n0_ := xm (blk_below (kB BK126) hb); have n1_ := xm (below_step bG hb); have n2_ := xm (hbox); have n3_ := xm ((by rw [hg]; exact (xz bG) : w.heap.size ≤ gb133)); have n4_ := xm ((by rw [hg]; exact (xz bG) : w.heap.size ≤ gb133)); have n5_ := xm ((by rw [hg]; exact Nat.ne_of_lt (blk_lt (kB BK126)) : gb126 ≠ gb133)); have n6_ := xm ((by rw [hg]; exact Nat.ne_of_gt (blk_lt (kB BK126)) : gb133 ≠ gb126)); clear BK126; clear HB; have BK126 := n0_; have HB := n1_; have BK133 := n2_; have GW133 := n3_; have GE133 := n4_; have NB126_133 := n5_; have NB133_126 := n6_; clear n0_ n1_ n2_ n3_ n4_ n5_ n6_; clear hb hbox hg; have hnb40 := NB133_126.out; have hnc40 := NB126_133.out; obtain ⟨hcz41_0, hcz41_1, hcz41_2, hfz41_0, hfz41_1, hfz41_2⟩ := cz3 BK133.out)); try go_wp2_with (first | ((with_reducible refine gate_dst (N := 8) rfl ?_); (try (refine gate_guard (by rfl) ?_; dsimp only)); refine box_event ?hg (N := 8) ?hd (cs := #[.slice none 0 0, .slice none 0 0, .bool false]) (t := 140) ?hr ?_; (case hd => rfl); (case hg => rfl); (case hr => exact zB); intro gb133 hg w39 hbox hb; have n0_ := xm (blk_below (kB BK126) hb); have n1_ := xm (below_step bG hb); have n2_ := xm (hbox); have n3_ := xm ((by rw [hg]; exact (xz bG) : w.heap.size ≤ gb133)); have n4_ := xm ((by rw [hg]; exact (xz bG) : w.heap.size ≤ gb133)); have n5_ := xm ((by rw [hg]; exact Nat.ne_of_lt (blk_lt (kB BK126)) : gb126 ≠ gb133)); have n6_ := xm ((by rw [hg]; exact Nat.ne_of_gt (blk_lt (kB BK126)) : gb133 ≠ gb126)); clear BK126; clear HB; have BK126 := n0_; have HB := n1_; have BK133 := n2_; have GW133 := n3_; have GE133 := n4_; have NB126_133 := n5_; have NB133_126 := n6_; clear n0_ n1_ n2_ n3_ n4_ n5_ n6_; clear hb hbox hg; have hnb40 := NB133_126.out; have hnc40 := NB126_133.out; obtain ⟨hcz41_0, hcz41_1, hcz41_2, hfz41_0, hfz41_1, hfz41_2⟩ := cz3 BK133.out)))
            go_loopg [4, 74] k3 (fun kq v4 v74 w' => ∃ (x4_4 : Int) (x74_4 : Int), v4 = .int .i64 x4_4 ∧ v74 = .int .i64 x74_4 ∧ Aside0 (spec_GoodSnap.l2 kq (l0_0.length : Int) x4_4 x66_3 l0_1 (l0_1.length : Int) x66_3 ((rd_T140 l0_1 x66_3).f0) (((rd_T140 l0_1 x66_3).f0).length : Int) x74_4 l0_0 l0_1 ((rd_T140 l0_1 x66_3).f0) ((rd_T140 l0_1 x66_3).f1) ((rd_T140 l0_1 x66_3).f2) = some r) ∧ Aside0 (kq ≤ k3) ∧ Aside0 (w'.heap[gb126]? = some (.cells #[(.slice A0_0 l0_0.length c0_0), (.slice (some ad132) l0_1.length c0_1)] 85 (0, 0))) ∧ Aside0 (w'.heap[gb133]? = some (.cells #[(.slice A132_0 ((rd_T140 l0_1 x66_3).f0).length c132_0), (.slice A132_1 ((rd_T140 l0_1 x66_3).f1).length c132_1), .bool ((rd_T140 l0_1 x66_3).f2)] 140 (0, 0))) ∧ Aside0 (Below w.heap.size w w'))
            case atStart => exact ⟨(x4_3), (0), (by first | rfl | (simp; done) | (simp [*]; done)), (by first | rfl | (simp; done) | (simp [*]; done)), H', ⟨Nat.le_refl _⟩, ⟨by (with_reducible repeat (first | refine xq ?_ _ | refine xr ?_ | refine xo ?_ _)); refine blk_far ?_ NB126_133.out _; (with_reducible repeat (first | refine xq ?_ _ | refine xr ?_ | refine xo ?_ _)); refine blk_far ?_ NB126_133.out _; (with_reducible repeat (first | refine xq ?_ _ | refine xr ?_ | refine xo ?_ _)); refine blk_far ?_ NB126_133.out _; (with_reducible repeat (first | refine xq ?_ _ | refine xr ?_ | refine xo ?_ _)); exact BK126.out⟩, ⟨by (with_reducible repeat (first | refine xq ?_ _ | refine xr ?_ | refine xo ?_ _)); refine blk_put (cs := #[.slice A132_0 ((rd_T140 l0_1 x66_3).f0).length c132_0, .slice A132_1 ((rd_T140 l0_1 x66_3).f1).length c132_1, .bool false]) ?_ 2 _ rfl; (with_reducible repeat (first | refine xq ?_ _ | refine xr ?_ | refine xo ?_ _)); refine blk_put (cs := #[.slice A132_0 ((rd_T140 l0_1 x66_3).f0).length c132_0, .slice none 0 0, .bool false]) ?_ 1 _ rfl; (with_reducible repeat (first | refine xq ?_ _ | refine xr ?_ | refine xo ?_ _)); refine blk_put (cs := #[.slice none 0 0, .slice none 0 0, .bool false]) ?_ 0 _ rfl; (with_reducible repeat (first | refine xq ?_ _ | refine xr ?_ | refine xo ?_ _)); exact BK133.out⟩, ⟨by repeat (first | (with_reducible first | exact HB.out | apply xa | apply xn | apply xd | refine xt ?_ GE126.out | refine xt ?_ GE133.out) | exact HB.out)⟩⟩
            case round =>
             clear H'
             try clear c1
             try clear p1
             try clear q1
             try clear hx1
             try clear c2
             try clear p2
             try clear c3
             try clear c4
             try clear c5
             try clear c6
             try clear p6
             try clear c8
             try clear c10
             try clear c10b0
             try clear c11
             try clear c11b0
             try clear c12
             try clear c12b0
             try clear p12
             try clear q12
             try clear hx12
             try clear c13
             try clear p13
             try clear q13
             try clear hx13
             try clear c14
             try clear c16
             try clear q17
             try clear c18
             try clear c20
             try clear c22
             try clear c22b0
             try clear c22b1
             try clear c24
             try clear c27
             try clear c30
             try clear c33
             try clear c36
             try clear c36b0
             try clear c37
             try clear c37b0
             try clear c38
             try clear c38b0
             try clear c40
             try clear hcz21_0
             try clear hcz21_1
             try clear hcz21_2
             try clear hcz25_0
             try clear hcz25_1
             try clear hcz25_2
             try clear hcz28_0
             try clear hcz28_1
             try clear hcz28_2
             try clear hcz31_0
             try clear hcz31_1
             try clear hcz31_2
             try clear hcz34_0
             try clear hcz34_1
             try clear hcz34_2
             try clear hcz35_0
             try clear hcz35_1
             try clear hcz41_0
             try clear hcz41_1
             try clear hcz41_2
             try clear hcz4_0
             try clear hcz4_1
             try clear hcz7_0
             try clear hcz7_1
             try clear hcz9_0
             try clear hcz9_1
             try clear hfz21_0
             try clear hfz21_1
             try clear hfz21_2
             try clear hfz25_0
             try clear hfz25_1
             try clear hfz25_2
             try clear hfz28_0
             try clear hfz28_1
             try clear hfz28_2
             try clear hfz31_0
             try clear hfz31_1
             try clear hfz31_2
             try clear hfz34_0
             try clear hfz34_1
             try clear hfz34_2
             try clear hfz35_0
             try clear hfz35_1
             try clear hfz41_0
             try clear hfz41_1
             try clear hfz41_2
             try clear hfz4_0
             try clear hfz4_1
             try clear hfz7_0
             try clear hfz7_1
             try clear hfz9_0
             try clear hfz9_1
             try clear hx128_0
             try clear hx128_1
             try clear hx128_2
             try clear hx132_0
             try clear hx132_1
             try clear hx132_2
             try clear p1
             try clear p12
             try clear p128
             try clear p132
             try clear p2
             try clear p6
             try clear q1
             try clear q12
             try clear q128
             try clear q132
             try clear q17
             obtain ⟨x4_4, x74_4, rfl, rfl, HA, HK4, BK126, BK133, HB⟩ := hrel
             cases gk with
             | zero => exact absurd HA.out (by simp [spec_GoodSnap.l2])
             | succ k4 =>
              have H := HA.out
              clear HA
              simp only [spec_GoodSnap.l2] at H
              by_cases c42 : x74_4 < (((rd_T140 l0_1 x66_3).f0).length : Int)
              ·rw [if_pos c42] at H
               have c42b0 : decide (x74_4 < (((rd_T140 l0_1 x66_3).f0).length : Int)) = true := decide_eq_true c42
               clear c42
               by_cases c43 : 0 ≤ x74_4
               ·rw [if_pos c43] at H
                have c43b0 : decide (0 ≤ x74_4) = true := decide_eq_true c43
                clear c43
                by_cases c44 : x74_4 < (((rd_T140 l0_1 x66_3).f0).length : Int)
                ·rw [if_pos c44] at H
                 have c44b0 : decide (x74_4 < (((rd_T140 l0_1 x66_3).f0).length : Int)) = true := decide_eq_true c44
                 clear c44
                 replace H := Option.bind_eq_some_iff.mp H
                 obtain ⟨t135, A450, H⟩ := H
                 replace H : (if t135 = true then (spec_GoodSnap.l2 k4 (l0_0.length : Int) (wrap64 (x4_4 + (rd ((rd_T140 l0_1 x66_3).f0) x74_4))) x66_3 l0_1 (l0_1.length : Int) x66_3 ((rd_T140 l0_1 x66_3).f0) (((rd_T140 l0_1 x66_3).f0).length : Int) (wrap64 (x74_4 + 1)) l0_0 l0_1 ((rd_T140 l0_1 x66_3).f0) ((rd_T140 l0_1 x66_3).f1) ((rd_T140 l0_1 x66_3).f2)) else (some false)) = some r := H
                 have A45 := xm A450
                 clear A450
                 by_cases c46 : t135 = true
                 ·subst c46
                  have H1 : (spec_GoodSnap.l2 k4 (l0_0.length : Int) (wrap64 (x4_4 + (rd ((rd_T140 l0_1 x66_3).f0) x74_4))) x66_3 l0_1 (l0_1.length : Int) x66_3 ((rd_T140 l0_1 x66_3).f0) (((rd_T140 l0_1 x66_3).f0).length : Int) (wrap64 (x74_4 + 1)) l0_0 l0_1 ((rd_T140 l0_1 x66_3).f0) ((rd_T140 l0_1 x66_3).f1) ((rd_T140 l0_1 x66_3).f2)) = some r := by first | (with_reducible rfl) | (rw [if_pos rfl] at H; exact H)
                  clear H
                  have H := H1
                  clear H1
                  have H' := xm H
                  clear H
                  have p134 : 0 ≤ (x74_4 : Int) := of_decide_eq_true aB
                  have q134 : x74_4 < (((rd_T140 l0_1 x66_3).f0).length : Int) := of_decide_eq_true aB
                  obtain ⟨ad134, e134, hx134_0⟩ := Kd.at_int HR132_0.out x74_4 p134 q134
                  cases e134
                  replace hx134_0 := (HB.out.cell (World.block_lt_of_cell? w _ hx134_0)).trans hx134_0
                  replace p134 := eq_true p134
                  replace q134 := eq_true q134
                  go_wp2_with (first | (go_at_call 118; (with_reducible refine (spec_l15Amount.calls (rd ((rd_T140 l0_1 x66_3).f0) x74_4) true _ A45.out).mono ?_); rintro e w' ⟨rfl, ⟨nd, rfl⟩⟩; (try first | exact ⟨rfl, _, World.drewN_drewN _ _ _⟩ | exact ⟨rfl, _, Eq.trans (World.drewN_drewN _ _ _) (congrArg (World.drewN _) (Nat.add_assoc _ _ _))⟩)))
                  repeat (go_quiet (first | (go_at_call 118; (with_reducible refine (spec_l15Amount.calls (rd ((rd_T140 l0_1 x66_3).f0) x74_4) true _ A45.out).mono ?_); rintro e w' ⟨rfl, ⟨nd, rfl⟩⟩; (try first | exact ⟨rfl, _, World.drewN_drewN _ _ _⟩ | exact ⟨rfl, _, Eq.trans (World.drewN_drewN _ _ _) (congrArg (World.drewN _) (Nat.add_assoc _ _ _))⟩))); try go_wp2_with (first | (go_at_call 118; (with_reducible refine (spec_l15Amount.calls (rd ((rd_T140 l0_1 x66_3).f0) x74_4) true _ A45.out).mono ?_); rintro e w' ⟨rfl, ⟨nd, rfl⟩⟩; (try first | exact ⟨rfl, _, World.drewN_drewN _ _ _⟩ | exact ⟨rfl, _, Eq.trans (World.drewN_drewN _ _ _) (congrArg (World.drewN _) (Nat.add_assoc _ _ _))⟩))))
                  go_roundg k4
                  case measure => have := HJ1.out; have := HK2.out; have := HK3.out; have := HK4.out; omega
                  case rel => exact ⟨(wrap64 (x4_4 + (rd ((rd_T140 l0_1 x66_3).f0) x74_4))), (wrap64 (x74_4 + 1)), (by first | rfl | (simp; done) | (simp [*]; done)), (by first | rfl | (simp; done) | (simp [*]; done)), H', ⟨by have := HJ1.out; have := HK2.out; have := HK3.out; have := HK4.out; omega⟩, ⟨by (with_reducible repeat (first | refine xq ?_ _ | refine xr ?_ | refine xo ?_ _)); exact BK126.out⟩, ⟨by (with_reducible repeat (first | refine xq ?_ _ | refine xr ?_ | refine xo ?_ _)); exact BK133.out⟩, ⟨by repeat (first | (with_reducible first | exact HB.out | apply xa | apply xn | apply xd | refine xt ?_ GE126.out | refine xt ?_ GE133.out) | exact HB.out)⟩⟩
                 ·replace c46 := Bool.eq_false_iff.mpr c46
                  subst c46
                  have H1 : (some false) = some r := by first | (with_reducible rfl) | (rw [if_neg (show ¬ (false = true) by decide)] at H; exact H)
                  clear H
                  have H := H1
                  clear H1
                  obtain rfl := Option.some.inj H
                  have p134 : 0 ≤ (x74_4 : Int) := of_decide_eq_true aB
                  have q134 : x74_4 < (((rd_T140 l0_1 x66_3).f0).length : Int) := of_decide_eq_true aB
                  obtain ⟨ad134, e134, hx134_0⟩ := Kd.at_int HR132_0.out x74_4 p134 q134
                  cases e134
                  replace hx134_0 := (HB.out.cell (World.block_lt_of_cell? w _ hx134_0)).trans hx134_0
                  replace p134 := eq_true p134
                  replace q134 := eq_true q134
                  go_wp2_with (first | (go_at_call 118; (with_reducible refine (spec_l15Amount.calls (rd ((rd_T140 l0_1 x66_3).f0) x74_4) false _ A45.out).mono ?_); rintro e w' ⟨rfl, ⟨nd, rfl⟩⟩; (try first | exact ⟨rfl, _, World.drewN_drewN _ _ _⟩ | exact ⟨rfl, _, Eq.trans (World.drewN_drewN _ _ _) (congrArg (World.drewN _) (Nat.add_assoc _ _ _))⟩)))
                  repeat (go_quiet (first | (go_at_call 118; (with_reducible refine (spec_l15Amount.calls (rd ((rd_T140 l0_1 x66_3).f0) x74_4) false _ A45.out).mono ?_); rintro e w' ⟨rfl, ⟨nd, rfl⟩⟩; (try first | exact ⟨rfl, _, World.drewN_drewN _ _ _⟩ | exact ⟨rfl, _, Eq.trans (World.drewN_drewN _ _ _) (congrArg (World.drewN _) (Nat.add_assoc _ _ _))⟩))); try go_wp2_with (first | (go_at_call 118; (with_reducible refine (spec_l15Amount.calls (rd ((rd_T140 l0_1 x66_3).f0) x74_4) false _ A45.out).mono ?_); rintro e w' ⟨rfl, ⟨nd, rfl⟩⟩; (try first | exact ⟨rfl, _, World.drewN_drewN _ _ _⟩ | exact ⟨rfl, _, Eq.trans (World.drewN_drewN _ _ _) (congrArg (World.drewN _) (Nat.add_assoc _ _ _))⟩))))
                  go_ret
                  exact ⟨by first | rfl | (simp [errW_none, errW_some] <;> rfl) | (simp [*, errW_none, errW_some] <;> rfl), by repeat (first | (with_reducible first | exact HB.out | apply xa | apply xn | apply xd | refine xt ?_ GE126.out | refine xt ?_ GE133.out) | exact HB.out)⟩
                ·rw [if_neg c44] at H
                 exact absurd H (by simp)
               ·rw [if_neg c43] at H
                exact absurd H (by simp)
              ·rw [if_neg c42] at H
               have c42b0 : decide (x74_4 < (((rd_T140 l0_1 x66_3).f0).length : Int)) = false := decide_eq_false c42
               clear c42
               have H' := xm H
               clear H
               have hnb47 := NB133_126.out
               have hnc47 := NB126_133.out
               obtain ⟨hcz48_0, hcz48_1, hcz48_2, hfz48_0, hfz48_1, hfz48_2⟩ := cz3 BK133.out
               go_wp2
               repeat (go_quiet (fail); try go_wp2)
               go_loopg [4, 88] k4 (fun kq v4 v88 w' => ∃ (x4_5 : Int) (x88_5 : Int), v4 = .int .i64 x4_5 ∧ v88 = .int .i64 x88_5 ∧ Aside0 (spec_GoodSnap.l3 kq (l0_0.length : Int) x4_5 x66_3 l0_1 (l0_1.length : Int) x66_3 ((rd_T140 l0_1 x66_3).f1) (((rd_T140 l0_1 x66_3).f1).length : Int) x88_5 l0_0 l0_1 ((rd_T140 l0_1 x66_3).f0) ((rd_T140 l0_1 x66_3).f1) ((rd_T140 l0_1 x66_3).f2) = some r) ∧ Aside0 (kq ≤ k4) ∧ Aside0 (w'.heap[gb126]? = some (.cells #[(.slice A0_0 l0_0.length c0_0), (.slice (some ad132) l0_1.length c0_1)] 85 (0, 0))) ∧ Aside0 (w'.heap[gb133]? = some (.cells #[(.slice A132_0 ((rd_T140 l0_1 x66_3).f0).length c132_0), (.slice A132_1 ((rd_T140 l0_1 x66_3).f1).length c132_1), .bool ((rd_T140 l0_1 x66_3).f2)] 140 (0, 0))) ∧ Aside0 (Below w.heap.size w w'))
               case atStart => exact ⟨(x4_4), (0), (by first | rfl | (simp; done) | (simp [*]; done)), (by first | rfl | (simp; done) | (simp [*]; done)), H', ⟨Nat.le_refl _⟩, ⟨by (with_reducible repeat (first | refine xq ?_ _ | refine xr ?_ | refine xo ?_ _)); exact BK126.out⟩, ⟨by (with_reducible repeat (first | refine xq ?_ _ | refine xr ?_ | refine xo ?_ _)); exact BK133.out⟩, ⟨by repeat (first | (with_reducible first | exact HB.out | apply xa | apply xn | apply xd | refine xt ?_ GE126.out | refine xt ?_ GE133.out) | exact HB.out)⟩⟩
               case round =>
                clear H'
                try clear c1
                try clear p1
                try clear q1
                try clear hx1
                try clear c2
                try clear p2
                try clear c3
                try clear c4
                try clear c5
                try clear c6
                try clear p6
                try clear c8
                try clear c10
                try clear c10b0
                try clear c11
                try clear c11b0
                try clear c12
                try clear c12b0
                try clear p12
                try clear q12
                try clear hx12
                try clear c13
                try clear p13
                try clear q13
                try clear hx13
                try clear c14
                try clear c16
                try clear q17
                try clear c18
                try clear c20
                try clear c22
                try clear c22b0
                try clear c22b1
                try clear c24
                try clear c27
                try clear c30
                try clear c33
                try clear c36
                try clear c36b0
                try clear c37
                try clear c37b0
                try clear c38
                try clear c38b0
                try clear c40
                try clear c42
                try clear c42b0
                try clear c43
                try clear c43b0
                try clear c44
                try clear c44b0
                try clear c46
                try clear c47
                try clear hcz21_0
                try clear hcz21_1
                try clear hcz21_2
                try clear hcz25_0
                try clear hcz25_1
                try clear hcz25_2
                try clear hcz28_0
                try clear hcz28_1
                try clear hcz28_2
                try clear hcz31_0
                try clear hcz31_1
                try clear hcz31_2
                try clear hcz34_0
                try clear hcz34_1
                try clear hcz34_2
                try clear hcz35_0
                try clear hcz35_1
                try clear hcz41_0
                try clear hcz41_1
                try clear hcz41_2
                try clear hcz48_0
                try clear hcz48_1
                try clear hcz48_2
                try clear hcz4_0
                try clear hcz4_1
                try clear hcz7_0
                try clear hcz7_1
                try clear hcz9_0
                try clear hcz9_1
                try clear hfz21_0
                try clear hfz21_1
                try clear hfz21_2
                try clear hfz25_0
                try clear hfz25_1
                try clear hfz25_2
                try clear hfz28_0
                try clear hfz28_1
                try clear hfz28_2
                try clear hfz31_0
                try clear hfz31_1
                try clear hfz31_2
                try clear hfz34_0
                try clear hfz34_1
                try clear hfz34_2
                try clear hfz35_0
                try clear hfz35_1
                try clear hfz41_0
                try clear hfz41_1
                try clear hfz41_2
                try clear hfz48_0
                try clear hfz48_1
                try clear hfz48_2
                try clear hfz4_0
                try clear hfz4_1
                try clear hfz7_0
                try clear hfz7_1
                try clear hfz9_0
                try clear hfz9_1
                try clear hx128_0
                try clear hx128_1
                try clear hx128_2
                try clear hx132_0
                try clear hx132_1
                try clear hx132_2
                try clear hx134_0
                try clear p1
                try clear p12
                try clear p128
                try clear p13
                try clear p132
                try clear p134
                try clear p2
                try clear p6
                try clear q1
                try clear q12
                try clear q128
                try clear q13
                try clear q132
                try clear q134
                try clear q17
                obtain ⟨x4_5, x88_5, rfl, rfl, HA, HK5, BK126, BK133, HB⟩ := hrel
                cases gk with
                | zero => exact absurd HA.out (by simp [spec_GoodSnap.l3])
                | succ k5 =>
                 have H := HA.out
                 clear HA
                 simp only [spec_GoodSnap.l3] at H
                 by_cases c49 : x88_5 < (((rd_T140 l0_1 x66_3).f1).length : Int)
                 ·rw [if_pos c49] at H
                  have c49b0 : decide (x88_5 < (((rd_T140 l0_1 x66_3).f1).length : Int)) = true := decide_eq_true c49
                  clear c49
                  by_cases c50 : 0 ≤ x88_5
                  ·rw [if_pos c50] at H
                   have c50b0 : decide (0 ≤ x88_5) = true := decide_eq_true c50
                   clear c50
                   by_cases c51 : x88_5 < (((rd_T140 l0_1 x66_3).f1).length : Int)
                   ·rw [if_pos c51] at H
                    have c51b0 : decide (x88_5 < (((rd_T140 l0_1 x66_3).f1).length : Int)) = true := decide_eq_true c51
                    clear c51
                    by_cases c52 : (rd ((rd_T140 l0_1 x66_3).f1) x88_5) = 0
                    ·rw [if_pos c52] at H
                     have c52b0 : ((rd ((rd_T140 l0_1 x66_3).f1) x88_5) == 0) = true := beq_iff_eq.mpr c52
                     have c52b1 : ((rd ((rd_T140 l0_1 x66_3).f1) x88_5) != 0) = false := bne_eq_false_iff_eq.mpr c52
                     clear c52
                     obtain rfl := Option.some.inj H
                     have p136 : 0 ≤ (x88_5 : Int) := of_decide_eq_true aB
                     have q136 : x88_5 < (((rd_T140 l0_1 x66_3).f1).length : Int) := of_decide_eq_true aB
                     obtain ⟨ad136, e136, hx136_0⟩ := Kd.at_int HR132_1.out x88_5 p136 q136
                     cases e136
                     replace hx136_0 := (HB.out.cell (World.block_lt_of_cell? w _ hx136_0)).trans hx136_0
                     replace p136 := eq_true p136
                     replace q136 := eq_true q136
                     go_wp2
                     repeat (go_quiet (fail); try go_wp2)
                     go_ret
                     exact ⟨by first | rfl | (simp [errW_none, errW_some] <;> rfl) | (simp [*, errW_none, errW_some] <;> rfl), by repeat (first | (with_reducible first | exact HB.out | apply xa | apply xn | apply xd | refine xt ?_ GE126.out | refine xt ?_ GE133.out) | exact HB.out)⟩
                    ·rw [if_neg c52] at H
                     have c52b0 : ((rd ((rd_T140 l0_1 x66_3).f1) x88_5) == 0) = false := beq_eq_false_iff_ne.mpr c52
                     have c52b1 : ((rd ((rd_T140 l0_1 x66_3).f1) x88_5) != 0) = true := bne_iff_ne.mpr c52
                     replace H := Option.bind_eq_some_iff.mp H
                     obtain ⟨t137, A530, H⟩ := H
                     replace H : (if t137 = true then (spec_GoodSnap.l3 k5 (l0_0.length : Int) (wrap64 (x4_5 + (rd ((rd_T140 l0_1 x66_3).f1) x88_5))) x66_3 l0_1 (l0_1.length : Int) x66_3 ((rd_T140 l0_1 x66_3).f1) (((rd_T140 l0_1 x66_3).f1).length : Int) (wrap64 (x88_5 + 1)) l0_0 l0_1 ((rd_T140 l0_1 x66_3).f0) ((rd_T140 l0_1 x66_3).f1) ((rd_T140 l0_1 x66_3).f2)) else (some false)) = some r := H
                     have A53 := xm A530
                     clear A530
                     by_cases c54 : t137 = true
                     ·subst c54
                      have H1 : (spec_GoodSnap.l3 k5 (l0_0.length : Int) (wrap64 (x4_5 + (rd ((rd_T140 l0_1 x66_3).f1) x88_5))) x66_3 l0_1 (l0_1.length : Int) x66_3 ((rd_T140 l0_1 x66_3).f1) (((rd_T140 l0_1 x66_3).f1).length : Int) (wrap64 (x88_5 + 1)) l0_0 l0_1 ((rd_T140 l0_1 x66_3).f0) ((rd_T140 l0_1 x66_3).f1) ((rd_T140 l0_1 x66_3).f2)) = some r := by first | (with_reducible rfl) | (rw [if_pos rfl] at H; exact H)
                      clear H
                      have H := H1
                      clear H1
                      have H' := xm H
                      clear H
                      have p136 : 0 ≤ (x88_5 : Int) := of_decide_eq_true aB
                      have q136 : x88_5 < (((rd_T140 l0_1 x66_3).f1).length : Int) := of_decide_eq_true aB
                      obtain ⟨ad136, e136, hx136_0⟩ := Kd.at_int HR132_1.out x88_5 p136 q136
                      cases e136
                      replace hx136_0 := (HB.out.cell (World.block_lt_of_cell? w _ hx136_0)).trans hx136_0
                      replace p136 := eq_true p136
                      replace q136 := eq_true q136
                      go_wp2_with (first | (go_at_call 118; (with_reducible refine (spec_l15Amount.calls (rd ((rd_T140 l0_1 x66_3).f1) x88_5) true _ A53.out).mono ?_); rintro e w' ⟨rfl, ⟨nd, rfl⟩⟩; (try first | exact ⟨rfl, _, World.drewN_drewN _ _ _⟩ | exact ⟨rfl, _, Eq.trans (World.drewN_drewN _ _ _) (congrArg (World.drewN _) (Nat.add_assoc _ _ _))⟩)))
                      repeat (go_quiet (first | (go_at_call 118; (with_reducible refine (spec_l15Amount.calls (rd ((rd_T140 l0_1 x66_3).f1) x88_5) true _ A53.out).mono ?_); rintro e w' ⟨rfl, ⟨nd, rfl⟩⟩; (try first | exact ⟨rfl, _, World.drewN_drewN _ _ _⟩ | exact ⟨rfl, _, Eq.trans (World.drewN_drewN _ _ _) (congrArg (World.drewN _) (Nat.add_assoc _ _ _))⟩))); try go_wp2_with (first | (go_at_call 118; (with_reducible refine (spec_l15Amount.calls (rd ((rd_T140 l0_1 x66_3).f1) x88_5) true _ A53.out).mono ?_); rintro e w' ⟨rfl, ⟨nd, rfl⟩⟩; (try first | exact ⟨rfl, _, World.drewN_drewN _ _ _⟩ | exact ⟨rfl, _, Eq.trans (World.drewN_drewN _ _ _) (congrArg (World.drewN _) (Nat.add_assoc _ _ _))⟩))))
                      go_roundg k5
                      case measure => have := HJ1.out; have := HK2.out; have := HK3.out; have := HK4.out; have := HK5.out; omega
                      case rel => exact ⟨(wrap64 (x4_5 + (rd ((rd_T140 l0_1 x66_3).f1) x88_5))), (wrap64 (x88_5 + 1)), (by first | rfl | (simp; done) | (simp [*]; done)), (by first | rfl | (simp; done) | (simp [*]; done)), H', ⟨by have := HJ1.out; have := HK2.out; have := HK3.out; have := HK4.out; have := HK5.out; omega⟩, ⟨by (with_reducible repeat (first | refine xq ?_ _ | refine xr ?_ | refine xo ?_ _)); exact BK126.out⟩, ⟨by (with_reducible repeat (first | refine xq ?_ _ | refine xr ?_ | refine xo ?_ _)); exact BK133.out⟩, ⟨by repeat (first | (with_reducible first | exact HB.out | apply xa | apply xn | apply xd | refine xt ?_ GE126.out | refine xt ?_ GE133.out) | exact HB.out)⟩⟩
                     ·replace c54 := Bool.eq_false_iff.mpr c54
                      subst c54
                      have H1 : (some false) = some r := by first | (with_reducible rfl) | (rw [if_neg (show ¬ (false = true) by decide)] at H; exact H)
                      clear H
                      have H := H1
                      clear H1
                      obtain rfl := Option.some.inj H
                      have p136 : 0 ≤ (x88_5 : Int) := of_decide_eq_true aB
                      have q136 : x88_5 < (((rd_T140 l0_1 x66_3).f1).length : Int) := of_decide_eq_true aB
                      obtain ⟨ad136, e136, hx136_0⟩ := Kd.at_int HR132_1.out x88_5 p136 q136
                      cases e136
                      replace hx136_0 := (HB.out.cell (World.block_lt_of_cell? w _ hx136_0)).trans hx136_0
                      replace p136 := eq_true p136
                      replace q136 := eq_true q136
                      go_wp2_with (first | (go_at_call 118; (with_reducible refine (spec_l15Amount.calls (rd ((rd_T140 l0_1 x66_3).f1) x88_5) false _ A53.out).mono ?_); rintro e w' ⟨rfl, ⟨nd, rfl⟩⟩; (try first | exact ⟨rfl, _, World.drewN_drewN _ _ _⟩ | exact ⟨rfl, _, Eq.trans (World.drewN_drewN _ _ _) (congrArg (World.drewN _) (Nat.add_assoc _ _ _))⟩)))
                      repeat (go_quiet (first | (go_at_call 118; (with_reducible refine (spec_l15Amount.calls (rd ((rd_T140 l0_1 x66_3).f1) x88_5) false _ A53.out).mono ?_); rintro e w' ⟨rfl, ⟨nd, rfl⟩⟩; (try first | exact ⟨rfl, _, World.drewN_drewN _ _ _⟩ | exact ⟨rfl, _, Eq.trans (World.drewN_drewN _ _ _) (congrArg (World.drewN _) (Nat.add_assoc _ _ _))⟩))); try go_wp2_with (first | (go_at_call 118; (with_reducible refine (spec_l15Amount.calls (rd ((rd_T140 l0_1 x66_3).f1) x88_5) false _ A53.out).mono ?_); rintro e w' ⟨rfl, ⟨nd, rfl⟩⟩; (try first | exact ⟨rfl, _, World.drewN_drewN _ _ _⟩ | exact ⟨rfl, _, Eq.trans (World.drewN_drewN _ _ _) (congrArg (World.drewN _) (Nat.add_assoc _ _ _))⟩))))
                      go_ret
                      exact ⟨by first | rfl | (simp [errW_none, errW_some] <;> rfl) | (simp [*, errW_none, errW_some] <;> rfl), by repeat (first | (with_reducible first | exact HB.out | apply xa | apply xn | apply xd | refine xt ?_ GE126.out | refine xt ?_ GE133.out) | exact HB.out)⟩
                   ·rw [if_neg c51] at H
                    exact absurd H (by simp)
                  ·rw [if_neg c50] at H
                   exact absurd H (by simp)
                 ·rw [if_neg c49] at H
                  have c49b0 : decide (x88_5 < (((rd_T140 l0_1 x66_3).f1).length : Int)) = false := decide_eq_false c49
                  clear c49
                  by_cases c55 : (((rd_T140 l0_1 x66_3).f0).length : Int) > 12
                  ·rw [if_pos c55] at H
                   have c55b0 : decide (12 < (((rd_T140 l0_1 x66_3).f0).length : Int)) = true := decide_eq_true c55
                   have c55b1 : decide (12 < ((rd_T140 l0_1 x66_3).f0).length) = true := decide_eq_true (by omega)
                   clear c55
                   obtain rfl := Option.some.inj H
                   have hnb56 := NB133_126.out
                   have hnc56 := NB126_133.out
                   obtain ⟨hcz57_0, hcz57_1, hcz57_2, hfz57_0, hfz57_1, hfz57_2⟩ := cz3 BK133.out
                   go_wp2
                   repeat (go_quiet (fail); try go_wp2)
                   go_ret
                   exact ⟨by first | rfl | (simp [errW_none, errW_some] <;> rfl) | (simp [*, errW_none, errW_some] <;> rfl), by repeat (first | (with_reducible first | exact HB.out | apply xa | apply xn | apply xd | refine xt ?_ GE126.out | refine xt ?_ GE133.out) | exact HB.out)⟩
                  ·rw [if_neg c55] at H
                   have c55b0 : decide (12 < (((rd_T140 l0_1 x66_3).f0).length : Int)) = false := decide_eq_false c55
                   have c55b1 : decide (12 < ((rd_T140 l0_1 x66_3).f0).length) = false := decide_eq_false (by omega)
                   clear c55
                   by_cases c58 : (((rd_T140 l0_1 x66_3).f1).length : Int) > 200
                   ·rw [if_pos c58] at H
                    have c58b0 : decide (200 < (((rd_T140 l0_1 x66_3).f1).length : Int)) = true := decide_eq_true c58
                    have c58b1 : decide (200 < ((rd_T140 l0_1 x66_3).f1).length) = true := decide_eq_true (by omega)
                    clear c58
                    obtain rfl := Option.some.inj H
                    have hnb59 := NB133_126.out
                    have hnc59 := NB126_133.out
                    obtain ⟨hcz60_0, hcz60_1, hcz60_2, hfz60_0, hfz60_1, hfz60_2⟩ := cz3 BK133.out
                    go_wp2
                    repeat (go_quiet (fail); try go_wp2)
                    go_ret
                    exact ⟨by first | rfl | (simp [errW_none, errW_some] <;> rfl) | (simp [*, errW_none, errW_some] <;> rfl), by repeat (first | (with_reducible first | exact HB.out | apply xa | apply xn | apply xd | refine xt ?_ GE126.out | refine xt ?_ GE133.out) | exact HB.out)⟩
                   ·rw [if_neg c58] at H
                    have c58b0 : decide (200 < (((rd_T140 l0_1 x66_3).f1).length : Int)) = false := decide_eq_false c58
                    have c58b1 : decide (200 < ((rd_T140 l0_1 x66_3).f1).length) = false := decide_eq_false (by omega)
                    clear c58
                    by_cases c61 : (l0_0.length : Int) = 0
                    ·rw [if_pos c61] at H
                     exact absurd H (by simp)
                    ·rw [if_neg c61] at H
                     have c61b0 : ((l0_0.length : Int) == 0) = false := beq_eq_false_iff_ne.mpr c61
                     have c61b1 : ((l0_0.length : Int) != 0) = true := bne_iff_ne.mpr c61
                     have c61b2 : ¬ (l0_0 = []) := fun h_ => c61 (by rw [h_]; rfl)
                     by_cases c62 : (wrap64 (Int.tdiv x66_3 (l0_0.length : Int))) = (Int.tmod x66_3 (l0_0.length : Int))
                     ·rw [if_pos c62] at H
                      have c62b0 : ((wrap64 (Int.tdiv x66_3 (l0_0.length : Int))) == (Int.tmod x66_3 (l0_0.length : Int))) = true := beq_iff_eq.mpr c62
                      have c62b1 : ((wrap64 (Int.tdiv x66_3 (l0_0.length : Int))) != (Int.tmod x66_3 (l0_0.length : Int))) = false := bne_eq_false_iff_eq.mpr c62
                      clear c62
                      by_cases c63 : (((rd_T140 l0_1 x66_3).f0).length : Int) > 0
                      ·rw [if_pos c63] at H
                       have c63b0 : decide (0 < (((rd_T140 l0_1 x66_3).f0).length : Int)) = true := decide_eq_true c63
                       have c63b1 : decide (0 < ((rd_T140 l0_1 x66_3).f0).length) = true := decide_eq_true (by omega)
                       clear c63
                       obtain rfl := Option.some.inj H
                       have hnb64 := NB133_126.out
                       have hnc64 := NB126_133.out
                       obtain ⟨hcz65_0, hcz65_1, hcz65_2, hfz65_0, hfz65_1, hfz65_2⟩ := cz3 BK133.out
                       go_wp2
                       repeat (go_quiet (fail); try go_wp2)
                       go_ret
                       exact ⟨by first | rfl | (simp [errW_none, errW_some] <;> rfl) | (simp [*, errW_none, errW_some] <;> rfl), by repeat (first | (with_reducible first | exact HB.out | apply xa | apply xn | apply xd | refine xt ?_ GE126.out | refine xt ?_ GE133.out) | exact HB.out)⟩
                      ·rw [if_neg c63] at H
                       have c63b0 : decide (0 < (((rd_T140 l0_1 x66_3).f0).length : Int)) = false := decide_eq_false c63
                       have c63b1 : decide (0 < ((rd_T140 l0_1 x66_3).f0).length) = false := decide_eq_false (by omega)
                       clear c63
                       by_cases c66 : (((rd_T140 l0_1 x66_3).f1).length : Int) > 0
                       ·rw [if_pos c66] at H
                        have c66b0 : decide (0 < (((rd_T140 l0_1 x66_3).f1).length : Int)) = true := decide_eq_true c66
                        have c66b1 : decide (0 < ((rd_T140 l0_1 x66_3).f1).length) = true := decide_eq_true (by omega)
                        clear c66
                        obtain rfl := Option.some.inj H
                        have hnb67 := NB133_126.out
                        have hnc67 := NB126_133.out
                        obtain ⟨hcz68_0, hcz68_1, hcz68_2, hfz68_0, hfz68_1, hfz68_2⟩ := cz3 BK133.out
                        go_wp2
                        repeat (go_quiet (fail); try go_wp2)
                        go_ret
                        exact ⟨by first | rfl | (simp [errW_none, errW_some] <;> rfl) | (simp [*, errW_none, errW_some] <;> rfl), by repeat (first | (with_reducible first | exact HB.out | apply xa | apply xn | apply xd | refine xt ?_ GE126.out | refine xt ?_ GE133.out) | exact HB.out)⟩
                       ·rw [if_neg c66] at H
                        have c66b0 : decide (0 < (((rd_T140 l0_1 x66_3).f1).length : Int)) = false := decide_eq_false c66
                        have c66b1 : decide (0 < ((rd_T140 l0_1 x66_3).f1).length) = false := decide_eq_false (by omega)
                        clear c66
                        by_cases c69 : ((rd_T140 l0_1 x66_3).f2) = true
                        ·rw [if_pos c69] at H
                         have c69b0 : ((rd_T140 l0_1 x66_3).f2) = true := c69
                         clear c69
                         obtain rfl := Option.some.inj H
                         have hnb70 := NB133_126.out
                         have hnc70 := NB126_133.out
                         obtain ⟨hcz71_0, hcz71_1, hcz71_2, hfz71_0, hfz71_1, hfz71_2⟩ := cz3 BK133.out
                         go_wp2
                         repeat (go_quiet (fail); try go_wp2)
                         go_ret
                         exact ⟨by first | rfl | (simp [errW_none, errW_some] <;> rfl) | (simp [*, errW_none, errW_some] <;> rfl), by repeat (first | (with_reducible first | exact HB.out | apply xa | apply xn | apply xd | refine xt ?_ GE126.out | refine xt ?_ GE133.out) | exact HB.out)⟩
                        ·rw [if_neg c69] at H
                         have c69b0 : ((rd_T140 l0_1 x66_3).f2) = false := by simpa using c69
                         clear c69
                         obtain ⟨ji72, hji72⟩ : ∃ j_ : Int, (Int.tmod x66_3 (l0_0.length : Int)) = j_ := ⟨_, rfl⟩
                         replace H : (if 0 ≤ (ji72) then (if (ji72) < (l0_0.length : Int) then (if ((rd_T138 l0_0 (ji72)).f2 = true) then (spec_GoodSnap.l1 k5 (l0_0.length : Int) x4_5 l0_1 (l0_1.length : Int) (wrap64 (x66_3 + 1)) l0_0 l0_1) else (spec_GoodSnap.l1 k5 (l0_0.length : Int) x4_5 l0_1 (l0_1.length : Int) (wrap64 (x66_3 + 1)) l0_0 l0_1)) else (none)) else (none)) = some r := by first | (rw [hji72] at H; exact H) | (simp only [hji72] at H ⊢; exact H)
                         (try rw [hji72] at c62b0)
                         (try rw [hji72] at c62b1)
                         by_cases c73 : 0 ≤ (ji72)
                         ·rw [if_pos c73] at H
                          have c73b0 : decide (0 ≤ (ji72)) = true := decide_eq_true c73
                          clear c73
                          by_cases c74 : (ji72) < (l0_0.length : Int)
                          ·rw [if_pos c74] at H
                           have c74b0 : decide ((ji72) < (l0_0.length : Int)) = true := decide_eq_true c74
                           clear c74
                           obtain ⟨bq75, hbq75⟩ : ∃ b_ : Bool, b_ = ((rd_T138 l0_0 (ji72)).f2) := ⟨_, rfl⟩
                           replace H : (if (bq75 = true) then (spec_GoodSnap.l1 k5 (l0_0.length : Int) x4_5 l0_1 (l0_1.length : Int) (wrap64 (x66_3 + 1)) l0_0 l0_1) else (spec_GoodSnap.l1 k5 (l0_0.length : Int) x4_5 l0_1 (l0_1.length : Int) (wrap64 (x66_3 + 1)) l0_0 l0_1)) = some r := by rw [← hbq75] at H; exact H
                           have Nbq75 := xm hbq75
                           clear hbq75
                           by_cases c76 : (bq75 = true)
                           ·subst c76
                            have H1 : (spec_GoodSnap.l1 k5 (l0_0.length : Int) x4_5 l0_1 (l0_1.length : Int) (wrap64 (x66_3 + 1)) l0_0 l0_1) = some r := by first | (with_reducible rfl) | (rw [if_pos rfl] at H; exact H)
                            clear H
                            have H := H1
                            clear H1
                            have H' := xm H
                            clear H
                            have hnb77 := NB133_126.out
                            have hnc77 := NB126_133.out
                            obtain ⟨hcz78_0, hcz78_1, hcz78_2, hfz78_0, hfz78_1, hfz78_2⟩ := cz3 BK133.out
                            obtain ⟨hcz79_0, hcz79_1, hfz79_0, hfz79_1⟩ := cz2 BK126.out
                            have p138 : 0 ≤ ((ji72) : Int) := of_decide_eq_true aB
                            have q138 : (ji72) < (l0_0.length : Int) := of_decide_eq_true aB
                            obtain ⟨ad138, e138, hx138_0, hx138_1, hx138_2⟩ := at_T138 HR0_0.out (ji72) p138 q138
                            (try rw [← Nbq75.out] at hx138_2)
                            cases e138
                            replace hx138_0 := (HB.out.cell (World.block_lt_of_cell? w _ hx138_0)).trans hx138_0
                            replace hx138_1 := (HB.out.cell (World.block_lt_of_cell? w _ hx138_1)).trans hx138_1
                            replace hx138_2 := (HB.out.cell (World.block_lt_of_cell? w _ hx138_2)).trans hx138_2
                            replace p138 := eq_true p138
                            replace q138 := eq_true q138
                            go_wp2
                            repeat (go_quiet (fail); try go_wp2)
                            go_roundg k5
                            case measure => have := HJ1.out; have := HK2.out; have := HK3.out; have := HK4.out; have := HK5.out; omega
                            case rel => (try rw [← Nbq75.out]); exact ⟨(x4_5), (wrap64 (x66_3 + 1)), (by first | rfl | (simp; done) | (simp [*]; done)), (by first | rfl | (simp; done) | (simp [*]; done)), H', ⟨by have := HJ1.out; have := HK2.out; have := HK3.out; have := HK4.out; have := HK5.out; omega⟩, ⟨by (with_reducible repeat (first | refine xq ?_ _ | refine xr ?_ | refine xo ?_ _)); exact BK126.out⟩, ⟨by repeat (first | (with_reducible first | exact HB.out | apply xa | apply xn | apply xd | refine xt ?_ GE126.out | refine xt ?_ GE133.out) | exact HB.out)⟩⟩
                           ·replace c76 := Bool.eq_false_iff.mpr c76
                            subst c76
                            have H1 : (spec_GoodSnap.l1 k5 (l0_0.length : Int) x4_5 l0_1 (l0_1.length : Int) (wrap64 (x66_3 + 1)) l0_0 l0_1) = some r := by first | (with_reducible rfl) | (rw [if_neg (show ¬ (false = true) by decide)] at H; exact H)
                            clear H
                            have H := H1
                            clear H1
                            have H' := xm H
                            clear H
                            have hnb80 := NB133_126.out
                            have hnc80 := NB126_133.out
                            obtain ⟨hcz81_0, hcz81_1, hcz81_2, hfz81_0, hfz81_1, hfz81_2⟩ := cz3 BK133.out
                            obtain ⟨hcz82_0, hcz82_1, hfz82_0, hfz82_1⟩ := cz2 BK126.out
                            have p138 : 0 ≤ ((ji72) : Int) := of_decide_eq_true aB
                            have q138 : (ji72) < (l0_0.length : Int) := of_decide_eq_true aB
                            obtain ⟨ad138, e138, hx138_0, hx138_1, hx138_2⟩ := at_T138 HR0_0.out (ji72) p138 q138
                            (try rw [← Nbq75.out] at hx138_2)
                            cases e138
                            replace hx138_0 := (HB.out.cell (World.block_lt_of_cell? w _ hx138_0)).trans hx138_0
                            replace hx138_1 := (HB.out.cell (World.block_lt_of_cell? w _ hx138_1)).trans hx138_1
                            replace hx138_2 := (HB.out.cell (World.block_lt_of_cell? w _ hx138_2)).trans hx138_2
                            replace p138 := eq_true p138
                            replace q138 := eq_true q138
                            go_wp2
                            repeat (go_quiet (fail); try go_wp2)
                            go_roundg k5
                            case measure => have := HJ1.out; have := HK2.out; have := HK3.out; have := HK4.out; have := HK5.out; omega
                            case rel => (try rw [← Nbq75.out]); exact ⟨(x4_5), (wrap64 (x66_3 + 1)), (by first | rfl | (simp; done) | (simp [*]; done)), (by first | rfl | (simp; done) | (simp [*]; done)), H', ⟨by have := HJ1.out; have := HK2.out; have := HK3.out; have := HK4.out; have := HK5.out; omega⟩, ⟨by (with_reducible repeat (first | refine xq ?_ _ | refine xr ?_ | refine xo ?_ _)); exact BK126.out⟩, ⟨by repeat (first | (with_reducible first | exact HB.out | apply xa | apply xn | apply xd | refine xt ?_ GE126.out | refine xt ?_ GE133.out) | exact HB.out)⟩⟩
                          ·rw [if_neg c74] at H
                           exact absurd H (by simp)
                         ·rw [if_neg c73] at H
                          exact absurd H (by simp)
                     ·rw [if_neg c62] at H
                      have c62b0 : ((wrap64 (Int.tdiv x66_3 (l0_0.length : Int))) == (Int.tmod x66_3 (l0_0.length : Int))) = false := beq_eq_false_iff_ne.mpr c62
                      have c62b1 : ((wrap64 (Int.tdiv x66_3 (l0_0.length : Int))) != (Int.tmod x66_3 (l0_0.length : Int))) = true := bne_iff_ne.mpr c62
                      obtain ⟨ji83, hji83⟩ : ∃ j_ : Int, (Int.tmod x66_3 (l0_0.length : Int)) = j_ := ⟨_, rfl⟩
                      replace H : (if 0 ≤ (ji83) then (if (ji83) < (l0_0.length : Int) then (if ((rd_T138 l0_0 (ji83)).f2 = true) then (spec_GoodSnap.l1 k5 (l0_0.length : Int) x4_5 l0_1 (l0_1.length : Int) (wrap64 (x66_3 + 1)) l0_0 l0_1) else (if ((rd_T140 l0_1 x66_3).f2) = true then (some false) else (if (((rd_T140 l0_1 x66_3).f1).length : Int) > 0 then (some false) else (spec_GoodSnap.l1 k5 (l0_0.length : Int) x4_5 l0_1 (l0_1.length : Int) (wrap64 (x66_3 + 1)) l0_0 l0_1)))) else (none)) else (none)) = some r := by first | (rw [hji83] at H; exact H) | (simp only [hji83] at H ⊢; exact H)
                      (try rw [hji83] at c62b0)
                      (try rw [hji83] at c62b1)
                      by_cases c84 : 0 ≤ (ji83)
                      ·rw [if_pos c84] at H
                       have c84b0 : decide (0 ≤ (ji83)) = true := decide_eq_true c84
                       clear c84
                       by_cases c85 : (ji83) < (l0_0.length : Int)
                       ·rw [if_pos c85] at H
                        have c85b0 : decide ((ji83) < (l0_0.length : Int)) = true := decide_eq_true c85
                        clear c85
                        obtain ⟨bq86, hbq86⟩ : ∃ b_ : Bool, b_ = ((rd_T138 l0_0 (ji83)).f2) := ⟨_, rfl⟩
                        replace H : (if (bq86 = true) then (spec_GoodSnap.l1 k5 (l0_0.length : Int) x4_5 l0_1 (l0_1.length : Int) (wrap64 (x66_3 + 1)) l0_0 l0_1) else (if ((rd_T140 l0_1 x66_3).f2) = true then (some false) else (if (((rd_T140 l0_1 x66_3).f1).length : Int) > 0 then (some false) else (spec_GoodSnap.l1 k5 (l0_0.length : Int) x4_5 l0_1 (l0_1.length : Int) (wrap64 (x66_3 + 1)) l0_0 l0_1)))) = some r := by rw [← hbq86] at H; exact H
                        have Nbq86 := xm hbq86
                        clear hbq86
                        by_cases c87 : (bq86 = true)
                        ·subst c87
                         have H1 : (spec_GoodSnap.l1 k5 (l0_0.length : Int) x4_5 l0_1 (l0_1.length : Int) (wrap64 (x66_3 + 1)) l0_0 l0_1) = some r := by first | (with_reducible rfl) | (rw [if_pos rfl] at H; exact H)
                         clear H
                         have H := H1
                         clear H1
                         have H' := xm H
                         clear H
                         have hnb88 := NB133_126.out
                         have hnc88 := NB126_133.out
                         obtain ⟨hcz89_0, hcz89_1, hcz89_2, hfz89_0, hfz89_1, hfz89_2⟩ := cz3 BK133.out
                         obtain ⟨hcz90_0, hcz90_1, hfz90_0, hfz90_1⟩ := cz2 BK126.out
                         have p139 : 0 ≤ ((ji83) : Int) := of_decide_eq_true aB
                         have q139 : (ji83) < (l0_0.length : Int) := of_decide_eq_true aB
                         obtain ⟨ad139, e139, hx139_0, hx139_1, hx139_2⟩ := at_T138 HR0_0.out (ji83) p139 q139
                         (try rw [← Nbq86.out] at hx139_2)
                         cases e139
                         replace hx139_0 := (HB.out.cell (World.block_lt_of_cell? w _ hx139_0)).trans hx139_0
                         replace hx139_1 := (HB.out.cell (World.block_lt_of_cell? w _ hx139_1)).trans hx139_1
                         replace hx139_2 := (HB.out.cell (World.block_lt_of_cell? w _ hx139_2)).trans hx139_2
                         replace p139 := eq_true p139
                         replace q139 := eq_true q139
                         go_wp2
                         repeat (go_quiet (fail); try go_wp2)
                         go_roundg k5
                         case measure => have := HJ1.out; have := HK2.out; have := HK3.out; have := HK4.out; have := HK5.out; omega
                         case rel => (try rw [← Nbq86.out]); exact ⟨(x4_5), (wrap64 (x66_3 + 1)), (by first | rfl | (simp; done) | (simp [*]; done)), (by first | rfl | (simp; done) | (simp [*]; done)), H', ⟨by have := HJ1.out; have := HK2.out; have := HK3.out; have := HK4.out; have := HK5.out; omega⟩, ⟨by (with_reducible repeat (first | refine xq ?_ _ | refine xr ?_ | refine xo ?_ _)); exact BK126.out⟩, ⟨by repeat (first | (with_reducible first | exact HB.out | apply xa | apply xn | apply xd | refine xt ?_ GE126.out | refine xt ?_ GE133.out) | exact HB.out)⟩⟩
                        ·replace c87 := Bool.eq_false_iff.mpr c87
                         subst c87
                         have H1 : (if ((rd_T140 l0_1 x66_3).f2) = true then (some false) else (if (((rd_T140 l0_1 x66_3).f1).length : Int) > 0 then (some false) else (spec_GoodSnap.l1 k5 (l0_0.length : Int) x4_5 l0_1 (l0_1.length : Int) (wrap64 (x66_3 + 1)) l0_0 l0_1))) = some r := by first | (with_reducible rfl) | (rw [if_neg (show ¬ (false = true) by decide)] at H; exact H)
                         clear H
                         have H := H1
                         clear H1
                         by_cases c91 : ((rd_T140 l0_1 x66_3).f2) = true
                         ·rw [if_pos c91] at H
                          have c91b0 : ((rd_T140 l0_1 x66_3).f2) = true := c91
                          clear c91
                          obtain rfl := Option.some.inj H
                          have hnb92 := NB133_126.out
                          have hnc92 := NB126_133.out
                          obtain ⟨hcz93_0, hcz93_1, hcz93_2, hfz93_0, hfz93_1, hfz93_2⟩ := cz3 BK133.out
                          obtain ⟨hcz94_0, hcz94_1, hfz94_0, hfz94_1⟩ := cz2 BK126.out
                          have p139 : 0 ≤ ((ji83) : Int) := of_decide_eq_true aB
                          have q139 : (ji83) < (l0_0.length : Int) := of_decide_eq_true aB
                          obtain ⟨ad139, e139, hx139_0, hx139_1, hx139_2⟩ := at_T138 HR0_0.out (ji83) p139 q139
                          (try rw [← Nbq86.out] at hx139_2)
                          cases e139
                          replace hx139_0 := (HB.out.cell (World.block_lt_of_cell? w _ hx139_0)).trans hx139_0
                          replace hx139_1 := (HB.out.cell (World.block_lt_of_cell? w _ hx139_1)).trans hx139_1
                          replace hx139_2 := (HB.out.cell (World.block_lt_of_cell? w _ hx139_2)).trans hx139_2
                          replace p139 := eq_true p139
                          replace q139 := eq_true q139
                          go_wp2
                          repeat (go_quiet (fail); try go_wp2)
                          go_ret
                          exact ⟨by first | rfl | (simp [errW_none, errW_some] <;> rfl) | (simp only [← hji83]; first | rfl | (simp [errW_none, errW_some] <;> rfl)) | (simp [*, errW_none, errW_some] <;> rfl), by repeat (first | (with_reducible first | exact HB.out | apply xa | apply xn | apply xd | refine xt ?_ GE126.out | refine xt ?_ GE133.out) | exact HB.out)⟩
                         ·rw [if_neg c91] at H
                          have c91b0 : ((rd_T140 l0_1 x66_3).f2) = false := by simpa using c91
                          clear c91
                          by_cases c95 : (((rd_T140 l0_1 x66_3).f1).length : Int) > 0
                          ·rw [if_pos c95] at H
                           have c95b0 : decide (0 < (((rd_T140 l0_1 x66_3).f1).length : Int)) = true := decide_eq_true c95
                           have c95b1 : decide (0 < ((rd_T140 l0_1 x66_3).f1).length) = true := decide_eq_true (by omega)
                           clear c95
                           obtain rfl := Option.some.inj H
                           have hnb96 := NB133_126.out
                           have hnc96 := NB126_133.out
                           obtain ⟨hcz97_0, hcz97_1, hcz97_2, hfz97_0, hfz97_1, hfz97_2⟩ := cz3 BK133.out
                           obtain ⟨hcz98_0, hcz98_1, hfz98_0, hfz98_1⟩ := cz2 BK126.out
                           have p139 : 0 ≤ ((ji83) : Int) := of_decide_eq_true aB
                           have q139 : (ji83) < (l0_0.length : Int) := of_decide_eq_true aB
                           obtain ⟨ad139, e139, hx139_0, hx139_1, hx139_2⟩ := at_T138 HR0_0.out (ji83) p139 q139
                           (try rw [← Nbq86.out] at hx139_2)
                           cases e139
                           replace hx139_0 := (HB.out.cell (World.block_lt_of_cell? w _ hx139_0)).trans hx139_0
                           replace hx139_1 := (HB.out.cell (World.block_lt_of_cell? w _ hx139_1)).trans hx139_1
                           replace hx139_2 := (HB.out.cell (World.block_lt_of_cell? w _ hx139_2)).trans hx139_2
                           replace p139 := eq_true p139
                           replace q139 := eq_true q139
                           go_wp2
                           repeat (go_quiet (fail); try go_wp2)
                           go_ret
                           exact ⟨by first | rfl | (simp [errW_none, errW_some] <;> rfl) | (simp only [← hji83]; first | rfl | (simp [errW_none, errW_some] <;> rfl)) | (simp [*, errW_none, errW_some] <;> rfl), by repeat (first | (with_reducible first | exact HB.out | apply xa | apply xn | apply xd | refine xt ?_ GE126.out | refine xt ?_ GE133.out) | exact HB.out)⟩
                          ·rw [if_neg c95] at H
                           have c95b0 : decide (0 < (((rd_T140 l0_1 x66_3).f1).length : Int)) = false := decide_eq_false c95
                           have c95b1 : decide (0 < ((rd_T140 l0_1 x66_3).f1).length) = false := decide_eq_false (by omega)
                           clear c95
                           have H' := xm H
                           clear H
                           have hnb99 := NB133_126.out
                           have hnc99 := NB126_133.out
                           obtain ⟨hcz100_0, hcz100_1, hcz100_2, hfz100_0, hfz100_1, hfz100_2⟩ := cz3 BK133.out
                           obtain ⟨hcz101_0, hcz101_1, hfz101_0, hfz101_1⟩ := cz2 BK126.out
                           have p139 : 0 ≤ ((ji83) : Int) := of_decide_eq_true aB
                           have q139 : (ji83) < (l0_0.length : Int) := of_decide_eq_true aB
                           obtain ⟨ad139, e139, hx139_0, hx139_1, hx139_2⟩ := at_T138 HR0_0.out (ji83) p139 q139
                           (try rw [← Nbq86.out] at hx139_2)
                           cases e139
                           replace hx139_0 := (HB.out.cell (World.block_lt_of_cell? w _ hx139_0)).trans hx139_0
                           replace hx139_1 := (HB.out.cell (World.block_lt_of_cell? w _ hx139_1)).trans hx139_1
                           replace hx139_2 := (HB.out.cell (World.block_lt_of_cell? w _ hx139_2)).trans hx139_2
                           replace p139 := eq_true p139
                           replace q139 := eq_true q139
                           go_wp2
                           repeat (go_quiet (fail); try go_wp2)
                           go_roundg k5
                           case measure => have := HJ1.out; have := HK2.out; have := HK3.out; have := HK4.out; have := HK5.out; omega
                           case rel => (try rw [← Nbq86.out]); exact ⟨(x4_5), (wrap64 (x66_3 + 1)), (by first | rfl | (simp; done) | (simp [*]; done)), (by first | rfl | (simp; done) | (simp [*]; done)), H', ⟨by have := HJ1.out; have := HK2.out; have := HK3.out; have := HK4.out; have := HK5.out; omega⟩, ⟨by (with_reducible repeat (first | refine xq ?_ _ | refine xr ?_ | refine xo ?_ _)); exact BK126.out⟩, ⟨by repeat (first | (with_reducible first | exact HB.out | apply xa | apply xn | apply xd | refine xt ?_ GE126.out | refine xt ?_ GE133.out) | exact HB.out)⟩⟩
                       ·rw [if_neg c85] at H
                        exact absurd H (by simp)
                      ·rw [if_neg c84] at H
                       exact absurd H (by simp)
           ·rw [if_neg c38] at H
            exact absurd H (by simp)
          ·rw [if_neg c37] at H
           exact absurd H (by simp)
         ·rw [if_neg c36] at H
          have c36b0 : decide (x66_3 < (l0_1.length : Int)) = false := decide_eq_false c36
          clear c36
          obtain rfl := Option.some.inj H
          go_wp2
          repeat (go_quiet (fail); try go_wp2)
          go_ret
          exact ⟨by first | rfl | (simp [errW_none, errW_some] <;> rfl) | (simp [*, errW_none, errW_some] <;> rfl), by repeat (first | (with_reducible first | exact HB.out | apply xa | apply xn | apply xd | refine xt ?_ GE126.out) | exact HB.out)⟩

end Go.Proofs.Ytpbpglbldgpckaa.G
