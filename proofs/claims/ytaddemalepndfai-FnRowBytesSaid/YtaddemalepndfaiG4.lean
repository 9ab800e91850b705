/- Written by a program of this claim's own, out of the translation: functions of the program as plain functions, and that the calls answer as these. No conditions. -/
import Derived.Test.YtaddemalepndfaiG0
import Derived.Test.YtaddemalepndfaiG2
import Derived.Test.YtaddemalepndfaiG3
namespace Go.Proofs.Ytaddemalepndfai.G
open Go.RowKit Go.Proofs.Ytaddemalepndfai.X Go.Proofs.YtaddemalepndfaiW.PrintWords Go.Proofs.YtaddemalepndfaiW.PrintLast Go.Proofs.YtaddemalepndfaiW.PrintMore
attribute [local go_sem] max2_int min2_int max_two min_two max_three min_three max_four min_four   -- for this text's walks alone
set_option linter.unusedVariables false
set_option linter.unusedSimpArgs false

/-! ### spec_l1Compare: function 19 -/
mutual
def spec_l1Compare.l0 : Nat → Int → List Int → List Int → Option (Int)
 | 0, _, _, _ => none
 | k + 1, x5, x167000, x168000 => if x5 < (x167000.length : Int) then (spec_l1Compare.j1 k x5 (decide (x5 < (x168000.length : Int))) x167000 x168000) else (spec_l1Compare.j1 k x5 false x167000 x168000)
def spec_l1Compare.j1 : Nat → Int → Bool → List Int → List Int → Option (Int)
 | 0, _, _, _, _ => none
 | k + 1, x5, x17, x167000, x168000 => if x17 = true then (if 0 ≤ x5 then (if x5 < (x167000.length : Int) then (if x5 < (x168000.length : Int) then (if (rd x167000 x5) < (rd x168000 x5) then (some (-1)) else (if (rd x167000 x5) > (rd x168000 x5) then (some 1) else (spec_l1Compare.l0 k (wrap64 (x5 + 1)) x167000 x168000))) else (none)) else (none)) else (none)) else (if (x167000.length : Int) < (x168000.length : Int) then (some (-1)) else (if (x167000.length : Int) > (x168000.length : Int) then (some 1) else (some 0)))
end
def spec_l1Compare.f (k : Nat) (l0_0 : List Int) (l1_0 : List Int) : Option (Int) := spec_l1Compare.l0 k 0 l0_0 l1_0
theorem spec_l1Compare.mono_l : ∀ k, (∀ y0 y1 y2, LeO (spec_l1Compare.l0 k y0 y1 y2) (spec_l1Compare.l0 (k + 1) y0 y1 y2)) ∧ (∀ y0 y1 y2 y3, LeO (spec_l1Compare.j1 k y0 y1 y2 y3) (spec_l1Compare.j1 (k + 1) y0 y1 y2 y3))
 | 0 => ⟨fun _ _ _ r h => by simp [spec_l1Compare.l0] at h, fun _ _ _ _ r h => by simp [spec_l1Compare.j1] at h⟩
 | k + 1 => by
  obtain ⟨ih0, ih1⟩ := spec_l1Compare.mono_l k
  refine ⟨?_, ?_⟩
  ·intro y0 y1 y2
   unfold spec_l1Compare.l0
   repeat' first
   | (with_reducible exact ih0 _ _ _)
   | (with_reducible exact ih1 _ _ _ _)
   | (with_reducible exact LeO.refl _)
   | (with_reducible exact LeO.none _)
   | (with_reducible refine LeO.ite ?_ ?_)
   | (with_reducible refine LeO.bind ?_ (fun _ => ?_))
   | exact ih0 _ _ _
   | exact ih1 _ _ _ _
   | exact LeO.none _
   | refine LeO.ite ?_ ?_
   | refine LeO.bind ?_ (fun _ => ?_)
  ·intro y0 y1 y2 y3
   unfold spec_l1Compare.j1
   repeat' first
   | (with_reducible exact ih0 _ _ _)
   | (with_reducible exact ih1 _ _ _ _)
   | (with_reducible exact LeO.refl _)
   | (with_reducible exact LeO.none _)
   | (with_reducible refine LeO.ite ?_ ?_)
   | (with_reducible refine LeO.bind ?_ (fun _ => ?_))
   | exact ih0 _ _ _
   | exact ih1 _ _ _ _
   | exact LeO.none _
   | refine LeO.ite ?_ ?_
   | refine LeO.bind ?_ (fun _ => ?_)
theorem spec_l1Compare.mono : ∀ a0 a1 k, LeO (spec_l1Compare.f k a0 a1) (spec_l1Compare.f (k + 1) a0 a1) := by
 intro a0 a1 k
 obtain ⟨ih0, ih1⟩ := spec_l1Compare.mono_l k
 unfold spec_l1Compare.f
 repeat' first
   | (with_reducible exact ih0 _ _ _)
   | (with_reducible exact ih1 _ _ _ _)
   | (with_reducible exact LeO.refl _)
   | (with_reducible exact LeO.none _)
   | (with_reducible refine LeO.ite ?_ ?_)
   | (with_reducible refine LeO.bind ?_ (fun _ => ?_))
   | exact ih0 _ _ _
   | exact ih1 _ _ _ _
   | exact LeO.none _
   | refine LeO.ite ?_ ?_
   | refine LeO.bind ?_ (fun _ => ?_)
set_option maxHeartbeats 8000000 in
set_option maxRecDepth 100000 in
theorem spec_l1Compare.calls (k : Nat) (A0_0 : Option Addr) (c0_0 : Nat) (l0_0 : List Int) (A1_0 : Option Addr) (c1_0 : Nat) (l1_0 : List Int) (r : Int) (w : World) (hr0_0 : Kd.C (Kd.int .i64) w A0_0 l0_0.length l0_0) (hc0_0 : l0_0.length ≤ c0_0) (hr1_0 : Kd.C (Kd.int .i64) w A1_0 l1_0.length l1_0) (hc1_0 : l1_0.length ≤ c1_0) (h : spec_l1Compare.f k l0_0 l1_0 = some r) :
  Calls Try.prog 19 #[.agg #[.slice A0_0 l0_0.length c0_0], .agg #[.slice A1_0 l1_0.length c1_0]] w fun e w' => e = .returned (.int .i64 r) ∧ Below w.heap.size w w' := by
 have hu25 := Try.underlying25
 have HR0_0 := xm hr0_0
 have HC0_0 := xm hc0_0
 clear hr0_0 hc0_0
 have HR1_0 := xm hr1_0
 have HC1_0 := xm hc1_0
 clear hr1_0 hc1_0
 have HB := xm (Below.refl w.heap.size w)
 have H : (spec_l1Compare.l0 k 0 l0_0 l1_0) = some r := h
 clear h
 have H' := xm H
 clear H
 go_enter Try.func19, Try.ntmps19
 go_wp2_with (first | ((with_reducible refine gate_dst (N := 2) rfl ?_); (try (refine gate_guard (by rfl) ?_; dsimp only)); refine box_event ?hg (N := 2) ?hd (cs := #[.slice A0_0 l0_0.length c0_0]) (t := 25) ?hr ?_; (case hd => rfl); (case hg => rfl); (case hr => exact zB); intro gb166 hg w3 hbox hb; have n0_ := xm (below_step bB hb); have n1_ := xm (hbox); have n2_ := xm ((by rw [hg]; exact (xz bB) : w.heap.size ≤ gb166)); have n3_ := xm ((by rw [hg]; exact (xz bB) : w.heap.size ≤ gb166)); revert n0_ n1_ n2_ n3_; clear HB; intro HB BK166 GW166 GE166; clear hb hbox hg) | ((with_reducible refine gate_dst (N := 3) rfl ?_); (try (refine gate_guard (by rfl) ?_; dsimp only)); refine box_event ?hg (N := 3) ?hd (cs := #[.slice A1_0 l1_0.length c1_0]) (t := 25) ?hr ?_; (case hd => rfl); (case hg => rfl); (case hr => exact zB); intro gb167 hg w4 hbox hb; have n0_ := xm (blk_below (kB BK166) hb); have n1_ := xm (below_step bG hb); have n2_ := xm (hbox); have n3_ := xm ((by rw [hg]; exact (xz bG) : w.heap.size ≤ gb167)); have n4_ := xm ((by rw [hg]; exact (xz bG) : w.heap.size ≤ gb167)); have n5_ := xm ((by rw [hg]; exact Nat.ne_of_lt (blk_lt (kB BK166)) : gb166 ≠ gb167)); have n6_ := xm ((by rw [hg]; exact Nat.ne_of_gt (blk_lt (kB BK166)) : gb167 ≠ gb166)); revert n0_ n1_ n2_ n3_ n4_ n5_ n6_; clear BK166 HB; intro BK166 HB BK167 GW167 GE167 NB166_167 NB167_166; clear hb hbox hg))
 repeat (go_quiet (first | ((with_reducible refine gate_dst (N := 2) rfl ?_); (try (refine gate_guard (by rfl) ?_; dsimp only)); refine box_event ?hg (N := 2) ?hd (cs := #[.slice A0_0 l0_0.length c0_0]) (t := 25) ?hr ?_; (case hd => rfl); (case hg => rfl); (case hr => exact zB); intro gb166 hg w3 hbox hb; have n0_ := xm (below_step bB hb); have n1_ := xm (hbox); have n2_ := xm ((by rw [hg]; exact (xz bB) : w.heap.size ≤ gb166)); have n3_ := xm ((by rw [hg]; exact (xz bB) : w.heap.size ≤ gb166)); revert n0_ n1_ n2_ n3_; clear HB; intro HB BK166 GW166 GE166; clear hb hbox hg) | ((with_reducible refine gate_dst (N := 3) rfl ?_); (try (refine gate_guard (by rfl) ?_; dsimp only)); refine box_event ?hg (N := 3) ?hd (cs := #[.slice A1_0 l1_0.length c1_0]) (t := 25) ?hr ?_; (case hd => rfl); (case hg => rfl); (case hr => exact zB); intro gb167 hg w4 hbox hb; have n0_ := xm (blk_below (kB BK166) hb); have n1_ := xm (below_step bG hb); have n2_ := xm (hbox); have n3_ := xm ((by rw [hg]; exact (xz bG) : w.heap.size ≤ gb167)); have n4_ := xm ((by rw [hg]; exact (xz bG) : w.heap.size ≤ gb167)); have n5_ := xm ((by rw [hg]; exact Nat.ne_of_lt (blk_lt (kB BK166)) : gb166 ≠ gb167)); have n6_ := xm ((by rw [hg]; exact Nat.ne_of_gt (blk_lt (kB BK166)) : gb167 ≠ gb166)); revert n0_ n1_ n2_ n3_ n4_ n5_ n6_; clear BK166 HB; intro BK166 HB BK167 GW167 GE167 NB166_167 NB167_166; clear hb hbox hg)); try go_wp2_with (first | ((with_reducible refine gate_dst (N := 2) rfl ?_); (try (refine gate_guard (by rfl) ?_; dsimp only)); refine box_event ?hg (N := 2) ?hd (cs := #[.slice A0_0 l0_0.length c0_0]) (t := 25) ?hr ?_; (case hd => rfl); (case hg => rfl); (case hr => exact zB); intro gb166 hg w3 hbox hb; have n0_ := xm (below_step bB hb); have n1_ := xm (hbox); have n2_ := xm ((by rw [hg]; exact (xz bB) : w.heap.size ≤ gb166)); have n3_ := xm ((by rw [hg]; exact (xz bB) : w.heap.size ≤ gb166)); revert n0_ n1_ n2_ n3_; clear HB; intro HB BK166 GW166 GE166; clear hb hbox hg) | ((with_reducible refine gate_dst (N := 3) rfl ?_); (try (refine gate_guard (by rfl) ?_; dsimp only)); refine box_event ?hg (N := 3) ?hd (cs := #[.slice A1_0 l1_0.length c1_0]) (t := 25) ?hr ?_; (case hd => rfl); (case hg => rfl); (case hr => exact zB); intro gb167 hg w4 hbox hb; have n0_ := xm (blk_below (kB BK166) hb); have n1_ := xm (below_step bG hb); have n2_ := xm (hbox); have n3_ := xm ((by rw [hg]; exact (xz bG) : w.heap.size ≤ gb167)); have n4_ := xm ((by rw [hg]; exact (xz bG) : w.heap.size ≤ gb167)); have n5_ := xm ((by rw [hg]; exact Nat.ne_of_lt (blk_lt (kB BK166)) : gb166 ≠ gb167)); have n6_ := xm ((by rw [hg]; exact Nat.ne_of_gt (blk_lt (kB BK166)) : gb167 ≠ gb166)); revert n0_ n1_ n2_ n3_ n4_ n5_ n6_; clear BK166 HB; intro BK166 HB BK167 GW167 GE167 NB166_167 NB167_166; clear hb hbox hg)))
 go_loopg [5] k (fun kq v5 w' => ∃ (x5_1 : Int), v5 = .int .i64 x5_1 ∧ Aside0 (spec_l1Compare.l0 kq x5_1 l0_0 l1_0 = some r) ∧ Aside0 (kq ≤ k) ∧ Aside0 (w'.heap[gb166]? = some (.cells #[(.slice A0_0 l0_0.length c0_0)] 25 (0, 0))) ∧ Aside0 (w'.heap[gb167]? = some (.cells #[(.slice A1_0 l1_0.length c1_0)] 25 (0, 0))) ∧ Aside0 (Below w.heap.size w w'))
 case atStart => exact ⟨(0), sB, H', ⟨Nat.le_refl _⟩, ⟨kB BK166⟩, ⟨kB BK167⟩, ⟨bG⟩⟩
 case round =>
  clear H'
  try clear c1
  try clear p2
  obtain ⟨x5_1, rfl, HA, HK1, BK166, BK167, HB⟩ := hrel
  cases gk with
  | zero => exact absurd HA.out (by simp [spec_l1Compare.l0])
  | succ k1 =>
   have H := HA.out
   clear HA
   simp only [spec_l1Compare.l0] at H
   have HC5 := xm H
   clear H
   go_upto_region 2 with (fail)
   repeat (go_quiet (fail); go_upto_region 2 with (fail))
   go_cut [17] (fun v17 wc => ∃ (kq : Nat) (x17_4 : Bool), v17 = .bool x17_4 ∧ Aside0 (spec_l1Compare.j1 kq x5_1 x17_4 l0_0 l1_0 = some r) ∧ Aside0 (kq ≤ k1) ∧ Aside0 (wc.heap[gb166]? = some (.cells #[(.slice A0_0 l0_0.length c0_0)] 25 (0, 0))) ∧ Aside0 (wc.heap[gb167]? = some (.cells #[(.slice A1_0 l1_0.length c1_0)] 25 (0, 0))) ∧ Aside0 (Below w.heap.size w wc))
   case first =>
    have H := HC5.out
    clear HC5
    by_cases c6 : x5_1 < (l0_0.length : Int)
    ·rw [if_pos c6] at H
     have c6b0 : decide (x5_1 < (l0_0.length : Int)) = true := decide_eq_true c6
     clear c6
     (first | rw [c6b0] | (simp only [i64_w, i32_w]; rw [c6b0]) | skip)
     have H' := xm H
     clear H
     have hnb7 := NB166_167.out
     have hnc7 := NB167_166.out
     obtain ⟨hcz8_0, hfz8_0⟩ := cz1 BK166.out
     obtain ⟨hcz9_0, hfz9_0⟩ := cz1 BK167.out
     go_wp2
     repeat (go_quiet (fail); try go_wp2)
     go_meet
     case rel => exact ⟨_, (decide (x5_1 < (l1_0.length : Int))), sB, H', ⟨by have := HK1.out; first | omega | exact Nat.le_refl _⟩, ⟨kB BK166⟩, ⟨kB BK167⟩, ⟨bG⟩⟩
    ·rw [if_neg c6] at H
     have c6b0 : decide (x5_1 < (l0_0.length : Int)) = false := decide_eq_false c6
     clear c6
     (first | rw [c6b0] | (simp only [i64_w, i32_w]; rw [c6b0]) | skip)
     have H' := xm H
     clear H
     have hnb10 := NB166_167.out
     have hnc10 := NB167_166.out
     obtain ⟨hcz11_0, hfz11_0⟩ := cz1 BK166.out
     go_wp2
     repeat (go_quiet (fail); try go_wp2)
     go_meet
     case rel => exact ⟨_, (false), sB, H', ⟨by have := HK1.out; first | omega | exact Nat.le_refl _⟩, ⟨kB BK166⟩, ⟨kB BK167⟩, ⟨bG⟩⟩
   case rest =>
    clear HC5
    try clear c1
    try clear p2
    try clear c6
    try clear c6b0
    try clear c7
    try clear c10
    try clear hcz11_0
    try clear hcz8_0
    try clear hcz9_0
    try clear hfz11_0
    try clear hfz8_0
    try clear hfz9_0
    try clear p2
    obtain ⟨kq, x17_4, rfl, HA, HJ4, BK166, BK167, HB⟩ := hcut
    cases kq with
    | zero => exact absurd HA.out (by simp [spec_l1Compare.j1])
    | succ kj4 =>
     have H := HA.out
     clear HA
     simp only [spec_l1Compare.j1] at H
     by_cases c12 : x17_4 = true
     ·subst c12
      have H1 : (if 0 ≤ x5_1 then (if x5_1 < (l0_0.length : Int) then (if x5_1 < (l1_0.length : Int) then (if (rd l0_0 x5_1) < (rd l1_0 x5_1) then (some (-1)) else (if (rd l0_0 x5_1) > (rd l1_0 x5_1) then (some 1) else (spec_l1Compare.l0 kj4 (wrap64 (x5_1 + 1)) l0_0 l1_0))) else (none)) else (none)) else (none)) = some r := by first | (with_reducible rfl) | (rw [if_pos rfl] at H; exact H)
      clear H
      have H := H1
      clear H1
      by_cases c13 : 0 ≤ x5_1
      ·rw [if_pos c13] at H
       have c13b0 : decide (0 ≤ x5_1) = true := decide_eq_true c13
       clear c13
       by_cases c14 : x5_1 < (l0_0.length : Int)
       ·rw [if_pos c14] at H
        have c14b0 : decide (x5_1 < (l0_0.length : Int)) = true := decide_eq_true c14
        clear c14
        by_cases c15 : x5_1 < (l1_0.length : Int)
        ·rw [if_pos c15] at H
         have c15b0 : decide (x5_1 < (l1_0.length : Int)) = true := decide_eq_true c15
         clear c15
         by_cases c16 : (rd l0_0 x5_1) < (rd l1_0 x5_1)
         ·rw [if_pos c16] at H
          have c16b0 : decide ((rd l0_0 x5_1) < (rd l1_0 x5_1)) = true := decide_eq_true c16
          clear c16
          obtain rfl := Option.some.inj H
          have hnb17 := NB166_167.out
          have hnc17 := NB167_166.out
          obtain ⟨hcz18_0, hfz18_0⟩ := cz1 BK166.out
          have p168 : 0 ≤ (x5_1 : Int) := of_decide_eq_true aB
          have q168 : x5_1 < (l0_0.length : Int) := of_decide_eq_true aB
          obtain ⟨ad168, e168, hx168_0⟩ := Kd.at_int HR0_0.out x5_1 p168 q168
          cases e168
          replace hx168_0 := hU hx168_0
          replace p168 := eq_true p168
          replace q168 := eq_true q168
          obtain ⟨hcz19_0, hfz19_0⟩ := cz1 BK167.out
          have p169 : 0 ≤ (x5_1 : Int) := of_decide_eq_true aB
          have q169 : x5_1 < (l1_0.length : Int) := of_decide_eq_true aB
          obtain ⟨ad169, e169, hx169_0⟩ := Kd.at_int HR1_0.out x5_1 p169 q169
          cases e169
          replace hx169_0 := hU hx169_0
          replace p169 := eq_true p169
          replace q169 := eq_true q169
          go_wp2
          repeat (go_quiet (fail); try go_wp2)
          go_ret
          exact ⟨eB, bG⟩
         ·rw [if_neg c16] at H
          have c16b0 : decide ((rd l0_0 x5_1) < (rd l1_0 x5_1)) = false := decide_eq_false c16
          clear c16
          by_cases c20 : (rd l0_0 x5_1) > (rd l1_0 x5_1)
          ·rw [if_pos c20] at H
           have c20b0 : decide ((rd l1_0 x5_1) < (rd l0_0 x5_1)) = true := decide_eq_true c20
           clear c20
           obtain rfl := Option.some.inj H
           have hnb21 := NB166_167.out
           have hnc21 := NB167_166.out
           obtain ⟨hcz22_0, hfz22_0⟩ := cz1 BK166.out
           have p168 : 0 ≤ (x5_1 : Int) := of_decide_eq_true aB
           have q168 : x5_1 < (l0_0.length : Int) := of_decide_eq_true aB
           obtain ⟨ad168, e168, hx168_0⟩ := Kd.at_int HR0_0.out x5_1 p168 q168
           cases e168
           replace hx168_0 := hU hx168_0
           replace p168 := eq_true p168
           replace q168 := eq_true q168
           obtain ⟨hcz23_0, hfz23_0⟩ := cz1 BK167.out
           have p169 : 0 ≤ (x5_1 : Int) := of_decide_eq_true aB
           have q169 : x5_1 < (l1_0.length : Int) := of_decide_eq_true aB
           obtain ⟨ad169, e169, hx169_0⟩ := Kd.at_int HR1_0.out x5_1 p169 q169
           cases e169
           replace hx169_0 := hU hx169_0
           replace p169 := eq_true p169
           replace q169 := eq_true q169
           have p170 : 0 ≤ (x5_1 : Int) := of_decide_eq_true aB
           have q170 : x5_1 < (l0_0.length : Int) := of_decide_eq_true aB
           obtain ⟨ad170, e170, hx170_0⟩ := Kd.at_int HR0_0.out x5_1 p170 q170
           obtain rfl : ad168 = ad170 := (by injection e170)
           replace hx170_0 := hU hx170_0
           replace p170 := eq_true p170
           replace q170 := eq_true q170
           have p171 : 0 ≤ (x5_1 : Int) := of_decide_eq_true aB
           have q171 : x5_1 < (l1_0.length : Int) := of_decide_eq_true aB
           obtain ⟨ad171, e171, hx171_0⟩ := Kd.at_int HR1_0.out x5_1 p171 q171
           obtain rfl : ad169 = ad171 := (by injection e171)
           replace hx171_0 := hU hx171_0
           replace p171 := eq_true p171
           replace q171 := eq_true q171
           go_wp2
           repeat (go_quiet (fail); try go_wp2)
           go_ret
           exact ⟨eB, bG⟩
          ·rw [if_neg c20] at H
           have c20b0 : decide ((rd l1_0 x5_1) < (rd l0_0 x5_1)) = false := decide_eq_false c20
           clear c20
           have H' := xm H
           clear H
           have hnb24 := NB166_167.out
           have hnc24 := NB167_166.out
           obtain ⟨hcz25_0, hfz25_0⟩ := cz1 BK166.out
           have p168 : 0 ≤ (x5_1 : Int) := of_decide_eq_true aB
           have q168 : x5_1 < (l0_0.length : Int) := of_decide_eq_true aB
           obtain ⟨ad168, e168, hx168_0⟩ := Kd.at_int HR0_0.out x5_1 p168 q168
           cases e168
           replace hx168_0 := hU hx168_0
           replace p168 := eq_true p168
           replace q168 := eq_true q168
           obtain ⟨hcz26_0, hfz26_0⟩ := cz1 BK167.out
           have p169 : 0 ≤ (x5_1 : Int) := of_decide_eq_true aB
           have q169 : x5_1 < (l1_0.length : Int) := of_decide_eq_true aB
           obtain ⟨ad169, e169, hx169_0⟩ := Kd.at_int HR1_0.out x5_1 p169 q169
           cases e169
           replace hx169_0 := hU hx169_0
           replace p169 := eq_true p169
           replace q169 := eq_true q169
           have p170 : 0 ≤ (x5_1 : Int) := of_decide_eq_true aB
           have q170 : x5_1 < (l0_0.length : Int) := of_decide_eq_true aB
           obtain ⟨ad170, e170, hx170_0⟩ := Kd.at_int HR0_0.out x5_1 p170 q170
           obtain rfl : ad168 = ad170 := (by injection e170)
           replace hx170_0 := hU hx170_0
           replace p170 := eq_true p170
           replace q170 := eq_true q170
           have p171 : 0 ≤ (x5_1 : Int) := of_decide_eq_true aB
           have q171 : x5_1 < (l1_0.length : Int) := of_decide_eq_true aB
           obtain ⟨ad171, e171, hx171_0⟩ := Kd.at_int HR1_0.out x5_1 p171 q171
           obtain rfl : ad169 = ad171 := (by injection e171)
           replace hx171_0 := hU hx171_0
           replace p171 := eq_true p171
           replace q171 := eq_true q171
           go_wp2
           repeat (go_quiet (fail); try go_wp2)
           go_roundg kj4
           case measure => have := HK1.out; have := HJ4.out; omega
           case rel => exact ⟨(wrap64 (x5_1 + 1)), sB, H', ⟨by have := HK1.out; have := HJ4.out; omega⟩, ⟨kB BK166⟩, ⟨kB BK167⟩, ⟨bG⟩⟩
        ·rw [if_neg c15] at H
         exact absurd H (by simp)
       ·rw [if_neg c14] at H
        exact absurd H (by simp)
      ·rw [if_neg c13] at H
       exact absurd H (by simp)
     ·replace c12 := Bool.eq_false_iff.mpr c12
      subst c12
      have H1 : (if (l0_0.length : Int) < (l1_0.length : Int) then (some (-1)) else (if (l0_0.length : Int) > (l1_0.length : Int) then (some 1) else (some 0))) = some r := by first | (with_reducible rfl) | (rw [if_neg (show ¬ (false = true) by decide)] at H; exact H)
      clear H
      have H := H1
      clear H1
      by_cases c27 : (l0_0.length : Int) < (l1_0.length : Int)
      ·rw [if_pos c27] at H
       have c27b0 : decide ((l0_0.length : Int) < (l1_0.length : Int)) = true := decide_eq_true c27
       have c27b1 : decide (l0_0.length < l1_0.length) = true := decide_eq_true (Int.ofNat_lt.mp c27)
       clear c27
       obtain rfl := Option.some.inj H
       have hnb28 := NB166_167.out
       have hnc28 := NB167_166.out
       obtain ⟨hcz29_0, hfz29_0⟩ := cz1 BK166.out
       obtain ⟨hcz30_0, hfz30_0⟩ := cz1 BK167.out
       go_wp2
       repeat (go_quiet (fail); try go_wp2)
       go_ret
       exact ⟨eB, bG⟩
      ·rw [if_neg c27] at H
       have c27b0 : decide ((l0_0.length : Int) < (l1_0.length : Int)) = false := decide_eq_false c27
       have c27b1 : decide (l0_0.length < l1_0.length) = false := decide_eq_false (fun h => c27 (Int.ofNat_lt.mpr h))
       clear c27
       by_cases c31 : (l0_0.length : Int) > (l1_0.length : Int)
       ·rw [if_pos c31] at H
        have c31b0 : decide ((l1_0.length : Int) < (l0_0.length : Int)) = true := decide_eq_true c31
        have c31b1 : decide (l1_0.length < l0_0.length) = true := decide_eq_true (Int.ofNat_lt.mp c31)
        clear c31
        obtain rfl := Option.some.inj H
        have hnb32 := NB166_167.out
        have hnc32 := NB167_166.out
        obtain ⟨hcz33_0, hfz33_0⟩ := cz1 BK166.out
        obtain ⟨hcz34_0, hfz34_0⟩ := cz1 BK167.out
        go_wp2
        repeat (go_quiet (fail); try go_wp2)
        go_ret
        exact ⟨eB, bG⟩
       ·rw [if_neg c31] at H
        have c31b0 : decide ((l1_0.length : Int) < (l0_0.length : Int)) = false := decide_eq_false c31
        have c31b1 : decide (l1_0.length < l0_0.length) = false := decide_eq_false (fun h => c31 (Int.ofNat_lt.mpr h))
        clear c31
        obtain rfl := Option.some.inj H
        have hnb35 := NB166_167.out
        have hnc35 := NB167_166.out
        obtain ⟨hcz36_0, hfz36_0⟩ := cz1 BK166.out
        obtain ⟨hcz37_0, hfz37_0⟩ := cz1 BK167.out
        go_wp2
        repeat (go_quiet (fail); try go_wp2)
        go_ret
        exact ⟨eB, bG⟩

/-! ### spec_CompareRows: function 6 -/
def spec_CompareRows.f (k : Nat) (l0_0 : List Int) (l1_0 : List Int) : Option (Int × Bool) := (spec_GoodRow.f k l0_0).bind fun t174 => (if t174 = true then ((spec_GoodRow.f k l1_0).bind fun t175 => (if t175 = true then ((spec_l1Compare.f k l0_0 l1_0).bind fun t176 => (some (t176, true))) else (some (0, false)))) else (some (0, false)))
theorem spec_CompareRows.mono : ∀ a0 a1 k, LeO (spec_CompareRows.f k a0 a1) (spec_CompareRows.f (k + 1) a0 a1) := by
 intro a0 a1 k
 unfold spec_CompareRows.f
 repeat' first
   | (with_reducible exact spec_GoodRow.mono _ _)
   | (with_reducible exact spec_l1Compare.mono _ _ _)
   | (with_reducible exact LeO.refl _)
   | (with_reducible exact LeO.none _)
   | (with_reducible refine LeO.ite ?_ ?_)
   | (with_reducible refine LeO.bind ?_ (fun _ => ?_))
   | exact spec_GoodRow.mono _ _
   | exact spec_l1Compare.mono _ _ _
   | exact LeO.none _
   | refine LeO.ite ?_ ?_
   | refine LeO.bind ?_ (fun _ => ?_)
set_option maxHeartbeats 8000000 in
set_option maxRecDepth 100000 in
theorem spec_CompareRows.calls (k : Nat) (A0_0 : Option Addr) (c0_0 : Nat) (l0_0 : List Int) (A1_0 : Option Addr) (c1_0 : Nat) (l1_0 : List Int) (r1 : Int) (r2 : Bool) (w : World) (hr0_0 : Kd.C (Kd.int .i64) w A0_0 l0_0.length l0_0) (hc0_0 : l0_0.length ≤ c0_0) (hr1_0 : Kd.C (Kd.int .i64) w A1_0 l1_0.length l1_0) (hc1_0 : l1_0.length ≤ c1_0) (h : spec_CompareRows.f k l0_0 l1_0 = some (r1, r2)) :
  Calls Try.prog 6 #[.agg #[.slice A0_0 l0_0.length c0_0], .agg #[.slice A1_0 l1_0.length c1_0]] w fun e w' => e = .returned (.tuple #[.int .i64 r1, .bool r2]) ∧ Below w.heap.size w w' := by
 have hu25 := Try.underlying25
 have HR0_0 := xm hr0_0
 have HC0_0 := xm hc0_0
 clear hr0_0 hc0_0
 have HR1_0 := xm hr1_0
 have HC1_0 := xm hc1_0
 clear hr1_0 hc1_0
 have HB := xm (Below.refl w.heap.size w)
 have H : ((spec_GoodRow.f k l0_0).bind fun t174 => (if t174 = true then ((spec_GoodRow.f k l1_0).bind fun t175 => (if t175 = true then ((spec_l1Compare.f k l0_0 l1_0).bind fun t176 => (some (t176, true))) else (some (0, false)))) else (some (0, false)))) = some (r1, r2) := h
 clear h
 replace H := Option.bind_eq_some_iff.mp H
 obtain ⟨t174, A30, H⟩ := H
 replace H : (if t174 = true then ((spec_GoodRow.f k l1_0).bind fun t175 => (if t175 = true then ((spec_l1Compare.f k l0_0 l1_0).bind fun t176 => (some (t176, true))) else (some (0, false)))) else (some (0, false))) = some (r1, r2) := H
 have A3 := xm A30
 clear A30
 by_cases c4 : t174 = true
 ·subst c4
  have H1 : ((spec_GoodRow.f k l1_0).bind fun t175 => (if t175 = true then ((spec_l1Compare.f k l0_0 l1_0).bind fun t176 => (some (t176, true))) else (some (0, false)))) = some (r1, r2) := by first | (with_reducible rfl) | (rw [if_pos rfl] at H; exact H)
  clear H
  have H := H1
  clear H1
  replace H := Option.bind_eq_some_iff.mp H
  obtain ⟨t175, A50, H⟩ := H
  replace H : (if t175 = true then ((spec_l1Compare.f k l0_0 l1_0).bind fun t176 => (some (t176, true))) else (some (0, false))) = some (r1, r2) := H
  have A5 := xm A50
  clear A50
  by_cases c6 : t175 = true
  ·subst c6
   have H1 : ((spec_l1Compare.f k l0_0 l1_0).bind fun t176 => (some (t176, true))) = some (r1, r2) := by first | (with_reducible rfl) | (rw [if_pos rfl] at H; exact H)
   clear H
   have H := H1
   clear H1
   replace H := Option.bind_eq_some_iff.mp H
   obtain ⟨t176, A70, H⟩ := H
   replace H : (some (t176, true)) = some (r1, r2) := H
   have A7 := xm A70
   clear A70
   simp only [Option.some.injEq, Prod.mk.injEq] at H
   obtain ⟨rfl, rfl⟩ := H
   go_enter Try.func6, Try.ntmps6
   go_wp2_with (first | ((with_reducible refine gate_dst (N := 2) rfl ?_); refine box_event ?hg (N := 2) ?hd (cs := #[.slice A0_0 l0_0.length c0_0]) (t := 25) ?hr ?_; (case hd => rfl); (case hg => rfl); (case hr => exact zB); intro gb172 hg w8 hbox hb; have n0_ := xm (below_step bB hb); have n1_ := xm (hbox); have n2_ := xm ((by rw [hg]; exact (xz bB) : w.heap.size ≤ gb172)); have n3_ := xm ((by rw [hg]; exact (xz bB) : w.heap.size ≤ gb172)); revert n0_ n1_ n2_ n3_; clear HB; intro HB BK172 GW172 GE172; clear hb hbox hg) | ((with_reducible refine gate_dst (N := 3) rfl ?_); refine box_event ?hg (N := 3) ?hd (cs := #[.slice A1_0 l1_0.length c1_0]) (t := 25) ?hr ?_; (case hd => rfl); (case hg => rfl); (case hr => exact zB); intro gb173 hg w9 hbox hb; have n0_ := xm (blk_below (kB BK172) hb); have n1_ := xm (below_step bG hb); have n2_ := xm (hbox); have n3_ := xm ((by rw [hg]; exact (xz bG) : w.heap.size ≤ gb173)); have n4_ := xm ((by rw [hg]; exact (xz bG) : w.heap.size ≤ gb173)); have n5_ := xm ((by rw [hg]; exact Nat.ne_of_lt (blk_lt (kB BK172)) : gb172 ≠ gb173)); have n6_ := xm ((by rw [hg]; exact Nat.ne_of_gt (blk_lt (kB BK172)) : gb173 ≠ gb172)); revert n0_ n1_ n2_ n3_ n4_ n5_ n6_; clear BK172 HB; intro BK172 HB BK173 GW173 GE173 NB172_173 NB173_172; clear hb hbox hg; have hnb10 := NB172_173.out; have hnc10 := NB173_172.out; obtain ⟨hcz11_0, hfz11_0⟩ := cz1 BK172.out) | ((with_reducible refine gate_callee (f := 18) rfl ?_); refine goesL_ (some 7) rfl rfl Try.func18 (by kernel_rfl) rfl #[.agg #[.slice A0_0 l0_0.length c0_0]] rfl mB ?_; (with_reducible refine (spec_GoodRow.calls k _ _ l0_0 true _ ?side1 ?side2 A3.out).mono ?_); (case side1 => exact cB (Kd.C_below HR0_0.out HB.out)); (case side2 => exact HC0_0.out); rintro e w12 ⟨rfl, hb⟩; refine ⟨_, rfl, ?_⟩; have n0_ := xm (blk_below (kB BK172) hb); have n1_ := xm (blk_below (kB BK173) hb); have n2_ := xm (below_step bG hb); revert n0_ n1_ n2_; clear BK172 BK173 HB; intro BK172 BK173 HB; (try clear hb); obtain ⟨hcz13_0, hfz13_0⟩ := cz1 BK173.out) | (go_at_call 18; (with_reducible refine (spec_GoodRow.calls k _ _ l1_0 true _ ?side1 ?side2 A5.out).mono ?_); (case side1 => exact cB (Kd.C_below HR1_0.out HB.out)); (case side2 => exact HC1_0.out); rintro e w14 ⟨rfl, hb⟩; have n0_ := xm (blk_below (kB BK172) hb); have n1_ := xm (blk_below (kB BK173) hb); have n2_ := xm (below_step bG hb); revert n0_ n1_ n2_; clear BK172 BK173 HB; intro BK172 BK173 HB; (try clear hb); obtain ⟨hcz15_0, hfz15_0⟩ := cz1 BK172.out; obtain ⟨hcz16_0, hfz16_0⟩ := cz1 BK173.out) | ((with_reducible refine gate_callee (f := 19) rfl ?_); refine goesL_ (some 16) rfl rfl Try.func19 (by kernel_rfl) rfl #[.agg #[.slice A0_0 l0_0.length c0_0], .agg #[.slice A1_0 l1_0.length c1_0]] rfl mB ?_; (with_reducible refine (spec_l1Compare.calls k _ _ l0_0 _ _ l1_0 t176 _ ?side1 ?side2 ?side3 ?side4 A7.out).mono ?_); (case side1 => exact cB (Kd.C_below HR0_0.out HB.out)); (case side2 => exact HC0_0.out); (case side3 => exact cB (Kd.C_below HR1_0.out HB.out)); (case side4 => exact HC1_0.out); rintro e w17 ⟨rfl, hb⟩; refine ⟨_, rfl, ?_⟩; have n0_ := xm (blk_below (kB BK172) hb); have n1_ := xm (blk_below (kB BK173) hb); have n2_ := xm (below_step bG hb); revert n0_ n1_ n2_; clear BK172 BK173 HB; intro BK172 BK173 HB; (try clear hb)))
   go_ret2
   exact ⟨eB, bG⟩
  ·replace c6 := Bool.eq_false_iff.mpr c6
   subst c6
   have H1 : (some (0, false)) = some (r1, r2) := by first | (with_reducible rfl) | (rw [if_neg (show ¬ (false = true) by decide)] at H; exact H)
   clear H
   have H := H1
   clear H1
   simp only [Option.some.injEq, Prod.mk.injEq] at H
   obtain ⟨rfl, rfl⟩ := H
   go_enter Try.func6, Try.ntmps6
   go_wp2_with (first | ((with_reducible refine gate_dst (N := 2) rfl ?_); refine box_event ?hg (N := 2) ?hd (cs := #[.slice A0_0 l0_0.length c0_0]) (t := 25) ?hr ?_; (case hd => rfl); (case hg => rfl); (case hr => exact zB); intro gb172 hg w18 hbox hb; have n0_ := xm (below_step bB hb); have n1_ := xm (hbox); have n2_ := xm ((by rw [hg]; exact (xz bB) : w.heap.size ≤ gb172)); have n3_ := xm ((by rw [hg]; exact (xz bB) : w.heap.size ≤ gb172)); revert n0_ n1_ n2_ n3_; clear HB; intro HB BK172 GW172 GE172; clear hb hbox hg) | ((with_reducible refine gate_dst (N := 3) rfl ?_); refine box_event ?hg (N := 3) ?hd (cs := #[.slice A1_0 l1_0.length c1_0]) (t := 25) ?hr ?_; (case hd => rfl); (case hg => rfl); (case hr => exact zB); intro gb173 hg w19 hbox hb; have n0_ := xm (blk_below (kB BK172) hb); have n1_ := xm (below_step bG hb); have n2_ := xm (hbox); have n3_ := xm ((by rw [hg]; exact (xz bG) : w.heap.size ≤ gb173)); have n4_ := xm ((by rw [hg]; exact (xz bG) : w.heap.size ≤ gb173)); have n5_ := xm ((by rw [hg]; exact Nat.ne_of_lt (blk_lt (kB BK172)) : gb172 ≠ gb173)); have n6_ := xm ((by rw [hg]; exact Nat.ne_of_gt (blk_lt (kB BK172)) : gb173 ≠ gb172)); revert n0_ n1_ n2_ n3_ n4_ n5_ n6_; clear BK172 HB; intro BK172 HB BK173 GW173 GE173 NB172_173 NB173_172; clear hb hbox hg; have hnb20 := NB172_173.out; have hnc20 := NB173_172.out; obtain ⟨hcz21_0, hfz21_0⟩ := cz1 BK172.out) | ((with_reducible refine gate_callee (f := 18) rfl ?_); refine goesL_ (some 7) rfl rfl Try.func18 (by kernel_rfl) rfl #[.agg #[.slice A0_0 l0_0.length c0_0]] rfl mB ?_; (with_reducible refine (spec_GoodRow.calls k _ _ l0_0 true _ ?side1 ?side2 A3.out).mono ?_); (case side1 => exact cB (Kd.C_below HR0_0.out HB.out)); (case side2 => exact HC0_0.out); rintro e w22 ⟨rfl, hb⟩; refine ⟨_, rfl, ?_⟩; have n0_ := xm (blk_below (kB BK172) hb); have n1_ := xm (blk_below (kB BK173) hb); have n2_ := xm (below_step bG hb); revert n0_ n1_ n2_; clear BK172 BK173 HB; intro BK172 BK173 HB; (try clear hb); obtain ⟨hcz23_0, hfz23_0⟩ := cz1 BK173.out) | (go_at_call 18; (with_reducible refine (spec_GoodRow.calls k _ _ l1_0 false _ ?side1 ?side2 A5.out).mono ?_); (case side1 => exact cB (Kd.C_below HR1_0.out HB.out)); (case side2 => exact HC1_0.out); rintro e w24 ⟨rfl, hb⟩; have n0_ := xm (blk_below (kB BK172) hb); have n1_ := xm (blk_below (kB BK173) hb); have n2_ := xm (below_step bG hb); revert n0_ n1_ n2_; clear BK172 BK173 HB; intro BK172 BK173 HB; (try clear hb)))
   go_ret2
   exact ⟨eB, bG⟩
 ·replace c4 := Bool.eq_false_iff.mpr c4
  subst c4
  have H1 : (some (0, false)) = some (r1, r2) := by first | (with_reducible rfl) | (rw [if_neg (show ¬ (false = true) by decide)] at H; exact H)
  clear H
  have H := H1
  clear H1
  simp only [Option.some.injEq, Prod.mk.injEq] at H
  obtain ⟨rfl, rfl⟩ := H
  go_enter Try.func6, Try.ntmps6
  go_wp2_with (first | ((with_reducible refine gate_dst (N := 2) rfl ?_); refine box_event ?hg (N := 2) ?hd (cs := #[.slice A0_0 l0_0.length c0_0]) (t := 25) ?hr ?_; (case hd => rfl); (case hg => rfl); (case hr => exact zB); intro gb172 hg w25 hbox hb; have n0_ := xm (below_step bB hb); have n1_ := xm (hbox); have n2_ := xm ((by rw [hg]; exact (xz bB) : w.heap.size ≤ gb172)); have n3_ := xm ((by rw [hg]; exact (xz bB) : w.heap.size ≤ gb172)); revert n0_ n1_ n2_ n3_; clear HB; intro HB BK172 GW172 GE172; clear hb hbox hg) | ((with_reducible refine gate_dst (N := 3) rfl ?_); refine box_event ?hg (N := 3) ?hd (cs := #[.slice A1_0 l1_0.length c1_0]) (t := 25) ?hr ?_; (case hd => rfl); (case hg => rfl); (case hr => exact zB); intro gb173 hg w26 hbox hb; have n0_ := xm (blk_below (kB BK172) hb); have n1_ := xm (below_step bG hb); have n2_ := xm (hbox); have n3_ := xm ((by rw [hg]; exact (xz bG) : w.heap.size ≤ gb173)); have n4_ := xm ((by rw [hg]; exact (xz bG) : w.heap.size ≤ gb173)); have n5_ := xm ((by rw [hg]; exact Nat.ne_of_lt (blk_lt (kB BK172)) : gb172 ≠ gb173)); have n6_ := xm ((by rw [hg]; exact Nat.ne_of_gt (blk_lt (kB BK172)) : gb173 ≠ gb172)); revert n0_ n1_ n2_ n3_ n4_ n5_ n6_; clear BK172 HB; intro BK172 HB BK173 GW173 GE173 NB172_173 NB173_172; clear hb hbox hg; have hnb27 := NB172_173.out; have hnc27 := NB173_172.out; obtain ⟨hcz28_0, hfz28_0⟩ := cz1 BK172.out) | ((with_reducible refine gate_callee (f := 18) rfl ?_); refine goesL_ (some 7) rfl rfl Try.func18 (by kernel_rfl) rfl #[.agg #[.slice A0_0 l0_0.length c0_0]] rfl mB ?_; (with_reducible refine (spec_GoodRow.calls k _ _ l0_0 false _ ?side1 ?side2 A3.out).mono ?_); (case side1 => exact cB (Kd.C_below HR0_0.out HB.out)); (case side2 => exact HC0_0.out); rintro e w29 ⟨rfl, hb⟩; refine ⟨_, rfl, ?_⟩; have n0_ := xm (blk_below (kB BK172) hb); have n1_ := xm (blk_below (kB BK173) hb); have n2_ := xm (below_step bG hb); revert n0_ n1_ n2_; clear BK172 BK173 HB; intro BK172 BK173 HB; (try clear hb)))
  go_ret2
  exact ⟨eB, bG⟩

/-! ### impl_rowBytes: function 20 -/
def impl_rowBytes.l0 : Nat → List Int → List Int → Int → Int → Option (ByteArray)
 | 0, _, _, _, _ => none
 | k + 1, x3, x12, x13, x14 => if x14 < x13 then (if 0 ≤ x14 then (if x14 < (x12.length : Int) then ((some (([((wrap64 ((rd x12 x14) + 100000)) / 65536) % 256, ((wrap64 ((rd x12 x14) + 100000)) / 256) % 256, (wrap64 ((rd x12 x14) + 100000)) % 256] : List Int) : List Int)).bind fun y182 => (if x3.length + y182.length < 140737488355328 then (impl_rowBytes.l0 k (x3 ++ y182) x12 x13 (wrap64 (x14 + 1))) else (none))) else (none)) else (none)) else (some (strOfNums x3))
def impl_rowBytes.f (k : Nat) (l0_0 : List Int) : Option (ByteArray) := impl_rowBytes.l0 k (([((l0_0.length : Int)) % 256] : List Int)) l0_0 (l0_0.length : Int) 0
theorem impl_rowBytes.mono_l : ∀ k, (∀ y0 y1 y2 y3, LeO (impl_rowBytes.l0 k y0 y1 y2 y3) (impl_rowBytes.l0 (k + 1) y0 y1 y2 y3))
 | 0 => fun _ _ _ _ r h => by simp [impl_rowBytes.l0] at h
 | k + 1 => by
  have ih0 := impl_rowBytes.mono_l k
  ·intro y0 y1 y2 y3
   unfold impl_rowBytes.l0
   repeat' first
   | (with_reducible exact ih0 _ _ _ _)
   | (with_reducible exact LeO.refl _)
   | (with_reducible exact LeO.none _)
   | (with_reducible refine LeO.ite ?_ ?_)
   | (with_reducible refine LeO.bind ?_ (fun _ => ?_))
   | exact ih0 _ _ _ _
   | exact LeO.none _
   | refine LeO.ite ?_ ?_
   | refine LeO.bind ?_ (fun _ => ?_)
theorem impl_rowBytes.mono : ∀ a0 k, LeO (impl_rowBytes.f k a0) (impl_rowBytes.f (k + 1) a0) := by
 intro a0 k
 have ih0 := impl_rowBytes.mono_l k
 unfold impl_rowBytes.f
 repeat' first
   | (with_reducible exact ih0 _ _ _ _)
   | (with_reducible exact LeO.refl _)
   | (with_reducible exact LeO.none _)
   | (with_reducible refine LeO.ite ?_ ?_)
   | (with_reducible refine LeO.bind ?_ (fun _ => ?_))
   | exact ih0 _ _ _ _
   | exact LeO.none _
   | refine LeO.ite ?_ ?_
   | refine LeO.bind ?_ (fun _ => ?_)
set_option maxHeartbeats 8000000 in
set_option maxRecDepth 100000 in
theorem impl_rowBytes.calls (k : Nat) (A0_0 : Option Addr) (c0_0 : Nat) (l0_0 : List Int) (r : ByteArray) (w : World) (hr0_0 : Kd.C (Kd.int .i64) w A0_0 l0_0.length l0_0) (hc0_0 : l0_0.length ≤ c0_0) (h : impl_rowBytes.f k l0_0 = some r) :
  Calls Try.prog 20 #[.agg #[.slice A0_0 l0_0.length c0_0]] w fun e w' => e = .returned (.string r) ∧ Below w.heap.size w w' := by
 have hu25 := Try.underlying25
 have HR0_0 := xm hr0_0
 have HC0_0 := xm hc0_0
 clear hr0_0 hc0_0
 have HB := xm (Below.refl w.heap.size w)
 have H : (impl_rowBytes.l0 k (([((l0_0.length : Int)) % 256] : List Int)) l0_0 (l0_0.length : Int) 0) = some r := h
 clear h
 obtain ⟨y178, hy178⟩ : ∃ y_ : List Int, y_ = (([((l0_0.length : Int)) % 256] : List Int)) := ⟨_, rfl⟩
 replace H : (impl_rowBytes.l0 k y178 l0_0 (l0_0.length : Int) 0) = some r := by first | (rw [hy178]; with_reducible exact H) | (have H2_ := (Option.bind_some _ _).symm.trans H; rw [hy178]; with_reducible exact H2_) | (have H2_ := (Option.bind_some _ _).symm.trans H; with_reducible exact H2_) | with_reducible exact H | (rw [hy178]; exact H) | exact H
 have Ny178 := xm hy178
 clear hy178
 have H' := xm H
 clear H
 go_enter Try.func20, Try.ntmps20
 go_wp2_with (first | ((with_reducible refine gate_dst (N := 1) rfl ?_); refine box_event ?hg (N := 1) ?hd (cs := #[.slice A0_0 l0_0.length c0_0]) (t := 25) ?hr ?_; (case hd => rfl); (case hg => rfl); (case hr => exact zB); intro gb177 hg w2 hbox hb; have n0_ := xm (below_step bB hb); have n1_ := xm (hbox); have n2_ := xm ((by rw [hg]; exact (xz bB) : w.heap.size ≤ gb177)); have n3_ := xm ((by rw [hg]; exact (xz bB) : w.heap.size ≤ gb177)); revert n0_ n1_ n2_ n3_; clear HB; intro HB BK177 GW177 GE177; clear hb hbox hg; obtain ⟨hcz3_0, hfz3_0⟩ := cz1 BK177.out) | ((with_reducible refine gate_dst (N := 10) rfl ?_); refine Kd.R_lit (Kd.int .u8) _ 5 ?hg (N := 10) ?hd (xs := ([((l0_0.length : Int)) % 256] : List Int)) (inner := [.int .u8 (((l0_0.length : Int)) % 256)]) (ok := fun _ => True) (okp := fun _ => True) ?hr ?hp (fun _ hk => hk) trivial (Below.refl _ _) (Nat.le_refl _) (by simp) ?_; (case hd => rfl); (case hg => rfl); (case hr => exact zB); (case hp => exact (Reps.one (show Kd.M (Kd.int .u8) _ _ _ (((l0_0.length : Int)) % 256) [.int .u8 (((l0_0.length : Int)) % 256)] from rfl) (Reps.none _ _))); intro v179 w4 ho5 hb hg_ hnew_; clear hg_ hnew_; (first | rw [← Ny178.out] at ho5 | (simp only [Int.reduceToNat] at ho5; rw [← Ny178.out] at ho5)); have n0_ := xm (Kd.R_lower ho5 (xz bG)); have n1_ := xm (blk_below (kB BK177) hb); have n2_ := xm (below_step bG hb); revert n0_ n1_ n2_; clear BK177 HB; intro HO180 BK177 HB; clear hb ho5; obtain ⟨hcz6_0, hfz6_0⟩ := cz1 BK177.out))
 go_loopg [3, 14] k (fun kq v3 v14 w' => ∃ (x3_1 : List Int) (x14_1 : Int), v14 = .int .i64 x14_1 ∧ Aside0 (impl_rowBytes.l0 kq x3_1 l0_0 (l0_0.length : Int) x14_1 = some r) ∧ Aside0 (kq ≤ k) ∧ Aside0 (Kd.R (Kd.int .u8) 5 w' w.heap.size (fun _ => True) v3 x3_1) ∧ Aside0 (w'.heap[gb177]? = some (.cells #[(.slice A0_0 l0_0.length c0_0)] 25 (0, 0))) ∧ Aside0 (Below w.heap.size w w'))
 case atStart => exact ⟨(y178), (0), sB, H', ⟨Nat.le_refl _⟩, ⟨rB HO180⟩, ⟨kB BK177⟩, ⟨bG⟩⟩
 case round =>
  clear H'
  try clear c2
  try clear p2
  try clear hcz3_0
  try clear hcz6_0
  try clear hfz3_0
  try clear hfz6_0
  obtain ⟨x3_1, x14_1, rfl, HA, HK1, HO_3, BK177, HB⟩ := hrel
  cases gk with
  | zero => exact absurd HA.out (by simp [impl_rowBytes.l0])
  | succ k1 =>
   have H := HA.out
   clear HA
   simp only [impl_rowBytes.l0] at H
   by_cases c7 : x14_1 < (l0_0.length : Int)
   ·rw [if_pos c7] at H
    have c7b0 : decide (x14_1 < (l0_0.length : Int)) = true := decide_eq_true c7
    clear c7
    by_cases c8 : 0 ≤ x14_1
    ·rw [if_pos c8] at H
     have c8b0 : decide (0 ≤ x14_1) = true := decide_eq_true c8
     clear c8
     by_cases c9 : x14_1 < (l0_0.length : Int)
     ·rw [if_pos c9] at H
      have c9b0 : decide (x14_1 < (l0_0.length : Int)) = true := decide_eq_true c9
      clear c9
      obtain ⟨y182, hy182⟩ : ∃ y_ : List Int, y_ = (([((wrap64 ((rd l0_0 x14_1) + 100000)) / 65536) % 256, ((wrap64 ((rd l0_0 x14_1) + 100000)) / 256) % 256, (wrap64 ((rd l0_0 x14_1) + 100000)) % 256] : List Int)) := ⟨_, rfl⟩
      replace H : (if x3_1.length + y182.length < 140737488355328 then (impl_rowBytes.l0 k1 (x3_1 ++ y182) l0_0 (l0_0.length : Int) (wrap64 (x14_1 + 1))) else (none)) = some r := by first | (rw [hy182]; with_reducible exact H) | (have H2_ := (Option.bind_some _ _).symm.trans H; rw [hy182]; with_reducible exact H2_) | (have H2_ := (Option.bind_some _ _).symm.trans H; with_reducible exact H2_) | with_reducible exact H | (rw [hy182]; exact H) | exact H
      have Ny182 := xm hy182
      clear hy182
      by_cases c10 : x3_1.length + y182.length < 140737488355328
      ·rw [if_pos c10] at H
       have LMc10 := xm c10
       clear c10
       obtain ⟨y185, hy185⟩ : ∃ y_ : List Int, y_ = (x3_1 ++ y182) := ⟨_, rfl⟩
       replace H : (impl_rowBytes.l0 k1 y185 l0_0 (l0_0.length : Int) (wrap64 (x14_1 + 1))) = some r := by first | (rw [hy185]; with_reducible exact H) | (have H2_ := (Option.bind_some _ _).symm.trans H; rw [hy185]; with_reducible exact H2_) | (have H2_ := (Option.bind_some _ _).symm.trans H; with_reducible exact H2_) | with_reducible exact H | (rw [hy185]; exact H) | exact H
       have Ny185 := xm hy185
       clear hy185
       have H' := xm H
       clear H
       have p181 : 0 ≤ (x14_1 : Int) := of_decide_eq_true aB
       have q181 : x14_1 < (l0_0.length : Int) := of_decide_eq_true aB
       obtain ⟨ad181, e181, hx181_0⟩ := Kd.at_int HR0_0.out x14_1 p181 q181
       cases e181
       replace hx181_0 := hU hx181_0
       replace p181 := eq_true p181
       replace q181 := eq_true q181
       go_wp2_with (first | ((with_reducible refine gate_dst (N := 29) rfl ?_); refine Kd.R_lit (Kd.int .u8) _ 5 ?hg (N := 29) ?hd (xs := ([((wrap64 ((rd l0_0 x14_1) + 100000)) / 65536) % 256, ((wrap64 ((rd l0_0 x14_1) + 100000)) / 256) % 256, (wrap64 ((rd l0_0 x14_1) + 100000)) % 256] : List Int)) (inner := [.int .u8 (((wrap64 ((rd l0_0 x14_1) + 100000)) / 65536) % 256), .int .u8 (((wrap64 ((rd l0_0 x14_1) + 100000)) / 256) % 256), .int .u8 ((wrap64 ((rd l0_0 x14_1) + 100000)) % 256)]) (ok := fun _ => True) (okp := fun _ => True) ?hr ?hp (fun _ hk => hk) trivial (Below.refl _ _) (Nat.le_refl _) (by simp) ?_; (case hd => rfl); (case hg => rfl); (case hr => exact zB); (case hp => exact (Reps.one (show Kd.M (Kd.int .u8) _ _ _ (((wrap64 ((rd l0_0 x14_1) + 100000)) / 65536) % 256) [.int .u8 (((wrap64 ((rd l0_0 x14_1) + 100000)) / 65536) % 256)] from rfl) (Reps.one (show Kd.M (Kd.int .u8) _ _ _ (((wrap64 ((rd l0_0 x14_1) + 100000)) / 256) % 256) [.int .u8 (((wrap64 ((rd l0_0 x14_1) + 100000)) / 256) % 256)] from rfl) (Reps.one (show Kd.M (Kd.int .u8) _ _ _ ((wrap64 ((rd l0_0 x14_1) + 100000)) % 256) [.int .u8 ((wrap64 ((rd l0_0 x14_1) + 100000)) % 256)] from rfl) (Reps.none _ _))))); intro v183 w11 ho12 hb hg_ hnew_; clear hg_ hnew_; (first | rw [← Ny182.out] at ho12 | (simp only [Int.reduceToNat] at ho12; rw [← Ny182.out] at ho12)); have n0_ := xm (Kd.R_elder' (rB HO_3) (Kd.R_base ho12) hb); have n1_ := xm (Kd.R_lower (Kd.R_new' ho12 (Kd.R_lt (rB HO_3))) (xz bG)); have n2_ := xm (blk_below (kB BK177) hb); have n3_ := xm (below_step bG hb); revert n0_ n1_ n2_ n3_; clear HO_3 BK177 HB; intro HO_3 HO184 BK177 HB; clear hb ho12; obtain ⟨Ao14, co14, eo14⟩ := Kd.R_slice HO184.out; subst eo14) | ((with_reducible refine gate_builtin (b := .append) (xs := #[.tmp 20, .tmp 29]) rfl ?_); at_builtin; refine Kd.R_append_rows (Kd.int .u8) (w0 := w) w.heap.size rfl (.tmp 20) (.tmp 29) 22 5 (.int .u8 0) 1 rfl Try.underlying22 info5 rfl (by decide) (by omega) u3 x3_1 y182 _ _ _ (fun k_ => some k_ ≠ (.slice Ao14 y182.length co14 : Value).ownBlock) (fun _ => False) rfl rfl ?aO ?aR (fun _ _ h => h) (fun _ h => h.elim) ?aF ?aB ?aS ?aL ?_; (case aR => repeat (first | exact (Kd.R_reads' HO184.out).2.2 | (with_reducible refine Kd.C_alloc ?_ _) | (with_reducible refine Kd.C_drewN ?_ _) | (with_reducible refine Kd.C_drew ?_))); (case aB => exact bG); (case aF => exact (fun k_ hk => Kd.fresh' (Kd.R_lt (rB HO184)) k_ hk)); (case aO => exact (by (with_reducible repeat (first | apply Kd.R_alloc | apply Kd.R_drewN | apply Kd.R_drew)); exact Kd.R_mono HO_3.out (fun _ hk => hk.2))); (case aS => exact (xz bG)); (case aL => have := LMc10.out; omega); intro v186 w13 ho hb hg hat; rw [← Ny185.out] at ho; have n0_ := xm (blk_grown (kB BK177) hg (Kd.R_ne HO_3.out BK177.out (by decide))); have n1_ := xm (Kd.R_after (ok := (fun _ => True)) (rB HO184) hg hat); have n2_ := xm (hb); have n3_ := xm (ho); revert n0_ n1_ n2_ n3_; clear BK177 HO184 HB HO_3; intro BK177 HO184 HB HO187; clear ho hb hg hat))
       go_roundg k1
       case measure => have := HK1.out; omega
       case rel => exact ⟨(y185), (wrap64 (x14_1 + 1)), sB, H', ⟨by have := HK1.out; omega⟩, ⟨by (with_reducible repeat (first | apply Kd.R_alloc | apply Kd.R_drewN | apply Kd.R_drew)); exact Kd.R_mono HO187.out (fun _ hk => trivial)⟩, ⟨kB BK177⟩, ⟨bG⟩⟩
      ·rw [if_neg c10] at H
       exact absurd H (by simp)
     ·rw [if_neg c9] at H
      exact absurd H (by simp)
    ·rw [if_neg c8] at H
     exact absurd H (by simp)
   ·rw [if_neg c7] at H
    have c7b0 : decide (x14_1 < (l0_0.length : Int)) = false := decide_eq_false c7
    clear c7
    obtain rfl := Option.some.inj H
    have hcv15 := own_string (P := Try.prog) Try.underlying22 Try.underlying5 Try.underlying9 (Kd.own_of_R HO_3.out)
    go_wp2
    go_ret
    exact ⟨eB, bG⟩

/-! ### impl_RowBytes: function 7 -/
def impl_RowBytes.f (k : Nat) (l0_0 : List Int) : Option (ByteArray × Bool) := (impl_GoodRow.f l0_0).bind fun t189 => (if t189 = true then ((impl_rowBytes.f k l0_0).bind fun t190 => (some (t190, true))) else (some ((⟨#[]⟩ : ByteArray), false)))
theorem impl_RowBytes.mono : ∀ a0 k, LeO (impl_RowBytes.f k a0) (impl_RowBytes.f (k + 1) a0) := by
 intro a0 k
 unfold impl_RowBytes.f
 repeat' first
   | (with_reducible exact impl_rowBytes.mono _ _)
   | (with_reducible exact LeO.refl _)
   | (with_reducible exact LeO.none _)
   | (with_reducible refine LeO.ite ?_ ?_)
   | (with_reducible refine LeO.bind ?_ (fun _ => ?_))
   | exact impl_rowBytes.mono _ _
   | exact LeO.none _
   | refine LeO.ite ?_ ?_
   | refine LeO.bind ?_ (fun _ => ?_)
set_option maxHeartbeats 8000000 in
set_option maxRecDepth 100000 in
theorem impl_RowBytes.calls (k : Nat) (A0_0 : Option Addr) (c0_0 : Nat) (l0_0 : List Int) (r1 : ByteArray) (r2 : Bool) (w : World) (hr0_0 : Kd.C (Kd.int .i64) w A0_0 l0_0.length l0_0) (hc0_0 : l0_0.length ≤ c0_0) (h : impl_RowBytes.f k l0_0 = some (r1, r2)) :
  Calls Try.prog 7 #[.agg #[.slice A0_0 l0_0.length c0_0]] w fun e w' => e = .returned (.tuple #[.string r1, .bool r2]) ∧ Below w.heap.size w w' := by
 have hu25 := Try.underlying25
 have HR0_0 := xm hr0_0
 have HC0_0 := xm hc0_0
 clear hr0_0 hc0_0
 have HB := xm (Below.refl w.heap.size w)
 have H : ((impl_GoodRow.f l0_0).bind fun t189 => (if t189 = true then ((impl_rowBytes.f k l0_0).bind fun t190 => (some (t190, true))) else (some ((⟨#[]⟩ : ByteArray), false)))) = some (r1, r2) := h
 clear h
 replace H := Option.bind_eq_some_iff.mp H
 obtain ⟨t189, A20, H⟩ := H
 replace H : (if t189 = true then ((impl_rowBytes.f k l0_0).bind fun t190 => (some (t190, true))) else (some ((⟨#[]⟩ : ByteArray), false))) = some (r1, r2) := H
 have A2 := xm A20
 clear A20
 by_cases c3 : t189 = true
 ·subst c3
  have H1 : ((impl_rowBytes.f k l0_0).bind fun t190 => (some (t190, true))) = some (r1, r2) := by first | (with_reducible rfl) | (rw [if_pos rfl] at H; exact H)
  clear H
  have H := H1
  clear H1
  replace H := Option.bind_eq_some_iff.mp H
  obtain ⟨t190, A40, H⟩ := H
  replace H : (some (t190, true)) = some (r1, r2) := H
  have A4 := xm A40
  clear A40
  simp only [Option.some.injEq, Prod.mk.injEq] at H
  obtain ⟨rfl, rfl⟩ := H
  go_enter Try.func7, Try.ntmps7
  go_wp2_with (first | ((with_reducible refine gate_dst (N := 1) rfl ?_); refine box_event ?hg (N := 1) ?hd (cs := #[.slice A0_0 l0_0.length c0_0]) (t := 25) ?hr ?_; (case hd => rfl); (case hg => rfl); (case hr => exact zB); intro gb188 hg w5 hbox hb; have n0_ := xm (below_step bB hb); have n1_ := xm (hbox); have n2_ := xm ((by rw [hg]; exact (xz bB) : w.heap.size ≤ gb188)); have n3_ := xm ((by rw [hg]; exact (xz bB) : w.heap.size ≤ gb188)); revert n0_ n1_ n2_ n3_; clear HB; intro HB BK188 GW188 GE188; clear hb hbox hg; obtain ⟨hcz6_0, hfz6_0⟩ := cz1 BK188.out) | ((with_reducible refine gate_callee (f := 9) rfl ?_); refine goesL_ (some 5) rfl rfl Try.func9 (by kernel_rfl) rfl #[.agg #[.slice A0_0 l0_0.length c0_0]] rfl mB ?_; (with_reducible refine (impl_GoodRow.calls _ _ l0_0 true _ ?side1 ?side2 A2.out).mono ?_); (case side1 => exact cB (Kd.C_below HR0_0.out HB.out)); (case side2 => exact HC0_0.out); rintro e w7 ⟨rfl, hb⟩; refine ⟨_, rfl, ?_⟩; have n0_ := xm (blk_below (kB BK188) hb); have n1_ := xm (below_step bG hb); revert n0_ n1_; clear BK188 HB; intro BK188 HB; (try clear hb); obtain ⟨hcz8_0, hfz8_0⟩ := cz1 BK188.out) | ((with_reducible refine gate_callee (f := 20) rfl ?_); refine goesL_ (some 8) rfl rfl Try.func20 (by kernel_rfl) rfl #[.agg #[.slice A0_0 l0_0.length c0_0]] rfl mB ?_; (with_reducible refine (impl_rowBytes.calls k _ _ l0_0 t190 _ ?side1 ?side2 A4.out).mono ?_); (case side1 => exact cB (Kd.C_below HR0_0.out HB.out)); (case side2 => exact HC0_0.out); rintro e w9 ⟨rfl, hb⟩; refine ⟨_, rfl, ?_⟩; have n0_ := xm (blk_below (kB BK188) hb); have n1_ := xm (below_step bG hb); revert n0_ n1_; clear BK188 HB; intro BK188 HB; (try clear hb)))
  go_ret2
  exact ⟨eB, bG⟩
 ·replace c3 := Bool.eq_false_iff.mpr c3
  subst c3
  have H1 : (some ((⟨#[]⟩ : ByteArray), false)) = some (r1, r2) := by first | (with_reducible rfl) | (rw [if_neg (show ¬ (false = true) by decide)] at H; exact H)
  clear H
  have H := H1
  clear H1
  simp only [Option.some.injEq, Prod.mk.injEq] at H
  obtain ⟨rfl, rfl⟩ := H
  go_enter Try.func7, Try.ntmps7
  go_wp2_with (first | ((with_reducible refine gate_dst (N := 1) rfl ?_); refine box_event ?hg (N := 1) ?hd (cs := #[.slice A0_0 l0_0.length c0_0]) (t := 25) ?hr ?_; (case hd => rfl); (case hg => rfl); (case hr => exact zB); intro gb188 hg w10 hbox hb; have n0_ := xm (below_step bB hb); have n1_ := xm (hbox); have n2_ := xm ((by rw [hg]; exact (xz bB) : w.heap.size ≤ gb188)); have n3_ := xm ((by rw [hg]; exact (xz bB) : w.heap.size ≤ gb188)); revert n0_ n1_ n2_ n3_; clear HB; intro HB BK188 GW188 GE188; clear hb hbox hg; obtain ⟨hcz11_0, hfz11_0⟩ := cz1 BK188.out) | ((with_reducible refine gate_callee (f := 9) rfl ?_); refine goesL_ (some 5) rfl rfl Try.func9 (by kernel_rfl) rfl #[.agg #[.slice A0_0 l0_0.length c0_0]] rfl mB ?_; (with_reducible refine (impl_GoodRow.calls _ _ l0_0 false _ ?side1 ?side2 A2.out).mono ?_); (case side1 => exact cB (Kd.C_below HR0_0.out HB.out)); (case side2 => exact HC0_0.out); rintro e w12 ⟨rfl, hb⟩; refine ⟨_, rfl, ?_⟩; have n0_ := xm (blk_below (kB BK188) hb); have n1_ := xm (below_step bG hb); revert n0_ n1_; clear BK188 HB; intro BK188 HB; (try clear hb)))
  go_ret2
  exact ⟨eB, bG⟩

end Go.Proofs.Ytaddemalepndfai.G
