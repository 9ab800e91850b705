/- Written by a program of this claim's own, out of the translation: functions of the program as plain functions, and that the calls answer as these. No conditions. -/
import Derived.Test.YtmelechhnimlnacG0
namespace Go.Proofs.Ytmelechhnimlnac.G
open Go.RowKit Go.Proofs.Ytmelechhnimlnac.X Go.Proofs.YtmelechhnimlnacW.PrintWords Go.Proofs.YtmelechhnimlnacW.PrintLast Go.Proofs.YtmelechhnimlnacW.PrintMore
attribute [local go_sem] max2_int min2_int max_two min_two max_three min_three max_four min_four   -- for this text's walks alone
set_option linter.unusedVariables false
set_option linter.unusedSimpArgs false

/-! ### spec_l1Compare: function 28 -/
mutual
def spec_l1Compare.l0 : Nat → Int → List Int → List Int → Option (Int)
 | 0, _, _, _ => none
 | k + 1, x5, x117000, x118000 => if x5 < (x117000.length : Int) then (spec_l1Compare.j1 k x5 (decide (x5 < (x118000.length : Int))) x117000 x118000) else (spec_l1Compare.j1 k x5 false x117000 x118000)
def spec_l1Compare.j1 : Nat → Int → Bool → List Int → List Int → Option (Int)
 | 0, _, _, _, _ => none
 | k + 1, x5, x17, x117000, x118000 => if x17 = true then (if 0 ≤ x5 then (if x5 < (x117000.length : Int) then (if x5 < (x118000.length : Int) then (if (rd x117000 x5) < (rd x118000 x5) then (some (-1)) else (if (rd x117000 x5) > (rd x118000 x5) then (some 1) else (spec_l1Compare.l0 k (wrap64 (x5 + 1)) x117000 x118000))) else (none)) else (none)) else (none)) else (if (x117000.length : Int) < (x118000.length : Int) then (some (-1)) else (if (x117000.length : Int) > (x118000.length : Int) then (some 1) else (some 0)))
end
def spec_l1Compare.f (k : Nat) (l0_0 : List Int) (l1_0 : List Int) : Option (Int) := spec_l1Compare.l0 k 0 l0_0 l1_0
theorem spec_l1Compare.mono_l : ∀ k, (∀ y0 y1 y2, LeO (spec_l1Compare.l0 k y0 y1 y2) (spec_l1Compare.l0 (k + 1) y0 y1 y2)) ∧ (∀ y0 y1 y2 y3, LeO (spec_l1Compare.j1 k y0 y1 y2 y3) (spec_l1Compare.j1 (k + 1) y0 y1 y2 y3))
 | 0 => ⟨fun _ _ _ r h => by simp [spec_l1Compare.l0] at h, fun _ _ _ _ r h => by simp [spec_l1Compare.j1] at h⟩
 | k + 1 => by
  obtain ⟨ih0, ih1⟩ := spec_l1Compare.mono_l k
  refine ⟨?_, ?_⟩
  ·intro y0 y1 y2
   unfold spec_l1Compare.l0
   repeat' first
   | (with_reducible exact ih0 _ _ _)
   | (with_reducible exact ih1 _ _ _ _)
   | (with_reducible exact LeO.refl _)
   | (with_reducible exact LeO.none _)
   | (with_reducible refine LeO.ite ?_ ?_)
   | (with_reducible refine LeO.bind ?_ (fun _ => ?_))
   | exact ih0 _ _ _
   | exact ih1 _ _ _ _
   | exact LeO.none _
   | refine LeO.ite ?_ ?_
   | refine LeO.bind ?_ (fun _ => ?_)
  ·intro y0 y1 y2 y3
   unfold spec_l1Compare.j1
   repeat' first
   | (with_reducible exact ih0 _ _ _)
   | (with_reducible exact ih1 _ _ _ _)
   | (with_reducible exact LeO.refl _)
   | (with_reducible exact LeO.none _)
   | (with_reducible refine LeO.ite ?_ ?_)
   | (with_reducible refine LeO.bind ?_ (fun _ => ?_))
   | exact ih0 _ _ _
   | exact ih1 _ _ _ _
   | exact LeO.none _
   | refine LeO.ite ?_ ?_
   | refine LeO.bind ?_ (fun _ => ?_)
theorem spec_l1Compare.mono : ∀ a0 a1 k, LeO (spec_l1Compare.f k a0 a1) (spec_l1Compare.f (k + 1) a0 a1) := by
 intro a0 a1 k
 obtain ⟨ih0, ih1⟩ := spec_l1Compare.mono_l k
 unfold spec_l1Compare.f
 repeat' first
   | (with_reducible exact ih0 _ _ _)
   | (with_reducible exact ih1 _ _ _ _)
   | (with_reducible exact LeO.refl _)
   | (with_reducible exact LeO.none _)
   | (with_reducible refine LeO.ite ?_ ?_)
   | (with_reducible refine LeO.bind ?_ (fun _ => ?_))
   | exact ih0 _ _ _
   | exact ih1 _ _ _ _
   | exact LeO.none _
   | refine LeO.ite ?_ ?_
   | refine LeO.bind ?_ (fun _ => ?_)
set_option maxHeartbeats 8000000 in
set_option maxRecDepth 100000 in
theorem spec_l1Compare.calls (k : Nat) (A0_0 : Option Addr) (c0_0 : Nat) (l0_0 : List Int) (A1_0 : Option Addr) (c1_0 : Nat) (l1_0 : List Int) (r : Int) (w : World) (hr0_0 : Kd.C (Kd.int .i64) w A0_0 l0_0.length l0_0) (hc0_0 : l0_0.length ≤ c0_0) (hr1_0 : Kd.C (Kd.int .i64) w A1_0 l1_0.length l1_0) (hc1_0 : l1_0.length ≤ c1_0) (h : spec_l1Compare.f k l0_0 l1_0 = some r) :
  Calls Try.prog 28 #[.agg #[.slice A0_0 l0_0.length c0_0], .agg #[.slice A1_0 l1_0.length c1_0]] w fun e w' => e = .returned (.int .i64 r) ∧ Below w.heap.size w w' := by
 have hu50 := Try.underlying50
 have HR0_0 := xm hr0_0
 have HC0_0 := xm hc0_0
 clear hr0_0 hc0_0
 have HR1_0 := xm hr1_0
 have HC1_0 := xm hc1_0
 clear hr1_0 hc1_0
 have HB := xm (Below.refl w.heap.size w)
 have H : (spec_l1Compare.l0 k 0 l0_0 l1_0) = some r := h
 clear h
 have H' := xm H
 clear H
 go_enter Try.func28, Try.ntmps28
 go_wp2_with (first | ((with_reducible refine gate_dst (N := 2) rfl ?_); (try (refine gate_guard (by rfl) ?_; dsimp only)); refine box_event ?hg (N := 2) ?hd (cs := #[.slice A0_0 l0_0.length c0_0]) (t := 50) ?hr ?_; (case hd => rfl); (case hg => rfl); (case hr => exact zB); intro gb116 hg w3 hbox hb; have n0_ := xm (below_step bB hb); have n1_ := xm (hbox); have n2_ := xm ((by rw [hg]; exact (xz bB) : w.heap.size ≤ gb116)); have n3_ := xm ((by rw [hg]; exact (xz bB) : w.heap.size ≤ gb116)); revert n0_ n1_ n2_ n3_; clear HB; intro HB BK116 GW116 GE116; clear hb hbox hg) | ((with_reducible refine gate_dst (N := 3) rfl ?_); (try (refine gate_guard (by rfl) ?_; dsimp only)); refine box_event ?hg (N := 3) ?hd (cs := #[.slice A1_0 l1_0.length c1_0]) (t := 50) ?hr ?_; (case hd => rfl); (case hg => rfl); (case hr => exact zB); intro gb117 hg w4 hbox hb; have n0_ := xm (blk_below (kB BK116) hb); have n1_ := xm (below_step bG hb); have n2_ := xm (hbox); have n3_ := xm ((by rw [hg]; exact (xz bG) : w.heap.size ≤ gb117)); have n4_ := xm ((by rw [hg]; exact (xz bG) : w.heap.size ≤ gb117)); have n5_ := xm ((by rw [hg]; exact Nat.ne_of_lt (blk_lt (kB BK116)) : gb116 ≠ gb117)); have n6_ := xm ((by rw [hg]; exact Nat.ne_of_gt (blk_lt (kB BK116)) : gb117 ≠ gb116)); revert n0_ n1_ n2_ n3_ n4_ n5_ n6_; clear BK116 HB; intro BK116 HB BK117 GW117 GE117 NB116_117 NB117_116; clear hb hbox hg))
 repeat (go_quiet (first | ((with_reducible refine gate_dst (N := 2) rfl ?_); (try (refine gate_guard (by rfl) ?_; dsimp only)); refine box_event ?hg (N := 2) ?hd (cs := #[.slice A0_0 l0_0.length c0_0]) (t := 50) ?hr ?_; (case hd => rfl); (case hg => rfl); (case hr => exact zB); intro gb116 hg w3 hbox hb; have n0_ := xm (below_step bB hb); have n1_ := xm (hbox); have n2_ := xm ((by rw [hg]; exact (xz bB) : w.heap.size ≤ gb116)); have n3_ := xm ((by rw [hg]; exact (xz bB) : w.heap.size ≤ gb116)); revert n0_ n1_ n2_ n3_; clear HB; intro HB BK116 GW116 GE116; clear hb hbox hg) | ((with_reducible refine gate_dst (N := 3) rfl ?_); (try (refine gate_guard (by rfl) ?_; dsimp only)); refine box_event ?hg (N := 3) ?hd (cs := #[.slice A1_0 l1_0.length c1_0]) (t := 50) ?hr ?_; (case hd => rfl); (case hg => rfl); (case hr => exact zB); intro gb117 hg w4 hbox hb; have n0_ := xm (blk_below (kB BK116) hb); have n1_ := xm (below_step bG hb); have n2_ := xm (hbox); have n3_ := xm ((by rw [hg]; exact (xz bG) : w.heap.size ≤ gb117)); have n4_ := xm ((by rw [hg]; exact (xz bG) : w.heap.size ≤ gb117)); have n5_ := xm ((by rw [hg]; exact Nat.ne_of_lt (blk_lt (kB BK116)) : gb116 ≠ gb117)); have n6_ := xm ((by rw [hg]; exact Nat.ne_of_gt (blk_lt (kB BK116)) : gb117 ≠ gb116)); revert n0_ n1_ n2_ n3_ n4_ n5_ n6_; clear BK116 HB; intro BK116 HB BK117 GW117 GE117 NB116_117 NB117_116; clear hb hbox hg)); try go_wp2_with (first | ((with_reducible refine gate_dst (N := 2) rfl ?_); (try (refine gate_guard (by rfl) ?_; dsimp only)); refine box_event ?hg (N := 2) ?hd (cs := #[.slice A0_0 l0_0.length c0_0]) (t := 50) ?hr ?_; (case hd => rfl); (case hg => rfl); (case hr => exact zB); intro gb116 hg w3 hbox hb; have n0_ := xm (below_step bB hb); have n1_ := xm (hbox); have n2_ := xm ((by rw [hg]; exact (xz bB) : w.heap.size ≤ gb116)); have n3_ := xm ((by rw [hg]; exact (xz bB) : w.heap.size ≤ gb116)); revert n0_ n1_ n2_ n3_; clear HB; intro HB BK116 GW116 GE116; clear hb hbox hg) | ((with_reducible refine gate_dst (N := 3) rfl ?_); (try (refine gate_guard (by rfl) ?_; dsimp only)); refine box_event ?hg (N := 3) ?hd (cs := #[.slice A1_0 l1_0.length c1_0]) (t := 50) ?hr ?_; (case hd => rfl); (case hg => rfl); (case hr => exact zB); intro gb117 hg w4 hbox hb; have n0_ := xm (blk_below (kB BK116) hb); have n1_ := xm (below_step bG hb); have n2_ := xm (hbox); have n3_ := xm ((by rw [hg]; exact (xz bG) : w.heap.size ≤ gb117)); have n4_ := xm ((by rw [hg]; exact (xz bG) : w.heap.size ≤ gb117)); have n5_ := xm ((by rw [hg]; exact Nat.ne_of_lt (blk_lt (kB BK116)) : gb116 ≠ gb117)); have n6_ := xm ((by rw [hg]; exact Nat.ne_of_gt (blk_lt (kB BK116)) : gb117 ≠ gb116)); revert n0_ n1_ n2_ n3_ n4_ n5_ n6_; clear BK116 HB; intro BK116 HB BK117 GW117 GE117 NB116_117 NB117_116; clear hb hbox hg)))
 go_loopg [5] k (fun kq v5 w' => ∃ (x5_1 : Int), v5 = .int .i64 x5_1 ∧ Aside0 (spec_l1Compare.l0 kq x5_1 l0_0 l1_0 = some r) ∧ Aside0 (kq ≤ k) ∧ Aside0 (w'.heap[gb116]? = some (.cells #[(.slice A0_0 l0_0.length c0_0)] 50 (0, 0))) ∧ Aside0 (w'.heap[gb117]? = some (.cells #[(.slice A1_0 l1_0.length c1_0)] 50 (0, 0))) ∧ Aside0 (Below w.heap.size w w'))
 case atStart => exact ⟨(0), sB, H', ⟨Nat.le_refl _⟩, ⟨kB BK116⟩, ⟨kB BK117⟩, ⟨bG⟩⟩
 case round =>
  clear H'
  try clear c1
  try clear c2
  try clear p2
  obtain ⟨x5_1, rfl, HA, HK1, BK116, BK117, HB⟩ := hrel
  cases gk with
  | zero => exact absurd HA.out (by simp [spec_l1Compare.l0])
  | succ k1 =>
   have H := HA.out
   clear HA
   simp only [spec_l1Compare.l0] at H
   have HC5 := xm H
   clear H
   go_upto_region 2 with (fail)
   repeat (go_quiet (fail); go_upto_region 2 with (fail))
   go_cut [17] (fun v17 wc => ∃ (kq : Nat) (x17_4 : Bool), v17 = .bool x17_4 ∧ Aside0 (spec_l1Compare.j1 kq x5_1 x17_4 l0_0 l1_0 = some r) ∧ Aside0 (kq ≤ k1) ∧ Aside0 (wc.heap[gb116]? = some (.cells #[(.slice A0_0 l0_0.length c0_0)] 50 (0, 0))) ∧ Aside0 (wc.heap[gb117]? = some (.cells #[(.slice A1_0 l1_0.length c1_0)] 50 (0, 0))) ∧ Aside0 (Below w.heap.size w wc))
   case first =>
    have H := HC5.out
    clear HC5
    by_cases c6 : x5_1 < (l0_0.length : Int)
    ·rw [if_pos c6] at H
     have c6b0 : decide (x5_1 < (l0_0.length : Int)) = true := decide_eq_true c6
     clear c6
     (first | rw [c6b0] | (simp only [i64_w, i32_w]; rw [c6b0]) | skip)
     have H' := xm H
     clear H
     have hnb7 := NB116_117.out
     have hnc7 := NB117_116.out
     obtain ⟨hcz8_0, hfz8_0⟩ := cz1 BK116.out
     obtain ⟨hcz9_0, hfz9_0⟩ := cz1 BK117.out
     go_wp2
     repeat (go_quiet (fail); try go_wp2)
     go_meet
     case rel => exact ⟨_, (decide (x5_1 < (l1_0.length : Int))), sB, H', ⟨by have := HK1.out; first | omega | exact Nat.le_refl _⟩, ⟨kB BK116⟩, ⟨kB BK117⟩, ⟨bG⟩⟩
    ·rw [if_neg c6] at H
     have c6b0 : decide (x5_1 < (l0_0.length : Int)) = false := decide_eq_false c6
     clear c6
     (first | rw [c6b0] | (simp only [i64_w, i32_w]; rw [c6b0]) | skip)
     have H' := xm H
     clear H
     have hnb10 := NB116_117.out
     have hnc10 := NB117_116.out
     obtain ⟨hcz11_0, hfz11_0⟩ := cz1 BK116.out
     go_wp2
     repeat (go_quiet (fail); try go_wp2)
     go_meet
     case rel => exact ⟨_, (false), sB, H', ⟨by have := HK1.out; first | omega | exact Nat.le_refl _⟩, ⟨kB BK116⟩, ⟨kB BK117⟩, ⟨bG⟩⟩
   case rest =>
    clear HC5
    try clear c1
    try clear c2
    try clear p2
    try clear c6
    try clear c6b0
    try clear c7
    try clear c10
    try clear hcz11_0
    try clear hcz8_0
    try clear hcz9_0
    try clear hfz11_0
    try clear hfz8_0
    try clear hfz9_0
    try clear p2
    obtain ⟨kq, x17_4, rfl, HA, HJ4, BK116, BK117, HB⟩ := hcut
    cases kq with
    | zero => exact absurd HA.out (by simp [spec_l1Compare.j1])
    | succ kj4 =>
     have H := HA.out
     clear HA
     simp only [spec_l1Compare.j1] at H
     by_cases c12 : x17_4 = true
     ·subst c12
      have H1 : (if 0 ≤ x5_1 then (if x5_1 < (l0_0.length : Int) then (if x5_1 < (l1_0.length : Int) then (if (rd l0_0 x5_1) < (rd l1_0 x5_1) then (some (-1)) else (if (rd l0_0 x5_1) > (rd l1_0 x5_1) then (some 1) else (spec_l1Compare.l0 kj4 (wrap64 (x5_1 + 1)) l0_0 l1_0))) else (none)) else (none)) else (none)) = some r := by first | (with_reducible rfl) | (rw [if_pos rfl] at H; exact H)
      clear H
      have H := H1
      clear H1
      by_cases c13 : 0 ≤ x5_1
      ·rw [if_pos c13] at H
       have c13b0 : decide (0 ≤ x5_1) = true := decide_eq_true c13
       clear c13
       by_cases c14 : x5_1 < (l0_0.length : Int)
       ·rw [if_pos c14] at H
        have c14b0 : decide (x5_1 < (l0_0.length : Int)) = true := decide_eq_true c14
        clear c14
        by_cases c15 : x5_1 < (l1_0.length : Int)
        ·rw [if_pos c15] at H
         have c15b0 : decide (x5_1 < (l1_0.length : Int)) = true := decide_eq_true c15
         clear c15
         by_cases c16 : (rd l0_0 x5_1) < (rd l1_0 x5_1)
         ·rw [if_pos c16] at H
          have c16b0 : decide ((rd l0_0 x5_1) < (rd l1_0 x5_1)) = true := decide_eq_true c16
          clear c16
          obtain rfl := Option.some.inj H
          have hnb17 := NB116_117.out
          have hnc17 := NB117_116.out
          obtain ⟨hcz18_0, hfz18_0⟩ := cz1 BK116.out
          have p118 : 0 ≤ (x5_1 : Int) := of_decide_eq_true aB
          have q118 : x5_1 < (l0_0.length : Int) := of_decide_eq_true aB
          obtain ⟨ad118, e118, hx118_0⟩ := Kd.at_int HR0_0.out x5_1 p118 q118
          cases e118
          replace hx118_0 := hU hx118_0
          replace p118 := eq_true p118
          replace q118 := eq_true q118
          obtain ⟨hcz19_0, hfz19_0⟩ := cz1 BK117.out
          have p119 : 0 ≤ (x5_1 : Int) := of_decide_eq_true aB
          have q119 : x5_1 < (l1_0.length : Int) := of_decide_eq_true aB
          obtain ⟨ad119, e119, hx119_0⟩ := Kd.at_int HR1_0.out x5_1 p119 q119
          cases e119
          replace hx119_0 := hU hx119_0
          replace p119 := eq_true p119
          replace q119 := eq_true q119
          go_wp2
          repeat (go_quiet (fail); try go_wp2)
          go_ret
          exact ⟨eB, bG⟩
         ·rw [if_neg c16] at H
          have c16b0 : decide ((rd l0_0 x5_1) < (rd l1_0 x5_1)) = false := decide_eq_false c16
          clear c16
          by_cases c20 : (rd l0_0 x5_1) > (rd l1_0 x5_1)
          ·rw [if_pos c20] at H
           have c20b0 : decide ((rd l1_0 x5_1) < (rd l0_0 x5_1)) = true := decide_eq_true c20
           clear c20
           obtain rfl := Option.some.inj H
           have hnb21 := NB116_117.out
           have hnc21 := NB117_116.out
           obtain ⟨hcz22_0, hfz22_0⟩ := cz1 BK116.out
           have p118 : 0 ≤ (x5_1 : Int) := of_decide_eq_true aB
           have q118 : x5_1 < (l0_0.length : Int) := of_decide_eq_true aB
           obtain ⟨ad118, e118, hx118_0⟩ := Kd.at_int HR0_0.out x5_1 p118 q118
           cases e118
           replace hx118_0 := hU hx118_0
           replace p118 := eq_true p118
           replace q118 := eq_true q118
           obtain ⟨hcz23_0, hfz23_0⟩ := cz1 BK117.out
           have p119 : 0 ≤ (x5_1 : Int) := of_decide_eq_true aB
           have q119 : x5_1 < (l1_0.length : Int) := of_decide_eq_true aB
           obtain ⟨ad119, e119, hx119_0⟩ := Kd.at_int HR1_0.out x5_1 p119 q119
           cases e119
           replace hx119_0 := hU hx119_0
           replace p119 := eq_true p119
           replace q119 := eq_true q119
           have p120 : 0 ≤ (x5_1 : Int) := of_decide_eq_true aB
           have q120 : x5_1 < (l0_0.length : Int) := of_decide_eq_true aB
           obtain ⟨ad120, e120, hx120_0⟩ := Kd.at_int HR0_0.out x5_1 p120 q120
           obtain rfl : ad118 = ad120 := (by injection e120)
           replace hx120_0 := hU hx120_0
           replace p120 := eq_true p120
           replace q120 := eq_true q120
           have p121 : 0 ≤ (x5_1 : Int) := of_decide_eq_true aB
           have q121 : x5_1 < (l1_0.length : Int) := of_decide_eq_true aB
           obtain ⟨ad121, e121, hx121_0⟩ := Kd.at_int HR1_0.out x5_1 p121 q121
           obtain rfl : ad119 = ad121 := (by injection e121)
           replace hx121_0 := hU hx121_0
           replace p121 := eq_true p121
           replace q121 := eq_true q121
           go_wp2
           repeat (go_quiet (fail); try go_wp2)
           go_ret
           exact ⟨eB, bG⟩
          ·rw [if_neg c20] at H
           have c20b0 : decide ((rd l1_0 x5_1) < (rd l0_0 x5_1)) = false := decide_eq_false c20
           clear c20
           have H' := xm H
           clear H
           have hnb24 := NB116_117.out
           have hnc24 := NB117_116.out
           obtain ⟨hcz25_0, hfz25_0⟩ := cz1 BK116.out
           have p118 : 0 ≤ (x5_1 : Int) := of_decide_eq_true aB
           have q118 : x5_1 < (l0_0.length : Int) := of_decide_eq_true aB
           obtain ⟨ad118, e118, hx118_0⟩ := Kd.at_int HR0_0.out x5_1 p118 q118
           cases e118
           replace hx118_0 := hU hx118_0
           replace p118 := eq_true p118
           replace q118 := eq_true q118
           obtain ⟨hcz26_0, hfz26_0⟩ := cz1 BK117.out
           have p119 : 0 ≤ (x5_1 : Int) := of_decide_eq_true aB
           have q119 : x5_1 < (l1_0.length : Int) := of_decide_eq_true aB
           obtain ⟨ad119, e119, hx119_0⟩ := Kd.at_int HR1_0.out x5_1 p119 q119
           cases e119
           replace hx119_0 := hU hx119_0
           replace p119 := eq_true p119
           replace q119 := eq_true q119
           have p120 : 0 ≤ (x5_1 : Int) := of_decide_eq_true aB
           have q120 : x5_1 < (l0_0.length : Int) := of_decide_eq_true aB
           obtain ⟨ad120, e120, hx120_0⟩ := Kd.at_int HR0_0.out x5_1 p120 q120
           obtain rfl : ad118 = ad120 := (by injection e120)
           replace hx120_0 := hU hx120_0
           replace p120 := eq_true p120
           replace q120 := eq_true q120
           have p121 : 0 ≤ (x5_1 : Int) := of_decide_eq_true aB
           have q121 : x5_1 < (l1_0.length : Int) := of_decide_eq_true aB
           obtain ⟨ad121, e121, hx121_0⟩ := Kd.at_int HR1_0.out x5_1 p121 q121
           obtain rfl : ad119 = ad121 := (by injection e121)
           replace hx121_0 := hU hx121_0
           replace p121 := eq_true p121
           replace q121 := eq_true q121
           go_wp2
           repeat (go_quiet (fail); try go_wp2)
           go_roundg kj4
           case measure => have := HK1.out; have := HJ4.out; omega
           case rel => exact ⟨(wrap64 (x5_1 + 1)), sB, H', ⟨by have := HK1.out; have := HJ4.out; omega⟩, ⟨kB BK116⟩, ⟨kB BK117⟩, ⟨bG⟩⟩
        ·rw [if_neg c15] at H
         exact absurd H (by simp)
       ·rw [if_neg c14] at H
        exact absurd H (by simp)
      ·rw [if_neg c13] at H
       exact absurd H (by simp)
     ·replace c12 := Bool.eq_false_iff.mpr c12
      subst c12
      have H1 : (if (l0_0.length : Int) < (l1_0.length : Int) then (some (-1)) else (if (l0_0.length : Int) > (l1_0.length : Int) then (some 1) else (some 0))) = some r := by first | (with_reducible rfl) | (rw [if_neg (show ¬ (false = true) by decide)] at H; exact H)
      clear H
      have H := H1
      clear H1
      by_cases c27 : (l0_0.length : Int) < (l1_0.length : Int)
      ·rw [if_pos c27] at H
       have c27b0 : decide ((l0_0.length : Int) < (l1_0.length : Int)) = true := decide_eq_true c27
       have c27b1 : decide (l0_0.length < l1_0.length) = true := decide_eq_true (Int.ofNat_lt.mp c27)
       clear c27
       obtain rfl := Option.some.inj H
       have hnb28 := NB116_117.out
       have hnc28 := NB117_116.out
       obtain ⟨hcz29_0, hfz29_0⟩ := cz1 BK116.out
       obtain ⟨hcz30_0, hfz30_0⟩ := cz1 BK117.out
       go_wp2
       repeat (go_quiet (fail); try go_wp2)
       go_ret
       exact ⟨eB, bG⟩
      ·rw [if_neg c27] at H
       have c27b0 : decide ((l0_0.length : Int) < (l1_0.length : Int)) = false := decide_eq_false c27
       have c27b1 : decide (l0_0.length < l1_0.length) = false := decide_eq_false (fun h => c27 (Int.ofNat_lt.mpr h))
       clear c27
       by_cases c31 : (l0_0.length : Int) > (l1_0.length : Int)
       ·rw [if_pos c31] at H
        have c31b0 : decide ((l1_0.length : Int) < (l0_0.length : Int)) = true := decide_eq_true c31
        have c31b1 : decide (l1_0.length < l0_0.length) = true := decide_eq_true (Int.ofNat_lt.mp c31)
        clear c31
        obtain rfl := Option.some.inj H
        have hnb32 := NB116_117.out
        have hnc32 := NB117_116.out
        obtain ⟨hcz33_0, hfz33_0⟩ := cz1 BK116.out
        obtain ⟨hcz34_0, hfz34_0⟩ := cz1 BK117.out
        go_wp2
        repeat (go_quiet (fail); try go_wp2)
        go_ret
        exact ⟨eB, bG⟩
       ·rw [if_neg c31] at H
        have c31b0 : decide ((l1_0.length : Int) < (l0_0.length : Int)) = false := decide_eq_false c31
        have c31b1 : decide (l1_0.length < l0_0.length) = false := decide_eq_false (fun h => c31 (Int.ofNat_lt.mpr h))
        clear c31
        obtain rfl := Option.some.inj H
        have hnb35 := NB116_117.out
        have hnc35 := NB117_116.out
        obtain ⟨hcz36_0, hfz36_0⟩ := cz1 BK116.out
        obtain ⟨hcz37_0, hfz37_0⟩ := cz1 BK117.out
        go_wp2
        repeat (go_quiet (fail); try go_wp2)
        go_ret
        exact ⟨eB, bG⟩

end Go.Proofs.Ytmelechhnimlnac.G
