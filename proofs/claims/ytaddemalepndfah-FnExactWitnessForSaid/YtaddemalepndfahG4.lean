/- Written by a program of this claim's own, out of the translation: functions of the program as plain functions, and that the calls answer as these. No conditions. -/
import Derived.Test.YtaddemalepndfahG0
import Derived.Test.YtaddemalepndfahG1
namespace Go.Proofs.Ytaddemalepndfah.G
open Go.RowKit Go.Proofs.Ytaddemalepndfah.X Go.Proofs.YtaddemalepndfahW.PrintWords Go.Proofs.YtaddemalepndfahW.PrintLast Go.Proofs.YtaddemalepndfahW.PrintMore
attribute [local go_sem] max2_int min2_int max_two min_two max_three min_three max_four min_four   -- for this text's walks alone
set_option linter.unusedVariables false
set_option linter.unusedSimpArgs false

/-! ### spec_GoodRow: function 48 -/
def spec_GoodRow.l0 : Nat → List Int → Int → Int → List Int → Option (Bool)
 | 0, _, _, _, _ => none
 | k + 1, x6, x7, x8, x185000 => if x8 < x7 then (if 0 ≤ x8 then (if x8 < (x6.length : Int) then ((spec_l1In.f (rd x6 x8) (-100000) 100000).bind fun t186 => (if t186 = true then (spec_GoodRow.l0 k x6 x7 (wrap64 (x8 + 1)) x185000) else (some false))) else (none)) else (none)) else (some (decide ((x185000.length : Int) ≤ 6)))
def spec_GoodRow.f (k : Nat) (l0_0 : List Int) : Option (Bool) := spec_GoodRow.l0 k l0_0 (l0_0.length : Int) 0 l0_0
theorem spec_GoodRow.mono_l : ∀ k, (∀ y0 y1 y2 y3, LeO (spec_GoodRow.l0 k y0 y1 y2 y3) (spec_GoodRow.l0 (k + 1) y0 y1 y2 y3))
 | 0 => fun _ _ _ _ r h => by simp [spec_GoodRow.l0] at h
 | k + 1 => by
  have ih0 := spec_GoodRow.mono_l k
  ·intro y0 y1 y2 y3
   unfold spec_GoodRow.l0
   repeat' first
   | (with_reducible exact ih0 _ _ _ _)
   | (with_reducible exact LeO.refl _)
   | (with_reducible exact LeO.none _)
   | (with_reducible refine LeO.ite ?_ ?_)
   | (with_reducible refine LeO.bind ?_ (fun _ => ?_))
   | exact ih0 _ _ _ _
   | exact LeO.none _
   | refine LeO.ite ?_ ?_
   | refine LeO.bind ?_ (fun _ => ?_)
theorem spec_GoodRow.mono : ∀ a0 k, LeO (spec_GoodRow.f k a0) (spec_GoodRow.f (k + 1) a0) := by
 intro a0 k
 have ih0 := spec_GoodRow.mono_l k
 unfold spec_GoodRow.f
 repeat' first
   | (with_reducible exact ih0 _ _ _ _)
   | (with_reducible exact LeO.refl _)
   | (with_reducible exact LeO.none _)
   | (with_reducible refine LeO.ite ?_ ?_)
   | (with_reducible refine LeO.bind ?_ (fun _ => ?_))
   | exact ih0 _ _ _ _
   | exact LeO.none _
   | refine LeO.ite ?_ ?_
   | refine LeO.bind ?_ (fun _ => ?_)
set_option maxHeartbeats 8000000 in
set_option maxRecDepth 100000 in
theorem spec_GoodRow.calls (k : Nat) (A0_0 : Option Addr) (c0_0 : Nat) (l0_0 : List Int) (r : Bool) (w : World) (hr0_0 : Kd.C (Kd.int .i64) w A0_0 l0_0.length l0_0) (hc0_0 : l0_0.length ≤ c0_0) (h : spec_GoodRow.f k l0_0 = some r) :
  Calls Try.prog 48 #[.agg #[.slice A0_0 l0_0.length c0_0]] w fun e w' => e = .returned (.bool r) ∧ Below w.heap.size w w' := by
 have hu49 := Try.underlying49
 have HR0_0 := xm hr0_0
 have HC0_0 := xm hc0_0
 clear hr0_0 hc0_0
 have HB := xm (Below.refl w.heap.size w)
 have H : (spec_GoodRow.l0 k l0_0 (l0_0.length : Int) 0 l0_0) = some r := h
 clear h
 have H' := xm H
 clear H
 go_enter Try.func48, Try.ntmps48
 go_wp2_with (first | ((with_reducible refine gate_dst (N := 1) rfl ?_); refine box_event ?hg (N := 1) ?hd (cs := #[.slice A0_0 l0_0.length c0_0]) (t := 49) ?hr ?_; (case hd => rfl); (case hg => rfl); (case hr => exact zB); intro gb184 hg w2 hbox hb; have n0_ := xm (below_step bB hb); have n1_ := xm (hbox); have n2_ := xm ((by rw [hg]; exact (xz bB) : w.heap.size ≤ gb184)); have n3_ := xm ((by rw [hg]; exact (xz bB) : w.heap.size ≤ gb184)); revert n0_ n1_ n2_ n3_; clear HB; intro HB BK184 GW184 GE184; clear hb hbox hg; obtain ⟨hcz3_0, hfz3_0⟩ := cz1 BK184.out))
 go_loopg [8] k (fun kq v8 w' => ∃ (x8_1 : Int), v8 = .int .i64 x8_1 ∧ Aside0 (spec_GoodRow.l0 kq l0_0 (l0_0.length : Int) x8_1 l0_0 = some r) ∧ Aside0 (kq ≤ k) ∧ Aside0 (w'.heap[gb184]? = some (.cells #[(.slice A0_0 l0_0.length c0_0)] 49 (0, 0))) ∧ Aside0 (Below w.heap.size w w'))
 case atStart => exact ⟨(0), sB, H', ⟨Nat.le_refl _⟩, ⟨kB BK184⟩, ⟨bG⟩⟩
 case round =>
  clear H'
  try clear p2
  try clear hcz3_0 hfz3_0
  obtain ⟨x8_1, rfl, HA, HK1, BK184, HB⟩ := hrel
  cases gk with
  | zero => exact absurd HA.out (by simp [spec_GoodRow.l0])
  | succ k1 =>
   have H := HA.out
   clear HA
   simp only [spec_GoodRow.l0] at H
   by_cases c4 : x8_1 < (l0_0.length : Int)
   ·rw [if_pos c4] at H
    have c4b0 : decide (x8_1 < (l0_0.length : Int)) = true := decide_eq_true c4
    clear c4
    by_cases c5 : 0 ≤ x8_1
    ·rw [if_pos c5] at H
     have c5b0 : decide (0 ≤ x8_1) = true := decide_eq_true c5
     clear c5
     by_cases c6 : x8_1 < (l0_0.length : Int)
     ·rw [if_pos c6] at H
      have c6b0 : decide (x8_1 < (l0_0.length : Int)) = true := decide_eq_true c6
      clear c6
      replace H := Option.bind_eq_some_iff.mp H
      obtain ⟨t186, A70, H⟩ := H
      replace H : (if t186 = true then (spec_GoodRow.l0 k1 l0_0 (l0_0.length : Int) (wrap64 (x8_1 + 1)) l0_0) else (some false)) = some r := H
      have A7 := xm A70
      clear A70
      by_cases c8 : t186 = true
      ·subst c8
       have H1 : (spec_GoodRow.l0 k1 l0_0 (l0_0.length : Int) (wrap64 (x8_1 + 1)) l0_0) = some r := by first | (with_reducible rfl) | (rw [if_pos rfl] at H; exact H)
       clear H
       have H := H1
       clear H1
       have H' := xm H
       clear H
       have p185 : 0 ≤ (x8_1 : Int) := of_decide_eq_true aB
       have q185 : x8_1 < (l0_0.length : Int) := of_decide_eq_true aB
       obtain ⟨ad185, e185, hx185_0⟩ := Kd.at_int HR0_0.out x8_1 p185 q185
       cases e185
       replace hx185_0 := hU hx185_0
       replace p185 := eq_true p185
       replace q185 := eq_true q185
       go_wp2_with (first | ((with_reducible refine gate_callee (f := 46) rfl ?_); refine goesL_ (some 13) rfl rfl Try.func46 (by kernel_rfl) rfl #[.int .i64 (rd l0_0 x8_1), .int .i64 (-100000), .int .i64 100000] rfl mB ?_; (with_reducible refine (spec_l1In.calls (rd l0_0 x8_1) (-100000) 100000 true _ A7.out).mono ?_); rintro e w' ⟨rfl, ⟨nd, rfl⟩⟩; refine ⟨_, rfl, ?_⟩))
       go_roundg k1
       case measure => have := HK1.out; omega
       case rel => exact ⟨(wrap64 (x8_1 + 1)), sB, H', ⟨by have := HK1.out; omega⟩, ⟨kB BK184⟩, ⟨bG⟩⟩
      ·replace c8 := Bool.eq_false_iff.mpr c8
       subst c8
       have H1 : (some false) = some r := by first | (with_reducible rfl) | (rw [if_neg (show ¬ (false = true) by decide)] at H; exact H)
       clear H
       have H := H1
       clear H1
       obtain rfl := Option.some.inj H
       have p185 : 0 ≤ (x8_1 : Int) := of_decide_eq_true aB
       have q185 : x8_1 < (l0_0.length : Int) := of_decide_eq_true aB
       obtain ⟨ad185, e185, hx185_0⟩ := Kd.at_int HR0_0.out x8_1 p185 q185
       cases e185
       replace hx185_0 := hU hx185_0
       replace p185 := eq_true p185
       replace q185 := eq_true q185
       go_wp2_with (first | ((with_reducible refine gate_callee (f := 46) rfl ?_); refine goesL_ (some 13) rfl rfl Try.func46 (by kernel_rfl) rfl #[.int .i64 (rd l0_0 x8_1), .int .i64 (-100000), .int .i64 100000] rfl mB ?_; (with_reducible refine (spec_l1In.calls (rd l0_0 x8_1) (-100000) 100000 false _ A7.out).mono ?_); rintro e w' ⟨rfl, ⟨nd, rfl⟩⟩; refine ⟨_, rfl, ?_⟩))
       go_ret
       exact ⟨eB, bG⟩
     ·rw [if_neg c6] at H
      exact absurd H (by simp)
    ·rw [if_neg c5] at H
     exact absurd H (by simp)
   ·rw [if_neg c4] at H
    have c4b0 : decide (x8_1 < (l0_0.length : Int)) = false := decide_eq_false c4
    clear c4
    obtain rfl := Option.some.inj H
    obtain ⟨hcz9_0, hfz9_0⟩ := cz1 BK184.out
    go_wp2
    go_ret
    exact ⟨eB, bG⟩

/-! ### spec_l2Weight: function 49 -/
def spec_l2Weight.f (a0 : Int) : Option (Bool) := (spec_l1In.f a0 (-1000000) 1000000).bind fun t187 => (some t187)
set_option maxHeartbeats 8000000 in
set_option maxRecDepth 100000 in
theorem spec_l2Weight.calls (a0 : Int) (r : Bool) (w : World) (h : spec_l2Weight.f a0 = some r) :
  Calls Try.prog 49 #[.int .i64 a0] w fun e w' => e = .returned (.bool r) ∧ Drawn0 w w' := by
 have H : ((spec_l1In.f a0 (-1000000) 1000000).bind fun t187 => (some t187)) = some r := h
 clear h
 replace H := Option.bind_eq_some_iff.mp H
 obtain ⟨t187, A20, H⟩ := H
 replace H : (some t187) = some r := H
 have A2 := xm A20
 clear A20
 obtain rfl := Option.some.inj H
 go_enter Try.func49, Try.ntmps49
 go_wp2_with (first | ((with_reducible refine gate_callee (f := 46) rfl ?_); refine goesL_ (some 4) rfl rfl Try.func46 (by kernel_rfl) rfl #[.int .i64 a0, .int .i64 (-1000000), .int .i64 1000000] rfl mB ?_; (with_reducible refine (spec_l1In.calls a0 (-1000000) 1000000 t187 _ A2.out).mono ?_); rintro e w' ⟨rfl, ⟨nd, rfl⟩⟩; refine ⟨_, rfl, ?_⟩))
 go_ret
 exact ⟨sB, dB⟩

/-! ### spec_l1Compare: function 50 -/
mutual
def spec_l1Compare.l0 : Nat → Int → List Int → List Int → Option (Int)
 | 0, _, _, _ => none
 | k + 1, x5, x189000, x190000 => if x5 < (x189000.length : Int) then (spec_l1Compare.j1 k x5 (decide (x5 < (x190000.length : Int))) x189000 x190000) else (spec_l1Compare.j1 k x5 false x189000 x190000)
def spec_l1Compare.j1 : Nat → Int → Bool → List Int → List Int → Option (Int)
 | 0, _, _, _, _ => none
 | k + 1, x5, x17, x189000, x190000 => if x17 = true then (if 0 ≤ x5 then (if x5 < (x189000.length : Int) then (if x5 < (x190000.length : Int) then (if (rd x189000 x5) < (rd x190000 x5) then (some (-1)) else (if (rd x189000 x5) > (rd x190000 x5) then (some 1) else (spec_l1Compare.l0 k (wrap64 (x5 + 1)) x189000 x190000))) else (none)) else (none)) else (none)) else (if (x189000.length : Int) < (x190000.length : Int) then (some (-1)) else (if (x189000.length : Int) > (x190000.length : Int) then (some 1) else (some 0)))
end
def spec_l1Compare.f (k : Nat) (l0_0 : List Int) (l1_0 : List Int) : Option (Int) := spec_l1Compare.l0 k 0 l0_0 l1_0
theorem spec_l1Compare.mono_l : ∀ k, (∀ y0 y1 y2, LeO (spec_l1Compare.l0 k y0 y1 y2) (spec_l1Compare.l0 (k + 1) y0 y1 y2)) ∧ (∀ y0 y1 y2 y3, LeO (spec_l1Compare.j1 k y0 y1 y2 y3) (spec_l1Compare.j1 (k + 1) y0 y1 y2 y3))
 | 0 => ⟨fun _ _ _ r h => by simp [spec_l1Compare.l0] at h, fun _ _ _ _ r h => by simp [spec_l1Compare.j1] at h⟩
 | k + 1 => by
  obtain ⟨ih0, ih1⟩ := spec_l1Compare.mono_l k
  refine ⟨?_, ?_⟩
  ·intro y0 y1 y2
   unfold spec_l1Compare.l0
   repeat' first
   | (with_reducible exact ih0 _ _ _)
   | (with_reducible exact ih1 _ _ _ _)
   | (with_reducible exact LeO.refl _)
   | (with_reducible exact LeO.none _)
   | (with_reducible refine LeO.ite ?_ ?_)
   | (with_reducible refine LeO.bind ?_ (fun _ => ?_))
   | exact ih0 _ _ _
   | exact ih1 _ _ _ _
   | exact LeO.none _
   | refine LeO.ite ?_ ?_
   | refine LeO.bind ?_ (fun _ => ?_)
  ·intro y0 y1 y2 y3
   unfold spec_l1Compare.j1
   repeat' first
   | (with_reducible exact ih0 _ _ _)
   | (with_reducible exact ih1 _ _ _ _)
   | (with_reducible exact LeO.refl _)
   | (with_reducible exact LeO.none _)
   | (with_reducible refine LeO.ite ?_ ?_)
   | (with_reducible refine LeO.bind ?_ (fun _ => ?_))
   | exact ih0 _ _ _
   | exact ih1 _ _ _ _
   | exact LeO.none _
   | refine LeO.ite ?_ ?_
   | refine LeO.bind ?_ (fun _ => ?_)
theorem spec_l1Compare.mono : ∀ a0 a1 k, LeO (spec_l1Compare.f k a0 a1) (spec_l1Compare.f (k + 1) a0 a1) := by
 intro a0 a1 k
 obtain ⟨ih0, ih1⟩ := spec_l1Compare.mono_l k
 unfold spec_l1Compare.f
 repeat' first
   | (with_reducible exact ih0 _ _ _)
   | (with_reducible exact ih1 _ _ _ _)
   | (with_reducible exact LeO.refl _)
   | (with_reducible exact LeO.none _)
   | (with_reducible refine LeO.ite ?_ ?_)
   | (with_reducible refine LeO.bind ?_ (fun _ => ?_))
   | exact ih0 _ _ _
   | exact ih1 _ _ _ _
   | exact LeO.none _
   | refine LeO.ite ?_ ?_
   | refine LeO.bind ?_ (fun _ => ?_)
set_option maxHeartbeats 8000000 in
set_option maxRecDepth 100000 in
theorem spec_l1Compare.calls (k : Nat) (A0_0 : Option Addr) (c0_0 : Nat) (l0_0 : List Int) (A1_0 : Option Addr) (c1_0 : Nat) (l1_0 : List Int) (r : Int) (w : World) (hr0_0 : Kd.C (Kd.int .i64) w A0_0 l0_0.length l0_0) (hc0_0 : l0_0.length ≤ c0_0) (hr1_0 : Kd.C (Kd.int .i64) w A1_0 l1_0.length l1_0) (hc1_0 : l1_0.length ≤ c1_0) (h : spec_l1Compare.f k l0_0 l1_0 = some r) :
  Calls Try.prog 50 #[.agg #[.slice A0_0 l0_0.length c0_0], .agg #[.slice A1_0 l1_0.length c1_0]] w fun e w' => e = .returned (.int .i64 r) ∧ Below w.heap.size w w' := by
 have hu49 := Try.underlying49
 have HR0_0 := xm hr0_0
 have HC0_0 := xm hc0_0
 clear hr0_0 hc0_0
 have HR1_0 := xm hr1_0
 have HC1_0 := xm hc1_0
 clear hr1_0 hc1_0
 have HB := xm (Below.refl w.heap.size w)
 have H : (spec_l1Compare.l0 k 0 l0_0 l1_0) = some r := h
 clear h
 have H' := xm H
 clear H
 go_enter Try.func50, Try.ntmps50
 go_wp2_with (first | ((with_reducible refine gate_dst (N := 2) rfl ?_); (try (refine gate_guard (by rfl) ?_; dsimp only)); refine box_event ?hg (N := 2) ?hd (cs := #[.slice A0_0 l0_0.length c0_0]) (t := 49) ?hr ?_; (case hd => rfl); (case hg => rfl); (case hr => exact zB); intro gb188 hg w3 hbox hb; have n0_ := xm (below_step bB hb); have n1_ := xm (hbox); have n2_ := xm ((by rw [hg]; exact (xz bB) : w.heap.size ≤ gb188)); have n3_ := xm ((by rw [hg]; exact (xz bB) : w.heap.size ≤ gb188)); revert n0_ n1_ n2_ n3_; clear HB; intro HB BK188 GW188 GE188; clear hb hbox hg) | ((with_reducible refine gate_dst (N := 3) rfl ?_); (try (refine gate_guard (by rfl) ?_; dsimp only)); refine box_event ?hg (N := 3) ?hd (cs := #[.slice A1_0 l1_0.length c1_0]) (t := 49) ?hr ?_; (case hd => rfl); (case hg => rfl); (case hr => exact zB); intro gb189 hg w4 hbox hb; have n0_ := xm (blk_below (kB BK188) hb); have n1_ := xm (below_step bG hb); have n2_ := xm (hbox); have n3_ := xm ((by rw [hg]; exact (xz bG) : w.heap.size ≤ gb189)); have n4_ := xm ((by rw [hg]; exact (xz bG) : w.heap.size ≤ gb189)); have n5_ := xm ((by rw [hg]; exact Nat.ne_of_lt (blk_lt (kB BK188)) : gb188 ≠ gb189)); have n6_ := xm ((by rw [hg]; exact Nat.ne_of_gt (blk_lt (kB BK188)) : gb189 ≠ gb188)); revert n0_ n1_ n2_ n3_ n4_ n5_ n6_; clear BK188 HB; intro BK188 HB BK189 GW189 GE189 NB188_189 NB189_188; clear hb hbox hg))
 repeat (go_quiet (first | ((with_reducible refine gate_dst (N := 2) rfl ?_); (try (refine gate_guard (by rfl) ?_; dsimp only)); refine box_event ?hg (N := 2) ?hd (cs := #[.slice A0_0 l0_0.length c0_0]) (t := 49) ?hr ?_; (case hd => rfl); (case hg => rfl); (case hr => exact zB); intro gb188 hg w3 hbox hb; have n0_ := xm (below_step bB hb); have n1_ := xm (hbox); have n2_ := xm ((by rw [hg]; exact (xz bB) : w.heap.size ≤ gb188)); have n3_ := xm ((by rw [hg]; exact (xz bB) : w.heap.size ≤ gb188)); revert n0_ n1_ n2_ n3_; clear HB; intro HB BK188 GW188 GE188; clear hb hbox hg) | ((with_reducible refine gate_dst (N := 3) rfl ?_); (try (refine gate_guard (by rfl) ?_; dsimp only)); refine box_event ?hg (N := 3) ?hd (cs := #[.slice A1_0 l1_0.length c1_0]) (t := 49) ?hr ?_; (case hd => rfl); (case hg => rfl); (case hr => exact zB); intro gb189 hg w4 hbox hb; have n0_ := xm (blk_below (kB BK188) hb); have n1_ := xm (below_step bG hb); have n2_ := xm (hbox); have n3_ := xm ((by rw [hg]; exact (xz bG) : w.heap.size ≤ gb189)); have n4_ := xm ((by rw [hg]; exact (xz bG) : w.heap.size ≤ gb189)); have n5_ := xm ((by rw [hg]; exact Nat.ne_of_lt (blk_lt (kB BK188)) : gb188 ≠ gb189)); have n6_ := xm ((by rw [hg]; exact Nat.ne_of_gt (blk_lt (kB BK188)) : gb189 ≠ gb188)); revert n0_ n1_ n2_ n3_ n4_ n5_ n6_; clear BK188 HB; intro BK188 HB BK189 GW189 GE189 NB188_189 NB189_188; clear hb hbox hg)); try go_wp2_with (first | ((with_reducible refine gate_dst (N := 2) rfl ?_); (try (refine gate_guard (by rfl) ?_; dsimp only)); refine box_event ?hg (N := 2) ?hd (cs := #[.slice A0_0 l0_0.length c0_0]) (t := 49) ?hr ?_; (case hd => rfl); (case hg => rfl); (case hr => exact zB); intro gb188 hg w3 hbox hb; have n0_ := xm (below_step bB hb); have n1_ := xm (hbox); have n2_ := xm ((by rw [hg]; exact (xz bB) : w.heap.size ≤ gb188)); have n3_ := xm ((by rw [hg]; exact (xz bB) : w.heap.size ≤ gb188)); revert n0_ n1_ n2_ n3_; clear HB; intro HB BK188 GW188 GE188; clear hb hbox hg) | ((with_reducible refine gate_dst (N := 3) rfl ?_); (try (refine gate_guard (by rfl) ?_; dsimp only)); refine box_event ?hg (N := 3) ?hd (cs := #[.slice A1_0 l1_0.length c1_0]) (t := 49) ?hr ?_; (case hd => rfl); (case hg => rfl); (case hr => exact zB); intro gb189 hg w4 hbox hb; have n0_ := xm (blk_below (kB BK188) hb); have n1_ := xm (below_step bG hb); have n2_ := xm (hbox); have n3_ := xm ((by rw [hg]; exact (xz bG) : w.heap.size ≤ gb189)); have n4_ := xm ((by rw [hg]; exact (xz bG) : w.heap.size ≤ gb189)); have n5_ := xm ((by rw [hg]; exact Nat.ne_of_lt (blk_lt (kB BK188)) : gb188 ≠ gb189)); have n6_ := xm ((by rw [hg]; exact Nat.ne_of_gt (blk_lt (kB BK188)) : gb189 ≠ gb188)); revert n0_ n1_ n2_ n3_ n4_ n5_ n6_; clear BK188 HB; intro BK188 HB BK189 GW189 GE189 NB188_189 NB189_188; clear hb hbox hg)))
 go_loopg [5] k (fun kq v5 w' => ∃ (x5_1 : Int), v5 = .int .i64 x5_1 ∧ Aside0 (spec_l1Compare.l0 kq x5_1 l0_0 l1_0 = some r) ∧ Aside0 (kq ≤ k) ∧ Aside0 (w'.heap[gb188]? = some (.cells #[(.slice A0_0 l0_0.length c0_0)] 49 (0, 0))) ∧ Aside0 (w'.heap[gb189]? = some (.cells #[(.slice A1_0 l1_0.length c1_0)] 49 (0, 0))) ∧ Aside0 (Below w.heap.size w w'))
 case atStart => exact ⟨(0), sB, H', ⟨Nat.le_refl _⟩, ⟨kB BK188⟩, ⟨kB BK189⟩, ⟨bG⟩⟩
 case round =>
  clear H'
  try clear c1
  try clear p2
  obtain ⟨x5_1, rfl, HA, HK1, BK188, BK189, HB⟩ := hrel
  cases gk with
  | zero => exact absurd HA.out (by simp [spec_l1Compare.l0])
  | succ k1 =>
   have H := HA.out
   clear HA
   simp only [spec_l1Compare.l0] at H
   have HC5 := xm H
   clear H
   go_upto_region 2 with (fail)
   repeat (go_quiet (fail); go_upto_region 2 with (fail))
   go_cut [17] (fun v17 wc => ∃ (kq : Nat) (x17_4 : Bool), v17 = .bool x17_4 ∧ Aside0 (spec_l1Compare.j1 kq x5_1 x17_4 l0_0 l1_0 = some r) ∧ Aside0 (kq ≤ k1) ∧ Aside0 (wc.heap[gb188]? = some (.cells #[(.slice A0_0 l0_0.length c0_0)] 49 (0, 0))) ∧ Aside0 (wc.heap[gb189]? = some (.cells #[(.slice A1_0 l1_0.length c1_0)] 49 (0, 0))) ∧ Aside0 (Below w.heap.size w wc))
   case first =>
    have H := HC5.out
    clear HC5
    by_cases c6 : x5_1 < (l0_0.length : Int)
    ·rw [if_pos c6] at H
     have c6b0 : decide (x5_1 < (l0_0.length : Int)) = true := decide_eq_true c6
     clear c6
     (first | rw [c6b0] | (simp only [i64_w, i32_w]; rw [c6b0]) | skip)
     have H' := xm H
     clear H
     have hnb7 := NB188_189.out
     have hnc7 := NB189_188.out
     obtain ⟨hcz8_0, hfz8_0⟩ := cz1 BK188.out
     obtain ⟨hcz9_0, hfz9_0⟩ := cz1 BK189.out
     go_wp2
     repeat (go_quiet (fail); try go_wp2)
     go_meet
     case rel => exact ⟨_, (decide (x5_1 < (l1_0.length : Int))), sB, H', ⟨by have := HK1.out; first | omega | exact Nat.le_refl _⟩, ⟨kB BK188⟩, ⟨kB BK189⟩, ⟨bG⟩⟩
    ·rw [if_neg c6] at H
     have c6b0 : decide (x5_1 < (l0_0.length : Int)) = false := decide_eq_false c6
     clear c6
     (first | rw [c6b0] | (simp only [i64_w, i32_w]; rw [c6b0]) | skip)
     have H' := xm H
     clear H
     have hnb10 := NB188_189.out
     have hnc10 := NB189_188.out
     obtain ⟨hcz11_0, hfz11_0⟩ := cz1 BK188.out
     go_wp2
     repeat (go_quiet (fail); try go_wp2)
     go_meet
     case rel => exact ⟨_, (false), sB, H', ⟨by have := HK1.out; first | omega | exact Nat.le_refl _⟩, ⟨kB BK188⟩, ⟨kB BK189⟩, ⟨bG⟩⟩
   case rest =>
    clear HC5
    try clear c1
    try clear p2
    try clear c5
    try clear c6
    try clear c6b0
    try clear c7
    try clear c10
    try clear hcz11_0
    try clear hcz8_0
    try clear hcz9_0
    try clear hfz11_0
    try clear hfz8_0
    try clear hfz9_0
    try clear p2
    obtain ⟨kq, x17_4, rfl, HA, HJ4, BK188, BK189, HB⟩ := hcut
    cases kq with
    | zero => exact absurd HA.out (by simp [spec_l1Compare.j1])
    | succ kj4 =>
     have H := HA.out
     clear HA
     simp only [spec_l1Compare.j1] at H
     by_cases c12 : x17_4 = true
     ·subst c12
      have H1 : (if 0 ≤ x5_1 then (if x5_1 < (l0_0.length : Int) then (if x5_1 < (l1_0.length : Int) then (if (rd l0_0 x5_1) < (rd l1_0 x5_1) then (some (-1)) else (if (rd l0_0 x5_1) > (rd l1_0 x5_1) then (some 1) else (spec_l1Compare.l0 kj4 (wrap64 (x5_1 + 1)) l0_0 l1_0))) else (none)) else (none)) else (none)) = some r := by first | (with_reducible rfl) | (rw [if_pos rfl] at H; exact H)
      clear H
      have H := H1
      clear H1
      by_cases c13 : 0 ≤ x5_1
      ·rw [if_pos c13] at H
       have c13b0 : decide (0 ≤ x5_1) = true := decide_eq_true c13
       clear c13
       by_cases c14 : x5_1 < (l0_0.length : Int)
       ·rw [if_pos c14] at H
        have c14b0 : decide (x5_1 < (l0_0.length : Int)) = true := decide_eq_true c14
        clear c14
        by_cases c15 : x5_1 < (l1_0.length : Int)
        ·rw [if_pos c15] at H
         have c15b0 : decide (x5_1 < (l1_0.length : Int)) = true := decide_eq_true c15
         clear c15
         by_cases c16 : (rd l0_0 x5_1) < (rd l1_0 x5_1)
         ·rw [if_pos c16] at H
          have c16b0 : decide ((rd l0_0 x5_1) < (rd l1_0 x5_1)) = true := decide_eq_true c16
          clear c16
          obtain rfl := Option.some.inj H
          have hnb17 := NB188_189.out
          have hnc17 := NB189_188.out
          obtain ⟨hcz18_0, hfz18_0⟩ := cz1 BK188.out
          have p190 : 0 ≤ (x5_1 : Int) := of_decide_eq_true aB
          have q190 : x5_1 < (l0_0.length : Int) := of_decide_eq_true aB
          obtain ⟨ad190, e190, hx190_0⟩ := Kd.at_int HR0_0.out x5_1 p190 q190
          cases e190
          replace hx190_0 := hU hx190_0
          replace p190 := eq_true p190
          replace q190 := eq_true q190
          obtain ⟨hcz19_0, hfz19_0⟩ := cz1 BK189.out
          have p191 : 0 ≤ (x5_1 : Int) := of_decide_eq_true aB
          have q191 : x5_1 < (l1_0.length : Int) := of_decide_eq_true aB
          obtain ⟨ad191, e191, hx191_0⟩ := Kd.at_int HR1_0.out x5_1 p191 q191
          cases e191
          replace hx191_0 := hU hx191_0
          replace p191 := eq_true p191
          replace q191 := eq_true q191
          go_wp2
          repeat (go_quiet (fail); try go_wp2)
          go_ret
          exact ⟨eB, bG⟩
         ·rw [if_neg c16] at H
          have c16b0 : decide ((rd l0_0 x5_1) < (rd l1_0 x5_1)) = false := decide_eq_false c16
          clear c16
          by_cases c20 : (rd l0_0 x5_1) > (rd l1_0 x5_1)
          ·rw [if_pos c20] at H
           have c20b0 : decide ((rd l1_0 x5_1) < (rd l0_0 x5_1)) = true := decide_eq_true c20
           clear c20
           obtain rfl := Option.some.inj H
           have hnb21 := NB188_189.out
           have hnc21 := NB189_188.out
           obtain ⟨hcz22_0, hfz22_0⟩ := cz1 BK188.out
           have p190 : 0 ≤ (x5_1 : Int) := of_decide_eq_true aB
           have q190 : x5_1 < (l0_0.length : Int) := of_decide_eq_true aB
           obtain ⟨ad190, e190, hx190_0⟩ := Kd.at_int HR0_0.out x5_1 p190 q190
           cases e190
           replace hx190_0 := hU hx190_0
           replace p190 := eq_true p190
           replace q190 := eq_true q190
           obtain ⟨hcz23_0, hfz23_0⟩ := cz1 BK189.out
           have p191 : 0 ≤ (x5_1 : Int) := of_decide_eq_true aB
           have q191 : x5_1 < (l1_0.length : Int) := of_decide_eq_true aB
           obtain ⟨ad191, e191, hx191_0⟩ := Kd.at_int HR1_0.out x5_1 p191 q191
           cases e191
           replace hx191_0 := hU hx191_0
           replace p191 := eq_true p191
           replace q191 := eq_true q191
           have p192 : 0 ≤ (x5_1 : Int) := of_decide_eq_true aB
           have q192 : x5_1 < (l0_0.length : Int) := of_decide_eq_true aB
           obtain ⟨ad192, e192, hx192_0⟩ := Kd.at_int HR0_0.out x5_1 p192 q192
           obtain rfl : ad190 = ad192 := (by injection e192)
           replace hx192_0 := hU hx192_0
           replace p192 := eq_true p192
           replace q192 := eq_true q192
           have p193 : 0 ≤ (x5_1 : Int) := of_decide_eq_true aB
           have q193 : x5_1 < (l1_0.length : Int) := of_decide_eq_true aB
           obtain ⟨ad193, e193, hx193_0⟩ := Kd.at_int HR1_0.out x5_1 p193 q193
           obtain rfl : ad191 = ad193 := (by injection e193)
           replace hx193_0 := hU hx193_0
           replace p193 := eq_true p193
           replace q193 := eq_true q193
           go_wp2
           repeat (go_quiet (fail); try go_wp2)
           go_ret
           exact ⟨eB, bG⟩
          ·rw [if_neg c20] at H
           have c20b0 : decide ((rd l1_0 x5_1) < (rd l0_0 x5_1)) = false := decide_eq_false c20
           clear c20
           have H' := xm H
           clear H
           have hnb24 := NB188_189.out
           have hnc24 := NB189_188.out
           obtain ⟨hcz25_0, hfz25_0⟩ := cz1 BK188.out
           have p190 : 0 ≤ (x5_1 : Int) := of_decide_eq_true aB
           have q190 : x5_1 < (l0_0.length : Int) := of_decide_eq_true aB
           obtain ⟨ad190, e190, hx190_0⟩ := Kd.at_int HR0_0.out x5_1 p190 q190
           cases e190
           replace hx190_0 := hU hx190_0
           replace p190 := eq_true p190
           replace q190 := eq_true q190
           obtain ⟨hcz26_0, hfz26_0⟩ := cz1 BK189.out
           have p191 : 0 ≤ (x5_1 : Int) := of_decide_eq_true aB
           have q191 : x5_1 < (l1_0.length : Int) := of_decide_eq_true aB
           obtain ⟨ad191, e191, hx191_0⟩ := Kd.at_int HR1_0.out x5_1 p191 q191
           cases e191
           replace hx191_0 := hU hx191_0
           replace p191 := eq_true p191
           replace q191 := eq_true q191
           have p192 : 0 ≤ (x5_1 : Int) := of_decide_eq_true aB
           have q192 : x5_1 < (l0_0.length : Int) := of_decide_eq_true aB
           obtain ⟨ad192, e192, hx192_0⟩ := Kd.at_int HR0_0.out x5_1 p192 q192
           obtain rfl : ad190 = ad192 := (by injection e192)
           replace hx192_0 := hU hx192_0
           replace p192 := eq_true p192
           replace q192 := eq_true q192
           have p193 : 0 ≤ (x5_1 : Int) := of_decide_eq_true aB
           have q193 : x5_1 < (l1_0.length : Int) := of_decide_eq_true aB
           obtain ⟨ad193, e193, hx193_0⟩ := Kd.at_int HR1_0.out x5_1 p193 q193
           obtain rfl : ad191 = ad193 := (by injection e193)
           replace hx193_0 := hU hx193_0
           replace p193 := eq_true p193
           replace q193 := eq_true q193
           go_wp2
           repeat (go_quiet (fail); try go_wp2)
           go_roundg kj4
           case measure => have := HK1.out; have := HJ4.out; omega
           case rel => exact ⟨(wrap64 (x5_1 + 1)), sB, H', ⟨by have := HK1.out; have := HJ4.out; omega⟩, ⟨kB BK188⟩, ⟨kB BK189⟩, ⟨bG⟩⟩
        ·rw [if_neg c15] at H
         exact absurd H (by simp)
       ·rw [if_neg c14] at H
        exact absurd H (by simp)
      ·rw [if_neg c13] at H
       exact absurd H (by simp)
     ·replace c12 := Bool.eq_false_iff.mpr c12
      subst c12
      have H1 : (if (l0_0.length : Int) < (l1_0.length : Int) then (some (-1)) else (if (l0_0.length : Int) > (l1_0.length : Int) then (some 1) else (some 0))) = some r := by first | (with_reducible rfl) | (rw [if_neg (show ¬ (false = true) by decide)] at H; exact H)
      clear H
      have H := H1
      clear H1
      by_cases c27 : (l0_0.length : Int) < (l1_0.length : Int)
      ·rw [if_pos c27] at H
       have c27b0 : decide ((l0_0.length : Int) < (l1_0.length : Int)) = true := decide_eq_true c27
       have c27b1 : decide (l0_0.length < l1_0.length) = true := decide_eq_true (Int.ofNat_lt.mp c27)
       clear c27
       obtain rfl := Option.some.inj H
       have hnb28 := NB188_189.out
       have hnc28 := NB189_188.out
       obtain ⟨hcz29_0, hfz29_0⟩ := cz1 BK188.out
       obtain ⟨hcz30_0, hfz30_0⟩ := cz1 BK189.out
       go_wp2
       repeat (go_quiet (fail); try go_wp2)
       go_ret
       exact ⟨eB, bG⟩
      ·rw [if_neg c27] at H
       have c27b0 : decide ((l0_0.length : Int) < (l1_0.length : Int)) = false := decide_eq_false c27
       have c27b1 : decide (l0_0.length < l1_0.length) = false := decide_eq_false (fun h => c27 (Int.ofNat_lt.mpr h))
       clear c27
       by_cases c31 : (l0_0.length : Int) > (l1_0.length : Int)
       ·rw [if_pos c31] at H
        have c31b0 : decide ((l1_0.length : Int) < (l0_0.length : Int)) = true := decide_eq_true c31
        have c31b1 : decide (l1_0.length < l0_0.length) = true := decide_eq_true (Int.ofNat_lt.mp c31)
        clear c31
        obtain rfl := Option.some.inj H
        have hnb32 := NB188_189.out
        have hnc32 := NB189_188.out
        obtain ⟨hcz33_0, hfz33_0⟩ := cz1 BK188.out
        obtain ⟨hcz34_0, hfz34_0⟩ := cz1 BK189.out
        go_wp2
        repeat (go_quiet (fail); try go_wp2)
        go_ret
        exact ⟨eB, bG⟩
       ·rw [if_neg c31] at H
        have c31b0 : decide ((l1_0.length : Int) < (l0_0.length : Int)) = false := decide_eq_false c31
        have c31b1 : decide (l1_0.length < l0_0.length) = false := decide_eq_false (fun h => c31 (Int.ofNat_lt.mpr h))
        clear c31
        obtain rfl := Option.some.inj H
        have hnb35 := NB188_189.out
        have hnc35 := NB189_188.out
        obtain ⟨hcz36_0, hfz36_0⟩ := cz1 BK188.out
        obtain ⟨hcz37_0, hfz37_0⟩ := cz1 BK189.out
        go_wp2
        repeat (go_quiet (fail); try go_wp2)
        go_ret
        exact ⟨eB, bG⟩

end Go.Proofs.Ytaddemalepndfah.G
