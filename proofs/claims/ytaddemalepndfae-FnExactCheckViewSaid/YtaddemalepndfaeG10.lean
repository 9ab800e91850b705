/- Written by a program of this claim's own, out of the translation: functions of the program as plain functions, and that the calls answer as these. No conditions. -/
import Derived.Test.YtaddemalepndfaeG0
namespace Go.Proofs.Ytaddemalepndfae.G
open Go.RowKit Go.Proofs.Ytaddemalepndfae.X Go.Proofs.YtaddemalepndfaeW.PrintWords Go.Proofs.YtaddemalepndfaeW.PrintLast Go.Proofs.YtaddemalepndfaeW.PrintMore
attribute [local go_sem] max2_int min2_int max_two min_two max_three min_three max_four min_four   -- for this text's walks alone
set_option linter.unusedVariables false
set_option linter.unusedSimpArgs false

/-! ### impl_Part_uses: function 22 -/
def impl_Part_uses.f (a0_0 : Int) (a0_1 : Int) (a0_2 : Int) (l0_3 : List (S71)) (l0_4 : List Int) (l0_5 : List (List Int)) : Option (Bool) := if a0_0 = 4 then (if a0_0 = 2 then (if a0_0 = 3 then (some true) else (if (l0_4.length : Int) = 0 then (some true) else (some false))) else (if (l0_3.length : Int) = 0 then (if a0_0 = 3 then (some true) else (if (l0_4.length : Int) = 0 then (some true) else (some false))) else (some false))) else (if a0_0 = 5 then (if a0_0 = 2 then (if a0_0 = 3 then (some ((l0_5.length : Int) == 0)) else (if (l0_4.length : Int) = 0 then (some ((l0_5.length : Int) == 0)) else (some false))) else (if (l0_3.length : Int) = 0 then (if a0_0 = 3 then (some ((l0_5.length : Int) == 0)) else (if (l0_4.length : Int) = 0 then (some ((l0_5.length : Int) == 0)) else (some false))) else (some false))) else (if a0_0 = 6 then (if a0_0 = 2 then (if a0_0 = 3 then (some ((l0_5.length : Int) == 0)) else (if (l0_4.length : Int) = 0 then (some ((l0_5.length : Int) == 0)) else (some false))) else (if (l0_3.length : Int) = 0 then (if a0_0 = 3 then (some ((l0_5.length : Int) == 0)) else (if (l0_4.length : Int) = 0 then (some ((l0_5.length : Int) == 0)) else (some false))) else (some false))) else (if a0_2 = 0 then (if a0_0 = 2 then (if a0_0 = 3 then (some ((l0_5.length : Int) == 0)) else (if (l0_4.length : Int) = 0 then (some ((l0_5.length : Int) == 0)) else (some false))) else (if (l0_3.length : Int) = 0 then (if a0_0 = 3 then (some ((l0_5.length : Int) == 0)) else (if (l0_4.length : Int) = 0 then (some ((l0_5.length : Int) == 0)) else (some false))) else (some false))) else (some false))))
set_option maxHeartbeats 8000000 in
set_option maxRecDepth 100000 in
theorem impl_Part_uses.calls (a0_0 : Int) (a0_1 : Int) (a0_2 : Int) (A0_3 : Option Addr) (c0_3 : Nat) (l0_3 : List (S71)) (A0_4 : Option Addr) (c0_4 : Nat) (l0_4 : List Int) (A0_5 : Option Addr) (c0_5 : Nat) (l0_5 : List (List Int)) (r : Bool) (w : World) (hr0_3 : Kd.C k71 w A0_3 l0_3.length l0_3) (hc0_3 : l0_3.length ≤ c0_3) (hr0_4 : Kd.C (Kd.int .i64) w A0_4 l0_4.length l0_4) (hc0_4 : l0_4.length ≤ c0_4) (hr0_5 : Kd.C (Kd.slice 3 (Kd.int .i64)) w A0_5 l0_5.length l0_5) (hc0_5 : l0_5.length ≤ c0_5) (h : impl_Part_uses.f a0_0 a0_1 a0_2 l0_3 l0_4 l0_5 = some r) :
  Calls Try.prog 22 #[.agg #[.int .i64 a0_0, .int .i64 a0_1, .int .i64 a0_2, .slice A0_3 l0_3.length c0_3, .slice A0_4 l0_4.length c0_4, .slice A0_5 l0_5.length c0_5]] w fun e w' => e = .returned (.bool r) ∧ Below w.heap.size w w' := by
 have hu47 := Try.underlying47
 have HR0_3 := xm hr0_3
 have HC0_3 := xm hc0_3
 clear hr0_3 hc0_3
 have HR0_4 := xm hr0_4
 have HC0_4 := xm hc0_4
 clear hr0_4 hc0_4
 have HR0_5 := xm hr0_5
 have HC0_5 := xm hc0_5
 clear hr0_5 hc0_5
 have HB := xm (Below.refl w.heap.size w)
 have H : (if a0_0 = 4 then (if a0_0 = 2 then (if a0_0 = 3 then (some true) else (if (l0_4.length : Int) = 0 then (some true) else (some false))) else (if (l0_3.length : Int) = 0 then (if a0_0 = 3 then (some true) else (if (l0_4.length : Int) = 0 then (some true) else (some false))) else (some false))) else (if a0_0 = 5 then (if a0_0 = 2 then (if a0_0 = 3 then (some ((l0_5.length : Int) == 0)) else (if (l0_4.length : Int) = 0 then (some ((l0_5.length : Int) == 0)) else (some false))) else (if (l0_3.length : Int) = 0 then (if a0_0 = 3 then (some ((l0_5.length : Int) == 0)) else (if (l0_4.length : Int) = 0 then (some ((l0_5.length : Int) == 0)) else (some false))) else (some false))) else (if a0_0 = 6 then (if a0_0 = 2 then (if a0_0 = 3 then (some ((l0_5.length : Int) == 0)) else (if (l0_4.length : Int) = 0 then (some ((l0_5.length : Int) == 0)) else (some false))) else (if (l0_3.length : Int) = 0 then (if a0_0 = 3 then (some ((l0_5.length : Int) == 0)) else (if (l0_4.length : Int) = 0 then (some ((l0_5.length : Int) == 0)) else (some false))) else (some false))) else (if a0_2 = 0 then (if a0_0 = 2 then (if a0_0 = 3 then (some ((l0_5.length : Int) == 0)) else (if (l0_4.length : Int) = 0 then (some ((l0_5.length : Int) == 0)) else (some false))) else (if (l0_3.length : Int) = 0 then (if a0_0 = 3 then (some ((l0_5.length : Int) == 0)) else (if (l0_4.length : Int) = 0 then (some ((l0_5.length : Int) == 0)) else (some false))) else (some false))) else (some false))))) = some r := h
 clear h
 by_cases c2 : a0_0 = 4
 ·rw [if_pos c2] at H
  have c2b0 : (a0_0 == 4) = true := beq_iff_eq.mpr c2
  have c2b1 : (a0_0 != 4) = false := bne_eq_false_iff_eq.mpr c2
  clear c2
  by_cases c3 : a0_0 = 2
  ·exact absurd ((beq_iff_eq.mp c2b0).symm.trans c3) (by decide)
  ·rw [if_neg c3] at H
   have c3b0 : (a0_0 == 2) = false := beq_eq_false_iff_ne.mpr c3
   have c3b1 : (a0_0 != 2) = true := bne_iff_ne.mpr c3
   by_cases c12 : (l0_3.length : Int) = 0
   ·rw [if_pos c12] at H
    have c12b0 : ((l0_3.length : Int) == 0) = true := beq_iff_eq.mpr c12
    have c12b1 : ((l0_3.length : Int) != 0) = false := bne_eq_false_iff_eq.mpr c12
    clear c12
    by_cases c13 : a0_0 = 3
    ·exact absurd ((beq_iff_eq.mp c2b0).symm.trans c13) (by decide)
    ·rw [if_neg c13] at H
     have c13b0 : (a0_0 == 3) = false := beq_eq_false_iff_ne.mpr c13
     have c13b1 : (a0_0 != 3) = true := bne_iff_ne.mpr c13
     by_cases c16 : (l0_4.length : Int) = 0
     ·rw [if_pos c16] at H
      have c16b0 : ((l0_4.length : Int) == 0) = true := beq_iff_eq.mpr c16
      have c16b1 : ((l0_4.length : Int) != 0) = false := bne_eq_false_iff_eq.mpr c16
      clear c16
      obtain rfl := Option.some.inj H
      go_enter Try.func22, Try.ntmps22
      go_wp2_with (first | ((with_reducible refine gate_dst (N := 1) rfl ?_); (try (refine gate_guard (by rfl) ?_; dsimp only)); refine box_event ?hg (N := 1) ?hd (cs := #[.int .i64 a0_0, .int .i64 a0_1, .int .i64 a0_2, .slice A0_3 l0_3.length c0_3, .slice A0_4 l0_4.length c0_4, .slice A0_5 l0_5.length c0_5]) (t := 47) ?hr ?_; (case hd => rfl); (case hg => rfl); (case hr => exact zB); intro gb262 hg w17 hbox hb; have n0_ := xm (below_step bB hb); have n1_ := xm (hbox); have n2_ := xm ((by rw [hg]; exact (xz bB) : w.heap.size ≤ gb262)); have n3_ := xm ((by rw [hg]; exact (xz bB) : w.heap.size ≤ gb262)); revert n0_ n1_ n2_ n3_; clear HB; intro HB BK262 GW262 GE262; clear hb hbox hg; obtain ⟨hcz18_0, hcz18_1, hcz18_2, hcz18_3, hcz18_4, hcz18_5, hfz18_0, hfz18_1, hfz18_2, hfz18_3, hfz18_4, hfz18_5⟩ := cz6 BK262.out))
      go_ret
      exact ⟨eB, bG⟩
     ·rw [if_neg c16] at H
      have c16b0 : ((l0_4.length : Int) == 0) = false := beq_eq_false_iff_ne.mpr c16
      have c16b1 : ((l0_4.length : Int) != 0) = true := bne_iff_ne.mpr c16
      have c16b2 : ¬ (l0_4 = []) := fun h_ => c16 (by rw [h_]; rfl)
      obtain rfl := Option.some.inj H
      go_enter Try.func22, Try.ntmps22
      go_wp2_with (first | ((with_reducible refine gate_dst (N := 1) rfl ?_); (try (refine gate_guard (by rfl) ?_; dsimp only)); refine box_event ?hg (N := 1) ?hd (cs := #[.int .i64 a0_0, .int .i64 a0_1, .int .i64 a0_2, .slice A0_3 l0_3.length c0_3, .slice A0_4 l0_4.length c0_4, .slice A0_5 l0_5.length c0_5]) (t := 47) ?hr ?_; (case hd => rfl); (case hg => rfl); (case hr => exact zB); intro gb262 hg w19 hbox hb; have n0_ := xm (below_step bB hb); have n1_ := xm (hbox); have n2_ := xm ((by rw [hg]; exact (xz bB) : w.heap.size ≤ gb262)); have n3_ := xm ((by rw [hg]; exact (xz bB) : w.heap.size ≤ gb262)); revert n0_ n1_ n2_ n3_; clear HB; intro HB BK262 GW262 GE262; clear hb hbox hg; obtain ⟨hcz20_0, hcz20_1, hcz20_2, hcz20_3, hcz20_4, hcz20_5, hfz20_0, hfz20_1, hfz20_2, hfz20_3, hfz20_4, hfz20_5⟩ := cz6 BK262.out))
      go_ret
      exact ⟨eB, bG⟩
   ·rw [if_neg c12] at H
    have c12b0 : ((l0_3.length : Int) == 0) = false := beq_eq_false_iff_ne.mpr c12
    have c12b1 : ((l0_3.length : Int) != 0) = true := bne_iff_ne.mpr c12
    have c12b2 : ¬ (l0_3 = []) := fun h_ => c12 (by rw [h_]; rfl)
    obtain rfl := Option.some.inj H
    go_enter Try.func22, Try.ntmps22
    go_wp2_with (first | ((with_reducible refine gate_dst (N := 1) rfl ?_); (try (refine gate_guard (by rfl) ?_; dsimp only)); refine box_event ?hg (N := 1) ?hd (cs := #[.int .i64 a0_0, .int .i64 a0_1, .int .i64 a0_2, .slice A0_3 l0_3.length c0_3, .slice A0_4 l0_4.length c0_4, .slice A0_5 l0_5.length c0_5]) (t := 47) ?hr ?_; (case hd => rfl); (case hg => rfl); (case hr => exact zB); intro gb262 hg w21 hbox hb; have n0_ := xm (below_step bB hb); have n1_ := xm (hbox); have n2_ := xm ((by rw [hg]; exact (xz bB) : w.heap.size ≤ gb262)); have n3_ := xm ((by rw [hg]; exact (xz bB) : w.heap.size ≤ gb262)); revert n0_ n1_ n2_ n3_; clear HB; intro HB BK262 GW262 GE262; clear hb hbox hg; obtain ⟨hcz22_0, hcz22_1, hcz22_2, hcz22_3, hcz22_4, hcz22_5, hfz22_0, hfz22_1, hfz22_2, hfz22_3, hfz22_4, hfz22_5⟩ := cz6 BK262.out))
    go_ret
    exact ⟨eB, bG⟩
 ·rw [if_neg c2] at H
  have c2b0 : (a0_0 == 4) = false := beq_eq_false_iff_ne.mpr c2
  have c2b1 : (a0_0 != 4) = true := bne_iff_ne.mpr c2
  by_cases c23 : a0_0 = 5
  ·rw [if_pos c23] at H
   have c23b0 : (a0_0 == 5) = true := beq_iff_eq.mpr c23
   have c23b1 : (a0_0 != 5) = false := bne_eq_false_iff_eq.mpr c23
   clear c23
   by_cases c24 : a0_0 = 2
   ·exact absurd ((beq_iff_eq.mp c23b0).symm.trans c24) (by decide)
   ·rw [if_neg c24] at H
    have c24b0 : (a0_0 == 2) = false := beq_eq_false_iff_ne.mpr c24
    have c24b1 : (a0_0 != 2) = true := bne_iff_ne.mpr c24
    by_cases c33 : (l0_3.length : Int) = 0
    ·rw [if_pos c33] at H
     have c33b0 : ((l0_3.length : Int) == 0) = true := beq_iff_eq.mpr c33
     have c33b1 : ((l0_3.length : Int) != 0) = false := bne_eq_false_iff_eq.mpr c33
     clear c33
     by_cases c34 : a0_0 = 3
     ·exact absurd ((beq_iff_eq.mp c23b0).symm.trans c34) (by decide)
     ·rw [if_neg c34] at H
      have c34b0 : (a0_0 == 3) = false := beq_eq_false_iff_ne.mpr c34
      have c34b1 : (a0_0 != 3) = true := bne_iff_ne.mpr c34
      by_cases c37 : (l0_4.length : Int) = 0
      ·rw [if_pos c37] at H
       have c37b0 : ((l0_4.length : Int) == 0) = true := beq_iff_eq.mpr c37
       have c37b1 : ((l0_4.length : Int) != 0) = false := bne_eq_false_iff_eq.mpr c37
       clear c37
       obtain rfl := Option.some.inj H
       go_enter Try.func22, Try.ntmps22
       go_wp2_with (first | ((with_reducible refine gate_dst (N := 1) rfl ?_); (try (refine gate_guard (by rfl) ?_; dsimp only)); refine box_event ?hg (N := 1) ?hd (cs := #[.int .i64 a0_0, .int .i64 a0_1, .int .i64 a0_2, .slice A0_3 l0_3.length c0_3, .slice A0_4 l0_4.length c0_4, .slice A0_5 l0_5.length c0_5]) (t := 47) ?hr ?_; (case hd => rfl); (case hg => rfl); (case hr => exact zB); intro gb262 hg w38 hbox hb; have n0_ := xm (below_step bB hb); have n1_ := xm (hbox); have n2_ := xm ((by rw [hg]; exact (xz bB) : w.heap.size ≤ gb262)); have n3_ := xm ((by rw [hg]; exact (xz bB) : w.heap.size ≤ gb262)); revert n0_ n1_ n2_ n3_; clear HB; intro HB BK262 GW262 GE262; clear hb hbox hg; obtain ⟨hcz39_0, hcz39_1, hcz39_2, hcz39_3, hcz39_4, hcz39_5, hfz39_0, hfz39_1, hfz39_2, hfz39_3, hfz39_4, hfz39_5⟩ := cz6 BK262.out))
       go_ret
       exact ⟨eB, bG⟩
      ·rw [if_neg c37] at H
       have c37b0 : ((l0_4.length : Int) == 0) = false := beq_eq_false_iff_ne.mpr c37
       have c37b1 : ((l0_4.length : Int) != 0) = true := bne_iff_ne.mpr c37
       have c37b2 : ¬ (l0_4 = []) := fun h_ => c37 (by rw [h_]; rfl)
       obtain rfl := Option.some.inj H
       go_enter Try.func22, Try.ntmps22
       go_wp2_with (first | ((with_reducible refine gate_dst (N := 1) rfl ?_); (try (refine gate_guard (by rfl) ?_; dsimp only)); refine box_event ?hg (N := 1) ?hd (cs := #[.int .i64 a0_0, .int .i64 a0_1, .int .i64 a0_2, .slice A0_3 l0_3.length c0_3, .slice A0_4 l0_4.length c0_4, .slice A0_5 l0_5.length c0_5]) (t := 47) ?hr ?_; (case hd => rfl); (case hg => rfl); (case hr => exact zB); intro gb262 hg w40 hbox hb; have n0_ := xm (below_step bB hb); have n1_ := xm (hbox); have n2_ := xm ((by rw [hg]; exact (xz bB) : w.heap.size ≤ gb262)); have n3_ := xm ((by rw [hg]; exact (xz bB) : w.heap.size ≤ gb262)); revert n0_ n1_ n2_ n3_; clear HB; intro HB BK262 GW262 GE262; clear hb hbox hg; obtain ⟨hcz41_0, hcz41_1, hcz41_2, hcz41_3, hcz41_4, hcz41_5, hfz41_0, hfz41_1, hfz41_2, hfz41_3, hfz41_4, hfz41_5⟩ := cz6 BK262.out))
       go_ret
       exact ⟨eB, bG⟩
    ·rw [if_neg c33] at H
     have c33b0 : ((l0_3.length : Int) == 0) = false := beq_eq_false_iff_ne.mpr c33
     have c33b1 : ((l0_3.length : Int) != 0) = true := bne_iff_ne.mpr c33
     have c33b2 : ¬ (l0_3 = []) := fun h_ => c33 (by rw [h_]; rfl)
     obtain rfl := Option.some.inj H
     go_enter Try.func22, Try.ntmps22
     go_wp2_with (first | ((with_reducible refine gate_dst (N := 1) rfl ?_); (try (refine gate_guard (by rfl) ?_; dsimp only)); refine box_event ?hg (N := 1) ?hd (cs := #[.int .i64 a0_0, .int .i64 a0_1, .int .i64 a0_2, .slice A0_3 l0_3.length c0_3, .slice A0_4 l0_4.length c0_4, .slice A0_5 l0_5.length c0_5]) (t := 47) ?hr ?_; (case hd => rfl); (case hg => rfl); (case hr => exact zB); intro gb262 hg w42 hbox hb; have n0_ := xm (below_step bB hb); have n1_ := xm (hbox); have n2_ := xm ((by rw [hg]; exact (xz bB) : w.heap.size ≤ gb262)); have n3_ := xm ((by rw [hg]; exact (xz bB) : w.heap.size ≤ gb262)); revert n0_ n1_ n2_ n3_; clear HB; intro HB BK262 GW262 GE262; clear hb hbox hg; obtain ⟨hcz43_0, hcz43_1, hcz43_2, hcz43_3, hcz43_4, hcz43_5, hfz43_0, hfz43_1, hfz43_2, hfz43_3, hfz43_4, hfz43_5⟩ := cz6 BK262.out))
     go_ret
     exact ⟨eB, bG⟩
  ·rw [if_neg c23] at H
   have c23b0 : (a0_0 == 5) = false := beq_eq_false_iff_ne.mpr c23
   have c23b1 : (a0_0 != 5) = true := bne_iff_ne.mpr c23
   by_cases c44 : a0_0 = 6
   ·rw [if_pos c44] at H
    have c44b0 : (a0_0 == 6) = true := beq_iff_eq.mpr c44
    have c44b1 : (a0_0 != 6) = false := bne_eq_false_iff_eq.mpr c44
    clear c44
    by_cases c45 : a0_0 = 2
    ·exact absurd ((beq_iff_eq.mp c44b0).symm.trans c45) (by decide)
    ·rw [if_neg c45] at H
     have c45b0 : (a0_0 == 2) = false := beq_eq_false_iff_ne.mpr c45
     have c45b1 : (a0_0 != 2) = true := bne_iff_ne.mpr c45
     by_cases c54 : (l0_3.length : Int) = 0
     ·rw [if_pos c54] at H
      have c54b0 : ((l0_3.length : Int) == 0) = true := beq_iff_eq.mpr c54
      have c54b1 : ((l0_3.length : Int) != 0) = false := bne_eq_false_iff_eq.mpr c54
      clear c54
      by_cases c55 : a0_0 = 3
      ·exact absurd ((beq_iff_eq.mp c44b0).symm.trans c55) (by decide)
      ·rw [if_neg c55] at H
       have c55b0 : (a0_0 == 3) = false := beq_eq_false_iff_ne.mpr c55
       have c55b1 : (a0_0 != 3) = true := bne_iff_ne.mpr c55
       by_cases c58 : (l0_4.length : Int) = 0
       ·rw [if_pos c58] at H
        have c58b0 : ((l0_4.length : Int) == 0) = true := beq_iff_eq.mpr c58
        have c58b1 : ((l0_4.length : Int) != 0) = false := bne_eq_false_iff_eq.mpr c58
        clear c58
        obtain rfl := Option.some.inj H
        go_enter Try.func22, Try.ntmps22
        go_wp2_with (first | ((with_reducible refine gate_dst (N := 1) rfl ?_); (try (refine gate_guard (by rfl) ?_; dsimp only)); refine box_event ?hg (N := 1) ?hd (cs := #[.int .i64 a0_0, .int .i64 a0_1, .int .i64 a0_2, .slice A0_3 l0_3.length c0_3, .slice A0_4 l0_4.length c0_4, .slice A0_5 l0_5.length c0_5]) (t := 47) ?hr ?_; (case hd => rfl); (case hg => rfl); (case hr => exact zB); intro gb262 hg w59 hbox hb; have n0_ := xm (below_step bB hb); have n1_ := xm (hbox); have n2_ := xm ((by rw [hg]; exact (xz bB) : w.heap.size ≤ gb262)); have n3_ := xm ((by rw [hg]; exact (xz bB) : w.heap.size ≤ gb262)); revert n0_ n1_ n2_ n3_; clear HB; intro HB BK262 GW262 GE262; clear hb hbox hg; obtain ⟨hcz60_0, hcz60_1, hcz60_2, hcz60_3, hcz60_4, hcz60_5, hfz60_0, hfz60_1, hfz60_2, hfz60_3, hfz60_4, hfz60_5⟩ := cz6 BK262.out))
        go_ret
        exact ⟨eB, bG⟩
       ·rw [if_neg c58] at H
        have c58b0 : ((l0_4.length : Int) == 0) = false := beq_eq_false_iff_ne.mpr c58
        have c58b1 : ((l0_4.length : Int) != 0) = true := bne_iff_ne.mpr c58
        have c58b2 : ¬ (l0_4 = []) := fun h_ => c58 (by rw [h_]; rfl)
        obtain rfl := Option.some.inj H
        go_enter Try.func22, Try.ntmps22
        go_wp2_with (first | ((with_reducible refine gate_dst (N := 1) rfl ?_); (try (refine gate_guard (by rfl) ?_; dsimp only)); refine box_event ?hg (N := 1) ?hd (cs := #[.int .i64 a0_0, .int .i64 a0_1, .int .i64 a0_2, .slice A0_3 l0_3.length c0_3, .slice A0_4 l0_4.length c0_4, .slice A0_5 l0_5.length c0_5]) (t := 47) ?hr ?_; (case hd => rfl); (case hg => rfl); (case hr => exact zB); intro gb262 hg w61 hbox hb; have n0_ := xm (below_step bB hb); have n1_ := xm (hbox); have n2_ := xm ((by rw [hg]; exact (xz bB) : w.heap.size ≤ gb262)); have n3_ := xm ((by rw [hg]; exact (xz bB) : w.heap.size ≤ gb262)); revert n0_ n1_ n2_ n3_; clear HB; intro HB BK262 GW262 GE262; clear hb hbox hg; obtain ⟨hcz62_0, hcz62_1, hcz62_2, hcz62_3, hcz62_4, hcz62_5, hfz62_0, hfz62_1, hfz62_2, hfz62_3, hfz62_4, hfz62_5⟩ := cz6 BK262.out))
        go_ret
        exact ⟨eB, bG⟩
     ·rw [if_neg c54] at H
      have c54b0 : ((l0_3.length : Int) == 0) = false := beq_eq_false_iff_ne.mpr c54
      have c54b1 : ((l0_3.length : Int) != 0) = true := bne_iff_ne.mpr c54
      have c54b2 : ¬ (l0_3 = []) := fun h_ => c54 (by rw [h_]; rfl)
      obtain rfl := Option.some.inj H
      go_enter Try.func22, Try.ntmps22
      go_wp2_with (first | ((with_reducible refine gate_dst (N := 1) rfl ?_); (try (refine gate_guard (by rfl) ?_; dsimp only)); refine box_event ?hg (N := 1) ?hd (cs := #[.int .i64 a0_0, .int .i64 a0_1, .int .i64 a0_2, .slice A0_3 l0_3.length c0_3, .slice A0_4 l0_4.length c0_4, .slice A0_5 l0_5.length c0_5]) (t := 47) ?hr ?_; (case hd => rfl); (case hg => rfl); (case hr => exact zB); intro gb262 hg w63 hbox hb; have n0_ := xm (below_step bB hb); have n1_ := xm (hbox); have n2_ := xm ((by rw [hg]; exact (xz bB) : w.heap.size ≤ gb262)); have n3_ := xm ((by rw [hg]; exact (xz bB) : w.heap.size ≤ gb262)); revert n0_ n1_ n2_ n3_; clear HB; intro HB BK262 GW262 GE262; clear hb hbox hg; obtain ⟨hcz64_0, hcz64_1, hcz64_2, hcz64_3, hcz64_4, hcz64_5, hfz64_0, hfz64_1, hfz64_2, hfz64_3, hfz64_4, hfz64_5⟩ := cz6 BK262.out))
      go_ret
      exact ⟨eB, bG⟩
   ·rw [if_neg c44] at H
    have c44b0 : (a0_0 == 6) = false := beq_eq_false_iff_ne.mpr c44
    have c44b1 : (a0_0 != 6) = true := bne_iff_ne.mpr c44
    by_cases c65 : a0_2 = 0
    ·rw [if_pos c65] at H
     have c65b0 : (a0_2 == 0) = true := beq_iff_eq.mpr c65
     have c65b1 : (a0_2 != 0) = false := bne_eq_false_iff_eq.mpr c65
     clear c65
     by_cases c66 : a0_0 = 2
     ·rw [if_pos c66] at H
      have c66b0 : (a0_0 == 2) = true := beq_iff_eq.mpr c66
      have c66b1 : (a0_0 != 2) = false := bne_eq_false_iff_eq.mpr c66
      clear c66
      by_cases c67 : a0_0 = 3
      ·exact absurd ((beq_iff_eq.mp c66b0).symm.trans c67) (by decide)
      ·rw [if_neg c67] at H
       have c67b0 : (a0_0 == 3) = false := beq_eq_false_iff_ne.mpr c67
       have c67b1 : (a0_0 != 3) = true := bne_iff_ne.mpr c67
       by_cases c70 : (l0_4.length : Int) = 0
       ·rw [if_pos c70] at H
        have c70b0 : ((l0_4.length : Int) == 0) = true := beq_iff_eq.mpr c70
        have c70b1 : ((l0_4.length : Int) != 0) = false := bne_eq_false_iff_eq.mpr c70
        clear c70
        obtain rfl := Option.some.inj H
        go_enter Try.func22, Try.ntmps22
        go_wp2_with (first | ((with_reducible refine gate_dst (N := 1) rfl ?_); (try (refine gate_guard (by rfl) ?_; dsimp only)); refine box_event ?hg (N := 1) ?hd (cs := #[.int .i64 a0_0, .int .i64 a0_1, .int .i64 a0_2, .slice A0_3 l0_3.length c0_3, .slice A0_4 l0_4.length c0_4, .slice A0_5 l0_5.length c0_5]) (t := 47) ?hr ?_; (case hd => rfl); (case hg => rfl); (case hr => exact zB); intro gb262 hg w71 hbox hb; have n0_ := xm (below_step bB hb); have n1_ := xm (hbox); have n2_ := xm ((by rw [hg]; exact (xz bB) : w.heap.size ≤ gb262)); have n3_ := xm ((by rw [hg]; exact (xz bB) : w.heap.size ≤ gb262)); revert n0_ n1_ n2_ n3_; clear HB; intro HB BK262 GW262 GE262; clear hb hbox hg; obtain ⟨hcz72_0, hcz72_1, hcz72_2, hcz72_3, hcz72_4, hcz72_5, hfz72_0, hfz72_1, hfz72_2, hfz72_3, hfz72_4, hfz72_5⟩ := cz6 BK262.out))
        go_ret
        exact ⟨eB, bG⟩
       ·rw [if_neg c70] at H
        have c70b0 : ((l0_4.length : Int) == 0) = false := beq_eq_false_iff_ne.mpr c70
        have c70b1 : ((l0_4.length : Int) != 0) = true := bne_iff_ne.mpr c70
        have c70b2 : ¬ (l0_4 = []) := fun h_ => c70 (by rw [h_]; rfl)
        obtain rfl := Option.some.inj H
        go_enter Try.func22, Try.ntmps22
        go_wp2_with (first | ((with_reducible refine gate_dst (N := 1) rfl ?_); (try (refine gate_guard (by rfl) ?_; dsimp only)); refine box_event ?hg (N := 1) ?hd (cs := #[.int .i64 a0_0, .int .i64 a0_1, .int .i64 a0_2, .slice A0_3 l0_3.length c0_3, .slice A0_4 l0_4.length c0_4, .slice A0_5 l0_5.length c0_5]) (t := 47) ?hr ?_; (case hd => rfl); (case hg => rfl); (case hr => exact zB); intro gb262 hg w73 hbox hb; have n0_ := xm (below_step bB hb); have n1_ := xm (hbox); have n2_ := xm ((by rw [hg]; exact (xz bB) : w.heap.size ≤ gb262)); have n3_ := xm ((by rw [hg]; exact (xz bB) : w.heap.size ≤ gb262)); revert n0_ n1_ n2_ n3_; clear HB; intro HB BK262 GW262 GE262; clear hb hbox hg; obtain ⟨hcz74_0, hcz74_1, hcz74_2, hcz74_3, hcz74_4, hcz74_5, hfz74_0, hfz74_1, hfz74_2, hfz74_3, hfz74_4, hfz74_5⟩ := cz6 BK262.out))
        go_ret
        exact ⟨eB, bG⟩
     ·rw [if_neg c66] at H
      have c66b0 : (a0_0 == 2) = false := beq_eq_false_iff_ne.mpr c66
      have c66b1 : (a0_0 != 2) = true := bne_iff_ne.mpr c66
      by_cases c75 : (l0_3.length : Int) = 0
      ·rw [if_pos c75] at H
       have c75b0 : ((l0_3.length : Int) == 0) = true := beq_iff_eq.mpr c75
       have c75b1 : ((l0_3.length : Int) != 0) = false := bne_eq_false_iff_eq.mpr c75
       clear c75
       by_cases c76 : a0_0 = 3
       ·rw [if_pos c76] at H
        have c76b0 : (a0_0 == 3) = true := beq_iff_eq.mpr c76
        have c76b1 : (a0_0 != 3) = false := bne_eq_false_iff_eq.mpr c76
        clear c76
        obtain rfl := Option.some.inj H
        go_enter Try.func22, Try.ntmps22
        go_wp2_with (first | ((with_reducible refine gate_dst (N := 1) rfl ?_); (try (refine gate_guard (by rfl) ?_; dsimp only)); refine box_event ?hg (N := 1) ?hd (cs := #[.int .i64 a0_0, .int .i64 a0_1, .int .i64 a0_2, .slice A0_3 l0_3.length c0_3, .slice A0_4 l0_4.length c0_4, .slice A0_5 l0_5.length c0_5]) (t := 47) ?hr ?_; (case hd => rfl); (case hg => rfl); (case hr => exact zB); intro gb262 hg w77 hbox hb; have n0_ := xm (below_step bB hb); have n1_ := xm (hbox); have n2_ := xm ((by rw [hg]; exact (xz bB) : w.heap.size ≤ gb262)); have n3_ := xm ((by rw [hg]; exact (xz bB) : w.heap.size ≤ gb262)); revert n0_ n1_ n2_ n3_; clear HB; intro HB BK262 GW262 GE262; clear hb hbox hg; obtain ⟨hcz78_0, hcz78_1, hcz78_2, hcz78_3, hcz78_4, hcz78_5, hfz78_0, hfz78_1, hfz78_2, hfz78_3, hfz78_4, hfz78_5⟩ := cz6 BK262.out))
        go_ret
        exact ⟨eB, bG⟩
       ·rw [if_neg c76] at H
        have c76b0 : (a0_0 == 3) = false := beq_eq_false_iff_ne.mpr c76
        have c76b1 : (a0_0 != 3) = true := bne_iff_ne.mpr c76
        by_cases c79 : (l0_4.length : Int) = 0
        ·rw [if_pos c79] at H
         have c79b0 : ((l0_4.length : Int) == 0) = true := beq_iff_eq.mpr c79
         have c79b1 : ((l0_4.length : Int) != 0) = false := bne_eq_false_iff_eq.mpr c79
         clear c79
         obtain rfl := Option.some.inj H
         go_enter Try.func22, Try.ntmps22
         go_wp2_with (first | ((with_reducible refine gate_dst (N := 1) rfl ?_); (try (refine gate_guard (by rfl) ?_; dsimp only)); refine box_event ?hg (N := 1) ?hd (cs := #[.int .i64 a0_0, .int .i64 a0_1, .int .i64 a0_2, .slice A0_3 l0_3.length c0_3, .slice A0_4 l0_4.length c0_4, .slice A0_5 l0_5.length c0_5]) (t := 47) ?hr ?_; (case hd => rfl); (case hg => rfl); (case hr => exact zB); intro gb262 hg w80 hbox hb; have n0_ := xm (below_step bB hb); have n1_ := xm (hbox); have n2_ := xm ((by rw [hg]; exact (xz bB) : w.heap.size ≤ gb262)); have n3_ := xm ((by rw [hg]; exact (xz bB) : w.heap.size ≤ gb262)); revert n0_ n1_ n2_ n3_; clear HB; intro HB BK262 GW262 GE262; clear hb hbox hg; obtain ⟨hcz81_0, hcz81_1, hcz81_2, hcz81_3, hcz81_4, hcz81_5, hfz81_0, hfz81_1, hfz81_2, hfz81_3, hfz81_4, hfz81_5⟩ := cz6 BK262.out))
         go_ret
         exact ⟨eB, bG⟩
        ·rw [if_neg c79] at H
         have c79b0 : ((l0_4.length : Int) == 0) = false := beq_eq_false_iff_ne.mpr c79
         have c79b1 : ((l0_4.length : Int) != 0) = true := bne_iff_ne.mpr c79
         have c79b2 : ¬ (l0_4 = []) := fun h_ => c79 (by rw [h_]; rfl)
         obtain rfl := Option.some.inj H
         go_enter Try.func22, Try.ntmps22
         go_wp2_with (first | ((with_reducible refine gate_dst (N := 1) rfl ?_); (try (refine gate_guard (by rfl) ?_; dsimp only)); refine box_event ?hg (N := 1) ?hd (cs := #[.int .i64 a0_0, .int .i64 a0_1, .int .i64 a0_2, .slice A0_3 l0_3.length c0_3, .slice A0_4 l0_4.length c0_4, .slice A0_5 l0_5.length c0_5]) (t := 47) ?hr ?_; (case hd => rfl); (case hg => rfl); (case hr => exact zB); intro gb262 hg w82 hbox hb; have n0_ := xm (below_step bB hb); have n1_ := xm (hbox); have n2_ := xm ((by rw [hg]; exact (xz bB) : w.heap.size ≤ gb262)); have n3_ := xm ((by rw [hg]; exact (xz bB) : w.heap.size ≤ gb262)); revert n0_ n1_ n2_ n3_; clear HB; intro HB BK262 GW262 GE262; clear hb hbox hg; obtain ⟨hcz83_0, hcz83_1, hcz83_2, hcz83_3, hcz83_4, hcz83_5, hfz83_0, hfz83_1, hfz83_2, hfz83_3, hfz83_4, hfz83_5⟩ := cz6 BK262.out))
         go_ret
         exact ⟨eB, bG⟩
      ·rw [if_neg c75] at H
       have c75b0 : ((l0_3.length : Int) == 0) = false := beq_eq_false_iff_ne.mpr c75
       have c75b1 : ((l0_3.length : Int) != 0) = true := bne_iff_ne.mpr c75
       have c75b2 : ¬ (l0_3 = []) := fun h_ => c75 (by rw [h_]; rfl)
       obtain rfl := Option.some.inj H
       go_enter Try.func22, Try.ntmps22
       go_wp2_with (first | ((with_reducible refine gate_dst (N := 1) rfl ?_); (try (refine gate_guard (by rfl) ?_; dsimp only)); refine box_event ?hg (N := 1) ?hd (cs := #[.int .i64 a0_0, .int .i64 a0_1, .int .i64 a0_2, .slice A0_3 l0_3.length c0_3, .slice A0_4 l0_4.length c0_4, .slice A0_5 l0_5.length c0_5]) (t := 47) ?hr ?_; (case hd => rfl); (case hg => rfl); (case hr => exact zB); intro gb262 hg w84 hbox hb; have n0_ := xm (below_step bB hb); have n1_ := xm (hbox); have n2_ := xm ((by rw [hg]; exact (xz bB) : w.heap.size ≤ gb262)); have n3_ := xm ((by rw [hg]; exact (xz bB) : w.heap.size ≤ gb262)); revert n0_ n1_ n2_ n3_; clear HB; intro HB BK262 GW262 GE262; clear hb hbox hg; obtain ⟨hcz85_0, hcz85_1, hcz85_2, hcz85_3, hcz85_4, hcz85_5, hfz85_0, hfz85_1, hfz85_2, hfz85_3, hfz85_4, hfz85_5⟩ := cz6 BK262.out))
       go_ret
       exact ⟨eB, bG⟩
    ·rw [if_neg c65] at H
     have c65b0 : (a0_2 == 0) = false := beq_eq_false_iff_ne.mpr c65
     have c65b1 : (a0_2 != 0) = true := bne_iff_ne.mpr c65
     obtain rfl := Option.some.inj H
     go_enter Try.func22, Try.ntmps22
     go_wp2_with (first | ((with_reducible refine gate_dst (N := 1) rfl ?_); (try (refine gate_guard (by rfl) ?_; dsimp only)); refine box_event ?hg (N := 1) ?hd (cs := #[.int .i64 a0_0, .int .i64 a0_1, .int .i64 a0_2, .slice A0_3 l0_3.length c0_3, .slice A0_4 l0_4.length c0_4, .slice A0_5 l0_5.length c0_5]) (t := 47) ?hr ?_; (case hd => rfl); (case hg => rfl); (case hr => exact zB); intro gb262 hg w86 hbox hb; have n0_ := xm (below_step bB hb); have n1_ := xm (hbox); have n2_ := xm ((by rw [hg]; exact (xz bB) : w.heap.size ≤ gb262)); have n3_ := xm ((by rw [hg]; exact (xz bB) : w.heap.size ≤ gb262)); revert n0_ n1_ n2_ n3_; clear HB; intro HB BK262 GW262 GE262; clear hb hbox hg; obtain ⟨hcz87_0, hcz87_1, hcz87_2, hcz87_3, hcz87_4, hcz87_5, hfz87_0, hfz87_1, hfz87_2, hfz87_3, hfz87_4, hfz87_5⟩ := cz6 BK262.out))
     go_ret
     exact ⟨eB, bG⟩

end Go.Proofs.Ytaddemalepndfae.G
