/- Written by a program of this claim's own, out of the translation: functions of the program as plain functions, and that the calls answer as these. No conditions. -/
import Derived.Test.YtfbomhedhfkcpaaG0
import Derived.Test.YtfbomhedhfkcpaaG2
import Derived.Test.YtfbomhedhfkcpaaG50
import Derived.Test.YtfbomhedhfkcpaaG51
namespace Go.Proofs.Ytfbomhedhfkcpaa.G
open Go.RowKit Go.Proofs.Ytfbomhedhfkcpaa.X Go.Proofs.YtfbomhedhfkcpaaW.PrintWords Go.Proofs.YtfbomhedhfkcpaaW.PrintLast Go.Proofs.YtfbomhedhfkcpaaW.PrintMore
attribute [local go_sem] max2_int min2_int max_two min_two max_three min_three max_four min_four   -- for this text's walks alone
set_option linter.unusedVariables false
set_option linter.unusedSimpArgs false

/-! ### spec_SameDepends: function 50 -/
mutual
def spec_SameDepends.j0 : Nat → List (S77) → List (S77) → Bool → Option (Bool × Bool)
  | 0, _, _, _ => none
  | k + 1, x0, x1, x21 => if x21 = true then (some (false, false)) else (spec_SameDepends.l0 k x0 x1 x0 (x0.length : Int) 0)
def spec_SameDepends.l0 : Nat → List (S77) → List (S77) → List (S77) → Int → Int → Option (Bool × Bool)
  | 0, _, _, _, _, _ => none
  | k + 1, x0, x1, x22, x23, x24 => if x24 < x23 then (if 0 ≤ x24 then (if x24 < (x22.length : Int) then ((spec_l7Implies.f k x1 ((rd_T77 x22 x24).f0) ((rd_T77 x22 x24).f1)).bind fun t901 => (if t901 = true then (spec_SameDepends.l0 k x0 x1 x22 x23 (wrap64 (x24 + 1))) else (some (false, true)))) else (none)) else (none)) else (spec_SameDepends.l1 k x0 x1 (x1.length : Int) 0)
def spec_SameDepends.l1 : Nat → List (S77) → List (S77) → Int → Int → Option (Bool × Bool)
  | 0, _, _, _, _ => none
  | k + 1, x0, x33, x34, x35 => if x35 < x34 then (if 0 ≤ x35 then (if x35 < (x33.length : Int) then ((spec_l7Implies.f k x0 ((rd_T77 x33 x35).f0) ((rd_T77 x33 x35).f1)).bind fun t904 => (if t904 = true then (spec_SameDepends.l1 k x0 x33 x34 (wrap64 (x35 + 1))) else (some (false, true)))) else (none)) else (none)) else (some (true, true))
end
def spec_SameDepends.f (k : Nat) (l0 : List (S77)) (l1 : List (S77)) (a2 : Int) : Option (Bool × Bool) := (spec_GoodDepends.f k l0 a2).bind fun t897 => (if t897 = true then ((spec_GoodDepends.f k l1 a2).bind fun t898 => (spec_SameDepends.j0 k l0 l1 (!t898))) else (spec_SameDepends.j0 k l0 l1 true))
theorem spec_SameDepends.mono_l : ∀ k, (∀ y0 y1 y2, LeO (spec_SameDepends.j0 k y0 y1 y2) (spec_SameDepends.j0 (k + 1) y0 y1 y2)) ∧ (∀ y0 y1 y2 y3 y4, LeO (spec_SameDepends.l0 k y0 y1 y2 y3 y4) (spec_SameDepends.l0 (k + 1) y0 y1 y2 y3 y4)) ∧ (∀ y0 y1 y2 y3, LeO (spec_SameDepends.l1 k y0 y1 y2 y3) (spec_SameDepends.l1 (k + 1) y0 y1 y2 y3))
  | 0 => ⟨fun _ _ _ r h => by simp [spec_SameDepends.j0] at h, fun _ _ _ _ _ r h => by simp [spec_SameDepends.l0] at h, fun _ _ _ _ r h => by simp [spec_SameDepends.l1] at h⟩
  | k + 1 => by
    obtain ⟨ih0, ih1, ih2⟩ := spec_SameDepends.mono_l k
    refine ⟨?_, ?_, ?_⟩
    · intro y0 y1 y2
      unfold spec_SameDepends.j0
      repeat' first
      | (with_reducible exact ih0 _ _ _)
      | (with_reducible exact ih1 _ _ _ _ _)
      | (with_reducible exact ih2 _ _ _ _)
      | (with_reducible exact spec_GoodDepends.mono _ _ _)
      | (with_reducible exact spec_l7Implies.mono _ _ _ _)
      | (with_reducible exact LeO.refl _)
      | (with_reducible exact LeO.none _)
      | (with_reducible refine LeO.ite ?_ ?_)
      | (with_reducible refine LeO.bind ?_ (fun _ => ?_))
      | exact ih0 _ _ _
      | exact ih1 _ _ _ _ _
      | exact ih2 _ _ _ _
      | exact spec_GoodDepends.mono _ _ _
      | exact spec_l7Implies.mono _ _ _ _
      | exact LeO.none _
      | refine LeO.ite ?_ ?_
      | refine LeO.bind ?_ (fun _ => ?_)
    · intro y0 y1 y2 y3 y4
      unfold spec_SameDepends.l0
      repeat' first
      | (with_reducible exact ih0 _ _ _)
      | (with_reducible exact ih1 _ _ _ _ _)
      | (with_reducible exact ih2 _ _ _ _)
      | (with_reducible exact spec_GoodDepends.mono _ _ _)
      | (with_reducible exact spec_l7Implies.mono _ _ _ _)
      | (with_reducible exact LeO.refl _)
      | (with_reducible exact LeO.none _)
      | (with_reducible refine LeO.ite ?_ ?_)
      | (with_reducible refine LeO.bind ?_ (fun _ => ?_))
      | exact ih0 _ _ _
      | exact ih1 _ _ _ _ _
      | exact ih2 _ _ _ _
      | exact spec_GoodDepends.mono _ _ _
      | exact spec_l7Implies.mono _ _ _ _
      | exact LeO.none _
      | refine LeO.ite ?_ ?_
      | refine LeO.bind ?_ (fun _ => ?_)
    · intro y0 y1 y2 y3
      unfold spec_SameDepends.l1
      repeat' first
      | (with_reducible exact ih0 _ _ _)
      | (with_reducible exact ih1 _ _ _ _ _)
      | (with_reducible exact ih2 _ _ _ _)
      | (with_reducible exact spec_GoodDepends.mono _ _ _)
      | (with_reducible exact spec_l7Implies.mono _ _ _ _)
      | (with_reducible exact LeO.refl _)
      | (with_reducible exact LeO.none _)
      | (with_reducible refine LeO.ite ?_ ?_)
      | (with_reducible refine LeO.bind ?_ (fun _ => ?_))
      | exact ih0 _ _ _
      | exact ih1 _ _ _ _ _
      | exact ih2 _ _ _ _
      | exact spec_GoodDepends.mono _ _ _
      | exact spec_l7Implies.mono _ _ _ _
      | exact LeO.none _
      | refine LeO.ite ?_ ?_
      | refine LeO.bind ?_ (fun _ => ?_)
theorem spec_SameDepends.mono : ∀ a0 a1 a2 k, LeO (spec_SameDepends.f k a0 a1 a2) (spec_SameDepends.f (k + 1) a0 a1 a2) := by
  intro a0 a1 a2 k
  obtain ⟨ih0, ih1, ih2⟩ := spec_SameDepends.mono_l k
  unfold spec_SameDepends.f
  repeat' first
      | (with_reducible exact ih0 _ _ _)
      | (with_reducible exact ih1 _ _ _ _ _)
      | (with_reducible exact ih2 _ _ _ _)
      | (with_reducible exact spec_GoodDepends.mono _ _ _)
      | (with_reducible exact spec_l7Implies.mono _ _ _ _)
      | (with_reducible exact LeO.refl _)
      | (with_reducible exact LeO.none _)
      | (with_reducible refine LeO.ite ?_ ?_)
      | (with_reducible refine LeO.bind ?_ (fun _ => ?_))
      | exact ih0 _ _ _
      | exact ih1 _ _ _ _ _
      | exact ih2 _ _ _ _
      | exact spec_GoodDepends.mono _ _ _
      | exact spec_l7Implies.mono _ _ _ _
      | exact LeO.none _
      | refine LeO.ite ?_ ?_
      | refine LeO.bind ?_ (fun _ => ?_)
set_option maxHeartbeats 8000000 in
set_option maxRecDepth 100000 in
theorem spec_SameDepends.calls (k : Nat) (A0 : Option Addr) (c0 : Nat) (l0 : List (S77)) (A1 : Option Addr) (c1 : Nat) (l1 : List (S77)) (a2 : Int) (r1 : Bool) (r2 : Bool) (w : World) (hr0 : Kd.C k77 w A0 l0.length l0) (hc0 : l0.length ≤ c0) (hr1 : Kd.C k77 w A1 l1.length l1) (hc1 : l1.length ≤ c1) (h : spec_SameDepends.f k l0 l1 a2 = some (r1, r2)) :
    Calls Try.prog 50 #[.slice A0 l0.length c0, .slice A1 l1.length c1, .int .i64 a2] w fun e w' => e = .returned (.tuple #[.bool r1, .bool r2]) ∧ Below w.heap.size w w' := by
  have hu77 := Try.underlying77
  have HR0 := Aside0.mk hr0
  have HC0 := Aside0.mk hc0
  clear hr0 hc0
  have HR1 := Aside0.mk hr1
  have HC1 := Aside0.mk hc1
  clear hr1 hc1
  have HB := Aside0.mk (Below.refl w.heap.size w)
  have H : ((spec_GoodDepends.f k l0 a2).bind fun t897 => (if t897 = true then ((spec_GoodDepends.f k l1 a2).bind fun t898 => (spec_SameDepends.j0 k l0 l1 (!t898))) else (spec_SameDepends.j0 k l0 l1 true))) = some (r1, r2) := h
  clear h
  have HC4 := Aside0.mk H
  clear H
  go_enter Try.func50, Try.ntmps50
  go_upto_region 1 with (fail)
  go_cut [21] (fun v21 wc => ∃ (kq : Nat) (x21_3 : Bool), v21 = .bool x21_3 ∧ Aside0 (spec_SameDepends.j0 kq l0 l1 x21_3 = some (r1, r2)) ∧ Aside0 (kq ≤ k) ∧ Aside0 (Below w.heap.size w wc))
  case first =>
    have H := HC4.out
    clear HC4
    replace H := Option.bind_eq_some_iff.mp H
    obtain ⟨t897, A50, H⟩ := H
    replace H : (if t897 = true then ((spec_GoodDepends.f k l1 a2).bind fun t898 => (spec_SameDepends.j0 k l0 l1 (!t898))) else (spec_SameDepends.j0 k l0 l1 true)) = some (r1, r2) := H
    have A5 := Aside0.mk A50
    clear A50
    by_cases c6 : t897 = true
    · subst c6
      have H1 : ((spec_GoodDepends.f k l1 a2).bind fun t898 => (spec_SameDepends.j0 k l0 l1 (!t898))) = some (r1, r2) := by first | (with_reducible rfl) | (rw [if_pos rfl] at H; exact H)
      clear H
      have H := H1
      clear H1
      replace H := Option.bind_eq_some_iff.mp H
      obtain ⟨t898, A70, H⟩ := H
      replace H : (spec_SameDepends.j0 k l0 l1 (!t898)) = some (r1, r2) := H
      have A7 := Aside0.mk A70
      clear A70
      have H' := Aside0.mk H
      clear H
      go_wp2_with (first | ((with_reducible refine gate_callee (f := 23) rfl ?_); refine goesL_ (some 14) rfl rfl Try.func23 (by kernel_rfl) rfl #[.slice A0 l0.length c0, .int .i64 a2] rfl (by (try simp only [List.map_toArray, List.map_cons, List.map_nil]); first | done | rfl | (simp only [List.length_drop, List.length_take]; rfl)) ?_; (with_reducible refine (spec_GoodDepends.calls k _ _ l0 a2 true _ ?side1 ?side2 A5.out).mono ?_); (case side1 => repeat (first | exact (Kd.C_below HR0.out HB.out) | (with_reducible refine Kd.C_alloc ?_ _) | (with_reducible refine Kd.C_drewN ?_ _) | (with_reducible refine Kd.C_drew ?_))); (case side2 => exact HC0.out); rintro e w8 ⟨rfl, hb⟩; refine ⟨_, rfl, ?_⟩; have n0_ := Aside0.mk (below_step (by repeat (first | (with_reducible first | exact HB.out | apply below_alloc | apply pw_below_drewN | apply below_drew1) | exact HB.out)) hb); clear HB; have HB := n0_; clear n0_; (try clear hb); (try clear hb2); (try clear hk); (try clear hi)) | (go_at_call 23; (with_reducible refine (spec_GoodDepends.calls k _ _ l1 a2 t898 _ ?side1 ?side2 A7.out).mono ?_); (case side1 => repeat (first | exact (Kd.C_below HR1.out HB.out) | (with_reducible refine Kd.C_alloc ?_ _) | (with_reducible refine Kd.C_drewN ?_ _) | (with_reducible refine Kd.C_drew ?_))); (case side2 => exact HC1.out); rintro e w9 ⟨rfl, hb⟩; have n0_ := Aside0.mk (below_step (by repeat (first | (with_reducible first | exact HB.out | apply below_alloc | apply pw_below_drewN | apply below_drew1) | exact HB.out)) hb); clear HB; have HB := n0_; clear n0_; (try clear hb); (try clear hb2); (try clear hk); (try clear hi)))
      go_meet
      case rel => exact ⟨_, (!t898), (by first | rfl | (simp; done) | (simp [*]; done)), H', ⟨by first | omega | exact Nat.le_refl _⟩, ⟨by repeat (first | (with_reducible first | exact HB.out | apply below_alloc | apply pw_below_drewN | apply below_drew1) | exact HB.out)⟩⟩
    · replace c6 := Bool.eq_false_iff.mpr c6
      subst c6
      have H1 : (spec_SameDepends.j0 k l0 l1 true) = some (r1, r2) := by first | (with_reducible rfl) | (rw [if_neg (show ¬ (false = true) by decide)] at H; exact H)
      clear H
      have H := H1
      clear H1
      have H' := Aside0.mk H
      clear H
      go_wp2_with (first | ((with_reducible refine gate_callee (f := 23) rfl ?_); refine goesL_ (some 14) rfl rfl Try.func23 (by kernel_rfl) rfl #[.slice A0 l0.length c0, .int .i64 a2] rfl (by (try simp only [List.map_toArray, List.map_cons, List.map_nil]); first | done | rfl | (simp only [List.length_drop, List.length_take]; rfl)) ?_; (with_reducible refine (spec_GoodDepends.calls k _ _ l0 a2 false _ ?side1 ?side2 A5.out).mono ?_); (case side1 => repeat (first | exact (Kd.C_below HR0.out HB.out) | (with_reducible refine Kd.C_alloc ?_ _) | (with_reducible refine Kd.C_drewN ?_ _) | (with_reducible refine Kd.C_drew ?_))); (case side2 => exact HC0.out); rintro e w10 ⟨rfl, hb⟩; refine ⟨_, rfl, ?_⟩; have n0_ := Aside0.mk (below_step (by repeat (first | (with_reducible first | exact HB.out | apply below_alloc | apply pw_below_drewN | apply below_drew1) | exact HB.out)) hb); clear HB; have HB := n0_; clear n0_; (try clear hb); (try clear hb2); (try clear hk); (try clear hi)))
      go_meet
      case rel => exact ⟨_, (true), (by first | rfl | (simp; done) | (simp [*]; done)), H', ⟨by first | omega | exact Nat.le_refl _⟩, ⟨by repeat (first | (with_reducible first | exact HB.out | apply below_alloc | apply pw_below_drewN | apply below_drew1) | exact HB.out)⟩⟩
  case rest =>
    clear HC4
    try clear c1
    try clear c2
    try clear p2
    try clear c5
    try clear c6
    obtain ⟨kq, x21_3, rfl, HA, HJ3, HB⟩ := hcut
    cases kq with
    | zero => exact absurd HA.out (by simp [spec_SameDepends.j0])
    | succ kj3 =>
      have H := HA.out
      clear HA
      simp only [spec_SameDepends.j0] at H
      by_cases c11 : x21_3 = true
      · subst c11
        have H1 : (some (false, false)) = some (r1, r2) := by first | (with_reducible rfl) | (rw [if_pos rfl] at H; exact H)
        clear H
        have H := H1
        clear H1
        simp only [Option.some.injEq, Prod.mk.injEq] at H
        obtain ⟨rfl, rfl⟩ := H
        go_wp2
        go_ret2
        exact ⟨by first | rfl | (simp [errW_none, errW_some] <;> rfl) | (simp [*, errW_none, errW_some] <;> rfl), by repeat (first | (with_reducible first | exact HB.out | apply below_alloc | apply pw_below_drewN | apply below_drew1) | exact HB.out)⟩
      · replace c11 := Bool.eq_false_iff.mpr c11
        subst c11
        have H1 : (spec_SameDepends.l0 kj3 l0 l1 l0 (l0.length : Int) 0) = some (r1, r2) := by first | (with_reducible rfl) | (rw [if_neg (show ¬ (false = true) by decide)] at H; exact H)
        clear H
        have H := H1
        clear H1
        have H' := Aside0.mk H
        clear H
        go_wp2
        go_loopg [24] kj3 (fun kq v24 w' => ∃ (x24_2 : Int), v24 = .int .i64 x24_2 ∧ Aside0 (spec_SameDepends.l0 kq l0 l1 l0 (l0.length : Int) x24_2 = some (r1, r2)) ∧ Aside0 (kq ≤ kj3) ∧ Aside0 (Below w.heap.size w w'))
        case atStart => exact ⟨(0), (by first | rfl | (simp; done) | (simp [*]; done)), H', ⟨Nat.le_refl _⟩, ⟨by repeat (first | (with_reducible first | exact HB.out | apply below_alloc | apply pw_below_drewN | apply below_drew1) | exact HB.out)⟩⟩
        case round =>
          clear H'
          try clear c1
          try clear c2
          try clear p2
          try clear c5
          try clear c6
          try clear c11
          try clear p2
          obtain ⟨x24_2, rfl, HA, HK2, HB⟩ := hrel
          cases gk with
          | zero => exact absurd HA.out (by simp [spec_SameDepends.l0])
          | succ k2 =>
            have H := HA.out
            clear HA
            simp only [spec_SameDepends.l0] at H
            by_cases c12 : x24_2 < (l0.length : Int)
            · rw [if_pos c12] at H
              have c12b0 : decide (x24_2 < (l0.length : Int)) = true := decide_eq_true c12
              clear c12
              by_cases c13 : 0 ≤ x24_2
              · rw [if_pos c13] at H
                have c13b0 : decide (0 ≤ x24_2) = true := decide_eq_true c13
                clear c13
                by_cases c14 : x24_2 < (l0.length : Int)
                · rw [if_pos c14] at H
                  have c14b0 : decide (x24_2 < (l0.length : Int)) = true := decide_eq_true c14
                  clear c14
                  replace H := Option.bind_eq_some_iff.mp H
                  obtain ⟨t901, A150, H⟩ := H
                  replace H : (if t901 = true then (spec_SameDepends.l0 k2 l0 l1 l0 (l0.length : Int) (wrap64 (x24_2 + 1))) else (some (false, true))) = some (r1, r2) := H
                  have A15 := Aside0.mk A150
                  clear A150
                  by_cases c16 : t901 = true
                  · subst c16
                    have H1 : (spec_SameDepends.l0 k2 l0 l1 l0 (l0.length : Int) (wrap64 (x24_2 + 1))) = some (r1, r2) := by first | (with_reducible rfl) | (rw [if_pos rfl] at H; exact H)
                    clear H
                    have H := H1
                    clear H1
                    have H' := Aside0.mk H
                    clear H
                    have p899 : 0 ≤ (x24_2 : Int) := of_decide_eq_true (by first | (with_reducible assumption) | assumption)
                    have q899 : x24_2 < (l0.length : Int) := of_decide_eq_true (by first | (with_reducible assumption) | assumption)
                    obtain ⟨ad899, A899_0, c899_0, A899_1, c899_1, e899, hx899_0, hx899_1, hl899_0, hi899_0, hl899_1, hi899_1⟩ := at_T77 HR0.out x24_2 p899 q899
                    cases e899
                    replace hx899_0 := (HB.out.cell (World.block_lt_of_cell? w _ hx899_0)).trans hx899_0
                    replace hx899_1 := (HB.out.cell (World.block_lt_of_cell? w _ hx899_1)).trans hx899_1
                    have HR899_0 := Aside0.mk hi899_0
                    have HC899_0 := Aside0.mk hl899_0
                    clear hi899_0 hl899_0
                    have HR899_1 := Aside0.mk hi899_1
                    have HC899_1 := Aside0.mk hl899_1
                    clear hi899_1 hl899_1
                    replace p899 := eq_true p899
                    replace q899 := eq_true q899
                    go_wp2_with (first | ((with_reducible refine gate_dst (N := 9) rfl ?_); refine box_event ?hg (N := 9) ?hd (cs := #[.slice none 0 0, .slice none 0 0]) (t := 77) ?hr ?_; (case hd => rfl); (case hg => rfl); (case hr => first | (go_simp; done) | (go_simp; rfl)); intro gb900 hg w17 hbox hb; have n0_ := Aside0.mk (below_step (by repeat (first | (with_reducible first | exact HB.out | apply below_alloc | apply pw_below_drewN | apply below_drew1) | exact HB.out)) hb); have n1_ := Aside0.mk (hbox); have n2_ := Aside0.mk ((by rw [hg]; exact (below_size (by repeat (first | (with_reducible first | exact HB.out | apply below_alloc | apply pw_below_drewN | apply below_drew1) | exact HB.out))) : w.heap.size ≤ gb900)); have n3_ := Aside0.mk ((by rw [hg]; exact (below_size (by repeat (first | (with_reducible first | exact HB.out | apply below_alloc | apply pw_below_drewN | apply below_drew1) | exact HB.out))) : w.heap.size ≤ gb900)); clear HB; have HB := n0_; have BK900 := n1_; have GW900 := n2_; have GE900 := n3_; clear n0_ n1_ n2_ n3_; clear hb hbox hg; have hcz18_0 : w17.cell? ⟨gb900, 0, none⟩ = some (.slice none 0 0) := (blk_cell BK900.out 0).trans rfl; have hcz18_1 : w17.cell? ⟨gb900, 1, none⟩ = some (.slice none 0 0) := (blk_cell BK900.out 1).trans rfl; have hfz18_0 := blk_frozen BK900.out 0; have hfz18_1 := blk_frozen BK900.out 1) | ((with_reducible refine gate_callee (f := 103) rfl ?_); refine goesL_ (some 30) rfl rfl Try.func103 (by kernel_rfl) rfl #[.slice A1 l1.length c1, .agg #[.slice A899_0 ((rd_T77 l0 x24_2).f0).length c899_0, .slice A899_1 ((rd_T77 l0 x24_2).f1).length c899_1]] rfl (by (try simp only [List.map_toArray, List.map_cons, List.map_nil]); first | done | rfl | (simp only [List.length_drop, List.length_take]; rfl)) ?_; (with_reducible refine (spec_l7Implies.calls k2 _ _ l1 _ _ ((rd_T77 l0 x24_2).f0) _ _ ((rd_T77 l0 x24_2).f1) true _ ?side1 ?side2 ?side3 ?side4 ?side5 ?side6 A15.out).mono ?_); (case side1 => exact Kd.C_below HR1.out (by repeat (first | (with_reducible first | exact HB.out | apply below_alloc | apply pw_below_drewN | apply below_drew1 | refine below_set ?_ GE900.out) | exact HB.out))); (case side2 => exact HC1.out); (case side3 => exact Kd.C_below HR899_0.out (by repeat (first | (with_reducible first | exact HB.out | apply below_alloc | apply pw_below_drewN | apply below_drew1 | refine below_set ?_ GE900.out) | exact HB.out))); (case side4 => exact HC899_0.out); (case side5 => exact Kd.C_below HR899_1.out (by repeat (first | (with_reducible first | exact HB.out | apply below_alloc | apply pw_below_drewN | apply below_drew1 | refine below_set ?_ GE900.out) | exact HB.out))); (case side6 => exact HC899_1.out); rintro e w19 ⟨rfl, hb⟩; refine ⟨_, rfl, ?_⟩; have n0_ := Aside0.mk (blk_below (g := gb900) (o := .cells #[.slice A899_0 ((rd_T77 l0 x24_2).f0).length c899_0, .slice A899_1 ((rd_T77 l0 x24_2).f1).length c899_1] 77 (0, 0)) (by (with_reducible repeat (first | refine blk_drewN ?_ _ | refine blk_drew ?_ | refine blk_alloc ?_ _)); refine blk_put (cs := #[.slice A899_0 ((rd_T77 l0 x24_2).f0).length c899_0, .slice none 0 0]) ?_ 1 _ rfl; (with_reducible repeat (first | refine blk_drewN ?_ _ | refine blk_drew ?_ | refine blk_alloc ?_ _)); refine blk_put (cs := #[.slice none 0 0, .slice none 0 0]) ?_ 0 _ rfl; (with_reducible repeat (first | refine blk_drewN ?_ _ | refine blk_drew ?_ | refine blk_alloc ?_ _)); exact BK900.out) hb); have n1_ := Aside0.mk (below_step (by repeat (first | (with_reducible first | exact HB.out | apply below_alloc | apply pw_below_drewN | apply below_drew1 | refine below_set ?_ GE900.out) | exact HB.out)) hb); clear BK900; clear HB; have BK900 := n0_; have HB := n1_; clear n0_ n1_; (try clear hb); (try clear hb2); (try clear hk); (try clear hi)))
                    go_roundg k2
                    case measure => have := HJ3.out; have := HK2.out; omega
                    case rel => exact ⟨(wrap64 (x24_2 + 1)), (by first | rfl | (simp; done) | (simp [*]; done)), H', ⟨by have := HJ3.out; have := HK2.out; omega⟩, ⟨by repeat (first | (with_reducible first | exact HB.out | apply below_alloc | apply pw_below_drewN | apply below_drew1 | refine below_set ?_ GE900.out) | exact HB.out)⟩⟩
                  · replace c16 := Bool.eq_false_iff.mpr c16
                    subst c16
                    have H1 : (some (false, true)) = some (r1, r2) := by first | (with_reducible rfl) | (rw [if_neg (show ¬ (false = true) by decide)] at H; exact H)
                    clear H
                    have H := H1
                    clear H1
                    simp only [Option.some.injEq, Prod.mk.injEq] at H
                    obtain ⟨rfl, rfl⟩ := H
                    have p899 : 0 ≤ (x24_2 : Int) := of_decide_eq_true (by first | (with_reducible assumption) | assumption)
                    have q899 : x24_2 < (l0.length : Int) := of_decide_eq_true (by first | (with_reducible assumption) | assumption)
                    obtain ⟨ad899, A899_0, c899_0, A899_1, c899_1, e899, hx899_0, hx899_1, hl899_0, hi899_0, hl899_1, hi899_1⟩ := at_T77 HR0.out x24_2 p899 q899
                    cases e899
                    replace hx899_0 := (HB.out.cell (World.block_lt_of_cell? w _ hx899_0)).trans hx899_0
                    replace hx899_1 := (HB.out.cell (World.block_lt_of_cell? w _ hx899_1)).trans hx899_1
                    have HR899_0 := Aside0.mk hi899_0
                    have HC899_0 := Aside0.mk hl899_0
                    clear hi899_0 hl899_0
                    have HR899_1 := Aside0.mk hi899_1
                    have HC899_1 := Aside0.mk hl899_1
                    clear hi899_1 hl899_1
                    replace p899 := eq_true p899
                    replace q899 := eq_true q899
                    go_wp2_with (first | ((with_reducible refine gate_dst (N := 9) rfl ?_); refine box_event ?hg (N := 9) ?hd (cs := #[.slice none 0 0, .slice none 0 0]) (t := 77) ?hr ?_; (case hd => rfl); (case hg => rfl); (case hr => first | (go_simp; done) | (go_simp; rfl)); intro gb900 hg w20 hbox hb; have n0_ := Aside0.mk (below_step (by repeat (first | (with_reducible first | exact HB.out | apply below_alloc | apply pw_below_drewN | apply below_drew1) | exact HB.out)) hb); have n1_ := Aside0.mk (hbox); have n2_ := Aside0.mk ((by rw [hg]; exact (below_size (by repeat (first | (with_reducible first | exact HB.out | apply below_alloc | apply pw_below_drewN | apply below_drew1) | exact HB.out))) : w.heap.size ≤ gb900)); have n3_ := Aside0.mk ((by rw [hg]; exact (below_size (by repeat (first | (with_reducible first | exact HB.out | apply below_alloc | apply pw_below_drewN | apply below_drew1) | exact HB.out))) : w.heap.size ≤ gb900)); clear HB; have HB := n0_; have BK900 := n1_; have GW900 := n2_; have GE900 := n3_; clear n0_ n1_ n2_ n3_; clear hb hbox hg; have hcz21_0 : w20.cell? ⟨gb900, 0, none⟩ = some (.slice none 0 0) := (blk_cell BK900.out 0).trans rfl; have hcz21_1 : w20.cell? ⟨gb900, 1, none⟩ = some (.slice none 0 0) := (blk_cell BK900.out 1).trans rfl; have hfz21_0 := blk_frozen BK900.out 0; have hfz21_1 := blk_frozen BK900.out 1) | ((with_reducible refine gate_callee (f := 103) rfl ?_); refine goesL_ (some 30) rfl rfl Try.func103 (by kernel_rfl) rfl #[.slice A1 l1.length c1, .agg #[.slice A899_0 ((rd_T77 l0 x24_2).f0).length c899_0, .slice A899_1 ((rd_T77 l0 x24_2).f1).length c899_1]] rfl (by (try simp only [List.map_toArray, List.map_cons, List.map_nil]); first | done | rfl | (simp only [List.length_drop, List.length_take]; rfl)) ?_; (with_reducible refine (spec_l7Implies.calls k2 _ _ l1 _ _ ((rd_T77 l0 x24_2).f0) _ _ ((rd_T77 l0 x24_2).f1) false _ ?side1 ?side2 ?side3 ?side4 ?side5 ?side6 A15.out).mono ?_); (case side1 => exact Kd.C_below HR1.out (by repeat (first | (with_reducible first | exact HB.out | apply below_alloc | apply pw_below_drewN | apply below_drew1 | refine below_set ?_ GE900.out) | exact HB.out))); (case side2 => exact HC1.out); (case side3 => exact Kd.C_below HR899_0.out (by repeat (first | (with_reducible first | exact HB.out | apply below_alloc | apply pw_below_drewN | apply below_drew1 | refine below_set ?_ GE900.out) | exact HB.out))); (case side4 => exact HC899_0.out); (case side5 => exact Kd.C_below HR899_1.out (by repeat (first | (with_reducible first | exact HB.out | apply below_alloc | apply pw_below_drewN | apply below_drew1 | refine below_set ?_ GE900.out) | exact HB.out))); (case side6 => exact HC899_1.out); rintro e w22 ⟨rfl, hb⟩; refine ⟨_, rfl, ?_⟩; have n0_ := Aside0.mk (blk_below (g := gb900) (o := .cells #[.slice A899_0 ((rd_T77 l0 x24_2).f0).length c899_0, .slice A899_1 ((rd_T77 l0 x24_2).f1).length c899_1] 77 (0, 0)) (by (with_reducible repeat (first | refine blk_drewN ?_ _ | refine blk_drew ?_ | refine blk_alloc ?_ _)); refine blk_put (cs := #[.slice A899_0 ((rd_T77 l0 x24_2).f0).length c899_0, .slice none 0 0]) ?_ 1 _ rfl; (with_reducible repeat (first | refine blk_drewN ?_ _ | refine blk_drew ?_ | refine blk_alloc ?_ _)); refine blk_put (cs := #[.slice none 0 0, .slice none 0 0]) ?_ 0 _ rfl; (with_reducible repeat (first | refine blk_drewN ?_ _ | refine blk_drew ?_ | refine blk_alloc ?_ _)); exact BK900.out) hb); have n1_ := Aside0.mk (below_step (by repeat (first | (with_reducible first | exact HB.out | apply below_alloc | apply pw_below_drewN | apply below_drew1 | refine below_set ?_ GE900.out) | exact HB.out)) hb); clear BK900; clear HB; have BK900 := n0_; have HB := n1_; clear n0_ n1_; (try clear hb); (try clear hb2); (try clear hk); (try clear hi)))
                    go_ret2
                    exact ⟨by first | rfl | (simp [errW_none, errW_some] <;> rfl) | (simp [*, errW_none, errW_some] <;> rfl), by repeat (first | (with_reducible first | exact HB.out | apply below_alloc | apply pw_below_drewN | apply below_drew1 | refine below_set ?_ GE900.out) | exact HB.out)⟩
                · rw [if_neg c14] at H
                  exact absurd H (by simp)
              · rw [if_neg c13] at H
                exact absurd H (by simp)
            · rw [if_neg c12] at H
              have c12b0 : decide (x24_2 < (l0.length : Int)) = false := decide_eq_false c12
              clear c12
              have H' := Aside0.mk H
              clear H
              go_wp2
              go_loopg [35] k2 (fun kq v35 w' => ∃ (x35_3 : Int), v35 = .int .i64 x35_3 ∧ Aside0 (spec_SameDepends.l1 kq l0 l1 (l1.length : Int) x35_3 = some (r1, r2)) ∧ Aside0 (kq ≤ k2) ∧ Aside0 (Below w.heap.size w w'))
              case atStart => exact ⟨(0), (by first | rfl | (simp; done) | (simp [*]; done)), H', ⟨Nat.le_refl _⟩, ⟨by repeat (first | (with_reducible first | exact HB.out | apply below_alloc | apply pw_below_drewN | apply below_drew1) | exact HB.out)⟩⟩
              case round =>
                clear H'
                try clear c1
                try clear c2
                try clear p2
                try clear c5
                try clear c6
                try clear p6
                try clear c8
                try clear p8
                try clear q8
                try clear hx8
                try clear c10
                try clear c11
                try clear c12
                try clear c12b0
                try clear c13
                try clear c13b0
                try clear c14
                try clear c14b0
                try clear c16
                try clear hcz18_0
                try clear hcz18_1
                try clear hcz21_0
                try clear hcz21_1
                try clear hfz18_0
                try clear hfz18_1
                try clear hfz21_0
                try clear hfz21_1
                try clear hx899_0
                try clear hx899_1
                try clear p2
                try clear p899
                try clear q899
                obtain ⟨x35_3, rfl, HA, HK3, HB⟩ := hrel
                cases gk with
                | zero => exact absurd HA.out (by simp [spec_SameDepends.l1])
                | succ k3 =>
                  have H := HA.out
                  clear HA
                  simp only [spec_SameDepends.l1] at H
                  by_cases c23 : x35_3 < (l1.length : Int)
                  · rw [if_pos c23] at H
                    have c23b0 : decide (x35_3 < (l1.length : Int)) = true := decide_eq_true c23
                    clear c23
                    by_cases c24 : 0 ≤ x35_3
                    · rw [if_pos c24] at H
                      have c24b0 : decide (0 ≤ x35_3) = true := decide_eq_true c24
                      clear c24
                      by_cases c25 : x35_3 < (l1.length : Int)
                      · rw [if_pos c25] at H
                        have c25b0 : decide (x35_3 < (l1.length : Int)) = true := decide_eq_true c25
                        clear c25
                        replace H := Option.bind_eq_some_iff.mp H
                        obtain ⟨t904, A260, H⟩ := H
                        replace H : (if t904 = true then (spec_SameDepends.l1 k3 l0 l1 (l1.length : Int) (wrap64 (x35_3 + 1))) else (some (false, true))) = some (r1, r2) := H
                        have A26 := Aside0.mk A260
                        clear A260
                        by_cases c27 : t904 = true
                        · subst c27
                          have H1 : (spec_SameDepends.l1 k3 l0 l1 (l1.length : Int) (wrap64 (x35_3 + 1))) = some (r1, r2) := by first | (with_reducible rfl) | (rw [if_pos rfl] at H; exact H)
                          clear H
                          have H := H1
                          clear H1
                          have H' := Aside0.mk H
                          clear H
                          have p902 : 0 ≤ (x35_3 : Int) := of_decide_eq_true (by first | (with_reducible assumption) | assumption)
                          have q902 : x35_3 < (l1.length : Int) := of_decide_eq_true (by first | (with_reducible assumption) | assumption)
                          obtain ⟨ad902, A902_0, c902_0, A902_1, c902_1, e902, hx902_0, hx902_1, hl902_0, hi902_0, hl902_1, hi902_1⟩ := at_T77 HR1.out x35_3 p902 q902
                          cases e902
                          replace hx902_0 := (HB.out.cell (World.block_lt_of_cell? w _ hx902_0)).trans hx902_0
                          replace hx902_1 := (HB.out.cell (World.block_lt_of_cell? w _ hx902_1)).trans hx902_1
                          have HR902_0 := Aside0.mk hi902_0
                          have HC902_0 := Aside0.mk hl902_0
                          clear hi902_0 hl902_0
                          have HR902_1 := Aside0.mk hi902_1
                          have HC902_1 := Aside0.mk hl902_1
                          clear hi902_1 hl902_1
                          replace p902 := eq_true p902
                          replace q902 := eq_true q902
                          go_wp2_with (first | ((with_reducible refine gate_dst (N := 11) rfl ?_); refine box_event ?hg (N := 11) ?hd (cs := #[.slice none 0 0, .slice none 0 0]) (t := 77) ?hr ?_; (case hd => rfl); (case hg => rfl); (case hr => first | (go_simp; done) | (go_simp; rfl)); intro gb903 hg w28 hbox hb; have n0_ := Aside0.mk (below_step (by repeat (first | (with_reducible first | exact HB.out | apply below_alloc | apply pw_below_drewN | apply below_drew1) | exact HB.out)) hb); have n1_ := Aside0.mk (hbox); have n2_ := Aside0.mk ((by rw [hg]; exact (below_size (by repeat (first | (with_reducible first | exact HB.out | apply below_alloc | apply pw_below_drewN | apply below_drew1) | exact HB.out))) : w.heap.size ≤ gb903)); have n3_ := Aside0.mk ((by rw [hg]; exact (below_size (by repeat (first | (with_reducible first | exact HB.out | apply below_alloc | apply pw_below_drewN | apply below_drew1) | exact HB.out))) : w.heap.size ≤ gb903)); clear HB; have HB := n0_; have BK903 := n1_; have GW903 := n2_; have GE903 := n3_; clear n0_ n1_ n2_ n3_; clear hb hbox hg; have hcz29_0 : w28.cell? ⟨gb903, 0, none⟩ = some (.slice none 0 0) := (blk_cell BK903.out 0).trans rfl; have hcz29_1 : w28.cell? ⟨gb903, 1, none⟩ = some (.slice none 0 0) := (blk_cell BK903.out 1).trans rfl; have hfz29_0 := blk_frozen BK903.out 0; have hfz29_1 := blk_frozen BK903.out 1) | ((with_reducible refine gate_callee (f := 103) rfl ?_); refine goesL_ (some 41) rfl rfl Try.func103 (by kernel_rfl) rfl #[.slice A0 l0.length c0, .agg #[.slice A902_0 ((rd_T77 l1 x35_3).f0).length c902_0, .slice A902_1 ((rd_T77 l1 x35_3).f1).length c902_1]] rfl (by (try simp only [List.map_toArray, List.map_cons, List.map_nil]); first | done | rfl | (simp only [List.length_drop, List.length_take]; rfl)) ?_; (with_reducible refine (spec_l7Implies.calls k3 _ _ l0 _ _ ((rd_T77 l1 x35_3).f0) _ _ ((rd_T77 l1 x35_3).f1) true _ ?side1 ?side2 ?side3 ?side4 ?side5 ?side6 A26.out).mono ?_); (case side1 => exact Kd.C_below HR0.out (by repeat (first | (with_reducible first | exact HB.out | apply below_alloc | apply pw_below_drewN | apply below_drew1 | refine below_set ?_ GE903.out) | exact HB.out))); (case side2 => exact HC0.out); (case side3 => exact Kd.C_below HR902_0.out (by repeat (first | (with_reducible first | exact HB.out | apply below_alloc | apply pw_below_drewN | apply below_drew1 | refine below_set ?_ GE903.out) | exact HB.out))); (case side4 => exact HC902_0.out); (case side5 => exact Kd.C_below HR902_1.out (by repeat (first | (with_reducible first | exact HB.out | apply below_alloc | apply pw_below_drewN | apply below_drew1 | refine below_set ?_ GE903.out) | exact HB.out))); (case side6 => exact HC902_1.out); rintro e w30 ⟨rfl, hb⟩; refine ⟨_, rfl, ?_⟩; have n0_ := Aside0.mk (blk_below (g := gb903) (o := .cells #[.slice A902_0 ((rd_T77 l1 x35_3).f0).length c902_0, .slice A902_1 ((rd_T77 l1 x35_3).f1).length c902_1] 77 (0, 0)) (by (with_reducible repeat (first | refine blk_drewN ?_ _ | refine blk_drew ?_ | refine blk_alloc ?_ _)); refine blk_put (cs := #[.slice A902_0 ((rd_T77 l1 x35_3).f0).length c902_0, .slice none 0 0]) ?_ 1 _ rfl; (with_reducible repeat (first | refine blk_drewN ?_ _ | refine blk_drew ?_ | refine blk_alloc ?_ _)); refine blk_put (cs := #[.slice none 0 0, .slice none 0 0]) ?_ 0 _ rfl; (with_reducible repeat (first | refine blk_drewN ?_ _ | refine blk_drew ?_ | refine blk_alloc ?_ _)); exact BK903.out) hb); have n1_ := Aside0.mk (below_step (by repeat (first | (with_reducible first | exact HB.out | apply below_alloc | apply pw_below_drewN | apply below_drew1 | refine below_set ?_ GE903.out) | exact HB.out)) hb); clear BK903; clear HB; have BK903 := n0_; have HB := n1_; clear n0_ n1_; (try clear hb); (try clear hb2); (try clear hk); (try clear hi)))
                          go_roundg k3
                          case measure => have := HJ3.out; have := HK2.out; have := HK3.out; omega
                          case rel => exact ⟨(wrap64 (x35_3 + 1)), (by first | rfl | (simp; done) | (simp [*]; done)), H', ⟨by have := HJ3.out; have := HK2.out; have := HK3.out; omega⟩, ⟨by repeat (first | (with_reducible first | exact HB.out | apply below_alloc | apply pw_below_drewN | apply below_drew1 | refine below_set ?_ GE903.out) | exact HB.out)⟩⟩
                        · replace c27 := Bool.eq_false_iff.mpr c27
                          subst c27
                          have H1 : (some (false, true)) = some (r1, r2) := by first | (with_reducible rfl) | (rw [if_neg (show ¬ (false = true) by decide)] at H; exact H)
                          clear H
                          have H := H1
                          clear H1
                          simp only [Option.some.injEq, Prod.mk.injEq] at H
                          obtain ⟨rfl, rfl⟩ := H
                          have p902 : 0 ≤ (x35_3 : Int) := of_decide_eq_true (by first | (with_reducible assumption) | assumption)
                          have q902 : x35_3 < (l1.length : Int) := of_decide_eq_true (by first | (with_reducible assumption) | assumption)
                          obtain ⟨ad902, A902_0, c902_0, A902_1, c902_1, e902, hx902_0, hx902_1, hl902_0, hi902_0, hl902_1, hi902_1⟩ := at_T77 HR1.out x35_3 p902 q902
                          cases e902
                          replace hx902_0 := (HB.out.cell (World.block_lt_of_cell? w _ hx902_0)).trans hx902_0
                          replace hx902_1 := (HB.out.cell (World.block_lt_of_cell? w _ hx902_1)).trans hx902_1
                          have HR902_0 := Aside0.mk hi902_0
                          have HC902_0 := Aside0.mk hl902_0
                          clear hi902_0 hl902_0
                          have HR902_1 := Aside0.mk hi902_1
                          have HC902_1 := Aside0.mk hl902_1
                          clear hi902_1 hl902_1
                          replace p902 := eq_true p902
                          replace q902 := eq_true q902
                          go_wp2_with (first | ((with_reducible refine gate_dst (N := 11) rfl ?_); refine box_event ?hg (N := 11) ?hd (cs := #[.slice none 0 0, .slice none 0 0]) (t := 77) ?hr ?_; (case hd => rfl); (case hg => rfl); (case hr => first | (go_simp; done) | (go_simp; rfl)); intro gb903 hg w31 hbox hb; have n0_ := Aside0.mk (below_step (by repeat (first | (with_reducible first | exact HB.out | apply below_alloc | apply pw_below_drewN | apply below_drew1) | exact HB.out)) hb); have n1_ := Aside0.mk (hbox); have n2_ := Aside0.mk ((by rw [hg]; exact (below_size (by repeat (first | (with_reducible first | exact HB.out | apply below_alloc | apply pw_below_drewN | apply below_drew1) | exact HB.out))) : w.heap.size ≤ gb903)); have n3_ := Aside0.mk ((by rw [hg]; exact (below_size (by repeat (first | (with_reducible first | exact HB.out | apply below_alloc | apply pw_below_drewN | apply below_drew1) | exact HB.out))) : w.heap.size ≤ gb903)); clear HB; have HB := n0_; have BK903 := n1_; have GW903 := n2_; have GE903 := n3_; clear n0_ n1_ n2_ n3_; clear hb hbox hg; have hcz32_0 : w31.cell? ⟨gb903, 0, none⟩ = some (.slice none 0 0) := (blk_cell BK903.out 0).trans rfl; have hcz32_1 : w31.cell? ⟨gb903, 1, none⟩ = some (.slice none 0 0) := (blk_cell BK903.out 1).trans rfl; have hfz32_0 := blk_frozen BK903.out 0; have hfz32_1 := blk_frozen BK903.out 1) | ((with_reducible refine gate_callee (f := 103) rfl ?_); refine goesL_ (some 41) rfl rfl Try.func103 (by kernel_rfl) rfl #[.slice A0 l0.length c0, .agg #[.slice A902_0 ((rd_T77 l1 x35_3).f0).length c902_0, .slice A902_1 ((rd_T77 l1 x35_3).f1).length c902_1]] rfl (by (try simp only [List.map_toArray, List.map_cons, List.map_nil]); first | done | rfl | (simp only [List.length_drop, List.length_take]; rfl)) ?_; (with_reducible refine (spec_l7Implies.calls k3 _ _ l0 _ _ ((rd_T77 l1 x35_3).f0) _ _ ((rd_T77 l1 x35_3).f1) false _ ?side1 ?side2 ?side3 ?side4 ?side5 ?side6 A26.out).mono ?_); (case side1 => exact Kd.C_below HR0.out (by repeat (first | (with_reducible first | exact HB.out | apply below_alloc | apply pw_below_drewN | apply below_drew1 | refine below_set ?_ GE903.out) | exact HB.out))); (case side2 => exact HC0.out); (case side3 => exact Kd.C_below HR902_0.out (by repeat (first | (with_reducible first | exact HB.out | apply below_alloc | apply pw_below_drewN | apply below_drew1 | refine below_set ?_ GE903.out) | exact HB.out))); (case side4 => exact HC902_0.out); (case side5 => exact Kd.C_below HR902_1.out (by repeat (first | (with_reducible first | exact HB.out | apply below_alloc | apply pw_below_drewN | apply below_drew1 | refine below_set ?_ GE903.out) | exact HB.out))); (case side6 => exact HC902_1.out); rintro e w33 ⟨rfl, hb⟩; refine ⟨_, rfl, ?_⟩; have n0_ := Aside0.mk (blk_below (g := gb903) (o := .cells #[.slice A902_0 ((rd_T77 l1 x35_3).f0).length c902_0, .slice A902_1 ((rd_T77 l1 x35_3).f1).length c902_1] 77 (0, 0)) (by (with_reducible repeat (first | refine blk_drewN ?_ _ | refine blk_drew ?_ | refine blk_alloc ?_ _)); refine blk_put (cs := #[.slice A902_0 ((rd_T77 l1 x35_3).f0).length c902_0, .slice none 0 0]) ?_ 1 _ rfl; (with_reducible repeat (first | refine blk_drewN ?_ _ | refine blk_drew ?_ | refine blk_alloc ?_ _)); refine blk_put (cs := #[.slice none 0 0, .slice none 0 0]) ?_ 0 _ rfl; (with_reducible repeat (first | refine blk_drewN ?_ _ | refine blk_drew ?_ | refine blk_alloc ?_ _)); exact BK903.out) hb); have n1_ := Aside0.mk (below_step (by repeat (first | (with_reducible first | exact HB.out | apply below_alloc | apply pw_below_drewN | apply below_drew1 | refine below_set ?_ GE903.out) | exact HB.out)) hb); clear BK903; clear HB; have BK903 := n0_; have HB := n1_; clear n0_ n1_; (try clear hb); (try clear hb2); (try clear hk); (try clear hi)))
                          go_ret2
                          exact ⟨by first | rfl | (simp [errW_none, errW_some] <;> rfl) | (simp [*, errW_none, errW_some] <;> rfl), by repeat (first | (with_reducible first | exact HB.out | apply below_alloc | apply pw_below_drewN | apply below_drew1 | refine below_set ?_ GE903.out) | exact HB.out)⟩
                      · rw [if_neg c25] at H
                        exact absurd H (by simp)
                    · rw [if_neg c24] at H
                      exact absurd H (by simp)
                  · rw [if_neg c23] at H
                    have c23b0 : decide (x35_3 < (l1.length : Int)) = false := decide_eq_false c23
                    clear c23
                    simp only [Option.some.injEq, Prod.mk.injEq] at H
                    obtain ⟨rfl, rfl⟩ := H
                    go_wp2
                    go_ret2
                    exact ⟨by first | rfl | (simp [errW_none, errW_some] <;> rfl) | (simp [*, errW_none, errW_some] <;> rfl), by repeat (first | (with_reducible first | exact HB.out | apply below_alloc | apply pw_below_drewN | apply below_drew1) | exact HB.out)⟩

/-! ### slices_IndexFunc_Limpl_rule_impl_rule: function 175 -/
set_option maxHeartbeats 8000000 in
set_option maxRecDepth 100000 in
theorem slices_IndexFunc_Limpl_rule_impl_rule.any (g : Nat) (lb : Array Value) (eg : ∀ args w, (callFunc g args).run Try.prog w = .ok (.enter g args) w) (pf : S135 → Option Bool)
    (A0 : Option Addr) (c0 : Nat) (l0 : List S135) (r : Int) (w : World) (hr0 : Kd.C k135 w A0 l0.length l0) (hc0 : l0.length ≤ c0) (hp : PB Try.prog g lb k135 encAgg pf w) (h : idxO pf l0 0 = some r) :
    Calls Try.prog 175 #[.slice A0 l0.length c0, .func (.func g) #[] lb] w fun e w' => e = .returned (.int .i64 r) ∧ Below w.heap.size w w' := by
  have HR0 := Aside0.mk hr0
  have HP := Aside0.mk hp
  have H' := Aside0.mk h
  have HB := Aside0.mk (Below.refl w.heap.size w)
  have hn : (l0.length : Int) ≤ 9223372036854775807 := by have := hr0.2.1; omega
  clear hr0 hp h hc0
  have hu135 := Try.underlying135
  go_enter Try.func175, Try.ntmps175
  go_wp2
  go_loopg [5, 8] l0.length (fun kq v5 v8 w' => ∃ kk : Nat, v8 = .int .i64 kk ∧ kk ≤ l0.length ∧ l0.length - kk ≤ kq ∧ Aside0 (idxO pf (l0.drop kk) kk = some r) ∧ Aside0 (Below w.heap.size w w'))
  case atStart => exact ⟨0, rfl, Nat.zero_le _, by omega, H', HB⟩
  case round =>
    clear H' HB
    obtain ⟨kk, rfl, hkk, hg, HA, HB⟩ := hrel
    by_cases hlt : kk < l0.length
    · have hlti : (kk : Int) < (l0.length : Int) := by omega
      obtain ⟨ad, e0, hx0, hx1⟩ := at_T135 HR0.out (kk : Int) (by omega) hlti
      cases e0
      replace hx0 := (HB.out.cell (World.block_lt_of_cell? w _ hx0)).trans hx0
      replace hx1 := (HB.out.cell (World.block_lt_of_cell? w _ hx1)).trans hx1
      simp only [Int.toNat_natCast] at hx0 hx1
      have H := HA.out
      rw [List.drop_eq_getElem_cons hlt] at H
      unfold idxO at H
      have hrd : l0[kk] = rd_T135 l0 (kk : Int) := by simp [rd_T135, hlt]
      rw [hrd] at H
      obtain ⟨b, hb, H⟩ := Option.bind_eq_some_iff.mp H
      have hcall := HP.out _ (rd_T135 l0 (kk : Int)) [.int .i64 ((rd_T135 l0 (kk : Int)).f0), .int .i64 ((rd_T135 l0 (kk : Int)).f1)] b HB.out (k135_mk wr (rd_T135 l0 (kk : Int))) hb
      have HL := Aside0.mk hcall
      clear hcall hb HA
      clear hrd
      simp only [encOne, encAgg, List.headD_cons] at HL
      cases b with
      | true =>
        obtain rfl := Option.some.inj H
        go_wp2_with (go_at_fn g; refine HL.out.mono ?_; rintro e w' ⟨rfl, hb'⟩)
        go_ret
        exact ⟨rfl, below_step HB.out hb'⟩
      | false =>
        have H1 := Aside0.mk H
        clear H
        go_wp2_with (go_at_fn g; refine HL.out.mono ?_; rintro e w' ⟨rfl, hb'⟩)
        go_roundg (l0.length - (kk + 1))
        case measure => omega
        case rel => exact ⟨kk + 1, by go_num, by omega, by omega, ⟨by have := H1.out; simpa using this⟩, ⟨below_step HB.out hb'⟩⟩
    · have : kk = l0.length := by omega
      subst this
      have H := HA.out
      rw [List.drop_length] at H
      unfold idxO at H
      obtain rfl := Option.some.inj H
      clear H HA
      go_wp2
      go_ret
      exact ⟨rfl, HB.out⟩

/-! ### slices_ContainsFunc_Limpl_rule_impl_rule: function 146 -/
set_option maxHeartbeats 8000000 in
set_option maxRecDepth 100000 in
theorem slices_ContainsFunc_Limpl_rule_impl_rule.any (g : Nat) (lb : Array Value) (eg : ∀ args w, (callFunc g args).run Try.prog w = .ok (.enter g args) w) (pf : S135 → Option Bool)
    (A0 : Option Addr) (c0 : Nat) (l0 : List S135) (r : Bool) (w : World) (hr0 : Kd.C k135 w A0 l0.length l0) (hc0 : l0.length ≤ c0) (hp : PB Try.prog g lb k135 encAgg pf w) (h : anyO pf l0 = some r) :
    Calls Try.prog 146 #[.slice A0 l0.length c0, .func (.func g) #[] lb] w fun e w' => e = .returned (.bool r) ∧ Below w.heap.size w w' := by
  rw [← idxO_any pf l0 0 (Int.le_refl 0)] at h
  obtain ⟨i, hi, hri⟩ := Option.map_eq_some_iff.mp h
  have HC := Aside0.mk (slices_IndexFunc_Limpl_rule_impl_rule.any g lb eg pf A0 c0 l0 i w hr0 hc0 hp hi)
  have HR := Aside0.mk hri
  clear hr0 hc0 hp h hi hri eg
  go_enter Try.func146, Try.ntmps146
  go_wp2_with (go_at_call 175; refine HC.out.mono ?_; rintro e w' ⟨rfl, hb⟩)
  go_ret
  exact ⟨by first | rfl | (rw [HR.out]; rfl) | rw [HR.out], hb⟩

/-! ### impl_areAll_impl_rule_1: function 147 -/
set_option maxHeartbeats 8000000 in
set_option maxRecDepth 100000 in
theorem impl_areAll_impl_rule_1.pb (g : Nat) (lb : Array Value) (eg : ∀ args w, (callFunc g args).run Try.prog w = .ok (.enter g args) w) (pf : S135 → Option Bool) (w w1 : World) (b0 : Nat) (hw : Below w.heap.size w w1)
    (hbk : w1.heap[b0]? = some (.cells #[.func (.func g) #[] lb] 138 (0, 0))) (hp : PB Try.prog g lb k135 encAgg pf w) :
    PB Try.prog 147 #[.pointer (some ⟨b0, 0, none⟩)] k135 encAgg (fun x => (pf x).map (!·)) w1 := by
  intro W x cs b hW hK hb
  obtain ⟨b1, hb1, rfl⟩ := Option.map_eq_some_iff.mp hb
  have hWw := below_step hw hW
  have hbW := blk_below hW hbk
  obtain rfl := k135_open hK
  have hB2 : Below W.heap.size W (W.alloc (.cells #[.int .i64 x.f0, .int .i64 x.f1] 135)) := below_alloc (Below.refl _ _) _
  have HL := Aside0.mk (hp _ x _ b1 (below_step hWw hB2) (Kd.K_below _ hB2 hK) hb1)
  have HB2 := Aside0.mk hB2
  have hcz : (W.alloc (.cells #[.int .i64 x.f0, .int .i64 x.f1] 135)).cell? ⟨b0, 0, none⟩ = some (.func (.func g) #[] lb) := (blk_cell (heap_old hbW) 0).trans rfl
  clear hp hb hb1 hWw hbW hW hbk hw hB2 hK
  have hu135 := Try.underlying135
  simp only [encOne, encAgg, List.headD_cons] at HL ⊢
  go_enter Try.func147, Try.ntmps147
  go_wp2_with (go_at_fn g; refine HL.out.mono ?_; rintro e w' ⟨rfl, hb'⟩)
  go_ret
  exact ⟨rfl, below_step HB2.out hb'⟩

/-! ### impl_areAll_impl_rule: function 107 -/
theorem enters147 : ∀ args w, (callFunc 147 args).run Try.prog w = .ok (.enter 147 args) w := enters_of Try.func147 (by kernel_rfl) rfl
set_option maxHeartbeats 8000000 in
set_option maxRecDepth 100000 in
theorem impl_areAll_impl_rule.any (g : Nat) (lb : Array Value) (eg : ∀ args w, (callFunc g args).run Try.prog w = .ok (.enter g args) w) (pf : S135 → Option Bool)
    (A0 : Option Addr) (c0 : Nat) (l0 : List S135) (r : Bool) (w : World) (hr0 : Kd.C k135 w A0 l0.length l0) (hc0 : l0.length ≤ c0) (hp : PB Try.prog g lb k135 encAgg pf w) (h : allO pf l0 = some r) :
    Calls Try.prog 107 #[.slice A0 l0.length c0, .func (.func g) #[] lb] w fun e w' => e = .returned (.bool r) ∧ Below w.heap.size w w' := by
  rw [← any_all pf l0] at h
  obtain ⟨b, hb, rfl⟩ := Option.map_eq_some_iff.mp h
  have hB1 : Below w.heap.size w (w.alloc (.cells #[.func (.func g) #[] lb] 138)) := below_alloc (Below.refl _ _) _
  have HC := Aside0.mk (slices_ContainsFunc_Limpl_rule_impl_rule.any 147 #[.pointer (some ⟨w.heap.size, 0, none⟩)] enters147 _ A0 c0 l0 b _ (Kd.C_below hr0 hB1) hc0 (impl_areAll_impl_rule_1.pb g lb eg pf w _ w.heap.size hB1 (heap_new w _ _) hp) hb)
  have HB1 := Aside0.mk hB1
  clear hr0 hc0 hp h hb eg hB1
  go_enter Try.func107, Try.ntmps107
  go_wp2_with (go_at_call 146; refine HC.out.mono ?_; rintro e w' ⟨rfl, hb⟩)
  go_ret
  exact ⟨rfl, below_step HB1.out hb⟩

/-! ### impl_SameDepends_1: function 108 -/
def impl_SameDepends_1.f (k : Nat) (a0_0 : Int) (a0_1 : Int) (l1 : List (S135)) : Option (Bool) := (impl_implies.f k l1 a0_0 a0_1).bind fun t907 => (some t907)
theorem impl_SameDepends_1.mono : ∀ a0 a1 a2 k, LeO (impl_SameDepends_1.f k a0 a1 a2) (impl_SameDepends_1.f (k + 1) a0 a1 a2) := by
  intro a0 a1 a2 k
  unfold impl_SameDepends_1.f
  repeat' first
      | (with_reducible exact impl_implies.mono _ _ _ _)
      | (with_reducible exact LeO.refl _)
      | (with_reducible exact LeO.none _)
      | (with_reducible refine LeO.ite ?_ ?_)
      | (with_reducible refine LeO.bind ?_ (fun _ => ?_))
      | exact impl_implies.mono _ _ _ _
      | exact LeO.none _
      | refine LeO.ite ?_ ?_
      | refine LeO.bind ?_ (fun _ => ?_)
set_option maxHeartbeats 8000000 in
set_option maxRecDepth 100000 in
theorem impl_SameDepends_1.calls (k : Nat) (a0_0 : Int) (a0_1 : Int) (gc1 : Nat) (A1 : Option Addr) (c1 : Nat) (l1 : List (S135)) (r : Bool) (w : World) (hr1 : Kd.C k135 w A1 l1.length l1) (hc1 : l1.length ≤ c1) (hbk1 : w.heap[gc1]? = some (.cells #[.slice A1 l1.length c1] 132 (0, 0))) (h : impl_SameDepends_1.f k a0_0 a0_1 l1 = some r) :
    Calls Try.prog 108 #[.agg #[.int .i64 a0_0, .int .i64 a0_1], .pointer (some ⟨gc1, 0, none⟩)] w fun e w' => e = .returned (.bool r) ∧ Below w.heap.size w w' := by
  have hu135 := Try.underlying135
  have HR1 := Aside0.mk hr1
  have HC1 := Aside0.mk hc1
  clear hr1 hc1
  have BK905 := Aside0.mk hbk1
  clear hbk1
  have HB := Aside0.mk (Below.refl w.heap.size w)
  have H : ((impl_implies.f k l1 a0_0 a0_1).bind fun t907 => (some t907)) = some r := h
  clear h
  replace H := Option.bind_eq_some_iff.mp H
  obtain ⟨t907, A30, H⟩ := H
  replace H : (some t907) = some r := H
  have A3 := Aside0.mk A30
  clear A30
  obtain rfl := Option.some.inj H
  go_enter Try.func108, Try.ntmps108
  go_wp2_with (first | ((with_reducible refine gate_dst (N := 2) rfl ?_); refine box_event ?hg (N := 2) ?hd (cs := #[.int .i64 a0_0, .int .i64 a0_1]) (t := 135) ?hr ?_; (case hd => rfl); (case hg => rfl); (case hr => first | (go_simp; done) | (go_simp; rfl)); intro gb906 hg w4 hbox hb; have n0_ := Aside0.mk (blk_below (g := gc1) (o := .cells #[.slice A1 l1.length c1] 132 (0, 0)) (by (with_reducible repeat (first | refine blk_drewN ?_ _ | refine blk_drew ?_ | refine blk_alloc ?_ _)); exact BK905.out) hb); have n1_ := Aside0.mk (below_step (by repeat (first | (with_reducible first | exact HB.out | apply below_alloc | apply pw_below_drewN | apply below_drew1 | refine below_set ?_ GE905.out) | exact HB.out)) hb); have n2_ := Aside0.mk (hbox); have n3_ := Aside0.mk ((by rw [hg]; exact (below_size (by repeat (first | (with_reducible first | exact HB.out | apply below_alloc | apply pw_below_drewN | apply below_drew1 | refine below_set ?_ GE905.out) | exact HB.out))) : w.heap.size ≤ gb906)); have n4_ := Aside0.mk ((by rw [hg]; exact (below_size (by repeat (first | (with_reducible first | exact HB.out | apply below_alloc | apply pw_below_drewN | apply below_drew1 | refine below_set ?_ GE905.out) | exact HB.out))) : w.heap.size ≤ gb906)); have n5_ := Aside0.mk ((by rw [hg]; exact Nat.ne_of_lt (blk_lt (g := gc1) (o := .cells #[.slice A1 l1.length c1] 132 (0, 0)) (by (with_reducible repeat (first | refine blk_drewN ?_ _ | refine blk_drew ?_ | refine blk_alloc ?_ _)); exact BK905.out)) : gc1 ≠ gb906)); have n6_ := Aside0.mk ((by rw [hg]; exact Nat.ne_of_gt (blk_lt (g := gc1) (o := .cells #[.slice A1 l1.length c1] 132 (0, 0)) (by (with_reducible repeat (first | refine blk_drewN ?_ _ | refine blk_drew ?_ | refine blk_alloc ?_ _)); exact BK905.out)) : gb906 ≠ gc1)); clear BK905; clear HB; have BK905 := n0_; have HB := n1_; have BK906 := n2_; have GW906 := n3_; have GE906 := n4_; have NB905_906 := n5_; have NB906_905 := n6_; clear n0_ n1_ n2_ n3_ n4_ n5_ n6_; clear hb hbox hg; have hnb5 := NB905_906.out; have hnc5 := NB906_905.out; have hcz6_0 : w4.cell? ⟨gc1, 0, none⟩ = some (.slice A1 l1.length c1) := (blk_cell BK905.out 0).trans rfl; have hfz6_0 := blk_frozen BK905.out 0; have hcz7_0 : w4.cell? ⟨gb906, 0, none⟩ = some (.int .i64 a0_0) := (blk_cell BK906.out 0).trans rfl; have hcz7_1 : w4.cell? ⟨gb906, 1, none⟩ = some (.int .i64 a0_1) := (blk_cell BK906.out 1).trans rfl; have hfz7_0 := blk_frozen BK906.out 0; have hfz7_1 := blk_frozen BK906.out 1) | ((with_reducible refine gate_callee (f := 104) rfl ?_); refine goesL_ (some 6) rfl rfl Try.func104 (by kernel_rfl) rfl #[.slice A1 l1.length c1, .agg #[.int .i64 a0_0, .int .i64 a0_1]] rfl (by (try simp only [List.map_toArray, List.map_cons, List.map_nil]); first | done | rfl | (simp only [List.length_drop, List.length_take]; rfl)) ?_; (with_reducible refine (impl_implies.calls k _ _ l1 a0_0 a0_1 t907 _ ?side1 ?side2 A3.out).mono ?_); (case side1 => repeat (first | exact (Kd.C_below HR1.out HB.out) | (with_reducible refine Kd.C_alloc ?_ _) | (with_reducible refine Kd.C_drewN ?_ _) | (with_reducible refine Kd.C_drew ?_))); (case side2 => exact HC1.out); rintro e w8 ⟨rfl, hb⟩; refine ⟨_, rfl, ?_⟩; have n0_ := Aside0.mk (blk_below (g := gc1) (o := .cells #[.slice A1 l1.length c1] 132 (0, 0)) (by (with_reducible repeat (first | refine blk_drewN ?_ _ | refine blk_drew ?_ | refine blk_alloc ?_ _)); exact BK905.out) hb); have n1_ := Aside0.mk (blk_below (g := gb906) (o := .cells #[.int .i64 a0_0, .int .i64 a0_1] 135 (0, 0)) (by (with_reducible repeat (first | refine blk_drewN ?_ _ | refine blk_drew ?_ | refine blk_alloc ?_ _)); exact BK906.out) hb); have n2_ := Aside0.mk (below_step (by repeat (first | (with_reducible first | exact HB.out | apply below_alloc | apply pw_below_drewN | apply below_drew1 | refine below_set ?_ GE905.out | refine below_set ?_ GE906.out) | exact HB.out)) hb); clear BK905; clear BK906; clear HB; have BK905 := n0_; have BK906 := n1_; have HB := n2_; clear n0_ n1_ n2_; (try clear hb); (try clear hb2); (try clear hk); (try clear hi)))
  go_ret
  exact ⟨by first | rfl | (simp [errW_none, errW_some] <;> rfl) | (simp [*, errW_none, errW_some] <;> rfl), by repeat (first | (with_reducible first | exact HB.out | apply below_alloc | apply pw_below_drewN | apply below_drew1 | refine below_set ?_ GE905.out | refine below_set ?_ GE906.out) | exact HB.out)⟩

/-! ### impl_SameDepends_2: function 109 -/
def impl_SameDepends_2.f (k : Nat) (a0_0 : Int) (a0_1 : Int) (l1 : List (S135)) : Option (Bool) := (impl_implies.f k l1 a0_0 a0_1).bind fun t910 => (some t910)
theorem impl_SameDepends_2.mono : ∀ a0 a1 a2 k, LeO (impl_SameDepends_2.f k a0 a1 a2) (impl_SameDepends_2.f (k + 1) a0 a1 a2) := by
  intro a0 a1 a2 k
  unfold impl_SameDepends_2.f
  repeat' first
      | (with_reducible exact impl_implies.mono _ _ _ _)
      | (with_reducible exact LeO.refl _)
      | (with_reducible exact LeO.none _)
      | (with_reducible refine LeO.ite ?_ ?_)
      | (with_reducible refine LeO.bind ?_ (fun _ => ?_))
      | exact impl_implies.mono _ _ _ _
      | exact LeO.none _
      | refine LeO.ite ?_ ?_
      | refine LeO.bind ?_ (fun _ => ?_)
set_option maxHeartbeats 8000000 in
set_option maxRecDepth 100000 in
theorem impl_SameDepends_2.calls (k : Nat) (a0_0 : Int) (a0_1 : Int) (gc1 : Nat) (A1 : Option Addr) (c1 : Nat) (l1 : List (S135)) (r : Bool) (w : World) (hr1 : Kd.C k135 w A1 l1.length l1) (hc1 : l1.length ≤ c1) (hbk1 : w.heap[gc1]? = some (.cells #[.slice A1 l1.length c1] 132 (0, 0))) (h : impl_SameDepends_2.f k a0_0 a0_1 l1 = some r) :
    Calls Try.prog 109 #[.agg #[.int .i64 a0_0, .int .i64 a0_1], .pointer (some ⟨gc1, 0, none⟩)] w fun e w' => e = .returned (.bool r) ∧ Below w.heap.size w w' := by
  have hu135 := Try.underlying135
  have HR1 := Aside0.mk hr1
  have HC1 := Aside0.mk hc1
  clear hr1 hc1
  have BK908 := Aside0.mk hbk1
  clear hbk1
  have HB := Aside0.mk (Below.refl w.heap.size w)
  have H : ((impl_implies.f k l1 a0_0 a0_1).bind fun t910 => (some t910)) = some r := h
  clear h
  replace H := Option.bind_eq_some_iff.mp H
  obtain ⟨t910, A30, H⟩ := H
  replace H : (some t910) = some r := H
  have A3 := Aside0.mk A30
  clear A30
  obtain rfl := Option.some.inj H
  go_enter Try.func109, Try.ntmps109
  go_wp2_with (first | ((with_reducible refine gate_dst (N := 2) rfl ?_); refine box_event ?hg (N := 2) ?hd (cs := #[.int .i64 a0_0, .int .i64 a0_1]) (t := 135) ?hr ?_; (case hd => rfl); (case hg => rfl); (case hr => first | (go_simp; done) | (go_simp; rfl)); intro gb909 hg w4 hbox hb; have n0_ := Aside0.mk (blk_below (g := gc1) (o := .cells #[.slice A1 l1.length c1] 132 (0, 0)) (by (with_reducible repeat (first | refine blk_drewN ?_ _ | refine blk_drew ?_ | refine blk_alloc ?_ _)); exact BK908.out) hb); have n1_ := Aside0.mk (below_step (by repeat (first | (with_reducible first | exact HB.out | apply below_alloc | apply pw_below_drewN | apply below_drew1 | refine below_set ?_ GE908.out) | exact HB.out)) hb); have n2_ := Aside0.mk (hbox); have n3_ := Aside0.mk ((by rw [hg]; exact (below_size (by repeat (first | (with_reducible first | exact HB.out | apply below_alloc | apply pw_below_drewN | apply below_drew1 | refine below_set ?_ GE908.out) | exact HB.out))) : w.heap.size ≤ gb909)); have n4_ := Aside0.mk ((by rw [hg]; exact (below_size (by repeat (first | (with_reducible first | exact HB.out | apply below_alloc | apply pw_below_drewN | apply below_drew1 | refine below_set ?_ GE908.out) | exact HB.out))) : w.heap.size ≤ gb909)); have n5_ := Aside0.mk ((by rw [hg]; exact Nat.ne_of_lt (blk_lt (g := gc1) (o := .cells #[.slice A1 l1.length c1] 132 (0, 0)) (by (with_reducible repeat (first | refine blk_drewN ?_ _ | refine blk_drew ?_ | refine blk_alloc ?_ _)); exact BK908.out)) : gc1 ≠ gb909)); have n6_ := Aside0.mk ((by rw [hg]; exact Nat.ne_of_gt (blk_lt (g := gc1) (o := .cells #[.slice A1 l1.length c1] 132 (0, 0)) (by (with_reducible repeat (first | refine blk_drewN ?_ _ | refine blk_drew ?_ | refine blk_alloc ?_ _)); exact BK908.out)) : gb909 ≠ gc1)); clear BK908; clear HB; have BK908 := n0_; have HB := n1_; have BK909 := n2_; have GW909 := n3_; have GE909 := n4_; have NB908_909 := n5_; have NB909_908 := n6_; clear n0_ n1_ n2_ n3_ n4_ n5_ n6_; clear hb hbox hg; have hnb5 := NB908_909.out; have hnc5 := NB909_908.out; have hcz6_0 : w4.cell? ⟨gc1, 0, none⟩ = some (.slice A1 l1.length c1) := (blk_cell BK908.out 0).trans rfl; have hfz6_0 := blk_frozen BK908.out 0; have hcz7_0 : w4.cell? ⟨gb909, 0, none⟩ = some (.int .i64 a0_0) := (blk_cell BK909.out 0).trans rfl; have hcz7_1 : w4.cell? ⟨gb909, 1, none⟩ = some (.int .i64 a0_1) := (blk_cell BK909.out 1).trans rfl; have hfz7_0 := blk_frozen BK909.out 0; have hfz7_1 := blk_frozen BK909.out 1) | ((with_reducible refine gate_callee (f := 104) rfl ?_); refine goesL_ (some 6) rfl rfl Try.func104 (by kernel_rfl) rfl #[.slice A1 l1.length c1, .agg #[.int .i64 a0_0, .int .i64 a0_1]] rfl (by (try simp only [List.map_toArray, List.map_cons, List.map_nil]); first | done | rfl | (simp only [List.length_drop, List.length_take]; rfl)) ?_; (with_reducible refine (impl_implies.calls k _ _ l1 a0_0 a0_1 t910 _ ?side1 ?side2 A3.out).mono ?_); (case side1 => repeat (first | exact (Kd.C_below HR1.out HB.out) | (with_reducible refine Kd.C_alloc ?_ _) | (with_reducible refine Kd.C_drewN ?_ _) | (with_reducible refine Kd.C_drew ?_))); (case side2 => exact HC1.out); rintro e w8 ⟨rfl, hb⟩; refine ⟨_, rfl, ?_⟩; have n0_ := Aside0.mk (blk_below (g := gc1) (o := .cells #[.slice A1 l1.length c1] 132 (0, 0)) (by (with_reducible repeat (first | refine blk_drewN ?_ _ | refine blk_drew ?_ | refine blk_alloc ?_ _)); exact BK908.out) hb); have n1_ := Aside0.mk (blk_below (g := gb909) (o := .cells #[.int .i64 a0_0, .int .i64 a0_1] 135 (0, 0)) (by (with_reducible repeat (first | refine blk_drewN ?_ _ | refine blk_drew ?_ | refine blk_alloc ?_ _)); exact BK909.out) hb); have n2_ := Aside0.mk (below_step (by repeat (first | (with_reducible first | exact HB.out | apply below_alloc | apply pw_below_drewN | apply below_drew1 | refine below_set ?_ GE908.out | refine below_set ?_ GE909.out) | exact HB.out)) hb); clear BK908; clear BK909; clear HB; have BK908 := n0_; have BK909 := n1_; have HB := n2_; clear n0_ n1_ n2_; (try clear hb); (try clear hb2); (try clear hk); (try clear hi)))
  go_ret
  exact ⟨by first | rfl | (simp [errW_none, errW_some] <;> rfl) | (simp [*, errW_none, errW_some] <;> rfl), by repeat (first | (with_reducible first | exact HB.out | apply below_alloc | apply pw_below_drewN | apply below_drew1 | refine below_set ?_ GE908.out | refine below_set ?_ GE909.out) | exact HB.out)⟩

/-! ### impl_areAll_impl_rule__impl_SameDepends_1: function 100012 -/
theorem enters108 : ∀ args w, (callFunc 108 args).run Try.prog w = .ok (.enter 108 args) w := enters_of Try.func108 (by kernel_rfl) rfl
def impl_areAll_impl_rule__impl_SameDepends_1.f (k : Nat) (l0 : List S135) (l1 : List (S135)) : Option Bool := allO (fun x => impl_SameDepends_1.f k x.f0 x.f1 l1) l0
theorem impl_areAll_impl_rule__impl_SameDepends_1.mono : ∀ a0 y0 k, LeO (impl_areAll_impl_rule__impl_SameDepends_1.f k a0 y0) (impl_areAll_impl_rule__impl_SameDepends_1.f (k + 1) a0 y0) := fun a0 y0 k => allO_mono (fun x => impl_SameDepends_1.mono _ _ _ k) a0
set_option maxHeartbeats 8000000 in
set_option maxRecDepth 100000 in
theorem impl_areAll_impl_rule__impl_SameDepends_1.calls (k : Nat) (A0 : Option Addr) (c0 : Nat) (l0 : List S135) (gc1 : Nat) (A1 : Option Addr) (c1 : Nat) (l1 : List (S135)) (r : Bool) (w : World) (hr0 : Kd.C k135 w A0 l0.length l0) (hc0 : l0.length ≤ c0) (hr1 : Kd.C k135 w A1 l1.length l1) (hc1 : l1.length ≤ c1) (hbk1 : w.heap[gc1]? = some (.cells #[.slice A1 l1.length c1] 132 (0, 0))) (h : impl_areAll_impl_rule__impl_SameDepends_1.f k l0 l1 = some r) :
    Calls Try.prog 107 #[.slice A0 l0.length c0, .func (.func 108) #[] #[.pointer (some ⟨gc1, 0, none⟩)]] w fun e w' => e = .returned (.bool r) ∧ Below w.heap.size w w' := by
  refine impl_areAll_impl_rule.any 108 #[.pointer (some ⟨gc1, 0, none⟩)] enters108 (fun x => impl_SameDepends_1.f k x.f0 x.f1 l1) A0 c0 l0 r w hr0 hc0 ?_ h
  intro W x cs b hW hK hb
  obtain rfl := k135_open hK
  simp only [encOne, encAgg, List.headD_cons, app0, app1, app2, app3]
  refine (impl_SameDepends_1.calls k x.f0 x.f1 gc1 _ _ l1 b W (Kd.C_below hr1 hW) hc1 (blk_below hW hbk1) hb).mono ?_
  rintro e w' ⟨he, hd⟩
  exact ⟨he, hd⟩

/-! ### impl_areAll_impl_rule__impl_SameDepends_2: function 100013 -/
theorem enters109 : ∀ args w, (callFunc 109 args).run Try.prog w = .ok (.enter 109 args) w := enters_of Try.func109 (by kernel_rfl) rfl
def impl_areAll_impl_rule__impl_SameDepends_2.f (k : Nat) (l0 : List S135) (l1 : List (S135)) : Option Bool := allO (fun x => impl_SameDepends_2.f k x.f0 x.f1 l1) l0
theorem impl_areAll_impl_rule__impl_SameDepends_2.mono : ∀ a0 y0 k, LeO (impl_areAll_impl_rule__impl_SameDepends_2.f k a0 y0) (impl_areAll_impl_rule__impl_SameDepends_2.f (k + 1) a0 y0) := fun a0 y0 k => allO_mono (fun x => impl_SameDepends_2.mono _ _ _ k) a0
set_option maxHeartbeats 8000000 in
set_option maxRecDepth 100000 in
theorem impl_areAll_impl_rule__impl_SameDepends_2.calls (k : Nat) (A0 : Option Addr) (c0 : Nat) (l0 : List S135) (gc1 : Nat) (A1 : Option Addr) (c1 : Nat) (l1 : List (S135)) (r : Bool) (w : World) (hr0 : Kd.C k135 w A0 l0.length l0) (hc0 : l0.length ≤ c0) (hr1 : Kd.C k135 w A1 l1.length l1) (hc1 : l1.length ≤ c1) (hbk1 : w.heap[gc1]? = some (.cells #[.slice A1 l1.length c1] 132 (0, 0))) (h : impl_areAll_impl_rule__impl_SameDepends_2.f k l0 l1 = some r) :
    Calls Try.prog 107 #[.slice A0 l0.length c0, .func (.func 109) #[] #[.pointer (some ⟨gc1, 0, none⟩)]] w fun e w' => e = .returned (.bool r) ∧ Below w.heap.size w w' := by
  refine impl_areAll_impl_rule.any 109 #[.pointer (some ⟨gc1, 0, none⟩)] enters109 (fun x => impl_SameDepends_2.f k x.f0 x.f1 l1) A0 c0 l0 r w hr0 hc0 ?_ h
  intro W x cs b hW hK hb
  obtain rfl := k135_open hK
  simp only [encOne, encAgg, List.headD_cons, app0, app1, app2, app3]
  refine (impl_SameDepends_2.calls k x.f0 x.f1 gc1 _ _ l1 b W (Kd.C_below hr1 hW) hc1 (blk_below hW hbk1) hb).mono ?_
  rintro e w' ⟨he, hd⟩
  exact ⟨he, hd⟩

end Go.Proofs.Ytfbomhedhfkcpaa.G
