/- Written by a program of this claim's own, out of the translation: functions of the program as plain functions, and that the calls answer as these. No conditions. -/
import Derived.Test.YtfbomhedhfkcpaaG0
import Derived.Test.YtfbomhedhfkcpaaG2
import Derived.Test.YtfbomhedhfkcpaaG3
import Derived.Test.YtfbomhedhfkcpaaG4
import Derived.Test.YtfbomhedhfkcpaaG52
namespace Go.Proofs.Ytfbomhedhfkcpaa.G
open Go.RowKit Go.Proofs.Ytfbomhedhfkcpaa.X Go.Proofs.YtfbomhedhfkcpaaW.PrintWords Go.Proofs.YtfbomhedhfkcpaaW.PrintLast Go.Proofs.YtfbomhedhfkcpaaW.PrintMore
attribute [local go_sem] max2_int min2_int max_two min_two max_three min_three max_four min_four   -- for this text's walks alone
set_option linter.unusedVariables false
set_option linter.unusedSimpArgs false

/-! ### laws_FnExactImplies: function 9 -/
def laws_FnExactImplies.f (k : Nat) (l0 : List (S74)) (a1 : Int) (l2_0 : List Int) (l2_1 : List Int) : Option (Bool) := (laws_szDependS.f k l0 1048576).bind fun t861 => (if t861 < 0 then (some true) else ((laws_szDepend.f l2_0 l2_1 t861).bind fun t862 => (if t862 < 0 then (some true) else ((laws_toDependS.f k l0).bind fun t863 => ((laws_toDepend.f k l2_0 l2_1).bind fun bt866 => ((spec_Implies.f k t863 a1 bt866.1 bt866.2).bind fun bt872 => ((laws_toDependS.f k l0).bind fun t874 => ((laws_toDepend.f k l2_0 l2_1).bind fun bt877 => ((impl_Implies.f k t874 a1 bt877.1 bt877.2).bind fun bt884 => (if (bt884.1 != bt872.1) = true then (some false) else (if (bt884.2 != bt872.2) = true then (some false) else ((laws_toDependS.f k l0).bind fun t886 => ((laws_eqDependS.f k t874 t886).bind fun t889 => (if t889 = true then ((laws_toDepend.f k l2_0 l2_1).bind fun bt890 => ((laws_eqDepend.f k bt877.1 bt877.2 bt890.1 bt890.2).bind fun t896 => (if t896 = true then (some true) else (some false)))) else (some false)))))))))))))))
theorem laws_FnExactImplies.mono : ∀ a0 a1 a2 a3 k, LeO (laws_FnExactImplies.f k a0 a1 a2 a3) (laws_FnExactImplies.f (k + 1) a0 a1 a2 a3) := by
  intro a0 a1 a2 a3 k
  unfold laws_FnExactImplies.f
  repeat' first
      | (with_reducible exact impl_Implies.mono _ _ _ _ _)
      | (with_reducible exact laws_eqDepend.mono _ _ _ _ _)
      | (with_reducible exact laws_eqDependS.mono _ _ _)
      | (with_reducible exact laws_szDependS.mono _ _ _)
      | (with_reducible exact laws_toDepend.mono _ _ _)
      | (with_reducible exact laws_toDependS.mono _ _)
      | (with_reducible exact spec_Implies.mono _ _ _ _ _)
      | (with_reducible exact LeO.refl _)
      | (with_reducible exact LeO.none _)
      | (with_reducible refine LeO.ite ?_ ?_)
      | (with_reducible refine LeO.bind ?_ (fun _ => ?_))
      | exact impl_Implies.mono _ _ _ _ _
      | exact laws_eqDepend.mono _ _ _ _ _
      | exact laws_eqDependS.mono _ _ _
      | exact laws_szDependS.mono _ _ _
      | exact laws_toDepend.mono _ _ _
      | exact laws_toDependS.mono _ _
      | exact spec_Implies.mono _ _ _ _ _
      | exact LeO.none _
      | refine LeO.ite ?_ ?_
      | refine LeO.bind ?_ (fun _ => ?_)
def laws_FnExactImplies.T8 : Bool × List (List Nat × List Nat) := (true, [([], []), ([0], [0]), ([], []), ([], []), ([3, 1], [3]), ([1, 2, 4, 4], [1, 2, 4]), ([5], [5]), ([6], [6]), ([6], [6]), ([7, 5, 0, 1, 2, 3, 4, 5, 6, 7], [7]), ([8, 9, 0, 1, 2, 3, 4, 5, 6, 7, 8, 9], [8])])
def laws_FnExactImplies.B8 : List Nat := [0, 1, 0, 0, 11, 31, 63, 127, 127, 255, 1023]
theorem laws_FnExactImplies.tab8 : rtab .any (opsOf Try.f9 8) = laws_FnExactImplies.T8 := by kernel_rfl
theorem laws_FnExactImplies.bits8 : waitsOk laws_FnExactImplies.T8.2 laws_FnExactImplies.B8 = true := by kernel_rfl
set_option maxHeartbeats 8000000 in
set_option maxRecDepth 100000 in
theorem laws_FnExactImplies.calls (k : Nat) (A0 : Option Addr) (c0 : Nat) (l0 : List (S74)) (a1 : Int) (A2_0 : Option Addr) (c2_0 : Nat) (l2_0 : List Int) (A2_1 : Option Addr) (c2_1 : Nat) (l2_1 : List Int) (w : World) (hr0 : Kd.C k74 w A0 l0.length l0) (hc0 : l0.length ≤ c0) (hr2_0 : Kd.C (Kd.int .i64) w A2_0 l2_0.length l2_0) (hc2_0 : l2_0.length ≤ c2_0) (hr2_1 : Kd.C (Kd.int .i64) w A2_1 l2_1.length l2_1) (hc2_1 : l2_1.length ≤ c2_1) (h : laws_FnExactImplies.f k l0 a1 l2_0 l2_1 = some true) :
    Calls Try.prog 9 #[.slice A0 l0.length c0, .int .i64 a1, .agg #[.slice A2_0 l2_0.length c2_0, .slice A2_1 l2_1.length c2_1]] w fun e w' => e = .returned (.bool true) ∧ Below w.heap.size w w' := by
  have hu74 := Try.underlying74
  have hu77 := Try.underlying77
  have HR0 := Aside0.mk hr0
  have HC0 := Aside0.mk hc0
  clear hr0 hc0
  have HR2_0 := Aside0.mk hr2_0
  have HC2_0 := Aside0.mk hc2_0
  clear hr2_0 hc2_0
  have HR2_1 := Aside0.mk hr2_1
  have HC2_1 := Aside0.mk hc2_1
  clear hr2_1 hc2_1
  have HB := Aside0.mk (Below.refl w.heap.size w)
  have H : ((laws_szDependS.f k l0 1048576).bind fun t861 => (if t861 < 0 then (some true) else ((laws_szDepend.f l2_0 l2_1 t861).bind fun t862 => (if t862 < 0 then (some true) else ((laws_toDependS.f k l0).bind fun t863 => ((laws_toDepend.f k l2_0 l2_1).bind fun bt866 => ((spec_Implies.f k t863 a1 bt866.1 bt866.2).bind fun bt872 => ((laws_toDependS.f k l0).bind fun t874 => ((laws_toDepend.f k l2_0 l2_1).bind fun bt877 => ((impl_Implies.f k t874 a1 bt877.1 bt877.2).bind fun bt884 => (if (bt884.1 != bt872.1) = true then (some false) else (if (bt884.2 != bt872.2) = true then (some false) else ((laws_toDependS.f k l0).bind fun t886 => ((laws_eqDependS.f k t874 t886).bind fun t889 => (if t889 = true then ((laws_toDepend.f k l2_0 l2_1).bind fun bt890 => ((laws_eqDepend.f k bt877.1 bt877.2 bt890.1 bt890.2).bind fun t896 => (if t896 = true then (some true) else (some false)))) else (some false)))))))))))))))) = some true := h
  clear h
  replace H := Option.bind_eq_some_iff.mp H
  obtain ⟨t861, A40, H⟩ := H
  replace H : (if t861 < 0 then (some true) else ((laws_szDepend.f l2_0 l2_1 t861).bind fun t862 => (if t862 < 0 then (some true) else ((laws_toDependS.f k l0).bind fun t863 => ((laws_toDepend.f k l2_0 l2_1).bind fun bt866 => ((spec_Implies.f k t863 a1 bt866.1 bt866.2).bind fun bt872 => ((laws_toDependS.f k l0).bind fun t874 => ((laws_toDepend.f k l2_0 l2_1).bind fun bt877 => ((impl_Implies.f k t874 a1 bt877.1 bt877.2).bind fun bt884 => (if (bt884.1 != bt872.1) = true then (some false) else (if (bt884.2 != bt872.2) = true then (some false) else ((laws_toDependS.f k l0).bind fun t886 => ((laws_eqDependS.f k t874 t886).bind fun t889 => (if t889 = true then ((laws_toDepend.f k l2_0 l2_1).bind fun bt890 => ((laws_eqDepend.f k bt877.1 bt877.2 bt890.1 bt890.2).bind fun t896 => (if t896 = true then (some true) else (some false)))) else (some false))))))))))))))) = some true := H
  have A4 := Aside0.mk A40
  clear A40
  by_cases c5 : t861 < 0
  · rw [if_pos c5] at H
    have c5b0 : decide (t861 < 0) = true := decide_eq_true c5
    clear c5
    clear H
    go_enter Try.func9, Try.ntmps9
    go_wp2_with (first | ((with_reducible refine gate_dst (N := 5) rfl ?_); refine box_event ?hg (N := 5) ?hd (cs := #[.slice A2_0 l2_0.length c2_0, .slice A2_1 l2_1.length c2_1]) (t := 74) ?hr ?_; (case hd => rfl); (case hg => rfl); (case hr => first | (go_simp; done) | (go_simp; rfl)); intro gb860 hg w6 hbox hb; have n0_ := Aside0.mk (below_step (by repeat (first | (with_reducible first | exact HB.out | apply below_alloc | apply pw_below_drewN | apply below_drew1) | exact HB.out)) hb); have n1_ := Aside0.mk (hbox); have n2_ := Aside0.mk ((by rw [hg]; exact (below_size (by repeat (first | (with_reducible first | exact HB.out | apply below_alloc | apply pw_below_drewN | apply below_drew1) | exact HB.out))) : w.heap.size ≤ gb860)); have n3_ := Aside0.mk ((by rw [hg]; exact (below_size (by repeat (first | (with_reducible first | exact HB.out | apply below_alloc | apply pw_below_drewN | apply below_drew1) | exact HB.out))) : w.heap.size ≤ gb860)); clear HB; have HB := n0_; have BK860 := n1_; have GW860 := n2_; have GE860 := n3_; clear n0_ n1_ n2_ n3_; clear hb hbox hg) | ((with_reducible refine gate_callee (f := 13) rfl ?_); refine goesL_ (some 16) rfl rfl Try.func13 (by kernel_rfl) rfl #[.slice A0 l0.length c0, .int .i64 1048576] rfl (by (try simp only [List.map_toArray, List.map_cons, List.map_nil]); first | done | rfl | (simp only [List.length_drop, List.length_take]; rfl)) ?_; (with_reducible refine (laws_szDependS.calls k _ _ l0 1048576 t861 _ ?side1 ?side2 A4.out).mono ?_); (case side1 => repeat (first | exact (Kd.C_below HR0.out HB.out) | (with_reducible refine Kd.C_alloc ?_ _) | (with_reducible refine Kd.C_drewN ?_ _) | (with_reducible refine Kd.C_drew ?_))); (case side2 => exact HC0.out); rintro e w7 ⟨rfl, hb⟩; refine ⟨_, rfl, ?_⟩; have n0_ := Aside0.mk (blk_below (g := gb860) (o := .cells #[.slice A2_0 l2_0.length c2_0, .slice A2_1 l2_1.length c2_1] 74 (0, 0)) (by (with_reducible repeat (first | refine blk_drewN ?_ _ | refine blk_drew ?_ | refine blk_alloc ?_ _)); exact BK860.out) hb); have n1_ := Aside0.mk (below_step (by repeat (first | (with_reducible first | exact HB.out | apply below_alloc | apply pw_below_drewN | apply below_drew1 | refine below_set ?_ GE860.out) | exact HB.out)) hb); clear BK860; clear HB; have BK860 := n0_; have HB := n1_; clear n0_ n1_; (try clear hb); (try clear hb2); (try clear hk); (try clear hi)))
    go_ret
    exact ⟨by first | rfl | (simp [errW_none, errW_some] <;> rfl) | (simp [*, errW_none, errW_some] <;> rfl), by repeat (first | (with_reducible first | exact HB.out | apply below_alloc | apply pw_below_drewN | apply below_drew1 | refine below_set ?_ GE860.out) | exact HB.out)⟩
  · rw [if_neg c5] at H
    have c5b0 : decide (t861 < 0) = false := decide_eq_false c5
    clear c5
    replace H := Option.bind_eq_some_iff.mp H
    obtain ⟨t862, A80, H⟩ := H
    replace H : (if t862 < 0 then (some true) else ((laws_toDependS.f k l0).bind fun t863 => ((laws_toDepend.f k l2_0 l2_1).bind fun bt866 => ((spec_Implies.f k t863 a1 bt866.1 bt866.2).bind fun bt872 => ((laws_toDependS.f k l0).bind fun t874 => ((laws_toDepend.f k l2_0 l2_1).bind fun bt877 => ((impl_Implies.f k t874 a1 bt877.1 bt877.2).bind fun bt884 => (if (bt884.1 != bt872.1) = true then (some false) else (if (bt884.2 != bt872.2) = true then (some false) else ((laws_toDependS.f k l0).bind fun t886 => ((laws_eqDependS.f k t874 t886).bind fun t889 => (if t889 = true then ((laws_toDepend.f k l2_0 l2_1).bind fun bt890 => ((laws_eqDepend.f k bt877.1 bt877.2 bt890.1 bt890.2).bind fun t896 => (if t896 = true then (some true) else (some false)))) else (some false))))))))))))) = some true := H
    have A8 := Aside0.mk A80
    clear A80
    by_cases c9 : t862 < 0
    · rw [if_pos c9] at H
      have c9b0 : decide (t862 < 0) = true := decide_eq_true c9
      clear c9
      clear H
      go_enter Try.func9, Try.ntmps9
      go_wp2_with (first | ((with_reducible refine gate_dst (N := 5) rfl ?_); refine box_event ?hg (N := 5) ?hd (cs := #[.slice A2_0 l2_0.length c2_0, .slice A2_1 l2_1.length c2_1]) (t := 74) ?hr ?_; (case hd => rfl); (case hg => rfl); (case hr => first | (go_simp; done) | (go_simp; rfl)); intro gb860 hg w10 hbox hb; have n0_ := Aside0.mk (below_step (by repeat (first | (with_reducible first | exact HB.out | apply below_alloc | apply pw_below_drewN | apply below_drew1) | exact HB.out)) hb); have n1_ := Aside0.mk (hbox); have n2_ := Aside0.mk ((by rw [hg]; exact (below_size (by repeat (first | (with_reducible first | exact HB.out | apply below_alloc | apply pw_below_drewN | apply below_drew1) | exact HB.out))) : w.heap.size ≤ gb860)); have n3_ := Aside0.mk ((by rw [hg]; exact (below_size (by repeat (first | (with_reducible first | exact HB.out | apply below_alloc | apply pw_below_drewN | apply below_drew1) | exact HB.out))) : w.heap.size ≤ gb860)); clear HB; have HB := n0_; have BK860 := n1_; have GW860 := n2_; have GE860 := n3_; clear n0_ n1_ n2_ n3_; clear hb hbox hg) | ((with_reducible refine gate_callee (f := 13) rfl ?_); refine goesL_ (some 16) rfl rfl Try.func13 (by kernel_rfl) rfl #[.slice A0 l0.length c0, .int .i64 1048576] rfl (by (try simp only [List.map_toArray, List.map_cons, List.map_nil]); first | done | rfl | (simp only [List.length_drop, List.length_take]; rfl)) ?_; (with_reducible refine (laws_szDependS.calls k _ _ l0 1048576 t861 _ ?side1 ?side2 A4.out).mono ?_); (case side1 => repeat (first | exact (Kd.C_below HR0.out HB.out) | (with_reducible refine Kd.C_alloc ?_ _) | (with_reducible refine Kd.C_drewN ?_ _) | (with_reducible refine Kd.C_drew ?_))); (case side2 => exact HC0.out); rintro e w11 ⟨rfl, hb⟩; refine ⟨_, rfl, ?_⟩; have n0_ := Aside0.mk (blk_below (g := gb860) (o := .cells #[.slice A2_0 l2_0.length c2_0, .slice A2_1 l2_1.length c2_1] 74 (0, 0)) (by (with_reducible repeat (first | refine blk_drewN ?_ _ | refine blk_drew ?_ | refine blk_alloc ?_ _)); exact BK860.out) hb); have n1_ := Aside0.mk (below_step (by repeat (first | (with_reducible first | exact HB.out | apply below_alloc | apply pw_below_drewN | apply below_drew1 | refine below_set ?_ GE860.out) | exact HB.out)) hb); clear BK860; clear HB; have BK860 := n0_; have HB := n1_; clear n0_ n1_; (try clear hb); (try clear hb2); (try clear hk); (try clear hi); have hcz12_0 : w11.cell? ⟨gb860, 0, none⟩ = some (.slice A2_0 l2_0.length c2_0) := (blk_cell BK860.out 0).trans rfl; have hcz12_1 : w11.cell? ⟨gb860, 1, none⟩ = some (.slice A2_1 l2_1.length c2_1) := (blk_cell BK860.out 1).trans rfl; have hfz12_0 := blk_frozen BK860.out 0; have hfz12_1 := blk_frozen BK860.out 1) | ((with_reducible refine gate_callee (f := 45) rfl ?_); refine goesL_ (some 21) rfl rfl Try.func45 (by kernel_rfl) rfl #[.agg #[.slice A2_0 l2_0.length c2_0, .slice A2_1 l2_1.length c2_1], .int .i64 t861] rfl (by (try simp only [List.map_toArray, List.map_cons, List.map_nil]); first | done | rfl | (simp only [List.length_drop, List.length_take]; rfl)) ?_; (with_reducible refine (laws_szDepend.calls _ _ l2_0 _ _ l2_1 t861 t862 _ ?side1 ?side2 ?side3 ?side4 A8.out).mono ?_); (case side1 => repeat (first | exact (Kd.C_below HR2_0.out HB.out) | (with_reducible refine Kd.C_alloc ?_ _) | (with_reducible refine Kd.C_drewN ?_ _) | (with_reducible refine Kd.C_drew ?_))); (case side2 => exact HC2_0.out); (case side3 => repeat (first | exact (Kd.C_below HR2_1.out HB.out) | (with_reducible refine Kd.C_alloc ?_ _) | (with_reducible refine Kd.C_drewN ?_ _) | (with_reducible refine Kd.C_drew ?_))); (case side4 => exact HC2_1.out); rintro e w13 ⟨rfl, hb⟩; refine ⟨_, rfl, ?_⟩; have n0_ := Aside0.mk (blk_below (g := gb860) (o := .cells #[.slice A2_0 l2_0.length c2_0, .slice A2_1 l2_1.length c2_1] 74 (0, 0)) (by (with_reducible repeat (first | refine blk_drewN ?_ _ | refine blk_drew ?_ | refine blk_alloc ?_ _)); exact BK860.out) hb); have n1_ := Aside0.mk (below_step (by repeat (first | (with_reducible first | exact HB.out | apply below_alloc | apply pw_below_drewN | apply below_drew1 | refine below_set ?_ GE860.out) | exact HB.out)) hb); clear BK860; clear HB; have BK860 := n0_; have HB := n1_; clear n0_ n1_; (try clear hb); (try clear hb2); (try clear hk); (try clear hi)))
      go_ret
      exact ⟨by first | rfl | (simp [errW_none, errW_some] <;> rfl) | (simp [*, errW_none, errW_some] <;> rfl), by repeat (first | (with_reducible first | exact HB.out | apply below_alloc | apply pw_below_drewN | apply below_drew1 | refine below_set ?_ GE860.out) | exact HB.out)⟩
    · rw [if_neg c9] at H
      have c9b0 : decide (t862 < 0) = false := decide_eq_false c9
      clear c9
      replace H := Option.bind_eq_some_iff.mp H
      obtain ⟨t863, A140, H⟩ := H
      replace H : ((laws_toDepend.f k l2_0 l2_1).bind fun bt866 => ((spec_Implies.f k t863 a1 bt866.1 bt866.2).bind fun bt872 => ((laws_toDependS.f k l0).bind fun t874 => ((laws_toDepend.f k l2_0 l2_1).bind fun bt877 => ((impl_Implies.f k t874 a1 bt877.1 bt877.2).bind fun bt884 => (if (bt884.1 != bt872.1) = true then (some false) else (if (bt884.2 != bt872.2) = true then (some false) else ((laws_toDependS.f k l0).bind fun t886 => ((laws_eqDependS.f k t874 t886).bind fun t889 => (if t889 = true then ((laws_toDepend.f k l2_0 l2_1).bind fun bt890 => ((laws_eqDepend.f k bt877.1 bt877.2 bt890.1 bt890.2).bind fun t896 => (if t896 = true then (some true) else (some false)))) else (some false))))))))))) = some true := H
      have A14 := Aside0.mk A140
      clear A140
      replace H := Option.bind_eq_some_iff.mp H
      obtain ⟨⟨t866, t869⟩, A150, H⟩ := H
      replace H : ((spec_Implies.f k t863 a1 t866 t869).bind fun bt872 => ((laws_toDependS.f k l0).bind fun t874 => ((laws_toDepend.f k l2_0 l2_1).bind fun bt877 => ((impl_Implies.f k t874 a1 bt877.1 bt877.2).bind fun bt884 => (if (bt884.1 != bt872.1) = true then (some false) else (if (bt884.2 != bt872.2) = true then (some false) else ((laws_toDependS.f k l0).bind fun t886 => ((laws_eqDependS.f k t874 t886).bind fun t889 => (if t889 = true then ((laws_toDepend.f k l2_0 l2_1).bind fun bt890 => ((laws_eqDepend.f k bt877.1 bt877.2 bt890.1 bt890.2).bind fun t896 => (if t896 = true then (some true) else (some false)))) else (some false)))))))))) = some true := H
      have A15 := Aside0.mk A150
      clear A150
      replace H := Option.bind_eq_some_iff.mp H
      obtain ⟨⟨t872, t873⟩, A160, H⟩ := H
      replace H : ((laws_toDependS.f k l0).bind fun t874 => ((laws_toDepend.f k l2_0 l2_1).bind fun bt877 => ((impl_Implies.f k t874 a1 bt877.1 bt877.2).bind fun bt884 => (if (bt884.1 != t872) = true then (some false) else (if (bt884.2 != t873) = true then (some false) else ((laws_toDependS.f k l0).bind fun t886 => ((laws_eqDependS.f k t874 t886).bind fun t889 => (if t889 = true then ((laws_toDepend.f k l2_0 l2_1).bind fun bt890 => ((laws_eqDepend.f k bt877.1 bt877.2 bt890.1 bt890.2).bind fun t896 => (if t896 = true then (some true) else (some false)))) else (some false))))))))) = some true := H
      have A16 := Aside0.mk A160
      clear A160
      replace H := Option.bind_eq_some_iff.mp H
      obtain ⟨t874, A170, H⟩ := H
      replace H : ((laws_toDepend.f k l2_0 l2_1).bind fun bt877 => ((impl_Implies.f k t874 a1 bt877.1 bt877.2).bind fun bt884 => (if (bt884.1 != t872) = true then (some false) else (if (bt884.2 != t873) = true then (some false) else ((laws_toDependS.f k l0).bind fun t886 => ((laws_eqDependS.f k t874 t886).bind fun t889 => (if t889 = true then ((laws_toDepend.f k l2_0 l2_1).bind fun bt890 => ((laws_eqDepend.f k bt877.1 bt877.2 bt890.1 bt890.2).bind fun t896 => (if t896 = true then (some true) else (some false)))) else (some false)))))))) = some true := H
      have A17 := Aside0.mk A170
      clear A170
      replace H := Option.bind_eq_some_iff.mp H
      obtain ⟨⟨t877, t880⟩, A180, H⟩ := H
      replace H : ((impl_Implies.f k t874 a1 t877 t880).bind fun bt884 => (if (bt884.1 != t872) = true then (some false) else (if (bt884.2 != t873) = true then (some false) else ((laws_toDependS.f k l0).bind fun t886 => ((laws_eqDependS.f k t874 t886).bind fun t889 => (if t889 = true then ((laws_toDepend.f k l2_0 l2_1).bind fun bt890 => ((laws_eqDepend.f k t877 t880 bt890.1 bt890.2).bind fun t896 => (if t896 = true then (some true) else (some false)))) else (some false))))))) = some true := H
      have A18 := Aside0.mk A180
      clear A180
      replace H := Option.bind_eq_some_iff.mp H
      obtain ⟨⟨t884, t885⟩, A190, H⟩ := H
      replace H : (if (t884 != t872) = true then (some false) else (if (t885 != t873) = true then (some false) else ((laws_toDependS.f k l0).bind fun t886 => ((laws_eqDependS.f k t874 t886).bind fun t889 => (if t889 = true then ((laws_toDepend.f k l2_0 l2_1).bind fun bt890 => ((laws_eqDepend.f k t877 t880 bt890.1 bt890.2).bind fun t896 => (if t896 = true then (some true) else (some false)))) else (some false)))))) = some true := H
      have A19 := Aside0.mk A190
      clear A190
      by_cases c20 : (t884 != t872) = true
      · rw [if_pos c20] at H
        have c20b0 : (t884 != t872) = true := c20
        (try (have c20b1 : decide (t884 = t872) = false := by simpa using c20))
        (try (have c20b2 : (t884 == t872) = false := by simpa using c20))
        (try (have c20b3 : ¬ (t884 = t872) := by simpa using c20))
        clear c20
        exact absurd H (by simp)
      · rw [if_neg c20] at H
        have c20b0 : (t884 != t872) = false := by simpa using c20
        (try (have c20b1 : decide (t884 = t872) = true := by simpa using c20))
        (try (have c20b2 : (t884 == t872) = true := by simpa using c20))
        clear c20
        by_cases c21 : (t885 != t873) = true
        · rw [if_pos c21] at H
          have c21b0 : (t885 != t873) = true := c21
          (try (have c21b1 : decide (t885 = t873) = false := by simpa using c21))
          (try (have c21b2 : (t885 == t873) = false := by simpa using c21))
          (try (have c21b3 : ¬ (t885 = t873) := by simpa using c21))
          clear c21
          exact absurd H (by simp)
        · rw [if_neg c21] at H
          have c21b0 : (t885 != t873) = false := by simpa using c21
          (try (have c21b1 : decide (t885 = t873) = true := by simpa using c21))
          (try (have c21b2 : (t885 == t873) = true := by simpa using c21))
          clear c21
          replace H := Option.bind_eq_some_iff.mp H
          obtain ⟨t886, A220, H⟩ := H
          replace H : ((laws_eqDependS.f k t874 t886).bind fun t889 => (if t889 = true then ((laws_toDepend.f k l2_0 l2_1).bind fun bt890 => ((laws_eqDepend.f k t877 t880 bt890.1 bt890.2).bind fun t896 => (if t896 = true then (some true) else (some false)))) else (some false))) = some true := H
          have A22 := Aside0.mk A220
          clear A220
          replace H := Option.bind_eq_some_iff.mp H
          obtain ⟨t889, A230, H⟩ := H
          replace H : (if t889 = true then ((laws_toDepend.f k l2_0 l2_1).bind fun bt890 => ((laws_eqDepend.f k t877 t880 bt890.1 bt890.2).bind fun t896 => (if t896 = true then (some true) else (some false)))) else (some false)) = some true := H
          have A23 := Aside0.mk A230
          clear A230
          by_cases c24 : t889 = true
          · subst c24
            have H1 : ((laws_toDepend.f k l2_0 l2_1).bind fun bt890 => ((laws_eqDepend.f k t877 t880 bt890.1 bt890.2).bind fun t896 => (if t896 = true then (some true) else (some false)))) = some true := by first | (with_reducible rfl) | (rw [if_pos rfl] at H; exact H)
            clear H
            have H := H1
            clear H1
            replace H := Option.bind_eq_some_iff.mp H
            obtain ⟨⟨t890, t893⟩, A250, H⟩ := H
            replace H : ((laws_eqDepend.f k t877 t880 t890 t893).bind fun t896 => (if t896 = true then (some true) else (some false))) = some true := H
            have A25 := Aside0.mk A250
            clear A250
            replace H := Option.bind_eq_some_iff.mp H
            obtain ⟨t896, A260, H⟩ := H
            replace H : (if t896 = true then (some true) else (some false)) = some true := H
            have A26 := Aside0.mk A260
            clear A260
            by_cases c27 : t896 = true
            · subst c27
              have H1 : (some true) = some true := by first | (with_reducible rfl) | (rw [if_pos rfl] at H; exact H)
              clear H
              have H := H1
              clear H1
              clear H
              go_enter Try.func9, Try.ntmps9
              try go_wp2_with (first | ((with_reducible refine gate_dst (N := 5) rfl ?_); refine box_event ?hg (N := 5) ?hd (cs := #[.slice A2_0 l2_0.length c2_0, .slice A2_1 l2_1.length c2_1]) (t := 74) ?hr ?_; (case hd => rfl); (case hg => rfl); (case hr => first | (go_simp; done) | (go_simp; rfl)); intro gb860 hg w28 hbox hb; have n0_ := Aside0.mk (below_step (by repeat (first | (with_reducible first | exact HB.out | apply below_alloc | apply pw_below_drewN | apply below_drew1) | exact HB.out)) hb); have n1_ := Aside0.mk (hbox); have n2_ := Aside0.mk ((by rw [hg]; exact (below_size (by repeat (first | (with_reducible first | exact HB.out | apply below_alloc | apply pw_below_drewN | apply below_drew1) | exact HB.out))) : w.heap.size ≤ gb860)); have n3_ := Aside0.mk ((by rw [hg]; exact (below_size (by repeat (first | (with_reducible first | exact HB.out | apply below_alloc | apply pw_below_drewN | apply below_drew1) | exact HB.out))) : w.heap.size ≤ gb860)); clear HB; have HB := n0_; have BK860 := n1_; have GW860 := n2_; have GE860 := n3_; clear n0_ n1_ n2_ n3_; clear hb hbox hg) | ((with_reducible refine gate_callee (f := 13) rfl ?_); refine goesL_ (some 16) rfl rfl Try.func13 (by kernel_rfl) rfl #[.slice A0 l0.length c0, .int .i64 1048576] rfl (by (try simp only [List.map_toArray, List.map_cons, List.map_nil]); first | done | rfl | (simp only [List.length_drop, List.length_take]; rfl)) ?_; (with_reducible refine (laws_szDependS.calls k _ _ l0 1048576 t861 _ ?side1 ?side2 A4.out).mono ?_); (case side1 => repeat (first | exact (Kd.C_below HR0.out HB.out) | (with_reducible refine Kd.C_alloc ?_ _) | (with_reducible refine Kd.C_drewN ?_ _) | (with_reducible refine Kd.C_drew ?_))); (case side2 => exact HC0.out); rintro e w29 ⟨rfl, hb⟩; refine ⟨_, rfl, ?_⟩; have n0_ := Aside0.mk (blk_below (g := gb860) (o := .cells #[.slice A2_0 l2_0.length c2_0, .slice A2_1 l2_1.length c2_1] 74 (0, 0)) (by (with_reducible repeat (first | refine blk_drewN ?_ _ | refine blk_drew ?_ | refine blk_alloc ?_ _)); exact BK860.out) hb); have n1_ := Aside0.mk (below_step (by repeat (first | (with_reducible first | exact HB.out | apply below_alloc | apply pw_below_drewN | apply below_drew1 | refine below_set ?_ GE860.out) | exact HB.out)) hb); clear BK860; clear HB; have BK860 := n0_; have HB := n1_; clear n0_ n1_; (try clear hb); (try clear hb2); (try clear hk); (try clear hi); have hcz30_0 : w29.cell? ⟨gb860, 0, none⟩ = some (.slice A2_0 l2_0.length c2_0) := (blk_cell BK860.out 0).trans rfl; have hcz30_1 : w29.cell? ⟨gb860, 1, none⟩ = some (.slice A2_1 l2_1.length c2_1) := (blk_cell BK860.out 1).trans rfl; have hfz30_0 := blk_frozen BK860.out 0; have hfz30_1 := blk_frozen BK860.out 1) | ((with_reducible refine gate_callee (f := 45) rfl ?_); refine goesL_ (some 21) rfl rfl Try.func45 (by kernel_rfl) rfl #[.agg #[.slice A2_0 l2_0.length c2_0, .slice A2_1 l2_1.length c2_1], .int .i64 t861] rfl (by (try simp only [List.map_toArray, List.map_cons, List.map_nil]); first | done | rfl | (simp only [List.length_drop, List.length_take]; rfl)) ?_; (with_reducible refine (laws_szDepend.calls _ _ l2_0 _ _ l2_1 t861 t862 _ ?side1 ?side2 ?side3 ?side4 A8.out).mono ?_); (case side1 => repeat (first | exact (Kd.C_below HR2_0.out HB.out) | (with_reducible refine Kd.C_alloc ?_ _) | (with_reducible refine Kd.C_drewN ?_ _) | (with_reducible refine Kd.C_drew ?_))); (case side2 => exact HC2_0.out); (case side3 => repeat (first | exact (Kd.C_below HR2_1.out HB.out) | (with_reducible refine Kd.C_alloc ?_ _) | (with_reducible refine Kd.C_drewN ?_ _) | (with_reducible refine Kd.C_drew ?_))); (case side4 => exact HC2_1.out); rintro e w31 ⟨rfl, hb⟩; refine ⟨_, rfl, ?_⟩; have n0_ := Aside0.mk (blk_below (g := gb860) (o := .cells #[.slice A2_0 l2_0.length c2_0, .slice A2_1 l2_1.length c2_1] 74 (0, 0)) (by (with_reducible repeat (first | refine blk_drewN ?_ _ | refine blk_drew ?_ | refine blk_alloc ?_ _)); exact BK860.out) hb); have n1_ := Aside0.mk (below_step (by repeat (first | (with_reducible first | exact HB.out | apply below_alloc | apply pw_below_drewN | apply below_drew1 | refine below_set ?_ GE860.out) | exact HB.out)) hb); clear BK860; clear HB; have BK860 := n0_; have HB := n1_; clear n0_ n1_; (try clear hb); (try clear hb2); (try clear hk); (try clear hi)))
              have n0_ := Aside0.mk (blk_drew BK860.out)
              have n1_ := Aside0.mk (below_drew1 HB.out)
              clear BK860
              clear HB
              have BK860 := n0_
              have HB := n1_
              clear n0_ n1_
              refine start_ (n := 11) (S := fun w' => w'.cell? ⟨gb860, 0, none⟩ = some (.slice A2_0 l2_0.length c2_0) ∧ w'.cell? ⟨gb860, 1, none⟩ = some (.slice A2_1 l2_1.length c2_1)) (ds := []) #[ff,ff,ff,ff,ff,ff,ff,ff,ff,ff,ff] (by kernel_rfl) rfl rfl ⟨(blk_cell BK860.out 0).trans rfl, (blk_cell BK860.out 1).trans rfl⟩ (fun hHeld => ?_); refine with_tabW laws_FnExactImplies.tab8 laws_FnExactImplies.bits8 (fun HT_ HW_ => ?_)
              generalize w31.drew = w32 at BK860 HB hHeld ⊢
              refine pure_ (i := 0) (N := some 25) (v := ?_) (a' := ?_) #[tt,ff,ff,ff,ff,ff,ff,ff,ff,ff,ff] rfl rfl (any_of HT_.out (by kernel_rfl)) (fun _ _ _ h => h) (Or.inl ⟨by rfl, ?_⟩) ?_ ?_
              rotate_left
              · intro w'
                go_simp
                with_reducible rfl
              rotate_left
              · simp only [Act.put, List.setIfInBounds_toArray, List.set_cons_zero, List.set_cons_succ, i64_w, i32_w]
                rfl
              refine pure_ (i := 2) (N := some 27) (v := ?_) (a' := ?_) #[tt,ff,tt,ff,ff,ff,ff,ff,ff,ff,ff] rfl rfl (any_of HT_.out (by kernel_rfl)) (fun _ _ _ h => h) (Or.inl ⟨by rfl, ?_⟩) ?_ ?_
              rotate_left
              · intro w'
                go_simp
                with_reducible rfl
              rotate_left
              · simp only [Act.put, List.setIfInBounds_toArray, List.set_cons_zero, List.set_cons_succ, i64_w, i32_w]
                rfl
              refine take_ (i := 3) (N := some 28) (v := ?_) (a' := ?_) #[tt,ff,tt,tt,ff,ff,ff,ff,ff,ff,ff] rfl rfl (take_ofW HT_.out HW_.out (by kernel_rfl)) (fun _ _ _ h => h) (Or.inl ⟨by rfl, ?_⟩) hHeld ?_ ?_
              rotate_left
              · rintro w' ⟨s0, s1⟩
                go_simp
                with_reducible rfl
              rotate_left
              · simp only [Act.put, List.setIfInBounds_toArray, List.set_cons_zero, List.set_cons_succ, i64_w, i32_w]
                rfl
              refine one_ (i := 1) (N := some 26) #[tt,tt,tt,tt,ff,ff,ff,ff,ff,ff,ff] rfl rfl (one_of HT_.out (by kernel_rfl)) (by decide) (fun K hK => ?_)
              refine goes_ Try.func16 (by kernel_rfl) rfl #[.slice A0 l0.length c0] (by rfl) rfl rfl (by (try simp only [List.map_toArray, List.map_cons, List.map_nil]); first | done | rfl | (simp only [List.length_drop, List.length_take]; rfl)) ?_
              with_reducible refine (laws_toDependS.calls k _ _ l0 t863 _ ?side1 ?side2 A14.out).mono ?_
              (case side1 => repeat (first | exact (Kd.C_below HR0.out HB.out) | (with_reducible refine Kd.C_alloc ?_ _) | (with_reducible refine Kd.C_drewN ?_ _) | (with_reducible refine Kd.C_drew ?_)))
              (case side2 => exact HC0.out)
              rintro e w33 ⟨v864, rfl, ho0, hb⟩
              refine ⟨_, rfl, ?_⟩
              have n0_ := Aside0.mk (Kd.S_lower ho0 (below_size (by repeat (first | (with_reducible first | exact HB.out | apply below_alloc | apply pw_below_drewN | apply below_drew1 | refine below_set ?_ GE860.out) | exact HB.out))))
              have n1_ := Aside0.mk (blk_below (g := gb860) (o := .cells #[.slice A2_0 l2_0.length c2_0, .slice A2_1 l2_1.length c2_1] 74 (0, 0)) (by (with_reducible repeat (first | refine blk_drewN ?_ _ | refine blk_drew ?_ | refine blk_alloc ?_ _)); exact BK860.out) hb)
              have n2_ := Aside0.mk (below_step (by repeat (first | (with_reducible first | exact HB.out | apply below_alloc | apply pw_below_drewN | apply below_drew1 | refine below_set ?_ GE860.out) | exact HB.out)) hb)
              clear BK860
              clear HB
              have HO865 := n0_
              have BK860 := n1_
              have HB := n2_
              clear n0_ n1_ n2_
              (try clear hb)
              (try clear hb2)
              (try clear hk)
              (try clear hi)
              (try clear ho0)
              refine hK.out _ _ ⟨(blk_cell BK860.out 0).trans rfl, (blk_cell BK860.out 1).trans rfl⟩ (fun hHeld => ?_)
              clear hK K
              refine norm_ (a' := ?_) ?_ ?_
              rotate_left
              · show Act.put _ (some 26) _ = _
                simp only [Act.put, List.setIfInBounds_toArray, List.set_cons_zero, List.set_cons_succ, i64_w, i32_w]
                rfl
              refine one_ (i := 4) (N := some 29) #[tt,tt,tt,tt,tt,ff,ff,ff,ff,ff,ff] rfl rfl (one_of HT_.out (by kernel_rfl)) (by decide) (fun K hK => ?_)
              refine goes_ Try.func47 (by kernel_rfl) rfl #[.agg #[.slice A2_0 l2_0.length c2_0, .slice A2_1 l2_1.length c2_1]] (by rfl) rfl rfl (by (try simp only [List.map_toArray, List.map_cons, List.map_nil]); first | done | rfl | (simp only [List.length_drop, List.length_take]; rfl)) ?_
              with_reducible refine (laws_toDepend.calls k _ _ l2_0 _ _ l2_1 t866 t869 _ ?side1 ?side2 ?side3 ?side4 A15.out).mono ?_
              (case side1 => repeat (first | exact (Kd.C_below HR2_0.out HB.out) | (with_reducible refine Kd.C_alloc ?_ _) | (with_reducible refine Kd.C_drewN ?_ _) | (with_reducible refine Kd.C_drew ?_)))
              (case side2 => exact HC2_0.out)
              (case side3 => repeat (first | exact (Kd.C_below HR2_1.out HB.out) | (with_reducible refine Kd.C_alloc ?_ _) | (with_reducible refine Kd.C_drewN ?_ _) | (with_reducible refine Kd.C_drew ?_)))
              (case side4 => exact HC2_1.out)
              rintro e w34 ⟨v867, v870, rfl, ho0, ho1, hb⟩
              refine ⟨_, rfl, ?_⟩
              have n0_ := Aside0.mk (Kd.S_mono (Kd.S_told (Kd.S_told (Kd.S_old (by (with_reducible repeat (first | apply Kd.S_alloc | apply Kd.S_drewN | apply Kd.S_drew)); exact HO865.out) hb) (Kd.R_base ho0)) (Kd.R_base ho1)) (fun _ h_ => h_.1))
              have n1_ := Aside0.mk (Kd.R_lower ho0 (below_size (by repeat (first | (with_reducible first | exact HB.out | apply below_alloc | apply pw_below_drewN | apply below_drew1 | refine below_set ?_ GE860.out) | exact HB.out))))
              have n2_ := Aside0.mk (Kd.R_lower ho1 (below_size (by repeat (first | (with_reducible first | exact HB.out | apply below_alloc | apply pw_below_drewN | apply below_drew1 | refine below_set ?_ GE860.out) | exact HB.out))))
              have n3_ := Aside0.mk (blk_below (g := gb860) (o := .cells #[.slice A2_0 l2_0.length c2_0, .slice A2_1 l2_1.length c2_1] 74 (0, 0)) (by (with_reducible repeat (first | refine blk_drewN ?_ _ | refine blk_drew ?_ | refine blk_alloc ?_ _)); exact BK860.out) hb)
              have n4_ := Aside0.mk (below_step (by repeat (first | (with_reducible first | exact HB.out | apply below_alloc | apply pw_below_drewN | apply below_drew1 | refine below_set ?_ GE860.out) | exact HB.out)) hb)
              clear HO865
              clear BK860
              clear HB
              have HO865 := n0_
              have HO868 := n1_
              have HO871 := n2_
              have BK860 := n3_
              have HB := n4_
              clear n0_ n1_ n2_ n3_ n4_
              (try clear hb)
              (try clear hb2)
              (try clear hk)
              (try clear hi)
              (try clear ho0)
              (try clear ho1)
              obtain ⟨Ao35, co35, eo35⟩ := Kd.S_slice HO865.out
              (first | subst eo35 | (injection eo35 with f1_ f2_ f3_; have f4_ := f1_.symm; have f5_ := f3_.symm; clear f1_ f2_ f3_; subst f4_; subst f5_))
              obtain ⟨Ao36, co36, eo36⟩ := Kd.R_slice HO868.out
              (first | subst eo36 | (injection eo36 with f1_ f2_ f3_; have f4_ := f1_.symm; have f5_ := f3_.symm; clear f1_ f2_ f3_; subst f4_; subst f5_))
              obtain ⟨Ao37, co37, eo37⟩ := Kd.R_slice HO871.out
              (first | subst eo37 | (injection eo37 with f1_ f2_ f3_; have f4_ := f1_.symm; have f5_ := f3_.symm; clear f1_ f2_ f3_; subst f4_; subst f5_))
              refine hK.out _ _ ⟨(blk_cell BK860.out 0).trans rfl, (blk_cell BK860.out 1).trans rfl⟩ (fun hHeld => ?_)
              clear hK K
              refine norm_ (a' := ?_) ?_ ?_
              rotate_left
              · show Act.put _ (some 29) _ = _
                simp only [Act.put, List.setIfInBounds_toArray, List.set_cons_zero, List.set_cons_succ, i64_w, i32_w]
                rfl
              refine one_ (i := 5) (N := some 30) #[tt,tt,tt,tt,tt,tt,ff,ff,ff,ff,ff] rfl rfl (one_of HT_.out (by kernel_rfl)) (by decide) (fun K hK => ?_)
              refine goes_ Try.func46 (by kernel_rfl) rfl #[.slice Ao35 t863.length co35, .int .i64 a1, .agg #[.slice Ao36 t866.length co36, .slice Ao37 t869.length co37]] (by rfl) rfl rfl (by (try simp only [List.map_toArray, List.map_cons, List.map_nil]); first | done | rfl | (simp only [List.length_drop, List.length_take]; rfl)) ?_
              with_reducible refine (spec_Implies.calls k _ _ t863 a1 _ _ t866 _ _ t869 t872 t873 _ ?side1 ?side2 ?side3 ?side4 ?side5 ?side6 A16.out).mono ?_
              (case side1 => repeat (first | exact (Kd.S_reads' HO865.out).2.2 | (with_reducible refine Kd.C_alloc ?_ _) | (with_reducible refine Kd.C_drewN ?_ _) | (with_reducible refine Kd.C_drew ?_)))
              (case side2 => exact (Kd.S_reads' HO865.out).2.1)
              (case side3 => repeat (first | exact (Kd.R_reads' HO868.out).2.2 | (with_reducible refine Kd.C_alloc ?_ _) | (with_reducible refine Kd.C_drewN ?_ _) | (with_reducible refine Kd.C_drew ?_)))
              (case side4 => exact (Kd.R_reads' HO868.out).2.1)
              (case side5 => repeat (first | exact (Kd.R_reads' HO871.out).2.2 | (with_reducible refine Kd.C_alloc ?_ _) | (with_reducible refine Kd.C_drewN ?_ _) | (with_reducible refine Kd.C_drew ?_)))
              (case side6 => exact (Kd.R_reads' HO871.out).2.1)
              rintro e w38 ⟨rfl, hb⟩
              refine ⟨_, rfl, ?_⟩
              have n0_ := Aside0.mk (Kd.S_below (by (with_reducible repeat (first | apply Kd.S_alloc | apply Kd.S_drewN | apply Kd.S_drew)); exact HO865.out) hb)
              have n1_ := Aside0.mk (Kd.R_below (by (with_reducible repeat (first | apply Kd.R_alloc | apply Kd.R_drewN | apply Kd.R_drew)); exact HO868.out) hb)
              have n2_ := Aside0.mk (Kd.R_below (by (with_reducible repeat (first | apply Kd.R_alloc | apply Kd.R_drewN | apply Kd.R_drew)); exact HO871.out) hb)
              have n3_ := Aside0.mk (blk_below (g := gb860) (o := .cells #[.slice A2_0 l2_0.length c2_0, .slice A2_1 l2_1.length c2_1] 74 (0, 0)) (by (with_reducible repeat (first | refine blk_drewN ?_ _ | refine blk_drew ?_ | refine blk_alloc ?_ _)); exact BK860.out) hb)
              have n4_ := Aside0.mk (below_step (by repeat (first | (with_reducible first | exact HB.out | apply below_alloc | apply pw_below_drewN | apply below_drew1 | refine below_set ?_ GE860.out) | exact HB.out)) hb)
              clear HO865
              clear HO868
              clear HO871
              clear BK860
              clear HB
              have HO865 := n0_
              have HO868 := n1_
              have HO871 := n2_
              have BK860 := n3_
              have HB := n4_
              clear n0_ n1_ n2_ n3_ n4_
              (try clear hb)
              (try clear hb2)
              (try clear hk)
              (try clear hi)
              refine hK.out _ _ ⟨(blk_cell BK860.out 0).trans rfl, (blk_cell BK860.out 1).trans rfl⟩ (fun hHeld => ?_)
              clear hK K
              refine norm_ (a' := ?_) ?_ ?_
              rotate_left
              · show Act.put _ (some 30) _ = _
                simp only [Act.put, List.setIfInBounds_toArray, List.set_cons_zero, List.set_cons_succ, i64_w, i32_w]
                rfl
              refine pure_ (i := 6) (N := some 24) (v := ?_) (a' := ?_) #[tt,tt,tt,tt,tt,tt,tt,ff,ff,ff,ff] rfl rfl (any_of HT_.out (by kernel_rfl)) (fun _ _ _ h => h) (Or.inl ⟨by rfl, ?_⟩) ?_ ?_
              rotate_left
              · intro w'
                go_simp
                with_reducible rfl
              rotate_left
              · simp only [Act.put, List.setIfInBounds_toArray, List.set_cons_zero, List.set_cons_succ, i64_w, i32_w]
                rfl
              refine pure_ (i := 7) (N := some 31) (v := ?_) (a' := ?_) #[tt,tt,tt,tt,tt,tt,tt,tt,ff,ff,ff] rfl rfl (any_of HT_.out (by kernel_rfl)) (fun _ _ _ h => h) (Or.inl ⟨by rfl, ?_⟩) ?_ ?_
              rotate_left
              · intro w'
                go_simp
                with_reducible rfl
              rotate_left
              · simp only [Act.put, List.setIfInBounds_toArray, List.set_cons_zero, List.set_cons_succ, i64_w, i32_w]
                rfl
              refine pure_ (i := 8) (N := some 32) (v := ?_) (a' := ?_) #[tt,tt,tt,tt,tt,tt,tt,tt,tt,ff,ff] rfl rfl (any_of HT_.out (by kernel_rfl)) (fun _ _ _ h => h) (Or.inl ⟨by rfl, ?_⟩) ?_ ?_
              rotate_left
              · intro w'
                go_simp
                with_reducible rfl
              rotate_left
              · simp only [Act.put, List.setIfInBounds_toArray, List.set_cons_zero, List.set_cons_succ, i64_w, i32_w]
                rfl
              refine pure_ (i := 9) (N := some 8) (v := ?_) (a' := ?_) #[tt,tt,tt,tt,tt,tt,tt,tt,tt,tt,ff] rfl rfl (any_of HT_.out (by kernel_rfl)) (fun _ _ _ h => h) (Or.inl ⟨by rfl, ?_⟩) ?_ ?_
              rotate_left
              · intro w'
                go_simp
                with_reducible rfl
              rotate_left
              · simp only [Act.put, List.setIfInBounds_toArray, List.set_cons_zero, List.set_cons_succ, i64_w, i32_w]
                rfl
              refine pure_ (i := 10) (N := some 9) (v := ?_) (a' := ?_) #[tt,tt,tt,tt,tt,tt,tt,tt,tt,tt,tt] rfl rfl (any_of HT_.out (by kernel_rfl)) (fun _ _ _ h => h) (Or.inl ⟨by rfl, ?_⟩) ?_ ?_
              rotate_left
              · intro w'
                go_simp
                with_reducible rfl
              rotate_left
              · simp only [Act.put, List.setIfInBounds_toArray, List.set_cons_zero, List.set_cons_succ, i64_w, i32_w]
                rfl
              refine done_ (done_of HT_.out (by kernel_rfl)) ?_
              try go_wp2_with (first | ((with_reducible refine gate_callee (f := 16) rfl ?_); refine goesL_ (some 34) rfl rfl Try.func16 (by kernel_rfl) rfl #[.slice A0 l0.length c0] rfl (by (try simp only [List.map_toArray, List.map_cons, List.map_nil]); first | done | rfl | (simp only [List.length_drop, List.length_take]; rfl)) ?_; (with_reducible refine (laws_toDependS.calls k _ _ l0 t874 _ ?side1 ?side2 A17.out).mono ?_); (case side1 => repeat (first | exact (Kd.C_below HR0.out HB.out) | (with_reducible refine Kd.C_alloc ?_ _) | (with_reducible refine Kd.C_drewN ?_ _) | (with_reducible refine Kd.C_drew ?_))); (case side2 => exact HC0.out); rintro e w39 ⟨v875, rfl, ho0, hb⟩; refine ⟨_, rfl, ?_⟩; have n0_ := Aside0.mk (Kd.S_elder' (by (with_reducible repeat (first | apply Kd.S_alloc | apply Kd.S_drewN | apply Kd.S_drew)); exact HO865.out) (Kd.S_base ho0) hb); have n1_ := Aside0.mk (Kd.R_below (by (with_reducible repeat (first | apply Kd.R_alloc | apply Kd.R_drewN | apply Kd.R_drew)); exact HO868.out) hb); have n2_ := Aside0.mk (Kd.R_below (by (with_reducible repeat (first | apply Kd.R_alloc | apply Kd.R_drewN | apply Kd.R_drew)); exact HO871.out) hb); have n3_ := Aside0.mk (Kd.S_lower (Kd.S_new' (Kd.S_new' (Kd.S_new' ho0 (Kd.S_lt (by (with_reducible repeat (first | apply Kd.S_alloc | apply Kd.S_drewN | apply Kd.S_drew)); exact HO865.out))) (Kd.R_lt (by (with_reducible repeat (first | apply Kd.R_alloc | apply Kd.R_drewN | apply Kd.R_drew)); exact HO868.out))) (Kd.R_lt (by (with_reducible repeat (first | apply Kd.R_alloc | apply Kd.R_drewN | apply Kd.R_drew)); exact HO871.out))) (below_size (by repeat (first | (with_reducible first | exact HB.out | apply below_alloc | apply pw_below_drewN | apply below_drew1 | refine below_set ?_ GE860.out) | exact HB.out)))); have n4_ := Aside0.mk (blk_below (g := gb860) (o := .cells #[.slice A2_0 l2_0.length c2_0, .slice A2_1 l2_1.length c2_1] 74 (0, 0)) (by (with_reducible repeat (first | refine blk_drewN ?_ _ | refine blk_drew ?_ | refine blk_alloc ?_ _)); exact BK860.out) hb); have n5_ := Aside0.mk (below_step (by repeat (first | (with_reducible first | exact HB.out | apply below_alloc | apply pw_below_drewN | apply below_drew1 | refine below_set ?_ GE860.out) | exact HB.out)) hb); clear HO865; clear HO868; clear HO871; clear BK860; clear HB; have HO865 := n0_; have HO868 := n1_; have HO871 := n2_; have HO876 := n3_; have BK860 := n4_; have HB := n5_; clear n0_ n1_ n2_ n3_ n4_ n5_; (try clear hb); (try clear hb2); (try clear hk); (try clear hi); (try clear ho0); have hcz40_0 : w39.cell? ⟨gb860, 0, none⟩ = some (.slice A2_0 l2_0.length c2_0) := (blk_cell BK860.out 0).trans rfl; have hcz40_1 : w39.cell? ⟨gb860, 1, none⟩ = some (.slice A2_1 l2_1.length c2_1) := (blk_cell BK860.out 1).trans rfl; have hfz40_0 := blk_frozen BK860.out 0; have hfz40_1 := blk_frozen BK860.out 1) | ((with_reducible refine gate_callee (f := 47) rfl ?_); refine goesL_ (some 36) rfl rfl Try.func47 (by kernel_rfl) rfl #[.agg #[.slice A2_0 l2_0.length c2_0, .slice A2_1 l2_1.length c2_1]] rfl (by (try simp only [List.map_toArray, List.map_cons, List.map_nil]); first | done | rfl | (simp only [List.length_drop, List.length_take]; rfl)) ?_; (with_reducible refine (laws_toDepend.calls k _ _ l2_0 _ _ l2_1 t877 t880 _ ?side1 ?side2 ?side3 ?side4 A18.out).mono ?_); (case side1 => repeat (first | exact (Kd.C_below HR2_0.out HB.out) | (with_reducible refine Kd.C_alloc ?_ _) | (with_reducible refine Kd.C_drewN ?_ _) | (with_reducible refine Kd.C_drew ?_))); (case side2 => exact HC2_0.out); (case side3 => repeat (first | exact (Kd.C_below HR2_1.out HB.out) | (with_reducible refine Kd.C_alloc ?_ _) | (with_reducible refine Kd.C_drewN ?_ _) | (with_reducible refine Kd.C_drew ?_))); (case side4 => exact HC2_1.out); rintro e w41 ⟨v878, v881, rfl, ho0, ho1, hb⟩; refine ⟨_, rfl, ?_⟩; have n0_ := Aside0.mk (Kd.S_mono (Kd.S_told (Kd.S_told (Kd.S_old (by (with_reducible repeat (first | apply Kd.S_alloc | apply Kd.S_drewN | apply Kd.S_drew)); exact HO865.out) hb) (Kd.R_base ho0)) (Kd.R_base ho1)) (fun _ h_ => h_.1)); have n1_ := Aside0.mk (Kd.R_mono (Kd.R_told (Kd.R_told (Kd.R_old (by (with_reducible repeat (first | apply Kd.R_alloc | apply Kd.R_drewN | apply Kd.R_drew)); exact HO868.out) hb) (Kd.R_base ho0)) (Kd.R_base ho1)) (fun _ h_ => h_.1)); have n2_ := Aside0.mk (Kd.R_mono (Kd.R_told (Kd.R_told (Kd.R_old (by (with_reducible repeat (first | apply Kd.R_alloc | apply Kd.R_drewN | apply Kd.R_drew)); exact HO871.out) hb) (Kd.R_base ho0)) (Kd.R_base ho1)) (fun _ h_ => h_.1)); have n3_ := Aside0.mk (Kd.S_mono (Kd.S_told (Kd.S_told (Kd.S_old (by (with_reducible repeat (first | apply Kd.S_alloc | apply Kd.S_drewN | apply Kd.S_drew)); exact HO876.out) hb) (Kd.R_base ho0)) (Kd.R_base ho1)) (fun _ h_ => h_.1)); have n4_ := Aside0.mk (Kd.R_lower (Kd.R_new' (Kd.R_new' ho0 (Kd.R_lt (by (with_reducible repeat (first | apply Kd.R_alloc | apply Kd.R_drewN | apply Kd.R_drew)); exact HO868.out))) (Kd.R_lt (by (with_reducible repeat (first | apply Kd.R_alloc | apply Kd.R_drewN | apply Kd.R_drew)); exact HO871.out))) (below_size (by repeat (first | (with_reducible first | exact HB.out | apply below_alloc | apply pw_below_drewN | apply below_drew1 | refine below_set ?_ GE860.out) | exact HB.out)))); have n5_ := Aside0.mk (Kd.R_lower (Kd.R_new' (Kd.R_new' ho1 (Kd.R_lt (by (with_reducible repeat (first | apply Kd.R_alloc | apply Kd.R_drewN | apply Kd.R_drew)); exact HO868.out))) (Kd.R_lt (by (with_reducible repeat (first | apply Kd.R_alloc | apply Kd.R_drewN | apply Kd.R_drew)); exact HO871.out))) (below_size (by repeat (first | (with_reducible first | exact HB.out | apply below_alloc | apply pw_below_drewN | apply below_drew1 | refine below_set ?_ GE860.out) | exact HB.out)))); have n6_ := Aside0.mk (blk_below (g := gb860) (o := .cells #[.slice A2_0 l2_0.length c2_0, .slice A2_1 l2_1.length c2_1] 74 (0, 0)) (by (with_reducible repeat (first | refine blk_drewN ?_ _ | refine blk_drew ?_ | refine blk_alloc ?_ _)); exact BK860.out) hb); have n7_ := Aside0.mk (below_step (by repeat (first | (with_reducible first | exact HB.out | apply below_alloc | apply pw_below_drewN | apply below_drew1 | refine below_set ?_ GE860.out) | exact HB.out)) hb); clear HO865; clear HO868; clear HO871; clear HO876; clear BK860; clear HB; have HO865 := n0_; have HO868 := n1_; have HO871 := n2_; have HO876 := n3_; have HO879 := n4_; have HO882 := n5_; have BK860 := n6_; have HB := n7_; clear n0_ n1_ n2_ n3_ n4_ n5_ n6_ n7_; (try clear hb); (try clear hb2); (try clear hk); (try clear hi); (try clear ho0); (try clear ho1)) | ((with_reducible refine gate_dst (N := 11) rfl ?_); refine box_event ?hg (N := 11) ?hd (cs := #[.slice none 0 0, .slice none 0 0]) (t := 77) ?hr ?_; (case hd => rfl); (case hg => rfl); (case hr => first | (go_simp; done) | (go_simp; rfl)); intro gb883 hg w42 hbox hb; have n0_ := Aside0.mk (Kd.S_below (Kd.S_elderB (by (with_reducible repeat (first | apply Kd.S_alloc | apply Kd.S_drewN | apply Kd.S_drew)); exact HO865.out) gb883 (Nat.le_of_eq hg.symm)) hb); have n1_ := Aside0.mk (Kd.R_below (by (with_reducible repeat (first | apply Kd.R_alloc | apply Kd.R_drewN | apply Kd.R_drew)); exact HO868.out) hb); have n2_ := Aside0.mk (Kd.R_below (by (with_reducible repeat (first | apply Kd.R_alloc | apply Kd.R_drewN | apply Kd.R_drew)); exact HO871.out) hb); have n3_ := Aside0.mk (Kd.S_below (Kd.S_elderB (by (with_reducible repeat (first | apply Kd.S_alloc | apply Kd.S_drewN | apply Kd.S_drew)); exact HO876.out) gb883 (Nat.le_of_eq hg.symm)) hb); have n4_ := Aside0.mk (Kd.R_below (by (with_reducible repeat (first | apply Kd.R_alloc | apply Kd.R_drewN | apply Kd.R_drew)); exact HO879.out) hb); have n5_ := Aside0.mk (Kd.R_below (by (with_reducible repeat (first | apply Kd.R_alloc | apply Kd.R_drewN | apply Kd.R_drew)); exact HO882.out) hb); have n6_ := Aside0.mk (blk_below (g := gb860) (o := .cells #[.slice A2_0 l2_0.length c2_0, .slice A2_1 l2_1.length c2_1] 74 (0, 0)) (by (with_reducible repeat (first | refine blk_drewN ?_ _ | refine blk_drew ?_ | refine blk_alloc ?_ _)); exact BK860.out) hb); have n7_ := Aside0.mk (below_step (by repeat (first | (with_reducible first | exact HB.out | apply below_alloc | apply pw_below_drewN | apply below_drew1 | refine below_set ?_ GE860.out) | exact HB.out)) hb); have n8_ := Aside0.mk (hbox); have n9_ := Aside0.mk ((by rw [hg]; exact (below_size (by repeat (first | (with_reducible first | exact HB.out | apply below_alloc | apply pw_below_drewN | apply below_drew1 | refine below_set ?_ GE860.out) | exact HB.out))) : w.heap.size ≤ gb883)); have n10_ := Aside0.mk ((by rw [hg]; exact (below_size (by repeat (first | (with_reducible first | exact HB.out | apply below_alloc | apply pw_below_drewN | apply below_drew1 | refine below_set ?_ GE860.out) | exact HB.out))) : w.heap.size ≤ gb883)); have n11_ := Aside0.mk ((by rw [hg]; exact Nat.ne_of_lt (blk_lt (g := gb860) (o := .cells #[.slice A2_0 l2_0.length c2_0, .slice A2_1 l2_1.length c2_1] 74 (0, 0)) (by (with_reducible repeat (first | refine blk_drewN ?_ _ | refine blk_drew ?_ | refine blk_alloc ?_ _)); exact BK860.out)) : gb860 ≠ gb883)); have n12_ := Aside0.mk ((by rw [hg]; exact Nat.ne_of_gt (blk_lt (g := gb860) (o := .cells #[.slice A2_0 l2_0.length c2_0, .slice A2_1 l2_1.length c2_1] 74 (0, 0)) (by (with_reducible repeat (first | refine blk_drewN ?_ _ | refine blk_drew ?_ | refine blk_alloc ?_ _)); exact BK860.out)) : gb883 ≠ gb860)); clear HO865; clear HO868; clear HO871; clear HO876; clear HO879; clear HO882; clear BK860; clear HB; have HO865 := n0_; have HO868 := n1_; have HO871 := n2_; have HO876 := n3_; have HO879 := n4_; have HO882 := n5_; have BK860 := n6_; have HB := n7_; have BK883 := n8_; have GW883 := n9_; have GE883 := n10_; have NB860_883 := n11_; have NB883_860 := n12_; clear n0_ n1_ n2_ n3_ n4_ n5_ n6_ n7_ n8_ n9_ n10_ n11_ n12_; clear hb hbox hg; obtain ⟨Ao43, co43, eo43⟩ := Kd.R_slice HO879.out; subst eo43; have hnb44 := NB883_860.out; have hnc44 := NB860_883.out; have hcz45_0 : w42.cell? ⟨gb883, 0, none⟩ = some (.slice none 0 0) := (blk_cell BK883.out 0).trans rfl; have hcz45_1 : w42.cell? ⟨gb883, 1, none⟩ = some (.slice none 0 0) := (blk_cell BK883.out 1).trans rfl; have hfz45_0 := blk_frozen BK883.out 0; have hfz45_1 := blk_frozen BK883.out 1; obtain ⟨Ao46, co46, eo46⟩ := Kd.R_slice HO882.out; subst eo46; obtain ⟨Ao47, co47, eo47⟩ := Kd.S_slice HO876.out; subst eo47) | ((with_reducible refine gate_callee (f := 48) rfl ?_); refine goesL_ (some 41) rfl rfl Try.func48 (by kernel_rfl) rfl #[.slice Ao47 t874.length co47, .int .i64 a1, .agg #[.slice Ao43 t877.length co43, .slice Ao46 t880.length co46]] rfl (by (try simp only [List.map_toArray, List.map_cons, List.map_nil]); first | done | rfl | (simp only [List.length_drop, List.length_take]; rfl)) ?_; (with_reducible refine (impl_Implies.calls k _ _ t874 a1 _ _ t877 _ _ t880 t884 t885 _ ?side1 ?side2 ?side3 ?side4 ?side5 ?side6 A19.out).mono ?_); (case side1 => refine (Kd.S_reads' (e := 77) (base := w.heap.size) (ok := fun k_ => ((((((True ∧ some k_ ≠ (.slice Ao35 t863.length co35 : Value).ownBlock) ∧ some k_ ≠ (.slice Ao36 t866.length co36 : Value).ownBlock) ∧ some k_ ≠ (.slice Ao37 t869.length co37 : Value).ownBlock) ∧ some k_ ≠ (.slice Ao43 t877.length co43 : Value).ownBlock) ∧ some k_ ≠ (.slice Ao46 t880.length co46 : Value).ownBlock) ∧ k_ ≠ gb883)) (n := t874.length) (c := co47) ?_).2.2; exact (by (with_reducible repeat (first | apply Kd.S_alloc | apply Kd.S_drewN | apply Kd.S_drew)); exact (Kd.S_mono (Kd.S_far (p := ⟨gb883, 1, none⟩) (Kd.S_far (p := ⟨gb883, 0, none⟩) (Kd.S_mono HO876.out (fun k_ hk => (⟨hk, hk.2⟩ : _ ∧ k_ ≠ gb883))) (fun _ hk => hk.2) (.slice Ao43 t877.length co43)) (fun _ hk => hk.2) (.slice Ao46 t880.length co46)) (fun _ h_ => h_.1)))); (case side2 => exact (Kd.S_reads' HO876.out).2.1); (case side3 => refine (Kd.R_reads' (e := 3) (base := w.heap.size) (ok := fun k_ => ((some k_ ≠ (.slice Ao46 t880.length co46 : Value).ownBlock ∧ some k_ ≠ (.slice Ao36 t866.length co36 : Value).ownBlock) ∧ some k_ ≠ (.slice Ao37 t869.length co37 : Value).ownBlock)) (n := t877.length) (c := co43) ?_).2.2; exact (by (with_reducible repeat (first | apply Kd.R_alloc | apply Kd.R_drewN | apply Kd.R_drew)); exact (Kd.R_mono (Kd.R_far (p := ⟨gb883, 1, none⟩) (Kd.R_far (p := ⟨gb883, 0, none⟩) (Kd.R_types HO879.out BK883.out (by decide)) (fun _ hk => hk.2) (.slice Ao43 t877.length co43)) (fun _ hk => hk.2) (.slice Ao46 t880.length co46)) (fun _ h_ => h_.1)))); (case side4 => exact (Kd.R_reads' HO879.out).2.1); (case side5 => refine (Kd.R_reads' (e := 3) (base := w.heap.size) (ok := fun k_ => ((some k_ ≠ (.slice Ao43 t877.length co43 : Value).ownBlock ∧ some k_ ≠ (.slice Ao36 t866.length co36 : Value).ownBlock) ∧ some k_ ≠ (.slice Ao37 t869.length co37 : Value).ownBlock)) (n := t880.length) (c := co46) ?_).2.2; exact (by (with_reducible repeat (first | apply Kd.R_alloc | apply Kd.R_drewN | apply Kd.R_drew)); exact (Kd.R_mono (Kd.R_far (p := ⟨gb883, 1, none⟩) (Kd.R_far (p := ⟨gb883, 0, none⟩) (Kd.R_types HO882.out BK883.out (by decide)) (fun _ hk => hk.2) (.slice Ao43 t877.length co43)) (fun _ hk => hk.2) (.slice Ao46 t880.length co46)) (fun _ h_ => h_.1)))); (case side6 => exact (Kd.R_reads' HO882.out).2.1); rintro e w48 ⟨rfl, hb⟩; refine ⟨_, rfl, ?_⟩; have n0_ := Aside0.mk (Kd.S_below (by (with_reducible repeat (first | apply Kd.S_alloc | apply Kd.S_drewN | apply Kd.S_drew)); exact (Kd.S_mono (Kd.S_far (p := ⟨gb883, 1, none⟩) (Kd.S_far (p := ⟨gb883, 0, none⟩) (Kd.S_mono HO865.out (fun k_ hk => (⟨hk, hk.2⟩ : _ ∧ k_ ≠ gb883))) (fun _ hk => hk.2) (.slice Ao43 t877.length co43)) (fun _ hk => hk.2) (.slice Ao46 t880.length co46)) (fun _ h_ => h_.1))) hb); have n1_ := Aside0.mk (Kd.R_below (by (with_reducible repeat (first | apply Kd.R_alloc | apply Kd.R_drewN | apply Kd.R_drew)); exact (Kd.R_mono (Kd.R_far (p := ⟨gb883, 1, none⟩) (Kd.R_far (p := ⟨gb883, 0, none⟩) (Kd.R_types HO868.out BK883.out (by decide)) (fun _ hk => hk.2) (.slice Ao43 t877.length co43)) (fun _ hk => hk.2) (.slice Ao46 t880.length co46)) (fun _ h_ => h_.1))) hb); have n2_ := Aside0.mk (Kd.R_below (by (with_reducible repeat (first | apply Kd.R_alloc | apply Kd.R_drewN | apply Kd.R_drew)); exact (Kd.R_mono (Kd.R_far (p := ⟨gb883, 1, none⟩) (Kd.R_far (p := ⟨gb883, 0, none⟩) (Kd.R_types HO871.out BK883.out (by decide)) (fun _ hk => hk.2) (.slice Ao43 t877.length co43)) (fun _ hk => hk.2) (.slice Ao46 t880.length co46)) (fun _ h_ => h_.1))) hb); have n3_ := Aside0.mk (Kd.S_below (by (with_reducible repeat (first | apply Kd.S_alloc | apply Kd.S_drewN | apply Kd.S_drew)); exact (Kd.S_mono (Kd.S_far (p := ⟨gb883, 1, none⟩) (Kd.S_far (p := ⟨gb883, 0, none⟩) (Kd.S_mono HO876.out (fun k_ hk => (⟨hk, hk.2⟩ : _ ∧ k_ ≠ gb883))) (fun _ hk => hk.2) (.slice Ao43 t877.length co43)) (fun _ hk => hk.2) (.slice Ao46 t880.length co46)) (fun _ h_ => h_.1))) hb); have n4_ := Aside0.mk (Kd.R_below (by (with_reducible repeat (first | apply Kd.R_alloc | apply Kd.R_drewN | apply Kd.R_drew)); exact (Kd.R_mono (Kd.R_far (p := ⟨gb883, 1, none⟩) (Kd.R_far (p := ⟨gb883, 0, none⟩) (Kd.R_types HO879.out BK883.out (by decide)) (fun _ hk => hk.2) (.slice Ao43 t877.length co43)) (fun _ hk => hk.2) (.slice Ao46 t880.length co46)) (fun _ h_ => h_.1))) hb); have n5_ := Aside0.mk (Kd.R_below (by (with_reducible repeat (first | apply Kd.R_alloc | apply Kd.R_drewN | apply Kd.R_drew)); exact (Kd.R_mono (Kd.R_far (p := ⟨gb883, 1, none⟩) (Kd.R_far (p := ⟨gb883, 0, none⟩) (Kd.R_types HO882.out BK883.out (by decide)) (fun _ hk => hk.2) (.slice Ao43 t877.length co43)) (fun _ hk => hk.2) (.slice Ao46 t880.length co46)) (fun _ h_ => h_.1))) hb); have n6_ := Aside0.mk (blk_below (g := gb860) (o := .cells #[.slice A2_0 l2_0.length c2_0, .slice A2_1 l2_1.length c2_1] 74 (0, 0)) (by (with_reducible repeat (first | refine blk_drewN ?_ _ | refine blk_drew ?_ | refine blk_alloc ?_ _)); refine blk_far ?_ NB860_883.out _; (with_reducible repeat (first | refine blk_drewN ?_ _ | refine blk_drew ?_ | refine blk_alloc ?_ _)); refine blk_far ?_ NB860_883.out _; (with_reducible repeat (first | refine blk_drewN ?_ _ | refine blk_drew ?_ | refine blk_alloc ?_ _)); exact BK860.out) hb); have n7_ := Aside0.mk (blk_below (g := gb883) (o := .cells #[.slice Ao43 t877.length co43, .slice Ao46 t880.length co46] 77 (0, 0)) (by (with_reducible repeat (first | refine blk_drewN ?_ _ | refine blk_drew ?_ | refine blk_alloc ?_ _)); refine blk_put (cs := #[.slice Ao43 t877.length co43, .slice none 0 0]) ?_ 1 _ rfl; (with_reducible repeat (first | refine blk_drewN ?_ _ | refine blk_drew ?_ | refine blk_alloc ?_ _)); refine blk_put (cs := #[.slice none 0 0, .slice none 0 0]) ?_ 0 _ rfl; (with_reducible repeat (first | refine blk_drewN ?_ _ | refine blk_drew ?_ | refine blk_alloc ?_ _)); exact BK883.out) hb); have n8_ := Aside0.mk (below_step (by repeat (first | (with_reducible first | exact HB.out | apply below_alloc | apply pw_below_drewN | apply below_drew1 | refine below_set ?_ GE860.out | refine below_set ?_ GE883.out) | exact HB.out)) hb); clear HO865; clear HO868; clear HO871; clear HO876; clear HO879; clear HO882; clear BK860; clear BK883; clear HB; have HO865 := n0_; have HO868 := n1_; have HO871 := n2_; have HO876 := n3_; have HO879 := n4_; have HO882 := n5_; have BK860 := n6_; have BK883 := n7_; have HB := n8_; clear n0_ n1_ n2_ n3_ n4_ n5_ n6_ n7_ n8_; (try clear hb); (try clear hb2); (try clear hk); (try clear hi)) | ((with_reducible refine gate_callee (f := 16) rfl ?_); refine goesL_ (some 54) rfl rfl Try.func16 (by kernel_rfl) rfl #[.slice A0 l0.length c0] rfl (by (try simp only [List.map_toArray, List.map_cons, List.map_nil]); first | done | rfl | (simp only [List.length_drop, List.length_take]; rfl)) ?_; (with_reducible refine (laws_toDependS.calls k _ _ l0 t886 _ ?side1 ?side2 A22.out).mono ?_); (case side1 => repeat (first | exact (Kd.C_below HR0.out HB.out) | (with_reducible refine Kd.C_alloc ?_ _) | (with_reducible refine Kd.C_drewN ?_ _) | (with_reducible refine Kd.C_drew ?_))); (case side2 => exact HC0.out); rintro e w49 ⟨v887, rfl, ho0, hb⟩; refine ⟨_, rfl, ?_⟩; have n0_ := Aside0.mk (Kd.S_elder' (by (with_reducible repeat (first | apply Kd.S_alloc | apply Kd.S_drewN | apply Kd.S_drew)); exact HO865.out) (Kd.S_base ho0) hb); have n1_ := Aside0.mk (Kd.R_below (by (with_reducible repeat (first | apply Kd.R_alloc | apply Kd.R_drewN | apply Kd.R_drew)); exact HO868.out) hb); have n2_ := Aside0.mk (Kd.R_below (by (with_reducible repeat (first | apply Kd.R_alloc | apply Kd.R_drewN | apply Kd.R_drew)); exact HO871.out) hb); have n3_ := Aside0.mk (Kd.S_elder' (by (with_reducible repeat (first | apply Kd.S_alloc | apply Kd.S_drewN | apply Kd.S_drew)); exact HO876.out) (Kd.S_base ho0) hb); have n4_ := Aside0.mk (Kd.R_below (by (with_reducible repeat (first | apply Kd.R_alloc | apply Kd.R_drewN | apply Kd.R_drew)); exact HO879.out) hb); have n5_ := Aside0.mk (Kd.R_below (by (with_reducible repeat (first | apply Kd.R_alloc | apply Kd.R_drewN | apply Kd.R_drew)); exact HO882.out) hb); have n6_ := Aside0.mk (Kd.S_lower (Kd.S_newB (Kd.S_new' (Kd.S_new' (Kd.S_new' (Kd.S_new' (Kd.S_new' (Kd.S_new' ho0 (Kd.S_lt (by (with_reducible repeat (first | apply Kd.S_alloc | apply Kd.S_drewN | apply Kd.S_drew)); exact HO865.out))) (Kd.R_lt (by (with_reducible repeat (first | apply Kd.R_alloc | apply Kd.R_drewN | apply Kd.R_drew)); exact HO868.out))) (Kd.R_lt (by (with_reducible repeat (first | apply Kd.R_alloc | apply Kd.R_drewN | apply Kd.R_drew)); exact HO871.out))) (Kd.S_lt (by (with_reducible repeat (first | apply Kd.S_alloc | apply Kd.S_drewN | apply Kd.S_drew)); exact HO876.out))) (Kd.R_lt (by (with_reducible repeat (first | apply Kd.R_alloc | apply Kd.R_drewN | apply Kd.R_drew)); exact HO879.out))) (Kd.R_lt (by (with_reducible repeat (first | apply Kd.R_alloc | apply Kd.R_drewN | apply Kd.R_drew)); exact HO882.out))) (g := gb883) (o := .cells #[.slice Ao43 t877.length co43, .slice Ao46 t880.length co46] 77 (0, 0)) (by (with_reducible repeat (first | refine blk_drewN ?_ _ | refine blk_drew ?_ | refine blk_alloc ?_ _)); exact BK883.out)) (below_size (by repeat (first | (with_reducible first | exact HB.out | apply below_alloc | apply pw_below_drewN | apply below_drew1 | refine below_set ?_ GE860.out | refine below_set ?_ GE883.out) | exact HB.out)))); have n7_ := Aside0.mk (blk_below (g := gb860) (o := .cells #[.slice A2_0 l2_0.length c2_0, .slice A2_1 l2_1.length c2_1] 74 (0, 0)) (by (with_reducible repeat (first | refine blk_drewN ?_ _ | refine blk_drew ?_ | refine blk_alloc ?_ _)); exact BK860.out) hb); have n8_ := Aside0.mk (blk_below (g := gb883) (o := .cells #[.slice Ao43 t877.length co43, .slice Ao46 t880.length co46] 77 (0, 0)) (by (with_reducible repeat (first | refine blk_drewN ?_ _ | refine blk_drew ?_ | refine blk_alloc ?_ _)); exact BK883.out) hb); have n9_ := Aside0.mk (below_step (by repeat (first | (with_reducible first | exact HB.out | apply below_alloc | apply pw_below_drewN | apply below_drew1 | refine below_set ?_ GE860.out | refine below_set ?_ GE883.out) | exact HB.out)) hb); clear HO865; clear HO868; clear HO871; clear HO876; clear HO879; clear HO882; clear BK860; clear BK883; clear HB; have HO865 := n0_; have HO868 := n1_; have HO871 := n2_; have HO876 := n3_; have HO879 := n4_; have HO882 := n5_; have HO888 := n6_; have BK860 := n7_; have BK883 := n8_; have HB := n9_; clear n0_ n1_ n2_ n3_ n4_ n5_ n6_ n7_ n8_ n9_; (try clear hb); (try clear hb2); (try clear hk); (try clear hi); (try clear ho0); obtain ⟨Ao50, co50, eo50⟩ := Kd.S_slice HO888.out; subst eo50) | ((with_reducible refine gate_callee (f := 19) rfl ?_); refine goesL_ (some 55) rfl rfl Try.func19 (by kernel_rfl) rfl #[.slice Ao47 t874.length co47, .slice Ao50 t886.length co50] rfl (by (try simp only [List.map_toArray, List.map_cons, List.map_nil]); first | done | rfl | (simp only [List.length_drop, List.length_take]; rfl)) ?_; (with_reducible refine (laws_eqDependS.calls k _ _ t874 _ _ t886 true _ ?side1 ?side2 ?side3 ?side4 A23.out).mono ?_); (case side1 => repeat (first | exact (Kd.S_reads' HO876.out).2.2 | (with_reducible refine Kd.C_alloc ?_ _) | (with_reducible refine Kd.C_drewN ?_ _) | (with_reducible refine Kd.C_drew ?_))); (case side2 => exact (Kd.S_reads' HO876.out).2.1); (case side3 => repeat (first | exact (Kd.S_reads' HO888.out).2.2 | (with_reducible refine Kd.C_alloc ?_ _) | (with_reducible refine Kd.C_drewN ?_ _) | (with_reducible refine Kd.C_drew ?_))); (case side4 => exact (Kd.S_reads' HO888.out).2.1); rintro e w51 ⟨rfl, hb⟩; refine ⟨_, rfl, ?_⟩; have n0_ := Aside0.mk (Kd.S_below (by (with_reducible repeat (first | apply Kd.S_alloc | apply Kd.S_drewN | apply Kd.S_drew)); exact HO865.out) hb); have n1_ := Aside0.mk (Kd.R_below (by (with_reducible repeat (first | apply Kd.R_alloc | apply Kd.R_drewN | apply Kd.R_drew)); exact HO868.out) hb); have n2_ := Aside0.mk (Kd.R_below (by (with_reducible repeat (first | apply Kd.R_alloc | apply Kd.R_drewN | apply Kd.R_drew)); exact HO871.out) hb); have n3_ := Aside0.mk (Kd.S_below (by (with_reducible repeat (first | apply Kd.S_alloc | apply Kd.S_drewN | apply Kd.S_drew)); exact HO876.out) hb); have n4_ := Aside0.mk (Kd.R_below (by (with_reducible repeat (first | apply Kd.R_alloc | apply Kd.R_drewN | apply Kd.R_drew)); exact HO879.out) hb); have n5_ := Aside0.mk (Kd.R_below (by (with_reducible repeat (first | apply Kd.R_alloc | apply Kd.R_drewN | apply Kd.R_drew)); exact HO882.out) hb); have n6_ := Aside0.mk (Kd.S_below (by (with_reducible repeat (first | apply Kd.S_alloc | apply Kd.S_drewN | apply Kd.S_drew)); exact HO888.out) hb); have n7_ := Aside0.mk (blk_below (g := gb860) (o := .cells #[.slice A2_0 l2_0.length c2_0, .slice A2_1 l2_1.length c2_1] 74 (0, 0)) (by (with_reducible repeat (first | refine blk_drewN ?_ _ | refine blk_drew ?_ | refine blk_alloc ?_ _)); exact BK860.out) hb); have n8_ := Aside0.mk (blk_below (g := gb883) (o := .cells #[.slice Ao43 t877.length co43, .slice Ao46 t880.length co46] 77 (0, 0)) (by (with_reducible repeat (first | refine blk_drewN ?_ _ | refine blk_drew ?_ | refine blk_alloc ?_ _)); exact BK883.out) hb); have n9_ := Aside0.mk (below_step (by repeat (first | (with_reducible first | exact HB.out | apply below_alloc | apply pw_below_drewN | apply below_drew1 | refine below_set ?_ GE860.out | refine below_set ?_ GE883.out) | exact HB.out)) hb); clear HO865; clear HO868; clear HO871; clear HO876; clear HO879; clear HO882; clear HO888; clear BK860; clear BK883; clear HB; have HO865 := n0_; have HO868 := n1_; have HO871 := n2_; have HO876 := n3_; have HO879 := n4_; have HO882 := n5_; have HO888 := n6_; have BK860 := n7_; have BK883 := n8_; have HB := n9_; clear n0_ n1_ n2_ n3_ n4_ n5_ n6_ n7_ n8_ n9_; (try clear hb); (try clear hb2); (try clear hk); (try clear hi)))
              have n0_ := Aside0.mk (Kd.S_drew HO865.out)
              have n1_ := Aside0.mk (Kd.R_drew HO868.out)
              have n2_ := Aside0.mk (Kd.R_drew HO871.out)
              have n3_ := Aside0.mk (Kd.S_drew HO876.out)
              have n4_ := Aside0.mk (Kd.R_drew HO879.out)
              have n5_ := Aside0.mk (Kd.R_drew HO882.out)
              have n6_ := Aside0.mk (Kd.S_drew HO888.out)
              have n7_ := Aside0.mk (blk_drew BK860.out)
              have n8_ := Aside0.mk (blk_drew BK883.out)
              have n9_ := Aside0.mk (below_drew1 HB.out)
              clear HO865
              clear HO868
              clear HO871
              clear HO876
              clear HO879
              clear HO882
              clear HO888
              clear BK860
              clear BK883
              clear HB
              have HO865 := n0_
              have HO868 := n1_
              have HO871 := n2_
              have HO876 := n3_
              have HO879 := n4_
              have HO882 := n5_
              have HO888 := n6_
              have BK860 := n7_
              have BK883 := n8_
              have HB := n9_
              clear n0_ n1_ n2_ n3_ n4_ n5_ n6_ n7_ n8_ n9_
              refine start_ (n := 5) (S := fun w' => w'.cell? ⟨gb883, 0, none⟩ = some (.slice Ao43 t877.length co43) ∧ w'.cell? ⟨gb883, 1, none⟩ = some (.slice Ao46 t880.length co46) ∧ w'.cell? ⟨gb860, 0, none⟩ = some (.slice A2_0 l2_0.length c2_0) ∧ w'.cell? ⟨gb860, 1, none⟩ = some (.slice A2_1 l2_1.length c2_1)) (ds := []) #[false, false, false, false, false] (by kernel_rfl) rfl rfl ⟨(blk_cell BK883.out 0).trans rfl, (blk_cell BK883.out 1).trans rfl, (blk_cell BK860.out 0).trans rfl, (blk_cell BK860.out 1).trans rfl⟩ (fun hHeld => ?_)
              generalize w51.drew = w52 at HO865 HO868 HO871 HO876 HO879 HO882 HO888 BK860 BK883 HB hHeld ⊢
              refine take_ (i := 0) (N := some 57) (v := ?_) (a' := ?_) #[true, false, false, false, false] rfl rfl (by kernel_rfl) (fun _ _ _ h => h) (Or.inl ⟨by rfl, ?_⟩) hHeld ?_ ?_
              rotate_left
              · rintro w' ⟨s0, s1, s2, s3⟩
                go_simp
                with_reducible rfl
              rotate_left
              · simp only [Act.put, List.setIfInBounds_toArray, List.set_cons_zero, List.set_cons_succ, i64_w, i32_w]
                rfl
              refine take_ (i := 1) (N := some 58) (v := ?_) (a' := ?_) #[true, true, false, false, false] rfl rfl (by kernel_rfl) (fun _ _ _ h => h) (Or.inl ⟨by rfl, ?_⟩) hHeld ?_ ?_
              rotate_left
              · rintro w' ⟨s0, s1, s2, s3⟩
                go_simp
                with_reducible rfl
              rotate_left
              · simp only [Act.put, List.setIfInBounds_toArray, List.set_cons_zero, List.set_cons_succ, i64_w, i32_w]
                rfl
              refine one_ (i := 2) (N := some 59) #[true, true, true, false, false] rfl rfl (by kernel_rfl) (by decide) (fun K hK => ?_)
              refine goes_ Try.func47 (by kernel_rfl) rfl #[.agg #[.slice A2_0 l2_0.length c2_0, .slice A2_1 l2_1.length c2_1]] (by rfl) rfl rfl (by (try simp only [List.map_toArray, List.map_cons, List.map_nil]); first | done | rfl | (simp only [List.length_drop, List.length_take]; rfl)) ?_
              with_reducible refine (laws_toDepend.calls k _ _ l2_0 _ _ l2_1 t890 t893 _ ?side1 ?side2 ?side3 ?side4 A25.out).mono ?_
              (case side1 => repeat (first | exact (Kd.C_below HR2_0.out HB.out) | (with_reducible refine Kd.C_alloc ?_ _) | (with_reducible refine Kd.C_drewN ?_ _) | (with_reducible refine Kd.C_drew ?_)))
              (case side2 => exact HC2_0.out)
              (case side3 => repeat (first | exact (Kd.C_below HR2_1.out HB.out) | (with_reducible refine Kd.C_alloc ?_ _) | (with_reducible refine Kd.C_drewN ?_ _) | (with_reducible refine Kd.C_drew ?_)))
              (case side4 => exact HC2_1.out)
              rintro e w53 ⟨v891, v894, rfl, ho0, ho1, hb⟩
              refine ⟨_, rfl, ?_⟩
              have n0_ := Aside0.mk (Kd.S_mono (Kd.S_told (Kd.S_told (Kd.S_old (by (with_reducible repeat (first | apply Kd.S_alloc | apply Kd.S_drewN | apply Kd.S_drew)); exact HO865.out) hb) (Kd.R_base ho0)) (Kd.R_base ho1)) (fun _ h_ => h_.1))
              have n1_ := Aside0.mk (Kd.R_mono (Kd.R_told (Kd.R_told (Kd.R_old (by (with_reducible repeat (first | apply Kd.R_alloc | apply Kd.R_drewN | apply Kd.R_drew)); exact HO868.out) hb) (Kd.R_base ho0)) (Kd.R_base ho1)) (fun _ h_ => h_.1))
              have n2_ := Aside0.mk (Kd.R_mono (Kd.R_told (Kd.R_told (Kd.R_old (by (with_reducible repeat (first | apply Kd.R_alloc | apply Kd.R_drewN | apply Kd.R_drew)); exact HO871.out) hb) (Kd.R_base ho0)) (Kd.R_base ho1)) (fun _ h_ => h_.1))
              have n3_ := Aside0.mk (Kd.S_mono (Kd.S_told (Kd.S_told (Kd.S_old (by (with_reducible repeat (first | apply Kd.S_alloc | apply Kd.S_drewN | apply Kd.S_drew)); exact HO876.out) hb) (Kd.R_base ho0)) (Kd.R_base ho1)) (fun _ h_ => h_.1))
              have n4_ := Aside0.mk (Kd.R_mono (Kd.R_told (Kd.R_told (Kd.R_old (by (with_reducible repeat (first | apply Kd.R_alloc | apply Kd.R_drewN | apply Kd.R_drew)); exact HO879.out) hb) (Kd.R_base ho0)) (Kd.R_base ho1)) (fun _ h_ => h_.1))
              have n5_ := Aside0.mk (Kd.R_mono (Kd.R_told (Kd.R_told (Kd.R_old (by (with_reducible repeat (first | apply Kd.R_alloc | apply Kd.R_drewN | apply Kd.R_drew)); exact HO882.out) hb) (Kd.R_base ho0)) (Kd.R_base ho1)) (fun _ h_ => h_.1))
              have n6_ := Aside0.mk (Kd.S_mono (Kd.S_told (Kd.S_told (Kd.S_old (by (with_reducible repeat (first | apply Kd.S_alloc | apply Kd.S_drewN | apply Kd.S_drew)); exact HO888.out) hb) (Kd.R_base ho0)) (Kd.R_base ho1)) (fun _ h_ => h_.1))
              have n7_ := Aside0.mk (Kd.R_lower (Kd.R_new' (Kd.R_new' (Kd.R_new' (Kd.R_new' ho0 (Kd.R_lt (by (with_reducible repeat (first | apply Kd.R_alloc | apply Kd.R_drewN | apply Kd.R_drew)); exact HO868.out))) (Kd.R_lt (by (with_reducible repeat (first | apply Kd.R_alloc | apply Kd.R_drewN | apply Kd.R_drew)); exact HO871.out))) (Kd.R_lt (by (with_reducible repeat (first | apply Kd.R_alloc | apply Kd.R_drewN | apply Kd.R_drew)); exact HO879.out))) (Kd.R_lt (by (with_reducible repeat (first | apply Kd.R_alloc | apply Kd.R_drewN | apply Kd.R_drew)); exact HO882.out))) (below_size (by repeat (first | (with_reducible first | exact HB.out | apply below_alloc | apply pw_below_drewN | apply below_drew1 | refine below_set ?_ GE860.out | refine below_set ?_ GE883.out) | exact HB.out))))
              have n8_ := Aside0.mk (Kd.R_lower (Kd.R_new' (Kd.R_new' (Kd.R_new' (Kd.R_new' ho1 (Kd.R_lt (by (with_reducible repeat (first | apply Kd.R_alloc | apply Kd.R_drewN | apply Kd.R_drew)); exact HO868.out))) (Kd.R_lt (by (with_reducible repeat (first | apply Kd.R_alloc | apply Kd.R_drewN | apply Kd.R_drew)); exact HO871.out))) (Kd.R_lt (by (with_reducible repeat (first | apply Kd.R_alloc | apply Kd.R_drewN | apply Kd.R_drew)); exact HO879.out))) (Kd.R_lt (by (with_reducible repeat (first | apply Kd.R_alloc | apply Kd.R_drewN | apply Kd.R_drew)); exact HO882.out))) (below_size (by repeat (first | (with_reducible first | exact HB.out | apply below_alloc | apply pw_below_drewN | apply below_drew1 | refine below_set ?_ GE860.out | refine below_set ?_ GE883.out) | exact HB.out))))
              have n9_ := Aside0.mk (blk_below (g := gb860) (o := .cells #[.slice A2_0 l2_0.length c2_0, .slice A2_1 l2_1.length c2_1] 74 (0, 0)) (by (with_reducible repeat (first | refine blk_drewN ?_ _ | refine blk_drew ?_ | refine blk_alloc ?_ _)); exact BK860.out) hb)
              have n10_ := Aside0.mk (blk_below (g := gb883) (o := .cells #[.slice Ao43 t877.length co43, .slice Ao46 t880.length co46] 77 (0, 0)) (by (with_reducible repeat (first | refine blk_drewN ?_ _ | refine blk_drew ?_ | refine blk_alloc ?_ _)); exact BK883.out) hb)
              have n11_ := Aside0.mk (below_step (by repeat (first | (with_reducible first | exact HB.out | apply below_alloc | apply pw_below_drewN | apply below_drew1 | refine below_set ?_ GE860.out | refine below_set ?_ GE883.out) | exact HB.out)) hb)
              clear HO865
              clear HO868
              clear HO871
              clear HO876
              clear HO879
              clear HO882
              clear HO888
              clear BK860
              clear BK883
              clear HB
              have HO865 := n0_
              have HO868 := n1_
              have HO871 := n2_
              have HO876 := n3_
              have HO879 := n4_
              have HO882 := n5_
              have HO888 := n6_
              have HO892 := n7_
              have HO895 := n8_
              have BK860 := n9_
              have BK883 := n10_
              have HB := n11_
              clear n0_ n1_ n2_ n3_ n4_ n5_ n6_ n7_ n8_ n9_ n10_ n11_
              (try clear hb)
              (try clear hb2)
              (try clear hk)
              (try clear hi)
              (try clear ho0)
              (try clear ho1)
              obtain ⟨Ao54, co54, eo54⟩ := Kd.R_slice HO892.out
              (first | subst eo54 | (injection eo54 with f1_ f2_ f3_; have f4_ := f1_.symm; have f5_ := f3_.symm; clear f1_ f2_ f3_; subst f4_; subst f5_))
              obtain ⟨Ao55, co55, eo55⟩ := Kd.R_slice HO895.out
              (first | subst eo55 | (injection eo55 with f1_ f2_ f3_; have f4_ := f1_.symm; have f5_ := f3_.symm; clear f1_ f2_ f3_; subst f4_; subst f5_))
              refine hK.out _ _ ⟨(blk_cell BK883.out 0).trans rfl, (blk_cell BK883.out 1).trans rfl, (blk_cell BK860.out 0).trans rfl, (blk_cell BK860.out 1).trans rfl⟩ (fun hHeld => ?_)
              clear hK K
              refine norm_ (a' := ?_) ?_ ?_
              rotate_left
              · show Act.put _ (some 59) _ = _
                simp only [Act.put, List.setIfInBounds_toArray, List.set_cons_zero, List.set_cons_succ, i64_w, i32_w]
                rfl
              refine one_ (i := 3) (N := some 60) #[true, true, true, true, false] rfl rfl (by kernel_rfl) (by decide) (fun K hK => ?_)
              refine goes_ Try.func49 (by kernel_rfl) rfl #[.agg #[.slice Ao43 t877.length co43, .slice Ao46 t880.length co46], .agg #[.slice Ao54 t890.length co54, .slice Ao55 t893.length co55]] (by rfl) rfl rfl (by (try simp only [List.map_toArray, List.map_cons, List.map_nil]); first | done | rfl | (simp only [List.length_drop, List.length_take]; rfl)) ?_
              with_reducible refine (laws_eqDepend.calls k _ _ t877 _ _ t880 _ _ t890 _ _ t893 true _ ?side1 ?side2 ?side3 ?side4 ?side5 ?side6 ?side7 ?side8 A26.out).mono ?_
              (case side1 => repeat (first | exact (Kd.R_reads' HO879.out).2.2 | (with_reducible refine Kd.C_alloc ?_ _) | (with_reducible refine Kd.C_drewN ?_ _) | (with_reducible refine Kd.C_drew ?_)))
              (case side2 => exact (Kd.R_reads' HO879.out).2.1)
              (case side3 => repeat (first | exact (Kd.R_reads' HO882.out).2.2 | (with_reducible refine Kd.C_alloc ?_ _) | (with_reducible refine Kd.C_drewN ?_ _) | (with_reducible refine Kd.C_drew ?_)))
              (case side4 => exact (Kd.R_reads' HO882.out).2.1)
              (case side5 => repeat (first | exact (Kd.R_reads' HO892.out).2.2 | (with_reducible refine Kd.C_alloc ?_ _) | (with_reducible refine Kd.C_drewN ?_ _) | (with_reducible refine Kd.C_drew ?_)))
              (case side6 => exact (Kd.R_reads' HO892.out).2.1)
              (case side7 => repeat (first | exact (Kd.R_reads' HO895.out).2.2 | (with_reducible refine Kd.C_alloc ?_ _) | (with_reducible refine Kd.C_drewN ?_ _) | (with_reducible refine Kd.C_drew ?_)))
              (case side8 => exact (Kd.R_reads' HO895.out).2.1)
              rintro e w56 ⟨rfl, hb⟩
              refine ⟨_, rfl, ?_⟩
              have n0_ := Aside0.mk (Kd.S_below (by (with_reducible repeat (first | apply Kd.S_alloc | apply Kd.S_drewN | apply Kd.S_drew)); exact HO865.out) hb)
              have n1_ := Aside0.mk (Kd.R_below (by (with_reducible repeat (first | apply Kd.R_alloc | apply Kd.R_drewN | apply Kd.R_drew)); exact HO868.out) hb)
              have n2_ := Aside0.mk (Kd.R_below (by (with_reducible repeat (first | apply Kd.R_alloc | apply Kd.R_drewN | apply Kd.R_drew)); exact HO871.out) hb)
              have n3_ := Aside0.mk (Kd.S_below (by (with_reducible repeat (first | apply Kd.S_alloc | apply Kd.S_drewN | apply Kd.S_drew)); exact HO876.out) hb)
              have n4_ := Aside0.mk (Kd.R_below (by (with_reducible repeat (first | apply Kd.R_alloc | apply Kd.R_drewN | apply Kd.R_drew)); exact HO879.out) hb)
              have n5_ := Aside0.mk (Kd.R_below (by (with_reducible repeat (first | apply Kd.R_alloc | apply Kd.R_drewN | apply Kd.R_drew)); exact HO882.out) hb)
              have n6_ := Aside0.mk (Kd.S_below (by (with_reducible repeat (first | apply Kd.S_alloc | apply Kd.S_drewN | apply Kd.S_drew)); exact HO888.out) hb)
              have n7_ := Aside0.mk (Kd.R_below (by (with_reducible repeat (first | apply Kd.R_alloc | apply Kd.R_drewN | apply Kd.R_drew)); exact HO892.out) hb)
              have n8_ := Aside0.mk (Kd.R_below (by (with_reducible repeat (first | apply Kd.R_alloc | apply Kd.R_drewN | apply Kd.R_drew)); exact HO895.out) hb)
              have n9_ := Aside0.mk (blk_below (g := gb860) (o := .cells #[.slice A2_0 l2_0.length c2_0, .slice A2_1 l2_1.length c2_1] 74 (0, 0)) (by (with_reducible repeat (first | refine blk_drewN ?_ _ | refine blk_drew ?_ | refine blk_alloc ?_ _)); exact BK860.out) hb)
              have n10_ := Aside0.mk (blk_below (g := gb883) (o := .cells #[.slice Ao43 t877.length co43, .slice Ao46 t880.length co46] 77 (0, 0)) (by (with_reducible repeat (first | refine blk_drewN ?_ _ | refine blk_drew ?_ | refine blk_alloc ?_ _)); exact BK883.out) hb)
              have n11_ := Aside0.mk (below_step (by repeat (first | (with_reducible first | exact HB.out | apply below_alloc | apply pw_below_drewN | apply below_drew1 | refine below_set ?_ GE860.out | refine below_set ?_ GE883.out) | exact HB.out)) hb)
              clear HO865
              clear HO868
              clear HO871
              clear HO876
              clear HO879
              clear HO882
              clear HO888
              clear HO892
              clear HO895
              clear BK860
              clear BK883
              clear HB
              have HO865 := n0_
              have HO868 := n1_
              have HO871 := n2_
              have HO876 := n3_
              have HO879 := n4_
              have HO882 := n5_
              have HO888 := n6_
              have HO892 := n7_
              have HO895 := n8_
              have BK860 := n9_
              have BK883 := n10_
              have HB := n11_
              clear n0_ n1_ n2_ n3_ n4_ n5_ n6_ n7_ n8_ n9_ n10_ n11_
              (try clear hb)
              (try clear hb2)
              (try clear hk)
              (try clear hi)
              refine hK.out _ _ ⟨(blk_cell BK883.out 0).trans rfl, (blk_cell BK883.out 1).trans rfl, (blk_cell BK860.out 0).trans rfl, (blk_cell BK860.out 1).trans rfl⟩ (fun hHeld => ?_)
              clear hK K
              refine norm_ (a' := ?_) ?_ ?_
              rotate_left
              · show Act.put _ (some 60) _ = _
                simp only [Act.put, List.setIfInBounds_toArray, List.set_cons_zero, List.set_cons_succ, i64_w, i32_w]
                rfl
              refine pure_ (i := 4) (N := some 61) (v := ?_) (a' := ?_) #[true, true, true, true, true] rfl rfl (by kernel_rfl) (fun _ _ _ h => h) (Or.inl ⟨by rfl, ?_⟩) ?_ ?_
              rotate_left
              · intro w'
                go_simp
                with_reducible rfl
              rotate_left
              · simp only [Act.put, List.setIfInBounds_toArray, List.set_cons_zero, List.set_cons_succ, i64_w, i32_w]
                rfl
              refine done_ (by kernel_rfl) ?_
              try go_wp2
              go_ret
              exact ⟨by first | rfl | (simp [errW_none, errW_some] <;> rfl) | (simp [*, errW_none, errW_some] <;> rfl), by repeat (first | (with_reducible first | exact HB.out | apply below_alloc | apply pw_below_drewN | apply below_drew1 | refine below_set ?_ GE860.out | refine below_set ?_ GE883.out) | exact HB.out)⟩
            · replace c27 := Bool.eq_false_iff.mpr c27
              subst c27
              have H1 : (some false) = some true := by first | (with_reducible rfl) | (rw [if_neg (show ¬ (false = true) by decide)] at H; exact H)
              clear H
              have H := H1
              clear H1
              exact absurd H (by simp)
          · replace c24 := Bool.eq_false_iff.mpr c24
            subst c24
            have H1 : (some false) = some true := by first | (with_reducible rfl) | (rw [if_neg (show ¬ (false = true) by decide)] at H; exact H)
            clear H
            have H := H1
            clear H1
            exact absurd H (by simp)

/-- THE ONE PURE STATEMENT of laws_FnExactImplies. -/
def laws_FnExactImplies.Pure : Prop := ∀ x0 : List (S74), (x0.length ≤ 9223372036854775807 ∧ ∀ x0_ ∈ x0, wf74 x0_) → ∀ x1 : Int, (-9223372036854775808 ≤ x1 ∧ x1 ≤ 9223372036854775807) → ∀ x2 : S74, wf74 x2 → ∃ k, laws_FnExactImplies.f k x0 x1 x2.f0 x2.f1 = some true

end Go.Proofs.Ytfbomhedhfkcpaa.G
