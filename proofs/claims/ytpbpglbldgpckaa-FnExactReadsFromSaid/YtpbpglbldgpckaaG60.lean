/- Written by a program of this claim's own, out of the translation: functions of the program as plain functions, and that the calls answer as these. No conditions. -/
import Derived.Test.YtpbpglbldgpckaaG0
import Derived.Test.YtpbpglbldgpckaaG4
import Derived.Test.YtpbpglbldgpckaaG5
import Derived.Test.YtpbpglbldgpckaaG14
import Derived.Test.YtpbpglbldgpckaaG19
import Derived.Test.YtpbpglbldgpckaaG22
import Derived.Test.YtpbpglbldgpckaaG58
import Derived.Test.YtpbpglbldgpckaaG59
namespace Go.Proofs.Ytpbpglbldgpckaa.G
open Go.RowKit Go.Proofs.Ytpbpglbldgpckaa.X Go.Proofs.YtpbpglbldgpckaaW.PrintWords Go.Proofs.YtpbpglbldgpckaaW.PrintLast Go.Proofs.YtpbpglbldgpckaaW.PrintMore
attribute [local go_sem] max2_int min2_int max_two min_two max_three min_three max_four min_four   -- for this text's walks alone
set_option linter.unusedVariables false
set_option linter.unusedSimpArgs false

/-! ### laws_FnExactReadsFrom: function 12 -/
def laws_FnExactReadsFrom.f (k : Nat) (l0 : List (S114)) : Option (Bool) := (laws_szStepS.f l0 1048576).bind fun t936 => (if t936 < 0 then (some true) else ((laws_toStepS.f k l0).bind fun t937 => ((spec_ReadsFrom.f k t937).bind fun bt940 => ((laws_toStepS.f k l0).bind fun t947 => ((impl_ReadsFrom.f k t947).bind fun bt950 => ((laws_eqSourceS.f k bt950.1 bt940.1).bind fun t957 => (if t957 = true then ((laws_eqIntS.f k bt950.2.1 bt940.2.1).bind fun t958 => (if t958 = true then (if (bt950.2.2 != bt940.2.2) = true then (some false) else ((laws_toStepS.f k l0).bind fun t959 => ((laws_eqStepS.f k t947 t959).bind fun t962 => (if t962 = true then ((laws_markStepS.f k t947 1).bind fun bt963 => (if bt963.1 < 0 then (some false) else ((laws_eqSourceS.f k bt950.1 bt940.1).bind fun t965 => (if t965 = true then ((laws_eqIntS.f k bt950.2.1 bt940.2.1).bind fun t966 => (if t966 = true then ((laws_markSourceS.f k bt950.1 1).bind fun bt967 => ((laws_markIntS.f k bt950.2.1 bt967.1).bind fun bt969 => ((laws_heldSourceS.f k bt967.2 1).bind fun t971 => (if t971 < 0 then (some false) else ((laws_heldIntS.f k bt969.2 t971).bind fun t972 => (if t972 < 0 then (some false) else (if t972 = bt969.1 then ((laws_toStepS.f k l0).bind fun t973 => ((impl_ReadsFrom.f k t973).bind fun bt976 => ((laws_eqSourceS.f k bt976.1 bt940.1).bind fun t983 => (if t983 = true then ((laws_eqIntS.f k bt976.2.1 bt940.2.1).bind fun t984 => (if t984 = true then (if (bt976.2.2 != bt940.2.2) = true then (some false) else ((laws_heldSourceS.f k bt967.2 1).bind fun t985 => (if t985 < 0 then (some false) else ((laws_heldIntS.f k bt969.2 t985).bind fun t986 => (if t986 < 0 then (some false) else (if t986 = bt969.1 then (some true) else (some false))))))) else (some false))) else (some false))))) else (some false)))))))) else (some false))) else (some false))))) else (some false))))) else (some false))) else (some false))))))))
theorem laws_FnExactReadsFrom.mono : ∀ a0 k, LeO (laws_FnExactReadsFrom.f k a0) (laws_FnExactReadsFrom.f (k + 1) a0) := by
 intro a0 k
 unfold laws_FnExactReadsFrom.f
 repeat' first
   | (with_reducible exact impl_ReadsFrom.mono _ _)
   | (with_reducible exact laws_eqIntS.mono _ _ _)
   | (with_reducible exact laws_eqSourceS.mono _ _ _)
   | (with_reducible exact laws_eqStepS.mono _ _ _)
   | (with_reducible exact laws_heldIntS.mono _ _ _)
   | (with_reducible exact laws_heldSourceS.mono _ _ _)
   | (with_reducible exact laws_markIntS.mono _ _ _)
   | (with_reducible exact laws_markSourceS.mono _ _ _)
   | (with_reducible exact laws_markStepS.mono _ _ _)
   | (with_reducible exact laws_toStepS.mono _ _)
   | (with_reducible exact spec_ReadsFrom.mono _ _)
   | (with_reducible exact LeO.refl _)
   | (with_reducible exact LeO.none _)
   | (with_reducible refine LeO.ite ?_ ?_)
   | (with_reducible refine LeO.bind ?_ (fun _ => ?_))
   | exact impl_ReadsFrom.mono _ _
   | exact laws_eqIntS.mono _ _ _
   | exact laws_eqSourceS.mono _ _ _
   | exact laws_eqStepS.mono _ _ _
   | exact laws_heldIntS.mono _ _ _
   | exact laws_heldSourceS.mono _ _ _
   | exact laws_markIntS.mono _ _ _
   | exact laws_markSourceS.mono _ _ _
   | exact laws_markStepS.mono _ _ _
   | exact laws_toStepS.mono _ _
   | exact spec_ReadsFrom.mono _ _
   | exact LeO.none _
   | refine LeO.ite ?_ ?_
   | refine LeO.bind ?_ (fun _ => ?_)
set_option maxHeartbeats 8000000 in
set_option maxRecDepth 100000 in
theorem laws_FnExactReadsFrom.calls (k : Nat) (A0 : Option Addr) (c0 : Nat) (l0 : List (S114)) (w : World) (hr0 : Kd.C k114 w A0 l0.length l0) (hc0 : l0.length ≤ c0) (h : laws_FnExactReadsFrom.f k l0 = some true) :
  Calls Try.prog 12 #[.slice A0 l0.length c0] w fun e w' => e = .returned (.bool true) ∧ Below w.heap.size w w' := by
 have HR0 := xm hr0
 have HC0 := xm hc0
 clear hr0 hc0
 have HB := xm (Below.refl w.heap.size w)
 have H : ((laws_szStepS.f l0 1048576).bind fun t936 => (if t936 < 0 then (some true) else ((laws_toStepS.f k l0).bind fun t937 => ((spec_ReadsFrom.f k t937).bind fun bt940 => ((laws_toStepS.f k l0).bind fun t947 => ((impl_ReadsFrom.f k t947).bind fun bt950 => ((laws_eqSourceS.f k bt950.1 bt940.1).bind fun t957 => (if t957 = true then ((laws_eqIntS.f k bt950.2.1 bt940.2.1).bind fun t958 => (if t958 = true then (if (bt950.2.2 != bt940.2.2) = true then (some false) else ((laws_toStepS.f k l0).bind fun t959 => ((laws_eqStepS.f k t947 t959).bind fun t962 => (if t962 = true then ((laws_markStepS.f k t947 1).bind fun bt963 => (if bt963.1 < 0 then (some false) else ((laws_eqSourceS.f k bt950.1 bt940.1).bind fun t965 => (if t965 = true then ((laws_eqIntS.f k bt950.2.1 bt940.2.1).bind fun t966 => (if t966 = true then ((laws_markSourceS.f k bt950.1 1).bind fun bt967 => ((laws_markIntS.f k bt950.2.1 bt967.1).bind fun bt969 => ((laws_heldSourceS.f k bt967.2 1).bind fun t971 => (if t971 < 0 then (some false) else ((laws_heldIntS.f k bt969.2 t971).bind fun t972 => (if t972 < 0 then (some false) else (if t972 = bt969.1 then ((laws_toStepS.f k l0).bind fun t973 => ((impl_ReadsFrom.f k t973).bind fun bt976 => ((laws_eqSourceS.f k bt976.1 bt940.1).bind fun t983 => (if t983 = true then ((laws_eqIntS.f k bt976.2.1 bt940.2.1).bind fun t984 => (if t984 = true then (if (bt976.2.2 != bt940.2.2) = true then (some false) else ((laws_heldSourceS.f k bt967.2 1).bind fun t985 => (if t985 < 0 then (some false) else ((laws_heldIntS.f k bt969.2 t985).bind fun t986 => (if t986 < 0 then (some false) else (if t986 = bt969.1 then (some true) else (some false))))))) else (some false))) else (some false))))) else (some false)))))))) else (some false))) else (some false))))) else (some false))))) else (some false))) else (some false))))))))) = some true := h
 clear h
 replace H := Option.bind_eq_some_iff.mp H
 obtain ⟨t936, A20, H⟩ := H
 (try dsimp only at H)
 have A2 := xm A20
 clear A20
 by_cases c3 : t936 < 0
 ·rw [if_pos c3] at H
  have c3b0 : decide (t936 < 0) = true := decide_eq_true c3
  clear c3
  clear H
  go_enter Try.func12, Try.ntmps12
  go_wp2_with (first | ((with_reducible refine gate_callee (f := 18) rfl ?_); refine goesL_ (some 19) rfl rfl Try.func18 (by kernel_rfl) rfl #[.slice A0 l0.length c0, .int .i64 1048576] rfl (by (try simp only [List.map_toArray, List.map_cons, List.map_nil]); first | done | rfl | (simp only [List.length_drop, List.length_take]; rfl)) ?_; (with_reducible refine (laws_szStepS.calls _ _ l0 1048576 t936 _ ?side1 ?side2 A2.out).mono ?_); (case side1 => repeat (first | exact HR0.out | (with_reducible refine Kd.C_alloc ?_ _) | (with_reducible refine Kd.C_drewN ?_ _) | (with_reducible refine Kd.C_drew ?_))); (case side2 => exact HC0.out); rintro e w' ⟨rfl, ⟨nd, rfl⟩⟩; refine ⟨_, rfl, ?_⟩))
  go_ret
  exact ⟨by first | rfl | (simp [errW_none, errW_some] <;> rfl) | (simp [*, errW_none, errW_some] <;> rfl), by repeat (first | (with_reducible first | exact HB.out | apply xa | apply xn | apply xd) | exact HB.out)⟩
 ·rw [if_neg c3] at H
  have c3b0 : decide (t936 < 0) = false := decide_eq_false c3
  clear c3
  replace H := Option.bind_eq_some_iff.mp H
  obtain ⟨t937, A40, H⟩ := H
  (try dsimp only at H)
  have A4 := xm A40
  clear A40
  replace H := Option.bind_eq_some_iff.mp H
  obtain ⟨⟨t940, t941, t942⟩, A50, H⟩ := H
  (try dsimp only at H)
  have A5 := xm A50
  clear A50
  replace H := Option.bind_eq_some_iff.mp H
  obtain ⟨t947, A60, H⟩ := H
  (try dsimp only at H)
  have A6 := xm A60
  clear A60
  replace H := Option.bind_eq_some_iff.mp H
  obtain ⟨⟨t950, t951, t952⟩, A70, H⟩ := H
  (try dsimp only at H)
  have A7 := xm A70
  clear A70
  replace H := Option.bind_eq_some_iff.mp H
  obtain ⟨t957, A80, H⟩ := H
  (try dsimp only at H)
  have A8 := xm A80
  clear A80
  by_cases c9 : t957 = true
  ·subst c9
   have H1 : ((laws_eqIntS.f k t951 t941).bind fun t958 => (if t958 = true then (if (t952 != t942) = true then (some false) else ((laws_toStepS.f k l0).bind fun t959 => ((laws_eqStepS.f k t947 t959).bind fun t962 => (if t962 = true then ((laws_markStepS.f k t947 1).bind fun bt963 => (if bt963.1 < 0 then (some false) else ((laws_eqSourceS.f k t950 t940).bind fun t965 => (if t965 = true then ((laws_eqIntS.f k t951 t941).bind fun t966 => (if t966 = true then ((laws_markSourceS.f k t950 1).bind fun bt967 => ((laws_markIntS.f k t951 bt967.1).bind fun bt969 => ((laws_heldSourceS.f k bt967.2 1).bind fun t971 => (if t971 < 0 then (some false) else ((laws_heldIntS.f k bt969.2 t971).bind fun t972 => (if t972 < 0 then (some false) else (if t972 = bt969.1 then ((laws_toStepS.f k l0).bind fun t973 => ((impl_ReadsFrom.f k t973).bind fun bt976 => ((laws_eqSourceS.f k bt976.1 t940).bind fun t983 => (if t983 = true then ((laws_eqIntS.f k bt976.2.1 t941).bind fun t984 => (if t984 = true then (if (bt976.2.2 != t942) = true then (some false) else ((laws_heldSourceS.f k bt967.2 1).bind fun t985 => (if t985 < 0 then (some false) else ((laws_heldIntS.f k bt969.2 t985).bind fun t986 => (if t986 < 0 then (some false) else (if t986 = bt969.1 then (some true) else (some false))))))) else (some false))) else (some false))))) else (some false)))))))) else (some false))) else (some false))))) else (some false))))) else (some false))) = some true := by first | (with_reducible rfl) | (rw [if_pos rfl] at H; exact H)
   clear H
   have H := H1
   clear H1
   replace H := Option.bind_eq_some_iff.mp H
   obtain ⟨t958, A100, H⟩ := H
   (try dsimp only at H)
   have A10 := xm A100
   clear A100
   by_cases c11 : t958 = true
   ·subst c11
    have H1 : (if (t952 != t942) = true then (some false) else ((laws_toStepS.f k l0).bind fun t959 => ((laws_eqStepS.f k t947 t959).bind fun t962 => (if t962 = true then ((laws_markStepS.f k t947 1).bind fun bt963 => (if bt963.1 < 0 then (some false) else ((laws_eqSourceS.f k t950 t940).bind fun t965 => (if t965 = true then ((laws_eqIntS.f k t951 t941).bind fun t966 => (if t966 = true then ((laws_markSourceS.f k t950 1).bind fun bt967 => ((laws_markIntS.f k t951 bt967.1).bind fun bt969 => ((laws_heldSourceS.f k bt967.2 1).bind fun t971 => (if t971 < 0 then (some false) else ((laws_heldIntS.f k bt969.2 t971).bind fun t972 => (if t972 < 0 then (some false) else (if t972 = bt969.1 then ((laws_toStepS.f k l0).bind fun t973 => ((impl_ReadsFrom.f k t973).bind fun bt976 => ((laws_eqSourceS.f k bt976.1 t940).bind fun t983 => (if t983 = true then ((laws_eqIntS.f k bt976.2.1 t941).bind fun t984 => (if t984 = true then (if (bt976.2.2 != t942) = true then (some false) else ((laws_heldSourceS.f k bt967.2 1).bind fun t985 => (if t985 < 0 then (some false) else ((laws_heldIntS.f k bt969.2 t985).bind fun t986 => (if t986 < 0 then (some false) else (if t986 = bt969.1 then (some true) else (some false))))))) else (some false))) else (some false))))) else (some false)))))))) else (some false))) else (some false))))) else (some false))))) = some true := by first | (with_reducible rfl) | (rw [if_pos rfl] at H; exact H)
    clear H
    have H := H1
    clear H1
    by_cases c12 : (t952 != t942) = true
    ·rw [if_pos c12] at H
     have c12b0 : (t952 != t942) = true := c12
     (try (have c12b1 : decide (t952 = t942) = false := by simpa using c12))
     (try (have c12b2 : (t952 == t942) = false := by simpa using c12))
     (try (have c12b3 : ¬ (t952 = t942) := by simpa using c12))
     clear c12
     exact absurd H (by simp)
    ·rw [if_neg c12] at H
     have c12b0 : (t952 != t942) = false := by simpa using c12
     (try (have c12b1 : decide (t952 = t942) = true := by simpa using c12))
     (try (have c12b2 : (t952 == t942) = true := by simpa using c12))
     clear c12
     replace H := Option.bind_eq_some_iff.mp H
     obtain ⟨t959, A130, H⟩ := H
     (try dsimp only at H)
     have A13 := xm A130
     clear A130
     replace H := Option.bind_eq_some_iff.mp H
     obtain ⟨t962, A140, H⟩ := H
     (try dsimp only at H)
     have A14 := xm A140
     clear A140
     by_cases c15 : t962 = true
     ·subst c15
      have H1 : ((laws_markStepS.f k t947 1).bind fun bt963 => (if bt963.1 < 0 then (some false) else ((laws_eqSourceS.f k t950 t940).bind fun t965 => (if t965 = true then ((laws_eqIntS.f k t951 t941).bind fun t966 => (if t966 = true then ((laws_markSourceS.f k t950 1).bind fun bt967 => ((laws_markIntS.f k t951 bt967.1).bind fun bt969 => ((laws_heldSourceS.f k bt967.2 1).bind fun t971 => (if t971 < 0 then (some false) else ((laws_heldIntS.f k bt969.2 t971).bind fun t972 => (if t972 < 0 then (some false) else (if t972 = bt969.1 then ((laws_toStepS.f k l0).bind fun t973 => ((impl_ReadsFrom.f k t973).bind fun bt976 => ((laws_eqSourceS.f k bt976.1 t940).bind fun t983 => (if t983 = true then ((laws_eqIntS.f k bt976.2.1 t941).bind fun t984 => (if t984 = true then (if (bt976.2.2 != t942) = true then (some false) else ((laws_heldSourceS.f k bt967.2 1).bind fun t985 => (if t985 < 0 then (some false) else ((laws_heldIntS.f k bt969.2 t985).bind fun t986 => (if t986 < 0 then (some false) else (if t986 = bt969.1 then (some true) else (some false))))))) else (some false))) else (some false))))) else (some false)))))))) else (some false))) else (some false))))) = some true := by first | (with_reducible rfl) | (rw [if_pos rfl] at H; exact H)
      clear H
      have H := H1
      clear H1
      replace H := Option.bind_eq_some_iff.mp H
      obtain ⟨⟨t963, t964⟩, A160, H⟩ := H
      (try dsimp only at H)
      have A16 := xm A160
      clear A160
      by_cases c17 : t963 < 0
      ·rw [if_pos c17] at H
       have c17b0 : decide (t963 < 0) = true := decide_eq_true c17
       clear c17
       exact absurd H (by simp)
      ·rw [if_neg c17] at H
       have c17b0 : decide (t963 < 0) = false := decide_eq_false c17
       clear c17
       replace H := Option.bind_eq_some_iff.mp H
       obtain ⟨t965, A180, H⟩ := H
       (try dsimp only at H)
       have A18 := xm A180
       clear A180
       by_cases c19 : t965 = true
       ·subst c19
        have H1 : ((laws_eqIntS.f k t951 t941).bind fun t966 => (if t966 = true then ((laws_markSourceS.f k t950 1).bind fun bt967 => ((laws_markIntS.f k t951 bt967.1).bind fun bt969 => ((laws_heldSourceS.f k bt967.2 1).bind fun t971 => (if t971 < 0 then (some false) else ((laws_heldIntS.f k bt969.2 t971).bind fun t972 => (if t972 < 0 then (some false) else (if t972 = bt969.1 then ((laws_toStepS.f k l0).bind fun t973 => ((impl_ReadsFrom.f k t973).bind fun bt976 => ((laws_eqSourceS.f k bt976.1 t940).bind fun t983 => (if t983 = true then ((laws_eqIntS.f k bt976.2.1 t941).bind fun t984 => (if t984 = true then (if (bt976.2.2 != t942) = true then (some false) else ((laws_heldSourceS.f k bt967.2 1).bind fun t985 => (if t985 < 0 then (some false) else ((laws_heldIntS.f k bt969.2 t985).bind fun t986 => (if t986 < 0 then (some false) else (if t986 = bt969.1 then (some true) else (some false))))))) else (some false))) else (some false))))) else (some false)))))))) else (some false))) = some true := by first | (with_reducible rfl) | (rw [if_pos rfl] at H; exact H)
        clear H
        have H := H1
        clear H1
        replace H := Option.bind_eq_some_iff.mp H
        obtain ⟨t966, A200, H⟩ := H
        (try dsimp only at H)
        have A20 := xm A200
        clear A200
        by_cases c21 : t966 = true
        ·subst c21
         have H1 : ((laws_markSourceS.f k t950 1).bind fun bt967 => ((laws_markIntS.f k t951 bt967.1).bind fun bt969 => ((laws_heldSourceS.f k bt967.2 1).bind fun t971 => (if t971 < 0 then (some false) else ((laws_heldIntS.f k bt969.2 t971).bind fun t972 => (if t972 < 0 then (some false) else (if t972 = bt969.1 then ((laws_toStepS.f k l0).bind fun t973 => ((impl_ReadsFrom.f k t973).bind fun bt976 => ((laws_eqSourceS.f k bt976.1 t940).bind fun t983 => (if t983 = true then ((laws_eqIntS.f k bt976.2.1 t941).bind fun t984 => (if t984 = true then (if (bt976.2.2 != t942) = true then (some false) else ((laws_heldSourceS.f k bt967.2 1).bind fun t985 => (if t985 < 0 then (some false) else ((laws_heldIntS.f k bt969.2 t985).bind fun t986 => (if t986 < 0 then (some false) else (if t986 = bt969.1 then (some true) else (some false))))))) else (some false))) else (some false))))) else (some false)))))))) = some true := by first | (with_reducible rfl) | (rw [if_pos rfl] at H; exact H)
         clear H
         have H := H1
         clear H1
         replace H := Option.bind_eq_some_iff.mp H
         obtain ⟨⟨t967, t968⟩, A220, H⟩ := H
         (try dsimp only at H)
         have A22 := xm A220
         clear A220
         replace H := Option.bind_eq_some_iff.mp H
         obtain ⟨⟨t969, t970⟩, A230, H⟩ := H
         (try dsimp only at H)
         have A23 := xm A230
         clear A230
         replace H := Option.bind_eq_some_iff.mp H
         obtain ⟨t971, A240, H⟩ := H
         (try dsimp only at H)
         have A24 := xm A240
         clear A240
         by_cases c25 : t971 < 0
         ·rw [if_pos c25] at H
          have c25b0 : decide (t971 < 0) = true := decide_eq_true c25
          clear c25
          exact absurd H (by simp)
         ·rw [if_neg c25] at H
          have c25b0 : decide (t971 < 0) = false := decide_eq_false c25
          clear c25
          replace H := Option.bind_eq_some_iff.mp H
          obtain ⟨t972, A260, H⟩ := H
          (try dsimp only at H)
          have A26 := xm A260
          clear A260
          by_cases c27 : t972 < 0
          ·rw [if_pos c27] at H
           have c27b0 : decide (t972 < 0) = true := decide_eq_true c27
           clear c27
           exact absurd H (by simp)
          ·rw [if_neg c27] at H
           have c27b0 : decide (t972 < 0) = false := decide_eq_false c27
           clear c27
           by_cases c28 : t972 = t969
           ·rw [if_pos c28] at H
            have c28b0 : (t972 == t969) = true := beq_iff_eq.mpr c28
            have c28b1 : (t972 != t969) = false := bne_eq_false_iff_eq.mpr c28
            clear c28
            replace H := Option.bind_eq_some_iff.mp H
            obtain ⟨t973, A290, H⟩ := H
            (try dsimp only at H)
            have A29 := xm A290
            clear A290
            replace H := Option.bind_eq_some_iff.mp H
            obtain ⟨⟨t976, t977, t978⟩, A300, H⟩ := H
            (try dsimp only at H)
            have A30 := xm A300
            clear A300
            replace H := Option.bind_eq_some_iff.mp H
            obtain ⟨t983, A310, H⟩ := H
            (try dsimp only at H)
            have A31 := xm A310
            clear A310
            by_cases c32 : t983 = true
            ·subst c32
             have H1 : ((laws_eqIntS.f k t977 t941).bind fun t984 => (if t984 = true then (if (t978 != t942) = true then (some false) else ((laws_heldSourceS.f k t968 1).bind fun t985 => (if t985 < 0 then (some false) else ((laws_heldIntS.f k t970 t985).bind fun t986 => (if t986 < 0 then (some false) else (if t986 = t969 then (some true) else (some false))))))) else (some false))) = some true := by first | (with_reducible rfl) | (rw [if_pos rfl] at H; exact H)
             clear H
             have H := H1
             clear H1
             replace H := Option.bind_eq_some_iff.mp H
             obtain ⟨t984, A330, H⟩ := H
             (try dsimp only at H)
             have A33 := xm A330
             clear A330
             by_cases c34 : t984 = true
             ·subst c34
              have H1 : (if (t978 != t942) = true then (some false) else ((laws_heldSourceS.f k t968 1).bind fun t985 => (if t985 < 0 then (some false) else ((laws_heldIntS.f k t970 t985).bind fun t986 => (if t986 < 0 then (some false) else (if t986 = t969 then (some true) else (some false))))))) = some true := by first | (with_reducible rfl) | (rw [if_pos rfl] at H; exact H)
              clear H
              have H := H1
              clear H1
              by_cases c35 : (t978 != t942) = true
              ·rw [if_pos c35] at H
               have c35b0 : (t978 != t942) = true := c35
               (try (have c35b1 : decide (t978 = t942) = false := by simpa using c35))
               (try (have c35b2 : (t978 == t942) = false := by simpa using c35))
               (try (have c35b3 : ¬ (t978 = t942) := by simpa using c35))
               clear c35
               exact absurd H (by simp)
              ·rw [if_neg c35] at H
               have c35b0 : (t978 != t942) = false := by simpa using c35
               (try (have c35b1 : decide (t978 = t942) = true := by simpa using c35))
               (try (have c35b2 : (t978 == t942) = true := by simpa using c35))
               clear c35
               replace H := Option.bind_eq_some_iff.mp H
               obtain ⟨t985, A360, H⟩ := H
               (try dsimp only at H)
               have A36 := xm A360
               clear A360
               by_cases c37 : t985 < 0
               ·rw [if_pos c37] at H
                have c37b0 : decide (t985 < 0) = true := decide_eq_true c37
                clear c37
                exact absurd H (by simp)
               ·rw [if_neg c37] at H
                have c37b0 : decide (t985 < 0) = false := decide_eq_false c37
                clear c37
                replace H := Option.bind_eq_some_iff.mp H
                obtain ⟨t986, A380, H⟩ := H
                (try dsimp only at H)
                have A38 := xm A380
                clear A380
                by_cases c39 : t986 < 0
                ·rw [if_pos c39] at H
                 have c39b0 : decide (t986 < 0) = true := decide_eq_true c39
                 clear c39
                 exact absurd H (by simp)
                ·rw [if_neg c39] at H
                 have c39b0 : decide (t986 < 0) = false := decide_eq_false c39
                 clear c39
                 by_cases c40 : t986 = t969
                 ·rw [if_pos c40] at H
                  have c40b0 : (t986 == t969) = true := beq_iff_eq.mpr c40
                  have c40b1 : (t986 != t969) = false := bne_eq_false_iff_eq.mpr c40
                  clear c40
                  clear H
                  go_enter Try.func12, Try.ntmps12
                  go_wp2_with (first | ((with_reducible refine gate_callee (f := 18) rfl ?_); refine goesL_ (some 19) rfl rfl Try.func18 (by kernel_rfl) rfl #[.slice A0 l0.length c0, .int .i64 1048576] rfl (by (try simp only [List.map_toArray, List.map_cons, List.map_nil]); first | done | rfl | (simp only [List.length_drop, List.length_take]; rfl)) ?_; (with_reducible refine (laws_szStepS.calls _ _ l0 1048576 t936 _ ?side1 ?side2 A2.out).mono ?_); (case side1 => repeat (first | exact HR0.out | (with_reducible refine Kd.C_alloc ?_ _) | (with_reducible refine Kd.C_drewN ?_ _) | (with_reducible refine Kd.C_drew ?_))); (case side2 => exact HC0.out); rintro e w' ⟨rfl, ⟨nd, rfl⟩⟩; refine ⟨_, rfl, ?_⟩) | ((with_reducible refine gate_callee (f := 20) rfl ?_); refine goesL_ (some 24) rfl rfl Try.func20 (by kernel_rfl) rfl #[.slice A0 l0.length c0] rfl (by (try simp only [List.map_toArray, List.map_cons, List.map_nil]); first | done | rfl | (simp only [List.length_drop, List.length_take]; rfl)) ?_; (with_reducible refine (laws_toStepS.calls k _ _ l0 t937 _ ?side1 ?side2 A4.out).mono ?_); (case side1 => repeat (first | exact HR0.out | (with_reducible refine Kd.C_alloc ?_ _) | (with_reducible refine Kd.C_drewN ?_ _) | (with_reducible refine Kd.C_drew ?_))); (case side2 => exact HC0.out); rintro e w41 ⟨v938, rfl, ho0, hb⟩; refine ⟨_, rfl, ?_⟩; have n0_ := xm (Kd.R_lower ho0 (xz (by repeat (first | (with_reducible first | exact HB.out | apply xa | apply xn | apply xd) | exact HB.out)))); have n1_ := xm (below_step (by repeat (first | (with_reducible first | exact HB.out | apply xa | apply xn | apply xd) | exact HB.out)) hb); clear HB; have HO939 := n0_; have HB := n1_; clear n0_ n1_; (try clear hb); (try clear hb2); (try clear hk); (try clear hi); (try clear ho0); obtain ⟨Ao42, co42, eo42⟩ := Kd.R_slice HO939.out; subst eo42) | ((with_reducible refine gate_callee (f := 63) rfl ?_); refine goesL_ (some 25) rfl rfl Try.func63 (by kernel_rfl) rfl #[.slice Ao42 t937.length co42] rfl (by (try simp only [List.map_toArray, List.map_cons, List.map_nil]); first | done | rfl | (simp only [List.length_drop, List.length_take]; rfl)) ?_; (with_reducible refine (spec_ReadsFrom.calls k _ _ t937 t940 t941 t942 _ ?side1 ?side2 A5.out).mono ?_); (case side1 => repeat (first | exact (Kd.R_reads' HO939.out).2.2 | (with_reducible refine Kd.C_alloc ?_ _) | (with_reducible refine Kd.C_drewN ?_ _) | (with_reducible refine Kd.C_drew ?_))); (case side2 => exact (Kd.R_reads' HO939.out).2.1); rintro e w43 ⟨v943, v945, rfl, ho0, ho1, hb⟩; refine ⟨_, rfl, ?_⟩; have n0_ := xm (Kd.R_below (by (with_reducible repeat (first | apply Kd.R_alloc | apply Kd.R_drewN | apply Kd.R_drew)); exact HO939.out) hb); have n1_ := xm (Kd.R_lower ho0 (xz (by repeat (first | (with_reducible first | exact HB.out | apply xa | apply xn | apply xd) | exact HB.out)))); have n2_ := xm (Kd.R_lower ho1 (xz (by repeat (first | (with_reducible first | exact HB.out | apply xa | apply xn | apply xd) | exact HB.out)))); have n3_ := xm (below_step (by repeat (first | (with_reducible first | exact HB.out | apply xa | apply xn | apply xd) | exact HB.out)) hb); clear HO939; clear HB; have HO939 := n0_; have HO944 := n1_; have HO946 := n2_; have HB := n3_; clear n0_ n1_ n2_ n3_; (try clear hb); (try clear hb2); (try clear hk); (try clear hi); (try clear ho0); (try clear ho1)) | ((with_reducible refine gate_callee (f := 20) rfl ?_); refine goesL_ (some 30) rfl rfl Try.func20 (by kernel_rfl) rfl #[.slice A0 l0.length c0] rfl (by (try simp only [List.map_toArray, List.map_cons, List.map_nil]); first | done | rfl | (simp only [List.length_drop, List.length_take]; rfl)) ?_; (with_reducible refine (laws_toStepS.calls k _ _ l0 t947 _ ?side1 ?side2 A6.out).mono ?_); (case side1 => repeat (first | exact (Kd.C_below HR0.out HB.out) | (with_reducible refine Kd.C_alloc ?_ _) | (with_reducible refine Kd.C_drewN ?_ _) | (with_reducible refine Kd.C_drew ?_))); (case side2 => exact HC0.out); rintro e w44 ⟨v948, rfl, ho0, hb⟩; refine ⟨_, rfl, ?_⟩; have n0_ := xm (Kd.R_elder' (by (with_reducible repeat (first | apply Kd.R_alloc | apply Kd.R_drewN | apply Kd.R_drew)); exact HO939.out) (Kd.R_base ho0) hb); have n1_ := xm (Kd.R_below (by (with_reducible repeat (first | apply Kd.R_alloc | apply Kd.R_drewN | apply Kd.R_drew)); exact HO944.out) hb); have n2_ := xm (Kd.R_below (by (with_reducible repeat (first | apply Kd.R_alloc | apply Kd.R_drewN | apply Kd.R_drew)); exact HO946.out) hb); have n3_ := xm (Kd.R_lower (Kd.R_new' ho0 (Kd.R_lt (by (with_reducible repeat (first | apply Kd.R_alloc | apply Kd.R_drewN | apply Kd.R_drew)); exact HO939.out))) (xz (by repeat (first | (with_reducible first | exact HB.out | apply xa | apply xn | apply xd) | exact HB.out)))); have n4_ := xm (below_step (by repeat (first | (with_reducible first | exact HB.out | apply xa | apply xn | apply xd) | exact HB.out)) hb); clear HO939; clear HO944; clear HO946; clear HB; have HO939 := n0_; have HO944 := n1_; have HO946 := n2_; have HO949 := n3_; have HB := n4_; clear n0_ n1_ n2_ n3_ n4_; (try clear hb); (try clear hb2); (try clear hk); (try clear hi); (try clear ho0); obtain ⟨Ao45, co45, eo45⟩ := Kd.R_slice HO949.out; subst eo45) | ((with_reducible refine gate_callee (f := 64) rfl ?_); refine goesL_ (some 33) rfl rfl Try.func64 (by kernel_rfl) rfl #[.slice Ao45 t947.length co45] rfl (by (try simp only [List.map_toArray, List.map_cons, List.map_nil]); first | done | rfl | (simp only [List.length_drop, List.length_take]; rfl)) ?_; (with_reducible refine (impl_ReadsFrom.calls k _ _ t947 t950 t951 t952 _ ?side1 ?side2 A7.out).mono ?_); (case side1 => repeat (first | exact (Kd.R_reads' HO949.out).2.2 | (with_reducible refine Kd.C_alloc ?_ _) | (with_reducible refine Kd.C_drewN ?_ _) | (with_reducible refine Kd.C_drew ?_))); (case side2 => exact (Kd.R_reads' HO949.out).2.1); rintro e w46 ⟨v953, v955, rfl, ho0, ho1, hb⟩; refine ⟨_, rfl, ?_⟩; have n0_ := xm (Kd.R_below (by (with_reducible repeat (first | apply Kd.R_alloc | apply Kd.R_drewN | apply Kd.R_drew)); exact HO939.out) hb); have n1_ := xm (Kd.R_elder' (by (with_reducible repeat (first | apply Kd.R_alloc | apply Kd.R_drewN | apply Kd.R_drew)); exact HO944.out) (Kd.R_base ho0) hb); have n2_ := xm (Kd.R_elder' (by (with_reducible repeat (first | apply Kd.R_alloc | apply Kd.R_drewN | apply Kd.R_drew)); exact HO946.out) (Kd.R_base ho1) hb); have n3_ := xm (Kd.R_below (by (with_reducible repeat (first | apply Kd.R_alloc | apply Kd.R_drewN | apply Kd.R_drew)); exact HO949.out) hb); have n4_ := xm (Kd.R_lower (Kd.R_new' ho0 (Kd.R_lt (by (with_reducible repeat (first | apply Kd.R_alloc | apply Kd.R_drewN | apply Kd.R_drew)); exact HO944.out))) (xz (by repeat (first | (with_reducible first | exact HB.out | apply xa | apply xn | apply xd) | exact HB.out)))); have n5_ := xm (Kd.R_lower (Kd.R_new' ho1 (Kd.R_lt (by (with_reducible repeat (first | apply Kd.R_alloc | apply Kd.R_drewN | apply Kd.R_drew)); exact HO946.out))) (xz (by repeat (first | (with_reducible first | exact HB.out | apply xa | apply xn | apply xd) | exact HB.out)))); have n6_ := xm (below_step (by repeat (first | (with_reducible first | exact HB.out | apply xa | apply xn | apply xd) | exact HB.out)) hb); clear HO939; clear HO944; clear HO946; clear HO949; clear HB; have HO939 := n0_; have HO944 := n1_; have HO946 := n2_; have HO949 := n3_; have HO954 := n4_; have HO956 := n5_; have HB := n6_; clear n0_ n1_ n2_ n3_ n4_ n5_ n6_; (try clear hb); (try clear hb2); (try clear hk); (try clear hi); (try clear ho0); (try clear ho1); obtain ⟨Ao47, co47, eo47⟩ := Kd.R_slice HO954.out; subst eo47; obtain ⟨Ao48, co48, eo48⟩ := Kd.R_slice HO944.out; subst eo48) | ((with_reducible refine gate_callee (f := 65) rfl ?_); refine goesL_ (some 39) rfl rfl Try.func65 (by kernel_rfl) rfl #[.slice Ao47 t950.length co47, .slice Ao48 t940.length co48] rfl (by (try simp only [List.map_toArray, List.map_cons, List.map_nil]); first | done | rfl | (simp only [List.length_drop, List.length_take]; rfl)) ?_; (with_reducible refine (laws_eqSourceS.calls k _ _ t950 _ _ t940 true _ ?side1 ?side2 ?side3 ?side4 A8.out).mono ?_); (case side1 => repeat (first | exact (Kd.R_reads' HO954.out).2.2 | (with_reducible refine Kd.C_alloc ?_ _) | (with_reducible refine Kd.C_drewN ?_ _) | (with_reducible refine Kd.C_drew ?_))); (case side2 => exact (Kd.R_reads' HO954.out).2.1); (case side3 => repeat (first | exact (Kd.R_reads' HO944.out).2.2 | (with_reducible refine Kd.C_alloc ?_ _) | (with_reducible refine Kd.C_drewN ?_ _) | (with_reducible refine Kd.C_drew ?_))); (case side4 => exact (Kd.R_reads' HO944.out).2.1); rintro e w49 ⟨rfl, hb⟩; refine ⟨_, rfl, ?_⟩; have n0_ := xm (Kd.R_below (by (with_reducible repeat (first | apply Kd.R_alloc | apply Kd.R_drewN | apply Kd.R_drew)); exact HO939.out) hb); have n1_ := xm (Kd.R_below (by (with_reducible repeat (first | apply Kd.R_alloc | apply Kd.R_drewN | apply Kd.R_drew)); exact HO944.out) hb); have n2_ := xm (Kd.R_below (by (with_reducible repeat (first | apply Kd.R_alloc | apply Kd.R_drewN | apply Kd.R_drew)); exact HO946.out) hb); have n3_ := xm (Kd.R_below (by (with_reducible repeat (first | apply Kd.R_alloc | apply Kd.R_drewN | apply Kd.R_drew)); exact HO949.out) hb); have n4_ := xm (Kd.R_below (by (with_reducible repeat (first | apply Kd.R_alloc | apply Kd.R_drewN | apply Kd.R_drew)); exact HO954.out) hb); have n5_ := xm (Kd.R_below (by (with_reducible repeat (first | apply Kd.R_alloc | apply Kd.R_drewN | apply Kd.R_drew)); exact HO956.out) hb); have n6_ := xm (below_step (by repeat (first | (with_reducible first | exact HB.out | apply xa | apply xn | apply xd) | exact HB.out)) hb); clear HO939; clear HO944; clear HO946; clear HO949; clear HO954; clear HO956; clear HB; have HO939 := n0_; have HO944 := n1_; have HO946 := n2_; have HO949 := n3_; have HO954 := n4_; have HO956 := n5_; have HB := n6_; clear n0_ n1_ n2_ n3_ n4_ n5_ n6_; (try clear hb); (try clear hb2); (try clear hk); (try clear hi); obtain ⟨Ao50, co50, eo50⟩ := Kd.R_slice HO956.out; subst eo50; obtain ⟨Ao51, co51, eo51⟩ := Kd.R_slice HO946.out; subst eo51) | (go_at_call 29; (with_reducible refine (laws_eqIntS.calls k _ _ t951 _ _ t941 true _ ?side1 ?side2 ?side3 ?side4 A10.out).mono ?_); (case side1 => repeat (first | exact (Kd.R_reads' HO956.out).2.2 | (with_reducible refine Kd.C_alloc ?_ _) | (with_reducible refine Kd.C_drewN ?_ _) | (with_reducible refine Kd.C_drew ?_))); (case side2 => exact (Kd.R_reads' HO956.out).2.1); (case side3 => repeat (first | exact (Kd.R_reads' HO946.out).2.2 | (with_reducible refine Kd.C_alloc ?_ _) | (with_reducible refine Kd.C_drewN ?_ _) | (with_reducible refine Kd.C_drew ?_))); (case side4 => exact (Kd.R_reads' HO946.out).2.1); rintro e w' ⟨rfl, ⟨nd, rfl⟩⟩) | ((with_reducible refine gate_callee (f := 20) rfl ?_); refine goesL_ (some 54) rfl rfl Try.func20 (by kernel_rfl) rfl #[.slice A0 l0.length c0] rfl (by (try simp only [List.map_toArray, List.map_cons, List.map_nil]); first | done | rfl | (simp only [List.length_drop, List.length_take]; rfl)) ?_; (with_reducible refine (laws_toStepS.calls k _ _ l0 t959 _ ?side1 ?side2 A13.out).mono ?_); (case side1 => repeat (first | exact (Kd.C_below HR0.out (by repeat (first | (with_reducible first | exact HB.out | apply xa | apply xn | apply xd) | exact HB.out))) | (with_reducible refine Kd.C_alloc ?_ _) | (with_reducible refine Kd.C_drewN ?_ _) | (with_reducible refine Kd.C_drew ?_))); (case side2 => exact HC0.out); rintro e w52 ⟨v960, rfl, ho0, hb⟩; refine ⟨_, rfl, ?_⟩; have n0_ := xm (Kd.R_elder' (by (with_reducible repeat (first | apply Kd.R_alloc | apply Kd.R_drewN | apply Kd.R_drew)); exact HO939.out) (Kd.R_base ho0) hb); have n1_ := xm (Kd.R_below (by (with_reducible repeat (first | apply Kd.R_alloc | apply Kd.R_drewN | apply Kd.R_drew)); exact HO944.out) hb); have n2_ := xm (Kd.R_below (by (with_reducible repeat (first | apply Kd.R_alloc | apply Kd.R_drewN | apply Kd.R_drew)); exact HO946.out) hb); have n3_ := xm (Kd.R_elder' (by (with_reducible repeat (first | apply Kd.R_alloc | apply Kd.R_drewN | apply Kd.R_drew)); exact HO949.out) (Kd.R_base ho0) hb); have n4_ := xm (Kd.R_below (by (with_reducible repeat (first | apply Kd.R_alloc | apply Kd.R_drewN | apply Kd.R_drew)); exact HO954.out) hb); have n5_ := xm (Kd.R_below (by (with_reducible repeat (first | apply Kd.R_alloc | apply Kd.R_drewN | apply Kd.R_drew)); exact HO956.out) hb); have n6_ := xm (Kd.R_lower (Kd.R_new' (Kd.R_new' ho0 (Kd.R_lt (by (with_reducible repeat (first | apply Kd.R_alloc | apply Kd.R_drewN | apply Kd.R_drew)); exact HO939.out))) (Kd.R_lt (by (with_reducible repeat (first | apply Kd.R_alloc | apply Kd.R_drewN | apply Kd.R_drew)); exact HO949.out))) (xz (by repeat (first | (with_reducible first | exact HB.out | apply xa | apply xn | apply xd) | exact HB.out)))); have n7_ := xm (below_step (by repeat (first | (with_reducible first | exact HB.out | apply xa | apply xn | apply xd) | exact HB.out)) hb); clear HO939; clear HO944; clear HO946; clear HO949; clear HO954; clear HO956; clear HB; have HO939 := n0_; have HO944 := n1_; have HO946 := n2_; have HO949 := n3_; have HO954 := n4_; have HO956 := n5_; have HO961 := n6_; have HB := n7_; clear n0_ n1_ n2_ n3_ n4_ n5_ n6_ n7_; (try clear hb); (try clear hb2); (try clear hk); (try clear hi); (try clear ho0); obtain ⟨Ao53, co53, eo53⟩ := Kd.R_slice HO961.out; subst eo53) | ((with_reducible refine gate_callee (f := 22) rfl ?_); refine goesL_ (some 55) rfl rfl Try.func22 (by kernel_rfl) rfl #[.slice Ao45 t947.length co45, .slice Ao53 t959.length co53] rfl (by (try simp only [List.map_toArray, List.map_cons, List.map_nil]); first | done | rfl | (simp only [List.length_drop, List.length_take]; rfl)) ?_; (with_reducible refine (laws_eqStepS.calls k _ _ t947 _ _ t959 true _ ?side1 ?side2 ?side3 ?side4 A14.out).mono ?_); (case side1 => repeat (first | exact (Kd.R_reads' HO949.out).2.2 | (with_reducible refine Kd.C_alloc ?_ _) | (with_reducible refine Kd.C_drewN ?_ _) | (with_reducible refine Kd.C_drew ?_))); (case side2 => exact (Kd.R_reads' HO949.out).2.1); (case side3 => repeat (first | exact (Kd.R_reads' HO961.out).2.2 | (with_reducible refine Kd.C_alloc ?_ _) | (with_reducible refine Kd.C_drewN ?_ _) | (with_reducible refine Kd.C_drew ?_))); (case side4 => exact (Kd.R_reads' HO961.out).2.1); rintro e w54 ⟨rfl, hb⟩; refine ⟨_, rfl, ?_⟩; have n0_ := xm (Kd.R_below (by (with_reducible repeat (first | apply Kd.R_alloc | apply Kd.R_drewN | apply Kd.R_drew)); exact HO939.out) hb); have n1_ := xm (Kd.R_below (by (with_reducible repeat (first | apply Kd.R_alloc | apply Kd.R_drewN | apply Kd.R_drew)); exact HO944.out) hb); have n2_ := xm (Kd.R_below (by (with_reducible repeat (first | apply Kd.R_alloc | apply Kd.R_drewN | apply Kd.R_drew)); exact HO946.out) hb); have n3_ := xm (Kd.R_below (by (with_reducible repeat (first | apply Kd.R_alloc | apply Kd.R_drewN | apply Kd.R_drew)); exact HO949.out) hb); have n4_ := xm (Kd.R_below (by (with_reducible repeat (first | apply Kd.R_alloc | apply Kd.R_drewN | apply Kd.R_drew)); exact HO954.out) hb); have n5_ := xm (Kd.R_below (by (with_reducible repeat (first | apply Kd.R_alloc | apply Kd.R_drewN | apply Kd.R_drew)); exact HO956.out) hb); have n6_ := xm (Kd.R_below (by (with_reducible repeat (first | apply Kd.R_alloc | apply Kd.R_drewN | apply Kd.R_drew)); exact HO961.out) hb); have n7_ := xm (below_step (by repeat (first | (with_reducible first | exact HB.out | apply xa | apply xn | apply xd) | exact HB.out)) hb); clear HO939; clear HO944; clear HO946; clear HO949; clear HO954; clear HO956; clear HO961; clear HB; have HO939 := n0_; have HO944 := n1_; have HO946 := n2_; have HO949 := n3_; have HO954 := n4_; have HO956 := n5_; have HO961 := n6_; have HB := n7_; clear n0_ n1_ n2_ n3_ n4_ n5_ n6_ n7_; (try clear hb); (try clear hb2); (try clear hk); (try clear hi)) | ((with_reducible refine gate_callee (f := 23) rfl ?_); refine goesL_ (some 59) rfl rfl Try.func23 (by kernel_rfl) rfl #[.slice Ao45 t947.length co45, .int .i64 1] rfl (by (try simp only [List.map_toArray, List.map_cons, List.map_nil]); first | done | rfl | (simp only [List.length_drop, List.length_take]; rfl)) ?_; (with_reducible refine (laws_markStepS.calls k (fun k_ => some k_ = (.slice Ao45 t947.length co45 : Value).ownBlock) (.slice Ao45 t947.length co45) t947 1 t963 t964 w _ ?side1 ?side2 A16.out).mono ?_); (case side1 => repeat (first | (with_reducible first | exact HB.out | apply xa | apply xn | apply xd) | exact HB.out)); (case side2 => exact Kd.R_tight rfl HO949.out); rintro e w55 ⟨rfl, hy0, hb, hkp⟩; refine ⟨_, rfl, ?_⟩; have n0_ := xm (Kd.R_mono (ok' := fun k_ => some k_ ≠ (.slice Ao45 t947.length co45 : Value).ownBlock ∧ some k_ ≠ (.slice Ao53 t959.length co53 : Value).ownBlock) (Kd.R_keptB (HO939.out) hkp (fun k_ hk_ hs_ => (hk_.1.2) hs_)) (fun k_ hk_ => ⟨hk_.1.1.2, hk_.1.2⟩)); have n1_ := xm (Kd.R_mono (ok' := fun k_ => some k_ ≠ (.slice Ao47 t950.length co47 : Value).ownBlock) (Kd.R_keptB ((Kd.R_apart' HO944.out (Kd.R_typed HO949.out) (by decide))) hkp (fun k_ hk_ hs_ => (hk_.2) hs_)) (fun k_ hk_ => hk_.1.1.2)); have n2_ := xm (Kd.R_mono (ok' := fun k_ => some k_ ≠ (.slice Ao50 t951.length co50 : Value).ownBlock) (Kd.R_keptB ((Kd.R_apart' HO946.out (Kd.R_typed HO949.out) (by decide))) hkp (fun k_ hk_ hs_ => (hk_.2) hs_)) (fun k_ hk_ => hk_.1.1.2)); have n3_ := xm (Kd.R_reok rfl hy0 (fun k_ e_ => HO949.out.1 k_ e_)); have n4_ := xm (Kd.R_mono (ok' := fun k_ => some k_ ≠ (.slice Ao48 t940.length co48 : Value).ownBlock) (Kd.R_keptB ((Kd.R_apart' HO954.out (Kd.R_typed HO949.out) (by decide))) hkp (fun k_ hk_ hs_ => (hk_.2) hs_)) (fun k_ hk_ => hk_.1.1.2)); have n5_ := xm (Kd.R_mono (ok' := fun k_ => some k_ ≠ (.slice Ao51 t941.length co51 : Value).ownBlock) (Kd.R_keptB ((Kd.R_apart' HO956.out (Kd.R_typed HO949.out) (by decide))) hkp (fun k_ hk_ hs_ => (hk_.2) hs_)) (fun k_ hk_ => hk_.1.1.2)); have n6_ := xm (Kd.R_mono (ok' := fun k_ => some k_ ≠ (.slice Ao42 t937.length co42 : Value).ownBlock ∧ some k_ ≠ (.slice Ao45 t947.length co45 : Value).ownBlock) (Kd.R_keptB (HO961.out) hkp (fun k_ hk_ hs_ => (hk_.2) hs_)) (fun k_ hk_ => ⟨hk_.1.1.2, hk_.1.2⟩)); have n7_ := xm (hb); clear HO939; clear HO944; clear HO946; clear HO949; clear HO954; clear HO956; clear HO961; clear HB; have HO939 := n0_; have HO944 := n1_; have HO946 := n2_; have HO949 := n3_; have HO954 := n4_; have HO956 := n5_; have HO961 := n6_; have HB := n7_; clear n0_ n1_ n2_ n3_ n4_ n5_ n6_ n7_; (try clear hb); (try clear hkp); (try clear hy0)) | (go_at_call 65; (with_reducible refine (laws_eqSourceS.calls k _ _ t950 _ _ t940 true _ ?side1 ?side2 ?side3 ?side4 A18.out).mono ?_); (case side1 => repeat (first | exact (Kd.R_reads' HO954.out).2.2 | (with_reducible refine Kd.C_alloc ?_ _) | (with_reducible refine Kd.C_drewN ?_ _) | (with_reducible refine Kd.C_drew ?_))); (case side2 => exact (Kd.R_reads' HO954.out).2.1); (case side3 => repeat (first | exact (Kd.R_reads' HO944.out).2.2 | (with_reducible refine Kd.C_alloc ?_ _) | (with_reducible refine Kd.C_drewN ?_ _) | (with_reducible refine Kd.C_drew ?_))); (case side4 => exact (Kd.R_reads' HO944.out).2.1); rintro e w56 ⟨rfl, hb⟩; have n0_ := xm (Kd.R_below (by (with_reducible repeat (first | apply Kd.R_alloc | apply Kd.R_drewN | apply Kd.R_drew)); exact HO939.out) hb); have n1_ := xm (Kd.R_below (by (with_reducible repeat (first | apply Kd.R_alloc | apply Kd.R_drewN | apply Kd.R_drew)); exact HO944.out) hb); have n2_ := xm (Kd.R_below (by (with_reducible repeat (first | apply Kd.R_alloc | apply Kd.R_drewN | apply Kd.R_drew)); exact HO946.out) hb); have n3_ := xm (Kd.R_below (by (with_reducible repeat (first | apply Kd.R_alloc | apply Kd.R_drewN | apply Kd.R_drew)); exact HO949.out) hb); have n4_ := xm (Kd.R_below (by (with_reducible repeat (first | apply Kd.R_alloc | apply Kd.R_drewN | apply Kd.R_drew)); exact HO954.out) hb); have n5_ := xm (Kd.R_below (by (with_reducible repeat (first | apply Kd.R_alloc | apply Kd.R_drewN | apply Kd.R_drew)); exact HO956.out) hb); have n6_ := xm (Kd.R_below (by (with_reducible repeat (first | apply Kd.R_alloc | apply Kd.R_drewN | apply Kd.R_drew)); exact HO961.out) hb); have n7_ := xm (below_step (by repeat (first | (with_reducible first | exact HB.out | apply xa | apply xn | apply xd) | exact HB.out)) hb); clear HO939; clear HO944; clear HO946; clear HO949; clear HO954; clear HO956; clear HO961; clear HB; have HO939 := n0_; have HO944 := n1_; have HO946 := n2_; have HO949 := n3_; have HO954 := n4_; have HO956 := n5_; have HO961 := n6_; have HB := n7_; clear n0_ n1_ n2_ n3_ n4_ n5_ n6_ n7_; (try clear hb); (try clear hb2); (try clear hk); (try clear hi)) | (go_at_call 29; (with_reducible refine (laws_eqIntS.calls k _ _ t951 _ _ t941 true _ ?side1 ?side2 ?side3 ?side4 A20.out).mono ?_); (case side1 => repeat (first | exact (Kd.R_reads' HO956.out).2.2 | (with_reducible refine Kd.C_alloc ?_ _) | (with_reducible refine Kd.C_drewN ?_ _) | (with_reducible refine Kd.C_drew ?_))); (case side2 => exact (Kd.R_reads' HO956.out).2.1); (case side3 => repeat (first | exact (Kd.R_reads' HO946.out).2.2 | (with_reducible refine Kd.C_alloc ?_ _) | (with_reducible refine Kd.C_drewN ?_ _) | (with_reducible refine Kd.C_drew ?_))); (case side4 => exact (Kd.R_reads' HO946.out).2.1); rintro e w' ⟨rfl, ⟨nd, rfl⟩⟩) | ((with_reducible refine gate_callee (f := 66) rfl ?_); refine goesL_ (some 81) rfl rfl Try.func66 (by kernel_rfl) rfl #[.slice Ao47 t950.length co47, .int .i64 1] rfl (by (try simp only [List.map_toArray, List.map_cons, List.map_nil]); first | done | rfl | (simp only [List.length_drop, List.length_take]; rfl)) ?_; (with_reducible refine (laws_markSourceS.calls k (fun k_ => some k_ = (.slice Ao47 t950.length co47 : Value).ownBlock) (.slice Ao47 t950.length co47) t950 1 t967 t968 w _ ?side1 ?side2 A22.out).mono ?_); (case side1 => repeat (first | (with_reducible first | exact HB.out | apply xa | apply xn | apply xd) | exact HB.out)); (case side2 => exact Kd.R_tight rfl HO954.out); rintro e w57 ⟨rfl, hy0, hb, hkp⟩; refine ⟨_, rfl, ?_⟩; have n0_ := xm (Kd.R_mono (ok' := fun k_ => some k_ ≠ (.slice Ao45 t947.length co45 : Value).ownBlock ∧ some k_ ≠ (.slice Ao53 t959.length co53 : Value).ownBlock) (Kd.R_keptB ((Kd.R_apart' HO939.out (Kd.R_typed HO954.out) (by decide))) hkp (fun k_ hk_ hs_ => (hk_.2) hs_)) (fun k_ hk_ => ⟨hk_.1.1.1, hk_.1.1.2⟩)); have n1_ := xm (Kd.R_mono (ok' := fun k_ => some k_ ≠ (.slice Ao47 t950.length co47 : Value).ownBlock) (Kd.R_keptB (HO944.out) hkp (fun k_ hk_ hs_ => (hk_) hs_)) (fun k_ hk_ => hk_.1)); have n2_ := xm (Kd.R_mono (ok' := fun k_ => some k_ ≠ (.slice Ao50 t951.length co50 : Value).ownBlock) (Kd.R_keptB ((Kd.R_apart' HO946.out (Kd.R_typed HO954.out) (by decide))) hkp (fun k_ hk_ hs_ => (hk_.2) hs_)) (fun k_ hk_ => hk_.1.1)); have n3_ := xm (Kd.R_mono (ok' := fun k_ => some k_ ≠ (.slice Ao42 t937.length co42 : Value).ownBlock ∧ some k_ ≠ (.slice Ao53 t959.length co53 : Value).ownBlock) (Kd.R_keptB ((Kd.R_apart' HO949.out (Kd.R_typed HO954.out) (by decide))) hkp (fun k_ hk_ hs_ => (hk_.2) hs_)) (fun k_ hk_ => ⟨hk_.1.1.1.2, hk_.1.1.2⟩)); have n4_ := xm (Kd.R_reok rfl hy0 (fun k_ e_ => HO954.out.1 k_ e_)); have n5_ := xm (Kd.R_mono (ok' := fun k_ => some k_ ≠ (.slice Ao51 t941.length co51 : Value).ownBlock) (Kd.R_keptB ((Kd.R_apart' HO956.out (Kd.R_typed HO954.out) (by decide))) hkp (fun k_ hk_ hs_ => (hk_.2) hs_)) (fun k_ hk_ => hk_.1.1)); have n6_ := xm (Kd.R_mono (ok' := fun k_ => some k_ ≠ (.slice Ao42 t937.length co42 : Value).ownBlock ∧ some k_ ≠ (.slice Ao45 t947.length co45 : Value).ownBlock) (Kd.R_keptB ((Kd.R_apart' HO961.out (Kd.R_typed HO954.out) (by decide))) hkp (fun k_ hk_ hs_ => (hk_.2) hs_)) (fun k_ hk_ => ⟨hk_.1.1.1, hk_.1.1.2⟩)); have n7_ := xm (hb); clear HO939; clear HO944; clear HO946; clear HO949; clear HO954; clear HO956; clear HO961; clear HB; have HO939 := n0_; have HO944 := n1_; have HO946 := n2_; have HO949 := n3_; have HO954 := n4_; have HO956 := n5_; have HO961 := n6_; have HB := n7_; clear n0_ n1_ n2_ n3_ n4_ n5_ n6_ n7_; (try clear hb); (try clear hkp); (try clear hy0)) | ((with_reducible refine gate_callee (f := 30) rfl ?_); refine goesL_ (some 84) rfl rfl Try.func30 (by kernel_rfl) rfl #[.slice Ao50 t951.length co50, .int .i64 t967] rfl (by (try simp only [List.map_toArray, List.map_cons, List.map_nil]); first | done | rfl | (simp only [List.length_drop, List.length_take]; rfl)) ?_; (with_reducible refine (laws_markIntS.calls k (fun k_ => some k_ = (.slice Ao50 t951.length co50 : Value).ownBlock) (.slice Ao50 t951.length co50) t951 t967 t969 t970 w _ ?side1 ?side2 A23.out).mono ?_); (case side1 => repeat (first | (with_reducible first | exact HB.out | apply xa | apply xn | apply xd) | exact HB.out)); (case side2 => exact Kd.R_tight rfl HO956.out); rintro e w58 ⟨rfl, hy0, hb, hkp⟩; refine ⟨_, rfl, ?_⟩; have n0_ := xm (Kd.R_mono (ok' := fun k_ => some k_ ≠ (.slice Ao45 t947.length co45 : Value).ownBlock ∧ some k_ ≠ (.slice Ao53 t959.length co53 : Value).ownBlock) (Kd.R_keptB ((Kd.R_apart' HO939.out (Kd.R_typed HO956.out) (by decide))) hkp (fun k_ hk_ hs_ => (hk_.2) hs_)) (fun k_ hk_ => ⟨hk_.1.1.1, hk_.1.1.2⟩)); have n1_ := xm (Kd.R_mono (ok' := fun k_ => some k_ ≠ (.slice Ao47 t950.length co47 : Value).ownBlock) (Kd.R_keptB ((Kd.R_apart' HO944.out (Kd.R_typed HO956.out) (by decide))) hkp (fun k_ hk_ hs_ => (hk_.2) hs_)) (fun k_ hk_ => hk_.1.1)); have n2_ := xm (Kd.R_mono (ok' := fun k_ => some k_ ≠ (.slice Ao50 t951.length co50 : Value).ownBlock) (Kd.R_keptB (HO946.out) hkp (fun k_ hk_ hs_ => (hk_) hs_)) (fun k_ hk_ => hk_.1)); have n3_ := xm (Kd.R_mono (ok' := fun k_ => some k_ ≠ (.slice Ao42 t937.length co42 : Value).ownBlock ∧ some k_ ≠ (.slice Ao53 t959.length co53 : Value).ownBlock) (Kd.R_keptB ((Kd.R_apart' HO949.out (Kd.R_typed HO956.out) (by decide))) hkp (fun k_ hk_ hs_ => (hk_.2) hs_)) (fun k_ hk_ => ⟨hk_.1.1.1, hk_.1.1.2⟩)); have n4_ := xm (Kd.R_mono (ok' := fun k_ => some k_ ≠ (.slice Ao48 t940.length co48 : Value).ownBlock) (Kd.R_keptB ((Kd.R_apart' HO954.out (Kd.R_typed HO956.out) (by decide))) hkp (fun k_ hk_ hs_ => (hk_.2) hs_)) (fun k_ hk_ => hk_.1.1)); have n5_ := xm (Kd.R_reok rfl hy0 (fun k_ e_ => HO956.out.1 k_ e_)); have n6_ := xm (Kd.R_mono (ok' := fun k_ => some k_ ≠ (.slice Ao42 t937.length co42 : Value).ownBlock ∧ some k_ ≠ (.slice Ao45 t947.length co45 : Value).ownBlock) (Kd.R_keptB ((Kd.R_apart' HO961.out (Kd.R_typed HO956.out) (by decide))) hkp (fun k_ hk_ hs_ => (hk_.2) hs_)) (fun k_ hk_ => ⟨hk_.1.1.1, hk_.1.1.2⟩)); have n7_ := xm (hb); clear HO939; clear HO944; clear HO946; clear HO949; clear HO954; clear HO956; clear HO961; clear HB; have HO939 := n0_; have HO944 := n1_; have HO946 := n2_; have HO949 := n3_; have HO954 := n4_; have HO956 := n5_; have HO961 := n6_; have HB := n7_; clear n0_ n1_ n2_ n3_ n4_ n5_ n6_ n7_; (try clear hb); (try clear hkp); (try clear hy0)) | ((with_reducible refine gate_callee (f := 67) rfl ?_); refine goesL_ (some 87) rfl rfl Try.func67 (by kernel_rfl) rfl #[.slice Ao47 t968.length co47, .int .i64 1] rfl (by (try simp only [List.map_toArray, List.map_cons, List.map_nil]); first | done | (rw [show t968.length = t950.length from (Kd.R_reads' HO954.out).1.symm] <;> rfl) | rfl | (simp only [List.length_drop, List.length_take]; rfl)) ?_; (with_reducible refine (laws_heldSourceS.calls k _ _ t968 1 t971 _ ?side1 ?side2 A24.out).mono ?_); (case side1 => repeat (first | exact (Kd.R_reads' HO954.out).2.2 | (with_reducible refine Kd.C_alloc ?_ _) | (with_reducible refine Kd.C_drewN ?_ _) | (with_reducible refine Kd.C_drew ?_))); (case side2 => rw [show t968.length = t950.length from (Kd.R_reads' HO954.out).1.symm]; exact (Kd.R_reads' HO954.out).2.1); rintro e w' ⟨rfl, ⟨nd, rfl⟩⟩; refine ⟨_, rfl, ?_⟩) | ((with_reducible refine gate_callee (f := 62) rfl ?_); refine goesL_ (some 92) rfl rfl Try.func62 (by kernel_rfl) rfl #[.slice Ao50 t970.length co50, .int .i64 t971] rfl (by (try simp only [List.map_toArray, List.map_cons, List.map_nil]); first | done | (rw [show t970.length = t951.length from (Kd.R_reads' HO956.out).1.symm] <;> rfl) | rfl | (simp only [List.length_drop, List.length_take]; rfl)) ?_; (with_reducible refine (laws_heldIntS.calls k _ _ t970 t971 t972 _ ?side1 ?side2 A26.out).mono ?_); (case side1 => repeat (first | exact (Kd.R_reads' HO956.out).2.2 | (with_reducible refine Kd.C_alloc ?_ _) | (with_reducible refine Kd.C_drewN ?_ _) | (with_reducible refine Kd.C_drew ?_))); (case side2 => rw [show t970.length = t951.length from (Kd.R_reads' HO956.out).1.symm]; exact (Kd.R_reads' HO956.out).2.1); rintro e w' ⟨rfl, ⟨nd, rfl⟩⟩; refine ⟨_, rfl, ?_⟩) | ((with_reducible refine gate_callee (f := 20) rfl ?_); refine goesL_ (some 100) rfl rfl Try.func20 (by kernel_rfl) rfl #[.slice A0 l0.length c0] rfl (by (try simp only [List.map_toArray, List.map_cons, List.map_nil]); first | done | rfl | (simp only [List.length_drop, List.length_take]; rfl)) ?_; (with_reducible refine (laws_toStepS.calls k _ _ l0 t973 _ ?side1 ?side2 A29.out).mono ?_); (case side1 => repeat (first | exact (Kd.C_below HR0.out (by repeat (first | (with_reducible first | exact HB.out | apply xa | apply xn | apply xd) | exact HB.out))) | (with_reducible refine Kd.C_alloc ?_ _) | (with_reducible refine Kd.C_drewN ?_ _) | (with_reducible refine Kd.C_drew ?_))); (case side2 => exact HC0.out); rintro e w59 ⟨v974, rfl, ho0, hb⟩; refine ⟨_, rfl, ?_⟩; have n0_ := xm (Kd.R_elder' (by (with_reducible repeat (first | apply Kd.R_alloc | apply Kd.R_drewN | apply Kd.R_drew)); exact HO939.out) (Kd.R_base ho0) hb); have n1_ := xm (Kd.R_below (by (with_reducible repeat (first | apply Kd.R_alloc | apply Kd.R_drewN | apply Kd.R_drew)); exact HO944.out) hb); have n2_ := xm (Kd.R_below (by (with_reducible repeat (first | apply Kd.R_alloc | apply Kd.R_drewN | apply Kd.R_drew)); exact HO946.out) hb); have n3_ := xm (Kd.R_elder' (by (with_reducible repeat (first | apply Kd.R_alloc | apply Kd.R_drewN | apply Kd.R_drew)); exact HO949.out) (Kd.R_base ho0) hb); have n4_ := xm (Kd.R_below (by (with_reducible repeat (first | apply Kd.R_alloc | apply Kd.R_drewN | apply Kd.R_drew)); exact HO954.out) hb); have n5_ := xm (Kd.R_below (by (with_reducible repeat (first | apply Kd.R_alloc | apply Kd.R_drewN | apply Kd.R_drew)); exact HO956.out) hb); have n6_ := xm (Kd.R_elder' (by (with_reducible repeat (first | apply Kd.R_alloc | apply Kd.R_drewN | apply Kd.R_drew)); exact HO961.out) (Kd.R_base ho0) hb); have n7_ := xm (Kd.R_lower (Kd.R_new' (Kd.R_new' (Kd.R_new' ho0 (Kd.R_lt (by (with_reducible repeat (first | apply Kd.R_alloc | apply Kd.R_drewN | apply Kd.R_drew)); exact HO939.out))) (Kd.R_lt (by (with_reducible repeat (first | apply Kd.R_alloc | apply Kd.R_drewN | apply Kd.R_drew)); exact HO949.out))) (Kd.R_lt (by (with_reducible repeat (first | apply Kd.R_alloc | apply Kd.R_drewN | apply Kd.R_drew)); exact HO961.out))) (xz (by repeat (first | (with_reducible first | exact HB.out | apply xa | apply xn | apply xd) | exact HB.out)))); have n8_ := xm (below_step (by repeat (first | (with_reducible first | exact HB.out | apply xa | apply xn | apply xd) | exact HB.out)) hb); clear HO939; clear HO944; clear HO946; clear HO949; clear HO954; clear HO956; clear HO961; clear HB; have HO939 := n0_; have HO944 := n1_; have HO946 := n2_; have HO949 := n3_; have HO954 := n4_; have HO956 := n5_; have HO961 := n6_; have HO975 := n7_; have HB := n8_; clear n0_ n1_ n2_ n3_ n4_ n5_ n6_ n7_ n8_; (try clear hb); (try clear hb2); (try clear hk); (try clear hi); (try clear ho0); obtain ⟨Ao60, co60, eo60⟩ := Kd.R_slice HO975.out; subst eo60) | ((with_reducible refine gate_callee (f := 64) rfl ?_); refine goesL_ (some 101) rfl rfl Try.func64 (by kernel_rfl) rfl #[.slice Ao60 t973.length co60] rfl (by (try simp only [List.map_toArray, List.map_cons, List.map_nil]); first | done | rfl | (simp only [List.length_drop, List.length_take]; rfl)) ?_; (with_reducible refine (impl_ReadsFrom.calls k _ _ t973 t976 t977 t978 _ ?side1 ?side2 A30.out).mono ?_); (case side1 => repeat (first | exact (Kd.R_reads' HO975.out).2.2 | (with_reducible refine Kd.C_alloc ?_ _) | (with_reducible refine Kd.C_drewN ?_ _) | (with_reducible refine Kd.C_drew ?_))); (case side2 => exact (Kd.R_reads' HO975.out).2.1); rintro e w61 ⟨v979, v981, rfl, ho0, ho1, hb⟩; refine ⟨_, rfl, ?_⟩; have n0_ := xm (Kd.R_below (by (with_reducible repeat (first | apply Kd.R_alloc | apply Kd.R_drewN | apply Kd.R_drew)); exact HO939.out) hb); have n1_ := xm (Kd.R_elder' (by (with_reducible repeat (first | apply Kd.R_alloc | apply Kd.R_drewN | apply Kd.R_drew)); exact HO944.out) (Kd.R_base ho0) hb); have n2_ := xm (Kd.R_elder' (by (with_reducible repeat (first | apply Kd.R_alloc | apply Kd.R_drewN | apply Kd.R_drew)); exact HO946.out) (Kd.R_base ho1) hb); have n3_ := xm (Kd.R_below (by (with_reducible repeat (first | apply Kd.R_alloc | apply Kd.R_drewN | apply Kd.R_drew)); exact HO949.out) hb); have n4_ := xm (Kd.R_elder' (by (with_reducible repeat (first | apply Kd.R_alloc | apply Kd.R_drewN | apply Kd.R_drew)); exact HO954.out) (Kd.R_base ho0) hb); have n5_ := xm (Kd.R_elder' (by (with_reducible repeat (first | apply Kd.R_alloc | apply Kd.R_drewN | apply Kd.R_drew)); exact HO956.out) (Kd.R_base ho1) hb); have n6_ := xm (Kd.R_below (by (with_reducible repeat (first | apply Kd.R_alloc | apply Kd.R_drewN | apply Kd.R_drew)); exact HO961.out) hb); have n7_ := xm (Kd.R_below (by (with_reducible repeat (first | apply Kd.R_alloc | apply Kd.R_drewN | apply Kd.R_drew)); exact HO975.out) hb); have n8_ := xm (Kd.R_lower (Kd.R_new' (Kd.R_new' ho0 (Kd.R_lt (by (with_reducible repeat (first | apply Kd.R_alloc | apply Kd.R_drewN | apply Kd.R_drew)); exact HO944.out))) (Kd.R_lt (by (with_reducible repeat (first | apply Kd.R_alloc | apply Kd.R_drewN | apply Kd.R_drew)); exact HO954.out))) (xz (by repeat (first | (with_reducible first | exact HB.out | apply xa | apply xn | apply xd) | exact HB.out)))); have n9_ := xm (Kd.R_lower (Kd.R_new' (Kd.R_new' ho1 (Kd.R_lt (by (with_reducible repeat (first | apply Kd.R_alloc | apply Kd.R_drewN | apply Kd.R_drew)); exact HO946.out))) (Kd.R_lt (by (with_reducible repeat (first | apply Kd.R_alloc | apply Kd.R_drewN | apply Kd.R_drew)); exact HO956.out))) (xz (by repeat (first | (with_reducible first | exact HB.out | apply xa | apply xn | apply xd) | exact HB.out)))); have n10_ := xm (below_step (by repeat (first | (with_reducible first | exact HB.out | apply xa | apply xn | apply xd) | exact HB.out)) hb); clear HO939; clear HO944; clear HO946; clear HO949; clear HO954; clear HO956; clear HO961; clear HO975; clear HB; have HO939 := n0_; have HO944 := n1_; have HO946 := n2_; have HO949 := n3_; have HO954 := n4_; have HO956 := n5_; have HO961 := n6_; have HO975 := n7_; have HO980 := n8_; have HO982 := n9_; have HB := n10_; clear n0_ n1_ n2_ n3_ n4_ n5_ n6_ n7_ n8_ n9_ n10_; (try clear hb); (try clear hb2); (try clear hk); (try clear hi); (try clear ho0); (try clear ho1); obtain ⟨Ao62, co62, eo62⟩ := Kd.R_slice HO980.out; subst eo62) | ((with_reducible refine gate_callee (f := 65) rfl ?_); refine goesL_ (some 107) rfl rfl Try.func65 (by kernel_rfl) rfl #[.slice Ao62 t976.length co62, .slice Ao48 t940.length co48] rfl (by (try simp only [List.map_toArray, List.map_cons, List.map_nil]); first | done | rfl | (simp only [List.length_drop, List.length_take]; rfl)) ?_; (with_reducible refine (laws_eqSourceS.calls k _ _ t976 _ _ t940 true _ ?side1 ?side2 ?side3 ?side4 A31.out).mono ?_); (case side1 => repeat (first | exact (Kd.R_reads' HO980.out).2.2 | (with_reducible refine Kd.C_alloc ?_ _) | (with_reducible refine Kd.C_drewN ?_ _) | (with_reducible refine Kd.C_drew ?_))); (case side2 => exact (Kd.R_reads' HO980.out).2.1); (case side3 => repeat (first | exact (Kd.R_reads' HO944.out).2.2 | (with_reducible refine Kd.C_alloc ?_ _) | (with_reducible refine Kd.C_drewN ?_ _) | (with_reducible refine Kd.C_drew ?_))); (case side4 => exact (Kd.R_reads' HO944.out).2.1); rintro e w63 ⟨rfl, hb⟩; refine ⟨_, rfl, ?_⟩; have n0_ := xm (Kd.R_below (by (with_reducible repeat (first | apply Kd.R_alloc | apply Kd.R_drewN | apply Kd.R_drew)); exact HO939.out) hb); have n1_ := xm (Kd.R_below (by (with_reducible repeat (first | apply Kd.R_alloc | apply Kd.R_drewN | apply Kd.R_drew)); exact HO944.out) hb); have n2_ := xm (Kd.R_below (by (with_reducible repeat (first | apply Kd.R_alloc | apply Kd.R_drewN | apply Kd.R_drew)); exact HO946.out) hb); have n3_ := xm (Kd.R_below (by (with_reducible repeat (first | apply Kd.R_alloc | apply Kd.R_drewN | apply Kd.R_drew)); exact HO949.out) hb); have n4_ := xm (Kd.R_below (by (with_reducible repeat (first | apply Kd.R_alloc | apply Kd.R_drewN | apply Kd.R_drew)); exact HO954.out) hb); have n5_ := xm (Kd.R_below (by (with_reducible repeat (first | apply Kd.R_alloc | apply Kd.R_drewN | apply Kd.R_drew)); exact HO956.out) hb); have n6_ := xm (Kd.R_below (by (with_reducible repeat (first | apply Kd.R_alloc | apply Kd.R_drewN | apply Kd.R_drew)); exact HO961.out) hb); have n7_ := xm (Kd.R_below (by (with_reducible repeat (first | apply Kd.R_alloc | apply Kd.R_drewN | apply Kd.R_drew)); exact HO975.out) hb); have n8_ := xm (Kd.R_below (by (with_reducible repeat (first | apply Kd.R_alloc | apply Kd.R_drewN | apply Kd.R_drew)); exact HO980.out) hb); have n9_ := xm (Kd.R_below (by (with_reducible repeat (first | apply Kd.R_alloc | apply Kd.R_drewN | apply Kd.R_drew)); exact HO982.out) hb); have n10_ := xm (below_step (by repeat (first | (with_reducible first | exact HB.out | apply xa | apply xn | apply xd) | exact HB.out)) hb); clear HO939; clear HO944; clear HO946; clear HO949; clear HO954; clear HO956; clear HO961; clear HO975; clear HO980; clear HO982; clear HB; have HO939 := n0_; have HO944 := n1_; have HO946 := n2_; have HO949 := n3_; have HO954 := n4_; have HO956 := n5_; have HO961 := n6_; have HO975 := n7_; have HO980 := n8_; have HO982 := n9_; have HB := n10_; clear n0_ n1_ n2_ n3_ n4_ n5_ n6_ n7_ n8_ n9_ n10_; (try clear hb); (try clear hb2); (try clear hk); (try clear hi); obtain ⟨Ao64, co64, eo64⟩ := Kd.R_slice HO982.out; subst eo64) | (go_at_call 29; (with_reducible refine (laws_eqIntS.calls k _ _ t977 _ _ t941 true _ ?side1 ?side2 ?side3 ?side4 A33.out).mono ?_); (case side1 => repeat (first | exact (Kd.R_reads' HO982.out).2.2 | (with_reducible refine Kd.C_alloc ?_ _) | (with_reducible refine Kd.C_drewN ?_ _) | (with_reducible refine Kd.C_drew ?_))); (case side2 => exact (Kd.R_reads' HO982.out).2.1); (case side3 => repeat (first | exact (Kd.R_reads' HO946.out).2.2 | (with_reducible refine Kd.C_alloc ?_ _) | (with_reducible refine Kd.C_drewN ?_ _) | (with_reducible refine Kd.C_drew ?_))); (case side4 => exact (Kd.R_reads' HO946.out).2.1); rintro e w' ⟨rfl, ⟨nd, rfl⟩⟩) | ((with_reducible refine gate_callee (f := 67) rfl ?_); refine goesL_ (some 122) rfl rfl Try.func67 (by kernel_rfl) rfl #[.slice Ao47 t968.length co47, .int .i64 1] rfl (by (try simp only [List.map_toArray, List.map_cons, List.map_nil]); first | done | (rw [show t968.length = t950.length from (Kd.R_reads' HO954.out).1.symm] <;> rfl) | rfl | (simp only [List.length_drop, List.length_take]; rfl)) ?_; (with_reducible refine (laws_heldSourceS.calls k _ _ t968 1 t985 _ ?side1 ?side2 A36.out).mono ?_); (case side1 => repeat (first | exact (Kd.R_reads' HO954.out).2.2 | (with_reducible refine Kd.C_alloc ?_ _) | (with_reducible refine Kd.C_drewN ?_ _) | (with_reducible refine Kd.C_drew ?_))); (case side2 => rw [show t968.length = t950.length from (Kd.R_reads' HO954.out).1.symm]; exact (Kd.R_reads' HO954.out).2.1); rintro e w' ⟨rfl, ⟨nd, rfl⟩⟩; refine ⟨_, rfl, ?_⟩) | ((with_reducible refine gate_callee (f := 62) rfl ?_); refine goesL_ (some 127) rfl rfl Try.func62 (by kernel_rfl) rfl #[.slice Ao50 t970.length co50, .int .i64 t985] rfl (by (try simp only [List.map_toArray, List.map_cons, List.map_nil]); first | done | (rw [show t970.length = t951.length from (Kd.R_reads' HO956.out).1.symm] <;> rfl) | rfl | (simp only [List.length_drop, List.length_take]; rfl)) ?_; (with_reducible refine (laws_heldIntS.calls k _ _ t970 t985 t986 _ ?side1 ?side2 A38.out).mono ?_); (case side1 => repeat (first | exact (Kd.R_reads' HO956.out).2.2 | (with_reducible refine Kd.C_alloc ?_ _) | (with_reducible refine Kd.C_drewN ?_ _) | (with_reducible refine Kd.C_drew ?_))); (case side2 => rw [show t970.length = t951.length from (Kd.R_reads' HO956.out).1.symm]; exact (Kd.R_reads' HO956.out).2.1); rintro e w' ⟨rfl, ⟨nd, rfl⟩⟩; refine ⟨_, rfl, ?_⟩))
                  go_ret
                  exact ⟨by first | rfl | (simp [errW_none, errW_some] <;> rfl) | (simp [*, errW_none, errW_some] <;> rfl), by repeat (first | (with_reducible first | exact HB.out | apply xa | apply xn | apply xd) | exact HB.out)⟩
                 ·rw [if_neg c40] at H
                  have c40b0 : (t986 == t969) = false := beq_eq_false_iff_ne.mpr c40
                  have c40b1 : (t986 != t969) = true := bne_iff_ne.mpr c40
                  exact absurd H (by simp)
             ·replace c34 := Bool.eq_false_iff.mpr c34
              subst c34
              have H1 : (some false) = some true := by first | (with_reducible rfl) | (rw [if_neg (show ¬ (false = true) by decide)] at H; exact H)
              clear H
              have H := H1
              clear H1
              exact absurd H (by simp)
            ·replace c32 := Bool.eq_false_iff.mpr c32
             subst c32
             have H1 : (some false) = some true := by first | (with_reducible rfl) | (rw [if_neg (show ¬ (false = true) by decide)] at H; exact H)
             clear H
             have H := H1
             clear H1
             exact absurd H (by simp)
           ·rw [if_neg c28] at H
            have c28b0 : (t972 == t969) = false := beq_eq_false_iff_ne.mpr c28
            have c28b1 : (t972 != t969) = true := bne_iff_ne.mpr c28
            exact absurd H (by simp)
        ·replace c21 := Bool.eq_false_iff.mpr c21
         subst c21
         have H1 : (some false) = some true := by first | (with_reducible rfl) | (rw [if_neg (show ¬ (false = true) by decide)] at H; exact H)
         clear H
         have H := H1
         clear H1
         exact absurd H (by simp)
       ·replace c19 := Bool.eq_false_iff.mpr c19
        subst c19
        have H1 : (some false) = some true := by first | (with_reducible rfl) | (rw [if_neg (show ¬ (false = true) by decide)] at H; exact H)
        clear H
        have H := H1
        clear H1
        exact absurd H (by simp)
     ·replace c15 := Bool.eq_false_iff.mpr c15
      subst c15
      have H1 : (some false) = some true := by first | (with_reducible rfl) | (rw [if_neg (show ¬ (false = true) by decide)] at H; exact H)
      clear H
      have H := H1
      clear H1
      exact absurd H (by simp)
   ·replace c11 := Bool.eq_false_iff.mpr c11
    subst c11
    have H1 : (some false) = some true := by first | (with_reducible rfl) | (rw [if_neg (show ¬ (false = true) by decide)] at H; exact H)
    clear H
    have H := H1
    clear H1
    exact absurd H (by simp)
  ·replace c9 := Bool.eq_false_iff.mpr c9
   subst c9
   have H1 : (some false) = some true := by first | (with_reducible rfl) | (rw [if_neg (show ¬ (false = true) by decide)] at H; exact H)
   clear H
   have H := H1
   clear H1
   exact absurd H (by simp)

/-- THE ONE PURE STATEMENT of laws_FnExactReadsFrom. -/
def laws_FnExactReadsFrom.Pure : Prop := ∀ x0 : List (S114), (x0.length ≤ 9223372036854775807 ∧ ∀ x0_ ∈ x0, wf114 x0_) → ∃ k, laws_FnExactReadsFrom.f k x0 = some true

end Go.Proofs.Ytpbpglbldgpckaa.G
