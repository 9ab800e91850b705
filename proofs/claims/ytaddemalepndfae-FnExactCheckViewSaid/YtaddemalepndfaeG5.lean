/- Written by a program of this claim's own, out of the translation: functions of the program as plain functions, and that the calls answer as these. No conditions. -/
import Derived.Test.YtaddemalepndfaeG0
import Derived.Test.YtaddemalepndfaeG1
import Derived.Test.YtaddemalepndfaeG4
namespace Go.Proofs.Ytaddemalepndfae.G
open Go.RowKit Go.Proofs.Ytaddemalepndfae.X Go.Proofs.YtaddemalepndfaeW.PrintWords Go.Proofs.YtaddemalepndfaeW.PrintLast Go.Proofs.YtaddemalepndfaeW.PrintMore
attribute [local go_sem] max2_int min2_int max_two min_two max_three min_three max_four min_four   -- for this text's walks alone
set_option linter.unusedVariables false
set_option linter.unusedSimpArgs false

/-! ### spec_l6Check: function 15 -/
mutual
def spec_l6Check.l0 : Nat → List Int → Int → Int → List Int → List (S47) → Option (List Int × Bool)
 | 0, _, _, _, _, _ => none
 | k + 1, x13, x14, x15, x134000, x134001 => if x15 < x14 then (if 0 ≤ x15 then (if x15 < (x13.length : Int) then ((spec_l1In.f (rd x13 x15) 0 6).bind fun t135 => (if t135 = true then (spec_l6Check.l0 k x13 x14 (wrap64 (x15 + 1)) x134000 x134001) else (some (([] : List Int), false)))) else (none)) else (none)) else ((spec_l1In.f (x134000.length : Int) 1 4).bind fun t136 => (if t136 = true then ((spec_l1In.f (x134001.length : Int) 1 12).bind fun t137 => (spec_l6Check.j1 k (!t137) x134000 x134001)) else (spec_l6Check.j1 k true x134000 x134001)))
def spec_l6Check.j1 : Nat → Bool → List Int → List (S47) → Option (List Int × Bool)
 | 0, _, _, _ => none
 | k + 1, x34, x134000, x134001 => if x34 = true then (some (([] : List Int), false)) else (spec_l6Check.l1 k ([] : List Int) x134001 (x134001.length : Int) 0 x134000 x134001)
def spec_l6Check.l1 : Nat → List Int → List (S47) → Int → Int → List Int → List (S47) → Option (List Int × Bool)
 | 0, _, _, _, _, _, _ => none
 | k + 1, x6, x36, x37, x38, x134000, x134001 => if x38 < x37 then (if 0 ≤ x38 then (if x38 < (x36.length : Int) then (if ((rd_T47 x36 x38).f0) = 4 then (spec_l6Check.j3 k x6 x38 true x36 x37 x38 x134000 x134001 ((rd_T47 x36 x38).f0) ((rd_T47 x36 x38).f1) ((rd_T47 x36 x38).f2) ((rd_T47 x36 x38).f3) ((rd_T47 x36 x38).f4) ((rd_T47 x36 x38).f5)) else (if ((rd_T47 x36 x38).f0) = 5 then (spec_l6Check.j3 k x6 x38 true x36 x37 x38 x134000 x134001 ((rd_T47 x36 x38).f0) ((rd_T47 x36 x38).f1) ((rd_T47 x36 x38).f2) ((rd_T47 x36 x38).f3) ((rd_T47 x36 x38).f4) ((rd_T47 x36 x38).f5)) else (spec_l6Check.j3 k x6 x38 (((rd_T47 x36 x38).f0) == 6) x36 x37 x38 x134000 x134001 ((rd_T47 x36 x38).f0) ((rd_T47 x36 x38).f1) ((rd_T47 x36 x38).f2) ((rd_T47 x36 x38).f3) ((rd_T47 x36 x38).f4) ((rd_T47 x36 x38).f5)))) else (none)) else (none)) else (some (x6, true))
def spec_l6Check.j3 : Nat → List Int → Int → Bool → List (S47) → Int → Int → List Int → List (S47) → Int → Int → Int → List (S71) → List Int → List (List Int) → Option (List Int × Bool)
 | 0, _, _, _, _, _, _, _, _, _, _, _, _, _, _ => none
 | k + 1, x6, x7, x9, x36, x37, x38, x134000, x134001, x140000, x140001, x140002, x140003, x140004, x140005 => if x140000 = 2 then (if x140000 = 3 then (if x140000 = 4 then (if x9 = true then (spec_l6Check.j4 k x6 x7 x9 x36 x37 x38 false x134000 x134001 x140000 x140001 x140002 x140003 x140004 x140005) else (spec_l6Check.j4 k x6 x7 x9 x36 x37 x38 (x140002 != 0) x134000 x134001 x140000 x140001 x140002 x140003 x140004 x140005)) else (if (x140005.length : Int) > 0 then (spec_l6Check.j4 k x6 x7 x9 x36 x37 x38 true x134000 x134001 x140000 x140001 x140002 x140003 x140004 x140005) else (if x9 = true then (spec_l6Check.j4 k x6 x7 x9 x36 x37 x38 false x134000 x134001 x140000 x140001 x140002 x140003 x140004 x140005) else (spec_l6Check.j4 k x6 x7 x9 x36 x37 x38 (x140002 != 0) x134000 x134001 x140000 x140001 x140002 x140003 x140004 x140005)))) else (if (x140004.length : Int) > 0 then (spec_l6Check.j4 k x6 x7 x9 x36 x37 x38 true x134000 x134001 x140000 x140001 x140002 x140003 x140004 x140005) else (if x140000 = 4 then (if x9 = true then (spec_l6Check.j4 k x6 x7 x9 x36 x37 x38 false x134000 x134001 x140000 x140001 x140002 x140003 x140004 x140005) else (spec_l6Check.j4 k x6 x7 x9 x36 x37 x38 (x140002 != 0) x134000 x134001 x140000 x140001 x140002 x140003 x140004 x140005)) else (if (x140005.length : Int) > 0 then (spec_l6Check.j4 k x6 x7 x9 x36 x37 x38 true x134000 x134001 x140000 x140001 x140002 x140003 x140004 x140005) else (if x9 = true then (spec_l6Check.j4 k x6 x7 x9 x36 x37 x38 false x134000 x134001 x140000 x140001 x140002 x140003 x140004 x140005) else (spec_l6Check.j4 k x6 x7 x9 x36 x37 x38 (x140002 != 0) x134000 x134001 x140000 x140001 x140002 x140003 x140004 x140005)))))) else (if (x140003.length : Int) > 0 then (spec_l6Check.j4 k x6 x7 x9 x36 x37 x38 true x134000 x134001 x140000 x140001 x140002 x140003 x140004 x140005) else (if x140000 = 3 then (if x140000 = 4 then (if x9 = true then (spec_l6Check.j4 k x6 x7 x9 x36 x37 x38 false x134000 x134001 x140000 x140001 x140002 x140003 x140004 x140005) else (spec_l6Check.j4 k x6 x7 x9 x36 x37 x38 (x140002 != 0) x134000 x134001 x140000 x140001 x140002 x140003 x140004 x140005)) else (if (x140005.length : Int) > 0 then (spec_l6Check.j4 k x6 x7 x9 x36 x37 x38 true x134000 x134001 x140000 x140001 x140002 x140003 x140004 x140005) else (if x9 = true then (spec_l6Check.j4 k x6 x7 x9 x36 x37 x38 false x134000 x134001 x140000 x140001 x140002 x140003 x140004 x140005) else (spec_l6Check.j4 k x6 x7 x9 x36 x37 x38 (x140002 != 0) x134000 x134001 x140000 x140001 x140002 x140003 x140004 x140005)))) else (if (x140004.length : Int) > 0 then (spec_l6Check.j4 k x6 x7 x9 x36 x37 x38 true x134000 x134001 x140000 x140001 x140002 x140003 x140004 x140005) else (if x140000 = 4 then (if x9 = true then (spec_l6Check.j4 k x6 x7 x9 x36 x37 x38 false x134000 x134001 x140000 x140001 x140002 x140003 x140004 x140005) else (spec_l6Check.j4 k x6 x7 x9 x36 x37 x38 (x140002 != 0) x134000 x134001 x140000 x140001 x140002 x140003 x140004 x140005)) else (if (x140005.length : Int) > 0 then (spec_l6Check.j4 k x6 x7 x9 x36 x37 x38 true x134000 x134001 x140000 x140001 x140002 x140003 x140004 x140005) else (if x9 = true then (spec_l6Check.j4 k x6 x7 x9 x36 x37 x38 false x134000 x134001 x140000 x140001 x140002 x140003 x140004 x140005) else (spec_l6Check.j4 k x6 x7 x9 x36 x37 x38 (x140002 != 0) x134000 x134001 x140000 x140001 x140002 x140003 x140004 x140005)))))))
def spec_l6Check.j4 : Nat → List Int → Int → Bool → List (S47) → Int → Int → Bool → List Int → List (S47) → Int → Int → Int → List (S71) → List Int → List (List Int) → Option (List Int × Bool)
 | 0, _, _, _, _, _, _, _, _, _, _, _, _, _, _, _ => none
 | k + 1, x6, x7, x9, x36, x37, x38, x95, x134000, x134001, x140000, x140001, x140002, x140003, x140004, x140005 => if x95 = true then (some (([] : List Int), false)) else (if x140000 = 1 then (if x140001 < 0 then (some (([] : List Int), false)) else (if x140001 ≥ (x134000.length : Int) then (some (([] : List Int), false)) else (if 0 ≤ x140001 then (if x140001 < (x134000.length : Int) then (if x6.length < 17592186044416 then (spec_l6Check.l1 k (x6 ++ [rd x134000 x140001]) x36 x37 (wrap64 (x38 + 1)) x134000 x134001) else (none)) else (none)) else (none)))) else (if x140001 < 0 then (spec_l6Check.j5 k x6 x36 x37 x38 true x134000 x134001 x140000 x140001 x140002 x140003 x140004 x140005) else (if x140001 ≥ x7 then (spec_l6Check.j5 k x6 x36 x37 x38 true x134000 x134001 x140000 x140001 x140002 x140003 x140004 x140005) else (if x9 = true then (if x140002 < 0 then (spec_l6Check.j5 k x6 x36 x37 x38 true x134000 x134001 x140000 x140001 x140002 x140003 x140004 x140005) else (spec_l6Check.j5 k x6 x36 x37 x38 (decide (x140002 ≥ x7)) x134000 x134001 x140000 x140001 x140002 x140003 x140004 x140005)) else (spec_l6Check.j5 k x6 x36 x37 x38 false x134000 x134001 x140000 x140001 x140002 x140003 x140004 x140005)))))
def spec_l6Check.j5 : Nat → List Int → List (S47) → Int → Int → Bool → List Int → List (S47) → Int → Int → Int → List (S71) → List Int → List (List Int) → Option (List Int × Bool)
 | 0, _, _, _, _, _, _, _, _, _, _, _, _, _ => none
 | k + 1, x6, x36, x37, x38, x141, x134000, x134001, x140000, x140001, x140002, x140003, x140004, x140005 => if x141 = true then (some (([] : List Int), false)) else ((spec_l6Columns.f k x140000 x140001 x140002 x140003 x140004 x140005 x6).bind fun bt144 => (if bt144.2 = true then (if x6.length < 17592186044416 then (spec_l6Check.l1 k (x6 ++ [bt144.1]) x36 x37 (wrap64 (x38 + 1)) x134000 x134001) else (none)) else (some (([] : List Int), false))))
end
def spec_l6Check.f (k : Nat) (l0_0 : List Int) (l0_1 : List (S47)) : Option (List Int × Bool) := spec_l6Check.l0 k l0_0 (l0_0.length : Int) 0 l0_0 l0_1
theorem spec_l6Check.mono_l : ∀ k, (∀ y0 y1 y2 y3 y4, LeO (spec_l6Check.l0 k y0 y1 y2 y3 y4) (spec_l6Check.l0 (k + 1) y0 y1 y2 y3 y4)) ∧ (∀ y0 y1 y2, LeO (spec_l6Check.j1 k y0 y1 y2) (spec_l6Check.j1 (k + 1) y0 y1 y2)) ∧ (∀ y0 y1 y2 y3 y4 y5, LeO (spec_l6Check.l1 k y0 y1 y2 y3 y4 y5) (spec_l6Check.l1 (k + 1) y0 y1 y2 y3 y4 y5)) ∧ (∀ y0 y1 y2 y3 y4 y5 y6 y7 y8 y9 y10 y11 y12 y13, LeO (spec_l6Check.j3 k y0 y1 y2 y3 y4 y5 y6 y7 y8 y9 y10 y11 y12 y13) (spec_l6Check.j3 (k + 1) y0 y1 y2 y3 y4 y5 y6 y7 y8 y9 y10 y11 y12 y13)) ∧ (∀ y0 y1 y2 y3 y4 y5 y6 y7 y8 y9 y10 y11 y12 y13 y14, LeO (spec_l6Check.j4 k y0 y1 y2 y3 y4 y5 y6 y7 y8 y9 y10 y11 y12 y13 y14) (spec_l6Check.j4 (k + 1) y0 y1 y2 y3 y4 y5 y6 y7 y8 y9 y10 y11 y12 y13 y14)) ∧ (∀ y0 y1 y2 y3 y4 y5 y6 y7 y8 y9 y10 y11 y12, LeO (spec_l6Check.j5 k y0 y1 y2 y3 y4 y5 y6 y7 y8 y9 y10 y11 y12) (spec_l6Check.j5 (k + 1) y0 y1 y2 y3 y4 y5 y6 y7 y8 y9 y10 y11 y12))
 | 0 => ⟨fun _ _ _ _ _ r h => by simp [spec_l6Check.l0] at h, fun _ _ _ r h => by simp [spec_l6Check.j1] at h, fun _ _ _ _ _ _ r h => by simp [spec_l6Check.l1] at h, fun _ _ _ _ _ _ _ _ _ _ _ _ _ _ r h => by simp [spec_l6Check.j3] at h, fun _ _ _ _ _ _ _ _ _ _ _ _ _ _ _ r h => by simp [spec_l6Check.j4] at h, fun _ _ _ _ _ _ _ _ _ _ _ _ _ r h => by simp [spec_l6Check.j5] at h⟩
 | k + 1 => by
  obtain ⟨ih0, ih1, ih2, ih3, ih4, ih5⟩ := spec_l6Check.mono_l k
  refine ⟨?_, ?_, ?_, ?_, ?_, ?_⟩
  ·intro y0 y1 y2 y3 y4
   unfold spec_l6Check.l0
   repeat' first
   | (with_reducible exact ih0 _ _ _ _ _)
   | (with_reducible exact ih1 _ _ _)
   | (with_reducible exact ih2 _ _ _ _ _ _)
   | (with_reducible exact ih3 _ _ _ _ _ _ _ _ _ _ _ _ _ _)
   | (with_reducible exact ih4 _ _ _ _ _ _ _ _ _ _ _ _ _ _ _)
   | (with_reducible exact ih5 _ _ _ _ _ _ _ _ _ _ _ _ _)
   | (with_reducible exact spec_l6Columns.mono _ _ _ _ _ _ _ _)
   | (with_reducible exact LeO.refl _)
   | (with_reducible exact LeO.none _)
   | (with_reducible refine LeO.ite ?_ ?_)
   | (with_reducible refine LeO.bind ?_ (fun _ => ?_))
   | exact ih0 _ _ _ _ _
   | exact ih1 _ _ _
   | exact ih2 _ _ _ _ _ _
   | exact ih3 _ _ _ _ _ _ _ _ _ _ _ _ _ _
   | exact ih4 _ _ _ _ _ _ _ _ _ _ _ _ _ _ _
   | exact ih5 _ _ _ _ _ _ _ _ _ _ _ _ _
   | exact spec_l6Columns.mono _ _ _ _ _ _ _ _
   | exact LeO.none _
   | refine LeO.ite ?_ ?_
   | refine LeO.bind ?_ (fun _ => ?_)
  ·intro y0 y1 y2
   unfold spec_l6Check.j1
   repeat' first
   | (with_reducible exact ih0 _ _ _ _ _)
   | (with_reducible exact ih1 _ _ _)
   | (with_reducible exact ih2 _ _ _ _ _ _)
   | (with_reducible exact ih3 _ _ _ _ _ _ _ _ _ _ _ _ _ _)
   | (with_reducible exact ih4 _ _ _ _ _ _ _ _ _ _ _ _ _ _ _)
   | (with_reducible exact ih5 _ _ _ _ _ _ _ _ _ _ _ _ _)
   | (with_reducible exact spec_l6Columns.mono _ _ _ _ _ _ _ _)
   | (with_reducible exact LeO.refl _)
   | (with_reducible exact LeO.none _)
   | (with_reducible refine LeO.ite ?_ ?_)
   | (with_reducible refine LeO.bind ?_ (fun _ => ?_))
   | exact ih0 _ _ _ _ _
   | exact ih1 _ _ _
   | exact ih2 _ _ _ _ _ _
   | exact ih3 _ _ _ _ _ _ _ _ _ _ _ _ _ _
   | exact ih4 _ _ _ _ _ _ _ _ _ _ _ _ _ _ _
   | exact ih5 _ _ _ _ _ _ _ _ _ _ _ _ _
   | exact spec_l6Columns.mono _ _ _ _ _ _ _ _
   | exact LeO.none _
   | refine LeO.ite ?_ ?_
   | refine LeO.bind ?_ (fun _ => ?_)
  ·intro y0 y1 y2 y3 y4 y5
   unfold spec_l6Check.l1
   repeat' first
   | (with_reducible exact ih0 _ _ _ _ _)
   | (with_reducible exact ih1 _ _ _)
   | (with_reducible exact ih2 _ _ _ _ _ _)
   | (with_reducible exact ih3 _ _ _ _ _ _ _ _ _ _ _ _ _ _)
   | (with_reducible exact ih4 _ _ _ _ _ _ _ _ _ _ _ _ _ _ _)
   | (with_reducible exact ih5 _ _ _ _ _ _ _ _ _ _ _ _ _)
   | (with_reducible exact spec_l6Columns.mono _ _ _ _ _ _ _ _)
   | (with_reducible exact LeO.refl _)
   | (with_reducible exact LeO.none _)
   | (with_reducible refine LeO.ite ?_ ?_)
   | (with_reducible refine LeO.bind ?_ (fun _ => ?_))
   | exact ih0 _ _ _ _ _
   | exact ih1 _ _ _
   | exact ih2 _ _ _ _ _ _
   | exact ih3 _ _ _ _ _ _ _ _ _ _ _ _ _ _
   | exact ih4 _ _ _ _ _ _ _ _ _ _ _ _ _ _ _
   | exact ih5 _ _ _ _ _ _ _ _ _ _ _ _ _
   | exact spec_l6Columns.mono _ _ _ _ _ _ _ _
   | exact LeO.none _
   | refine LeO.ite ?_ ?_
   | refine LeO.bind ?_ (fun _ => ?_)
  ·intro y0 y1 y2 y3 y4 y5 y6 y7 y8 y9 y10 y11 y12 y13
   unfold spec_l6Check.j3
   repeat' first
   | (with_reducible exact ih0 _ _ _ _ _)
   | (with_reducible exact ih1 _ _ _)
   | (with_reducible exact ih2 _ _ _ _ _ _)
   | (with_reducible exact ih3 _ _ _ _ _ _ _ _ _ _ _ _ _ _)
   | (with_reducible exact ih4 _ _ _ _ _ _ _ _ _ _ _ _ _ _ _)
   | (with_reducible exact ih5 _ _ _ _ _ _ _ _ _ _ _ _ _)
   | (with_reducible exact spec_l6Columns.mono _ _ _ _ _ _ _ _)
   | (with_reducible exact LeO.refl _)
   | (with_reducible exact LeO.none _)
   | (with_reducible refine LeO.ite ?_ ?_)
   | (with_reducible refine LeO.bind ?_ (fun _ => ?_))
   | exact ih0 _ _ _ _ _
   | exact ih1 _ _ _
   | exact ih2 _ _ _ _ _ _
   | exact ih3 _ _ _ _ _ _ _ _ _ _ _ _ _ _
   | exact ih4 _ _ _ _ _ _ _ _ _ _ _ _ _ _ _
   | exact ih5 _ _ _ _ _ _ _ _ _ _ _ _ _
   | exact spec_l6Columns.mono _ _ _ _ _ _ _ _
   | exact LeO.none _
   | refine LeO.ite ?_ ?_
   | refine LeO.bind ?_ (fun _ => ?_)
  ·intro y0 y1 y2 y3 y4 y5 y6 y7 y8 y9 y10 y11 y12 y13 y14
   unfold spec_l6Check.j4
   repeat' first
   | (with_reducible exact ih0 _ _ _ _ _)
   | (with_reducible exact ih1 _ _ _)
   | (with_reducible exact ih2 _ _ _ _ _ _)
   | (with_reducible exact ih3 _ _ _ _ _ _ _ _ _ _ _ _ _ _)
   | (with_reducible exact ih4 _ _ _ _ _ _ _ _ _ _ _ _ _ _ _)
   | (with_reducible exact ih5 _ _ _ _ _ _ _ _ _ _ _ _ _)
   | (with_reducible exact spec_l6Columns.mono _ _ _ _ _ _ _ _)
   | (with_reducible exact LeO.refl _)
   | (with_reducible exact LeO.none _)
   | (with_reducible refine LeO.ite ?_ ?_)
   | (with_reducible refine LeO.bind ?_ (fun _ => ?_))
   | exact ih0 _ _ _ _ _
   | exact ih1 _ _ _
   | exact ih2 _ _ _ _ _ _
   | exact ih3 _ _ _ _ _ _ _ _ _ _ _ _ _ _
   | exact ih4 _ _ _ _ _ _ _ _ _ _ _ _ _ _ _
   | exact ih5 _ _ _ _ _ _ _ _ _ _ _ _ _
   | exact spec_l6Columns.mono _ _ _ _ _ _ _ _
   | exact LeO.none _
   | refine LeO.ite ?_ ?_
   | refine LeO.bind ?_ (fun _ => ?_)
  ·intro y0 y1 y2 y3 y4 y5 y6 y7 y8 y9 y10 y11 y12
   unfold spec_l6Check.j5
   repeat' first
   | (with_reducible exact ih0 _ _ _ _ _)
   | (with_reducible exact ih1 _ _ _)
   | (with_reducible exact ih2 _ _ _ _ _ _)
   | (with_reducible exact ih3 _ _ _ _ _ _ _ _ _ _ _ _ _ _)
   | (with_reducible exact ih4 _ _ _ _ _ _ _ _ _ _ _ _ _ _ _)
   | (with_reducible exact ih5 _ _ _ _ _ _ _ _ _ _ _ _ _)
   | (with_reducible exact spec_l6Columns.mono _ _ _ _ _ _ _ _)
   | (with_reducible exact LeO.refl _)
   | (with_reducible exact LeO.none _)
   | (with_reducible refine LeO.ite ?_ ?_)
   | (with_reducible refine LeO.bind ?_ (fun _ => ?_))
   | exact ih0 _ _ _ _ _
   | exact ih1 _ _ _
   | exact ih2 _ _ _ _ _ _
   | exact ih3 _ _ _ _ _ _ _ _ _ _ _ _ _ _
   | exact ih4 _ _ _ _ _ _ _ _ _ _ _ _ _ _ _
   | exact ih5 _ _ _ _ _ _ _ _ _ _ _ _ _
   | exact spec_l6Columns.mono _ _ _ _ _ _ _ _
   | exact LeO.none _
   | refine LeO.ite ?_ ?_
   | refine LeO.bind ?_ (fun _ => ?_)
theorem spec_l6Check.mono : ∀ a0 a1 k, LeO (spec_l6Check.f k a0 a1) (spec_l6Check.f (k + 1) a0 a1) := by
 intro a0 a1 k
 obtain ⟨ih0, ih1, ih2, ih3, ih4, ih5⟩ := spec_l6Check.mono_l k
 unfold spec_l6Check.f
 repeat' first
   | (with_reducible exact ih0 _ _ _ _ _)
   | (with_reducible exact ih1 _ _ _)
   | (with_reducible exact ih2 _ _ _ _ _ _)
   | (with_reducible exact ih3 _ _ _ _ _ _ _ _ _ _ _ _ _ _)
   | (with_reducible exact ih4 _ _ _ _ _ _ _ _ _ _ _ _ _ _ _)
   | (with_reducible exact ih5 _ _ _ _ _ _ _ _ _ _ _ _ _)
   | (with_reducible exact spec_l6Columns.mono _ _ _ _ _ _ _ _)
   | (with_reducible exact LeO.refl _)
   | (with_reducible exact LeO.none _)
   | (with_reducible refine LeO.ite ?_ ?_)
   | (with_reducible refine LeO.bind ?_ (fun _ => ?_))
   | exact ih0 _ _ _ _ _
   | exact ih1 _ _ _
   | exact ih2 _ _ _ _ _ _
   | exact ih3 _ _ _ _ _ _ _ _ _ _ _ _ _ _
   | exact ih4 _ _ _ _ _ _ _ _ _ _ _ _ _ _ _
   | exact ih5 _ _ _ _ _ _ _ _ _ _ _ _ _
   | exact spec_l6Columns.mono _ _ _ _ _ _ _ _
   | exact LeO.none _
   | refine LeO.ite ?_ ?_
   | refine LeO.bind ?_ (fun _ => ?_)
set_option maxHeartbeats 8000000 in
set_option maxRecDepth 100000 in
theorem spec_l6Check.calls (k : Nat) (A0_0 : Option Addr) (c0_0 : Nat) (l0_0 : List Int) (A0_1 : Option Addr) (c0_1 : Nat) (l0_1 : List (S47)) (r1 : List Int) (r2 : Bool) (w : World) (hr0_0 : Kd.C (Kd.int .i64) w A0_0 l0_0.length l0_0) (hc0_0 : l0_0.length ≤ c0_0) (hr0_1 : Kd.C k47 w A0_1 l0_1.length l0_1) (hc0_1 : l0_1.length ≤ c0_1) (h : spec_l6Check.f k l0_0 l0_1 = some (r1, r2)) :
  Calls Try.prog 15 #[.agg #[.slice A0_0 l0_0.length c0_0, .slice A0_1 l0_1.length c0_1]] w fun e w' => ∃ v0_ : Value, e = .returned (.tuple #[v0_, .bool r2]) ∧ Kd.R (Kd.int .i64) 3 w' w.heap.size (fun _ => True) v0_ r1 ∧ Below w.heap.size w w' := by
 have hu31 := Try.underlying31
 have hu47 := Try.underlying47
 have HR0_0 := xm hr0_0
 have HC0_0 := xm hc0_0
 clear hr0_0 hc0_0
 have HR0_1 := xm hr0_1
 have HC0_1 := xm hc0_1
 clear hr0_1 hc0_1
 have HB := xm (Below.refl w.heap.size w)
 have H : (spec_l6Check.l0 k l0_0 (l0_0.length : Int) 0 l0_0 l0_1) = some (r1, r2) := h
 clear h
 have H' := xm H
 clear H
 go_enter Try.func15, Try.ntmps15
 go_wp2_with (first | ((with_reducible refine gate_dst (N := 1) rfl ?_); (try (refine gate_guard (by rfl) ?_; dsimp only)); refine box_event ?hg (N := 1) ?hd (cs := #[.slice A0_0 l0_0.length c0_0, .slice A0_1 l0_1.length c0_1]) (t := 31) ?hr ?_; (case hd => rfl); (case hg => rfl); (case hr => exact zB); intro gb133 hg w2 hbox hb; have n0_ := xm (below_step bB hb); have n1_ := xm (hbox); have n2_ := xm ((by rw [hg]; exact (xz bB) : w.heap.size ≤ gb133)); have n3_ := xm ((by rw [hg]; exact (xz bB) : w.heap.size ≤ gb133)); revert n0_ n1_ n2_ n3_; clear HB; intro HB BK133 GW133 GE133; clear hb hbox hg; obtain ⟨hcz3_0, hcz3_1, hfz3_0, hfz3_1⟩ := cz2 BK133.out))
 go_loopg [15] k (fun kq v15 w' => ∃ (x15_1 : Int), v15 = .int .i64 x15_1 ∧ Aside0 (spec_l6Check.l0 kq l0_0 (l0_0.length : Int) x15_1 l0_0 l0_1 = some (r1, r2)) ∧ Aside0 (kq ≤ k) ∧ Aside0 (w'.heap[gb133]? = some (.cells #[(.slice A0_0 l0_0.length c0_0), (.slice A0_1 l0_1.length c0_1)] 31 (0, 0))) ∧ Aside0 (Below w.heap.size w w'))
 case atStart => exact ⟨(0), sB, H', ⟨Nat.le_refl _⟩, ⟨kB BK133⟩, ⟨bG⟩⟩
 case round =>
  clear H'
  try clear c1
  try clear p2
  try clear hcz3_0 hcz3_1 hfz3_0 hfz3_1
  obtain ⟨x15_1, rfl, HA, HK1, BK133, HB⟩ := hrel
  cases gk with
  | zero => exact absurd HA.out (by simp [spec_l6Check.l0])
  | succ k1 =>
   have H := HA.out
   clear HA
   simp only [spec_l6Check.l0] at H
   by_cases c4 : x15_1 < (l0_0.length : Int)
   ·rw [if_pos c4] at H
    have c4b0 : decide (x15_1 < (l0_0.length : Int)) = true := decide_eq_true c4
    clear c4
    by_cases c5 : 0 ≤ x15_1
    ·rw [if_pos c5] at H
     have c5b0 : decide (0 ≤ x15_1) = true := decide_eq_true c5
     clear c5
     by_cases c6 : x15_1 < (l0_0.length : Int)
     ·rw [if_pos c6] at H
      have c6b0 : decide (x15_1 < (l0_0.length : Int)) = true := decide_eq_true c6
      clear c6
      replace H := Option.bind_eq_some_iff.mp H
      obtain ⟨t135, A70, H⟩ := H
      replace H : (if t135 = true then (spec_l6Check.l0 k1 l0_0 (l0_0.length : Int) (wrap64 (x15_1 + 1)) l0_0 l0_1) else (some (([] : List Int), false))) = some (r1, r2) := H
      have A7 := xm A70
      clear A70
      by_cases c8 : t135 = true
      ·subst c8
       have H1 : (spec_l6Check.l0 k1 l0_0 (l0_0.length : Int) (wrap64 (x15_1 + 1)) l0_0 l0_1) = some (r1, r2) := by first | (with_reducible rfl) | (rw [if_pos rfl] at H; exact H)
       clear H
       have H := H1
       clear H1
       have H' := xm H
       clear H
       have p134 : 0 ≤ (x15_1 : Int) := of_decide_eq_true aB
       have q134 : x15_1 < (l0_0.length : Int) := of_decide_eq_true aB
       obtain ⟨ad134, e134, hx134_0⟩ := Kd.at_int HR0_0.out x15_1 p134 q134
       cases e134
       replace hx134_0 := hU hx134_0
       replace p134 := eq_true p134
       replace q134 := eq_true q134
       go_wp2_with (first | ((with_reducible refine gate_callee (f := 26) rfl ?_); refine goesL_ (some 20) rfl rfl Try.func26 (by kernel_rfl) rfl #[.int .i64 (rd l0_0 x15_1), .int .i64 0, .int .i64 6] rfl mB ?_; (with_reducible refine (spec_l1In.calls (rd l0_0 x15_1) 0 6 true _ A7.out).mono ?_); rintro e w' ⟨rfl, ⟨nd, rfl⟩⟩; refine ⟨_, rfl, ?_⟩))
       go_roundg k1
       case measure => have := HK1.out; omega
       case rel => exact ⟨(wrap64 (x15_1 + 1)), sB, H', ⟨by have := HK1.out; omega⟩, ⟨kB BK133⟩, ⟨bG⟩⟩
      ·replace c8 := Bool.eq_false_iff.mpr c8
       subst c8
       have H1 : (some (([] : List Int), false)) = some (r1, r2) := by first | (with_reducible rfl) | (rw [if_neg (show ¬ (false = true) by decide)] at H; exact H)
       clear H
       have H := H1
       clear H1
       simp only [Option.some.injEq, Prod.mk.injEq] at H
       obtain ⟨rfl, rfl⟩ := H
       have p134 : 0 ≤ (x15_1 : Int) := of_decide_eq_true aB
       have q134 : x15_1 < (l0_0.length : Int) := of_decide_eq_true aB
       obtain ⟨ad134, e134, hx134_0⟩ := Kd.at_int HR0_0.out x15_1 p134 q134
       cases e134
       replace hx134_0 := hU hx134_0
       replace p134 := eq_true p134
       replace q134 := eq_true q134
       go_wp2_with (first | ((with_reducible refine gate_callee (f := 26) rfl ?_); refine goesL_ (some 20) rfl rfl Try.func26 (by kernel_rfl) rfl #[.int .i64 (rd l0_0 x15_1), .int .i64 0, .int .i64 6] rfl mB ?_; (with_reducible refine (spec_l1In.calls (rd l0_0 x15_1) 0 6 false _ A7.out).mono ?_); rintro e w' ⟨rfl, ⟨nd, rfl⟩⟩; refine ⟨_, rfl, ?_⟩))
       go_ret2
       exact ⟨_, eB, by first | exact Kd.R_nil _ _ _ _ _ | exact Kd.N_nil _ _ _ _ _ | exact Kd.V_nil _ _ _ _ _ | exact Kd.Q_nil _ _ _ _ _ | exact Kd.S_nil _ _ _ _ _, bG⟩
     ·rw [if_neg c6] at H
      exact absurd H (by simp)
    ·rw [if_neg c5] at H
     exact absurd H (by simp)
   ·rw [if_neg c4] at H
    have c4b0 : decide (x15_1 < (l0_0.length : Int)) = false := decide_eq_false c4
    clear c4
    have HC9 := xm H
    clear H
    go_upto_region 7 with (fail)
    go_cut [34] (fun v34 wc => ∃ (kq : Nat) (x34_8 : Bool), v34 = .bool x34_8 ∧ Aside0 (spec_l6Check.j1 kq x34_8 l0_0 l0_1 = some (r1, r2)) ∧ Aside0 (kq ≤ k1) ∧ Aside0 (wc.heap[gb133]? = some (.cells #[(.slice A0_0 l0_0.length c0_0), (.slice A0_1 l0_1.length c0_1)] 31 (0, 0))) ∧ Aside0 (Below w.heap.size w wc))
    case first =>
     have H := HC9.out
     clear HC9
     replace H := Option.bind_eq_some_iff.mp H
     obtain ⟨t136, A100, H⟩ := H
     replace H : (if t136 = true then ((spec_l1In.f (l0_1.length : Int) 1 12).bind fun t137 => (spec_l6Check.j1 k1 (!t137) l0_0 l0_1)) else (spec_l6Check.j1 k1 true l0_0 l0_1)) = some (r1, r2) := H
     have A10 := xm A100
     clear A100
     by_cases c11 : t136 = true
     ·subst c11
      have H1 : ((spec_l1In.f (l0_1.length : Int) 1 12).bind fun t137 => (spec_l6Check.j1 k1 (!t137) l0_0 l0_1)) = some (r1, r2) := by first | (with_reducible rfl) | (rw [if_pos rfl] at H; exact H)
      clear H
      have H := H1
      clear H1
      replace H := Option.bind_eq_some_iff.mp H
      obtain ⟨t137, A120, H⟩ := H
      replace H : (spec_l6Check.j1 k1 (!t137) l0_0 l0_1) = some (r1, r2) := H
      have A12 := xm A120
      clear A120
      have H' := xm H
      clear H
      obtain ⟨hcz13_0, hcz13_1, hfz13_0, hfz13_1⟩ := cz2 BK133.out
      go_wp2_with (first | ((with_reducible refine gate_callee (f := 26) rfl ?_); refine goesL_ (some 26) rfl rfl Try.func26 (by kernel_rfl) rfl #[.int .i64 (l0_0.length : Int), .int .i64 1, .int .i64 4] rfl mB ?_; (with_reducible refine (spec_l1In.calls (l0_0.length : Int) 1 4 true _ A10.out).mono ?_); rintro e w' ⟨rfl, ⟨nd, rfl⟩⟩; refine ⟨_, rfl, ?_⟩) | (go_at_call 26; (with_reducible refine (spec_l1In.calls (l0_1.length : Int) 1 12 t137 _ A12.out).mono ?_); rintro e w' ⟨rfl, ⟨nd, rfl⟩⟩))
      go_meet
      case rel => exact ⟨_, (!t137), sB, H', ⟨by have := HK1.out; first | omega | exact Nat.le_refl _⟩, ⟨kB BK133⟩, ⟨bG⟩⟩
     ·replace c11 := Bool.eq_false_iff.mpr c11
      subst c11
      have H1 : (spec_l6Check.j1 k1 true l0_0 l0_1) = some (r1, r2) := by first | (with_reducible rfl) | (rw [if_neg (show ¬ (false = true) by decide)] at H; exact H)
      clear H
      have H := H1
      clear H1
      have H' := xm H
      clear H
      obtain ⟨hcz14_0, hcz14_1, hfz14_0, hfz14_1⟩ := cz2 BK133.out
      go_wp2_with (first | ((with_reducible refine gate_callee (f := 26) rfl ?_); refine goesL_ (some 26) rfl rfl Try.func26 (by kernel_rfl) rfl #[.int .i64 (l0_0.length : Int), .int .i64 1, .int .i64 4] rfl mB ?_; (with_reducible refine (spec_l1In.calls (l0_0.length : Int) 1 4 false _ A10.out).mono ?_); rintro e w' ⟨rfl, ⟨nd, rfl⟩⟩; refine ⟨_, rfl, ?_⟩))
      go_meet
      case rel => exact ⟨_, (true), sB, H', ⟨by have := HK1.out; first | omega | exact Nat.le_refl _⟩, ⟨kB BK133⟩, ⟨bG⟩⟩
    case rest =>
     clear HC9
     try clear c1
     try clear p1
     try clear q1
     try clear hx1
     try clear c2
     try clear p2
     try clear c4
     try clear c4b0
     try clear c5
     try clear c5b0
     try clear c6
     try clear c6b0
     try clear p6
     try clear c8
     try clear c11
     try clear p13
     try clear q13
     try clear hx13
     try clear hcz13_0 hcz13_1
     try clear hcz14_0 hcz14_1
     try clear hcz3_0 hcz3_1
     try clear hfz13_0 hfz13_1
     try clear hfz14_0 hfz14_1
     try clear hfz3_0 hfz3_1
     try clear hx134_0
     try clear p134
     try clear p2
     try clear q134
     obtain ⟨kq, x34_8, rfl, HA, HJ8, BK133, HB⟩ := hcut
     cases kq with
     | zero => exact absurd HA.out (by simp [spec_l6Check.j1])
     | succ kj8 =>
      have H := HA.out
      clear HA
      simp only [spec_l6Check.j1] at H
      by_cases c15 : x34_8 = true
      ·subst c15
       have H1 : (some (([] : List Int), false)) = some (r1, r2) := by first | (with_reducible rfl) | (rw [if_pos rfl] at H; exact H)
       clear H
       have H := H1
       clear H1
       simp only [Option.some.injEq, Prod.mk.injEq] at H
       obtain ⟨rfl, rfl⟩ := H
       go_wp2
       go_ret2
       exact ⟨_, eB, by first | exact Kd.R_nil _ _ _ _ _ | exact Kd.N_nil _ _ _ _ _ | exact Kd.V_nil _ _ _ _ _ | exact Kd.Q_nil _ _ _ _ _ | exact Kd.S_nil _ _ _ _ _, bG⟩
      ·replace c15 := Bool.eq_false_iff.mpr c15
       subst c15
       have H1 : (spec_l6Check.l1 kj8 ([] : List Int) l0_1 (l0_1.length : Int) 0 l0_0 l0_1) = some (r1, r2) := by first | (with_reducible rfl) | (rw [if_neg (show ¬ (false = true) by decide)] at H; exact H)
       clear H
       have H := H1
       clear H1
       have H' := xm H
       clear H
       obtain ⟨hcz16_0, hcz16_1, hfz16_0, hfz16_1⟩ := cz2 BK133.out
       go_wp2
       go_loopg [6, 38] kj8 (fun kq v6 v38 w' => ∃ (x6_3 : List Int) (x38_3 : Int), v38 = .int .i64 x38_3 ∧ Aside0 (spec_l6Check.l1 kq x6_3 l0_1 (l0_1.length : Int) x38_3 l0_0 l0_1 = some (r1, r2)) ∧ Aside0 (kq ≤ kj8) ∧ Aside0 (Kd.R (Kd.int .i64) 3 w' w.heap.size (fun _ => True) v6 x6_3) ∧ Aside0 (w'.heap[gb133]? = some (.cells #[(.slice A0_0 l0_0.length c0_0), (.slice A0_1 l0_1.length c0_1)] 31 (0, 0))) ∧ Aside0 (Below w.heap.size w w'))
       case atStart => exact ⟨(([] : List Int)), (0), sB, H', ⟨Nat.le_refl _⟩, ⟨by first | exact Kd.R_nil _ _ _ _ _ | exact Kd.N_nil _ _ _ _ _ | exact Kd.V_nil _ _ _ _ _ | exact Kd.Q_nil _ _ _ _ _ | exact Kd.S_nil _ _ _ _ _⟩, ⟨kB BK133⟩, ⟨bG⟩⟩
       case round =>
        clear H'
        try clear c1
        try clear p1
        try clear q1
        try clear hx1
        try clear c2
        try clear p2
        try clear c4
        try clear c4b0
        try clear c5
        try clear c5b0
        try clear c6
        try clear c6b0
        try clear p6
        try clear c8
        try clear c11
        try clear p13
        try clear q13
        try clear hx13
        try clear c15
        try clear hcz13_0 hcz13_1
        try clear hcz14_0 hcz14_1
        try clear hcz16_0 hcz16_1
        try clear hcz3_0 hcz3_1
        try clear hfz13_0 hfz13_1
        try clear hfz14_0 hfz14_1
        try clear hfz16_0 hfz16_1
        try clear hfz3_0 hfz3_1
        try clear hx134_0
        try clear p1
        try clear p13
        try clear p134
        try clear p2
        try clear p6
        try clear q1
        try clear q13
        try clear q134
        obtain ⟨x6_3, x38_3, rfl, HA, HK3, HO_6, BK133, HB⟩ := hrel
        cases gk with
        | zero => exact absurd HA.out (by simp [spec_l6Check.l1])
        | succ k3 =>
         have H := HA.out
         clear HA
         simp only [spec_l6Check.l1] at H
         by_cases c17 : x38_3 < (l0_1.length : Int)
         ·rw [if_pos c17] at H
          have c17b0 : decide (x38_3 < (l0_1.length : Int)) = true := decide_eq_true c17
          clear c17
          by_cases c18 : 0 ≤ x38_3
          ·rw [if_pos c18] at H
           have c18b0 : decide (0 ≤ x38_3) = true := decide_eq_true c18
           clear c18
           by_cases c19 : x38_3 < (l0_1.length : Int)
           ·rw [if_pos c19] at H
            have c19b0 : decide (x38_3 < (l0_1.length : Int)) = true := decide_eq_true c19
            clear c19
            have HC20 := xm H
            clear H
            have p138 : 0 ≤ (x38_3 : Int) := of_decide_eq_true aB
            have q138 : x38_3 < (l0_1.length : Int) := of_decide_eq_true aB
            obtain ⟨ad138, A138_3, c138_3, A138_4, c138_4, A138_5, c138_5, e138, hx138_0, hx138_1, hx138_2, hx138_3, hx138_4, hx138_5, hl138_3, hi138_3, hl138_4, hi138_4, hl138_5, hi138_5⟩ := at_T47 HR0_1.out x38_3 p138 q138
            cases e138
            replace hx138_0 := hU hx138_0
            replace hx138_1 := hU hx138_1
            replace hx138_2 := hU hx138_2
            replace hx138_3 := hU hx138_3
            replace hx138_4 := hU hx138_4
            replace hx138_5 := hU hx138_5
            have HR138_3 := xm hi138_3
            have HC138_3 := xm hl138_3
            clear hi138_3 hl138_3
            have HR138_4 := xm hi138_4
            have HC138_4 := xm hl138_4
            clear hi138_4 hl138_4
            have HR138_5 := xm hi138_5
            have HC138_5 := xm hl138_5
            clear hi138_5 hl138_5
            replace p138 := eq_true p138
            replace q138 := eq_true q138
            go_upto_region 13 with (first | ((with_reducible refine gate_dst (N := 8) rfl ?_); (try (refine gate_guard (by rfl) ?_; dsimp only)); refine box_event ?hg (N := 8) ?hd (cs := #[.int .i64 0, .int .i64 0, .int .i64 0, .slice none 0 0, .slice none 0 0, .slice none 0 0]) (t := 47) ?hr ?_; (case hd => rfl); (case hg => rfl); (case hr => exact zB); intro gb139 hg w21 hbox hb; have n0_ := xm (Kd.R_below (rB HO_6) hb); have n1_ := xm (blk_below (kB BK133) hb); have n2_ := xm (below_step bG hb); have n3_ := xm (hbox); have n4_ := xm ((by rw [hg]; exact (xz bG) : w.heap.size ≤ gb139)); have n5_ := xm ((by rw [hg]; exact (xz bG) : w.heap.size ≤ gb139)); have n6_ := xm ((by rw [hg]; exact Nat.ne_of_lt (blk_lt (kB BK133)) : gb133 ≠ gb139)); have n7_ := xm ((by rw [hg]; exact Nat.ne_of_gt (blk_lt (kB BK133)) : gb139 ≠ gb133)); revert n0_ n1_ n2_ n3_ n4_ n5_ n6_ n7_; clear HO_6 BK133 HB; intro HO_6 BK133 HB BK139 GW139 GE139 NB133_139 NB139_133; clear hb hbox hg; have hnb22 := NB139_133.out; have hnc22 := NB133_139.out; obtain ⟨hcz23_0, hcz23_1, hcz23_2, hcz23_3, hcz23_4, hcz23_5, hfz23_0, hfz23_1, hfz23_2, hfz23_3, hfz23_4, hfz23_5⟩ := cz6 BK139.out))
            (try simp only [Act.put, xi, xj, xk])
            go_cut [9] (fun v9 wc => ∃ (kq : Nat) (x9_19 : Bool), v9 = .bool x9_19 ∧ Aside0 (spec_l6Check.j3 kq x6_3 x38_3 x9_19 l0_1 (l0_1.length : Int) x38_3 l0_0 l0_1 ((rd_T47 l0_1 x38_3).f0) ((rd_T47 l0_1 x38_3).f1) ((rd_T47 l0_1 x38_3).f2) ((rd_T47 l0_1 x38_3).f3) ((rd_T47 l0_1 x38_3).f4) ((rd_T47 l0_1 x38_3).f5) = some (r1, r2)) ∧ Aside0 (kq ≤ k3) ∧ Aside0 (Kd.R (Kd.int .i64) 3 wc w.heap.size (fun _ => True) u6 x6_3) ∧ Aside0 (wc.heap[gb133]? = some (.cells #[(.slice A0_0 l0_0.length c0_0), (.slice (some ad138) l0_1.length c0_1)] 31 (0, 0))) ∧ Aside0 (wc.heap[gb139]? = some (.cells #[.int .i64 ((rd_T47 l0_1 x38_3).f0), .int .i64 ((rd_T47 l0_1 x38_3).f1), .int .i64 ((rd_T47 l0_1 x38_3).f2), (.slice A138_3 ((rd_T47 l0_1 x38_3).f3).length c138_3), (.slice A138_4 ((rd_T47 l0_1 x38_3).f4).length c138_4), (.slice A138_5 ((rd_T47 l0_1 x38_3).f5).length c138_5)] 47 (0, 0))) ∧ Aside0 (Below w.heap.size w wc))
            case first =>
             have H := HC20.out
             clear HC20
             by_cases c24 : ((rd_T47 l0_1 x38_3).f0) = 4
             ·rw [if_pos c24] at H
              have c24b0 : (((rd_T47 l0_1 x38_3).f0) == 4) = true := beq_iff_eq.mpr c24
              have c24b1 : (((rd_T47 l0_1 x38_3).f0) != 4) = false := bne_eq_false_iff_eq.mpr c24
              clear c24
              (first | rw [c24b0] | (simp only [i64_w, i32_w]; rw [c24b0]) | skip)
              have H' := xm H
              clear H
              have hnb25 := NB139_133.out
              have hnc25 := NB133_139.out
              obtain ⟨hcz26_0, hcz26_1, hcz26_2, hcz26_3, hcz26_4, hcz26_5, hfz26_0, hfz26_1, hfz26_2, hfz26_3, hfz26_4, hfz26_5⟩ := cz6 BK139.out
              go_wp2
              go_meet
              case rel => exact ⟨_, (true), sB, H', ⟨by have := HK1.out; have := HJ8.out; have := HK3.out; first | omega | exact Nat.le_refl _⟩, ⟨by (with_reducible repeat (first | apply Kd.R_alloc | apply Kd.R_drewN | apply Kd.R_drew)); exact Kd.R_mono (Kd.R_far (p := ⟨gb139, 5, none⟩) (Kd.R_far (p := ⟨gb139, 4, none⟩) (Kd.R_far (p := ⟨gb139, 3, none⟩) (Kd.R_far (p := ⟨gb139, 2, none⟩) (Kd.R_far (p := ⟨gb139, 1, none⟩) (Kd.R_far (p := ⟨gb139, 0, none⟩) (Kd.R_types HO_6.out BK139.out (by decide)) (fun _ hk => hk.2) (.int .i64 ((rd_T47 l0_1 x38_3).f0))) (fun _ hk => hk.2) (.int .i64 ((rd_T47 l0_1 x38_3).f1))) (fun _ hk => hk.2) (.int .i64 ((rd_T47 l0_1 x38_3).f2))) (fun _ hk => hk.2) (.slice A138_3 ((rd_T47 l0_1 x38_3).f3).length c138_3)) (fun _ hk => hk.2) (.slice A138_4 ((rd_T47 l0_1 x38_3).f4).length c138_4)) (fun _ hk => hk.2) (.slice A138_5 ((rd_T47 l0_1 x38_3).f5).length c138_5)) (fun _ hk => trivial)⟩, ⟨by (with_reducible repeat (first | refine xq ?_ _ | refine xr ?_ | refine xo ?_ _)); refine blk_far ?_ NB133_139.out _; (with_reducible repeat (first | refine xq ?_ _ | refine xr ?_ | refine xo ?_ _)); refine blk_far ?_ NB133_139.out _; (with_reducible repeat (first | refine xq ?_ _ | refine xr ?_ | refine xo ?_ _)); refine blk_far ?_ NB133_139.out _; (with_reducible repeat (first | refine xq ?_ _ | refine xr ?_ | refine xo ?_ _)); refine blk_far ?_ NB133_139.out _; (with_reducible repeat (first | refine xq ?_ _ | refine xr ?_ | refine xo ?_ _)); refine blk_far ?_ NB133_139.out _; (with_reducible repeat (first | refine xq ?_ _ | refine xr ?_ | refine xo ?_ _)); refine blk_far ?_ NB133_139.out _; (with_reducible repeat (first | refine xq ?_ _ | refine xr ?_ | refine xo ?_ _)); exact BK133.out⟩, ⟨by (with_reducible repeat (first | refine xq ?_ _ | refine xr ?_ | refine xo ?_ _)); refine blk_put (cs := #[.int .i64 ((rd_T47 l0_1 x38_3).f0), .int .i64 ((rd_T47 l0_1 x38_3).f1), .int .i64 ((rd_T47 l0_1 x38_3).f2), .slice A138_3 ((rd_T47 l0_1 x38_3).f3).length c138_3, .slice A138_4 ((rd_T47 l0_1 x38_3).f4).length c138_4, .slice none 0 0]) ?_ 5 _ rfl; (with_reducible repeat (first | refine xq ?_ _ | refine xr ?_ | refine xo ?_ _)); refine blk_put (cs := #[.int .i64 ((rd_T47 l0_1 x38_3).f0), .int .i64 ((rd_T47 l0_1 x38_3).f1), .int .i64 ((rd_T47 l0_1 x38_3).f2), .slice A138_3 ((rd_T47 l0_1 x38_3).f3).length c138_3, .slice none 0 0, .slice none 0 0]) ?_ 4 _ rfl; (with_reducible repeat (first | refine xq ?_ _ | refine xr ?_ | refine xo ?_ _)); refine blk_put (cs := #[.int .i64 ((rd_T47 l0_1 x38_3).f0), .int .i64 ((rd_T47 l0_1 x38_3).f1), .int .i64 ((rd_T47 l0_1 x38_3).f2), .slice none 0 0, .slice none 0 0, .slice none 0 0]) ?_ 3 _ rfl; (with_reducible repeat (first | refine xq ?_ _ | refine xr ?_ | refine xo ?_ _)); refine blk_put (cs := #[.int .i64 ((rd_T47 l0_1 x38_3).f0), .int .i64 ((rd_T47 l0_1 x38_3).f1), .int .i64 0, .slice none 0 0, .slice none 0 0, .slice none 0 0]) ?_ 2 _ rfl; (with_reducible repeat (first | refine xq ?_ _ | refine xr ?_ | refine xo ?_ _)); refine blk_put (cs := #[.int .i64 ((rd_T47 l0_1 x38_3).f0), .int .i64 0, .int .i64 0, .slice none 0 0, .slice none 0 0, .slice none 0 0]) ?_ 1 _ rfl; (with_reducible repeat (first | refine xq ?_ _ | refine xr ?_ | refine xo ?_ _)); refine blk_put (cs := #[.int .i64 0, .int .i64 0, .int .i64 0, .slice none 0 0, .slice none 0 0, .slice none 0 0]) ?_ 0 _ rfl; (with_reducible repeat (first | refine xq ?_ _ | refine xr ?_ | refine xo ?_ _)); exact BK139.out⟩, ⟨bG⟩⟩
             ·rw [if_neg c24] at H
              have c24b0 : (((rd_T47 l0_1 x38_3).f0) == 4) = false := beq_eq_false_iff_ne.mpr c24
              have c24b1 : (((rd_T47 l0_1 x38_3).f0) != 4) = true := bne_iff_ne.mpr c24
              (first | rw [c24b0] | (simp only [i64_w, i32_w]; rw [c24b0]) | skip)
              by_cases c27 : ((rd_T47 l0_1 x38_3).f0) = 5
              ·rw [if_pos c27] at H
               have c27b0 : (((rd_T47 l0_1 x38_3).f0) == 5) = true := beq_iff_eq.mpr c27
               have c27b1 : (((rd_T47 l0_1 x38_3).f0) != 5) = false := bne_eq_false_iff_eq.mpr c27
               clear c27
               have H' := xm H
               clear H
               have hnb28 := NB139_133.out
               have hnc28 := NB133_139.out
               obtain ⟨hcz29_0, hcz29_1, hcz29_2, hcz29_3, hcz29_4, hcz29_5, hfz29_0, hfz29_1, hfz29_2, hfz29_3, hfz29_4, hfz29_5⟩ := cz6 BK139.out
               go_wp2
               go_meet
               case rel => exact ⟨_, (true), sB, H', ⟨by have := HK1.out; have := HJ8.out; have := HK3.out; first | omega | exact Nat.le_refl _⟩, ⟨by (with_reducible repeat (first | apply Kd.R_alloc | apply Kd.R_drewN | apply Kd.R_drew)); exact Kd.R_mono (Kd.R_far (p := ⟨gb139, 5, none⟩) (Kd.R_far (p := ⟨gb139, 4, none⟩) (Kd.R_far (p := ⟨gb139, 3, none⟩) (Kd.R_far (p := ⟨gb139, 2, none⟩) (Kd.R_far (p := ⟨gb139, 1, none⟩) (Kd.R_far (p := ⟨gb139, 0, none⟩) (Kd.R_types HO_6.out BK139.out (by decide)) (fun _ hk => hk.2) (.int .i64 ((rd_T47 l0_1 x38_3).f0))) (fun _ hk => hk.2) (.int .i64 ((rd_T47 l0_1 x38_3).f1))) (fun _ hk => hk.2) (.int .i64 ((rd_T47 l0_1 x38_3).f2))) (fun _ hk => hk.2) (.slice A138_3 ((rd_T47 l0_1 x38_3).f3).length c138_3)) (fun _ hk => hk.2) (.slice A138_4 ((rd_T47 l0_1 x38_3).f4).length c138_4)) (fun _ hk => hk.2) (.slice A138_5 ((rd_T47 l0_1 x38_3).f5).length c138_5)) (fun _ hk => trivial)⟩, ⟨by (with_reducible repeat (first | refine xq ?_ _ | refine xr ?_ | refine xo ?_ _)); refine blk_far ?_ NB133_139.out _; (with_reducible repeat (first | refine xq ?_ _ | refine xr ?_ | refine xo ?_ _)); refine blk_far ?_ NB133_139.out _; (with_reducible repeat (first | refine xq ?_ _ | refine xr ?_ | refine xo ?_ _)); refine blk_far ?_ NB133_139.out _; (with_reducible repeat (first | refine xq ?_ _ | refine xr ?_ | refine xo ?_ _)); refine blk_far ?_ NB133_139.out _; (with_reducible repeat (first | refine xq ?_ _ | refine xr ?_ | refine xo ?_ _)); refine blk_far ?_ NB133_139.out _; (with_reducible repeat (first | refine xq ?_ _ | refine xr ?_ | refine xo ?_ _)); refine blk_far ?_ NB133_139.out _; (with_reducible repeat (first | refine xq ?_ _ | refine xr ?_ | refine xo ?_ _)); exact BK133.out⟩, ⟨by (with_reducible repeat (first | refine xq ?_ _ | refine xr ?_ | refine xo ?_ _)); refine blk_put (cs := #[.int .i64 ((rd_T47 l0_1 x38_3).f0), .int .i64 ((rd_T47 l0_1 x38_3).f1), .int .i64 ((rd_T47 l0_1 x38_3).f2), .slice A138_3 ((rd_T47 l0_1 x38_3).f3).length c138_3, .slice A138_4 ((rd_T47 l0_1 x38_3).f4).length c138_4, .slice none 0 0]) ?_ 5 _ rfl; (with_reducible repeat (first | refine xq ?_ _ | refine xr ?_ | refine xo ?_ _)); refine blk_put (cs := #[.int .i64 ((rd_T47 l0_1 x38_3).f0), .int .i64 ((rd_T47 l0_1 x38_3).f1), .int .i64 ((rd_T47 l0_1 x38_3).f2), .slice A138_3 ((rd_T47 l0_1 x38_3).f3).length c138_3, .slice none 0 0, .slice none 0 0]) ?_ 4 _ rfl; (with_reducible repeat (first | refine xq ?_ _ | refine xr ?_ | refine xo ?_ _)); refine blk_put (cs := #[.int .i64 ((rd_T47 l0_1 x38_3).f0), .int .i64 ((rd_T47 l0_1 x38_3).f1), .int .i64 ((rd_T47 l0_1 x38_3).f2), .slice none 0 0, .slice none 0 0, .slice none 0 0]) ?_ 3 _ rfl; (with_reducible repeat (first | refine xq ?_ _ | refine xr ?_ | refine xo ?_ _)); refine blk_put (cs := #[.int .i64 ((rd_T47 l0_1 x38_3).f0), .int .i64 ((rd_T47 l0_1 x38_3).f1), .int .i64 0, .slice none 0 0, .slice none 0 0, .slice none 0 0]) ?_ 2 _ rfl; (with_reducible repeat (first | refine xq ?_ _ | refine xr ?_ | refine xo ?_ _)); refine blk_put (cs := #[.int .i64 ((rd_T47 l0_1 x38_3).f0), .int .i64 0, .int .i64 0, .slice none 0 0, .slice none 0 0, .slice none 0 0]) ?_ 1 _ rfl; (with_reducible repeat (first | refine xq ?_ _ | refine xr ?_ | refine xo ?_ _)); refine blk_put (cs := #[.int .i64 0, .int .i64 0, .int .i64 0, .slice none 0 0, .slice none 0 0, .slice none 0 0]) ?_ 0 _ rfl; (with_reducible repeat (first | refine xq ?_ _ | refine xr ?_ | refine xo ?_ _)); exact BK139.out⟩, ⟨bG⟩⟩
              ·rw [if_neg c27] at H
               have c27b0 : (((rd_T47 l0_1 x38_3).f0) == 5) = false := beq_eq_false_iff_ne.mpr c27
               have c27b1 : (((rd_T47 l0_1 x38_3).f0) != 5) = true := bne_iff_ne.mpr c27
               have H' := xm H
               clear H
               have hnb30 := NB139_133.out
               have hnc30 := NB133_139.out
               obtain ⟨hcz31_0, hcz31_1, hcz31_2, hcz31_3, hcz31_4, hcz31_5, hfz31_0, hfz31_1, hfz31_2, hfz31_3, hfz31_4, hfz31_5⟩ := cz6 BK139.out
               go_wp2
               go_meet
               case rel => exact ⟨_, ((((rd_T47 l0_1 x38_3).f0) == 6)), sB, H', ⟨by have := HK1.out; have := HJ8.out; have := HK3.out; first | omega | exact Nat.le_refl _⟩, ⟨by (with_reducible repeat (first | apply Kd.R_alloc | apply Kd.R_drewN | apply Kd.R_drew)); exact Kd.R_mono (Kd.R_far (p := ⟨gb139, 5, none⟩) (Kd.R_far (p := ⟨gb139, 4, none⟩) (Kd.R_far (p := ⟨gb139, 3, none⟩) (Kd.R_far (p := ⟨gb139, 2, none⟩) (Kd.R_far (p := ⟨gb139, 1, none⟩) (Kd.R_far (p := ⟨gb139, 0, none⟩) (Kd.R_types HO_6.out BK139.out (by decide)) (fun _ hk => hk.2) (.int .i64 ((rd_T47 l0_1 x38_3).f0))) (fun _ hk => hk.2) (.int .i64 ((rd_T47 l0_1 x38_3).f1))) (fun _ hk => hk.2) (.int .i64 ((rd_T47 l0_1 x38_3).f2))) (fun _ hk => hk.2) (.slice A138_3 ((rd_T47 l0_1 x38_3).f3).length c138_3)) (fun _ hk => hk.2) (.slice A138_4 ((rd_T47 l0_1 x38_3).f4).length c138_4)) (fun _ hk => hk.2) (.slice A138_5 ((rd_T47 l0_1 x38_3).f5).length c138_5)) (fun _ hk => trivial)⟩, ⟨by (with_reducible repeat (first | refine xq ?_ _ | refine xr ?_ | refine xo ?_ _)); refine blk_far ?_ NB133_139.out _; (with_reducible repeat (first | refine xq ?_ _ | refine xr ?_ | refine xo ?_ _)); refine blk_far ?_ NB133_139.out _; (with_reducible repeat (first | refine xq ?_ _ | refine xr ?_ | refine xo ?_ _)); refine blk_far ?_ NB133_139.out _; (with_reducible repeat (first | refine xq ?_ _ | refine xr ?_ | refine xo ?_ _)); refine blk_far ?_ NB133_139.out _; (with_reducible repeat (first | refine xq ?_ _ | refine xr ?_ | refine xo ?_ _)); refine blk_far ?_ NB133_139.out _; (with_reducible repeat (first | refine xq ?_ _ | refine xr ?_ | refine xo ?_ _)); refine blk_far ?_ NB133_139.out _; (with_reducible repeat (first | refine xq ?_ _ | refine xr ?_ | refine xo ?_ _)); exact BK133.out⟩, ⟨by (with_reducible repeat (first | refine xq ?_ _ | refine xr ?_ | refine xo ?_ _)); refine blk_put (cs := #[.int .i64 ((rd_T47 l0_1 x38_3).f0), .int .i64 ((rd_T47 l0_1 x38_3).f1), .int .i64 ((rd_T47 l0_1 x38_3).f2), .slice A138_3 ((rd_T47 l0_1 x38_3).f3).length c138_3, .slice A138_4 ((rd_T47 l0_1 x38_3).f4).length c138_4, .slice none 0 0]) ?_ 5 _ rfl; (with_reducible repeat (first | refine xq ?_ _ | refine xr ?_ | refine xo ?_ _)); refine blk_put (cs := #[.int .i64 ((rd_T47 l0_1 x38_3).f0), .int .i64 ((rd_T47 l0_1 x38_3).f1), .int .i64 ((rd_T47 l0_1 x38_3).f2), .slice A138_3 ((rd_T47 l0_1 x38_3).f3).length c138_3, .slice none 0 0, .slice none 0 0]) ?_ 4 _ rfl; (with_reducible repeat (first | refine xq ?_ _ | refine xr ?_ | refine xo ?_ _)); refine blk_put (cs := #[.int .i64 ((rd_T47 l0_1 x38_3).f0), .int .i64 ((rd_T47 l0_1 x38_3).f1), .int .i64 ((rd_T47 l0_1 x38_3).f2), .slice none 0 0, .slice none 0 0, .slice none 0 0]) ?_ 3 _ rfl; (with_reducible repeat (first | refine xq ?_ _ | refine xr ?_ | refine xo ?_ _)); refine blk_put (cs := #[.int .i64 ((rd_T47 l0_1 x38_3).f0), .int .i64 ((rd_T47 l0_1 x38_3).f1), .int .i64 0, .slice none 0 0, .slice none 0 0, .slice none 0 0]) ?_ 2 _ rfl; (with_reducible repeat (first | refine xq ?_ _ | refine xr ?_ | refine xo ?_ _)); refine blk_put (cs := #[.int .i64 ((rd_T47 l0_1 x38_3).f0), .int .i64 0, .int .i64 0, .slice none 0 0, .slice none 0 0, .slice none 0 0]) ?_ 1 _ rfl; (with_reducible repeat (first | refine xq ?_ _ | refine xr ?_ | refine xo ?_ _)); refine blk_put (cs := #[.int .i64 0, .int .i64 0, .int .i64 0, .slice none 0 0, .slice none 0 0, .slice none 0 0]) ?_ 0 _ rfl; (with_reducible repeat (first | refine xq ?_ _ | refine xr ?_ | refine xo ?_ _)); exact BK139.out⟩, ⟨bG⟩⟩
            case rest =>
             clear HC20
             try clear c1
             try clear p1
             try clear q1
             try clear hx1
             try clear c2
             try clear p2
             try clear c3
             try clear c4
             try clear c4b0
             try clear c5
             try clear c5b0
             try clear c6
             try clear c6b0
             try clear p6
             try clear c8
             try clear c11
             try clear c13
             try clear p13
             try clear q13
             try clear hx13
             try clear c15
             try clear c17
             try clear c17b0
             try clear c18
             try clear c18b0
             try clear c19
             try clear c19b0
             try clear c22
             try clear c24
             try clear c24b0 c24b1
             try clear c25
             try clear c26
             try clear c27
             try clear c27b0 c27b1
             try clear c28
             try clear c30
             try clear hcz13_0 hcz13_1
             try clear hcz14_0 hcz14_1
             try clear hcz16_0 hcz16_1
             try clear hcz23_0 hcz23_1 hcz23_2 hcz23_3 hcz23_4 hcz23_5
             try clear hcz26_0 hcz26_1 hcz26_2 hcz26_3 hcz26_4 hcz26_5
             try clear hcz29_0 hcz29_1 hcz29_2 hcz29_3 hcz29_4 hcz29_5
             try clear hcz31_0 hcz31_1 hcz31_2 hcz31_3 hcz31_4 hcz31_5
             try clear hcz3_0 hcz3_1
             try clear hfz13_0 hfz13_1
             try clear hfz14_0 hfz14_1
             try clear hfz16_0 hfz16_1
             try clear hfz23_0 hfz23_1 hfz23_2 hfz23_3 hfz23_4 hfz23_5
             try clear hfz26_0 hfz26_1 hfz26_2 hfz26_3 hfz26_4 hfz26_5
             try clear hfz29_0 hfz29_1 hfz29_2 hfz29_3 hfz29_4 hfz29_5
             try clear hfz31_0 hfz31_1 hfz31_2 hfz31_3 hfz31_4 hfz31_5
             try clear hfz3_0 hfz3_1
             try clear hx134_0
             try clear hx138_0
             try clear hx138_1
             try clear hx138_2
             try clear hx138_3
             try clear hx138_4
             try clear hx138_5
             try clear p1
             try clear p13
             try clear p134
             try clear p138
             try clear p2
             try clear p6
             try clear q1
             try clear q13
             try clear q134
             try clear q138
             obtain ⟨kq, x9_19, rfl, HA, HJ19, HO_6, BK133, BK139, HB⟩ := hcut
             cases kq with
             | zero => exact absurd HA.out (by simp [spec_l6Check.j3])
             | succ kj19 =>
              have H := HA.out
              clear HA
              simp only [spec_l6Check.j3] at H
              have HC32 := xm H
              clear H
              go_upto_region 14 with (fail)
              go_cut [95] (fun v95 wc => ∃ (kq : Nat) (x95_31 : Bool), v95 = .bool x95_31 ∧ Aside0 (spec_l6Check.j4 kq x6_3 x38_3 x9_19 l0_1 (l0_1.length : Int) x38_3 x95_31 l0_0 l0_1 ((rd_T47 l0_1 x38_3).f0) ((rd_T47 l0_1 x38_3).f1) ((rd_T47 l0_1 x38_3).f2) ((rd_T47 l0_1 x38_3).f3) ((rd_T47 l0_1 x38_3).f4) ((rd_T47 l0_1 x38_3).f5) = some (r1, r2)) ∧ Aside0 (kq ≤ kj19) ∧ Aside0 (Kd.R (Kd.int .i64) 3 wc w.heap.size (fun _ => True) u6 x6_3) ∧ Aside0 (wc.heap[gb133]? = some (.cells #[(.slice A0_0 l0_0.length c0_0), (.slice (some ad138) l0_1.length c0_1)] 31 (0, 0))) ∧ Aside0 (wc.heap[gb139]? = some (.cells #[.int .i64 ((rd_T47 l0_1 x38_3).f0), .int .i64 ((rd_T47 l0_1 x38_3).f1), .int .i64 ((rd_T47 l0_1 x38_3).f2), (.slice A138_3 ((rd_T47 l0_1 x38_3).f3).length c138_3), (.slice A138_4 ((rd_T47 l0_1 x38_3).f4).length c138_4), (.slice A138_5 ((rd_T47 l0_1 x38_3).f5).length c138_5)] 47 (0, 0))) ∧ Aside0 (Below w.heap.size w wc))
              case first =>
               have H := HC32.out
               clear HC32
               by_cases c33 : ((rd_T47 l0_1 x38_3).f0) = 2
               ·rw [if_pos c33] at H
                have c33b0 : (((rd_T47 l0_1 x38_3).f0) == 2) = true := beq_iff_eq.mpr c33
                have c33b1 : (((rd_T47 l0_1 x38_3).f0) != 2) = false := bne_eq_false_iff_eq.mpr c33
                clear c33
                (first | rw [c33b0] | (simp only [i64_w, i32_w]; rw [c33b0]) | skip)
                by_cases c34 : ((rd_T47 l0_1 x38_3).f0) = 3
                ·exact absurd ((beq_iff_eq.mp c33b0).symm.trans c34) (by decide)
                ·rw [if_neg c34] at H
                 have c34b0 : (((rd_T47 l0_1 x38_3).f0) == 3) = false := beq_eq_false_iff_ne.mpr c34
                 have c34b1 : (((rd_T47 l0_1 x38_3).f0) != 3) = true := bne_iff_ne.mpr c34
                 by_cases c49 : (((rd_T47 l0_1 x38_3).f4).length : Int) > 0
                 ·rw [if_pos c49] at H
                  have c49b0 : decide (0 < (((rd_T47 l0_1 x38_3).f4).length : Int)) = true := decide_eq_true c49
                  have c49b1 : decide (0 < ((rd_T47 l0_1 x38_3).f4).length) = true := decide_eq_true (by omega)
                  clear c49
                  have H' := xm H
                  clear H
                  have hnb50 := NB139_133.out
                  have hnc50 := NB133_139.out
                  obtain ⟨hcz51_0, hcz51_1, hcz51_2, hcz51_3, hcz51_4, hcz51_5, hfz51_0, hfz51_1, hfz51_2, hfz51_3, hfz51_4, hfz51_5⟩ := cz6 BK139.out
                  go_wp2
                  go_meet
                  case rel => exact ⟨_, (true), sB, H', ⟨by have := HK1.out; have := HJ8.out; have := HK3.out; have := HJ19.out; first | omega | exact Nat.le_refl _⟩, ⟨rB HO_6⟩, ⟨kB BK133⟩, ⟨kB BK139⟩, ⟨bG⟩⟩
                 ·rw [if_neg c49] at H
                  have c49b0 : decide (0 < (((rd_T47 l0_1 x38_3).f4).length : Int)) = false := decide_eq_false c49
                  have c49b1 : decide (0 < ((rd_T47 l0_1 x38_3).f4).length) = false := decide_eq_false (by omega)
                  clear c49
                  by_cases c52 : ((rd_T47 l0_1 x38_3).f0) = 4
                  ·exact absurd ((beq_iff_eq.mp c33b0).symm.trans c52) (by decide)
                  ·rw [if_neg c52] at H
                   have c52b0 : (((rd_T47 l0_1 x38_3).f0) == 4) = false := beq_eq_false_iff_ne.mpr c52
                   have c52b1 : (((rd_T47 l0_1 x38_3).f0) != 4) = true := bne_iff_ne.mpr c52
                   by_cases c58 : (((rd_T47 l0_1 x38_3).f5).length : Int) > 0
                   ·rw [if_pos c58] at H
                    have c58b0 : decide (0 < (((rd_T47 l0_1 x38_3).f5).length : Int)) = true := decide_eq_true c58
                    have c58b1 : decide (0 < ((rd_T47 l0_1 x38_3).f5).length) = true := decide_eq_true (by omega)
                    clear c58
                    have H' := xm H
                    clear H
                    have hnb59 := NB139_133.out
                    have hnc59 := NB133_139.out
                    obtain ⟨hcz60_0, hcz60_1, hcz60_2, hcz60_3, hcz60_4, hcz60_5, hfz60_0, hfz60_1, hfz60_2, hfz60_3, hfz60_4, hfz60_5⟩ := cz6 BK139.out
                    go_wp2
                    go_meet
                    case rel => exact ⟨_, (true), sB, H', ⟨by have := HK1.out; have := HJ8.out; have := HK3.out; have := HJ19.out; first | omega | exact Nat.le_refl _⟩, ⟨rB HO_6⟩, ⟨kB BK133⟩, ⟨kB BK139⟩, ⟨bG⟩⟩
                   ·rw [if_neg c58] at H
                    have c58b0 : decide (0 < (((rd_T47 l0_1 x38_3).f5).length : Int)) = false := decide_eq_false c58
                    have c58b1 : decide (0 < ((rd_T47 l0_1 x38_3).f5).length) = false := decide_eq_false (by omega)
                    clear c58
                    by_cases c61 : x9_19 = true
                    ·subst c61
                     have H1 : (spec_l6Check.j4 kj19 x6_3 x38_3 true l0_1 (l0_1.length : Int) x38_3 false l0_0 l0_1 ((rd_T47 l0_1 x38_3).f0) ((rd_T47 l0_1 x38_3).f1) ((rd_T47 l0_1 x38_3).f2) ((rd_T47 l0_1 x38_3).f3) ((rd_T47 l0_1 x38_3).f4) ((rd_T47 l0_1 x38_3).f5)) = some (r1, r2) := by first | (with_reducible rfl) | (rw [if_pos rfl] at H; exact H)
                     clear H
                     have H := H1
                     clear H1
                     have H' := xm H
                     clear H
                     have hnb62 := NB139_133.out
                     have hnc62 := NB133_139.out
                     obtain ⟨hcz63_0, hcz63_1, hcz63_2, hcz63_3, hcz63_4, hcz63_5, hfz63_0, hfz63_1, hfz63_2, hfz63_3, hfz63_4, hfz63_5⟩ := cz6 BK139.out
                     go_wp2
                     go_meet
                     case rel => exact ⟨_, (false), sB, H', ⟨by have := HK1.out; have := HJ8.out; have := HK3.out; have := HJ19.out; first | omega | exact Nat.le_refl _⟩, ⟨rB HO_6⟩, ⟨kB BK133⟩, ⟨kB BK139⟩, ⟨bG⟩⟩
                    ·replace c61 := Bool.eq_false_iff.mpr c61
                     subst c61
                     have H1 : (spec_l6Check.j4 kj19 x6_3 x38_3 false l0_1 (l0_1.length : Int) x38_3 (((rd_T47 l0_1 x38_3).f2) != 0) l0_0 l0_1 ((rd_T47 l0_1 x38_3).f0) ((rd_T47 l0_1 x38_3).f1) ((rd_T47 l0_1 x38_3).f2) ((rd_T47 l0_1 x38_3).f3) ((rd_T47 l0_1 x38_3).f4) ((rd_T47 l0_1 x38_3).f5)) = some (r1, r2) := by first | (with_reducible rfl) | (rw [if_neg (show ¬ (false = true) by decide)] at H; exact H)
                     clear H
                     have H := H1
                     clear H1
                     have H' := xm H
                     clear H
                     have hnb64 := NB139_133.out
                     have hnc64 := NB133_139.out
                     obtain ⟨hcz65_0, hcz65_1, hcz65_2, hcz65_3, hcz65_4, hcz65_5, hfz65_0, hfz65_1, hfz65_2, hfz65_3, hfz65_4, hfz65_5⟩ := cz6 BK139.out
                     go_wp2
                     go_meet
                     case rel => exact ⟨_, ((((rd_T47 l0_1 x38_3).f2) != 0)), sB, H', ⟨by have := HK1.out; have := HJ8.out; have := HK3.out; have := HJ19.out; first | omega | exact Nat.le_refl _⟩, ⟨rB HO_6⟩, ⟨kB BK133⟩, ⟨kB BK139⟩, ⟨bG⟩⟩
               ·rw [if_neg c33] at H
                have c33b0 : (((rd_T47 l0_1 x38_3).f0) == 2) = false := beq_eq_false_iff_ne.mpr c33
                have c33b1 : (((rd_T47 l0_1 x38_3).f0) != 2) = true := bne_iff_ne.mpr c33
                (first | rw [c33b0] | (simp only [i64_w, i32_w]; rw [c33b0]) | skip)
                by_cases c66 : (((rd_T47 l0_1 x38_3).f3).length : Int) > 0
                ·rw [if_pos c66] at H
                 have c66b0 : decide (0 < (((rd_T47 l0_1 x38_3).f3).length : Int)) = true := decide_eq_true c66
                 have c66b1 : decide (0 < ((rd_T47 l0_1 x38_3).f3).length) = true := decide_eq_true (by omega)
                 clear c66
                 have H' := xm H
                 clear H
                 have hnb67 := NB139_133.out
                 have hnc67 := NB133_139.out
                 obtain ⟨hcz68_0, hcz68_1, hcz68_2, hcz68_3, hcz68_4, hcz68_5, hfz68_0, hfz68_1, hfz68_2, hfz68_3, hfz68_4, hfz68_5⟩ := cz6 BK139.out
                 go_wp2
                 go_meet
                 case rel => exact ⟨_, (true), sB, H', ⟨by have := HK1.out; have := HJ8.out; have := HK3.out; have := HJ19.out; first | omega | exact Nat.le_refl _⟩, ⟨rB HO_6⟩, ⟨kB BK133⟩, ⟨kB BK139⟩, ⟨bG⟩⟩
                ·rw [if_neg c66] at H
                 have c66b0 : decide (0 < (((rd_T47 l0_1 x38_3).f3).length : Int)) = false := decide_eq_false c66
                 have c66b1 : decide (0 < ((rd_T47 l0_1 x38_3).f3).length) = false := decide_eq_false (by omega)
                 clear c66
                 by_cases c69 : ((rd_T47 l0_1 x38_3).f0) = 3
                 ·rw [if_pos c69] at H
                  have c69b0 : (((rd_T47 l0_1 x38_3).f0) == 3) = true := beq_iff_eq.mpr c69
                  have c69b1 : (((rd_T47 l0_1 x38_3).f0) != 3) = false := bne_eq_false_iff_eq.mpr c69
                  clear c69
                  by_cases c70 : ((rd_T47 l0_1 x38_3).f0) = 4
                  ·exact absurd ((beq_iff_eq.mp c69b0).symm.trans c70) (by decide)
                  ·rw [if_neg c70] at H
                   have c70b0 : (((rd_T47 l0_1 x38_3).f0) == 4) = false := beq_eq_false_iff_ne.mpr c70
                   have c70b1 : (((rd_T47 l0_1 x38_3).f0) != 4) = true := bne_iff_ne.mpr c70
                   by_cases c76 : (((rd_T47 l0_1 x38_3).f5).length : Int) > 0
                   ·rw [if_pos c76] at H
                    have c76b0 : decide (0 < (((rd_T47 l0_1 x38_3).f5).length : Int)) = true := decide_eq_true c76
                    have c76b1 : decide (0 < ((rd_T47 l0_1 x38_3).f5).length) = true := decide_eq_true (by omega)
                    clear c76
                    have H' := xm H
                    clear H
                    have hnb77 := NB139_133.out
                    have hnc77 := NB133_139.out
                    obtain ⟨hcz78_0, hcz78_1, hcz78_2, hcz78_3, hcz78_4, hcz78_5, hfz78_0, hfz78_1, hfz78_2, hfz78_3, hfz78_4, hfz78_5⟩ := cz6 BK139.out
                    go_wp2
                    go_meet
                    case rel => exact ⟨_, (true), sB, H', ⟨by have := HK1.out; have := HJ8.out; have := HK3.out; have := HJ19.out; first | omega | exact Nat.le_refl _⟩, ⟨rB HO_6⟩, ⟨kB BK133⟩, ⟨kB BK139⟩, ⟨bG⟩⟩
                   ·rw [if_neg c76] at H
                    have c76b0 : decide (0 < (((rd_T47 l0_1 x38_3).f5).length : Int)) = false := decide_eq_false c76
                    have c76b1 : decide (0 < ((rd_T47 l0_1 x38_3).f5).length) = false := decide_eq_false (by omega)
                    clear c76
                    by_cases c79 : x9_19 = true
                    ·subst c79
                     have H1 : (spec_l6Check.j4 kj19 x6_3 x38_3 true l0_1 (l0_1.length : Int) x38_3 false l0_0 l0_1 ((rd_T47 l0_1 x38_3).f0) ((rd_T47 l0_1 x38_3).f1) ((rd_T47 l0_1 x38_3).f2) ((rd_T47 l0_1 x38_3).f3) ((rd_T47 l0_1 x38_3).f4) ((rd_T47 l0_1 x38_3).f5)) = some (r1, r2) := by first | (with_reducible rfl) | (rw [if_pos rfl] at H; exact H)
                     clear H
                     have H := H1
                     clear H1
                     have H' := xm H
                     clear H
                     have hnb80 := NB139_133.out
                     have hnc80 := NB133_139.out
                     obtain ⟨hcz81_0, hcz81_1, hcz81_2, hcz81_3, hcz81_4, hcz81_5, hfz81_0, hfz81_1, hfz81_2, hfz81_3, hfz81_4, hfz81_5⟩ := cz6 BK139.out
                     go_wp2
                     go_meet
                     case rel => exact ⟨_, (false), sB, H', ⟨by have := HK1.out; have := HJ8.out; have := HK3.out; have := HJ19.out; first | omega | exact Nat.le_refl _⟩, ⟨rB HO_6⟩, ⟨kB BK133⟩, ⟨kB BK139⟩, ⟨bG⟩⟩
                    ·replace c79 := Bool.eq_false_iff.mpr c79
                     subst c79
                     have H1 : (spec_l6Check.j4 kj19 x6_3 x38_3 false l0_1 (l0_1.length : Int) x38_3 (((rd_T47 l0_1 x38_3).f2) != 0) l0_0 l0_1 ((rd_T47 l0_1 x38_3).f0) ((rd_T47 l0_1 x38_3).f1) ((rd_T47 l0_1 x38_3).f2) ((rd_T47 l0_1 x38_3).f3) ((rd_T47 l0_1 x38_3).f4) ((rd_T47 l0_1 x38_3).f5)) = some (r1, r2) := by first | (with_reducible rfl) | (rw [if_neg (show ¬ (false = true) by decide)] at H; exact H)
                     clear H
                     have H := H1
                     clear H1
                     have H' := xm H
                     clear H
                     have hnb82 := NB139_133.out
                     have hnc82 := NB133_139.out
                     obtain ⟨hcz83_0, hcz83_1, hcz83_2, hcz83_3, hcz83_4, hcz83_5, hfz83_0, hfz83_1, hfz83_2, hfz83_3, hfz83_4, hfz83_5⟩ := cz6 BK139.out
                     go_wp2
                     go_meet
                     case rel => exact ⟨_, ((((rd_T47 l0_1 x38_3).f2) != 0)), sB, H', ⟨by have := HK1.out; have := HJ8.out; have := HK3.out; have := HJ19.out; first | omega | exact Nat.le_refl _⟩, ⟨rB HO_6⟩, ⟨kB BK133⟩, ⟨kB BK139⟩, ⟨bG⟩⟩
                 ·rw [if_neg c69] at H
                  have c69b0 : (((rd_T47 l0_1 x38_3).f0) == 3) = false := beq_eq_false_iff_ne.mpr c69
                  have c69b1 : (((rd_T47 l0_1 x38_3).f0) != 3) = true := bne_iff_ne.mpr c69
                  by_cases c84 : (((rd_T47 l0_1 x38_3).f4).length : Int) > 0
                  ·rw [if_pos c84] at H
                   have c84b0 : decide (0 < (((rd_T47 l0_1 x38_3).f4).length : Int)) = true := decide_eq_true c84
                   have c84b1 : decide (0 < ((rd_T47 l0_1 x38_3).f4).length) = true := decide_eq_true (by omega)
                   clear c84
                   have H' := xm H
                   clear H
                   have hnb85 := NB139_133.out
                   have hnc85 := NB133_139.out
                   obtain ⟨hcz86_0, hcz86_1, hcz86_2, hcz86_3, hcz86_4, hcz86_5, hfz86_0, hfz86_1, hfz86_2, hfz86_3, hfz86_4, hfz86_5⟩ := cz6 BK139.out
                   go_wp2
                   go_meet
                   case rel => exact ⟨_, (true), sB, H', ⟨by have := HK1.out; have := HJ8.out; have := HK3.out; have := HJ19.out; first | omega | exact Nat.le_refl _⟩, ⟨rB HO_6⟩, ⟨kB BK133⟩, ⟨kB BK139⟩, ⟨bG⟩⟩
                  ·rw [if_neg c84] at H
                   have c84b0 : decide (0 < (((rd_T47 l0_1 x38_3).f4).length : Int)) = false := decide_eq_false c84
                   have c84b1 : decide (0 < ((rd_T47 l0_1 x38_3).f4).length) = false := decide_eq_false (by omega)
                   clear c84
                   by_cases c87 : ((rd_T47 l0_1 x38_3).f0) = 4
                   ·rw [if_pos c87] at H
                    have c87b0 : (((rd_T47 l0_1 x38_3).f0) == 4) = true := beq_iff_eq.mpr c87
                    have c87b1 : (((rd_T47 l0_1 x38_3).f0) != 4) = false := bne_eq_false_iff_eq.mpr c87
                    clear c87
                    by_cases c88 : x9_19 = true
                    ·subst c88
                     have H1 : (spec_l6Check.j4 kj19 x6_3 x38_3 true l0_1 (l0_1.length : Int) x38_3 false l0_0 l0_1 ((rd_T47 l0_1 x38_3).f0) ((rd_T47 l0_1 x38_3).f1) ((rd_T47 l0_1 x38_3).f2) ((rd_T47 l0_1 x38_3).f3) ((rd_T47 l0_1 x38_3).f4) ((rd_T47 l0_1 x38_3).f5)) = some (r1, r2) := by first | (with_reducible rfl) | (rw [if_pos rfl] at H; exact H)
                     clear H
                     have H := H1
                     clear H1
                     have H' := xm H
                     clear H
                     have hnb89 := NB139_133.out
                     have hnc89 := NB133_139.out
                     obtain ⟨hcz90_0, hcz90_1, hcz90_2, hcz90_3, hcz90_4, hcz90_5, hfz90_0, hfz90_1, hfz90_2, hfz90_3, hfz90_4, hfz90_5⟩ := cz6 BK139.out
                     go_wp2
                     go_meet
                     case rel => exact ⟨_, (false), sB, H', ⟨by have := HK1.out; have := HJ8.out; have := HK3.out; have := HJ19.out; first | omega | exact Nat.le_refl _⟩, ⟨rB HO_6⟩, ⟨kB BK133⟩, ⟨kB BK139⟩, ⟨bG⟩⟩
                    ·replace c88 := Bool.eq_false_iff.mpr c88
                     subst c88
                     have H1 : (spec_l6Check.j4 kj19 x6_3 x38_3 false l0_1 (l0_1.length : Int) x38_3 (((rd_T47 l0_1 x38_3).f2) != 0) l0_0 l0_1 ((rd_T47 l0_1 x38_3).f0) ((rd_T47 l0_1 x38_3).f1) ((rd_T47 l0_1 x38_3).f2) ((rd_T47 l0_1 x38_3).f3) ((rd_T47 l0_1 x38_3).f4) ((rd_T47 l0_1 x38_3).f5)) = some (r1, r2) := by first | (with_reducible rfl) | (rw [if_neg (show ¬ (false = true) by decide)] at H; exact H)
                     clear H
                     have H := H1
                     clear H1
                     have H' := xm H
                     clear H
                     have hnb91 := NB139_133.out
                     have hnc91 := NB133_139.out
                     obtain ⟨hcz92_0, hcz92_1, hcz92_2, hcz92_3, hcz92_4, hcz92_5, hfz92_0, hfz92_1, hfz92_2, hfz92_3, hfz92_4, hfz92_5⟩ := cz6 BK139.out
                     go_wp2
                     go_meet
                     case rel => exact ⟨_, ((((rd_T47 l0_1 x38_3).f2) != 0)), sB, H', ⟨by have := HK1.out; have := HJ8.out; have := HK3.out; have := HJ19.out; first | omega | exact Nat.le_refl _⟩, ⟨rB HO_6⟩, ⟨kB BK133⟩, ⟨kB BK139⟩, ⟨bG⟩⟩
                   ·rw [if_neg c87] at H
                    have c87b0 : (((rd_T47 l0_1 x38_3).f0) == 4) = false := beq_eq_false_iff_ne.mpr c87
                    have c87b1 : (((rd_T47 l0_1 x38_3).f0) != 4) = true := bne_iff_ne.mpr c87
                    by_cases c93 : (((rd_T47 l0_1 x38_3).f5).length : Int) > 0
                    ·rw [if_pos c93] at H
                     have c93b0 : decide (0 < (((rd_T47 l0_1 x38_3).f5).length : Int)) = true := decide_eq_true c93
                     have c93b1 : decide (0 < ((rd_T47 l0_1 x38_3).f5).length) = true := decide_eq_true (by omega)
                     clear c93
                     have H' := xm H
                     clear H
                     have hnb94 := NB139_133.out
                     have hnc94 := NB133_139.out
                     obtain ⟨hcz95_0, hcz95_1, hcz95_2, hcz95_3, hcz95_4, hcz95_5, hfz95_0, hfz95_1, hfz95_2, hfz95_3, hfz95_4, hfz95_5⟩ := cz6 BK139.out
                     go_wp2
                     go_meet
                     case rel => exact ⟨_, (true), sB, H', ⟨by have := HK1.out; have := HJ8.out; have := HK3.out; have := HJ19.out; first | omega | exact Nat.le_refl _⟩, ⟨rB HO_6⟩, ⟨kB BK133⟩, ⟨kB BK139⟩, ⟨bG⟩⟩
                    ·rw [if_neg c93] at H
                     have c93b0 : decide (0 < (((rd_T47 l0_1 x38_3).f5).length : Int)) = false := decide_eq_false c93
                     have c93b1 : decide (0 < ((rd_T47 l0_1 x38_3).f5).length) = false := decide_eq_false (by omega)
                     clear c93
                     by_cases c96 : x9_19 = true
                     ·subst c96
                      have H1 : (spec_l6Check.j4 kj19 x6_3 x38_3 true l0_1 (l0_1.length : Int) x38_3 false l0_0 l0_1 ((rd_T47 l0_1 x38_3).f0) ((rd_T47 l0_1 x38_3).f1) ((rd_T47 l0_1 x38_3).f2) ((rd_T47 l0_1 x38_3).f3) ((rd_T47 l0_1 x38_3).f4) ((rd_T47 l0_1 x38_3).f5)) = some (r1, r2) := by first | (with_reducible rfl) | (rw [if_pos rfl] at H; exact H)
                      clear H
                      have H := H1
                      clear H1
                      have H' := xm H
                      clear H
                      have hnb97 := NB139_133.out
                      have hnc97 := NB133_139.out
                      obtain ⟨hcz98_0, hcz98_1, hcz98_2, hcz98_3, hcz98_4, hcz98_5, hfz98_0, hfz98_1, hfz98_2, hfz98_3, hfz98_4, hfz98_5⟩ := cz6 BK139.out
                      go_wp2
                      go_meet
                      case rel => exact ⟨_, (false), sB, H', ⟨by have := HK1.out; have := HJ8.out; have := HK3.out; have := HJ19.out; first | omega | exact Nat.le_refl _⟩, ⟨rB HO_6⟩, ⟨kB BK133⟩, ⟨kB BK139⟩, ⟨bG⟩⟩
                     ·replace c96 := Bool.eq_false_iff.mpr c96
                      subst c96
                      have H1 : (spec_l6Check.j4 kj19 x6_3 x38_3 false l0_1 (l0_1.length : Int) x38_3 (((rd_T47 l0_1 x38_3).f2) != 0) l0_0 l0_1 ((rd_T47 l0_1 x38_3).f0) ((rd_T47 l0_1 x38_3).f1) ((rd_T47 l0_1 x38_3).f2) ((rd_T47 l0_1 x38_3).f3) ((rd_T47 l0_1 x38_3).f4) ((rd_T47 l0_1 x38_3).f5)) = some (r1, r2) := by first | (with_reducible rfl) | (rw [if_neg (show ¬ (false = true) by decide)] at H; exact H)
                      clear H
                      have H := H1
                      clear H1
                      have H' := xm H
                      clear H
                      have hnb99 := NB139_133.out
                      have hnc99 := NB133_139.out
                      obtain ⟨hcz100_0, hcz100_1, hcz100_2, hcz100_3, hcz100_4, hcz100_5, hfz100_0, hfz100_1, hfz100_2, hfz100_3, hfz100_4, hfz100_5⟩ := cz6 BK139.out
                      go_wp2
                      go_meet
                      case rel => exact ⟨_, ((((rd_T47 l0_1 x38_3).f2) != 0)), sB, H', ⟨by have := HK1.out; have := HJ8.out; have := HK3.out; have := HJ19.out; first | omega | exact Nat.le_refl _⟩, ⟨rB HO_6⟩, ⟨kB BK133⟩, ⟨kB BK139⟩, ⟨bG⟩⟩
              case rest =>
               clear HC32
               try clear c1
               try clear p2
               try clear c3
               try clear c4
               try clear c5
               try clear c6
               try clear c7
               try clear c8
               try clear c9
               try clear c13
               try clear c33
               try clear c33b0 c33b1
               try clear c34
               try clear c34b0 c34b1
               try clear c35
               try clear c35b0 c35b1
               try clear c41
               try clear c41b0 c41b1
               try clear c42
               try clear c44
               try clear c45
               try clear c47
               try clear c49
               try clear c49b0 c49b1
               try clear c50
               try clear c52
               try clear c52b0 c52b1
               try clear c53
               try clear c54
               try clear c56
               try clear c58
               try clear c58b0 c58b1
               try clear c59
               try clear c61
               try clear c62
               try clear c64
               try clear c66
               try clear c66b0 c66b1
               try clear c67
               try clear c69
               try clear c69b0 c69b1
               try clear c70
               try clear c70b0 c70b1
               try clear c71
               try clear c72
               try clear c74
               try clear c76
               try clear c76b0 c76b1
               try clear c77
               try clear c79
               try clear c80
               try clear c82
               try clear c84
               try clear c84b0 c84b1
               try clear c85
               try clear c87
               try clear c87b0 c87b1
               try clear c88
               try clear c89
               try clear c91
               try clear c93
               try clear c93b0 c93b1
               try clear c94
               try clear c96
               try clear c97
               try clear c99
               try clear hcz100_0 hcz100_1 hcz100_2 hcz100_3 hcz100_4 hcz100_5
               try clear hcz40_5
               try clear hcz43_0 hcz43_1 hcz43_2 hcz43_3 hcz43_4 hcz43_5
               try clear hcz46_0 hcz46_1 hcz46_2 hcz46_3 hcz46_4 hcz46_5
               try clear hcz48_0 hcz48_1 hcz48_2 hcz48_3 hcz48_4 hcz48_5
               try clear hcz51_0 hcz51_1 hcz51_2 hcz51_3 hcz51_4 hcz51_5
               try clear hcz55_0 hcz55_1 hcz55_2 hcz55_3 hcz55_4 hcz55_5
               try clear hcz57_0 hcz57_1 hcz57_2 hcz57_3 hcz57_4 hcz57_5
               try clear hcz60_0 hcz60_1 hcz60_2 hcz60_3 hcz60_4 hcz60_5
               try clear hcz63_0 hcz63_1 hcz63_2 hcz63_3 hcz63_4 hcz63_5
               try clear hcz65_0 hcz65_1 hcz65_2 hcz65_3 hcz65_4 hcz65_5
               try clear hcz68_0 hcz68_1 hcz68_2 hcz68_3 hcz68_4 hcz68_5
               try clear hcz73_0 hcz73_1 hcz73_2 hcz73_3 hcz73_4 hcz73_5
               try clear hcz75_0 hcz75_1 hcz75_2 hcz75_3 hcz75_4 hcz75_5
               try clear hcz78_0 hcz78_1 hcz78_2 hcz78_3 hcz78_4 hcz78_5
               try clear hcz81_0 hcz81_1 hcz81_2 hcz81_3 hcz81_4 hcz81_5
               try clear hcz83_0 hcz83_1 hcz83_2 hcz83_3 hcz83_4 hcz83_5
               try clear hcz86_0 hcz86_1 hcz86_2 hcz86_3 hcz86_4 hcz86_5
               try clear hcz90_0 hcz90_1 hcz90_2 hcz90_3 hcz90_4 hcz90_5
               try clear hcz92_0 hcz92_1 hcz92_2 hcz92_3 hcz92_4 hcz92_5
               try clear hcz95_0 hcz95_1 hcz95_2 hcz95_3 hcz95_4 hcz95_5
               try clear hcz98_0 hcz98_1 hcz98_2 hcz98_3 hcz98_4 hcz98_5
               try clear hfz100_0 hfz100_1 hfz100_2 hfz100_3 hfz100_4 hfz100_5
               try clear hfz40_0 hfz40_1 hfz40_2 hfz40_3 hfz40_4 hfz40_5
               try clear hfz43_0 hfz43_1 hfz43_2 hfz43_3 hfz43_4 hfz43_5
               try clear hfz46_0 hfz46_1 hfz46_2 hfz46_3 hfz46_4 hfz46_5
               try clear hfz48_0 hfz48_1 hfz48_2 hfz48_3 hfz48_4 hfz48_5
               try clear hfz51_0 hfz51_1 hfz51_2 hfz51_3 hfz51_4 hfz51_5
               try clear hfz55_0 hfz55_1 hfz55_2 hfz55_3 hfz55_4 hfz55_5
               try clear hfz57_0 hfz57_1 hfz57_2 hfz57_3 hfz57_4 hfz57_5
               try clear hfz60_0 hfz60_1 hfz60_2 hfz60_3 hfz60_4 hfz60_5
               try clear hfz63_0 hfz63_1 hfz63_2 hfz63_3 hfz63_4 hfz63_5
               try clear hfz65_0 hfz65_1 hfz65_2 hfz65_3 hfz65_4 hfz65_5
               try clear hfz68_0 hfz68_1 hfz68_2 hfz68_3 hfz68_4 hfz68_5
               try clear hfz73_0 hfz73_1 hfz73_2 hfz73_3 hfz73_4 hfz73_5
               try clear hfz75_0 hfz75_1 hfz75_2 hfz75_3 hfz75_4 hfz75_5
               try clear hfz78_0 hfz78_1 hfz78_2 hfz78_3 hfz78_4 hfz78_5
               try clear hfz81_0 hfz81_1 hfz81_2 hfz81_3 hfz81_4 hfz81_5
               try clear hfz83_0 hfz83_1 hfz83_2 hfz83_3 hfz83_4 hfz83_5
               try clear hfz86_0 hfz86_1 hfz86_2 hfz86_3 hfz86_4 hfz86_5
               try clear hfz90_0 hfz90_1 hfz90_2 hfz90_3 hfz90_4 hfz90_5
               try clear hfz92_0 hfz92_1 hfz92_2 hfz92_3 hfz92_4 hfz92_5
               try clear hfz95_0 hfz95_1 hfz95_2 hfz95_3 hfz95_4 hfz95_5
               try clear hfz98_0 hfz98_1 hfz98_2 hfz98_3 hfz98_4 hfz98_5
               obtain ⟨kq, x95_31, rfl, HA, HJ31, HO_6, BK133, BK139, HB⟩ := hcut
               cases kq with
               | zero => exact absurd HA.out (by simp [spec_l6Check.j4])
               | succ kj31 =>
                have H := HA.out
                clear HA
                simp only [spec_l6Check.j4] at H
                by_cases c101 : x95_31 = true
                ·subst c101
                 have H1 : (some (([] : List Int), false)) = some (r1, r2) := by first | (with_reducible rfl) | (rw [if_pos rfl] at H; exact H)
                 clear H
                 have H := H1
                 clear H1
                 simp only [Option.some.injEq, Prod.mk.injEq] at H
                 obtain ⟨rfl, rfl⟩ := H
                 go_wp2
                 go_ret2
                 exact ⟨_, eB, by first | exact Kd.R_nil _ _ _ _ _ | exact Kd.N_nil _ _ _ _ _ | exact Kd.V_nil _ _ _ _ _ | exact Kd.Q_nil _ _ _ _ _ | exact Kd.S_nil _ _ _ _ _, bG⟩
                ·replace c101 := Bool.eq_false_iff.mpr c101
                 subst c101
                 have H1 : (if ((rd_T47 l0_1 x38_3).f0) = 1 then (if ((rd_T47 l0_1 x38_3).f1) < 0 then (some (([] : List Int), false)) else (if ((rd_T47 l0_1 x38_3).f1) ≥ (l0_0.length : Int) then (some (([] : List Int), false)) else (if 0 ≤ ((rd_T47 l0_1 x38_3).f1) then (if ((rd_T47 l0_1 x38_3).f1) < (l0_0.length : Int) then (if x6_3.length < 17592186044416 then (spec_l6Check.l1 kj31 (x6_3 ++ [rd l0_0 ((rd_T47 l0_1 x38_3).f1)]) l0_1 (l0_1.length : Int) (wrap64 (x38_3 + 1)) l0_0 l0_1) else (none)) else (none)) else (none)))) else (if ((rd_T47 l0_1 x38_3).f1) < 0 then (spec_l6Check.j5 kj31 x6_3 l0_1 (l0_1.length : Int) x38_3 true l0_0 l0_1 ((rd_T47 l0_1 x38_3).f0) ((rd_T47 l0_1 x38_3).f1) ((rd_T47 l0_1 x38_3).f2) ((rd_T47 l0_1 x38_3).f3) ((rd_T47 l0_1 x38_3).f4) ((rd_T47 l0_1 x38_3).f5)) else (if ((rd_T47 l0_1 x38_3).f1) ≥ x38_3 then (spec_l6Check.j5 kj31 x6_3 l0_1 (l0_1.length : Int) x38_3 true l0_0 l0_1 ((rd_T47 l0_1 x38_3).f0) ((rd_T47 l0_1 x38_3).f1) ((rd_T47 l0_1 x38_3).f2) ((rd_T47 l0_1 x38_3).f3) ((rd_T47 l0_1 x38_3).f4) ((rd_T47 l0_1 x38_3).f5)) else (if x9_19 = true then (if ((rd_T47 l0_1 x38_3).f2) < 0 then (spec_l6Check.j5 kj31 x6_3 l0_1 (l0_1.length : Int) x38_3 true l0_0 l0_1 ((rd_T47 l0_1 x38_3).f0) ((rd_T47 l0_1 x38_3).f1) ((rd_T47 l0_1 x38_3).f2) ((rd_T47 l0_1 x38_3).f3) ((rd_T47 l0_1 x38_3).f4) ((rd_T47 l0_1 x38_3).f5)) else (spec_l6Check.j5 kj31 x6_3 l0_1 (l0_1.length : Int) x38_3 (decide (((rd_T47 l0_1 x38_3).f2) ≥ x38_3)) l0_0 l0_1 ((rd_T47 l0_1 x38_3).f0) ((rd_T47 l0_1 x38_3).f1) ((rd_T47 l0_1 x38_3).f2) ((rd_T47 l0_1 x38_3).f3) ((rd_T47 l0_1 x38_3).f4) ((rd_T47 l0_1 x38_3).f5))) else (spec_l6Check.j5 kj31 x6_3 l0_1 (l0_1.length : Int) x38_3 false l0_0 l0_1 ((rd_T47 l0_1 x38_3).f0) ((rd_T47 l0_1 x38_3).f1) ((rd_T47 l0_1 x38_3).f2) ((rd_T47 l0_1 x38_3).f3) ((rd_T47 l0_1 x38_3).f4) ((rd_T47 l0_1 x38_3).f5)))))) = some (r1, r2) := by first | (with_reducible rfl) | (rw [if_neg (show ¬ (false = true) by decide)] at H; exact H)
                 clear H
                 have H := H1
                 clear H1
                 by_cases c102 : ((rd_T47 l0_1 x38_3).f0) = 1
                 ·rw [if_pos c102] at H
                  have c102b0 : (((rd_T47 l0_1 x38_3).f0) == 1) = true := beq_iff_eq.mpr c102
                  have c102b1 : (((rd_T47 l0_1 x38_3).f0) != 1) = false := bne_eq_false_iff_eq.mpr c102
                  clear c102
                  by_cases c103 : ((rd_T47 l0_1 x38_3).f1) < 0
                  ·rw [if_pos c103] at H
                   have c103b0 : decide (((rd_T47 l0_1 x38_3).f1) < 0) = true := decide_eq_true c103
                   clear c103
                   simp only [Option.some.injEq, Prod.mk.injEq] at H
                   obtain ⟨rfl, rfl⟩ := H
                   have hnb104 := NB139_133.out
                   have hnc104 := NB133_139.out
                   obtain ⟨hcz105_0, hcz105_1, hcz105_2, hcz105_3, hcz105_4, hcz105_5, hfz105_0, hfz105_1, hfz105_2, hfz105_3, hfz105_4, hfz105_5⟩ := cz6 BK139.out
                   go_wp2
                   go_ret2
                   exact ⟨_, eB, by first | exact Kd.R_nil _ _ _ _ _ | exact Kd.N_nil _ _ _ _ _ | exact Kd.V_nil _ _ _ _ _ | exact Kd.Q_nil _ _ _ _ _ | exact Kd.S_nil _ _ _ _ _, bG⟩
                  ·rw [if_neg c103] at H
                   have c103b0 : decide (((rd_T47 l0_1 x38_3).f1) < 0) = false := decide_eq_false c103
                   clear c103
                   by_cases c106 : ((rd_T47 l0_1 x38_3).f1) ≥ (l0_0.length : Int)
                   ·rw [if_pos c106] at H
                    have c106b0 : decide ((l0_0.length : Int) ≤ ((rd_T47 l0_1 x38_3).f1)) = true := decide_eq_true c106
                    clear c106
                    simp only [Option.some.injEq, Prod.mk.injEq] at H
                    obtain ⟨rfl, rfl⟩ := H
                    have hnb107 := NB139_133.out
                    have hnc107 := NB133_139.out
                    obtain ⟨hcz108_0, hcz108_1, hcz108_2, hcz108_3, hcz108_4, hcz108_5, hfz108_0, hfz108_1, hfz108_2, hfz108_3, hfz108_4, hfz108_5⟩ := cz6 BK139.out
                    obtain ⟨hcz109_0, hcz109_1, hfz109_0, hfz109_1⟩ := cz2 BK133.out
                    go_wp2
                    go_ret2
                    exact ⟨_, eB, by first | exact Kd.R_nil _ _ _ _ _ | exact Kd.N_nil _ _ _ _ _ | exact Kd.V_nil _ _ _ _ _ | exact Kd.Q_nil _ _ _ _ _ | exact Kd.S_nil _ _ _ _ _, bG⟩
                   ·rw [if_neg c106] at H
                    have c106b0 : decide ((l0_0.length : Int) ≤ ((rd_T47 l0_1 x38_3).f1)) = false := decide_eq_false c106
                    clear c106
                    by_cases c110 : 0 ≤ ((rd_T47 l0_1 x38_3).f1)
                    ·rw [if_pos c110] at H
                     have c110b0 : decide (0 ≤ ((rd_T47 l0_1 x38_3).f1)) = true := decide_eq_true c110
                     clear c110
                     by_cases c111 : ((rd_T47 l0_1 x38_3).f1) < (l0_0.length : Int)
                     ·rw [if_pos c111] at H
                      have c111b0 : decide (((rd_T47 l0_1 x38_3).f1) < (l0_0.length : Int)) = true := decide_eq_true c111
                      clear c111
                      by_cases c112 : x6_3.length < 17592186044416
                      ·rw [if_pos c112] at H
                       have LMc112 := xm c112
                       clear c112
                       obtain ⟨y141, hy141⟩ : ∃ y_ : List Int, y_ = (x6_3 ++ [rd l0_0 ((rd_T47 l0_1 x38_3).f1)]) := ⟨_, rfl⟩
                       replace H : (spec_l6Check.l1 kj31 y141 l0_1 (l0_1.length : Int) (wrap64 (x38_3 + 1)) l0_0 l0_1) = some (r1, r2) := by first | (rw [hy141]; with_reducible exact H) | (have H2_ := (Option.bind_some _ _).symm.trans H; rw [hy141]; with_reducible exact H2_) | (have H2_ := (Option.bind_some _ _).symm.trans H; with_reducible exact H2_) | with_reducible exact H | (rw [hy141]; exact H) | exact H
                       have Ny141 := xm hy141
                       clear hy141
                       have H' := xm H
                       clear H
                       have hnb113 := NB139_133.out
                       have hnc113 := NB133_139.out
                       obtain ⟨hcz114_0, hcz114_1, hcz114_2, hcz114_3, hcz114_4, hcz114_5, hfz114_0, hfz114_1, hfz114_2, hfz114_3, hfz114_4, hfz114_5⟩ := cz6 BK139.out
                       obtain ⟨hcz115_0, hcz115_1, hfz115_0, hfz115_1⟩ := cz2 BK133.out
                       have p140 : 0 ≤ (((rd_T47 l0_1 x38_3).f1) : Int) := of_decide_eq_true aB
                       have q140 : ((rd_T47 l0_1 x38_3).f1) < (l0_0.length : Int) := of_decide_eq_true aB
                       obtain ⟨ad140, e140, hx140_0⟩ := Kd.at_int HR0_0.out ((rd_T47 l0_1 x38_3).f1) p140 q140
                       cases e140
                       replace hx140_0 := hU hx140_0
                       replace p140 := eq_true p140
                       replace q140 := eq_true q140
                       go_wp2_with (first | ((with_reducible refine gate_builtin (b := .append) (xs := #[.tmp 110, .tmp 117]) rfl ?_); (try (refine gate_guard (by rfl) ?_; dsimp only)); at_builtin; refine Kd.R_append (Kd.int .i64) (w0 := w) w.heap.size rfl (.tmp 110) (.tmp 117) 22 3 (.int .i64 0) 8 rfl Try.underlying22 info3 rfl (by decide) (by omega) u6 x6_3 (rd l0_0 ((rd_T47 l0_1 x38_3).f1)) [.int .i64 (rd l0_0 ((rd_T47 l0_1 x38_3).f1))] (fun _ => True) (fun _ => False) rfl rfl ?aP (fun _ hk => hk.elim) ?aF ?aO ?aB ?aS ?aL ?_; (case aP => exact rfl); (case aB => exact bG); (case aF => exact (fun _ _ => trivial)); (case aO => exact (rB HO_6)); (case aS => exact (xz bG)); (case aL => have := LMc112.out; omega); intro v142 w116 ho hb hg hat; rw [← Ny141.out] at ho; have n0_ := xm (blk_grown (kB BK133) hg (Kd.R_ne HO_6.out BK133.out (by decide))); have n1_ := xm (blk_grown (kB BK139) hg (Kd.R_ne HO_6.out BK139.out (by decide))); have n2_ := xm (hb); have n3_ := xm (ho); revert n0_ n1_ n2_ n3_; clear BK133 BK139 HB HO_6; intro BK133 BK139 HB HO143; clear ho hb hg hat))
                       go_roundg kj31
                       case measure => have := HK1.out; have := HJ8.out; have := HK3.out; have := HJ19.out; have := HJ31.out; omega
                       case rel => exact ⟨(y141), (wrap64 (x38_3 + 1)), sB, H', ⟨by have := HK1.out; have := HJ8.out; have := HK3.out; have := HJ19.out; have := HJ31.out; omega⟩, ⟨rB HO143⟩, ⟨kB BK133⟩, ⟨bG⟩⟩
                      ·rw [if_neg c112] at H
                       exact absurd H (by simp)
                     ·rw [if_neg c111] at H
                      exact absurd H (by simp)
                    ·rw [if_neg c110] at H
                     exact absurd H (by simp)
                 ·rw [if_neg c102] at H
                  have c102b0 : (((rd_T47 l0_1 x38_3).f0) == 1) = false := beq_eq_false_iff_ne.mpr c102
                  have c102b1 : (((rd_T47 l0_1 x38_3).f0) != 1) = true := bne_iff_ne.mpr c102
                  have HC117 := xm H
                  clear H
                  have hnb118 := NB139_133.out
                  have hnc118 := NB133_139.out
                  obtain ⟨hcz119_0, hcz119_1, hcz119_2, hcz119_3, hcz119_4, hcz119_5, hfz119_0, hfz119_1, hfz119_2, hfz119_3, hfz119_4, hfz119_5⟩ := cz6 BK139.out
                  go_upto_region 20 with (fail)
                  go_cut [141] (fun v141 wc => ∃ (kq : Nat) (x141_116 : Bool), v141 = .bool x141_116 ∧ Aside0 (spec_l6Check.j5 kq x6_3 l0_1 (l0_1.length : Int) x38_3 x141_116 l0_0 l0_1 ((rd_T47 l0_1 x38_3).f0) ((rd_T47 l0_1 x38_3).f1) ((rd_T47 l0_1 x38_3).f2) ((rd_T47 l0_1 x38_3).f3) ((rd_T47 l0_1 x38_3).f4) ((rd_T47 l0_1 x38_3).f5) = some (r1, r2)) ∧ Aside0 (kq ≤ kj31) ∧ Aside0 (Kd.R (Kd.int .i64) 3 wc w.heap.size (fun _ => True) u6 x6_3) ∧ Aside0 (wc.heap[gb133]? = some (.cells #[(.slice A0_0 l0_0.length c0_0), (.slice (some ad138) l0_1.length c0_1)] 31 (0, 0))) ∧ Aside0 (wc.heap[gb139]? = some (.cells #[.int .i64 ((rd_T47 l0_1 x38_3).f0), .int .i64 ((rd_T47 l0_1 x38_3).f1), .int .i64 ((rd_T47 l0_1 x38_3).f2), (.slice A138_3 ((rd_T47 l0_1 x38_3).f3).length c138_3), (.slice A138_4 ((rd_T47 l0_1 x38_3).f4).length c138_4), (.slice A138_5 ((rd_T47 l0_1 x38_3).f5).length c138_5)] 47 (0, 0))) ∧ Aside0 (Below w.heap.size w wc))
                  case first =>
                   have H := HC117.out
                   clear HC117
                   by_cases c120 : ((rd_T47 l0_1 x38_3).f1) < 0
                   ·rw [if_pos c120] at H
                    have c120b0 : decide (((rd_T47 l0_1 x38_3).f1) < 0) = true := decide_eq_true c120
                    clear c120
                    (first | rw [c120b0] | (simp only [i64_w, i32_w]; rw [c120b0]) | skip)
                    have H' := xm H
                    clear H
                    have hnb121 := NB139_133.out
                    have hnc121 := NB133_139.out
                    obtain ⟨hcz122_0, hcz122_1, hcz122_2, hcz122_3, hcz122_4, hcz122_5, hfz122_0, hfz122_1, hfz122_2, hfz122_3, hfz122_4, hfz122_5⟩ := cz6 BK139.out
                    go_wp2
                    go_meet
                    case rel => exact ⟨_, (true), sB, H', ⟨by have := HK1.out; have := HJ8.out; have := HK3.out; have := HJ19.out; have := HJ31.out; first | omega | exact Nat.le_refl _⟩, ⟨rB HO_6⟩, ⟨kB BK133⟩, ⟨kB BK139⟩, ⟨bG⟩⟩
                   ·rw [if_neg c120] at H
                    have c120b0 : decide (((rd_T47 l0_1 x38_3).f1) < 0) = false := decide_eq_false c120
                    clear c120
                    (first | rw [c120b0] | (simp only [i64_w, i32_w]; rw [c120b0]) | skip)
                    by_cases c123 : ((rd_T47 l0_1 x38_3).f1) ≥ x38_3
                    ·rw [if_pos c123] at H
                     have c123b0 : decide (x38_3 ≤ ((rd_T47 l0_1 x38_3).f1)) = true := decide_eq_true c123
                     clear c123
                     have H' := xm H
                     clear H
                     have hnb124 := NB139_133.out
                     have hnc124 := NB133_139.out
                     obtain ⟨hcz125_0, hcz125_1, hcz125_2, hcz125_3, hcz125_4, hcz125_5, hfz125_0, hfz125_1, hfz125_2, hfz125_3, hfz125_4, hfz125_5⟩ := cz6 BK139.out
                     go_wp2
                     go_meet
                     case rel => exact ⟨_, (true), sB, H', ⟨by have := HK1.out; have := HJ8.out; have := HK3.out; have := HJ19.out; have := HJ31.out; first | omega | exact Nat.le_refl _⟩, ⟨rB HO_6⟩, ⟨kB BK133⟩, ⟨kB BK139⟩, ⟨bG⟩⟩
                    ·rw [if_neg c123] at H
                     have c123b0 : decide (x38_3 ≤ ((rd_T47 l0_1 x38_3).f1)) = false := decide_eq_false c123
                     clear c123
                     by_cases c126 : x9_19 = true
                     ·subst c126
                      have H1 : (if ((rd_T47 l0_1 x38_3).f2) < 0 then (spec_l6Check.j5 kj31 x6_3 l0_1 (l0_1.length : Int) x38_3 true l0_0 l0_1 ((rd_T47 l0_1 x38_3).f0) ((rd_T47 l0_1 x38_3).f1) ((rd_T47 l0_1 x38_3).f2) ((rd_T47 l0_1 x38_3).f3) ((rd_T47 l0_1 x38_3).f4) ((rd_T47 l0_1 x38_3).f5)) else (spec_l6Check.j5 kj31 x6_3 l0_1 (l0_1.length : Int) x38_3 (decide (((rd_T47 l0_1 x38_3).f2) ≥ x38_3)) l0_0 l0_1 ((rd_T47 l0_1 x38_3).f0) ((rd_T47 l0_1 x38_3).f1) ((rd_T47 l0_1 x38_3).f2) ((rd_T47 l0_1 x38_3).f3) ((rd_T47 l0_1 x38_3).f4) ((rd_T47 l0_1 x38_3).f5))) = some (r1, r2) := by first | (with_reducible rfl) | (rw [if_pos rfl] at H; exact H)
                      clear H
                      have H := H1
                      clear H1
                      by_cases c127 : ((rd_T47 l0_1 x38_3).f2) < 0
                      ·rw [if_pos c127] at H
                       have c127b0 : decide (((rd_T47 l0_1 x38_3).f2) < 0) = true := decide_eq_true c127
                       clear c127
                       have H' := xm H
                       clear H
                       have hnb128 := NB139_133.out
                       have hnc128 := NB133_139.out
                       obtain ⟨hcz129_0, hcz129_1, hcz129_2, hcz129_3, hcz129_4, hcz129_5, hfz129_0, hfz129_1, hfz129_2, hfz129_3, hfz129_4, hfz129_5⟩ := cz6 BK139.out
                       go_wp2
                       go_meet
                       case rel => exact ⟨_, (true), sB, H', ⟨by have := HK1.out; have := HJ8.out; have := HK3.out; have := HJ19.out; have := HJ31.out; first | omega | exact Nat.le_refl _⟩, ⟨rB HO_6⟩, ⟨kB BK133⟩, ⟨kB BK139⟩, ⟨bG⟩⟩
                      ·rw [if_neg c127] at H
                       have c127b0 : decide (((rd_T47 l0_1 x38_3).f2) < 0) = false := decide_eq_false c127
                       clear c127
                       have H' := xm H
                       clear H
                       have hnb130 := NB139_133.out
                       have hnc130 := NB133_139.out
                       obtain ⟨hcz131_0, hcz131_1, hcz131_2, hcz131_3, hcz131_4, hcz131_5, hfz131_0, hfz131_1, hfz131_2, hfz131_3, hfz131_4, hfz131_5⟩ := cz6 BK139.out
                       go_wp2
                       go_meet
                       case rel => exact ⟨_, (decide (((rd_T47 l0_1 x38_3).f2) ≥ x38_3)), sB, H', ⟨by have := HK1.out; have := HJ8.out; have := HK3.out; have := HJ19.out; have := HJ31.out; first | omega | exact Nat.le_refl _⟩, ⟨rB HO_6⟩, ⟨kB BK133⟩, ⟨kB BK139⟩, ⟨bG⟩⟩
                     ·replace c126 := Bool.eq_false_iff.mpr c126
                      subst c126
                      have H1 : (spec_l6Check.j5 kj31 x6_3 l0_1 (l0_1.length : Int) x38_3 false l0_0 l0_1 ((rd_T47 l0_1 x38_3).f0) ((rd_T47 l0_1 x38_3).f1) ((rd_T47 l0_1 x38_3).f2) ((rd_T47 l0_1 x38_3).f3) ((rd_T47 l0_1 x38_3).f4) ((rd_T47 l0_1 x38_3).f5)) = some (r1, r2) := by first | (with_reducible rfl) | (rw [if_neg (show ¬ (false = true) by decide)] at H; exact H)
                      clear H
                      have H := H1
                      clear H1
                      have H' := xm H
                      clear H
                      have hnb132 := NB139_133.out
                      have hnc132 := NB133_139.out
                      obtain ⟨hcz133_0, hcz133_1, hcz133_2, hcz133_3, hcz133_4, hcz133_5, hfz133_0, hfz133_1, hfz133_2, hfz133_3, hfz133_4, hfz133_5⟩ := cz6 BK139.out
                      go_wp2
                      go_meet
                      case rel => exact ⟨_, (false), sB, H', ⟨by have := HK1.out; have := HJ8.out; have := HK3.out; have := HJ19.out; have := HJ31.out; first | omega | exact Nat.le_refl _⟩, ⟨rB HO_6⟩, ⟨kB BK133⟩, ⟨kB BK139⟩, ⟨bG⟩⟩
                  case rest =>
                   clear HC117
                   try clear c1
                   try clear p1
                   try clear q1
                   try clear hx1
                   try clear p2
                   try clear c5
                   try clear c6
                   try clear p6
                   try clear c7
                   try clear c8
                   try clear c9
                   try clear c10
                   try clear c11
                   try clear c12
                   try clear c13
                   try clear p14
                   try clear q14
                   try clear hx14
                   try clear c53
                   try clear c54
                   try clear c56
                   try clear c58
                   try clear c58b0 c58b1
                   try clear c59
                   try clear c61
                   try clear c62
                   try clear c64
                   try clear p64
                   try clear c66
                   try clear c66b0 c66b1
                   try clear c67
                   try clear c69
                   try clear c69b0 c69b1
                   try clear c70
                   try clear c70b0 c70b1
                   try clear c71
                   try clear c72
                   try clear c74
                   try clear c76
                   try clear c76b0 c76b1
                   try clear c77
                   try clear c79
                   try clear c80
                   try clear c82
                   try clear c84
                   try clear c84b0 c84b1
                   try clear c85
                   try clear c87
                   try clear c87b0 c87b1
                   try clear c88
                   try clear c89
                   try clear c91
                   try clear c93
                   try clear c93b0 c93b1
                   try clear c94
                   try clear c96
                   try clear c97
                   try clear c99
                   try clear c101
                   try clear c102
                   try clear c102b0 c102b1
                   try clear c103
                   try clear c103b0
                   try clear c104
                   try clear c106
                   try clear c106b0
                   try clear c107
                   try clear c110
                   try clear c110b0
                   try clear c111
                   try clear c111b0
                   try clear c112
                   try clear c113
                   try clear c118
                   try clear c120
                   try clear c120b0
                   try clear c121
                   try clear c123
                   try clear c123b0
                   try clear c124
                   try clear c126
                   try clear c127
                   try clear c127b0
                   try clear c128
                   try clear c130
                   try clear c132
                   try clear hcz100_0 hcz100_1 hcz100_2 hcz100_3 hcz100_4 hcz100_5
                   try clear hcz105_0 hcz105_1 hcz105_2 hcz105_3 hcz105_4 hcz105_5
                   try clear hcz108_0 hcz108_1 hcz108_2 hcz108_3 hcz108_4 hcz108_5
                   try clear hcz109_0 hcz109_1
                   try clear hcz114_0 hcz114_1 hcz114_2 hcz114_3 hcz114_4 hcz114_5
                   try clear hcz115_0 hcz115_1
                   try clear hcz119_0 hcz119_1 hcz119_2 hcz119_3 hcz119_4 hcz119_5
                   try clear hcz122_0 hcz122_1 hcz122_2 hcz122_3 hcz122_4 hcz122_5
                   try clear hcz125_0 hcz125_1 hcz125_2 hcz125_3 hcz125_4 hcz125_5
                   try clear hcz129_0 hcz129_1 hcz129_2 hcz129_3 hcz129_4 hcz129_5
                   try clear hcz131_0 hcz131_1 hcz131_2 hcz131_3 hcz131_4 hcz131_5
                   try clear hcz133_0 hcz133_1 hcz133_2 hcz133_3 hcz133_4 hcz133_5
                   try clear hcz40_5
                   try clear hcz43_0 hcz43_1 hcz43_2 hcz43_3 hcz43_4 hcz43_5
                   try clear hcz46_0 hcz46_1 hcz46_2 hcz46_3 hcz46_4 hcz46_5
                   try clear hcz48_0 hcz48_1 hcz48_2 hcz48_3 hcz48_4 hcz48_5
                   try clear hcz51_0 hcz51_1 hcz51_2 hcz51_3 hcz51_4 hcz51_5
                   try clear hcz55_0 hcz55_1 hcz55_2 hcz55_3 hcz55_4 hcz55_5
                   try clear hcz57_0 hcz57_1 hcz57_2 hcz57_3 hcz57_4 hcz57_5
                   try clear hcz60_0 hcz60_1 hcz60_2 hcz60_3 hcz60_4 hcz60_5
                   try clear hcz63_0 hcz63_1 hcz63_2 hcz63_3 hcz63_4 hcz63_5
                   try clear hcz65_0 hcz65_1 hcz65_2 hcz65_3 hcz65_4 hcz65_5
                   try clear hcz68_0 hcz68_1 hcz68_2 hcz68_3 hcz68_4 hcz68_5
                   try clear hcz73_0 hcz73_1 hcz73_2 hcz73_3 hcz73_4 hcz73_5
                   try clear hcz75_0 hcz75_1 hcz75_2 hcz75_3 hcz75_4 hcz75_5
                   try clear hcz78_0 hcz78_1 hcz78_2 hcz78_3 hcz78_4 hcz78_5
                   try clear hcz81_0 hcz81_1 hcz81_2 hcz81_3 hcz81_4 hcz81_5
                   try clear hcz83_0 hcz83_1 hcz83_2 hcz83_3 hcz83_4 hcz83_5
                   try clear hcz86_0 hcz86_1 hcz86_2 hcz86_3 hcz86_4 hcz86_5
                   try clear hcz90_0 hcz90_1 hcz90_2 hcz90_3 hcz90_4 hcz90_5
                   try clear hcz92_0 hcz92_1 hcz92_2 hcz92_3 hcz92_4 hcz92_5
                   try clear hcz95_0 hcz95_1 hcz95_2 hcz95_3 hcz95_4 hcz95_5
                   try clear hcz98_0 hcz98_1 hcz98_2 hcz98_3 hcz98_4 hcz98_5
                   try clear hfz100_0 hfz100_1 hfz100_2 hfz100_3 hfz100_4 hfz100_5
                   try clear hfz105_0 hfz105_1 hfz105_2 hfz105_3 hfz105_4 hfz105_5
                   try clear hfz108_0 hfz108_1 hfz108_2 hfz108_3 hfz108_4 hfz108_5
                   try clear hfz109_0 hfz109_1
                   try clear hfz114_0 hfz114_1 hfz114_2 hfz114_3 hfz114_4 hfz114_5
                   try clear hfz115_0 hfz115_1
                   try clear hfz119_0 hfz119_1 hfz119_2 hfz119_3 hfz119_4 hfz119_5
                   try clear hfz122_0 hfz122_1 hfz122_2 hfz122_3 hfz122_4 hfz122_5
                   try clear hfz125_0 hfz125_1 hfz125_2 hfz125_3 hfz125_4 hfz125_5
                   try clear hfz129_0 hfz129_1 hfz129_2 hfz129_3 hfz129_4 hfz129_5
                   try clear hfz131_0 hfz131_1 hfz131_2 hfz131_3 hfz131_4 hfz131_5
                   try clear hfz133_0 hfz133_1 hfz133_2 hfz133_3 hfz133_4 hfz133_5
                   try clear hfz40_0 hfz40_1 hfz40_2 hfz40_3 hfz40_4 hfz40_5
                   try clear hfz43_0 hfz43_1 hfz43_2 hfz43_3 hfz43_4 hfz43_5
                   try clear hfz46_0 hfz46_1 hfz46_2 hfz46_3 hfz46_4 hfz46_5
                   try clear hfz48_0 hfz48_1 hfz48_2 hfz48_3 hfz48_4 hfz48_5
                   try clear hfz51_0 hfz51_1 hfz51_2 hfz51_3 hfz51_4 hfz51_5
                   try clear hfz55_0 hfz55_1 hfz55_2 hfz55_3 hfz55_4 hfz55_5
                   try clear hfz57_0 hfz57_1 hfz57_2 hfz57_3 hfz57_4 hfz57_5
                   try clear hfz60_0 hfz60_1 hfz60_2 hfz60_3 hfz60_4 hfz60_5
                   try clear hfz63_0 hfz63_1 hfz63_2 hfz63_3 hfz63_4 hfz63_5
                   try clear hfz65_0 hfz65_1 hfz65_2 hfz65_3 hfz65_4 hfz65_5
                   try clear hfz68_0 hfz68_1 hfz68_2 hfz68_3 hfz68_4 hfz68_5
                   try clear hfz73_0 hfz73_1 hfz73_2 hfz73_3 hfz73_4 hfz73_5
                   try clear hfz75_0 hfz75_1 hfz75_2 hfz75_3 hfz75_4 hfz75_5
                   try clear hfz78_0 hfz78_1 hfz78_2 hfz78_3 hfz78_4 hfz78_5
                   try clear hfz81_0 hfz81_1 hfz81_2 hfz81_3 hfz81_4 hfz81_5
                   try clear hfz83_0 hfz83_1 hfz83_2 hfz83_3 hfz83_4 hfz83_5
                   try clear hfz86_0 hfz86_1 hfz86_2 hfz86_3 hfz86_4 hfz86_5
                   try clear hfz90_0 hfz90_1 hfz90_2 hfz90_3 hfz90_4 hfz90_5
                   try clear hfz92_0 hfz92_1 hfz92_2 hfz92_3 hfz92_4 hfz92_5
                   try clear hfz95_0 hfz95_1 hfz95_2 hfz95_3 hfz95_4 hfz95_5
                   try clear hfz98_0 hfz98_1 hfz98_2 hfz98_3 hfz98_4 hfz98_5
                   try clear hx140_0
                   try clear p140
                   try clear q140
                   obtain ⟨kq, x141_116, rfl, HA, HJ116, HO_6, BK133, BK139, HB⟩ := hcut
                   cases kq with
                   | zero => exact absurd HA.out (by simp [spec_l6Check.j5])
                   | succ kj116 =>
                    have H := HA.out
                    clear HA
                    simp only [spec_l6Check.j5] at H
                    by_cases c134 : x141_116 = true
                    ·subst c134
                     have H1 : (some (([] : List Int), false)) = some (r1, r2) := by first | (with_reducible rfl) | (rw [if_pos rfl] at H; exact H)
                     clear H
                     have H := H1
                     clear H1
                     simp only [Option.some.injEq, Prod.mk.injEq] at H
                     obtain ⟨rfl, rfl⟩ := H
                     go_wp2
                     go_ret2
                     exact ⟨_, eB, by first | exact Kd.R_nil _ _ _ _ _ | exact Kd.N_nil _ _ _ _ _ | exact Kd.V_nil _ _ _ _ _ | exact Kd.Q_nil _ _ _ _ _ | exact Kd.S_nil _ _ _ _ _, bG⟩
                    ·replace c134 := Bool.eq_false_iff.mpr c134
                     subst c134
                     have H1 : ((spec_l6Columns.f kj116 ((rd_T47 l0_1 x38_3).f0) ((rd_T47 l0_1 x38_3).f1) ((rd_T47 l0_1 x38_3).f2) ((rd_T47 l0_1 x38_3).f3) ((rd_T47 l0_1 x38_3).f4) ((rd_T47 l0_1 x38_3).f5) x6_3).bind fun bt144 => (if bt144.2 = true then (if x6_3.length < 17592186044416 then (spec_l6Check.l1 kj116 (x6_3 ++ [bt144.1]) l0_1 (l0_1.length : Int) (wrap64 (x38_3 + 1)) l0_0 l0_1) else (none)) else (some (([] : List Int), false)))) = some (r1, r2) := by first | (with_reducible rfl) | (rw [if_neg (show ¬ (false = true) by decide)] at H; exact H)
                     clear H
                     have H := H1
                     clear H1
                     replace H := Option.bind_eq_some_iff.mp H
                     obtain ⟨⟨t144, t145⟩, A1350, H⟩ := H
                     replace H : (if t145 = true then (if x6_3.length < 17592186044416 then (spec_l6Check.l1 kj116 (x6_3 ++ [t144]) l0_1 (l0_1.length : Int) (wrap64 (x38_3 + 1)) l0_0 l0_1) else (none)) else (some (([] : List Int), false))) = some (r1, r2) := H
                     have A135 := xm A1350
                     clear A1350
                     by_cases c136 : t145 = true
                     ·subst c136
                      have H1 : (if x6_3.length < 17592186044416 then (spec_l6Check.l1 kj116 (x6_3 ++ [t144]) l0_1 (l0_1.length : Int) (wrap64 (x38_3 + 1)) l0_0 l0_1) else (none)) = some (r1, r2) := by first | (with_reducible rfl) | (rw [if_pos rfl] at H; exact H)
                      clear H
                      have H := H1
                      clear H1
                      by_cases c137 : x6_3.length < 17592186044416
                      ·rw [if_pos c137] at H
                       have LMc137 := xm c137
                       clear c137
                       obtain ⟨y146, hy146⟩ : ∃ y_ : List Int, y_ = (x6_3 ++ [t144]) := ⟨_, rfl⟩
                       replace H : (spec_l6Check.l1 kj116 y146 l0_1 (l0_1.length : Int) (wrap64 (x38_3 + 1)) l0_0 l0_1) = some (r1, r2) := by first | (rw [hy146]; with_reducible exact H) | (have H2_ := (Option.bind_some _ _).symm.trans H; rw [hy146]; with_reducible exact H2_) | (have H2_ := (Option.bind_some _ _).symm.trans H; with_reducible exact H2_) | with_reducible exact H | (rw [hy146]; exact H) | exact H
                       have Ny146 := xm hy146
                       clear hy146
                       have H' := xm H
                       clear H
                       have hnb138 := NB139_133.out
                       have hnc138 := NB133_139.out
                       obtain ⟨hcz139_0, hcz139_1, hcz139_2, hcz139_3, hcz139_4, hcz139_5, hfz139_0, hfz139_1, hfz139_2, hfz139_3, hfz139_4, hfz139_5⟩ := cz6 BK139.out
                       obtain ⟨Ao140, co140, eo140⟩ := Kd.R_slice HO_6.out
                       subst eo140
                       go_wp2_with (first | ((with_reducible refine gate_callee (f := 27) rfl ?_); refine goesL_ (some 145) rfl rfl Try.func27 (by kernel_rfl) rfl #[.agg #[.int .i64 ((rd_T47 l0_1 x38_3).f0), .int .i64 ((rd_T47 l0_1 x38_3).f1), .int .i64 ((rd_T47 l0_1 x38_3).f2), .slice A138_3 ((rd_T47 l0_1 x38_3).f3).length c138_3, .slice A138_4 ((rd_T47 l0_1 x38_3).f4).length c138_4, .slice A138_5 ((rd_T47 l0_1 x38_3).f5).length c138_5], .slice Ao140 x6_3.length co140] rfl mB ?_; (with_reducible refine (spec_l6Columns.calls kj116 ((rd_T47 l0_1 x38_3).f0) ((rd_T47 l0_1 x38_3).f1) ((rd_T47 l0_1 x38_3).f2) _ _ ((rd_T47 l0_1 x38_3).f3) _ _ ((rd_T47 l0_1 x38_3).f4) _ _ ((rd_T47 l0_1 x38_3).f5) _ _ x6_3 t144 true _ ?side1 ?side2 ?side3 ?side4 ?side5 ?side6 ?side7 ?side8 A135.out).mono ?_); (case side1 => exact cB (Kd.C_below HR138_3.out HB.out)); (case side2 => exact HC138_3.out); (case side3 => exact cB (Kd.C_below HR138_4.out HB.out)); (case side4 => exact HC138_4.out); (case side5 => exact cB (Kd.C_below HR138_5.out HB.out)); (case side6 => exact HC138_5.out); (case side7 => repeat (first | exact (Kd.R_reads' HO_6.out).2.2 | (with_reducible refine Kd.C_alloc ?_ _) | (with_reducible refine Kd.C_drewN ?_ _) | (with_reducible refine Kd.C_drew ?_))); (case side8 => exact (Kd.R_reads' HO_6.out).2.1); rintro e w141 ⟨rfl, hb⟩; refine ⟨_, rfl, ?_⟩; have n0_ := xm (Kd.R_below (rB HO_6) hb); have n1_ := xm (blk_below (kB BK133) hb); have n2_ := xm (blk_below (kB BK139) hb); have n3_ := xm (below_step bG hb); revert n0_ n1_ n2_ n3_; clear HO_6 BK133 BK139 HB; intro HO_6 BK133 BK139 HB; (try clear hb); (try clear hk)) | ((with_reducible refine gate_builtin (b := .append) (xs := #[.tmp 150, .tmp 152]) rfl ?_); (try (refine gate_guard (by rfl) ?_; dsimp only)); at_builtin; refine Kd.R_append (Kd.int .i64) (w0 := w) w.heap.size rfl (.tmp 150) (.tmp 152) 22 3 (.int .i64 0) 8 rfl Try.underlying22 info3 rfl (by decide) (by omega) (.slice Ao140 x6_3.length co140) x6_3 t144 [.int .i64 t144] (fun _ => True) (fun _ => False) rfl rfl ?aP (fun _ hk => hk.elim) ?aF ?aO ?aB ?aS ?aL ?_; (case aP => exact rfl); (case aB => exact bG); (case aF => exact (fun _ _ => trivial)); (case aO => exact (rB HO_6)); (case aS => exact (xz bG)); (case aL => have := LMc137.out; omega); intro v147 w142 ho hb hg hat; rw [← Ny146.out] at ho; have n0_ := xm (blk_grown (kB BK133) hg (Kd.R_ne HO_6.out BK133.out (by decide))); have n1_ := xm (blk_grown (kB BK139) hg (Kd.R_ne HO_6.out BK139.out (by decide))); have n2_ := xm (hb); have n3_ := xm (ho); revert n0_ n1_ n2_ n3_; clear BK133 BK139 HB HO_6; intro BK133 BK139 HB HO148; clear ho hb hg hat))
                       go_roundg kj116
                       case measure => have := HK1.out; have := HJ8.out; have := HK3.out; have := HJ19.out; have := HJ31.out; have := HJ116.out; omega
                       case rel => exact ⟨(y146), (wrap64 (x38_3 + 1)), sB, H', ⟨by have := HK1.out; have := HJ8.out; have := HK3.out; have := HJ19.out; have := HJ31.out; have := HJ116.out; omega⟩, ⟨rB HO148⟩, ⟨kB BK133⟩, ⟨bG⟩⟩
                      ·rw [if_neg c137] at H
                       exact absurd H (by simp)
                     ·replace c136 := Bool.eq_false_iff.mpr c136
                      subst c136
                      have H1 : (some (([] : List Int), false)) = some (r1, r2) := by first | (with_reducible rfl) | (rw [if_neg (show ¬ (false = true) by decide)] at H; exact H)
                      clear H
                      have H := H1
                      clear H1
                      simp only [Option.some.injEq, Prod.mk.injEq] at H
                      obtain ⟨rfl, rfl⟩ := H
                      have hnb143 := NB139_133.out
                      have hnc143 := NB133_139.out
                      obtain ⟨hcz144_0, hcz144_1, hcz144_2, hcz144_3, hcz144_4, hcz144_5, hfz144_0, hfz144_1, hfz144_2, hfz144_3, hfz144_4, hfz144_5⟩ := cz6 BK139.out
                      obtain ⟨Ao145, co145, eo145⟩ := Kd.R_slice HO_6.out
                      subst eo145
                      go_wp2_with (first | ((with_reducible refine gate_callee (f := 27) rfl ?_); refine goesL_ (some 145) rfl rfl Try.func27 (by kernel_rfl) rfl #[.agg #[.int .i64 ((rd_T47 l0_1 x38_3).f0), .int .i64 ((rd_T47 l0_1 x38_3).f1), .int .i64 ((rd_T47 l0_1 x38_3).f2), .slice A138_3 ((rd_T47 l0_1 x38_3).f3).length c138_3, .slice A138_4 ((rd_T47 l0_1 x38_3).f4).length c138_4, .slice A138_5 ((rd_T47 l0_1 x38_3).f5).length c138_5], .slice Ao145 x6_3.length co145] rfl mB ?_; (with_reducible refine (spec_l6Columns.calls kj116 ((rd_T47 l0_1 x38_3).f0) ((rd_T47 l0_1 x38_3).f1) ((rd_T47 l0_1 x38_3).f2) _ _ ((rd_T47 l0_1 x38_3).f3) _ _ ((rd_T47 l0_1 x38_3).f4) _ _ ((rd_T47 l0_1 x38_3).f5) _ _ x6_3 t144 false _ ?side1 ?side2 ?side3 ?side4 ?side5 ?side6 ?side7 ?side8 A135.out).mono ?_); (case side1 => exact cB (Kd.C_below HR138_3.out HB.out)); (case side2 => exact HC138_3.out); (case side3 => exact cB (Kd.C_below HR138_4.out HB.out)); (case side4 => exact HC138_4.out); (case side5 => exact cB (Kd.C_below HR138_5.out HB.out)); (case side6 => exact HC138_5.out); (case side7 => repeat (first | exact (Kd.R_reads' HO_6.out).2.2 | (with_reducible refine Kd.C_alloc ?_ _) | (with_reducible refine Kd.C_drewN ?_ _) | (with_reducible refine Kd.C_drew ?_))); (case side8 => exact (Kd.R_reads' HO_6.out).2.1); rintro e w146 ⟨rfl, hb⟩; refine ⟨_, rfl, ?_⟩; have n0_ := xm (Kd.R_below (rB HO_6) hb); have n1_ := xm (blk_below (kB BK133) hb); have n2_ := xm (blk_below (kB BK139) hb); have n3_ := xm (below_step bG hb); revert n0_ n1_ n2_ n3_; clear HO_6 BK133 BK139 HB; intro HO_6 BK133 BK139 HB; (try clear hb)))
                      go_ret2
                      exact ⟨_, eB, by first | exact Kd.R_nil _ _ _ _ _ | exact Kd.N_nil _ _ _ _ _ | exact Kd.V_nil _ _ _ _ _ | exact Kd.Q_nil _ _ _ _ _ | exact Kd.S_nil _ _ _ _ _, bG⟩
           ·rw [if_neg c19] at H
            exact absurd H (by simp)
          ·rw [if_neg c18] at H
           exact absurd H (by simp)
         ·rw [if_neg c17] at H
          have c17b0 : decide (x38_3 < (l0_1.length : Int)) = false := decide_eq_false c17
          clear c17
          simp only [Option.some.injEq, Prod.mk.injEq] at H
          obtain ⟨rfl, rfl⟩ := H
          go_wp2
          go_ret2
          exact ⟨_, eB, rB HO_6, bG⟩

end Go.Proofs.Ytaddemalepndfae.G
