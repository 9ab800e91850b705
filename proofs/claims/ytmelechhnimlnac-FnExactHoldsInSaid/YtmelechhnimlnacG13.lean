/- Written by a program of this claim's own, out of the translation: functions of the program as plain functions, and that the calls answer as these. No conditions. -/
import Derived.Test.YtmelechhnimlnacG0
import Derived.Test.YtmelechhnimlnacG1
import Derived.Test.YtmelechhnimlnacG6
import Derived.Test.YtmelechhnimlnacG10
import Derived.Test.YtmelechhnimlnacG12
namespace Go.Proofs.Ytmelechhnimlnac.G
open Go.RowKit Go.Proofs.Ytmelechhnimlnac.X Go.Proofs.YtmelechhnimlnacW.PrintWords Go.Proofs.YtmelechhnimlnacW.PrintLast Go.Proofs.YtmelechhnimlnacW.PrintMore
attribute [local go_sem] max2_int min2_int max_two min_two max_three min_three max_four min_four   -- for this text's walks alone
set_option linter.unusedVariables false
set_option linter.unusedSimpArgs false

/-! ### laws_FnExactHoldsIn: function 3 -/
def laws_FnExactHoldsIn.f (k : Nat) (a0_0 : Int) (l0_1 : List (S61)) (l1_0 : List Int) (l1_1 : List Int) : Option (Bool) := (laws_szTable.f k a0_0 l0_1 1048576).bind fun t280 => (if t280 < 0 then (some true) else ((laws_szDepend.f l1_0 l1_1 t280).bind fun t281 => (if t281 < 0 then (some true) else ((laws_toTable.f k a0_0 l0_1).bind fun bt282 => ((laws_toDepend.f k l1_0 l1_1).bind fun bt286 => ((spec_HoldsIn.f k bt282.1 bt282.2 bt286.1 bt286.2).bind fun bt292 => ((laws_toTable.f k a0_0 l0_1).bind fun bt294 => ((laws_toDepend.f k l1_0 l1_1).bind fun bt299 => ((impl_HoldsIn.f k bt294.1 bt294.2 bt299.1 bt299.2).bind fun bt306 => (if (bt306.1 != bt292.1) = true then (some false) else (if (bt306.2 != bt292.2) = true then (some false) else ((laws_toTable.f k a0_0 l0_1).bind fun bt308 => ((laws_eqTable.f k bt294.1 bt294.2 bt308.1 bt308.2).bind fun t312 => (if t312 = true then ((laws_toDepend.f k l1_0 l1_1).bind fun bt313 => ((laws_eqDepend.f k bt299.1 bt299.2 bt313.1 bt313.2).bind fun t319 => (if t319 = true then (some true) else (some false)))) else (some false)))))))))))))))
theorem laws_FnExactHoldsIn.mono : ∀ a0 a1 a2 a3 k, LeO (laws_FnExactHoldsIn.f k a0 a1 a2 a3) (laws_FnExactHoldsIn.f (k + 1) a0 a1 a2 a3) := by
 intro a0 a1 a2 a3 k
 unfold laws_FnExactHoldsIn.f
 repeat' first
   | (with_reducible exact impl_HoldsIn.mono _ _ _ _ _)
   | (with_reducible exact laws_eqDepend.mono _ _ _ _ _)
   | (with_reducible exact laws_eqTable.mono _ _ _ _ _)
   | (with_reducible exact laws_szTable.mono _ _ _ _)
   | (with_reducible exact laws_toDepend.mono _ _ _)
   | (with_reducible exact laws_toTable.mono _ _ _)
   | (with_reducible exact spec_HoldsIn.mono _ _ _ _ _)
   | (with_reducible exact LeO.refl _)
   | (with_reducible exact LeO.none _)
   | (with_reducible refine LeO.ite ?_ ?_)
   | (with_reducible refine LeO.bind ?_ (fun _ => ?_))
   | exact impl_HoldsIn.mono _ _ _ _ _
   | exact laws_eqDepend.mono _ _ _ _ _
   | exact laws_eqTable.mono _ _ _ _ _
   | exact laws_szTable.mono _ _ _ _
   | exact laws_toDepend.mono _ _ _
   | exact laws_toTable.mono _ _ _
   | exact spec_HoldsIn.mono _ _ _ _ _
   | exact LeO.none _
   | refine LeO.ite ?_ ?_
   | refine LeO.bind ?_ (fun _ => ?_)
def laws_FnExactHoldsIn.T8 : Bool × List (List Nat × List Nat) := (true, [([], []), ([0], [0]), ([], []), ([2, 1], [2]), ([1, 3, 3], [1, 3]), ([4], [4]), ([5], [5]), ([5], [5]), ([6, 4, 0, 1, 2, 3, 4, 5, 6], [6]), ([7, 8, 0, 1, 2, 3, 4, 5, 6, 7, 8], [7])])
def laws_FnExactHoldsIn.B8 : List Nat := [0, 1, 0, 7, 15, 31, 63, 63, 127, 511]
theorem laws_FnExactHoldsIn.tab8 : rtab .any (opsOf Try.f3 8) = laws_FnExactHoldsIn.T8 := by kernel_rfl
theorem laws_FnExactHoldsIn.bits8 : waitsOk laws_FnExactHoldsIn.T8.2 laws_FnExactHoldsIn.B8 = true := by kernel_rfl
set_option maxHeartbeats 8000000 in
set_option maxRecDepth 100000 in
theorem laws_FnExactHoldsIn.calls (k : Nat) (a0_0 : Int) (A0_1 : Option Addr) (c0_1 : Nat) (l0_1 : List (S61)) (A1_0 : Option Addr) (c1_0 : Nat) (l1_0 : List Int) (A1_1 : Option Addr) (c1_1 : Nat) (l1_1 : List Int) (w : World) (hr0_1 : Kd.C k61 w A0_1 l0_1.length l0_1) (hc0_1 : l0_1.length ≤ c0_1) (hr1_0 : Kd.C (Kd.int .i64) w A1_0 l1_0.length l1_0) (hc1_0 : l1_0.length ≤ c1_0) (hr1_1 : Kd.C (Kd.int .i64) w A1_1 l1_1.length l1_1) (hc1_1 : l1_1.length ≤ c1_1) (h : laws_FnExactHoldsIn.f k a0_0 l0_1 l1_0 l1_1 = some true) :
  Calls Try.prog 3 #[.agg #[.int .i64 a0_0, .slice A0_1 l0_1.length c0_1], .agg #[.slice A1_0 l1_0.length c1_0, .slice A1_1 l1_1.length c1_1]] w fun e w' => e = .returned (.bool true) ∧ Below w.heap.size w w' := by
 have hu24 := Try.underlying24
 have hu27 := Try.underlying27
 have hu34 := Try.underlying34
 have hu36 := Try.underlying36
 have HR0_1 := xm hr0_1
 have HC0_1 := xm hc0_1
 clear hr0_1 hc0_1
 have HR1_0 := xm hr1_0
 have HC1_0 := xm hc1_0
 clear hr1_0 hc1_0
 have HR1_1 := xm hr1_1
 have HC1_1 := xm hc1_1
 clear hr1_1 hc1_1
 have HB := xm (Below.refl w.heap.size w)
 have H : ((laws_szTable.f k a0_0 l0_1 1048576).bind fun t280 => (if t280 < 0 then (some true) else ((laws_szDepend.f l1_0 l1_1 t280).bind fun t281 => (if t281 < 0 then (some true) else ((laws_toTable.f k a0_0 l0_1).bind fun bt282 => ((laws_toDepend.f k l1_0 l1_1).bind fun bt286 => ((spec_HoldsIn.f k bt282.1 bt282.2 bt286.1 bt286.2).bind fun bt292 => ((laws_toTable.f k a0_0 l0_1).bind fun bt294 => ((laws_toDepend.f k l1_0 l1_1).bind fun bt299 => ((impl_HoldsIn.f k bt294.1 bt294.2 bt299.1 bt299.2).bind fun bt306 => (if (bt306.1 != bt292.1) = true then (some false) else (if (bt306.2 != bt292.2) = true then (some false) else ((laws_toTable.f k a0_0 l0_1).bind fun bt308 => ((laws_eqTable.f k bt294.1 bt294.2 bt308.1 bt308.2).bind fun t312 => (if t312 = true then ((laws_toDepend.f k l1_0 l1_1).bind fun bt313 => ((laws_eqDepend.f k bt299.1 bt299.2 bt313.1 bt313.2).bind fun t319 => (if t319 = true then (some true) else (some false)))) else (some false)))))))))))))))) = some true := h
 clear h
 replace H := Option.bind_eq_some_iff.mp H
 obtain ⟨t280, A30, H⟩ := H
 (try dsimp only at H)
 have A3 := xm A30
 clear A30
 by_cases c4 : t280 < 0
 ·rw [if_pos c4] at H
  have c4b0 : decide (t280 < 0) = true := decide_eq_true c4
  clear c4
  clear H
  go_enter Try.func3, Try.ntmps3
  go_wp2_with (first | ((with_reducible refine gate_dst (N := 2) rfl ?_); refine box_event ?hg (N := 2) ?hd (cs := #[.int .i64 a0_0, .slice A0_1 l0_1.length c0_1]) (t := 24) ?hr ?_; (case hd => rfl); (case hg => rfl); (case hr => exact zB); intro gb278 hg w5 hbox hb; have n0_ := xm (below_step bB hb); have n1_ := xm (hbox); have n2_ := xm ((by rw [hg]; exact (xz bB) : w.heap.size ≤ gb278)); have n3_ := xm ((by rw [hg]; exact (xz bB) : w.heap.size ≤ gb278)); revert n0_ n1_ n2_ n3_; clear HB; intro HB BK278 GW278 GE278; clear hb hbox hg) | ((with_reducible refine gate_dst (N := 3) rfl ?_); refine box_event ?hg (N := 3) ?hd (cs := #[.slice A1_0 l1_0.length c1_0, .slice A1_1 l1_1.length c1_1]) (t := 27) ?hr ?_; (case hd => rfl); (case hg => rfl); (case hr => exact zB); intro gb279 hg w6 hbox hb; have n0_ := xm (blk_below (kB BK278) hb); have n1_ := xm (below_step bG hb); have n2_ := xm (hbox); have n3_ := xm ((by rw [hg]; exact (xz bG) : w.heap.size ≤ gb279)); have n4_ := xm ((by rw [hg]; exact (xz bG) : w.heap.size ≤ gb279)); have n5_ := xm ((by rw [hg]; exact Nat.ne_of_lt (blk_lt (kB BK278)) : gb278 ≠ gb279)); have n6_ := xm ((by rw [hg]; exact Nat.ne_of_gt (blk_lt (kB BK278)) : gb279 ≠ gb278)); revert n0_ n1_ n2_ n3_ n4_ n5_ n6_; clear BK278 HB; intro BK278 HB BK279 GW279 GE279 NB278_279 NB279_278; clear hb hbox hg; have hnb7 := NB278_279.out; have hnc7 := NB279_278.out; obtain ⟨hcz8_0, hcz8_1, hfz8_0, hfz8_1⟩ := cz2 BK278.out) | ((with_reducible refine gate_callee (f := 4) rfl ?_); refine goesL_ (some 14) rfl rfl Try.func4 (by kernel_rfl) rfl #[.agg #[.int .i64 a0_0, .slice A0_1 l0_1.length c0_1], .int .i64 1048576] rfl mB ?_; (with_reducible refine (laws_szTable.calls k a0_0 _ _ l0_1 1048576 t280 _ ?side1 ?side2 A3.out).mono ?_); (case side1 => exact cB (Kd.C_below HR0_1.out HB.out)); (case side2 => exact HC0_1.out); rintro e w9 ⟨rfl, hb⟩; refine ⟨_, rfl, ?_⟩; have n0_ := xm (blk_below (kB BK278) hb); have n1_ := xm (blk_below (kB BK279) hb); have n2_ := xm (below_step bG hb); revert n0_ n1_ n2_; clear BK278 BK279 HB; intro BK278 BK279 HB; (try clear hb)))
  go_ret
  exact ⟨eB, bG⟩
 ·rw [if_neg c4] at H
  have c4b0 : decide (t280 < 0) = false := decide_eq_false c4
  clear c4
  replace H := Option.bind_eq_some_iff.mp H
  obtain ⟨t281, A100, H⟩ := H
  (try dsimp only at H)
  have A10 := xm A100
  clear A100
  by_cases c11 : t281 < 0
  ·rw [if_pos c11] at H
   have c11b0 : decide (t281 < 0) = true := decide_eq_true c11
   clear c11
   clear H
   go_enter Try.func3, Try.ntmps3
   go_wp2_with (first | ((with_reducible refine gate_dst (N := 2) rfl ?_); refine box_event ?hg (N := 2) ?hd (cs := #[.int .i64 a0_0, .slice A0_1 l0_1.length c0_1]) (t := 24) ?hr ?_; (case hd => rfl); (case hg => rfl); (case hr => exact zB); intro gb278 hg w12 hbox hb; have n0_ := xm (below_step bB hb); have n1_ := xm (hbox); have n2_ := xm ((by rw [hg]; exact (xz bB) : w.heap.size ≤ gb278)); have n3_ := xm ((by rw [hg]; exact (xz bB) : w.heap.size ≤ gb278)); revert n0_ n1_ n2_ n3_; clear HB; intro HB BK278 GW278 GE278; clear hb hbox hg) | ((with_reducible refine gate_dst (N := 3) rfl ?_); refine box_event ?hg (N := 3) ?hd (cs := #[.slice A1_0 l1_0.length c1_0, .slice A1_1 l1_1.length c1_1]) (t := 27) ?hr ?_; (case hd => rfl); (case hg => rfl); (case hr => exact zB); intro gb279 hg w13 hbox hb; have n0_ := xm (blk_below (kB BK278) hb); have n1_ := xm (below_step bG hb); have n2_ := xm (hbox); have n3_ := xm ((by rw [hg]; exact (xz bG) : w.heap.size ≤ gb279)); have n4_ := xm ((by rw [hg]; exact (xz bG) : w.heap.size ≤ gb279)); have n5_ := xm ((by rw [hg]; exact Nat.ne_of_lt (blk_lt (kB BK278)) : gb278 ≠ gb279)); have n6_ := xm ((by rw [hg]; exact Nat.ne_of_gt (blk_lt (kB BK278)) : gb279 ≠ gb278)); revert n0_ n1_ n2_ n3_ n4_ n5_ n6_; clear BK278 HB; intro BK278 HB BK279 GW279 GE279 NB278_279 NB279_278; clear hb hbox hg; have hnb14 := NB278_279.out; have hnc14 := NB279_278.out; obtain ⟨hcz15_0, hcz15_1, hfz15_0, hfz15_1⟩ := cz2 BK278.out) | ((with_reducible refine gate_callee (f := 4) rfl ?_); refine goesL_ (some 14) rfl rfl Try.func4 (by kernel_rfl) rfl #[.agg #[.int .i64 a0_0, .slice A0_1 l0_1.length c0_1], .int .i64 1048576] rfl mB ?_; (with_reducible refine (laws_szTable.calls k a0_0 _ _ l0_1 1048576 t280 _ ?side1 ?side2 A3.out).mono ?_); (case side1 => exact cB (Kd.C_below HR0_1.out HB.out)); (case side2 => exact HC0_1.out); rintro e w16 ⟨rfl, hb⟩; refine ⟨_, rfl, ?_⟩; have n0_ := xm (blk_below (kB BK278) hb); have n1_ := xm (blk_below (kB BK279) hb); have n2_ := xm (below_step bG hb); revert n0_ n1_ n2_; clear BK278 BK279 HB; intro BK278 BK279 HB; (try clear hb); obtain ⟨hcz17_0, hcz17_1, hfz17_0, hfz17_1⟩ := cz2 BK279.out) | ((with_reducible refine gate_callee (f := 5) rfl ?_); refine goesL_ (some 19) rfl rfl Try.func5 (by kernel_rfl) rfl #[.agg #[.slice A1_0 l1_0.length c1_0, .slice A1_1 l1_1.length c1_1], .int .i64 t280] rfl mB ?_; (with_reducible refine (laws_szDepend.calls _ _ l1_0 _ _ l1_1 t280 t281 _ ?side1 ?side2 ?side3 ?side4 A10.out).mono ?_); (case side1 => exact cB (Kd.C_below HR1_0.out HB.out)); (case side2 => exact HC1_0.out); (case side3 => exact cB (Kd.C_below HR1_1.out HB.out)); (case side4 => exact HC1_1.out); rintro e w18 ⟨rfl, hb⟩; refine ⟨_, rfl, ?_⟩; have n0_ := xm (blk_below (kB BK278) hb); have n1_ := xm (blk_below (kB BK279) hb); have n2_ := xm (below_step bG hb); revert n0_ n1_ n2_; clear BK278 BK279 HB; intro BK278 BK279 HB; (try clear hb)))
   go_ret
   exact ⟨eB, bG⟩
  ·rw [if_neg c11] at H
   have c11b0 : decide (t281 < 0) = false := decide_eq_false c11
   clear c11
   replace H := Option.bind_eq_some_iff.mp H
   obtain ⟨⟨t282, t283⟩, A190, H⟩ := H
   (try dsimp only at H)
   have A19 := xm A190
   clear A190
   replace H := Option.bind_eq_some_iff.mp H
   obtain ⟨⟨t286, t289⟩, A200, H⟩ := H
   (try dsimp only at H)
   have A20 := xm A200
   clear A200
   replace H := Option.bind_eq_some_iff.mp H
   obtain ⟨⟨t292, t293⟩, A210, H⟩ := H
   (try dsimp only at H)
   have A21 := xm A210
   clear A210
   replace H := Option.bind_eq_some_iff.mp H
   obtain ⟨⟨t294, t295⟩, A220, H⟩ := H
   (try dsimp only at H)
   have A22 := xm A220
   clear A220
   replace H := Option.bind_eq_some_iff.mp H
   obtain ⟨⟨t299, t302⟩, A230, H⟩ := H
   (try dsimp only at H)
   have A23 := xm A230
   clear A230
   replace H := Option.bind_eq_some_iff.mp H
   obtain ⟨⟨t306, t307⟩, A240, H⟩ := H
   (try dsimp only at H)
   have A24 := xm A240
   clear A240
   by_cases c25 : (t306 != t292) = true
   ·rw [if_pos c25] at H
    have c25b0 : (t306 != t292) = true := c25
    (try (have c25b1 : decide (t306 = t292) = false := by simpa using c25))
    (try (have c25b2 : (t306 == t292) = false := by simpa using c25))
    (try (have c25b3 : ¬ (t306 = t292) := by simpa using c25))
    clear c25
    exact absurd H (by simp)
   ·rw [if_neg c25] at H
    have c25b0 : (t306 != t292) = false := by simpa using c25
    (try (have c25b1 : decide (t306 = t292) = true := by simpa using c25))
    (try (have c25b2 : (t306 == t292) = true := by simpa using c25))
    clear c25
    by_cases c26 : (t307 != t293) = true
    ·rw [if_pos c26] at H
     have c26b0 : (t307 != t293) = true := c26
     (try (have c26b1 : decide (t307 = t293) = false := by simpa using c26))
     (try (have c26b2 : (t307 == t293) = false := by simpa using c26))
     (try (have c26b3 : ¬ (t307 = t293) := by simpa using c26))
     clear c26
     exact absurd H (by simp)
    ·rw [if_neg c26] at H
     have c26b0 : (t307 != t293) = false := by simpa using c26
     (try (have c26b1 : decide (t307 = t293) = true := by simpa using c26))
     (try (have c26b2 : (t307 == t293) = true := by simpa using c26))
     clear c26
     replace H := Option.bind_eq_some_iff.mp H
     obtain ⟨⟨t308, t309⟩, A270, H⟩ := H
     (try dsimp only at H)
     have A27 := xm A270
     clear A270
     replace H := Option.bind_eq_some_iff.mp H
     obtain ⟨t312, A280, H⟩ := H
     (try dsimp only at H)
     have A28 := xm A280
     clear A280
     by_cases c29 : t312 = true
     ·subst c29
      have H1 : ((laws_toDepend.f k l1_0 l1_1).bind fun bt313 => ((laws_eqDepend.f k t299 t302 bt313.1 bt313.2).bind fun t319 => (if t319 = true then (some true) else (some false)))) = some true := by first | (with_reducible rfl) | (rw [if_pos rfl] at H; exact H)
      clear H
      have H := H1
      clear H1
      replace H := Option.bind_eq_some_iff.mp H
      obtain ⟨⟨t313, t316⟩, A300, H⟩ := H
      (try dsimp only at H)
      have A30 := xm A300
      clear A300
      replace H := Option.bind_eq_some_iff.mp H
      obtain ⟨t319, A310, H⟩ := H
      (try dsimp only at H)
      have A31 := xm A310
      clear A310
      by_cases c32 : t319 = true
      ·subst c32
       have H1 : (some true) = some true := by first | (with_reducible rfl) | (rw [if_pos rfl] at H; exact H)
       clear H
       have H := H1
       clear H1
       clear H
       go_enter Try.func3, Try.ntmps3
       try go_wp2_with (first | ((with_reducible refine gate_dst (N := 2) rfl ?_); refine box_event ?hg (N := 2) ?hd (cs := #[.int .i64 a0_0, .slice A0_1 l0_1.length c0_1]) (t := 24) ?hr ?_; (case hd => rfl); (case hg => rfl); (case hr => exact zB); intro gb278 hg w33 hbox hb; have n0_ := xm (below_step bB hb); have n1_ := xm (hbox); have n2_ := xm ((by rw [hg]; exact (xz bB) : w.heap.size ≤ gb278)); have n3_ := xm ((by rw [hg]; exact (xz bB) : w.heap.size ≤ gb278)); revert n0_ n1_ n2_ n3_; clear HB; intro HB BK278 GW278 GE278; clear hb hbox hg) | ((with_reducible refine gate_dst (N := 3) rfl ?_); refine box_event ?hg (N := 3) ?hd (cs := #[.slice A1_0 l1_0.length c1_0, .slice A1_1 l1_1.length c1_1]) (t := 27) ?hr ?_; (case hd => rfl); (case hg => rfl); (case hr => exact zB); intro gb279 hg w34 hbox hb; have n0_ := xm (blk_below (kB BK278) hb); have n1_ := xm (below_step bG hb); have n2_ := xm (hbox); have n3_ := xm ((by rw [hg]; exact (xz bG) : w.heap.size ≤ gb279)); have n4_ := xm ((by rw [hg]; exact (xz bG) : w.heap.size ≤ gb279)); have n5_ := xm ((by rw [hg]; exact Nat.ne_of_lt (blk_lt (kB BK278)) : gb278 ≠ gb279)); have n6_ := xm ((by rw [hg]; exact Nat.ne_of_gt (blk_lt (kB BK278)) : gb279 ≠ gb278)); revert n0_ n1_ n2_ n3_ n4_ n5_ n6_; clear BK278 HB; intro BK278 HB BK279 GW279 GE279 NB278_279 NB279_278; clear hb hbox hg; have hnb35 := NB278_279.out; have hnc35 := NB279_278.out; obtain ⟨hcz36_0, hcz36_1, hfz36_0, hfz36_1⟩ := cz2 BK278.out) | ((with_reducible refine gate_callee (f := 4) rfl ?_); refine goesL_ (some 14) rfl rfl Try.func4 (by kernel_rfl) rfl #[.agg #[.int .i64 a0_0, .slice A0_1 l0_1.length c0_1], .int .i64 1048576] rfl mB ?_; (with_reducible refine (laws_szTable.calls k a0_0 _ _ l0_1 1048576 t280 _ ?side1 ?side2 A3.out).mono ?_); (case side1 => exact cB (Kd.C_below HR0_1.out HB.out)); (case side2 => exact HC0_1.out); rintro e w37 ⟨rfl, hb⟩; refine ⟨_, rfl, ?_⟩; have n0_ := xm (blk_below (kB BK278) hb); have n1_ := xm (blk_below (kB BK279) hb); have n2_ := xm (below_step bG hb); revert n0_ n1_ n2_; clear BK278 BK279 HB; intro BK278 BK279 HB; (try clear hb); obtain ⟨hcz38_0, hcz38_1, hfz38_0, hfz38_1⟩ := cz2 BK279.out) | ((with_reducible refine gate_callee (f := 5) rfl ?_); refine goesL_ (some 19) rfl rfl Try.func5 (by kernel_rfl) rfl #[.agg #[.slice A1_0 l1_0.length c1_0, .slice A1_1 l1_1.length c1_1], .int .i64 t280] rfl mB ?_; (with_reducible refine (laws_szDepend.calls _ _ l1_0 _ _ l1_1 t280 t281 _ ?side1 ?side2 ?side3 ?side4 A10.out).mono ?_); (case side1 => exact cB (Kd.C_below HR1_0.out HB.out)); (case side2 => exact HC1_0.out); (case side3 => exact cB (Kd.C_below HR1_1.out HB.out)); (case side4 => exact HC1_1.out); rintro e w39 ⟨rfl, hb⟩; refine ⟨_, rfl, ?_⟩; have n0_ := xm (blk_below (kB BK278) hb); have n1_ := xm (blk_below (kB BK279) hb); have n2_ := xm (below_step bG hb); revert n0_ n1_ n2_; clear BK278 BK279 HB; intro BK278 BK279 HB; (try clear hb)))
       have n0_ := xm (xr BK278.out)
       have n1_ := xm (xr BK279.out)
       have n2_ := xm (xd HB.out)
       revert n0_ n1_ n2_; clear BK278 BK279 HB; intro BK278 BK279 HB
       refine start_ (n := 10) (S := fun w' => w'.cell? ⟨gb278, 0, none⟩ = some (.int .i64 a0_0) ∧ w'.cell? ⟨gb278, 1, none⟩ = some (.slice A0_1 l0_1.length c0_1) ∧ w'.cell? ⟨gb279, 0, none⟩ = some (.slice A1_0 l1_0.length c1_0) ∧ w'.cell? ⟨gb279, 1, none⟩ = some (.slice A1_1 l1_1.length c1_1)) (ds := []) #[Z,Z,Z,Z,Z,Z,Z,Z,Z,Z] (by kernel_rfl) rfl rfl ⟨(xc BK278.out 0).trans rfl, (xc BK278.out 1).trans rfl, (xc BK279.out 0).trans rfl, (xc BK279.out 1).trans rfl⟩ (fun hHeld => ?_); refine with_tabW laws_FnExactHoldsIn.tab8 laws_FnExactHoldsIn.bits8 (fun HT_ HW_ => ?_)
       generalize w39.drew = w40 at BK278 BK279 HB hHeld ⊢
       refine tx 0 10 1 rfl rfl (take_ofW HT_.out HW_.out (by kernel_rfl)) hHeld (by rintro w' ⟨s0, s1, s2, s3⟩; go_simp; with_reducible rfl) ?_
       refine tx 2 10 5 rfl rfl (take_ofW HT_.out HW_.out (by kernel_rfl)) hHeld (by rintro w' ⟨s0, s1, s2, s3⟩; go_simp; with_reducible rfl) ?_
       refine one_ (i := 1) (N := some 24) #[Y,Y,Y,Z,Z,Z,Z,Z,Z,Z] rfl rfl (one_of HT_.out (by kernel_rfl)) (by decide) (fun K hK => ?_)
       refine goes_ Try.func7 (by kernel_rfl) rfl #[.agg #[.int .i64 a0_0, .slice A0_1 l0_1.length c0_1]] (by rfl) rfl rfl mB ?_
       with_reducible refine (laws_toTable.calls k a0_0 _ _ l0_1 t282 t283 _ ?side1 ?side2 A19.out).mono ?_
       (case side1 => exact cB (Kd.C_below HR0_1.out HB.out))
       (case side2 => exact HC0_1.out)
       rintro e w41 ⟨v284, rfl, ho0, hb⟩
       refine ⟨_, rfl, ?_⟩
       have n0_ := xm (Kd.S_lower ho0 (xz bG))
       have n1_ := xm (blk_below (kB BK278) hb)
       have n2_ := xm (blk_below (kB BK279) hb)
       have n3_ := xm (below_step bG hb)
       revert n0_ n1_ n2_ n3_; clear BK278 BK279 HB; intro HO285 BK278 BK279 HB
       (try clear hb)
       (try clear hb2)
       (try clear hk)
       (try clear hi)
       (try clear ho0)
       refine hK.out _ _ ⟨(xc BK278.out 0).trans rfl, (xc BK278.out 1).trans rfl, (xc BK279.out 0).trans rfl, (xc BK279.out 1).trans rfl⟩ (fun hHeld => nC ?_)
       clear hK K
       refine one_ (i := 3) (N := some 26) #[Y,Y,Y,Y,Z,Z,Z,Z,Z,Z] rfl rfl (one_of HT_.out (by kernel_rfl)) (by decide) (fun K hK => ?_)
       refine goes_ Try.func8 (by kernel_rfl) rfl #[.agg #[.slice A1_0 l1_0.length c1_0, .slice A1_1 l1_1.length c1_1]] (by rfl) rfl rfl mB ?_
       with_reducible refine (laws_toDepend.calls k _ _ l1_0 _ _ l1_1 t286 t289 _ ?side1 ?side2 ?side3 ?side4 A20.out).mono ?_
       (case side1 => exact cB (Kd.C_below HR1_0.out HB.out))
       (case side2 => exact HC1_0.out)
       (case side3 => exact cB (Kd.C_below HR1_1.out HB.out))
       (case side4 => exact HC1_1.out)
       rintro e w42 ⟨v287, v290, rfl, ho0, ho1, hb⟩
       refine ⟨_, rfl, ?_⟩
       have n0_ := xm (Kd.S_mono (Kd.S_told (Kd.S_told (Kd.S_old (tB HO285) hb) (Kd.R_base ho0)) (Kd.R_base ho1)) (fun _ h_ => h_.1))
       have n1_ := xm (Kd.R_lower ho0 (xz bG))
       have n2_ := xm (Kd.R_lower ho1 (xz bG))
       have n3_ := xm (blk_below (kB BK278) hb)
       have n4_ := xm (blk_below (kB BK279) hb)
       have n5_ := xm (below_step bG hb)
       revert n0_ n1_ n2_ n3_ n4_ n5_; clear HO285 BK278 BK279 HB; intro HO285 HO288 HO291 BK278 BK279 HB
       (try clear hb)
       (try clear hb2)
       (try clear hk)
       (try clear hi)
       (try clear ho0)
       (try clear ho1)
       obtain ⟨Ao43, co43, eo43⟩ := Kd.S_slice HO285.out
       (first | subst eo43 | (injection eo43 with f1_ f2_ f3_; have f4_ := f1_.symm; have f5_ := f3_.symm; clear f1_ f2_ f3_; subst f4_; subst f5_))
       obtain ⟨Ao44, co44, eo44⟩ := Kd.R_slice HO288.out
       (first | subst eo44 | (injection eo44 with f1_ f2_ f3_; have f4_ := f1_.symm; have f5_ := f3_.symm; clear f1_ f2_ f3_; subst f4_; subst f5_))
       obtain ⟨Ao45, co45, eo45⟩ := Kd.R_slice HO291.out
       (first | subst eo45 | (injection eo45 with f1_ f2_ f3_; have f4_ := f1_.symm; have f5_ := f3_.symm; clear f1_ f2_ f3_; subst f4_; subst f5_))
       refine hK.out _ _ ⟨(xc BK278.out 0).trans rfl, (xc BK278.out 1).trans rfl, (xc BK279.out 0).trans rfl, (xc BK279.out 1).trans rfl⟩ (fun hHeld => nC ?_)
       clear hK K
       refine one_ (i := 4) (N := some 27) #[Y,Y,Y,Y,Y,Z,Z,Z,Z,Z] rfl rfl (one_of HT_.out (by kernel_rfl)) (by decide) (fun K hK => ?_)
       refine goes_ Try.func6 (by kernel_rfl) rfl #[.agg #[.int .i64 t282, .slice Ao43 t283.length co43], .agg #[.slice Ao44 t286.length co44, .slice Ao45 t289.length co45]] (by rfl) rfl rfl mB ?_
       with_reducible refine (spec_HoldsIn.calls k t282 _ _ t283 _ _ t286 _ _ t289 t292 t293 _ ?side1 ?side2 ?side3 ?side4 ?side5 ?side6 A21.out).mono ?_
       (case side1 => repeat (first | exact (Kd.S_reads' HO285.out).2.2 | (with_reducible refine Kd.C_alloc ?_ _) | (with_reducible refine Kd.C_drewN ?_ _) | (with_reducible refine Kd.C_drew ?_)))
       (case side2 => exact (Kd.S_reads' HO285.out).2.1)
       (case side3 => repeat (first | exact (Kd.R_reads' HO288.out).2.2 | (with_reducible refine Kd.C_alloc ?_ _) | (with_reducible refine Kd.C_drewN ?_ _) | (with_reducible refine Kd.C_drew ?_)))
       (case side4 => exact (Kd.R_reads' HO288.out).2.1)
       (case side5 => repeat (first | exact (Kd.R_reads' HO291.out).2.2 | (with_reducible refine Kd.C_alloc ?_ _) | (with_reducible refine Kd.C_drewN ?_ _) | (with_reducible refine Kd.C_drew ?_)))
       (case side6 => exact (Kd.R_reads' HO291.out).2.1)
       rintro e w46 ⟨rfl, hb⟩
       refine ⟨_, rfl, ?_⟩
       have n0_ := xm (Kd.S_below (tB HO285) hb)
       have n1_ := xm (Kd.R_below (rB HO288) hb)
       have n2_ := xm (Kd.R_below (rB HO291) hb)
       have n3_ := xm (blk_below (kB BK278) hb)
       have n4_ := xm (blk_below (kB BK279) hb)
       have n5_ := xm (below_step bG hb)
       revert n0_ n1_ n2_ n3_ n4_ n5_; clear HO285 HO288 HO291 BK278 BK279 HB; intro HO285 HO288 HO291 BK278 BK279 HB
       (try clear hb)
       (try clear hb2)
       (try clear hk)
       (try clear hi)
       refine hK.out _ _ ⟨(xc BK278.out 0).trans rfl, (xc BK278.out 1).trans rfl, (xc BK279.out 0).trans rfl, (xc BK279.out 1).trans rfl⟩ (fun hHeld => nC ?_)
       clear hK K
       refine pu 5 10 63 ?_
       refine pu 6 10 127 ?_
       refine pu 7 10 255 ?_
       refine pu 8 10 511 ?_
       refine pu 9 10 1023 ?_
       refine done_ (done_of HT_.out (by kernel_rfl)) ?_
       obtain ⟨hcz47_0, hcz47_1, hfz47_0, hfz47_1⟩ := cz2 BK278.out
       try go_wp2_with (first | ((with_reducible refine gate_callee (f := 7) rfl ?_); refine goesL_ (some 31) rfl rfl Try.func7 (by kernel_rfl) rfl #[.agg #[.int .i64 a0_0, .slice A0_1 l0_1.length c0_1]] rfl mB ?_; (with_reducible refine (laws_toTable.calls k a0_0 _ _ l0_1 t294 t295 _ ?side1 ?side2 A22.out).mono ?_); (case side1 => exact cB (Kd.C_below HR0_1.out HB.out)); (case side2 => exact HC0_1.out); rintro e w48 ⟨v296, rfl, ho0, hb⟩; refine ⟨_, rfl, ?_⟩; have n0_ := xm (Kd.S_elder' (tB HO285) (Kd.S_base ho0) hb); have n1_ := xm (Kd.R_below (rB HO288) hb); have n2_ := xm (Kd.R_below (rB HO291) hb); have n3_ := xm (Kd.S_lower (Kd.S_new' (Kd.S_new' (Kd.S_new' ho0 (Kd.S_lt (tB HO285))) (Kd.R_lt (rB HO288))) (Kd.R_lt (rB HO291))) (xz bG)); have n4_ := xm (blk_below (kB BK278) hb); have n5_ := xm (blk_below (kB BK279) hb); have n6_ := xm (below_step bG hb); revert n0_ n1_ n2_ n3_ n4_ n5_ n6_; clear HO285 HO288 HO291 BK278 BK279 HB; intro HO285 HO288 HO291 HO297 BK278 BK279 HB; (try clear hb); (try clear ho0)) | ((with_reducible refine gate_dst (N := 8) rfl ?_); refine box_event ?hg (N := 8) ?hd (cs := #[.int .i64 0, .slice none 0 0]) (t := 34) ?hr ?_; (case hd => rfl); (case hg => rfl); (case hr => exact zB); intro gb298 hg w49 hbox hb; have n0_ := xm (Kd.S_below (tB HO285) hb); have n1_ := xm (Kd.R_below (rB HO288) hb); have n2_ := xm (Kd.R_below (rB HO291) hb); have n3_ := xm (Kd.S_below (tB HO297) hb); have n4_ := xm (blk_below (kB BK278) hb); have n5_ := xm (blk_below (kB BK279) hb); have n6_ := xm (below_step bG hb); have n7_ := xm (hbox); have n8_ := xm ((by rw [hg]; exact (xz bG) : w.heap.size ≤ gb298)); have n9_ := xm ((by rw [hg]; exact (xz bG) : w.heap.size ≤ gb298)); have n10_ := xm ((by rw [hg]; exact Nat.ne_of_lt (blk_lt (kB BK278)) : gb278 ≠ gb298)); have n11_ := xm ((by rw [hg]; exact Nat.ne_of_gt (blk_lt (kB BK278)) : gb298 ≠ gb278)); have n12_ := xm ((by rw [hg]; exact Nat.ne_of_lt (blk_lt (kB BK279)) : gb279 ≠ gb298)); have n13_ := xm ((by rw [hg]; exact Nat.ne_of_gt (blk_lt (kB BK279)) : gb298 ≠ gb279)); revert n0_ n1_ n2_ n3_ n4_ n5_ n6_ n7_ n8_ n9_ n10_ n11_ n12_ n13_; clear HO285 HO288 HO291 HO297 BK278 BK279 HB; intro HO285 HO288 HO291 HO297 BK278 BK279 HB BK298 GW298 GE298 NB278_298 NB298_278 NB279_298 NB298_279; clear hb hbox hg; have hnb50 := NB298_278.out; have hnc50 := NB278_298.out; have hnb51 := NB298_279.out; have hnc51 := NB279_298.out; obtain ⟨hcz52_0, hcz52_1, hfz52_0, hfz52_1⟩ := cz2 BK298.out; obtain ⟨Ao53, co53, eo53⟩ := Kd.S_slice HO297.out; subst eo53; obtain ⟨hcz54_0, hcz54_1, hfz54_0, hfz54_1⟩ := cz2 BK279.out) | ((with_reducible refine gate_callee (f := 8) rfl ?_); refine goesL_ (some 33) rfl rfl Try.func8 (by kernel_rfl) rfl #[.agg #[.slice A1_0 l1_0.length c1_0, .slice A1_1 l1_1.length c1_1]] rfl mB ?_; (with_reducible refine (laws_toDepend.calls k _ _ l1_0 _ _ l1_1 t299 t302 _ ?side1 ?side2 ?side3 ?side4 A23.out).mono ?_); (case side1 => exact Kd.C_below HR1_0.out bG); (case side2 => exact HC1_0.out); (case side3 => exact Kd.C_below HR1_1.out bG); (case side4 => exact HC1_1.out); rintro e w55 ⟨v300, v303, rfl, ho0, ho1, hb⟩; refine ⟨_, rfl, ?_⟩; have n0_ := xm (Kd.S_mono (Kd.S_told (Kd.S_told (Kd.S_old (by (with_reducible repeat (first | apply Kd.S_alloc | apply Kd.S_drewN | apply Kd.S_drew)); exact (Kd.S_mono (Kd.S_far (p := ⟨gb298, 1, none⟩) (Kd.S_far (p := ⟨gb298, 0, none⟩) (Kd.S_types HO285.out BK298.out (by decide)) (fun _ hk => hk.2) (.int .i64 t294)) (fun _ hk => hk.2) (.slice Ao53 t295.length co53)) (fun _ h_ => h_.1))) hb) (Kd.R_base ho0)) (Kd.R_base ho1)) (fun _ h_ => h_.1)); have n1_ := xm (Kd.R_mono (Kd.R_told (Kd.R_told (Kd.R_old (by (with_reducible repeat (first | apply Kd.R_alloc | apply Kd.R_drewN | apply Kd.R_drew)); exact (Kd.R_mono (Kd.R_far (p := ⟨gb298, 1, none⟩) (Kd.R_far (p := ⟨gb298, 0, none⟩) (Kd.R_types HO288.out BK298.out (by decide)) (fun _ hk => hk.2) (.int .i64 t294)) (fun _ hk => hk.2) (.slice Ao53 t295.length co53)) (fun _ h_ => h_.1))) hb) (Kd.R_base ho0)) (Kd.R_base ho1)) (fun _ h_ => h_.1)); have n2_ := xm (Kd.R_mono (Kd.R_told (Kd.R_told (Kd.R_old (by (with_reducible repeat (first | apply Kd.R_alloc | apply Kd.R_drewN | apply Kd.R_drew)); exact (Kd.R_mono (Kd.R_far (p := ⟨gb298, 1, none⟩) (Kd.R_far (p := ⟨gb298, 0, none⟩) (Kd.R_types HO291.out BK298.out (by decide)) (fun _ hk => hk.2) (.int .i64 t294)) (fun _ hk => hk.2) (.slice Ao53 t295.length co53)) (fun _ h_ => h_.1))) hb) (Kd.R_base ho0)) (Kd.R_base ho1)) (fun _ h_ => h_.1)); have n3_ := xm (Kd.S_mono (Kd.S_told (Kd.S_told (Kd.S_old (by (with_reducible repeat (first | apply Kd.S_alloc | apply Kd.S_drewN | apply Kd.S_drew)); exact (Kd.S_mono (Kd.S_far (p := ⟨gb298, 1, none⟩) (Kd.S_far (p := ⟨gb298, 0, none⟩) (Kd.S_types HO297.out BK298.out (by decide)) (fun _ hk => hk.2) (.int .i64 t294)) (fun _ hk => hk.2) (.slice Ao53 t295.length co53)) (fun _ h_ => h_.1))) hb) (Kd.R_base ho0)) (Kd.R_base ho1)) (fun _ h_ => h_.1)); have n4_ := xm (Kd.R_lower (Kd.R_new' (Kd.R_new' ho0 (Kd.R_lt (by (with_reducible repeat (first | apply Kd.R_alloc | apply Kd.R_drewN | apply Kd.R_drew)); exact (Kd.R_mono (Kd.R_far (p := ⟨gb298, 1, none⟩) (Kd.R_far (p := ⟨gb298, 0, none⟩) (Kd.R_types HO288.out BK298.out (by decide)) (fun _ hk => hk.2) (.int .i64 t294)) (fun _ hk => hk.2) (.slice Ao53 t295.length co53)) (fun _ h_ => h_.1))))) (Kd.R_lt (by (with_reducible repeat (first | apply Kd.R_alloc | apply Kd.R_drewN | apply Kd.R_drew)); exact (Kd.R_mono (Kd.R_far (p := ⟨gb298, 1, none⟩) (Kd.R_far (p := ⟨gb298, 0, none⟩) (Kd.R_types HO291.out BK298.out (by decide)) (fun _ hk => hk.2) (.int .i64 t294)) (fun _ hk => hk.2) (.slice Ao53 t295.length co53)) (fun _ h_ => h_.1))))) (xz bG)); have n5_ := xm (Kd.R_lower (Kd.R_new' (Kd.R_new' ho1 (Kd.R_lt (by (with_reducible repeat (first | apply Kd.R_alloc | apply Kd.R_drewN | apply Kd.R_drew)); exact (Kd.R_mono (Kd.R_far (p := ⟨gb298, 1, none⟩) (Kd.R_far (p := ⟨gb298, 0, none⟩) (Kd.R_types HO288.out BK298.out (by decide)) (fun _ hk => hk.2) (.int .i64 t294)) (fun _ hk => hk.2) (.slice Ao53 t295.length co53)) (fun _ h_ => h_.1))))) (Kd.R_lt (by (with_reducible repeat (first | apply Kd.R_alloc | apply Kd.R_drewN | apply Kd.R_drew)); exact (Kd.R_mono (Kd.R_far (p := ⟨gb298, 1, none⟩) (Kd.R_far (p := ⟨gb298, 0, none⟩) (Kd.R_types HO291.out BK298.out (by decide)) (fun _ hk => hk.2) (.int .i64 t294)) (fun _ hk => hk.2) (.slice Ao53 t295.length co53)) (fun _ h_ => h_.1))))) (xz bG)); have n6_ := xm (blk_below (g := gb278) (o := .cells #[.int .i64 a0_0, .slice A0_1 l0_1.length c0_1] 24 (0, 0)) (by (with_reducible repeat (first | refine xq ?_ _ | refine xr ?_ | refine xo ?_ _)); refine blk_far ?_ NB278_298.out _; (with_reducible repeat (first | refine xq ?_ _ | refine xr ?_ | refine xo ?_ _)); refine blk_far ?_ NB278_298.out _; (with_reducible repeat (first | refine xq ?_ _ | refine xr ?_ | refine xo ?_ _)); exact BK278.out) hb); have n7_ := xm (blk_below (g := gb279) (o := .cells #[.slice A1_0 l1_0.length c1_0, .slice A1_1 l1_1.length c1_1] 27 (0, 0)) (by (with_reducible repeat (first | refine xq ?_ _ | refine xr ?_ | refine xo ?_ _)); refine blk_far ?_ NB279_298.out _; (with_reducible repeat (first | refine xq ?_ _ | refine xr ?_ | refine xo ?_ _)); refine blk_far ?_ NB279_298.out _; (with_reducible repeat (first | refine xq ?_ _ | refine xr ?_ | refine xo ?_ _)); exact BK279.out) hb); have n8_ := xm (blk_below (g := gb298) (o := .cells #[.int .i64 t294, .slice Ao53 t295.length co53] 34 (0, 0)) (by (with_reducible repeat (first | refine xq ?_ _ | refine xr ?_ | refine xo ?_ _)); refine blk_put (cs := #[.int .i64 t294, .slice none 0 0]) ?_ 1 _ rfl; (with_reducible repeat (first | refine xq ?_ _ | refine xr ?_ | refine xo ?_ _)); refine blk_put (cs := #[.int .i64 0, .slice none 0 0]) ?_ 0 _ rfl; (with_reducible repeat (first | refine xq ?_ _ | refine xr ?_ | refine xo ?_ _)); exact BK298.out) hb); have n9_ := xm (below_step bG hb); revert n0_ n1_ n2_ n3_ n4_ n5_ n6_ n7_ n8_ n9_; clear HO285 HO288 HO291 HO297 BK278 BK279 BK298 HB; intro HO285 HO288 HO291 HO297 HO301 HO304 BK278 BK279 BK298 HB; (try clear hb); (try clear hk); (try clear ho0); (try clear ho1)) | ((with_reducible refine gate_dst (N := 9) rfl ?_); refine box_event ?hg (N := 9) ?hd (cs := #[.slice none 0 0, .slice none 0 0]) (t := 36) ?hr ?_; (case hd => rfl); (case hg => rfl); (case hr => exact zB); intro gb305 hg w56 hbox hb; have n0_ := xm (Kd.S_below (tB HO285) hb); have n1_ := xm (Kd.R_below (rB HO288) hb); have n2_ := xm (Kd.R_below (rB HO291) hb); have n3_ := xm (Kd.S_below (tB HO297) hb); have n4_ := xm (Kd.R_below (rB HO301) hb); have n5_ := xm (Kd.R_below (rB HO304) hb); have n6_ := xm (blk_below (kB BK278) hb); have n7_ := xm (blk_below (kB BK279) hb); have n8_ := xm (blk_below (kB BK298) hb); have n9_ := xm (below_step bG hb); have n10_ := xm (hbox); have n11_ := xm ((by rw [hg]; exact (xz bG) : w.heap.size ≤ gb305)); have n12_ := xm ((by rw [hg]; exact (xz bG) : w.heap.size ≤ gb305)); have n13_ := xm ((by rw [hg]; exact Nat.ne_of_lt (blk_lt (kB BK278)) : gb278 ≠ gb305)); have n14_ := xm ((by rw [hg]; exact Nat.ne_of_gt (blk_lt (kB BK278)) : gb305 ≠ gb278)); have n15_ := xm ((by rw [hg]; exact Nat.ne_of_lt (blk_lt (kB BK279)) : gb279 ≠ gb305)); have n16_ := xm ((by rw [hg]; exact Nat.ne_of_gt (blk_lt (kB BK279)) : gb305 ≠ gb279)); have n17_ := xm ((by rw [hg]; exact Nat.ne_of_lt (blk_lt (kB BK298)) : gb298 ≠ gb305)); have n18_ := xm ((by rw [hg]; exact Nat.ne_of_gt (blk_lt (kB BK298)) : gb305 ≠ gb298)); revert n0_ n1_ n2_ n3_ n4_ n5_ n6_ n7_ n8_ n9_ n10_ n11_ n12_ n13_ n14_ n15_ n16_ n17_ n18_; clear HO285 HO288 HO291 HO297 HO301 HO304 BK278 BK279 BK298 HB; intro HO285 HO288 HO291 HO297 HO301 HO304 BK278 BK279 BK298 HB BK305 GW305 GE305 NB278_305 NB305_278 NB279_305 NB305_279 NB298_305 NB305_298; clear hb hbox hg; obtain ⟨Ao57, co57, eo57⟩ := Kd.R_slice HO301.out; subst eo57; have hnb58 := NB305_278.out; have hnc58 := NB278_305.out; have hnb59 := NB305_279.out; have hnc59 := NB279_305.out; have hnb60 := NB305_298.out; have hnc60 := NB298_305.out; obtain ⟨hcz61_0, hcz61_1, hfz61_0, hfz61_1⟩ := cz2 BK305.out; obtain ⟨Ao62, co62, eo62⟩ := Kd.R_slice HO304.out; subst eo62; obtain ⟨hcz63_0, hcz63_1, hfz63_0, hfz63_1⟩ := cz2 BK298.out) | ((with_reducible refine gate_callee (f := 9) rfl ?_); refine goesL_ (some 37) rfl rfl Try.func9 (by kernel_rfl) rfl #[.agg #[.int .i64 t294, .slice Ao53 t295.length co53], .agg #[.slice Ao57 t299.length co57, .slice Ao62 t302.length co62]] rfl mB ?_; (with_reducible refine (impl_HoldsIn.calls k t294 _ _ t295 _ _ t299 _ _ t302 t306 t307 _ ?side1 ?side2 ?side3 ?side4 ?side5 ?side6 A24.out).mono ?_); (case side1 => refine (Kd.S_reads' (e := 52) (base := w.heap.size) (ok := fun k_ => (((((True ∧ some k_ ≠ (.slice Ao43 t283.length co43 : Value).ownBlock) ∧ some k_ ≠ (.slice Ao44 t286.length co44 : Value).ownBlock) ∧ some k_ ≠ (.slice Ao45 t289.length co45 : Value).ownBlock) ∧ some k_ ≠ (.slice Ao57 t299.length co57 : Value).ownBlock) ∧ some k_ ≠ (.slice Ao62 t302.length co62 : Value).ownBlock)) (n := t295.length) (c := co53) ?_).2.2; exact (by (with_reducible repeat (first | apply Kd.S_alloc | apply Kd.S_drewN | apply Kd.S_drew)); exact (Kd.S_mono (Kd.S_far (p := ⟨gb305, 1, none⟩) (Kd.S_far (p := ⟨gb305, 0, none⟩) (Kd.S_types HO297.out BK305.out (by decide)) (fun _ hk => hk.2) (.slice Ao57 t299.length co57)) (fun _ hk => hk.2) (.slice Ao62 t302.length co62)) (fun _ h_ => h_.1)))); (case side2 => exact (Kd.S_reads' HO297.out).2.1); (case side3 => refine (Kd.R_reads' (e := 3) (base := w.heap.size) (ok := fun k_ => ((some k_ ≠ (.slice Ao62 t302.length co62 : Value).ownBlock ∧ some k_ ≠ (.slice Ao44 t286.length co44 : Value).ownBlock) ∧ some k_ ≠ (.slice Ao45 t289.length co45 : Value).ownBlock)) (n := t299.length) (c := co57) ?_).2.2; exact (by (with_reducible repeat (first | apply Kd.R_alloc | apply Kd.R_drewN | apply Kd.R_drew)); exact (Kd.R_mono (Kd.R_far (p := ⟨gb305, 1, none⟩) (Kd.R_far (p := ⟨gb305, 0, none⟩) (Kd.R_types HO301.out BK305.out (by decide)) (fun _ hk => hk.2) (.slice Ao57 t299.length co57)) (fun _ hk => hk.2) (.slice Ao62 t302.length co62)) (fun _ h_ => h_.1)))); (case side4 => exact (Kd.R_reads' HO301.out).2.1); (case side5 => refine (Kd.R_reads' (e := 3) (base := w.heap.size) (ok := fun k_ => ((some k_ ≠ (.slice Ao57 t299.length co57 : Value).ownBlock ∧ some k_ ≠ (.slice Ao44 t286.length co44 : Value).ownBlock) ∧ some k_ ≠ (.slice Ao45 t289.length co45 : Value).ownBlock)) (n := t302.length) (c := co62) ?_).2.2; exact (by (with_reducible repeat (first | apply Kd.R_alloc | apply Kd.R_drewN | apply Kd.R_drew)); exact (Kd.R_mono (Kd.R_far (p := ⟨gb305, 1, none⟩) (Kd.R_far (p := ⟨gb305, 0, none⟩) (Kd.R_types HO304.out BK305.out (by decide)) (fun _ hk => hk.2) (.slice Ao57 t299.length co57)) (fun _ hk => hk.2) (.slice Ao62 t302.length co62)) (fun _ h_ => h_.1)))); (case side6 => exact (Kd.R_reads' HO304.out).2.1); rintro e w64 ⟨rfl, hb⟩; refine ⟨_, rfl, ?_⟩; have n0_ := xm (Kd.S_below (by (with_reducible repeat (first | apply Kd.S_alloc | apply Kd.S_drewN | apply Kd.S_drew)); exact (Kd.S_mono (Kd.S_far (p := ⟨gb305, 1, none⟩) (Kd.S_far (p := ⟨gb305, 0, none⟩) (Kd.S_types HO285.out BK305.out (by decide)) (fun _ hk => hk.2) (.slice Ao57 t299.length co57)) (fun _ hk => hk.2) (.slice Ao62 t302.length co62)) (fun _ h_ => h_.1))) hb); have n1_ := xm (Kd.R_below (by (with_reducible repeat (first | apply Kd.R_alloc | apply Kd.R_drewN | apply Kd.R_drew)); exact (Kd.R_mono (Kd.R_far (p := ⟨gb305, 1, none⟩) (Kd.R_far (p := ⟨gb305, 0, none⟩) (Kd.R_types HO288.out BK305.out (by decide)) (fun _ hk => hk.2) (.slice Ao57 t299.length co57)) (fun _ hk => hk.2) (.slice Ao62 t302.length co62)) (fun _ h_ => h_.1))) hb); have n2_ := xm (Kd.R_below (by (with_reducible repeat (first | apply Kd.R_alloc | apply Kd.R_drewN | apply Kd.R_drew)); exact (Kd.R_mono (Kd.R_far (p := ⟨gb305, 1, none⟩) (Kd.R_far (p := ⟨gb305, 0, none⟩) (Kd.R_types HO291.out BK305.out (by decide)) (fun _ hk => hk.2) (.slice Ao57 t299.length co57)) (fun _ hk => hk.2) (.slice Ao62 t302.length co62)) (fun _ h_ => h_.1))) hb); have n3_ := xm (Kd.S_below (by (with_reducible repeat (first | apply Kd.S_alloc | apply Kd.S_drewN | apply Kd.S_drew)); exact (Kd.S_mono (Kd.S_far (p := ⟨gb305, 1, none⟩) (Kd.S_far (p := ⟨gb305, 0, none⟩) (Kd.S_types HO297.out BK305.out (by decide)) (fun _ hk => hk.2) (.slice Ao57 t299.length co57)) (fun _ hk => hk.2) (.slice Ao62 t302.length co62)) (fun _ h_ => h_.1))) hb); have n4_ := xm (Kd.R_below (by (with_reducible repeat (first | apply Kd.R_alloc | apply Kd.R_drewN | apply Kd.R_drew)); exact (Kd.R_mono (Kd.R_far (p := ⟨gb305, 1, none⟩) (Kd.R_far (p := ⟨gb305, 0, none⟩) (Kd.R_types HO301.out BK305.out (by decide)) (fun _ hk => hk.2) (.slice Ao57 t299.length co57)) (fun _ hk => hk.2) (.slice Ao62 t302.length co62)) (fun _ h_ => h_.1))) hb); have n5_ := xm (Kd.R_below (by (with_reducible repeat (first | apply Kd.R_alloc | apply Kd.R_drewN | apply Kd.R_drew)); exact (Kd.R_mono (Kd.R_far (p := ⟨gb305, 1, none⟩) (Kd.R_far (p := ⟨gb305, 0, none⟩) (Kd.R_types HO304.out BK305.out (by decide)) (fun _ hk => hk.2) (.slice Ao57 t299.length co57)) (fun _ hk => hk.2) (.slice Ao62 t302.length co62)) (fun _ h_ => h_.1))) hb); have n6_ := xm (blk_below (g := gb278) (o := .cells #[.int .i64 a0_0, .slice A0_1 l0_1.length c0_1] 24 (0, 0)) (by (with_reducible repeat (first | refine xq ?_ _ | refine xr ?_ | refine xo ?_ _)); refine blk_far ?_ NB278_305.out _; (with_reducible repeat (first | refine xq ?_ _ | refine xr ?_ | refine xo ?_ _)); refine blk_far ?_ NB278_305.out _; (with_reducible repeat (first | refine xq ?_ _ | refine xr ?_ | refine xo ?_ _)); exact BK278.out) hb); have n7_ := xm (blk_below (g := gb279) (o := .cells #[.slice A1_0 l1_0.length c1_0, .slice A1_1 l1_1.length c1_1] 27 (0, 0)) (by (with_reducible repeat (first | refine xq ?_ _ | refine xr ?_ | refine xo ?_ _)); refine blk_far ?_ NB279_305.out _; (with_reducible repeat (first | refine xq ?_ _ | refine xr ?_ | refine xo ?_ _)); refine blk_far ?_ NB279_305.out _; (with_reducible repeat (first | refine xq ?_ _ | refine xr ?_ | refine xo ?_ _)); exact BK279.out) hb); have n8_ := xm (blk_below (g := gb298) (o := .cells #[.int .i64 t294, .slice Ao53 t295.length co53] 34 (0, 0)) (by (with_reducible repeat (first | refine xq ?_ _ | refine xr ?_ | refine xo ?_ _)); refine blk_far ?_ NB298_305.out _; (with_reducible repeat (first | refine xq ?_ _ | refine xr ?_ | refine xo ?_ _)); refine blk_far ?_ NB298_305.out _; (with_reducible repeat (first | refine xq ?_ _ | refine xr ?_ | refine xo ?_ _)); exact BK298.out) hb); have n9_ := xm (blk_below (g := gb305) (o := .cells #[.slice Ao57 t299.length co57, .slice Ao62 t302.length co62] 36 (0, 0)) (by (with_reducible repeat (first | refine xq ?_ _ | refine xr ?_ | refine xo ?_ _)); refine blk_put (cs := #[.slice Ao57 t299.length co57, .slice none 0 0]) ?_ 1 _ rfl; (with_reducible repeat (first | refine xq ?_ _ | refine xr ?_ | refine xo ?_ _)); refine blk_put (cs := #[.slice none 0 0, .slice none 0 0]) ?_ 0 _ rfl; (with_reducible repeat (first | refine xq ?_ _ | refine xr ?_ | refine xo ?_ _)); exact BK305.out) hb); have n10_ := xm (below_step bG hb); revert n0_ n1_ n2_ n3_ n4_ n5_ n6_ n7_ n8_ n9_ n10_; clear HO285 HO288 HO291 HO297 HO301 HO304 BK278 BK279 BK298 BK305 HB; intro HO285 HO288 HO291 HO297 HO301 HO304 BK278 BK279 BK298 BK305 HB; (try clear hb); (try clear hk)))
       have n0_ := xm (Kd.S_drew HO285.out)
       have n1_ := xm (Kd.R_drew HO288.out)
       have n2_ := xm (Kd.R_drew HO291.out)
       have n3_ := xm (Kd.S_drew HO297.out)
       have n4_ := xm (Kd.R_drew HO301.out)
       have n5_ := xm (Kd.R_drew HO304.out)
       have n6_ := xm (xr BK278.out)
       have n7_ := xm (xr BK279.out)
       have n8_ := xm (xr BK298.out)
       have n9_ := xm (xr BK305.out)
       have n10_ := xm (xd HB.out)
       revert n0_ n1_ n2_ n3_ n4_ n5_ n6_ n7_ n8_ n9_ n10_; clear HO285 HO288 HO291 HO297 HO301 HO304 BK278 BK279 BK298 BK305 HB; intro HO285 HO288 HO291 HO297 HO301 HO304 BK278 BK279 BK298 BK305 HB
       refine start_ (n := 5) (S := fun w' => w'.cell? ⟨gb298, 0, none⟩ = some (.int .i64 t294) ∧ w'.cell? ⟨gb298, 1, none⟩ = some (.slice Ao53 t295.length co53) ∧ w'.cell? ⟨gb278, 0, none⟩ = some (.int .i64 a0_0) ∧ w'.cell? ⟨gb278, 1, none⟩ = some (.slice A0_1 l0_1.length c0_1)) (ds := []) #[false, false, false, false, false] (by kernel_rfl) rfl rfl ⟨(xc BK298.out 0).trans rfl, (xc BK298.out 1).trans rfl, (xc BK278.out 0).trans rfl, (xc BK278.out 1).trans rfl⟩ (fun hHeld => ?_)
       generalize w64.drew = w65 at HO285 HO288 HO291 HO297 HO301 HO304 BK278 BK279 BK298 BK305 HB hHeld ⊢
       refine tx 0 5 1 rfl rfl (by kernel_rfl) hHeld (by rintro w' ⟨s0, s1, s2, s3⟩; go_simp; with_reducible rfl) ?_
       refine tx 1 5 3 rfl rfl (by kernel_rfl) hHeld (by rintro w' ⟨s0, s1, s2, s3⟩; go_simp; with_reducible rfl) ?_
       refine one_ (i := 2) (N := some 50) #[true, true, true, false, false] rfl rfl (by kernel_rfl) (by decide) (fun K hK => ?_)
       refine goes_ Try.func7 (by kernel_rfl) rfl #[.agg #[.int .i64 a0_0, .slice A0_1 l0_1.length c0_1]] (by rfl) rfl rfl mB ?_
       with_reducible refine (laws_toTable.calls k a0_0 _ _ l0_1 t308 t309 _ ?side1 ?side2 A27.out).mono ?_
       (case side1 => exact cB (Kd.C_below HR0_1.out HB.out))
       (case side2 => exact HC0_1.out)
       rintro e w66 ⟨v310, rfl, ho0, hb⟩
       refine ⟨_, rfl, ?_⟩
       have n0_ := xm (Kd.S_elder' (tB HO285) (Kd.S_base ho0) hb)
       have n1_ := xm (Kd.R_below (rB HO288) hb)
       have n2_ := xm (Kd.R_below (rB HO291) hb)
       have n3_ := xm (Kd.S_elder' (tB HO297) (Kd.S_base ho0) hb)
       have n4_ := xm (Kd.R_below (rB HO301) hb)
       have n5_ := xm (Kd.R_below (rB HO304) hb)
       have n6_ := xm (Kd.S_lower (Kd.S_new' (Kd.S_new' (Kd.S_new' (Kd.S_new' (Kd.S_new' (Kd.S_new' ho0 (Kd.S_lt (tB HO285))) (Kd.R_lt (rB HO288))) (Kd.R_lt (rB HO291))) (Kd.S_lt (tB HO297))) (Kd.R_lt (rB HO301))) (Kd.R_lt (rB HO304))) (xz bG))
       have n7_ := xm (blk_below (kB BK278) hb)
       have n8_ := xm (blk_below (kB BK279) hb)
       have n9_ := xm (blk_below (kB BK298) hb)
       have n10_ := xm (blk_below (kB BK305) hb)
       have n11_ := xm (below_step bG hb)
       revert n0_ n1_ n2_ n3_ n4_ n5_ n6_ n7_ n8_ n9_ n10_ n11_; clear HO285 HO288 HO291 HO297 HO301 HO304 BK278 BK279 BK298 BK305 HB; intro HO285 HO288 HO291 HO297 HO301 HO304 HO311 BK278 BK279 BK298 BK305 HB
       (try clear hb)
       (try clear hb2)
       (try clear hk)
       (try clear hi)
       (try clear ho0)
       obtain ⟨Ao67, co67, eo67⟩ := Kd.S_slice HO311.out
       (first | subst eo67 | (injection eo67 with f1_ f2_ f3_; have f4_ := f1_.symm; have f5_ := f3_.symm; clear f1_ f2_ f3_; subst f4_; subst f5_))
       refine hK.out _ _ ⟨(xc BK298.out 0).trans rfl, (xc BK298.out 1).trans rfl, (xc BK278.out 0).trans rfl, (xc BK278.out 1).trans rfl⟩ (fun hHeld => nC ?_)
       clear hK K
       refine one_ (i := 3) (N := some 51) #[true, true, true, true, false] rfl rfl (by kernel_rfl) (by decide) (fun K hK => ?_)
       refine goes_ Try.func10 (by kernel_rfl) rfl #[.agg #[.int .i64 t294, .slice Ao53 t295.length co53], .agg #[.int .i64 t308, .slice Ao67 t309.length co67]] (by rfl) rfl rfl mB ?_
       with_reducible refine (laws_eqTable.calls k t294 _ _ t295 t308 _ _ t309 true _ ?side1 ?side2 ?side3 ?side4 A28.out).mono ?_
       (case side1 => repeat (first | exact (Kd.S_reads' HO297.out).2.2 | (with_reducible refine Kd.C_alloc ?_ _) | (with_reducible refine Kd.C_drewN ?_ _) | (with_reducible refine Kd.C_drew ?_)))
       (case side2 => exact (Kd.S_reads' HO297.out).2.1)
       (case side3 => repeat (first | exact (Kd.S_reads' HO311.out).2.2 | (with_reducible refine Kd.C_alloc ?_ _) | (with_reducible refine Kd.C_drewN ?_ _) | (with_reducible refine Kd.C_drew ?_)))
       (case side4 => exact (Kd.S_reads' HO311.out).2.1)
       rintro e w68 ⟨rfl, hb⟩
       refine ⟨_, rfl, ?_⟩
       have n0_ := xm (Kd.S_below (tB HO285) hb)
       have n1_ := xm (Kd.R_below (rB HO288) hb)
       have n2_ := xm (Kd.R_below (rB HO291) hb)
       have n3_ := xm (Kd.S_below (tB HO297) hb)
       have n4_ := xm (Kd.R_below (rB HO301) hb)
       have n5_ := xm (Kd.R_below (rB HO304) hb)
       have n6_ := xm (Kd.S_below (tB HO311) hb)
       have n7_ := xm (blk_below (kB BK278) hb)
       have n8_ := xm (blk_below (kB BK279) hb)
       have n9_ := xm (blk_below (kB BK298) hb)
       have n10_ := xm (blk_below (kB BK305) hb)
       have n11_ := xm (below_step bG hb)
       revert n0_ n1_ n2_ n3_ n4_ n5_ n6_ n7_ n8_ n9_ n10_ n11_; clear HO285 HO288 HO291 HO297 HO301 HO304 HO311 BK278 BK279 BK298 BK305 HB; intro HO285 HO288 HO291 HO297 HO301 HO304 HO311 BK278 BK279 BK298 BK305 HB
       (try clear hb)
       (try clear hb2)
       (try clear hk)
       (try clear hi)
       refine hK.out _ _ ⟨(xc BK298.out 0).trans rfl, (xc BK298.out 1).trans rfl, (xc BK278.out 0).trans rfl, (xc BK278.out 1).trans rfl⟩ (fun hHeld => nC ?_)
       clear hK K
       refine px 4 5 31 (by kernel_rfl) ?_
       refine done_ (by kernel_rfl) ?_
       try go_wp2
       have n0_ := xm (Kd.S_drew HO285.out)
       have n1_ := xm (Kd.R_drew HO288.out)
       have n2_ := xm (Kd.R_drew HO291.out)
       have n3_ := xm (Kd.S_drew HO297.out)
       have n4_ := xm (Kd.R_drew HO301.out)
       have n5_ := xm (Kd.R_drew HO304.out)
       have n6_ := xm (Kd.S_drew HO311.out)
       have n7_ := xm (xr BK278.out)
       have n8_ := xm (xr BK279.out)
       have n9_ := xm (xr BK298.out)
       have n10_ := xm (xr BK305.out)
       have n11_ := xm (xd HB.out)
       revert n0_ n1_ n2_ n3_ n4_ n5_ n6_ n7_ n8_ n9_ n10_ n11_; clear HO285 HO288 HO291 HO297 HO301 HO304 HO311 BK278 BK279 BK298 BK305 HB; intro HO285 HO288 HO291 HO297 HO301 HO304 HO311 BK278 BK279 BK298 BK305 HB
       refine start_ (n := 5) (S := fun w' => w'.cell? ⟨gb305, 0, none⟩ = some (.slice Ao57 t299.length co57) ∧ w'.cell? ⟨gb305, 1, none⟩ = some (.slice Ao62 t302.length co62) ∧ w'.cell? ⟨gb279, 0, none⟩ = some (.slice A1_0 l1_0.length c1_0) ∧ w'.cell? ⟨gb279, 1, none⟩ = some (.slice A1_1 l1_1.length c1_1)) (ds := []) #[false, false, false, false, false] (by kernel_rfl) rfl rfl ⟨(xc BK305.out 0).trans rfl, (xc BK305.out 1).trans rfl, (xc BK279.out 0).trans rfl, (xc BK279.out 1).trans rfl⟩ (fun hHeld => ?_)
       generalize w68.drew = w69 at HO285 HO288 HO291 HO297 HO301 HO304 HO311 BK278 BK279 BK298 BK305 HB hHeld ⊢
       refine tx 0 5 1 rfl rfl (by kernel_rfl) hHeld (by rintro w' ⟨s0, s1, s2, s3⟩; go_simp; with_reducible rfl) ?_
       refine tx 1 5 3 rfl rfl (by kernel_rfl) hHeld (by rintro w' ⟨s0, s1, s2, s3⟩; go_simp; with_reducible rfl) ?_
       refine one_ (i := 2) (N := some 55) #[true, true, true, false, false] rfl rfl (by kernel_rfl) (by decide) (fun K hK => ?_)
       refine goes_ Try.func8 (by kernel_rfl) rfl #[.agg #[.slice A1_0 l1_0.length c1_0, .slice A1_1 l1_1.length c1_1]] (by rfl) rfl rfl mB ?_
       with_reducible refine (laws_toDepend.calls k _ _ l1_0 _ _ l1_1 t313 t316 _ ?side1 ?side2 ?side3 ?side4 A30.out).mono ?_
       (case side1 => exact cB (Kd.C_below HR1_0.out HB.out))
       (case side2 => exact HC1_0.out)
       (case side3 => exact cB (Kd.C_below HR1_1.out HB.out))
       (case side4 => exact HC1_1.out)
       rintro e w70 ⟨v314, v317, rfl, ho0, ho1, hb⟩
       refine ⟨_, rfl, ?_⟩
       have n0_ := xm (Kd.S_mono (Kd.S_told (Kd.S_told (Kd.S_old (tB HO285) hb) (Kd.R_base ho0)) (Kd.R_base ho1)) (fun _ h_ => h_.1))
       have n1_ := xm (Kd.R_mono (Kd.R_told (Kd.R_told (Kd.R_old (rB HO288) hb) (Kd.R_base ho0)) (Kd.R_base ho1)) (fun _ h_ => h_.1))
       have n2_ := xm (Kd.R_mono (Kd.R_told (Kd.R_told (Kd.R_old (rB HO291) hb) (Kd.R_base ho0)) (Kd.R_base ho1)) (fun _ h_ => h_.1))
       have n3_ := xm (Kd.S_mono (Kd.S_told (Kd.S_told (Kd.S_old (tB HO297) hb) (Kd.R_base ho0)) (Kd.R_base ho1)) (fun _ h_ => h_.1))
       have n4_ := xm (Kd.R_mono (Kd.R_told (Kd.R_told (Kd.R_old (rB HO301) hb) (Kd.R_base ho0)) (Kd.R_base ho1)) (fun _ h_ => h_.1))
       have n5_ := xm (Kd.R_mono (Kd.R_told (Kd.R_told (Kd.R_old (rB HO304) hb) (Kd.R_base ho0)) (Kd.R_base ho1)) (fun _ h_ => h_.1))
       have n6_ := xm (Kd.S_mono (Kd.S_told (Kd.S_told (Kd.S_old (tB HO311) hb) (Kd.R_base ho0)) (Kd.R_base ho1)) (fun _ h_ => h_.1))
       have n7_ := xm (Kd.R_lower (Kd.R_new' (Kd.R_new' (Kd.R_new' (Kd.R_new' ho0 (Kd.R_lt (rB HO288))) (Kd.R_lt (rB HO291))) (Kd.R_lt (rB HO301))) (Kd.R_lt (rB HO304))) (xz bG))
       have n8_ := xm (Kd.R_lower (Kd.R_new' (Kd.R_new' (Kd.R_new' (Kd.R_new' ho1 (Kd.R_lt (rB HO288))) (Kd.R_lt (rB HO291))) (Kd.R_lt (rB HO301))) (Kd.R_lt (rB HO304))) (xz bG))
       have n9_ := xm (blk_below (kB BK278) hb)
       have n10_ := xm (blk_below (kB BK279) hb)
       have n11_ := xm (blk_below (kB BK298) hb)
       have n12_ := xm (blk_below (kB BK305) hb)
       have n13_ := xm (below_step bG hb)
       revert n0_ n1_ n2_ n3_ n4_ n5_ n6_ n7_ n8_ n9_ n10_ n11_ n12_ n13_; clear HO285 HO288 HO291 HO297 HO301 HO304 HO311 BK278 BK279 BK298 BK305 HB; intro HO285 HO288 HO291 HO297 HO301 HO304 HO311 HO315 HO318 BK278 BK279 BK298 BK305 HB
       (try clear hb)
       (try clear hb2)
       (try clear hk)
       (try clear hi)
       (try clear ho0)
       (try clear ho1)
       obtain ⟨Ao71, co71, eo71⟩ := Kd.R_slice HO315.out
       (first | subst eo71 | (injection eo71 with f1_ f2_ f3_; have f4_ := f1_.symm; have f5_ := f3_.symm; clear f1_ f2_ f3_; subst f4_; subst f5_))
       obtain ⟨Ao72, co72, eo72⟩ := Kd.R_slice HO318.out
       (first | subst eo72 | (injection eo72 with f1_ f2_ f3_; have f4_ := f1_.symm; have f5_ := f3_.symm; clear f1_ f2_ f3_; subst f4_; subst f5_))
       refine hK.out _ _ ⟨(xc BK305.out 0).trans rfl, (xc BK305.out 1).trans rfl, (xc BK279.out 0).trans rfl, (xc BK279.out 1).trans rfl⟩ (fun hHeld => nC ?_)
       clear hK K
       refine one_ (i := 3) (N := some 56) #[true, true, true, true, false] rfl rfl (by kernel_rfl) (by decide) (fun K hK => ?_)
       refine goes_ Try.func11 (by kernel_rfl) rfl #[.agg #[.slice Ao57 t299.length co57, .slice Ao62 t302.length co62], .agg #[.slice Ao71 t313.length co71, .slice Ao72 t316.length co72]] (by rfl) rfl rfl mB ?_
       with_reducible refine (laws_eqDepend.calls k _ _ t299 _ _ t302 _ _ t313 _ _ t316 true _ ?side1 ?side2 ?side3 ?side4 ?side5 ?side6 ?side7 ?side8 A31.out).mono ?_
       (case side1 => repeat (first | exact (Kd.R_reads' HO301.out).2.2 | (with_reducible refine Kd.C_alloc ?_ _) | (with_reducible refine Kd.C_drewN ?_ _) | (with_reducible refine Kd.C_drew ?_)))
       (case side2 => exact (Kd.R_reads' HO301.out).2.1)
       (case side3 => repeat (first | exact (Kd.R_reads' HO304.out).2.2 | (with_reducible refine Kd.C_alloc ?_ _) | (with_reducible refine Kd.C_drewN ?_ _) | (with_reducible refine Kd.C_drew ?_)))
       (case side4 => exact (Kd.R_reads' HO304.out).2.1)
       (case side5 => repeat (first | exact (Kd.R_reads' HO315.out).2.2 | (with_reducible refine Kd.C_alloc ?_ _) | (with_reducible refine Kd.C_drewN ?_ _) | (with_reducible refine Kd.C_drew ?_)))
       (case side6 => exact (Kd.R_reads' HO315.out).2.1)
       (case side7 => repeat (first | exact (Kd.R_reads' HO318.out).2.2 | (with_reducible refine Kd.C_alloc ?_ _) | (with_reducible refine Kd.C_drewN ?_ _) | (with_reducible refine Kd.C_drew ?_)))
       (case side8 => exact (Kd.R_reads' HO318.out).2.1)
       rintro e w73 ⟨rfl, hb⟩
       refine ⟨_, rfl, ?_⟩
       have n0_ := xm (Kd.S_below (tB HO285) hb)
       have n1_ := xm (Kd.R_below (rB HO288) hb)
       have n2_ := xm (Kd.R_below (rB HO291) hb)
       have n3_ := xm (Kd.S_below (tB HO297) hb)
       have n4_ := xm (Kd.R_below (rB HO301) hb)
       have n5_ := xm (Kd.R_below (rB HO304) hb)
       have n6_ := xm (Kd.S_below (tB HO311) hb)
       have n7_ := xm (Kd.R_below (rB HO315) hb)
       have n8_ := xm (Kd.R_below (rB HO318) hb)
       have n9_ := xm (blk_below (kB BK278) hb)
       have n10_ := xm (blk_below (kB BK279) hb)
       have n11_ := xm (blk_below (kB BK298) hb)
       have n12_ := xm (blk_below (kB BK305) hb)
       have n13_ := xm (below_step bG hb)
       revert n0_ n1_ n2_ n3_ n4_ n5_ n6_ n7_ n8_ n9_ n10_ n11_ n12_ n13_; clear HO285 HO288 HO291 HO297 HO301 HO304 HO311 HO315 HO318 BK278 BK279 BK298 BK305 HB; intro HO285 HO288 HO291 HO297 HO301 HO304 HO311 HO315 HO318 BK278 BK279 BK298 BK305 HB
       (try clear hb)
       (try clear hb2)
       (try clear hk)
       (try clear hi)
       refine hK.out _ _ ⟨(xc BK305.out 0).trans rfl, (xc BK305.out 1).trans rfl, (xc BK279.out 0).trans rfl, (xc BK279.out 1).trans rfl⟩ (fun hHeld => nC ?_)
       clear hK K
       refine px 4 5 31 (by kernel_rfl) ?_
       refine done_ (by kernel_rfl) ?_
       try go_wp2
       go_ret
       exact ⟨eB, bG⟩
      ·replace c32 := Bool.eq_false_iff.mpr c32
       subst c32
       have H1 : (some false) = some true := by first | (with_reducible rfl) | (rw [if_neg (show ¬ (false = true) by decide)] at H; exact H)
       clear H
       have H := H1
       clear H1
       exact absurd H (by simp)
     ·replace c29 := Bool.eq_false_iff.mpr c29
      subst c29
      have H1 : (some false) = some true := by first | (with_reducible rfl) | (rw [if_neg (show ¬ (false = true) by decide)] at H; exact H)
      clear H
      have H := H1
      clear H1
      exact absurd H (by simp)

/-- THE ONE PURE STATEMENT of laws_FnExactHoldsIn. -/
def laws_FnExactHoldsIn.Pure : Prop := ∀ x0 : S24, wf24 x0 → ∀ x1 : S27, wf27 x1 → ∃ k, laws_FnExactHoldsIn.f k x0.f0 x0.f1 x1.f0 x1.f1 = some true

end Go.Proofs.Ytmelechhnimlnac.G
