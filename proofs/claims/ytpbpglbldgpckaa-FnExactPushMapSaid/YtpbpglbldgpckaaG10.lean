/- Written by a program of this claim's own, out of the translation: functions of the program as plain functions, and that the calls answer as these. No conditions. -/
import Derived.Test.YtpbpglbldgpckaaG0
import Derived.Test.YtpbpglbldgpckaaG1
import Derived.Test.YtpbpglbldgpckaaG9
namespace Go.Proofs.Ytpbpglbldgpckaa.G
open Go.RowKit Go.Proofs.Ytpbpglbldgpckaa.X Go.Proofs.YtpbpglbldgpckaaW.PrintWords Go.Proofs.YtpbpglbldgpckaaW.PrintLast Go.Proofs.YtpbpglbldgpckaaW.PrintMore
attribute [local go_sem] max2_int min2_int max_two min_two max_three min_three max_four min_four   -- for this text's walks alone
set_option linter.unusedVariables false
set_option linter.unusedSimpArgs false

attribute [local go_sem high] eqA51
/-! ### impl_GoodWindow: function 36 -/
def impl_GoodWindow.f (k : Nat) (l0_0 : List (S51)) (l0_1 : List (S51)) (l0_2 : List (S51)) (a0_3 : Int) (a0_4 : Int) : Option (Bool) := (impl_areAll_impl_Map__impl_GoodMap.f l0_0).bind fun t257 => (if t257 = true then ((impl_areAll_impl_Map__impl_GoodMap.f l0_2).bind fun t258 => (if t258 = true then (if (wrap64 ((l0_0.length : Int) + (l0_2.length : Int))) ≤ 60 then ((impl_sumsOf.f k l0_0).bind fun t259 => ((slices_Equal_Limpl_Map_impl_Map.f k l0_1 t259).bind fun t262 => (if t262 = true then ((impl_composed.f k l0_2).bind fun bt263 => (some (a0_3 == bt263.1 && (a0_4 == bt263.2)))) else (some false)))) else (some false)) else (some false))) else (some false))
theorem impl_GoodWindow.mono : ∀ a0 a1 a2 a3 a4 k, LeO (impl_GoodWindow.f k a0 a1 a2 a3 a4) (impl_GoodWindow.f (k + 1) a0 a1 a2 a3 a4) := by
 intro a0 a1 a2 a3 a4 k
 unfold impl_GoodWindow.f
 repeat' first
   | (with_reducible exact impl_composed.mono _ _)
   | (with_reducible exact impl_sumsOf.mono _ _)
   | (with_reducible exact slices_Equal_Limpl_Map_impl_Map.mono _ _ _)
   | (with_reducible exact LeO.refl _)
   | (with_reducible exact LeO.none _)
   | (with_reducible refine LeO.ite ?_ ?_)
   | (with_reducible refine LeO.bind ?_ (fun _ => ?_))
   | exact impl_composed.mono _ _
   | exact impl_sumsOf.mono _ _
   | exact slices_Equal_Limpl_Map_impl_Map.mono _ _ _
   | exact LeO.none _
   | refine LeO.ite ?_ ?_
   | refine LeO.bind ?_ (fun _ => ?_)
def impl_GoodWindow.T1 : Bool × List (List Nat × List Nat) := (true, [([], []), ([0], [0]), ([1], [1]), ([2, 2], [2]), ([3], [3]), ([4, 3], [3, 4]), ([5, 3, 3], [3, 5]), ([3, 6], [3, 6]), ([7, 6], [7]), ([8], [8]), ([9, 8], [8, 9]), ([10, 8], [8, 10]), ([8], [8]), ([12, 8], [8, 12]), ([13, 8], [8, 13]), ([11, 14, 8], [8, 11, 14]), ([15, 8], [8, 15]), ([8, 16], [8, 16]), ([17, 8], [17]), ([18], [18]), ([19, 18], [18, 19]), ([18], [18]), ([21, 18], [18, 21]), ([22, 18, 18], [18, 22]), ([20, 23, 23, 18], [18, 20, 23]), ([18, 24], [18, 24]), ([25, 24], [25]), ([26], [26]), ([27, 26], [26, 27]), ([26], [26]), ([29, 26], [26, 29]), ([30, 26, 26], [26, 30]), ([28, 31, 26], [26, 28, 31]), ([26, 32], [26, 32]), ([33, 31, 0, 1, 2, 3, 4, 5, 6, 7, 8, 9, 10, 11, 12, 13, 14, 15, 16, 17, 18, 19, 20, 21, 22, 23, 24, 25, 26, 27, 28, 29, 30, 31, 32, 33], [33])])
def impl_GoodWindow.B1 : List Nat := [0, 1, 3, 7, 15, 31, 63, 127, 255, 511, 1023, 2047, 511, 4607, 12799, 32767, 65535, 131071, 262143, 524287, 1048575, 524287, 2621439, 6815743, 16777215, 33554431, 67108863, 134217727, 268435455, 134217727, 671088639, 1744830463, 4294967295, 8589934591, 17179869183]
theorem impl_GoodWindow.tab1 : rtab .any (opsOf Try.f36 1) = impl_GoodWindow.T1 := by kernel_rfl
theorem impl_GoodWindow.bits1 : waitsOk impl_GoodWindow.T1.2 impl_GoodWindow.B1 = true := by kernel_rfl
set_option maxHeartbeats 8000000 in
set_option maxRecDepth 100000 in
theorem impl_GoodWindow.calls (k : Nat) (A0_0 : Option Addr) (c0_0 : Nat) (l0_0 : List (S51)) (A0_1 : Option Addr) (c0_1 : Nat) (l0_1 : List (S51)) (A0_2 : Option Addr) (c0_2 : Nat) (l0_2 : List (S51)) (a0_3 : Int) (a0_4 : Int) (r : Bool) (w : World) (hr0_0 : Kd.C k51 w A0_0 l0_0.length l0_0) (hc0_0 : l0_0.length ≤ c0_0) (hr0_1 : Kd.C k51 w A0_1 l0_1.length l0_1) (hc0_1 : l0_1.length ≤ c0_1) (hr0_2 : Kd.C k51 w A0_2 l0_2.length l0_2) (hc0_2 : l0_2.length ≤ c0_2) (h : impl_GoodWindow.f k l0_0 l0_1 l0_2 a0_3 a0_4 = some r) :
  Calls Try.prog 36 #[.agg #[.slice A0_0 l0_0.length c0_0, .slice A0_1 l0_1.length c0_1, .slice A0_2 l0_2.length c0_2, .int .i64 a0_3, .int .i64 a0_4]] w fun e w' => e = .returned (.bool r) ∧ Below w.heap.size w w' := by
 have hu53 := Try.underlying53
 have hu51 := Try.underlying51
 have HR0_0 := xm hr0_0
 have HC0_0 := xm hc0_0
 clear hr0_0 hc0_0
 have HR0_1 := xm hr0_1
 have HC0_1 := xm hc0_1
 clear hr0_1 hc0_1
 have HR0_2 := xm hr0_2
 have HC0_2 := xm hc0_2
 clear hr0_2 hc0_2
 have HB := xm (Below.refl w.heap.size w)
 have H : ((impl_areAll_impl_Map__impl_GoodMap.f l0_0).bind fun t257 => (if t257 = true then ((impl_areAll_impl_Map__impl_GoodMap.f l0_2).bind fun t258 => (if t258 = true then (if (wrap64 ((l0_0.length : Int) + (l0_2.length : Int))) ≤ 60 then ((impl_sumsOf.f k l0_0).bind fun t259 => ((slices_Equal_Limpl_Map_impl_Map.f k l0_1 t259).bind fun t262 => (if t262 = true then ((impl_composed.f k l0_2).bind fun bt263 => (some (a0_3 == bt263.1 && (a0_4 == bt263.2)))) else (some false)))) else (some false)) else (some false))) else (some false))) = some r := h
 clear h
 replace H := Option.bind_eq_some_iff.mp H
 obtain ⟨t257, A20, H⟩ := H
 replace H : (if t257 = true then ((impl_areAll_impl_Map__impl_GoodMap.f l0_2).bind fun t258 => (if t258 = true then (if (wrap64 ((l0_0.length : Int) + (l0_2.length : Int))) ≤ 60 then ((impl_sumsOf.f k l0_0).bind fun t259 => ((slices_Equal_Limpl_Map_impl_Map.f k l0_1 t259).bind fun t262 => (if t262 = true then ((impl_composed.f k l0_2).bind fun bt263 => (some (a0_3 == bt263.1 && (a0_4 == bt263.2)))) else (some false)))) else (some false)) else (some false))) else (some false)) = some r := H
 have A2 := xm A20
 clear A20
 by_cases c3 : t257 = true
 ·subst c3
  have H1 : ((impl_areAll_impl_Map__impl_GoodMap.f l0_2).bind fun t258 => (if t258 = true then (if (wrap64 ((l0_0.length : Int) + (l0_2.length : Int))) ≤ 60 then ((impl_sumsOf.f k l0_0).bind fun t259 => ((slices_Equal_Limpl_Map_impl_Map.f k l0_1 t259).bind fun t262 => (if t262 = true then ((impl_composed.f k l0_2).bind fun bt263 => (some (a0_3 == bt263.1 && (a0_4 == bt263.2)))) else (some false)))) else (some false)) else (some false))) = some r := by first | (with_reducible rfl) | (rw [if_pos rfl] at H; exact H)
  clear H
  have H := H1
  clear H1
  replace H := Option.bind_eq_some_iff.mp H
  obtain ⟨t258, A40, H⟩ := H
  replace H : (if t258 = true then (if (wrap64 ((l0_0.length : Int) + (l0_2.length : Int))) ≤ 60 then ((impl_sumsOf.f k l0_0).bind fun t259 => ((slices_Equal_Limpl_Map_impl_Map.f k l0_1 t259).bind fun t262 => (if t262 = true then ((impl_composed.f k l0_2).bind fun bt263 => (some (a0_3 == bt263.1 && (a0_4 == bt263.2)))) else (some false)))) else (some false)) else (some false)) = some r := H
  have A4 := xm A40
  clear A40
  by_cases c5 : t258 = true
  ·subst c5
   have H1 : (if (wrap64 ((l0_0.length : Int) + (l0_2.length : Int))) ≤ 60 then ((impl_sumsOf.f k l0_0).bind fun t259 => ((slices_Equal_Limpl_Map_impl_Map.f k l0_1 t259).bind fun t262 => (if t262 = true then ((impl_composed.f k l0_2).bind fun bt263 => (some (a0_3 == bt263.1 && (a0_4 == bt263.2)))) else (some false)))) else (some false)) = some r := by first | (with_reducible rfl) | (rw [if_pos rfl] at H; exact H)
   clear H
   have H := H1
   clear H1
   by_cases c6 : (wrap64 ((l0_0.length : Int) + (l0_2.length : Int))) ≤ 60
   ·rw [if_pos c6] at H
    have c6b0 : decide ((wrap64 ((l0_0.length : Int) + (l0_2.length : Int))) ≤ 60) = true := decide_eq_true c6
    clear c6
    replace H := Option.bind_eq_some_iff.mp H
    obtain ⟨t259, A70, H⟩ := H
    replace H : ((slices_Equal_Limpl_Map_impl_Map.f k l0_1 t259).bind fun t262 => (if t262 = true then ((impl_composed.f k l0_2).bind fun bt263 => (some (a0_3 == bt263.1 && (a0_4 == bt263.2)))) else (some false))) = some r := H
    have A7 := xm A70
    clear A70
    replace H := Option.bind_eq_some_iff.mp H
    obtain ⟨t262, A80, H⟩ := H
    replace H : (if t262 = true then ((impl_composed.f k l0_2).bind fun bt263 => (some (a0_3 == bt263.1 && (a0_4 == bt263.2)))) else (some false)) = some r := H
    have A8 := xm A80
    clear A80
    by_cases c9 : t262 = true
    ·subst c9
     have H1 : ((impl_composed.f k l0_2).bind fun bt263 => (some (a0_3 == bt263.1 && (a0_4 == bt263.2)))) = some r := by first | (with_reducible rfl) | (rw [if_pos rfl] at H; exact H)
     clear H
     have H := H1
     clear H1
     replace H := Option.bind_eq_some_iff.mp H
     obtain ⟨⟨t263, t264⟩, A100, H⟩ := H
     replace H : (some (a0_3 == t263 && (a0_4 == t264))) = some r := H
     have A10 := xm A100
     clear A100
     obtain rfl := Option.some.inj H
     go_enter Try.func36, Try.ntmps36
     try go_wp2_with (first | ((with_reducible refine gate_dst (N := 1) rfl ?_); (try (refine gate_guard (by rfl) ?_; dsimp only)); refine box_event ?hg (N := 1) ?hd (cs := #[.slice A0_0 l0_0.length c0_0, .slice A0_1 l0_1.length c0_1, .slice A0_2 l0_2.length c0_2, .int .i64 a0_3, .int .i64 a0_4]) (t := 53) ?hr ?_; (case hd => rfl); (case hg => rfl); (case hr => exact zB); intro gb256 hg w11 hbox hb; have n0_ := xm (below_step bB hb); have n1_ := xm (hbox); have n2_ := xm ((by rw [hg]; exact (xz bB) : w.heap.size ≤ gb256)); have n3_ := xm ((by rw [hg]; exact (xz bB) : w.heap.size ≤ gb256)); clear HB; have HB := n0_; have BK256 := n1_; have GW256 := n2_; have GE256 := n3_; clear n0_ n1_ n2_ n3_; clear hb hbox hg))
     have n0_ := xm (xr BK256.out)
     have n1_ := xm (xd HB.out)
     clear BK256
     clear HB
     have BK256 := n0_
     have HB := n1_
     clear n0_ n1_
     refine start_ (n := 35) (S := fun w' => w'.cell? ⟨gb256, 0, none⟩ = some (.slice A0_0 l0_0.length c0_0) ∧ w'.cell? ⟨gb256, 1, none⟩ = some (.slice A0_1 l0_1.length c0_1) ∧ w'.cell? ⟨gb256, 2, none⟩ = some (.slice A0_2 l0_2.length c0_2) ∧ w'.cell? ⟨gb256, 3, none⟩ = some (.int .i64 a0_3) ∧ w'.cell? ⟨gb256, 4, none⟩ = some (.int .i64 a0_4)) (ds := []) #[Z,Z,Z,Z,Z,Z,Z,Z,Z,Z,Z,Z,Z,Z,Z,Z,Z,Z,Z,Z,Z,Z,Z,Z,Z,Z,Z,Z,Z,Z,Z,Z,Z,Z,Z] (by kernel_rfl) rfl rfl ⟨(xc BK256.out 0).trans rfl, (xc BK256.out 1).trans rfl, (xc BK256.out 2).trans rfl, (xc BK256.out 3).trans rfl, (xc BK256.out 4).trans rfl⟩ (fun hHeld => ?_); refine with_tabW impl_GoodWindow.tab1 impl_GoodWindow.bits1 (fun HT_ HW_ => ?_)
     generalize w11.drew = w12 at BK256 HB hHeld ⊢
     refine px 0 35 1 (any_of HT_.out (by kernel_rfl)) ?_
     refine tx 1 35 3 rfl rfl (take_ofW HT_.out HW_.out (by kernel_rfl)) hHeld (by rintro w' ⟨s0, s1, s2, s3, s4⟩; go_simp; with_reducible rfl) ?_
     refine one_ (i := 2) (N := some 5) #[Y,Y,Y,Z,Z,Z,Z,Z,Z,Z,Z,Z,Z,Z,Z,Z,Z,Z,Z,Z,Z,Z,Z,Z,Z,Z,Z,Z,Z,Z,Z,Z,Z,Z,Z] rfl rfl (one_of HT_.out (by kernel_rfl)) (by decide) (fun K hK => ?_)
     refine goes_ Try.func97 (by kernel_rfl) rfl #[.slice A0_0 l0_0.length c0_0, .func (.func 98) #[] #[]] (by rfl) rfl rfl mB ?_
     with_reducible refine (impl_areAll_impl_Map__impl_GoodMap.calls _ _ l0_0 true _ ?side1 ?side2 A2.out).mono ?_
     (case side1 => exact cB (Kd.C_below HR0_0.out HB.out))
     (case side2 => exact HC0_0.out)
     rintro e w13 ⟨rfl, hb⟩
     refine ⟨_, rfl, ?_⟩
     have n0_ := xm (blk_below (kB BK256) hb)
     have n1_ := xm (below_step bG hb)
     clear BK256
     clear HB
     have BK256 := n0_
     have HB := n1_
     clear n0_ n1_
     (try clear hb)
     (try clear hb2)
     (try clear hk)
     (try clear hi)
     refine hK.out _ _ ⟨(xc BK256.out 0).trans rfl, (xc BK256.out 1).trans rfl, (xc BK256.out 2).trans rfl, (xc BK256.out 3).trans rfl, (xc BK256.out 4).trans rfl⟩ (fun hHeld => ?_)
     clear hK K
     refine norm_ (a' := ?_) ?_ ?_
     rotate_left
     ·show Act.put _ (some 5) _ = _
      simp only [Act.put, xi, xj, xk, i64_w, i32_w]
      rfl
     refine px 3 35 15 (any_of HT_.out (by kernel_rfl)) ?_
     refine px 4 35 31 (any_of HT_.out (by kernel_rfl)) ?_
     refine tx 5 35 63 rfl rfl (take_ofW HT_.out HW_.out (by kernel_rfl)) hHeld (by rintro w' ⟨s0, s1, s2, s3, s4⟩; go_simp; with_reducible rfl) ?_
     refine one_ (i := 6) (N := some 9) #[Y,Y,Y,Y,Y,Y,Y,Z,Z,Z,Z,Z,Z,Z,Z,Z,Z,Z,Z,Z,Z,Z,Z,Z,Z,Z,Z,Z,Z,Z,Z,Z,Z,Z,Z] rfl rfl (one_of HT_.out (by kernel_rfl)) (by decide) (fun K hK => ?_)
     refine goes_ Try.func97 (by kernel_rfl) rfl #[.slice A0_2 l0_2.length c0_2, .func (.func 98) #[] #[]] (by rfl) rfl rfl mB ?_
     with_reducible refine (impl_areAll_impl_Map__impl_GoodMap.calls _ _ l0_2 true _ ?side1 ?side2 A4.out).mono ?_
     (case side1 => exact cB (Kd.C_below HR0_2.out HB.out))
     (case side2 => exact HC0_2.out)
     rintro e w14 ⟨rfl, hb⟩
     refine ⟨_, rfl, ?_⟩
     have n0_ := xm (blk_below (kB BK256) hb)
     have n1_ := xm (below_step bG hb)
     clear BK256
     clear HB
     have BK256 := n0_
     have HB := n1_
     clear n0_ n1_
     (try clear hb)
     (try clear hb2)
     (try clear hk)
     (try clear hi)
     refine hK.out _ _ ⟨(xc BK256.out 0).trans rfl, (xc BK256.out 1).trans rfl, (xc BK256.out 2).trans rfl, (xc BK256.out 3).trans rfl, (xc BK256.out 4).trans rfl⟩ (fun hHeld => ?_)
     clear hK K
     refine norm_ (a' := ?_) ?_ ?_
     rotate_left
     ·show Act.put _ (some 9) _ = _
      simp only [Act.put, xi, xj, xk, i64_w, i32_w]
      rfl
     refine px 7 35 255 (any_of HT_.out (by kernel_rfl)) ?_
     refine px 8 35 511 (any_of HT_.out (by kernel_rfl)) ?_
     refine px 9 35 1023 (any_of HT_.out (by kernel_rfl)) ?_
     refine px 12 35 5119 (any_of HT_.out (by kernel_rfl)) ?_
     refine tx 10 35 6143 rfl rfl (take_ofW HT_.out HW_.out (by kernel_rfl)) hHeld (by rintro w' ⟨s0, s1, s2, s3, s4⟩; go_simp; with_reducible rfl) ?_
     refine px 11 35 8191 (any_of HT_.out (by kernel_rfl)) ?_
     refine tx 13 35 16383 rfl rfl (take_ofW HT_.out HW_.out (by kernel_rfl)) hHeld (by rintro w' ⟨s0, s1, s2, s3, s4⟩; go_simp; with_reducible rfl) ?_
     refine px 14 35 32767 (any_of HT_.out (by kernel_rfl)) ?_
     refine px 15 35 65535 (any_of HT_.out (by kernel_rfl)) ?_
     refine px 16 35 131071 (any_of HT_.out (by kernel_rfl)) ?_
     refine px 17 35 262143 (any_of HT_.out (by kernel_rfl)) ?_
     refine px 18 35 524287 (any_of HT_.out (by kernel_rfl)) ?_
     refine px 19 35 1048575 (any_of HT_.out (by kernel_rfl)) ?_
     refine px 21 35 3145727 (any_of HT_.out (by kernel_rfl)) ?_
     refine tx 20 35 4194303 rfl rfl (take_ofW HT_.out HW_.out (by kernel_rfl)) hHeld (by rintro w' ⟨s0, s1, s2, s3, s4⟩; go_simp; with_reducible rfl) ?_
     refine tx 22 35 8388607 rfl rfl (take_ofW HT_.out HW_.out (by kernel_rfl)) hHeld (by rintro w' ⟨s0, s1, s2, s3, s4⟩; go_simp; with_reducible rfl) ?_
     refine one_ (i := 23) (N := some 26) #[Y,Y,Y,Y,Y,Y,Y,Y,Y,Y,Y,Y,Y,Y,Y,Y,Y,Y,Y,Y,Y,Y,Y,Y,Z,Z,Z,Z,Z,Z,Z,Z,Z,Z,Z] rfl rfl (one_of HT_.out (by kernel_rfl)) (by decide) (fun K hK => ?_)
     refine goes_ Try.func100 (by kernel_rfl) rfl #[.slice A0_0 l0_0.length c0_0] (by rfl) rfl rfl mB ?_
     with_reducible refine (impl_sumsOf.calls k _ _ l0_0 t259 _ ?side1 ?side2 A7.out).mono ?_
     (case side1 => exact cB (Kd.C_below HR0_0.out HB.out))
     (case side2 => exact HC0_0.out)
     rintro e w15 ⟨v260, rfl, ho0, hb⟩
     refine ⟨_, rfl, ?_⟩
     have n0_ := xm (Kd.R_lower ho0 (xz bG))
     have n1_ := xm (blk_below (kB BK256) hb)
     have n2_ := xm (below_step bG hb)
     clear BK256
     clear HB
     have HO261 := n0_
     have BK256 := n1_
     have HB := n2_
     clear n0_ n1_ n2_
     (try clear hb)
     (try clear hb2)
     (try clear hk)
     (try clear hi)
     (try clear ho0)
     obtain ⟨Ao16, co16, eo16⟩ := Kd.R_slice HO261.out
     (first | subst eo16 | (injection eo16 with f1_ f2_ f3_; have f4_ := f1_.symm; have f5_ := f3_.symm; clear f1_ f2_ f3_; subst f4_; subst f5_))
     refine hK.out _ _ ⟨(xc BK256.out 0).trans rfl, (xc BK256.out 1).trans rfl, (xc BK256.out 2).trans rfl, (xc BK256.out 3).trans rfl, (xc BK256.out 4).trans rfl⟩ (fun hHeld => ?_)
     clear hK K
     refine norm_ (a' := ?_) ?_ ?_
     rotate_left
     ·show Act.put _ (some 26) _ = _
      simp only [Act.put, xi, xj, xk, i64_w, i32_w]
      rfl
     refine one_ (i := 24) (N := some 27) #[Y,Y,Y,Y,Y,Y,Y,Y,Y,Y,Y,Y,Y,Y,Y,Y,Y,Y,Y,Y,Y,Y,Y,Y,Y,Z,Z,Z,Z,Z,Z,Z,Z,Z,Z] rfl rfl (one_of HT_.out (by kernel_rfl)) (by decide) (fun K hK => ?_)
     refine goes_ Try.func99 (by kernel_rfl) rfl #[.slice A0_1 l0_1.length c0_1, .slice Ao16 t259.length co16] (by rfl) rfl rfl mB ?_
     with_reducible refine (slices_Equal_Limpl_Map_impl_Map.calls k _ _ l0_1 _ _ t259 true _ ?side1 ?side2 ?side3 ?side4 A8.out).mono ?_
     (case side1 => exact cB (Kd.C_below HR0_1.out HB.out))
     (case side2 => exact HC0_1.out)
     (case side3 => repeat (first | exact (Kd.R_reads' HO261.out).2.2 | (with_reducible refine Kd.C_alloc ?_ _) | (with_reducible refine Kd.C_drewN ?_ _) | (with_reducible refine Kd.C_drew ?_)))
     (case side4 => exact (Kd.R_reads' HO261.out).2.1)
     rintro e w' ⟨rfl, ⟨nd, rfl⟩⟩
     refine ⟨_, rfl, ?_⟩
     refine hK.out _ _ ⟨(xc BK256.out 0).trans rfl, (xc BK256.out 1).trans rfl, (xc BK256.out 2).trans rfl, (xc BK256.out 3).trans rfl, (xc BK256.out 4).trans rfl⟩ (fun hHeld => ?_)
     clear hK K
     refine norm_ (a' := ?_) ?_ ?_
     rotate_left
     ·show Act.put _ (some 27) _ = _
      simp only [Act.put, xi, xj, xk, i64_w, i32_w]
      rfl
     refine px 25 35 67108863 (any_of HT_.out (by kernel_rfl)) ?_
     refine px 26 35 134217727 (any_of HT_.out (by kernel_rfl)) ?_
     refine px 27 35 268435455 (any_of HT_.out (by kernel_rfl)) ?_
     refine px 29 35 805306367 (any_of HT_.out (by kernel_rfl)) ?_
     refine tx 28 35 1073741823 rfl rfl (take_ofW HT_.out HW_.out (by kernel_rfl)) hHeld (by rintro w' ⟨s0, s1, s2, s3, s4⟩; go_simp; with_reducible rfl) ?_
     refine tx 30 35 2147483647 rfl rfl (take_ofW HT_.out HW_.out (by kernel_rfl)) hHeld (by rintro w' ⟨s0, s1, s2, s3, s4⟩; go_simp; with_reducible rfl) ?_
     refine one_ (i := 31) (N := some 34) #[Y,Y,Y,Y,Y,Y,Y,Y,Y,Y,Y,Y,Y,Y,Y,Y,Y,Y,Y,Y,Y,Y,Y,Y,Y,Y,Y,Y,Y,Y,Y,Y,Z,Z,Z] rfl rfl (one_of HT_.out (by kernel_rfl)) (by decide) (fun K hK => ?_)
     refine goes_ Try.func101 (by kernel_rfl) rfl #[.slice A0_2 l0_2.length c0_2] (by rfl) rfl rfl mB ?_
     with_reducible refine (impl_composed.calls k _ _ l0_2 t263 t264 _ ?side1 ?side2 A10.out).mono ?_
     (case side1 => repeat (first | exact (Kd.C_below HR0_2.out bG) | (with_reducible refine Kd.C_alloc ?_ _) | (with_reducible refine Kd.C_drewN ?_ _) | (with_reducible refine Kd.C_drew ?_)))
     (case side2 => exact HC0_2.out)
     rintro e w17 ⟨rfl, hb⟩
     refine ⟨_, rfl, ?_⟩
     have n0_ := xm (Kd.R_below (rB HO261) hb)
     have n1_ := xm (blk_below (kB BK256) hb)
     have n2_ := xm (below_step bG hb)
     clear HO261
     clear BK256
     clear HB
     have HO261 := n0_
     have BK256 := n1_
     have HB := n2_
     clear n0_ n1_ n2_
     (try clear hb)
     (try clear hb2)
     (try clear hk)
     (try clear hi)
     refine hK.out _ _ ⟨(xc BK256.out 0).trans rfl, (xc BK256.out 1).trans rfl, (xc BK256.out 2).trans rfl, (xc BK256.out 3).trans rfl, (xc BK256.out 4).trans rfl⟩ (fun hHeld => ?_)
     clear hK K
     refine norm_ (a' := ?_) ?_ ?_
     rotate_left
     ·show Act.put _ (some 34) _ = _
      simp only [Act.put, xi, xj, xk, i64_w, i32_w]
      rfl
     refine px 32 35 8589934591 (any_of HT_.out (by kernel_rfl)) ?_
     refine px 33 35 17179869183 (any_of HT_.out (by kernel_rfl)) ?_
     refine px 34 35 34359738367 (any_of HT_.out (by kernel_rfl)) ?_
     refine done_ (done_of HT_.out (by kernel_rfl)) ?_
     try go_wp2
     go_ret
     exact ⟨by first | rfl | (simp [errW_none, errW_some] <;> rfl) | (simp [*, errW_none, errW_some] <;> rfl), by repeat (first | (with_reducible first | exact HB.out | apply xa | apply xn | apply xd | refine xt ?_ GE256.out) | exact HB.out)⟩
    ·replace c9 := Bool.eq_false_iff.mpr c9
     subst c9
     have H1 : (some false) = some r := by first | (with_reducible rfl) | (rw [if_neg (show ¬ (false = true) by decide)] at H; exact H)
     clear H
     have H := H1
     clear H1
     obtain rfl := Option.some.inj H
     go_enter Try.func36, Try.ntmps36
     try go_wp2_with (first | ((with_reducible refine gate_dst (N := 1) rfl ?_); (try (refine gate_guard (by rfl) ?_; dsimp only)); refine box_event ?hg (N := 1) ?hd (cs := #[.slice A0_0 l0_0.length c0_0, .slice A0_1 l0_1.length c0_1, .slice A0_2 l0_2.length c0_2, .int .i64 a0_3, .int .i64 a0_4]) (t := 53) ?hr ?_; (case hd => rfl); (case hg => rfl); (case hr => exact zB); intro gb256 hg w18 hbox hb; have n0_ := xm (below_step bB hb); have n1_ := xm (hbox); have n2_ := xm ((by rw [hg]; exact (xz bB) : w.heap.size ≤ gb256)); have n3_ := xm ((by rw [hg]; exact (xz bB) : w.heap.size ≤ gb256)); clear HB; have HB := n0_; have BK256 := n1_; have GW256 := n2_; have GE256 := n3_; clear n0_ n1_ n2_ n3_; clear hb hbox hg))
     have n0_ := xm (xr BK256.out)
     have n1_ := xm (xd HB.out)
     clear BK256
     clear HB
     have BK256 := n0_
     have HB := n1_
     clear n0_ n1_
     refine start_ (n := 35) (S := fun w' => w'.cell? ⟨gb256, 0, none⟩ = some (.slice A0_0 l0_0.length c0_0) ∧ w'.cell? ⟨gb256, 1, none⟩ = some (.slice A0_1 l0_1.length c0_1) ∧ w'.cell? ⟨gb256, 2, none⟩ = some (.slice A0_2 l0_2.length c0_2) ∧ w'.cell? ⟨gb256, 3, none⟩ = some (.int .i64 a0_3) ∧ w'.cell? ⟨gb256, 4, none⟩ = some (.int .i64 a0_4)) (ds := []) #[Z,Z,Z,Z,Z,Z,Z,Z,Z,Z,Z,Z,Z,Z,Z,Z,Z,Z,Z,Z,Z,Z,Z,Z,Z,Z,Z,Z,Z,Z,Z,Z,Z,Z,Z] (by kernel_rfl) rfl rfl ⟨(xc BK256.out 0).trans rfl, (xc BK256.out 1).trans rfl, (xc BK256.out 2).trans rfl, (xc BK256.out 3).trans rfl, (xc BK256.out 4).trans rfl⟩ (fun hHeld => ?_); refine with_tabW impl_GoodWindow.tab1 impl_GoodWindow.bits1 (fun HT_ HW_ => ?_)
     generalize w18.drew = w19 at BK256 HB hHeld ⊢
     refine px 0 35 1 (any_of HT_.out (by kernel_rfl)) ?_
     refine tx 1 35 3 rfl rfl (take_ofW HT_.out HW_.out (by kernel_rfl)) hHeld (by rintro w' ⟨s0, s1, s2, s3, s4⟩; go_simp; with_reducible rfl) ?_
     refine one_ (i := 2) (N := some 5) #[Y,Y,Y,Z,Z,Z,Z,Z,Z,Z,Z,Z,Z,Z,Z,Z,Z,Z,Z,Z,Z,Z,Z,Z,Z,Z,Z,Z,Z,Z,Z,Z,Z,Z,Z] rfl rfl (one_of HT_.out (by kernel_rfl)) (by decide) (fun K hK => ?_)
     refine goes_ Try.func97 (by kernel_rfl) rfl #[.slice A0_0 l0_0.length c0_0, .func (.func 98) #[] #[]] (by rfl) rfl rfl mB ?_
     with_reducible refine (impl_areAll_impl_Map__impl_GoodMap.calls _ _ l0_0 true _ ?side1 ?side2 A2.out).mono ?_
     (case side1 => exact cB (Kd.C_below HR0_0.out HB.out))
     (case side2 => exact HC0_0.out)
     rintro e w20 ⟨rfl, hb⟩
     refine ⟨_, rfl, ?_⟩
     have n0_ := xm (blk_below (kB BK256) hb)
     have n1_ := xm (below_step bG hb)
     clear BK256
     clear HB
     have BK256 := n0_
     have HB := n1_
     clear n0_ n1_
     (try clear hb)
     (try clear hb2)
     (try clear hk)
     (try clear hi)
     refine hK.out _ _ ⟨(xc BK256.out 0).trans rfl, (xc BK256.out 1).trans rfl, (xc BK256.out 2).trans rfl, (xc BK256.out 3).trans rfl, (xc BK256.out 4).trans rfl⟩ (fun hHeld => ?_)
     clear hK K
     refine norm_ (a' := ?_) ?_ ?_
     rotate_left
     ·show Act.put _ (some 5) _ = _
      simp only [Act.put, xi, xj, xk, i64_w, i32_w]
      rfl
     refine px 3 35 15 (any_of HT_.out (by kernel_rfl)) ?_
     refine px 4 35 31 (any_of HT_.out (by kernel_rfl)) ?_
     refine tx 5 35 63 rfl rfl (take_ofW HT_.out HW_.out (by kernel_rfl)) hHeld (by rintro w' ⟨s0, s1, s2, s3, s4⟩; go_simp; with_reducible rfl) ?_
     refine one_ (i := 6) (N := some 9) #[Y,Y,Y,Y,Y,Y,Y,Z,Z,Z,Z,Z,Z,Z,Z,Z,Z,Z,Z,Z,Z,Z,Z,Z,Z,Z,Z,Z,Z,Z,Z,Z,Z,Z,Z] rfl rfl (one_of HT_.out (by kernel_rfl)) (by decide) (fun K hK => ?_)
     refine goes_ Try.func97 (by kernel_rfl) rfl #[.slice A0_2 l0_2.length c0_2, .func (.func 98) #[] #[]] (by rfl) rfl rfl mB ?_
     with_reducible refine (impl_areAll_impl_Map__impl_GoodMap.calls _ _ l0_2 true _ ?side1 ?side2 A4.out).mono ?_
     (case side1 => exact cB (Kd.C_below HR0_2.out HB.out))
     (case side2 => exact HC0_2.out)
     rintro e w21 ⟨rfl, hb⟩
     refine ⟨_, rfl, ?_⟩
     have n0_ := xm (blk_below (kB BK256) hb)
     have n1_ := xm (below_step bG hb)
     clear BK256
     clear HB
     have BK256 := n0_
     have HB := n1_
     clear n0_ n1_
     (try clear hb)
     (try clear hb2)
     (try clear hk)
     (try clear hi)
     refine hK.out _ _ ⟨(xc BK256.out 0).trans rfl, (xc BK256.out 1).trans rfl, (xc BK256.out 2).trans rfl, (xc BK256.out 3).trans rfl, (xc BK256.out 4).trans rfl⟩ (fun hHeld => ?_)
     clear hK K
     refine norm_ (a' := ?_) ?_ ?_
     rotate_left
     ·show Act.put _ (some 9) _ = _
      simp only [Act.put, xi, xj, xk, i64_w, i32_w]
      rfl
     refine px 7 35 255 (any_of HT_.out (by kernel_rfl)) ?_
     refine px 8 35 511 (any_of HT_.out (by kernel_rfl)) ?_
     refine px 9 35 1023 (any_of HT_.out (by kernel_rfl)) ?_
     refine px 12 35 5119 (any_of HT_.out (by kernel_rfl)) ?_
     refine tx 10 35 6143 rfl rfl (take_ofW HT_.out HW_.out (by kernel_rfl)) hHeld (by rintro w' ⟨s0, s1, s2, s3, s4⟩; go_simp; with_reducible rfl) ?_
     refine px 11 35 8191 (any_of HT_.out (by kernel_rfl)) ?_
     refine tx 13 35 16383 rfl rfl (take_ofW HT_.out HW_.out (by kernel_rfl)) hHeld (by rintro w' ⟨s0, s1, s2, s3, s4⟩; go_simp; with_reducible rfl) ?_
     refine px 14 35 32767 (any_of HT_.out (by kernel_rfl)) ?_
     refine px 15 35 65535 (any_of HT_.out (by kernel_rfl)) ?_
     refine px 16 35 131071 (any_of HT_.out (by kernel_rfl)) ?_
     refine px 17 35 262143 (any_of HT_.out (by kernel_rfl)) ?_
     refine px 18 35 524287 (any_of HT_.out (by kernel_rfl)) ?_
     refine px 19 35 1048575 (any_of HT_.out (by kernel_rfl)) ?_
     refine px 21 35 3145727 (any_of HT_.out (by kernel_rfl)) ?_
     refine tx 20 35 4194303 rfl rfl (take_ofW HT_.out HW_.out (by kernel_rfl)) hHeld (by rintro w' ⟨s0, s1, s2, s3, s4⟩; go_simp; with_reducible rfl) ?_
     refine tx 22 35 8388607 rfl rfl (take_ofW HT_.out HW_.out (by kernel_rfl)) hHeld (by rintro w' ⟨s0, s1, s2, s3, s4⟩; go_simp; with_reducible rfl) ?_
     refine one_ (i := 23) (N := some 26) #[Y,Y,Y,Y,Y,Y,Y,Y,Y,Y,Y,Y,Y,Y,Y,Y,Y,Y,Y,Y,Y,Y,Y,Y,Z,Z,Z,Z,Z,Z,Z,Z,Z,Z,Z] rfl rfl (one_of HT_.out (by kernel_rfl)) (by decide) (fun K hK => ?_)
     refine goes_ Try.func100 (by kernel_rfl) rfl #[.slice A0_0 l0_0.length c0_0] (by rfl) rfl rfl mB ?_
     with_reducible refine (impl_sumsOf.calls k _ _ l0_0 t259 _ ?side1 ?side2 A7.out).mono ?_
     (case side1 => exact cB (Kd.C_below HR0_0.out HB.out))
     (case side2 => exact HC0_0.out)
     rintro e w22 ⟨v260, rfl, ho0, hb⟩
     refine ⟨_, rfl, ?_⟩
     have n0_ := xm (Kd.R_lower ho0 (xz bG))
     have n1_ := xm (blk_below (kB BK256) hb)
     have n2_ := xm (below_step bG hb)
     clear BK256
     clear HB
     have HO261 := n0_
     have BK256 := n1_
     have HB := n2_
     clear n0_ n1_ n2_
     (try clear hb)
     (try clear hb2)
     (try clear hk)
     (try clear hi)
     (try clear ho0)
     obtain ⟨Ao23, co23, eo23⟩ := Kd.R_slice HO261.out
     (first | subst eo23 | (injection eo23 with f1_ f2_ f3_; have f4_ := f1_.symm; have f5_ := f3_.symm; clear f1_ f2_ f3_; subst f4_; subst f5_))
     refine hK.out _ _ ⟨(xc BK256.out 0).trans rfl, (xc BK256.out 1).trans rfl, (xc BK256.out 2).trans rfl, (xc BK256.out 3).trans rfl, (xc BK256.out 4).trans rfl⟩ (fun hHeld => ?_)
     clear hK K
     refine norm_ (a' := ?_) ?_ ?_
     rotate_left
     ·show Act.put _ (some 26) _ = _
      simp only [Act.put, xi, xj, xk, i64_w, i32_w]
      rfl
     refine one_ (i := 24) (N := some 27) #[Y,Y,Y,Y,Y,Y,Y,Y,Y,Y,Y,Y,Y,Y,Y,Y,Y,Y,Y,Y,Y,Y,Y,Y,Y,Z,Z,Z,Z,Z,Z,Z,Z,Z,Z] rfl rfl (one_of HT_.out (by kernel_rfl)) (by decide) (fun K hK => ?_)
     refine goes_ Try.func99 (by kernel_rfl) rfl #[.slice A0_1 l0_1.length c0_1, .slice Ao23 t259.length co23] (by rfl) rfl rfl mB ?_
     with_reducible refine (slices_Equal_Limpl_Map_impl_Map.calls k _ _ l0_1 _ _ t259 false _ ?side1 ?side2 ?side3 ?side4 A8.out).mono ?_
     (case side1 => exact cB (Kd.C_below HR0_1.out HB.out))
     (case side2 => exact HC0_1.out)
     (case side3 => repeat (first | exact (Kd.R_reads' HO261.out).2.2 | (with_reducible refine Kd.C_alloc ?_ _) | (with_reducible refine Kd.C_drewN ?_ _) | (with_reducible refine Kd.C_drew ?_)))
     (case side4 => exact (Kd.R_reads' HO261.out).2.1)
     rintro e w' ⟨rfl, ⟨nd, rfl⟩⟩
     refine ⟨_, rfl, ?_⟩
     refine hK.out _ _ ⟨(xc BK256.out 0).trans rfl, (xc BK256.out 1).trans rfl, (xc BK256.out 2).trans rfl, (xc BK256.out 3).trans rfl, (xc BK256.out 4).trans rfl⟩ (fun hHeld => ?_)
     clear hK K
     refine norm_ (a' := ?_) ?_ ?_
     rotate_left
     ·show Act.put _ (some 27) _ = _
      simp only [Act.put, xi, xj, xk, i64_w, i32_w]
      rfl
     refine px 25 35 67108863 (any_of HT_.out (by kernel_rfl)) ?_
     refine px 26 35 134217727 (any_of HT_.out (by kernel_rfl)) ?_
     refine ox 27 35 268435455 (any_of HT_.out (by kernel_rfl)) ?_
     refine ox 28 35 536870911 (any_of HT_.out (by kernel_rfl)) ?_
     refine ox 29 35 1073741823 (any_of HT_.out (by kernel_rfl)) ?_
     refine ox 30 35 2147483647 (any_of HT_.out (by kernel_rfl)) ?_
     refine ox 31 35 4294967295 (any_of HT_.out (by kernel_rfl)) ?_
     refine ox 32 35 8589934591 (any_of HT_.out (by kernel_rfl)) ?_
     refine px 33 35 17179869183 (any_of HT_.out (by kernel_rfl)) ?_
     refine px 34 35 34359738367 (any_of HT_.out (by kernel_rfl)) ?_
     refine done_ (done_of HT_.out (by kernel_rfl)) ?_
     try go_wp2
     go_ret
     exact ⟨by first | rfl | (simp [errW_none, errW_some] <;> rfl) | (simp [*, errW_none, errW_some] <;> rfl), by repeat (first | (with_reducible first | exact HB.out | apply xa | apply xn | apply xd | refine xt ?_ GE256.out) | exact HB.out)⟩
   ·rw [if_neg c6] at H
    have c6b0 : decide ((wrap64 ((l0_0.length : Int) + (l0_2.length : Int))) ≤ 60) = false := decide_eq_false c6
    clear c6
    obtain rfl := Option.some.inj H
    go_enter Try.func36, Try.ntmps36
    try go_wp2_with (first | ((with_reducible refine gate_dst (N := 1) rfl ?_); (try (refine gate_guard (by rfl) ?_; dsimp only)); refine box_event ?hg (N := 1) ?hd (cs := #[.slice A0_0 l0_0.length c0_0, .slice A0_1 l0_1.length c0_1, .slice A0_2 l0_2.length c0_2, .int .i64 a0_3, .int .i64 a0_4]) (t := 53) ?hr ?_; (case hd => rfl); (case hg => rfl); (case hr => exact zB); intro gb256 hg w24 hbox hb; have n0_ := xm (below_step bB hb); have n1_ := xm (hbox); have n2_ := xm ((by rw [hg]; exact (xz bB) : w.heap.size ≤ gb256)); have n3_ := xm ((by rw [hg]; exact (xz bB) : w.heap.size ≤ gb256)); clear HB; have HB := n0_; have BK256 := n1_; have GW256 := n2_; have GE256 := n3_; clear n0_ n1_ n2_ n3_; clear hb hbox hg))
    have n0_ := xm (xr BK256.out)
    have n1_ := xm (xd HB.out)
    clear BK256
    clear HB
    have BK256 := n0_
    have HB := n1_
    clear n0_ n1_
    refine start_ (n := 35) (S := fun w' => w'.cell? ⟨gb256, 0, none⟩ = some (.slice A0_0 l0_0.length c0_0) ∧ w'.cell? ⟨gb256, 1, none⟩ = some (.slice A0_1 l0_1.length c0_1) ∧ w'.cell? ⟨gb256, 2, none⟩ = some (.slice A0_2 l0_2.length c0_2) ∧ w'.cell? ⟨gb256, 3, none⟩ = some (.int .i64 a0_3) ∧ w'.cell? ⟨gb256, 4, none⟩ = some (.int .i64 a0_4)) (ds := []) #[Z,Z,Z,Z,Z,Z,Z,Z,Z,Z,Z,Z,Z,Z,Z,Z,Z,Z,Z,Z,Z,Z,Z,Z,Z,Z,Z,Z,Z,Z,Z,Z,Z,Z,Z] (by kernel_rfl) rfl rfl ⟨(xc BK256.out 0).trans rfl, (xc BK256.out 1).trans rfl, (xc BK256.out 2).trans rfl, (xc BK256.out 3).trans rfl, (xc BK256.out 4).trans rfl⟩ (fun hHeld => ?_); refine with_tabW impl_GoodWindow.tab1 impl_GoodWindow.bits1 (fun HT_ HW_ => ?_)
    generalize w24.drew = w25 at BK256 HB hHeld ⊢
    refine px 0 35 1 (any_of HT_.out (by kernel_rfl)) ?_
    refine tx 1 35 3 rfl rfl (take_ofW HT_.out HW_.out (by kernel_rfl)) hHeld (by rintro w' ⟨s0, s1, s2, s3, s4⟩; go_simp; with_reducible rfl) ?_
    refine one_ (i := 2) (N := some 5) #[Y,Y,Y,Z,Z,Z,Z,Z,Z,Z,Z,Z,Z,Z,Z,Z,Z,Z,Z,Z,Z,Z,Z,Z,Z,Z,Z,Z,Z,Z,Z,Z,Z,Z,Z] rfl rfl (one_of HT_.out (by kernel_rfl)) (by decide) (fun K hK => ?_)
    refine goes_ Try.func97 (by kernel_rfl) rfl #[.slice A0_0 l0_0.length c0_0, .func (.func 98) #[] #[]] (by rfl) rfl rfl mB ?_
    with_reducible refine (impl_areAll_impl_Map__impl_GoodMap.calls _ _ l0_0 true _ ?side1 ?side2 A2.out).mono ?_
    (case side1 => exact cB (Kd.C_below HR0_0.out HB.out))
    (case side2 => exact HC0_0.out)
    rintro e w26 ⟨rfl, hb⟩
    refine ⟨_, rfl, ?_⟩
    have n0_ := xm (blk_below (kB BK256) hb)
    have n1_ := xm (below_step bG hb)
    clear BK256
    clear HB
    have BK256 := n0_
    have HB := n1_
    clear n0_ n1_
    (try clear hb)
    (try clear hb2)
    (try clear hk)
    (try clear hi)
    refine hK.out _ _ ⟨(xc BK256.out 0).trans rfl, (xc BK256.out 1).trans rfl, (xc BK256.out 2).trans rfl, (xc BK256.out 3).trans rfl, (xc BK256.out 4).trans rfl⟩ (fun hHeld => ?_)
    clear hK K
    refine norm_ (a' := ?_) ?_ ?_
    rotate_left
    ·show Act.put _ (some 5) _ = _
     simp only [Act.put, xi, xj, xk, i64_w, i32_w]
     rfl
    refine px 3 35 15 (any_of HT_.out (by kernel_rfl)) ?_
    refine px 4 35 31 (any_of HT_.out (by kernel_rfl)) ?_
    refine tx 5 35 63 rfl rfl (take_ofW HT_.out HW_.out (by kernel_rfl)) hHeld (by rintro w' ⟨s0, s1, s2, s3, s4⟩; go_simp; with_reducible rfl) ?_
    refine one_ (i := 6) (N := some 9) #[Y,Y,Y,Y,Y,Y,Y,Z,Z,Z,Z,Z,Z,Z,Z,Z,Z,Z,Z,Z,Z,Z,Z,Z,Z,Z,Z,Z,Z,Z,Z,Z,Z,Z,Z] rfl rfl (one_of HT_.out (by kernel_rfl)) (by decide) (fun K hK => ?_)
    refine goes_ Try.func97 (by kernel_rfl) rfl #[.slice A0_2 l0_2.length c0_2, .func (.func 98) #[] #[]] (by rfl) rfl rfl mB ?_
    with_reducible refine (impl_areAll_impl_Map__impl_GoodMap.calls _ _ l0_2 true _ ?side1 ?side2 A4.out).mono ?_
    (case side1 => exact cB (Kd.C_below HR0_2.out HB.out))
    (case side2 => exact HC0_2.out)
    rintro e w27 ⟨rfl, hb⟩
    refine ⟨_, rfl, ?_⟩
    have n0_ := xm (blk_below (kB BK256) hb)
    have n1_ := xm (below_step bG hb)
    clear BK256
    clear HB
    have BK256 := n0_
    have HB := n1_
    clear n0_ n1_
    (try clear hb)
    (try clear hb2)
    (try clear hk)
    (try clear hi)
    refine hK.out _ _ ⟨(xc BK256.out 0).trans rfl, (xc BK256.out 1).trans rfl, (xc BK256.out 2).trans rfl, (xc BK256.out 3).trans rfl, (xc BK256.out 4).trans rfl⟩ (fun hHeld => ?_)
    clear hK K
    refine norm_ (a' := ?_) ?_ ?_
    rotate_left
    ·show Act.put _ (some 9) _ = _
     simp only [Act.put, xi, xj, xk, i64_w, i32_w]
     rfl
    refine px 7 35 255 (any_of HT_.out (by kernel_rfl)) ?_
    refine px 8 35 511 (any_of HT_.out (by kernel_rfl)) ?_
    refine px 9 35 1023 (any_of HT_.out (by kernel_rfl)) ?_
    refine px 12 35 5119 (any_of HT_.out (by kernel_rfl)) ?_
    refine tx 10 35 6143 rfl rfl (take_ofW HT_.out HW_.out (by kernel_rfl)) hHeld (by rintro w' ⟨s0, s1, s2, s3, s4⟩; go_simp; with_reducible rfl) ?_
    refine px 11 35 8191 (any_of HT_.out (by kernel_rfl)) ?_
    refine tx 13 35 16383 rfl rfl (take_ofW HT_.out HW_.out (by kernel_rfl)) hHeld (by rintro w' ⟨s0, s1, s2, s3, s4⟩; go_simp; with_reducible rfl) ?_
    refine px 14 35 32767 (any_of HT_.out (by kernel_rfl)) ?_
    refine px 15 35 65535 (any_of HT_.out (by kernel_rfl)) ?_
    refine px 16 35 131071 (any_of HT_.out (by kernel_rfl)) ?_
    refine px 17 35 262143 (any_of HT_.out (by kernel_rfl)) ?_
    refine px 18 35 524287 (any_of HT_.out (by kernel_rfl)) ?_
    refine ox 19 35 1048575 (any_of HT_.out (by kernel_rfl)) ?_
    refine ox 20 35 2097151 (any_of HT_.out (by kernel_rfl)) ?_
    refine ox 21 35 4194303 (any_of HT_.out (by kernel_rfl)) ?_
    refine ox 22 35 8388607 (any_of HT_.out (by kernel_rfl)) ?_
    refine ox 23 35 16777215 (any_of HT_.out (by kernel_rfl)) ?_
    refine ox 24 35 33554431 (any_of HT_.out (by kernel_rfl)) ?_
    refine px 25 35 67108863 (any_of HT_.out (by kernel_rfl)) ?_
    refine px 26 35 134217727 (any_of HT_.out (by kernel_rfl)) ?_
    refine ox 27 35 268435455 (any_of HT_.out (by kernel_rfl)) ?_
    refine ox 28 35 536870911 (any_of HT_.out (by kernel_rfl)) ?_
    refine ox 29 35 1073741823 (any_of HT_.out (by kernel_rfl)) ?_
    refine ox 30 35 2147483647 (any_of HT_.out (by kernel_rfl)) ?_
    refine ox 31 35 4294967295 (any_of HT_.out (by kernel_rfl)) ?_
    refine ox 32 35 8589934591 (any_of HT_.out (by kernel_rfl)) ?_
    refine px 33 35 17179869183 (any_of HT_.out (by kernel_rfl)) ?_
    refine px 34 35 34359738367 (any_of HT_.out (by kernel_rfl)) ?_
    refine done_ (done_of HT_.out (by kernel_rfl)) ?_
    try go_wp2
    go_ret
    exact ⟨by first | rfl | (simp [errW_none, errW_some] <;> rfl) | (simp [*, errW_none, errW_some] <;> rfl), by repeat (first | (with_reducible first | exact HB.out | apply xa | apply xn | apply xd | refine xt ?_ GE256.out) | exact HB.out)⟩
  ·replace c5 := Bool.eq_false_iff.mpr c5
   subst c5
   have H1 : (some false) = some r := by first | (with_reducible rfl) | (rw [if_neg (show ¬ (false = true) by decide)] at H; exact H)
   clear H
   have H := H1
   clear H1
   obtain rfl := Option.some.inj H
   go_enter Try.func36, Try.ntmps36
   try go_wp2_with (first | ((with_reducible refine gate_dst (N := 1) rfl ?_); (try (refine gate_guard (by rfl) ?_; dsimp only)); refine box_event ?hg (N := 1) ?hd (cs := #[.slice A0_0 l0_0.length c0_0, .slice A0_1 l0_1.length c0_1, .slice A0_2 l0_2.length c0_2, .int .i64 a0_3, .int .i64 a0_4]) (t := 53) ?hr ?_; (case hd => rfl); (case hg => rfl); (case hr => exact zB); intro gb256 hg w28 hbox hb; have n0_ := xm (below_step bB hb); have n1_ := xm (hbox); have n2_ := xm ((by rw [hg]; exact (xz bB) : w.heap.size ≤ gb256)); have n3_ := xm ((by rw [hg]; exact (xz bB) : w.heap.size ≤ gb256)); clear HB; have HB := n0_; have BK256 := n1_; have GW256 := n2_; have GE256 := n3_; clear n0_ n1_ n2_ n3_; clear hb hbox hg))
   have n0_ := xm (xr BK256.out)
   have n1_ := xm (xd HB.out)
   clear BK256
   clear HB
   have BK256 := n0_
   have HB := n1_
   clear n0_ n1_
   refine start_ (n := 35) (S := fun w' => w'.cell? ⟨gb256, 0, none⟩ = some (.slice A0_0 l0_0.length c0_0) ∧ w'.cell? ⟨gb256, 1, none⟩ = some (.slice A0_1 l0_1.length c0_1) ∧ w'.cell? ⟨gb256, 2, none⟩ = some (.slice A0_2 l0_2.length c0_2) ∧ w'.cell? ⟨gb256, 3, none⟩ = some (.int .i64 a0_3) ∧ w'.cell? ⟨gb256, 4, none⟩ = some (.int .i64 a0_4)) (ds := []) #[Z,Z,Z,Z,Z,Z,Z,Z,Z,Z,Z,Z,Z,Z,Z,Z,Z,Z,Z,Z,Z,Z,Z,Z,Z,Z,Z,Z,Z,Z,Z,Z,Z,Z,Z] (by kernel_rfl) rfl rfl ⟨(xc BK256.out 0).trans rfl, (xc BK256.out 1).trans rfl, (xc BK256.out 2).trans rfl, (xc BK256.out 3).trans rfl, (xc BK256.out 4).trans rfl⟩ (fun hHeld => ?_); refine with_tabW impl_GoodWindow.tab1 impl_GoodWindow.bits1 (fun HT_ HW_ => ?_)
   generalize w28.drew = w29 at BK256 HB hHeld ⊢
   refine px 0 35 1 (any_of HT_.out (by kernel_rfl)) ?_
   refine tx 1 35 3 rfl rfl (take_ofW HT_.out HW_.out (by kernel_rfl)) hHeld (by rintro w' ⟨s0, s1, s2, s3, s4⟩; go_simp; with_reducible rfl) ?_
   refine one_ (i := 2) (N := some 5) #[Y,Y,Y,Z,Z,Z,Z,Z,Z,Z,Z,Z,Z,Z,Z,Z,Z,Z,Z,Z,Z,Z,Z,Z,Z,Z,Z,Z,Z,Z,Z,Z,Z,Z,Z] rfl rfl (one_of HT_.out (by kernel_rfl)) (by decide) (fun K hK => ?_)
   refine goes_ Try.func97 (by kernel_rfl) rfl #[.slice A0_0 l0_0.length c0_0, .func (.func 98) #[] #[]] (by rfl) rfl rfl mB ?_
   with_reducible refine (impl_areAll_impl_Map__impl_GoodMap.calls _ _ l0_0 true _ ?side1 ?side2 A2.out).mono ?_
   (case side1 => exact cB (Kd.C_below HR0_0.out HB.out))
   (case side2 => exact HC0_0.out)
   rintro e w30 ⟨rfl, hb⟩
   refine ⟨_, rfl, ?_⟩
   have n0_ := xm (blk_below (kB BK256) hb)
   have n1_ := xm (below_step bG hb)
   clear BK256
   clear HB
   have BK256 := n0_
   have HB := n1_
   clear n0_ n1_
   (try clear hb)
   (try clear hb2)
   (try clear hk)
   (try clear hi)
   refine hK.out _ _ ⟨(xc BK256.out 0).trans rfl, (xc BK256.out 1).trans rfl, (xc BK256.out 2).trans rfl, (xc BK256.out 3).trans rfl, (xc BK256.out 4).trans rfl⟩ (fun hHeld => ?_)
   clear hK K
   refine norm_ (a' := ?_) ?_ ?_
   rotate_left
   ·show Act.put _ (some 5) _ = _
    simp only [Act.put, xi, xj, xk, i64_w, i32_w]
    rfl
   refine px 3 35 15 (any_of HT_.out (by kernel_rfl)) ?_
   refine px 4 35 31 (any_of HT_.out (by kernel_rfl)) ?_
   refine tx 5 35 63 rfl rfl (take_ofW HT_.out HW_.out (by kernel_rfl)) hHeld (by rintro w' ⟨s0, s1, s2, s3, s4⟩; go_simp; with_reducible rfl) ?_
   refine one_ (i := 6) (N := some 9) #[Y,Y,Y,Y,Y,Y,Y,Z,Z,Z,Z,Z,Z,Z,Z,Z,Z,Z,Z,Z,Z,Z,Z,Z,Z,Z,Z,Z,Z,Z,Z,Z,Z,Z,Z] rfl rfl (one_of HT_.out (by kernel_rfl)) (by decide) (fun K hK => ?_)
   refine goes_ Try.func97 (by kernel_rfl) rfl #[.slice A0_2 l0_2.length c0_2, .func (.func 98) #[] #[]] (by rfl) rfl rfl mB ?_
   with_reducible refine (impl_areAll_impl_Map__impl_GoodMap.calls _ _ l0_2 false _ ?side1 ?side2 A4.out).mono ?_
   (case side1 => exact cB (Kd.C_below HR0_2.out HB.out))
   (case side2 => exact HC0_2.out)
   rintro e w31 ⟨rfl, hb⟩
   refine ⟨_, rfl, ?_⟩
   have n0_ := xm (blk_below (kB BK256) hb)
   have n1_ := xm (below_step bG hb)
   clear BK256
   clear HB
   have BK256 := n0_
   have HB := n1_
   clear n0_ n1_
   (try clear hb)
   (try clear hb2)
   (try clear hk)
   (try clear hi)
   refine hK.out _ _ ⟨(xc BK256.out 0).trans rfl, (xc BK256.out 1).trans rfl, (xc BK256.out 2).trans rfl, (xc BK256.out 3).trans rfl, (xc BK256.out 4).trans rfl⟩ (fun hHeld => ?_)
   clear hK K
   refine norm_ (a' := ?_) ?_ ?_
   rotate_left
   ·show Act.put _ (some 9) _ = _
    simp only [Act.put, xi, xj, xk, i64_w, i32_w]
    rfl
   refine px 7 35 255 (any_of HT_.out (by kernel_rfl)) ?_
   refine px 8 35 511 (any_of HT_.out (by kernel_rfl)) ?_
   refine ox 9 35 1023 (any_of HT_.out (by kernel_rfl)) ?_
   refine ox 10 35 2047 (any_of HT_.out (by kernel_rfl)) ?_
   refine ox 11 35 4095 (any_of HT_.out (by kernel_rfl)) ?_
   refine ox 12 35 8191 (any_of HT_.out (by kernel_rfl)) ?_
   refine ox 13 35 16383 (any_of HT_.out (by kernel_rfl)) ?_
   refine ox 14 35 32767 (any_of HT_.out (by kernel_rfl)) ?_
   refine ox 15 35 65535 (any_of HT_.out (by kernel_rfl)) ?_
   refine ox 16 35 131071 (any_of HT_.out (by kernel_rfl)) ?_
   refine px 17 35 262143 (any_of HT_.out (by kernel_rfl)) ?_
   refine px 18 35 524287 (any_of HT_.out (by kernel_rfl)) ?_
   refine ox 19 35 1048575 (any_of HT_.out (by kernel_rfl)) ?_
   refine ox 20 35 2097151 (any_of HT_.out (by kernel_rfl)) ?_
   refine ox 21 35 4194303 (any_of HT_.out (by kernel_rfl)) ?_
   refine ox 22 35 8388607 (any_of HT_.out (by kernel_rfl)) ?_
   refine ox 23 35 16777215 (any_of HT_.out (by kernel_rfl)) ?_
   refine ox 24 35 33554431 (any_of HT_.out (by kernel_rfl)) ?_
   refine px 25 35 67108863 (any_of HT_.out (by kernel_rfl)) ?_
   refine px 26 35 134217727 (any_of HT_.out (by kernel_rfl)) ?_
   refine ox 27 35 268435455 (any_of HT_.out (by kernel_rfl)) ?_
   refine ox 28 35 536870911 (any_of HT_.out (by kernel_rfl)) ?_
   refine ox 29 35 1073741823 (any_of HT_.out (by kernel_rfl)) ?_
   refine ox 30 35 2147483647 (any_of HT_.out (by kernel_rfl)) ?_
   refine ox 31 35 4294967295 (any_of HT_.out (by kernel_rfl)) ?_
   refine ox 32 35 8589934591 (any_of HT_.out (by kernel_rfl)) ?_
   refine px 33 35 17179869183 (any_of HT_.out (by kernel_rfl)) ?_
   refine px 34 35 34359738367 (any_of HT_.out (by kernel_rfl)) ?_
   refine done_ (done_of HT_.out (by kernel_rfl)) ?_
   try go_wp2
   go_ret
   exact ⟨by first | rfl | (simp [errW_none, errW_some] <;> rfl) | (simp [*, errW_none, errW_some] <;> rfl), by repeat (first | (with_reducible first | exact HB.out | apply xa | apply xn | apply xd | refine xt ?_ GE256.out) | exact HB.out)⟩
 ·replace c3 := Bool.eq_false_iff.mpr c3
  subst c3
  have H1 : (some false) = some r := by first | (with_reducible rfl) | (rw [if_neg (show ¬ (false = true) by decide)] at H; exact H)
  clear H
  have H := H1
  clear H1
  obtain rfl := Option.some.inj H
  go_enter Try.func36, Try.ntmps36
  try go_wp2_with (first | ((with_reducible refine gate_dst (N := 1) rfl ?_); (try (refine gate_guard (by rfl) ?_; dsimp only)); refine box_event ?hg (N := 1) ?hd (cs := #[.slice A0_0 l0_0.length c0_0, .slice A0_1 l0_1.length c0_1, .slice A0_2 l0_2.length c0_2, .int .i64 a0_3, .int .i64 a0_4]) (t := 53) ?hr ?_; (case hd => rfl); (case hg => rfl); (case hr => exact zB); intro gb256 hg w32 hbox hb; have n0_ := xm (below_step bB hb); have n1_ := xm (hbox); have n2_ := xm ((by rw [hg]; exact (xz bB) : w.heap.size ≤ gb256)); have n3_ := xm ((by rw [hg]; exact (xz bB) : w.heap.size ≤ gb256)); clear HB; have HB := n0_; have BK256 := n1_; have GW256 := n2_; have GE256 := n3_; clear n0_ n1_ n2_ n3_; clear hb hbox hg))
  have n0_ := xm (xr BK256.out)
  have n1_ := xm (xd HB.out)
  clear BK256
  clear HB
  have BK256 := n0_
  have HB := n1_
  clear n0_ n1_
  refine start_ (n := 35) (S := fun w' => w'.cell? ⟨gb256, 0, none⟩ = some (.slice A0_0 l0_0.length c0_0) ∧ w'.cell? ⟨gb256, 1, none⟩ = some (.slice A0_1 l0_1.length c0_1) ∧ w'.cell? ⟨gb256, 2, none⟩ = some (.slice A0_2 l0_2.length c0_2) ∧ w'.cell? ⟨gb256, 3, none⟩ = some (.int .i64 a0_3) ∧ w'.cell? ⟨gb256, 4, none⟩ = some (.int .i64 a0_4)) (ds := []) #[Z,Z,Z,Z,Z,Z,Z,Z,Z,Z,Z,Z,Z,Z,Z,Z,Z,Z,Z,Z,Z,Z,Z,Z,Z,Z,Z,Z,Z,Z,Z,Z,Z,Z,Z] (by kernel_rfl) rfl rfl ⟨(xc BK256.out 0).trans rfl, (xc BK256.out 1).trans rfl, (xc BK256.out 2).trans rfl, (xc BK256.out 3).trans rfl, (xc BK256.out 4).trans rfl⟩ (fun hHeld => ?_); refine with_tabW impl_GoodWindow.tab1 impl_GoodWindow.bits1 (fun HT_ HW_ => ?_)
  generalize w32.drew = w33 at BK256 HB hHeld ⊢
  refine px 0 35 1 (any_of HT_.out (by kernel_rfl)) ?_
  refine tx 1 35 3 rfl rfl (take_ofW HT_.out HW_.out (by kernel_rfl)) hHeld (by rintro w' ⟨s0, s1, s2, s3, s4⟩; go_simp; with_reducible rfl) ?_
  refine one_ (i := 2) (N := some 5) #[Y,Y,Y,Z,Z,Z,Z,Z,Z,Z,Z,Z,Z,Z,Z,Z,Z,Z,Z,Z,Z,Z,Z,Z,Z,Z,Z,Z,Z,Z,Z,Z,Z,Z,Z] rfl rfl (one_of HT_.out (by kernel_rfl)) (by decide) (fun K hK => ?_)
  refine goes_ Try.func97 (by kernel_rfl) rfl #[.slice A0_0 l0_0.length c0_0, .func (.func 98) #[] #[]] (by rfl) rfl rfl mB ?_
  with_reducible refine (impl_areAll_impl_Map__impl_GoodMap.calls _ _ l0_0 false _ ?side1 ?side2 A2.out).mono ?_
  (case side1 => exact cB (Kd.C_below HR0_0.out HB.out))
  (case side2 => exact HC0_0.out)
  rintro e w34 ⟨rfl, hb⟩
  refine ⟨_, rfl, ?_⟩
  have n0_ := xm (blk_below (kB BK256) hb)
  have n1_ := xm (below_step bG hb)
  clear BK256
  clear HB
  have BK256 := n0_
  have HB := n1_
  clear n0_ n1_
  (try clear hb)
  (try clear hb2)
  (try clear hk)
  (try clear hi)
  refine hK.out _ _ ⟨(xc BK256.out 0).trans rfl, (xc BK256.out 1).trans rfl, (xc BK256.out 2).trans rfl, (xc BK256.out 3).trans rfl, (xc BK256.out 4).trans rfl⟩ (fun hHeld => ?_)
  clear hK K
  refine norm_ (a' := ?_) ?_ ?_
  rotate_left
  ·show Act.put _ (some 5) _ = _
   simp only [Act.put, xi, xj, xk, i64_w, i32_w]
   rfl
  refine px 3 35 15 (any_of HT_.out (by kernel_rfl)) ?_
  refine ox 4 35 31 (any_of HT_.out (by kernel_rfl)) ?_
  refine ox 5 35 63 (any_of HT_.out (by kernel_rfl)) ?_
  refine ox 6 35 127 (any_of HT_.out (by kernel_rfl)) ?_
  refine px 7 35 255 (any_of HT_.out (by kernel_rfl)) ?_
  refine px 8 35 511 (any_of HT_.out (by kernel_rfl)) ?_
  refine ox 9 35 1023 (any_of HT_.out (by kernel_rfl)) ?_
  refine ox 10 35 2047 (any_of HT_.out (by kernel_rfl)) ?_
  refine ox 11 35 4095 (any_of HT_.out (by kernel_rfl)) ?_
  refine ox 12 35 8191 (any_of HT_.out (by kernel_rfl)) ?_
  refine ox 13 35 16383 (any_of HT_.out (by kernel_rfl)) ?_
  refine ox 14 35 32767 (any_of HT_.out (by kernel_rfl)) ?_
  refine ox 15 35 65535 (any_of HT_.out (by kernel_rfl)) ?_
  refine ox 16 35 131071 (any_of HT_.out (by kernel_rfl)) ?_
  refine px 17 35 262143 (any_of HT_.out (by kernel_rfl)) ?_
  refine px 18 35 524287 (any_of HT_.out (by kernel_rfl)) ?_
  refine ox 19 35 1048575 (any_of HT_.out (by kernel_rfl)) ?_
  refine ox 20 35 2097151 (any_of HT_.out (by kernel_rfl)) ?_
  refine ox 21 35 4194303 (any_of HT_.out (by kernel_rfl)) ?_
  refine ox 22 35 8388607 (any_of HT_.out (by kernel_rfl)) ?_
  refine ox 23 35 16777215 (any_of HT_.out (by kernel_rfl)) ?_
  refine ox 24 35 33554431 (any_of HT_.out (by kernel_rfl)) ?_
  refine px 25 35 67108863 (any_of HT_.out (by kernel_rfl)) ?_
  refine px 26 35 134217727 (any_of HT_.out (by kernel_rfl)) ?_
  refine ox 27 35 268435455 (any_of HT_.out (by kernel_rfl)) ?_
  refine ox 28 35 536870911 (any_of HT_.out (by kernel_rfl)) ?_
  refine ox 29 35 1073741823 (any_of HT_.out (by kernel_rfl)) ?_
  refine ox 30 35 2147483647 (any_of HT_.out (by kernel_rfl)) ?_
  refine ox 31 35 4294967295 (any_of HT_.out (by kernel_rfl)) ?_
  refine ox 32 35 8589934591 (any_of HT_.out (by kernel_rfl)) ?_
  refine px 33 35 17179869183 (any_of HT_.out (by kernel_rfl)) ?_
  refine px 34 35 34359738367 (any_of HT_.out (by kernel_rfl)) ?_
  refine done_ (done_of HT_.out (by kernel_rfl)) ?_
  try go_wp2
  go_ret
  exact ⟨by first | rfl | (simp [errW_none, errW_some] <;> rfl) | (simp [*, errW_none, errW_some] <;> rfl), by repeat (first | (with_reducible first | exact HB.out | apply xa | apply xn | apply xd | refine xt ?_ GE256.out) | exact HB.out)⟩

end Go.Proofs.Ytpbpglbldgpckaa.G
