/- Written by a program of this claim's own, out of the translation: functions of the program as plain functions, and that the calls answer as these. No conditions. -/
import Derived.Test.YtaddemalepndfahG0
import Derived.Test.YtaddemalepndfahG14
namespace Go.Proofs.Ytaddemalepndfah.G
open Go.RowKit Go.Proofs.Ytaddemalepndfah.X Go.Proofs.YtaddemalepndfahW.PrintWords Go.Proofs.YtaddemalepndfahW.PrintLast Go.Proofs.YtaddemalepndfahW.PrintMore
attribute [local go_sem] max2_int min2_int max_two min_two max_three min_three max_four min_four   -- for this text's walks alone
set_option linter.unusedVariables false
set_option linter.unusedSimpArgs false

/-! ### laws_markDependS: function 13 -/
def laws_markDependS.f (q : Nat) : List S35 → Int → Option (Int × List S35)
 | [], a => some (a, [])
 | x :: xs, a => (laws_markIntS.f q x.f0 a).bind fun t1 => (laws_markIntS.f q x.f1 t1.1).bind fun t2 => (laws_markDependS.f q xs t2.1).bind fun s => some (s.1, (⟨t1.2, t2.2⟩ : S35) :: s.2)
theorem laws_markDependS.mono : ∀ a0 a1 k, LeO (laws_markDependS.f k a0 a1) (laws_markDependS.f (k + 1) a0 a1)
 | [], _, _ => LeO.refl _
 | x :: xs, a, k => by
  unfold laws_markDependS.f
  repeat' first | exact LeO.refl _ | exact laws_markIntS.mono _ _ _ | exact laws_markIntS.mono _ _ _ | exact laws_markDependS.mono xs _ _ | refine LeO.bind ?_ (fun _ => ?_)
set_option maxHeartbeats 8000000 in
set_option maxRecDepth 100000 in
theorem laws_markDependS.calls (k : Nat) (P0_ : Nat → Prop) (u9000_ : Value) (l0 : List S35) (a1 : Int) (r1 : Int) (r2 : List S35) (w0 w : World) (hB : Below w0.heap.size w0 w) (ho0 : Kd.S kP35 35 w w0.heap.size P0_ u9000_ l0) (h : laws_markDependS.f k l0 a1 = some (r1, r2)) :
  Calls Try.prog 13 #[u9000_, .int .i64 a1] w fun e w' => e = .returned (.int .i64 r1) ∧ Kd.S kP35 35 w' w0.heap.size P0_ u9000_ r2 ∧ Below w0.heap.size w0 w' ∧ Kept w w' P0_ := by
 obtain ⟨A0, c0, rfl⟩ := Kd.S_slice ho0
 have HS0 := xm ho0
 have HB0 := xm hB
 have HK0 := xm (Kept.refl w P0_)
 have H0 := xm h
 have hlen := (Kd.S_reads' ho0).2.2.2.1
 clear ho0 hB h
 go_enter Try.func13, Try.ntmps13
 go_wp2
 go_loopg [1, 5] l0.length (fun kq v1 v5 w' => ∃ (ys zs ws : List S35) (b x5 : Int), v1 = .int .i64 b ∧ v5 = .int .i64 x5 ∧ Aside0 (x5 = ys.length) ∧ Aside0 (ys.length + zs.length = l0.length) ∧ Aside0 (zs.length ≤ kq) ∧ Aside0 (laws_markDependS.f k zs b = some (r1, ws)) ∧ Aside0 (r2 = ys ++ ws) ∧ Aside0 (Kd.S kP35 35 w' w0.heap.size P0_ (.slice A0 l0.length c0) (ys ++ zs)) ∧ Aside0 (Kept w w' P0_) ∧ Aside0 (Below w0.heap.size w0 w'))
 case atStart => exact ⟨[], l0, r2, a1, 0, rfl, rfl, ⟨rfl⟩, ⟨by simp⟩, ⟨Nat.le_refl _⟩, H0, ⟨rfl⟩, HS0, HK0, HB0⟩
 case round =>
  clear HS0 HK0 HB0 H0
  obtain ⟨ys, zs, ws, b, x5, rfl, rfl, hx5, hyz, hzk, HF, HR, HS, HK, HB⟩ := hrel
  have h50 := hx5.out
  have h51 := hyz.out
  cases zs with
  | nil =>
   have hc : decide (x5 < (l0.length : Int)) = false := decide_eq_false (by simp at h51; omega)
   have hf := HF.out
   unfold laws_markDependS.f at hf
   simp only [Option.some.injEq, Prod.mk.injEq] at hf
   obtain ⟨rfl, rfl⟩ := hf
   have HR2 := HR.out
   rw [List.append_nil] at HR2
   subst HR2
   have HS2 := HS.out
   rw [List.append_nil] at HS2
   have HS3 := xm HS2
   clear HS2 HS HF HR h50 h51 hx5 hyz hzk
   go_wp2
   go_ret
   exact ⟨rfl, HS3.out, HB.out, HK.out⟩
  | cons x zs =>
   have hzc : (x :: zs).length = zs.length + 1 := rfl
   have hc : decide (x5 < (l0.length : Int)) = true := decide_eq_true (by omega)
   have hf := HF.out
   unfold laws_markDependS.f at hf
   obtain ⟨⟨t1_1, t1_2⟩, hAt1, hf⟩ := Option.bind_eq_some_iff.mp hf
   obtain ⟨⟨t2_1, t2_2⟩, hAt2, hf⟩ := Option.bind_eq_some_iff.mp hf
   obtain ⟨⟨s_1, s_2⟩, hN, hf⟩ := Option.bind_eq_some_iff.mp hf
   simp only [Option.some.injEq, Prod.mk.injEq] at hf
   obtain ⟨rfl, hws⟩ := hf
   have HN := xm hN
   have HW := xm hws
   clear hN hws HF
   have HAt1 := xm hAt1
   clear hAt1
   have HAt2 := xm hAt2
   clear hAt2
   obtain ⟨go, co, eo, gb, _, _⟩ := Kd.S_form HS.out (by rw [List.length_append]; omega)
   (injection eo with ea_ en_ ec_; subst ea_; subst ec_; clear en_)
   have hi0 : 0 ≤ x5 := by omega
   have hi1 : x5 < (l0.length : Int) := by omega
   have hit : x5.toNat = ys.length := by omega
   have hset : ∀ y z : S35, (ys ++ y :: zs).set x5.toNat z = ys ++ z :: zs := fun y z => by rw [hit]; simp
   have hget : ∀ (y z : S35), (ys ++ y :: zs).getD x5.toNat z = y := fun y z => by rw [hit]; simp
   have HI := xm (And.intro hi0 (And.intro hi1 (And.intro gb (And.intro hset hget))))
   have HL5 := xm (And.intro h50 (And.intro h51 (And.intro hzc hlen)))
   clear hit hset hget gb h50 h51 hzc
   obtain ⟨oki, ce, hcl, hM, hcc, hfr, hoki, hH⟩ := Kd.S_elem HS.out z35 x5 HI.out.1 HI.out.2.1
   rw [HI.out.2.2.2.2] at hM
   obtain ⟨v0, v1, T0, T1, rfl, ⟨a0, a1⟩, d0_1, g0, g1⟩ := hM
   obtain ⟨Aq0, cq0, ei0⟩ := Kd.R_slice g0
   subst ei0
   obtain ⟨Aq1, cq1, ei1⟩ := Kd.R_slice g1
   subst ei1
   have hx0 : wr.cell? ⟨go, x5.toNat * 2, none⟩ = some (.slice Aq0 x.f0.length cq0) := (by have z_ := hcc 0 _ rfl; (try simp only [show (kP35).sz = 2 from rfl, Nat.mul_one, Nat.add_zero] at z_); exact z_)
   have hx1 : wr.cell? ⟨go, x5.toNat * 2 + 1, none⟩ = some (.slice Aq1 x.f1.length cq1) := (by have z_ := hcc 1 _ rfl; (try simp only [show (kP35).sz = 2 from rfl, Nat.mul_one, Nat.add_zero] at z_); exact z_)
   have hz0 : wr.frozen? ⟨go, x5.toNat * 2, none⟩ = false := (by have z_ := hfr 0; (try simp only [show (kP35).sz = 2 from rfl, Nat.mul_one, Nat.add_zero] at z_); exact z_)
   have hz1 : wr.frozen? ⟨go, x5.toNat * 2 + 1, none⟩ = false := (by have z_ := hfr 1; (try simp only [show (kP35).sz = 2 from rfl, Nat.mul_one, Nat.add_zero] at z_); exact z_)
   have HH := xm hH
   have HG0 := xm g0
   have HG1 := xm g1
   have HO := xm hoki
   have HT0 := xm a0
   have HT1 := xm a1
   have HD0_1 := xm d0_1
   clear hcl hcc hfr hoki hH g0 g1 a0 a1 d0_1
   go_wp2_with (first
    | (go_at_call 30; (with_reducible refine (laws_markIntS.calls k (fun k_ => some k_ = (.slice Aq0 x.f0.length cq0 : Value).ownBlock) (.slice Aq0 x.f0.length cq0) x.f0 b t1_1 t1_2 w0 _ HB.out (Kd.R_tight rfl HG0.out) HAt1.out).mono ?_); rintro e w1_ ⟨rfl, hy, hb, hkp⟩; have n0_ := xm (by rw [← HI.out.2.2.2.1 (⟨x.f0, x.f1⟩ : S35) (⟨t1_2, x.f1⟩ : S35)]; exact Kd.H_back (x' := (⟨t1_2, x.f1⟩ : S35)) (Kd.H_step HH.out (fun k_ _ hn_ hlt_ => hkp.2 k_ hlt_ (fun hs_ => hn_ (HT0.out k_ (HG0.out.1 k_ hs_.symm))))) (show kP35.M w1_ w0.heap.size oki (⟨t1_2, x.f1⟩ : S35) _ from ⟨(.slice Aq0 x.f0.length cq0), (.slice Aq1 x.f1.length cq1), T0, T1, rfl, ⟨HT0.out, HT1.out⟩, HD0_1.out, Kd.R_reok rfl hy (fun k_ e_ => HG0.out.1 k_ e_), Kd.R_kept HG1.out hkp (fun k_ h_ hs_ => (fun k_ h_ h2_ => HD0_1.out k_ h2_ h_) k_ h_ (HG0.out.1 k_ hs_.symm))⟩) (fun _ h_ => h_) : Kd.S kP35 35 w1_ w0.heap.size P0_ (.slice (some ⟨go, 0, none⟩) l0.length c0) (ys ++ (⟨t1_2, x.f1⟩ : S35) :: zs)); have n1_ := xm (Kept.then_ HK.out hkp (fun k_ hs_ => .inl (HO.out k_ (HT0.out k_ (HG0.out.1 k_ hs_.symm))).1)); have n2_ := xm hb; clear hb hkp hy HS HK HB HH HO HG0 HG1 HT0 HT1 HD0_1 hx0 hz0 hx1 hz1; revert n0_ n1_ n2_; intro HS HK HB; obtain ⟨oki, ce, hcl, hM, hcc, hfr, hoki, hH⟩ := Kd.S_elem HS.out z35 x5 HI.out.1 HI.out.2.1; rw [HI.out.2.2.2.2] at hM; obtain ⟨v0, v1, T0, T1, rfl, ⟨a0, a1⟩, d0_1, g0, g1⟩ := hM; obtain ⟨Aq0, cq0, ei0⟩ := Kd.R_slice g0; subst ei0; obtain ⟨Aq1, cq1, ei1⟩ := Kd.R_slice g1; subst ei1; have hx0 : w1_.cell? ⟨go, x5.toNat * 2, none⟩ = some (.slice Aq0 t1_2.length cq0) := (by have z_ := hcc 0 _ rfl; (try simp only [show (kP35).sz = 2 from rfl, Nat.mul_one, Nat.add_zero] at z_); exact z_); have hx1 : w1_.cell? ⟨go, x5.toNat * 2 + 1, none⟩ = some (.slice Aq1 x.f1.length cq1) := (by have z_ := hcc 1 _ rfl; (try simp only [show (kP35).sz = 2 from rfl, Nat.mul_one, Nat.add_zero] at z_); exact z_); have hz0 : w1_.frozen? ⟨go, x5.toNat * 2, none⟩ = false := (by have z_ := hfr 0; (try simp only [show (kP35).sz = 2 from rfl, Nat.mul_one, Nat.add_zero] at z_); exact z_); have hz1 : w1_.frozen? ⟨go, x5.toNat * 2 + 1, none⟩ = false := (by have z_ := hfr 1; (try simp only [show (kP35).sz = 2 from rfl, Nat.mul_one, Nat.add_zero] at z_); exact z_); have HH := xm hH; have HG0 := xm g0; have HG1 := xm g1; have HO := xm hoki; have HT0 := xm a0; have HT1 := xm a1; have HD0_1 := xm d0_1; clear hcl hcc hfr hoki hH g0 g1 a0 a1 d0_1)
    | (go_at_call 30; (with_reducible refine (laws_markIntS.calls k (fun k_ => some k_ = (.slice Aq1 x.f1.length cq1 : Value).ownBlock) (.slice Aq1 x.f1.length cq1) x.f1 t1_1 t2_1 t2_2 w0 _ HB.out (Kd.R_tight rfl HG1.out) HAt2.out).mono ?_); rintro e w2_ ⟨rfl, hy, hb, hkp⟩; have n0_ := xm (by rw [← HI.out.2.2.2.1 (⟨t1_2, x.f1⟩ : S35) (⟨t1_2, t2_2⟩ : S35)]; exact Kd.H_back (x' := (⟨t1_2, t2_2⟩ : S35)) (Kd.H_step HH.out (fun k_ _ hn_ hlt_ => hkp.2 k_ hlt_ (fun hs_ => hn_ (HT1.out k_ (HG1.out.1 k_ hs_.symm))))) (show kP35.M w2_ w0.heap.size oki (⟨t1_2, t2_2⟩ : S35) _ from ⟨(.slice Aq0 t1_2.length cq0), (.slice Aq1 x.f1.length cq1), T0, T1, rfl, ⟨HT0.out, HT1.out⟩, HD0_1.out, Kd.R_kept HG0.out hkp (fun k_ h_ hs_ => HD0_1.out k_ h_ (HG1.out.1 k_ hs_.symm)), Kd.R_reok rfl hy (fun k_ e_ => HG1.out.1 k_ e_)⟩) (fun _ h_ => h_) : Kd.S kP35 35 w2_ w0.heap.size P0_ (.slice (some ⟨go, 0, none⟩) l0.length c0) (ys ++ (⟨t1_2, t2_2⟩ : S35) :: zs)); have n1_ := xm (Kept.then_ HK.out hkp (fun k_ hs_ => .inl (HO.out k_ (HT1.out k_ (HG1.out.1 k_ hs_.symm))).1)); have n2_ := xm hb; clear hb hkp hy HS HK HB HH HO HG0 HG1 HT0 HT1 HD0_1 hx0 hz0 hx1 hz1; revert n0_ n1_ n2_; intro HS HK HB))
   go_wp2
   go_roundg zs.length
   case measure => have z_ := hzk.out; simp at z_; omega
   case rel =>
    have hw5 : wrap64 (x5 + 1) = x5 + 1 := by have := HL5.out; unfold wrap64; omega
    refine ⟨ys ++ [(⟨t1_2, t2_2⟩ : S35)], zs, s_2, t2_1, wrap64 (x5 + 1), sB, sB, ⟨?_⟩, ⟨?_⟩, ⟨Nat.le_refl _⟩, HN, ⟨?_⟩, ⟨?_⟩, HK, HB⟩
    ·rw [hw5, HL5.out.1]; simp
    ·have := HL5.out; simp; omega
    ·rw [HR.out, ← HW.out]; simp
    ·have z_ := HS.out; simpa using z_

/-! ### laws_markDepend: function 14 -/
def laws_markDepend.f (k : Nat) (l0_0 : List Int) (l0_1 : List Int) (a1 : Int) : Option (Int × List Int × List Int) := (laws_markIntS.f k l0_0 a1).bind fun bt347 => ((laws_markIntS.f k l0_1 bt347.1).bind fun bt349 => (some (bt349.1, bt347.2, bt349.2)))
theorem laws_markDepend.mono : ∀ a0 a1 a2 k, LeO (laws_markDepend.f k a0 a1 a2) (laws_markDepend.f (k + 1) a0 a1 a2) := by
 intro a0 a1 a2 k
 unfold laws_markDepend.f
 repeat' first
   | (with_reducible exact laws_markIntS.mono _ _ _)
   | (with_reducible exact LeO.refl _)
   | (with_reducible exact LeO.none _)
   | (with_reducible refine LeO.ite ?_ ?_)
   | (with_reducible refine LeO.bind ?_ (fun _ => ?_))
   | exact laws_markIntS.mono _ _ _
   | exact LeO.none _
   | refine LeO.ite ?_ ?_
   | refine LeO.bind ?_ (fun _ => ?_)
set_option maxHeartbeats 8000000 in
set_option maxRecDepth 100000 in
theorem laws_markDepend.calls (k : Nat) (P0_0_ : Nat → Prop) (u9000_ : Value) (l0_0 : List Int) (P0_1_ : Nat → Prop) (u9001_ : Value) (l0_1 : List Int) (a1 : Int) (r1 : Int) (r2 : List Int) (r3 : List Int) (w0 w : World) (hB : Below w0.heap.size w0 w) (ho0_0 : Kd.R (Kd.int .i64) 3 w w0.heap.size P0_0_ u9000_ l0_0) (hp0_0_0_1 : ∀ k_, P0_0_ k_ → ¬ P0_1_ k_) (ho0_1 : Kd.R (Kd.int .i64) 3 w w0.heap.size P0_1_ u9001_ l0_1) (hp0_1_0_0 : ∀ k_, P0_1_ k_ → ¬ P0_0_ k_) (h : laws_markDepend.f k l0_0 l0_1 a1 = some (r1, r2, r3)) :
  Calls Try.prog 14 #[.agg #[u9000_, u9001_], .int .i64 a1] w fun e w' => e = .returned (.int .i64 r1) ∧ Kd.R (Kd.int .i64) 3 w' w0.heap.size (fun k_ => ((P0_0_ k_ ∨ P0_1_ k_) ∨ w.heap.size ≤ k_)) u9000_ r2 ∧ Kd.R (Kd.int .i64) 3 w' w0.heap.size (fun k_ => ((P0_0_ k_ ∨ P0_1_ k_) ∨ w.heap.size ≤ k_)) u9001_ r3 ∧ Below w0.heap.size w0 w' ∧ Kept w w' (fun k_ => P0_0_ k_ ∨ P0_1_ k_) := by
 have hu35 := Try.underlying35
 have HO0_0 := xm (show Kd.R (Kd.int .i64) 3 w w0.heap.size (fun k_ => ((P0_0_ k_ ∨ P0_1_ k_) ∨ w.heap.size ≤ k_) ∧ some k_ ≠ (u9001_ : Value).ownBlock) u9000_ l0_0 from Kd.R_mono ho0_0 (fun k_ hk => ⟨(.inl (.inl hk)), fun e_ => hp0_0_0_1 k_ hk (ho0_1.1 k_ e_.symm)⟩))
 have HO0_1 := xm (show Kd.R (Kd.int .i64) 3 w w0.heap.size (fun k_ => ((P0_0_ k_ ∨ P0_1_ k_) ∨ w.heap.size ≤ k_) ∧ some k_ ≠ (u9000_ : Value).ownBlock) u9001_ l0_1 from Kd.R_mono ho0_1 (fun k_ hk => ⟨(.inl (.inr hk)), fun e_ => hp0_1_0_0 k_ hk (ho0_0.1 k_ e_.symm)⟩))
 have HK := xm (Kept.refl w (fun k_ => P0_0_ k_ ∨ P0_1_ k_))
 have HW0 := xm hB.size
 have HB := xm hB
 clear hB
 have H : ((laws_markIntS.f k l0_0 a1).bind fun bt347 => ((laws_markIntS.f k l0_1 bt347.1).bind fun bt349 => (some (bt349.1, bt347.2, bt349.2)))) = some (r1, r2, r3) := h
 clear h
 replace H := Option.bind_eq_some_iff.mp H
 obtain ⟨⟨t347, t348⟩, A30, H⟩ := H
 replace H : ((laws_markIntS.f k l0_1 t347).bind fun bt349 => (some (bt349.1, t348, bt349.2))) = some (r1, r2, r3) := H
 have A3 := xm A30
 clear A30
 replace H := Option.bind_eq_some_iff.mp H
 obtain ⟨⟨t349, t350⟩, A40, H⟩ := H
 replace H : (some (t349, t348, t350)) = some (r1, r2, r3) := H
 have A4 := xm A40
 clear A40
 simp only [Option.some.injEq, Prod.mk.injEq] at H
 obtain ⟨rfl, rfl, rfl⟩ := H
 obtain ⟨Ao5, co5, eo5⟩ := Kd.R_slice HO0_0.out
 subst eo5
 obtain ⟨Ao6, co6, eo6⟩ := Kd.R_slice HO0_1.out
 subst eo6
 go_enter Try.func14, Try.ntmps14
 go_wp2_with (first | ((with_reducible refine gate_dst (N := 2) rfl ?_); refine box_event ?hg (N := 2) ?hd (cs := #[.slice Ao5 l0_0.length co5, .slice Ao6 l0_1.length co6]) (t := 35) ?hr ?_; (case hd => rfl); (case hg => rfl); (case hr => exact zB); intro gb346 hg w7 hbox hb; have n0_ := xm (Kd.R_below (rB HO0_0) hb); have n1_ := xm (Kd.R_below (rB HO0_1) hb); have n2_ := xm (Kept.below (S := (fun k_ => P0_0_ k_ ∨ P0_1_ k_)) (by repeat (first | (with_reducible first | exact HK.out | apply Kept.alloc | apply Kept.drewN | apply Kept.drew) | exact HK.out)) hb); have n3_ := xm (below_step bB hb); have n4_ := xm (hbox); have n5_ := xm ((by rw [hg]; exact (by first | exact HK.out.1 | exact (show Kept w _ (fun k_ => P0_0_ k_ ∨ P0_1_ k_) from by repeat (first | (with_reducible first | exact HK.out | apply Kept.alloc | apply Kept.drewN | apply Kept.drew) | exact HK.out)).1) : w.heap.size ≤ gb346)); have n6_ := xm ((by rw [hg]; exact (xz bB) : w0.heap.size ≤ gb346)); revert n0_ n1_ n2_ n3_ n4_ n5_ n6_; clear HO0_0 HO0_1 HK HB; intro HO0_0 HO0_1 HK HB BK346 GW346 GE346; clear hb hbox hg; obtain ⟨hcz8_0, hcz8_1, hfz8_0, hfz8_1⟩ := cz2 BK346.out) | ((with_reducible refine gate_callee (f := 30) rfl ?_); refine goesL_ (some 8) rfl rfl Try.func30 (by kernel_rfl) rfl #[.slice Ao5 l0_0.length co5, .int .i64 a1] rfl mB ?_; (with_reducible refine (laws_markIntS.calls k (fun k_ => some k_ = (.slice Ao5 l0_0.length co5 : Value).ownBlock) (.slice Ao5 l0_0.length co5) l0_0 a1 t347 t348 w0 _ ?side1 ?side2 A3.out).mono ?_); (case side1 => repeat (first | (with_reducible first | exact HB.out | apply xa | apply xn | apply xd | refine xt ?_ GE346.out) | exact HB.out)); (case side2 => exact Kd.R_tight rfl HO0_0.out); rintro e w9 ⟨rfl, hy0, hb, hkp⟩; refine ⟨_, rfl, ?_⟩; have n0_ := xm (Kd.R_reok rfl hy0 (fun k_ e_ => HO0_0.out.1 k_ e_)); have n1_ := xm (Kd.R_mono (ok' := fun k_ => ((P0_0_ k_ ∨ P0_1_ k_) ∨ w.heap.size ≤ k_) ∧ some k_ ≠ (.slice Ao5 l0_0.length co5 : Value).ownBlock) (Kd.R_keptB (HO0_1.out) hkp (fun k_ hk_ hs_ => (hk_.2) hs_)) (fun k_ hk_ => ⟨hk_.1.1, hk_.1.2⟩)); have n2_ := xm (blk_kept (kB BK346) hkp (fun hs_ => (fun e_ => (Kd.R_ne HO0_0.out BK346.out (by decide)) e_) hs_)); have n3_ := xm (Kept.then_ (S := (fun k_ => P0_0_ k_ ∨ P0_1_ k_)) (by repeat (first | (with_reducible first | exact HK.out | apply Kept.alloc | apply Kept.drewN | apply Kept.drew | refine Kept.setCell ?_ (.inr GW346.out) _) | exact HK.out)) hkp (fun k_ hs_ => (fun e_ => (HO0_0.out.1 k_ e_.symm).1) hs_)); have n4_ := xm (hb); revert n0_ n1_ n2_ n3_ n4_; clear HO0_0 HO0_1 BK346 HK HB; intro HO0_0 HO0_1 BK346 HK HB; (try clear hb); (try clear hkp); (try clear hy0); obtain ⟨hcz10_0, hcz10_1, hfz10_0, hfz10_1⟩ := cz2 BK346.out) | ((with_reducible refine gate_callee (f := 30) rfl ?_); refine goesL_ (some 12) rfl rfl Try.func30 (by kernel_rfl) rfl #[.slice Ao6 l0_1.length co6, .int .i64 t347] rfl mB ?_; (with_reducible refine (laws_markIntS.calls k (fun k_ => some k_ = (.slice Ao6 l0_1.length co6 : Value).ownBlock) (.slice Ao6 l0_1.length co6) l0_1 t347 t349 t350 w0 _ ?side1 ?side2 A4.out).mono ?_); (case side1 => repeat (first | (with_reducible first | exact HB.out | apply xa | apply xn | apply xd | refine xt ?_ GE346.out) | exact HB.out)); (case side2 => exact Kd.R_tight rfl HO0_1.out); rintro e w11 ⟨rfl, hy0, hb, hkp⟩; refine ⟨_, rfl, ?_⟩; have n0_ := xm (Kd.R_mono (ok' := fun k_ => ((P0_0_ k_ ∨ P0_1_ k_) ∨ w.heap.size ≤ k_) ∧ some k_ ≠ (.slice Ao6 l0_1.length co6 : Value).ownBlock) (Kd.R_keptB (HO0_0.out) hkp (fun k_ hk_ hs_ => (hk_.2) hs_)) (fun k_ hk_ => ⟨hk_.1.1, hk_.1.2⟩)); have n1_ := xm (Kd.R_reok rfl hy0 (fun k_ e_ => HO0_1.out.1 k_ e_)); have n2_ := xm (blk_kept (kB BK346) hkp (fun hs_ => (fun e_ => (Kd.R_ne HO0_1.out BK346.out (by decide)) e_) hs_)); have n3_ := xm (Kept.then_ (S := (fun k_ => P0_0_ k_ ∨ P0_1_ k_)) (by repeat (first | (with_reducible first | exact HK.out | apply Kept.alloc | apply Kept.drewN | apply Kept.drew | refine Kept.setCell ?_ (.inr GW346.out) _) | exact HK.out)) hkp (fun k_ hs_ => (fun e_ => (HO0_1.out.1 k_ e_.symm).1) hs_)); have n4_ := xm (hb); revert n0_ n1_ n2_ n3_ n4_; clear HO0_0 HO0_1 BK346 HK HB; intro HO0_0 HO0_1 BK346 HK HB; (try clear hb); (try clear hkp); (try clear hy0)))
 go_ret
 exact ⟨eB, by (with_reducible repeat (first | apply Kd.R_alloc | apply Kd.R_drewN | apply Kd.R_drew)); exact Kd.R_mono HO0_0.out (fun _ hk => hk.1), by (with_reducible repeat (first | apply Kd.R_alloc | apply Kd.R_drewN | apply Kd.R_drew)); exact Kd.R_mono HO0_1.out (fun _ hk => hk.1), bG, by repeat (first | (with_reducible first | exact HK.out | apply Kept.alloc | apply Kept.drewN | apply Kept.drew | refine Kept.setCell ?_ (.inr GW346.out) _) | exact HK.out)⟩

/-! ### laws_markWeightedS: function 31 -/
def laws_markWeightedS.f (q : Nat) : List S53 → Int → Option (Int × List S53)
 | [], a => some (a, [])
 | x :: xs, a => (laws_markIntS.f q x.f0.f0 a).bind fun t1 => (laws_markWeightedS.f q xs (wrap64 (t1.1 + 1))).bind fun s => some (s.1, (⟨(⟨t1.2⟩ : S49), t1.1⟩ : S53) :: s.2)
theorem laws_markWeightedS.mono : ∀ a0 a1 k, LeO (laws_markWeightedS.f k a0 a1) (laws_markWeightedS.f (k + 1) a0 a1)
 | [], _, _ => LeO.refl _
 | x :: xs, a, k => by
  unfold laws_markWeightedS.f
  repeat' first | exact LeO.refl _ | exact laws_markIntS.mono _ _ _ | exact laws_markWeightedS.mono xs _ _ | refine LeO.bind ?_ (fun _ => ?_)
set_option maxHeartbeats 8000000 in
set_option maxRecDepth 100000 in
theorem laws_markWeightedS.calls (k : Nat) (P0_ : Nat → Prop) (u9000_ : Value) (l0 : List S53) (a1 : Int) (r1 : Int) (r2 : List S53) (w0 w : World) (hB : Below w0.heap.size w0 w) (ho0 : Kd.S k53 53 w w0.heap.size P0_ u9000_ l0) (h : laws_markWeightedS.f k l0 a1 = some (r1, r2)) :
  Calls Try.prog 31 #[u9000_, .int .i64 a1] w fun e w' => e = .returned (.int .i64 r1) ∧ Kd.S k53 53 w' w0.heap.size P0_ u9000_ r2 ∧ Below w0.heap.size w0 w' ∧ Kept w w' P0_ := by
 obtain ⟨A0, c0, rfl⟩ := Kd.S_slice ho0
 have HS0 := xm ho0
 have HB0 := xm hB
 have HK0 := xm (Kept.refl w P0_)
 have H0 := xm h
 have hlen := (Kd.S_reads' ho0).2.2.2.1
 clear ho0 hB h
 go_enter Try.func31, Try.ntmps31
 go_wp2
 go_loopg [1, 5] l0.length (fun kq v1 v5 w' => ∃ (ys zs ws : List S53) (b x5 : Int), v1 = .int .i64 b ∧ v5 = .int .i64 x5 ∧ Aside0 (x5 = ys.length) ∧ Aside0 (ys.length + zs.length = l0.length) ∧ Aside0 (zs.length ≤ kq) ∧ Aside0 (laws_markWeightedS.f k zs b = some (r1, ws)) ∧ Aside0 (r2 = ys ++ ws) ∧ Aside0 (Kd.S k53 53 w' w0.heap.size P0_ (.slice A0 l0.length c0) (ys ++ zs)) ∧ Aside0 (Kept w w' P0_) ∧ Aside0 (Below w0.heap.size w0 w'))
 case atStart => exact ⟨[], l0, r2, a1, 0, rfl, rfl, ⟨rfl⟩, ⟨by simp⟩, ⟨Nat.le_refl _⟩, H0, ⟨rfl⟩, HS0, HK0, HB0⟩
 case round =>
  clear HS0 HK0 HB0 H0
  obtain ⟨ys, zs, ws, b, x5, rfl, rfl, hx5, hyz, hzk, HF, HR, HS, HK, HB⟩ := hrel
  have h50 := hx5.out
  have h51 := hyz.out
  cases zs with
  | nil =>
   have hc : decide (x5 < (l0.length : Int)) = false := decide_eq_false (by simp at h51; omega)
   have hf := HF.out
   unfold laws_markWeightedS.f at hf
   simp only [Option.some.injEq, Prod.mk.injEq] at hf
   obtain ⟨rfl, rfl⟩ := hf
   have HR2 := HR.out
   rw [List.append_nil] at HR2
   subst HR2
   have HS2 := HS.out
   rw [List.append_nil] at HS2
   have HS3 := xm HS2
   clear HS2 HS HF HR h50 h51 hx5 hyz hzk
   go_wp2
   go_ret
   exact ⟨rfl, HS3.out, HB.out, HK.out⟩
  | cons x zs =>
   have hzc : (x :: zs).length = zs.length + 1 := rfl
   have hc : decide (x5 < (l0.length : Int)) = true := decide_eq_true (by omega)
   have hf := HF.out
   unfold laws_markWeightedS.f at hf
   obtain ⟨⟨t1_1, t1_2⟩, hAt1, hf⟩ := Option.bind_eq_some_iff.mp hf
   obtain ⟨⟨s_1, s_2⟩, hN, hf⟩ := Option.bind_eq_some_iff.mp hf
   simp only [Option.some.injEq, Prod.mk.injEq] at hf
   obtain ⟨rfl, hws⟩ := hf
   have HN := xm hN
   have HW := xm hws
   clear hN hws HF
   have HAt1 := xm hAt1
   clear hAt1
   obtain ⟨go, co, eo, gb, _, _⟩ := Kd.S_form HS.out (by rw [List.length_append]; omega)
   (injection eo with ea_ en_ ec_; subst ea_; subst ec_; clear en_)
   have hi0 : 0 ≤ x5 := by omega
   have hi1 : x5 < (l0.length : Int) := by omega
   have hit : x5.toNat = ys.length := by omega
   have hset : ∀ y z : S53, (ys ++ y :: zs).set x5.toNat z = ys ++ z :: zs := fun y z => by rw [hit]; simp
   have hget : ∀ (y z : S53), (ys ++ y :: zs).getD x5.toNat z = y := fun y z => by rw [hit]; simp
   have HI := xm (And.intro hi0 (And.intro hi1 (And.intro gb (And.intro hset hget))))
   have HL5 := xm (And.intro h50 (And.intro h51 (And.intro hzc hlen)))
   clear hit hset hget gb h50 h51 hzc
   obtain ⟨oki, ce, hcl, hM, hcc, hfr, hoki, hH⟩ := Kd.S_elem HS.out z53 x5 HI.out.1 HI.out.2.1
   rw [HI.out.2.2.2.2] at hM
   obtain ⟨v0, rfl, g0⟩ := k53_openM hM
   obtain ⟨Ai, ci, ei⟩ := Kd.R_slice g0
   subst ei
   have hx0 : wr.cell? ⟨go, x5.toNat * 2, none⟩ = some (.slice Ai x.f0.f0.length ci) := (by have z_ := hcc 0 _ rfl; (try simp only [show (k53).sz = 2 from rfl, Nat.mul_one, Nat.add_zero] at z_); exact z_)
   have hx1 : wr.cell? ⟨go, x5.toNat * 2 + 1, none⟩ = some (.int .i64 x.f1) := (by have z_ := hcc 1 _ rfl; (try simp only [show (k53).sz = 2 from rfl, Nat.mul_one, Nat.add_zero] at z_); exact z_)
   have hz0 : wr.frozen? ⟨go, x5.toNat * 2, none⟩ = false := (by have z_ := hfr 0; (try simp only [show (k53).sz = 2 from rfl, Nat.mul_one, Nat.add_zero] at z_); exact z_)
   have hz1 : wr.frozen? ⟨go, x5.toNat * 2 + 1, none⟩ = false := (by have z_ := hfr 1; (try simp only [show (k53).sz = 2 from rfl, Nat.mul_one, Nat.add_zero] at z_); exact z_)
   have HH := xm hH
   have HG := xm g0
   have HO := xm hoki
   have HC := xm hcl
   (try clear hM)
   clear hcl hcc hfr hoki hH g0
   go_wp2_with (first
    | (go_at_call 30; refine (laws_markIntS.calls k (fun k_ => some k_ = (.slice Ai x.f0.f0.length ci : Value).ownBlock) (.slice Ai x.f0.f0.length ci) x.f0.f0 b t1_1 t1_2 w0 _ HB.out (Kd.R_tight rfl HG.out) HAt1.out).mono ?_; rintro e w1_ ⟨rfl, hy, hb, hkp⟩; have n0_ := xm (by rw [← HI.out.2.2.2.1 (⟨(⟨x.f0.f0⟩ : S49), x.f1⟩ : S53) (⟨(⟨t1_2⟩ : S49), x.f1⟩ : S53)]; exact Kd.H_back (x' := (⟨(⟨t1_2⟩ : S49), x.f1⟩ : S53)) (Kd.H_step HH.out (fun k_ _ hn_ hlt_ => hkp.2 k_ hlt_ (fun hs_ => hn_ (HG.out.1 k_ hs_.symm)))) (k53_mkM w1_ w0.heap.size oki (⟨(⟨t1_2⟩ : S49), x.f1⟩ : S53) (Kd.R_reok rfl hy (fun k_ e_ => HG.out.1 k_ e_))) (fun _ h_ => h_) : Kd.S k53 53 w1_ w0.heap.size P0_ (.slice (some ⟨go, 0, none⟩) l0.length c0) (ys ++ (⟨(⟨t1_2⟩ : S49), x.f1⟩ : S53) :: zs)); have n1_ := xm (Kept.then_ HK.out hkp (fun k_ hs_ => .inl (HO.out k_ (HG.out.1 k_ hs_.symm)).1)); have n2_ := xm hb; clear HS HK HB hb hkp hy HH HG HO HC hx0 hz0 hx1 hz1; revert n0_ n1_ n2_; intro HS HK HB; obtain ⟨oki, ce, hcl, hM, hcc, hfr, hoki, hH⟩ := Kd.S_elem HS.out z53 x5 HI.out.1 HI.out.2.1; rw [HI.out.2.2.2.2] at hM; obtain ⟨v0, rfl, g0⟩ := k53_openM hM; obtain ⟨Ai, ci, ei⟩ := Kd.R_slice g0; subst ei; have hx0 : w1_.cell? ⟨go, x5.toNat * 2, none⟩ = some (.slice Ai t1_2.length ci) := (by have z_ := hcc 0 _ rfl; (try simp only [show (k53).sz = 2 from rfl, Nat.mul_one, Nat.add_zero] at z_); exact z_); have hx1 : w1_.cell? ⟨go, x5.toNat * 2 + 1, none⟩ = some (.int .i64 x.f1) := (by have z_ := hcc 1 _ rfl; (try simp only [show (k53).sz = 2 from rfl, Nat.mul_one, Nat.add_zero] at z_); exact z_); have hz0 : w1_.frozen? ⟨go, x5.toNat * 2, none⟩ = false := (by have z_ := hfr 0; (try simp only [show (k53).sz = 2 from rfl, Nat.mul_one, Nat.add_zero] at z_); exact z_); have hz1 : w1_.frozen? ⟨go, x5.toNat * 2 + 1, none⟩ = false := (by have z_ := hfr 1; (try simp only [show (k53).sz = 2 from rfl, Nat.mul_one, Nat.add_zero] at z_); exact z_); have HH := xm hH; have HG := xm g0; have HO := xm hoki; have HC := xm hcl; (try clear hM); clear hcl hcc hfr hoki hH g0)
    | ((with_reducible refine gate_store (t := 3) (p := 24) rfl ?_); refine store_event (t := 3) (p := 24) (v := ?vo2) (w1 := (w1_.setCell ⟨go, x5.toNat * 2 + 1, none⟩ (.int .i64 t1_1))) ?hg ?ho ?hn ?hr ?_; (case ho => rfl); (case hg => rfl); (case hn => rfl); (case hr => exact zB); intro w2_ hw; have hs2 := Kd.H_seg HH.out HI.out.1 HI.out.2.1 (seg := [.int .i64 t1_1]) (j := 1) (by show 1 + 1 ≤ 2; decide) (fun q_ hq_ => by rw [List.mem_singleton.1 hq_]; rfl); have hg : w1_.grownBy w2_ (some go) := (by rw [hw]; exact hs2.2); have hH2 : Kd.H k53 53 w2_ w0.heap.size P0_ (.slice (some ⟨go, 0, none⟩) l0.length c0) (ys ++ (⟨(⟨t1_2⟩ : S49), x.f1⟩ : S53) :: zs) x5 oki [.slice Ai t1_2.length ci, .int .i64 t1_1] := (by rw [hw]; exact hs2.1); have n0_ := xm (by rw [← HI.out.2.2.2.1 (⟨(⟨t1_2⟩ : S49), x.f1⟩ : S53) (⟨(⟨t1_2⟩ : S49), t1_1⟩ : S53)]; exact Kd.H_back (x' := (⟨(⟨t1_2⟩ : S49), t1_1⟩ : S53)) hH2 (k53_mkM w2_ w0.heap.size oki (⟨(⟨t1_2⟩ : S49), t1_1⟩ : S53) (Kd.R_grown HG.out hg (fun k_ hk_ e_ => (HO.out k_ hk_).2 (by injection e_)))) (fun _ h_ => h_) : Kd.S k53 53 w2_ w0.heap.size P0_ (.slice (some ⟨go, 0, none⟩) l0.length c0) (ys ++ (⟨(⟨t1_2⟩ : S49), t1_1⟩ : S53) :: zs)); have n1_ := xm (Kept.of_grown hg HK.out (fun k_ e_ => .inl (by have z_ := (Kd.S_R HS.out).1 go rfl; injection e_ with e_; rw [← e_]; exact z_))); have n2_ := xm ((by rw [hw]; exact xt HB.out HI.out.2.2.1) : Below w0.heap.size w0 w2_); clear HS HK HB hs2 hg hH2 hw HH HG HO HC hx0 hz0 hx1 hz1; revert n0_ n1_ n2_; intro HS HK HB))
   go_wp2
   go_roundg zs.length
   case measure => have z_ := hzk.out; simp at z_; omega
   case rel =>
    have hw5 : wrap64 (x5 + 1) = x5 + 1 := by have := HL5.out; unfold wrap64; omega
    refine ⟨ys ++ [(⟨(⟨t1_2⟩ : S49), t1_1⟩ : S53)], zs, s_2, wrap64 (t1_1 + 1), wrap64 (x5 + 1), sB, sB, ⟨?_⟩, ⟨?_⟩, ⟨Nat.le_refl _⟩, HN, ⟨?_⟩, ⟨?_⟩, HK, HB⟩
    ·rw [hw5, HL5.out.1]; simp
    ·have := HL5.out; simp; omega
    ·rw [HR.out, ← HW.out]; simp
    ·have z_ := HS.out; simpa using z_

/-! ### laws_markTable: function 15 -/
def laws_markTable.f (k : Nat) (a0_0 : Int) (l0_1 : List (S53)) (a1 : Int) : Option (Int × (List (S53))) := (laws_markWeightedS.f k l0_1 a1).bind fun t3b => some (t3b.1, t3b.2)
theorem laws_markTable.mono : ∀ a0_ a1_ a2_ k, LeO (laws_markTable.f k a0_ a1_ a2_) (laws_markTable.f (k + 1) a0_ a1_ a2_) := by
 intro a0_ a1_ a2_ k
 unfold laws_markTable.f
 repeat' first
  | (with_reducible exact laws_markWeightedS.mono _ _ _)
  | (with_reducible exact LeO.refl _)
  | (with_reducible exact LeO.none _)
  | (with_reducible refine LeO.ite ?_ ?_)
  | (with_reducible refine LeO.bind ?_ (fun _ => ?_))
  | exact laws_markWeightedS.mono _ _ _
theorem laws_markTable.cs2 {w : World} {g t : Nat} {a0 a1 : Value} (h : w.heap[g]? = some (.cells #[a0, a1] t (0, 0))) : w.cell? ⟨g, 0, none⟩ = some a0 ∧ w.frozen? ⟨g, 0, none⟩ = false ∧ w.cell? ⟨g, 1, none⟩ = some a1 ∧ w.frozen? ⟨g, 1, none⟩ = false := ⟨(xc h 0).trans rfl, xf h 0, (xc h 1).trans rfl, xf h 1⟩
set_option maxHeartbeats 8000000 in
set_option maxRecDepth 100000 in
theorem laws_markTable.calls (k : Nat) (a0_0 : Int) (P0_1_ : Nat → Prop) (u9000_ : Value) (l0_1 : List (S53)) (a1 : Int) (r1 : Int) (r2 : List (S53)) (w0 w : World) (hB : Below w0.heap.size w0 w) (ho0_1 : Kd.S k53 53 w w0.heap.size P0_1_ u9000_ l0_1) (h : laws_markTable.f k a0_0 l0_1 a1 = some (r1, r2)) :
  Calls Try.prog 15 #[.agg #[.int .i64 a0_0, u9000_], .int .i64 a1] w fun e w' => e = .returned (.int .i64 r1) ∧ Kd.S k53 53 w' w0.heap.size P0_1_ u9000_ r2 ∧ Below w0.heap.size w0 w' ∧ Kept w w' (fun k_ => P0_1_ k_) := by
 obtain ⟨A0_1, c0_1, rfl⟩ := Kd.S_slice ho0_1
 have F0_1 := xm (Kd.S_mono (ok' := fun k_ => P0_1_ k_ ∧ k_ < w.heap.size) (Kd.S_bound ho0_1) (fun k_ h_ => ⟨h_.1, h_.2.2.1⟩))
 have hu30 := Try.underlying30
 have HB := xm hB
 have HK := xm (Kept.refl w (fun k_ => P0_1_ k_))
 have Z0 := xm hB.size
 clear hB ho0_1
 unfold laws_markTable.f at h
 replace h := Option.bind_eq_some_iff.mp h
 obtain ⟨⟨t3_0, t3_1⟩, t3A0, h⟩ := h
 (try dsimp only at h)
 have t3A := xm t3A0
 clear t3A0
 simp only [Option.some.injEq, Prod.mk.injEq] at h
 obtain ⟨rfl, rfl⟩ := h
 go_enter Try.func15, Try.ntmps15
 go_wp2_with (first
  | ((with_reducible refine gate_dst (N := 2) rfl ?_); refine box_event ?hgq2 (N := 2) ?hdq2 (cs := #[.int .i64 a0_0, .slice A0_1 l0_1.length c0_1]) (t := 30) ?hrq2 ?_; (case hdq2 => rfl); (case hgq2 => rfl); (case hrq2 => exact zB); intro g1 hg_ w1_ hbox_ hb_; have Z1 := xm (hb_.size : w.heap.size ≤ w1_.heap.size); have hk_ := Kept.of_below hb_ (fun _ => False); have m0_ := xm (Kd.S_kept F0_1.out hk_ (fun _ _ h_ => h_)); clear F0_1; have F0_1 := m0_; clear m0_; have m0_ := xm (below_step (w := w0) HB.out hb_); clear HB; have HB := m0_; have m1_ := xm (HK.out.then_ hk_ (fun _ h_ => h_.elim)); clear HK; have HK := m1_; clear m1_; have BKg1 := xm hbox_; have GBg1 : Aside0 (w.heap.size ≤ g1 ∧ g1 < w1_.heap.size) := xm ⟨by rw [hg_]; exact Nat.le_refl _, blk_lt hbox_⟩; clear m0_ hb_ hbox_ hg_ hk_; obtain ⟨hcg1_0, hfg1_0, hcg1_1, hfg1_1⟩ := laws_markTable.cs2 BKg1.out)
  | ((with_reducible refine gate_callee (f := 31) rfl ?_); refine goesL_ (some 8) rfl rfl Try.func31 (by kernel_rfl) rfl #[.slice A0_1 l0_1.length c0_1, .int .i64 a1] rfl mB ?_; refine (laws_markWeightedS.calls k (fun k_ => P0_1_ k_ ∧ k_ < w.heap.size) (.slice A0_1 l0_1.length c0_1) l0_1 a1 t3_0 t3_1 w0 _ HB.out F0_1.out t3A.out).mono ?_; rintro e w2_ ⟨rfl, h0_, hb_, hkp_⟩; refine ⟨_, rfl, ?_⟩; have Z2 := xm (hkp_.1 : w1_.heap.size ≤ w2_.heap.size); have yF0_1 := xm h0_; have m0_ := xm (blk_kept BKg1.out hkp_ (fun h2_ => by have u_ := GBg1.out; have u2_ := h2_.2; omega)); clear BKg1; have BKg1 := m0_; clear m0_; clear F0_1; have F0_1 := yF0_1; clear yF0_1; clear HB; have HB := xm hb_; have m1_ := xm (HK.out.then_ hkp_ (fun _ h_ => .inl h_.1)); clear HK; have HK := m1_; clear m1_; clear hb_ hkp_ h0_; (try clear LEF0_1); have LEF0_1 := xm (Kd.S_reads' F0_1.out).1; clear hcg1_0 hfg1_0 hcg1_1 hfg1_1; obtain ⟨hcg1_0, hfg1_0, hcg1_1, hfg1_1⟩ := laws_markTable.cs2 BKg1.out))
 go_wp2
 go_ret
 exact ⟨rfl, Kd.S_mono F0_1.out (fun _ h_ => h_.1), HB.out, HK.out⟩

/-! ### laws_heldIntS: function 45 -/
def laws_heldIntS.l0 : Nat → List Int → Int → Int → Option (Int)
 | 0, _, _, _ => none
 | k + 1, x0, x1, x5 => if x5 < (x0.length : Int) then (if 0 ≤ x5 then (if (rd x0 x5) = x1 then (laws_heldIntS.l0 k x0 (wrap64 (x1 + 1)) (wrap64 (x5 + 1))) else (some (-1))) else (none)) else (some x1)
def laws_heldIntS.f (k : Nat) (l0 : List Int) (a1 : Int) : Option (Int) := laws_heldIntS.l0 k l0 a1 0
theorem laws_heldIntS.mono_l : ∀ k, (∀ y0 y1 y2, LeO (laws_heldIntS.l0 k y0 y1 y2) (laws_heldIntS.l0 (k + 1) y0 y1 y2))
 | 0 => fun _ _ _ r h => by simp [laws_heldIntS.l0] at h
 | k + 1 => by
  have ih0 := laws_heldIntS.mono_l k
  ·intro y0 y1 y2
   unfold laws_heldIntS.l0
   repeat' first
   | (with_reducible exact ih0 _ _ _)
   | (with_reducible exact LeO.refl _)
   | (with_reducible exact LeO.none _)
   | (with_reducible refine LeO.ite ?_ ?_)
   | (with_reducible refine LeO.bind ?_ (fun _ => ?_))
   | exact ih0 _ _ _
   | exact LeO.none _
   | refine LeO.ite ?_ ?_
   | refine LeO.bind ?_ (fun _ => ?_)
theorem laws_heldIntS.mono : ∀ a0 a1 k, LeO (laws_heldIntS.f k a0 a1) (laws_heldIntS.f (k + 1) a0 a1) := by
 intro a0 a1 k
 have ih0 := laws_heldIntS.mono_l k
 unfold laws_heldIntS.f
 repeat' first
   | (with_reducible exact ih0 _ _ _)
   | (with_reducible exact LeO.refl _)
   | (with_reducible exact LeO.none _)
   | (with_reducible refine LeO.ite ?_ ?_)
   | (with_reducible refine LeO.bind ?_ (fun _ => ?_))
   | exact ih0 _ _ _
   | exact LeO.none _
   | refine LeO.ite ?_ ?_
   | refine LeO.bind ?_ (fun _ => ?_)
set_option maxHeartbeats 8000000 in
set_option maxRecDepth 100000 in
theorem laws_heldIntS.calls (k : Nat) (A0 : Option Addr) (c0 : Nat) (l0 : List Int) (a1 : Int) (r : Int) (w : World) (hr0 : Kd.C (Kd.int .i64) w A0 l0.length l0) (hc0 : l0.length ≤ c0) (h : laws_heldIntS.f k l0 a1 = some r) :
  Calls Try.prog 45 #[.slice A0 l0.length c0, .int .i64 a1] w fun e w' => e = .returned (.int .i64 r) ∧ Drawn0 w w' := by
 have HR0 := xm hr0
 have HC0 := xm hc0
 clear hr0 hc0
 have H : (laws_heldIntS.l0 k l0 a1 0) = some r := h
 clear h
 have H' := xm H
 clear H
 go_enter Try.func45, Try.ntmps45
 go_wp2
 go_loopg [1, 5] k (fun kq v1 v5 w' => ∃ (x1_1 : Int) (x5_1 : Int), v1 = .int .i64 x1_1 ∧ v5 = .int .i64 x5_1 ∧ Aside0 (laws_heldIntS.l0 kq l0 x1_1 x5_1 = some r) ∧ Aside0 (kq ≤ k) ∧ Drawn0 w w')
 case atStart => exact ⟨(a1), (0), sB, sB, H', ⟨Nat.le_refl _⟩, by repeat (first | exact Drawn0.refl _ | apply Drawn0.step)⟩
 case round =>
  clear H'
  try clear p2
  obtain ⟨x1_1, x5_1, rfl, rfl, HA, HK1, ⟨m1, rfl⟩⟩ := hrel
  cases gk with
  | zero => exact absurd HA.out (by simp [laws_heldIntS.l0])
  | succ k1 =>
   have H := HA.out
   clear HA
   simp only [laws_heldIntS.l0] at H
   by_cases c3 : x5_1 < (l0.length : Int)
   ·rw [if_pos c3] at H
    have c3b0 : decide (x5_1 < (l0.length : Int)) = true := decide_eq_true c3
    clear c3
    by_cases c4 : 0 ≤ x5_1
    ·rw [if_pos c4] at H
     have c4b0 : decide (0 ≤ x5_1) = true := decide_eq_true c4
     clear c4
     by_cases c5 : (rd l0 x5_1) = x1_1
     ·rw [if_pos c5] at H
      have c5b0 : ((rd l0 x5_1) == x1_1) = true := beq_iff_eq.mpr c5
      have c5b1 : ((rd l0 x5_1) != x1_1) = false := bne_eq_false_iff_eq.mpr c5
      clear c5
      have H' := xm H
      clear H
      have p351 : 0 ≤ (x5_1 : Int) := of_decide_eq_true aB
      have q351 : x5_1 < (l0.length : Int) := of_decide_eq_true aB
      obtain ⟨ad351, e351, hx351_0⟩ := Kd.at_int HR0.out x5_1 p351 q351
      cases e351
      replace p351 := eq_true p351
      replace q351 := eq_true q351
      go_wp2
      go_roundg k1
      case measure => have := HK1.out; omega
      case rel => exact ⟨(wrap64 (x1_1 + 1)), (wrap64 (x5_1 + 1)), sB, sB, H', ⟨by have := HK1.out; omega⟩, by repeat (first | exact Drawn0.refl _ | apply Drawn0.step)⟩
     ·rw [if_neg c5] at H
      have c5b0 : ((rd l0 x5_1) == x1_1) = false := beq_eq_false_iff_ne.mpr c5
      have c5b1 : ((rd l0 x5_1) != x1_1) = true := bne_iff_ne.mpr c5
      obtain rfl := Option.some.inj H
      have p351 : 0 ≤ (x5_1 : Int) := of_decide_eq_true aB
      have q351 : x5_1 < (l0.length : Int) := of_decide_eq_true aB
      obtain ⟨ad351, e351, hx351_0⟩ := Kd.at_int HR0.out x5_1 p351 q351
      cases e351
      replace p351 := eq_true p351
      replace q351 := eq_true q351
      go_wp2
      go_ret
      exact ⟨sB, dB⟩
    ·rw [if_neg c4] at H
     exact absurd H (by simp)
   ·rw [if_neg c3] at H
    have c3b0 : decide (x5_1 < (l0.length : Int)) = false := decide_eq_false c3
    clear c3
    obtain rfl := Option.some.inj H
    go_wp2
    go_ret
    exact ⟨sB, dB⟩

/-! ### laws_heldWeightedS: function 32 -/
def laws_heldWeightedS.l0 : Nat → List (S53) → Int → Int → Option (Int)
 | 0, _, _, _ => none
 | k + 1, x0, x1, x5 => if x5 < (x0.length : Int) then (if 0 ≤ x5 then ((laws_heldIntS.f k ((rd_T53 x0 x5).f0.f0) x1).bind fun t353 => (if t353 < 0 then (some (-1)) else (if ((rd_T53 x0 x5).f1) = t353 then (laws_heldWeightedS.l0 k x0 (wrap64 (t353 + 1)) (wrap64 (x5 + 1))) else (some (-1))))) else (none)) else (some x1)
def laws_heldWeightedS.f (k : Nat) (l0 : List (S53)) (a1 : Int) : Option (Int) := laws_heldWeightedS.l0 k l0 a1 0
theorem laws_heldWeightedS.mono_l : ∀ k, (∀ y0 y1 y2, LeO (laws_heldWeightedS.l0 k y0 y1 y2) (laws_heldWeightedS.l0 (k + 1) y0 y1 y2))
 | 0 => fun _ _ _ r h => by simp [laws_heldWeightedS.l0] at h
 | k + 1 => by
  have ih0 := laws_heldWeightedS.mono_l k
  ·intro y0 y1 y2
   unfold laws_heldWeightedS.l0
   repeat' first
   | (with_reducible exact ih0 _ _ _)
   | (with_reducible exact laws_heldIntS.mono _ _ _)
   | (with_reducible exact LeO.refl _)
   | (with_reducible exact LeO.none _)
   | (with_reducible refine LeO.ite ?_ ?_)
   | (with_reducible refine LeO.bind ?_ (fun _ => ?_))
   | exact ih0 _ _ _
   | exact laws_heldIntS.mono _ _ _
   | exact LeO.none _
   | refine LeO.ite ?_ ?_
   | refine LeO.bind ?_ (fun _ => ?_)
theorem laws_heldWeightedS.mono : ∀ a0 a1 k, LeO (laws_heldWeightedS.f k a0 a1) (laws_heldWeightedS.f (k + 1) a0 a1) := by
 intro a0 a1 k
 have ih0 := laws_heldWeightedS.mono_l k
 unfold laws_heldWeightedS.f
 repeat' first
   | (with_reducible exact ih0 _ _ _)
   | (with_reducible exact laws_heldIntS.mono _ _ _)
   | (with_reducible exact LeO.refl _)
   | (with_reducible exact LeO.none _)
   | (with_reducible refine LeO.ite ?_ ?_)
   | (with_reducible refine LeO.bind ?_ (fun _ => ?_))
   | exact ih0 _ _ _
   | exact laws_heldIntS.mono _ _ _
   | exact LeO.none _
   | refine LeO.ite ?_ ?_
   | refine LeO.bind ?_ (fun _ => ?_)
set_option maxHeartbeats 8000000 in
set_option maxRecDepth 100000 in
theorem laws_heldWeightedS.calls (k : Nat) (A0 : Option Addr) (c0 : Nat) (l0 : List (S53)) (a1 : Int) (r : Int) (w : World) (hr0 : Kd.C k53 w A0 l0.length l0) (hc0 : l0.length ≤ c0) (h : laws_heldWeightedS.f k l0 a1 = some r) :
  Calls Try.prog 32 #[.slice A0 l0.length c0, .int .i64 a1] w fun e w' => e = .returned (.int .i64 r) ∧ Drawn0 w w' := by
 have HR0 := xm hr0
 have HC0 := xm hc0
 clear hr0 hc0
 have H : (laws_heldWeightedS.l0 k l0 a1 0) = some r := h
 clear h
 have H' := xm H
 clear H
 go_enter Try.func32, Try.ntmps32
 go_wp2
 go_loopg [1, 5] k (fun kq v1 v5 w' => ∃ (x1_1 : Int) (x5_1 : Int), v1 = .int .i64 x1_1 ∧ v5 = .int .i64 x5_1 ∧ Aside0 (laws_heldWeightedS.l0 kq l0 x1_1 x5_1 = some r) ∧ Aside0 (kq ≤ k) ∧ Drawn0 w w')
 case atStart => exact ⟨(a1), (0), sB, sB, H', ⟨Nat.le_refl _⟩, by repeat (first | exact Drawn0.refl _ | apply Drawn0.step)⟩
 case round =>
  clear H'
  try clear p2
  obtain ⟨x1_1, x5_1, rfl, rfl, HA, HK1, ⟨m1, rfl⟩⟩ := hrel
  cases gk with
  | zero => exact absurd HA.out (by simp [laws_heldWeightedS.l0])
  | succ k1 =>
   have H := HA.out
   clear HA
   simp only [laws_heldWeightedS.l0] at H
   by_cases c3 : x5_1 < (l0.length : Int)
   ·rw [if_pos c3] at H
    have c3b0 : decide (x5_1 < (l0.length : Int)) = true := decide_eq_true c3
    clear c3
    by_cases c4 : 0 ≤ x5_1
    ·rw [if_pos c4] at H
     have c4b0 : decide (0 ≤ x5_1) = true := decide_eq_true c4
     clear c4
     replace H := Option.bind_eq_some_iff.mp H
     obtain ⟨t353, A50, H⟩ := H
     replace H : (if t353 < 0 then (some (-1)) else (if ((rd_T53 l0 x5_1).f1) = t353 then (laws_heldWeightedS.l0 k1 l0 (wrap64 (t353 + 1)) (wrap64 (x5_1 + 1))) else (some (-1)))) = some r := H
     have A5 := xm A50
     clear A50
     by_cases c6 : t353 < 0
     ·rw [if_pos c6] at H
      have c6b0 : decide (t353 < 0) = true := decide_eq_true c6
      clear c6
      obtain rfl := Option.some.inj H
      have p352 : 0 ≤ (x5_1 : Int) := of_decide_eq_true aB
      have q352 : x5_1 < (l0.length : Int) := of_decide_eq_true aB
      obtain ⟨ad352, A352_0, c352_0, e352, hx352_0, hx352_1, hl352_0, hi352_0⟩ := at_T53 HR0.out x5_1 p352 q352
      cases e352
      have HR352_0 := xm hi352_0
      have HC352_0 := xm hl352_0
      clear hi352_0 hl352_0
      replace p352 := eq_true p352
      replace q352 := eq_true q352
      go_wp2_with (first | ((with_reducible refine gate_callee (f := 45) rfl ?_); refine goesL_ (some 19) rfl rfl Try.func45 (by kernel_rfl) rfl #[.slice A352_0 ((rd_T53 l0 x5_1).f0.f0).length c352_0, .int .i64 x1_1] rfl mB ?_; (with_reducible refine (laws_heldIntS.calls k1 _ _ ((rd_T53 l0 x5_1).f0.f0) x1_1 t353 _ ?side1 ?side2 A5.out).mono ?_); (case side1 => repeat (first | exact HR352_0.out | (with_reducible refine Kd.C_alloc ?_ _) | (with_reducible refine Kd.C_drewN ?_ _) | (with_reducible refine Kd.C_drew ?_))); (case side2 => exact HC352_0.out); rintro e w' ⟨rfl, ⟨nd, rfl⟩⟩; refine ⟨_, rfl, ?_⟩))
      go_ret
      exact ⟨sB, dB⟩
     ·rw [if_neg c6] at H
      have c6b0 : decide (t353 < 0) = false := decide_eq_false c6
      clear c6
      by_cases c7 : ((rd_T53 l0 x5_1).f1) = t353
      ·rw [if_pos c7] at H
       have c7b0 : (((rd_T53 l0 x5_1).f1) == t353) = true := beq_iff_eq.mpr c7
       have c7b1 : (((rd_T53 l0 x5_1).f1) != t353) = false := bne_eq_false_iff_eq.mpr c7
       clear c7
       have H' := xm H
       clear H
       have p352 : 0 ≤ (x5_1 : Int) := of_decide_eq_true aB
       have q352 : x5_1 < (l0.length : Int) := of_decide_eq_true aB
       obtain ⟨ad352, A352_0, c352_0, e352, hx352_0, hx352_1, hl352_0, hi352_0⟩ := at_T53 HR0.out x5_1 p352 q352
       cases e352
       have HR352_0 := xm hi352_0
       have HC352_0 := xm hl352_0
       clear hi352_0 hl352_0
       replace p352 := eq_true p352
       replace q352 := eq_true q352
       go_wp2_with (first | ((with_reducible refine gate_callee (f := 45) rfl ?_); refine goesL_ (some 19) rfl rfl Try.func45 (by kernel_rfl) rfl #[.slice A352_0 ((rd_T53 l0 x5_1).f0.f0).length c352_0, .int .i64 x1_1] rfl mB ?_; (with_reducible refine (laws_heldIntS.calls k1 _ _ ((rd_T53 l0 x5_1).f0.f0) x1_1 t353 _ ?side1 ?side2 A5.out).mono ?_); (case side1 => repeat (first | exact HR352_0.out | (with_reducible refine Kd.C_alloc ?_ _) | (with_reducible refine Kd.C_drewN ?_ _) | (with_reducible refine Kd.C_drew ?_))); (case side2 => exact HC352_0.out); rintro e w' ⟨rfl, ⟨nd, rfl⟩⟩; refine ⟨_, rfl, ?_⟩; have p354 : 0 ≤ (x5_1 : Int) := of_decide_eq_true aB; have q354 : x5_1 < (l0.length : Int) := of_decide_eq_true aB; obtain ⟨ad354, A354_0, c354_0, e354, hx354_0, hx354_1, hl354_0, hi354_0⟩ := at_T53 HR0.out x5_1 p354 q354; obtain rfl : ad352 = ad354 := (by injection e354); have HR354_0 := xm hi354_0; have HC354_0 := xm hl354_0; clear hi354_0 hl354_0; replace p354 := eq_true p354; replace q354 := eq_true q354; have ea_ := Option.some.inj (hx352_0.symm.trans hx354_0); injection ea_ with ea_ en_ ec_; subst ea_; subst ec_; clear en_))
       go_roundg k1
       case measure => have := HK1.out; omega
       case rel => exact ⟨(wrap64 (t353 + 1)), (wrap64 (x5_1 + 1)), sB, sB, H', ⟨by have := HK1.out; omega⟩, by repeat (first | exact Drawn0.refl _ | apply Drawn0.step)⟩
      ·rw [if_neg c7] at H
       have c7b0 : (((rd_T53 l0 x5_1).f1) == t353) = false := beq_eq_false_iff_ne.mpr c7
       have c7b1 : (((rd_T53 l0 x5_1).f1) != t353) = true := bne_iff_ne.mpr c7
       obtain rfl := Option.some.inj H
       have p352 : 0 ≤ (x5_1 : Int) := of_decide_eq_true aB
       have q352 : x5_1 < (l0.length : Int) := of_decide_eq_true aB
       obtain ⟨ad352, A352_0, c352_0, e352, hx352_0, hx352_1, hl352_0, hi352_0⟩ := at_T53 HR0.out x5_1 p352 q352
       cases e352
       have HR352_0 := xm hi352_0
       have HC352_0 := xm hl352_0
       clear hi352_0 hl352_0
       replace p352 := eq_true p352
       replace q352 := eq_true q352
       go_wp2_with (first | ((with_reducible refine gate_callee (f := 45) rfl ?_); refine goesL_ (some 19) rfl rfl Try.func45 (by kernel_rfl) rfl #[.slice A352_0 ((rd_T53 l0 x5_1).f0.f0).length c352_0, .int .i64 x1_1] rfl mB ?_; (with_reducible refine (laws_heldIntS.calls k1 _ _ ((rd_T53 l0 x5_1).f0.f0) x1_1 t353 _ ?side1 ?side2 A5.out).mono ?_); (case side1 => repeat (first | exact HR352_0.out | (with_reducible refine Kd.C_alloc ?_ _) | (with_reducible refine Kd.C_drewN ?_ _) | (with_reducible refine Kd.C_drew ?_))); (case side2 => exact HC352_0.out); rintro e w' ⟨rfl, ⟨nd, rfl⟩⟩; refine ⟨_, rfl, ?_⟩; have p354 : 0 ≤ (x5_1 : Int) := of_decide_eq_true aB; have q354 : x5_1 < (l0.length : Int) := of_decide_eq_true aB; obtain ⟨ad354, A354_0, c354_0, e354, hx354_0, hx354_1, hl354_0, hi354_0⟩ := at_T53 HR0.out x5_1 p354 q354; obtain rfl : ad352 = ad354 := (by injection e354); have HR354_0 := xm hi354_0; have HC354_0 := xm hl354_0; clear hi354_0 hl354_0; replace p354 := eq_true p354; replace q354 := eq_true q354; have ea_ := Option.some.inj (hx352_0.symm.trans hx354_0); injection ea_ with ea_ en_ ec_; subst ea_; subst ec_; clear en_))
       go_ret
       exact ⟨sB, dB⟩
    ·rw [if_neg c4] at H
     exact absurd H (by simp)
   ·rw [if_neg c3] at H
    have c3b0 : decide (x5_1 < (l0.length : Int)) = false := decide_eq_false c3
    clear c3
    obtain rfl := Option.some.inj H
    go_wp2
    go_ret
    exact ⟨sB, dB⟩

/-! ### laws_heldTable: function 16 -/
def laws_heldTable.f (k : Nat) (a0_0 : Int) (l0_1 : List (S53)) (a1 : Int) : Option (Int) := (laws_heldWeightedS.f k l0_1 a1).bind fun t356 => (if t356 < 0 then (some (-1)) else (some t356))
theorem laws_heldTable.mono : ∀ a0 a1 a2 k, LeO (laws_heldTable.f k a0 a1 a2) (laws_heldTable.f (k + 1) a0 a1 a2) := by
 intro a0 a1 a2 k
 unfold laws_heldTable.f
 repeat' first
   | (with_reducible exact laws_heldWeightedS.mono _ _ _)
   | (with_reducible exact LeO.refl _)
   | (with_reducible exact LeO.none _)
   | (with_reducible refine LeO.ite ?_ ?_)
   | (with_reducible refine LeO.bind ?_ (fun _ => ?_))
   | exact laws_heldWeightedS.mono _ _ _
   | exact LeO.none _
   | refine LeO.ite ?_ ?_
   | refine LeO.bind ?_ (fun _ => ?_)
set_option maxHeartbeats 8000000 in
set_option maxRecDepth 100000 in
theorem laws_heldTable.calls (k : Nat) (a0_0 : Int) (A0_1 : Option Addr) (c0_1 : Nat) (l0_1 : List (S53)) (a1 : Int) (r : Int) (w : World) (hr0_1 : Kd.C k53 w A0_1 l0_1.length l0_1) (hc0_1 : l0_1.length ≤ c0_1) (h : laws_heldTable.f k a0_0 l0_1 a1 = some r) :
  Calls Try.prog 16 #[.agg #[.int .i64 a0_0, .slice A0_1 l0_1.length c0_1], .int .i64 a1] w fun e w' => e = .returned (.int .i64 r) ∧ Below w.heap.size w w' := by
 have hu30 := Try.underlying30
 have HR0_1 := xm hr0_1
 have HC0_1 := xm hc0_1
 clear hr0_1 hc0_1
 have HB := xm (Below.refl w.heap.size w)
 have H : ((laws_heldWeightedS.f k l0_1 a1).bind fun t356 => (if t356 < 0 then (some (-1)) else (some t356))) = some r := h
 clear h
 replace H := Option.bind_eq_some_iff.mp H
 obtain ⟨t356, A30, H⟩ := H
 replace H : (if t356 < 0 then (some (-1)) else (some t356)) = some r := H
 have A3 := xm A30
 clear A30
 by_cases c4 : t356 < 0
 ·rw [if_pos c4] at H
  have c4b0 : decide (t356 < 0) = true := decide_eq_true c4
  clear c4
  obtain rfl := Option.some.inj H
  go_enter Try.func16, Try.ntmps16
  go_wp2_with (first | ((with_reducible refine gate_dst (N := 2) rfl ?_); refine box_event ?hg (N := 2) ?hd (cs := #[.int .i64 a0_0, .slice A0_1 l0_1.length c0_1]) (t := 30) ?hr ?_; (case hd => rfl); (case hg => rfl); (case hr => exact zB); intro gb355 hg w5 hbox hb; have n0_ := xm (below_step bB hb); have n1_ := xm (hbox); have n2_ := xm ((by rw [hg]; exact (xz bB) : w.heap.size ≤ gb355)); have n3_ := xm ((by rw [hg]; exact (xz bB) : w.heap.size ≤ gb355)); revert n0_ n1_ n2_ n3_; clear HB; intro HB BK355 GW355 GE355; clear hb hbox hg; obtain ⟨hcz6_0, hcz6_1, hfz6_0, hfz6_1⟩ := cz2 BK355.out) | ((with_reducible refine gate_callee (f := 32) rfl ?_); refine goesL_ (some 8) rfl rfl Try.func32 (by kernel_rfl) rfl #[.slice A0_1 l0_1.length c0_1, .int .i64 a1] rfl mB ?_; (with_reducible refine (laws_heldWeightedS.calls k _ _ l0_1 a1 t356 _ ?side1 ?side2 A3.out).mono ?_); (case side1 => exact cB (Kd.C_below HR0_1.out HB.out)); (case side2 => exact HC0_1.out); rintro e w' ⟨rfl, ⟨nd, rfl⟩⟩; refine ⟨_, rfl, ?_⟩))
  go_ret
  exact ⟨eB, bG⟩
 ·rw [if_neg c4] at H
  have c4b0 : decide (t356 < 0) = false := decide_eq_false c4
  clear c4
  obtain rfl := Option.some.inj H
  go_enter Try.func16, Try.ntmps16
  go_wp2_with (first | ((with_reducible refine gate_dst (N := 2) rfl ?_); refine box_event ?hg (N := 2) ?hd (cs := #[.int .i64 a0_0, .slice A0_1 l0_1.length c0_1]) (t := 30) ?hr ?_; (case hd => rfl); (case hg => rfl); (case hr => exact zB); intro gb355 hg w7 hbox hb; have n0_ := xm (below_step bB hb); have n1_ := xm (hbox); have n2_ := xm ((by rw [hg]; exact (xz bB) : w.heap.size ≤ gb355)); have n3_ := xm ((by rw [hg]; exact (xz bB) : w.heap.size ≤ gb355)); revert n0_ n1_ n2_ n3_; clear HB; intro HB BK355 GW355 GE355; clear hb hbox hg; obtain ⟨hcz8_0, hcz8_1, hfz8_0, hfz8_1⟩ := cz2 BK355.out) | ((with_reducible refine gate_callee (f := 32) rfl ?_); refine goesL_ (some 8) rfl rfl Try.func32 (by kernel_rfl) rfl #[.slice A0_1 l0_1.length c0_1, .int .i64 a1] rfl mB ?_; (with_reducible refine (laws_heldWeightedS.calls k _ _ l0_1 a1 t356 _ ?side1 ?side2 A3.out).mono ?_); (case side1 => exact cB (Kd.C_below HR0_1.out HB.out)); (case side2 => exact HC0_1.out); rintro e w' ⟨rfl, ⟨nd, rfl⟩⟩; refine ⟨_, rfl, ?_⟩))
  go_ret
  exact ⟨eB, bG⟩

end Go.Proofs.Ytaddemalepndfah.G
