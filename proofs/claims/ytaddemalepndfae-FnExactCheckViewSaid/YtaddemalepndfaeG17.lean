/- Written by a program of this claim's own, out of the translation: functions of the program as plain functions, and that the calls answer as these. No conditions. -/
import Derived.Test.YtaddemalepndfaeG0
import Derived.Test.YtaddemalepndfaeG16
namespace Go.Proofs.Ytaddemalepndfae.G
open Go.RowKit Go.Proofs.Ytaddemalepndfae.X Go.Proofs.YtaddemalepndfaeW.PrintWords Go.Proofs.YtaddemalepndfaeW.PrintLast Go.Proofs.YtaddemalepndfaeW.PrintMore
attribute [local go_sem] max2_int min2_int max_two min_two max_three min_three max_four min_four   -- for this text's walks alone
set_option linter.unusedVariables false
set_option linter.unusedSimpArgs false

/-! ### laws_markTestS: function 36 -/
def laws_markTestS.l0 : Nat → List (S71) → Int → Int → Option (Int × (List (S71)))
 | 0, _, _, _ => none
 | k + 1, x0, x1, x5 => if x5 < (x0.length : Int) then (if 0 ≤ x5 then ((some (x0.set (x5 : Int).toNat (⟨x1, (rd_T71 x0 x5).f1, (rd_T71 x0 x5).f2⟩ : S71) : List (S71))).bind fun y298 => ((some (y298.set (x5 : Int).toNat (⟨(rd_T71 y298 x5).f0, wrap64 (x1 + 1), (rd_T71 y298 x5).f2⟩ : S71) : List (S71))).bind fun y299 => (laws_markTestS.l0 k (y299.set (x5 : Int).toNat (⟨(rd_T71 y299 x5).f0, (rd_T71 y299 x5).f1, wrap64 ((wrap64 (x1 + 1)) + 1)⟩ : S71)) (wrap64 ((wrap64 ((wrap64 (x1 + 1)) + 1)) + 1)) (wrap64 (x5 + 1))))) else (none)) else (some (x1, x0))
def laws_markTestS.f (k : Nat) (l0 : List (S71)) (a1 : Int) : Option (Int × (List (S71))) := laws_markTestS.l0 k l0 a1 0
theorem laws_markTestS.mono_l : ∀ k, (∀ y0 y1 y2, LeO (laws_markTestS.l0 k y0 y1 y2) (laws_markTestS.l0 (k + 1) y0 y1 y2))
 | 0 => fun _ _ _ r h => by simp [laws_markTestS.l0] at h
 | k + 1 => by
  have ih0 := laws_markTestS.mono_l k
  ·intro y0 y1 y2
   unfold laws_markTestS.l0
   repeat' first
   | (with_reducible exact ih0 _ _ _)
   | (with_reducible exact LeO.refl _)
   | (with_reducible exact LeO.none _)
   | (with_reducible refine LeO.ite ?_ ?_)
   | (with_reducible refine LeO.bind ?_ (fun _ => ?_))
   | exact ih0 _ _ _
   | exact LeO.none _
   | refine LeO.ite ?_ ?_
   | refine LeO.bind ?_ (fun _ => ?_)
theorem laws_markTestS.mono : ∀ a0 a1 k, LeO (laws_markTestS.f k a0 a1) (laws_markTestS.f (k + 1) a0 a1) := by
 intro a0 a1 k
 have ih0 := laws_markTestS.mono_l k
 unfold laws_markTestS.f
 repeat' first
   | (with_reducible exact ih0 _ _ _)
   | (with_reducible exact LeO.refl _)
   | (with_reducible exact LeO.none _)
   | (with_reducible refine LeO.ite ?_ ?_)
   | (with_reducible refine LeO.bind ?_ (fun _ => ?_))
   | exact ih0 _ _ _
   | exact LeO.none _
   | refine LeO.ite ?_ ?_
   | refine LeO.bind ?_ (fun _ => ?_)
set_option maxHeartbeats 8000000 in
set_option maxRecDepth 100000 in
theorem laws_markTestS.calls (k : Nat) (P0_ : Nat → Prop) (u9000_ : Value) (l0 : List (S71)) (a1 : Int) (r1 : Int) (r2 : List (S71)) (w0 w : World) (hB : Below w0.heap.size w0 w) (ho0 : Kd.R k71 71 w w0.heap.size P0_ u9000_ l0) (h : laws_markTestS.f k l0 a1 = some (r1, r2)) :
  Calls Try.prog 36 #[u9000_, .int .i64 a1] w fun e w' => e = .returned (.int .i64 r1) ∧ Kd.R k71 71 w' w0.heap.size (fun k_ => (P0_ k_ ∨ w.heap.size ≤ k_)) u9000_ r2 ∧ Below w0.heap.size w0 w' ∧ Kept w w' (fun k_ => P0_ k_) := by
 have HO0 := xm (show Kd.R k71 71 w w0.heap.size (fun k_ => (P0_ k_ ∨ w.heap.size ≤ k_)) u9000_ l0 from Kd.R_mono ho0 (fun k_ hk => (.inl hk)))
 have HK := xm (Kept.refl w (fun k_ => P0_ k_))
 have HW0 := xm hB.size
 have HB := xm hB
 clear hB
 have H : (laws_markTestS.l0 k l0 a1 0) = some (r1, r2) := h
 clear h
 have H' := xm H
 clear H
 go_enter Try.func36, Try.ntmps36
 go_wp2
 go_loopg [1, 5] k (fun kq v1 v5 w' => ∃ (x0_1 : List (S71)) (x1_1 : Int) (x5_1 : Int), v1 = .int .i64 x1_1 ∧ v5 = .int .i64 x5_1 ∧ Aside0 (laws_markTestS.l0 kq x0_1 x1_1 x5_1 = some (r1, r2)) ∧ Aside0 (kq ≤ k) ∧ Aside0 (Kd.R k71 71 w' w0.heap.size (fun k_ => (P0_ k_ ∨ w.heap.size ≤ k_)) u9000_ x0_1) ∧ Aside0 (Kept w w' (fun k_ => P0_ k_)) ∧ Aside0 (Below w0.heap.size w0 w'))
 case atStart => exact ⟨(l0), (a1), (0), sB, sB, H', ⟨Nat.le_refl _⟩, ⟨rB HO0⟩, ⟨by repeat (first | (with_reducible first | exact HK.out | apply Kept.alloc | apply Kept.drewN | apply Kept.drew) | exact HK.out)⟩, ⟨bG⟩⟩
 case round =>
  clear H'
  try clear p2
  obtain ⟨x0_1, x1_1, x5_1, rfl, rfl, HA, HK1, HO_0, HK, HB⟩ := hrel
  cases gk with
  | zero => exact absurd HA.out (by simp [laws_markTestS.l0])
  | succ k1 =>
   have H := HA.out
   clear HA
   simp only [laws_markTestS.l0] at H
   by_cases c3 : x5_1 < (x0_1.length : Int)
   ·rw [if_pos c3] at H
    have c3b0 : decide (x5_1 < (x0_1.length : Int)) = true := decide_eq_true c3
    clear c3
    by_cases c4 : 0 ≤ x5_1
    ·rw [if_pos c4] at H
     have c4b0 : decide (0 ≤ x5_1) = true := decide_eq_true c4
     clear c4
     obtain ⟨y298, hy298⟩ : ∃ y_ : List (S71), y_ = (x0_1.set (x5_1 : Int).toNat (⟨x1_1, (rd_T71 x0_1 x5_1).f1, (rd_T71 x0_1 x5_1).f2⟩ : S71)) := ⟨_, rfl⟩
     replace H : ((some (y298.set (x5_1 : Int).toNat (⟨(rd_T71 y298 x5_1).f0, wrap64 (x1_1 + 1), (rd_T71 y298 x5_1).f2⟩ : S71) : List (S71))).bind fun y299 => (laws_markTestS.l0 k1 (y299.set (x5_1 : Int).toNat (⟨(rd_T71 y299 x5_1).f0, (rd_T71 y299 x5_1).f1, wrap64 ((wrap64 (x1_1 + 1)) + 1)⟩ : S71)) (wrap64 ((wrap64 ((wrap64 (x1_1 + 1)) + 1)) + 1)) (wrap64 (x5_1 + 1)))) = some (r1, r2) := by first | (rw [hy298]; with_reducible exact H) | (have H2_ := (Option.bind_some _ _).symm.trans H; rw [hy298]; with_reducible exact H2_) | (have H2_ := (Option.bind_some _ _).symm.trans H; with_reducible exact H2_) | with_reducible exact H | (rw [hy298]; exact H) | exact H
     have Ny298 := xm hy298
     clear hy298
     obtain ⟨y299, hy299⟩ : ∃ y_ : List (S71), y_ = (y298.set (x5_1 : Int).toNat (⟨(rd_T71 y298 x5_1).f0, wrap64 (x1_1 + 1), (rd_T71 y298 x5_1).f2⟩ : S71)) := ⟨_, rfl⟩
     replace H : (laws_markTestS.l0 k1 (y299.set (x5_1 : Int).toNat (⟨(rd_T71 y299 x5_1).f0, (rd_T71 y299 x5_1).f1, wrap64 ((wrap64 (x1_1 + 1)) + 1)⟩ : S71)) (wrap64 ((wrap64 ((wrap64 (x1_1 + 1)) + 1)) + 1)) (wrap64 (x5_1 + 1))) = some (r1, r2) := by first | (rw [hy299]; with_reducible exact H) | (have H2_ := (Option.bind_some _ _).symm.trans H; rw [hy299]; with_reducible exact H2_) | (have H2_ := (Option.bind_some _ _).symm.trans H; with_reducible exact H2_) | with_reducible exact H | (rw [hy299]; exact H) | exact H
     have Ny299 := xm hy299
     clear hy299
     obtain ⟨y300, hy300⟩ : ∃ y_ : List (S71), y_ = (y299.set (x5_1 : Int).toNat (⟨(rd_T71 y299 x5_1).f0, (rd_T71 y299 x5_1).f1, wrap64 ((wrap64 (x1_1 + 1)) + 1)⟩ : S71)) := ⟨_, rfl⟩
     replace H : (laws_markTestS.l0 k1 y300 (wrap64 ((wrap64 ((wrap64 (x1_1 + 1)) + 1)) + 1)) (wrap64 (x5_1 + 1))) = some (r1, r2) := by first | (rw [hy300]; with_reducible exact H) | (have H2_ := (Option.bind_some _ _).symm.trans H; rw [hy300]; with_reducible exact H2_) | (have H2_ := (Option.bind_some _ _).symm.trans H; with_reducible exact H2_) | with_reducible exact H | (rw [hy300]; exact H) | exact H
     have Ny300 := xm hy300
     clear hy300
     have H' := xm H
     clear H
     obtain ⟨Ao8, co8, eo8⟩ := Kd.R_slice HO_0.out
     subst eo8
     have p5 : 0 ≤ (x5_1 : Int) := of_decide_eq_true aB
     have q5 : (x5_1 : Int) < ((x0_1.length : Int) : Int) := of_decide_eq_true aB
     obtain ⟨go5, co5, eo5, gb5, gl5, cl5, HG5⟩ := Kd.R_form HO_0.out (by omega)
     (first | cases eo5 | (injection eo5 with ea_ en_ ec_; (first | subst ea_ | (injection ea_ with ea_; subst ea_)); subst ec_; clear en_))
     have GB5 := xm gb5
     have GG5 := xm HG5
     clear gb5 gl5 HG5
     have HMgo5 := xm (show (P0_ go5 ∨ w.heap.size ≤ go5) from (HO_0.out.1 _ rfl))
     obtain ⟨ce5, hcl5, hM5, hcc5, hfr5⟩ := Kd.R_elem HO_0.out z71 (x5_1 : Int) p5 q5
     obtain rfl := k71_openM hM5
     have hx5_0 : wr.cell? ⟨go5, (x5_1 : Int).toNat * 3, none⟩ = some (.int .i64 ((rd_T71 x0_1 x5_1).f0)) := hcc5 0 _ rfl
     have hx5_1 : wr.cell? ⟨go5, (x5_1 : Int).toNat * 3 + 1, none⟩ = some (.int .i64 ((rd_T71 x0_1 x5_1).f1)) := hcc5 1 _ rfl
     have hx5_2 : wr.cell? ⟨go5, (x5_1 : Int).toNat * 3 + 2, none⟩ = some (.int .i64 ((rd_T71 x0_1 x5_1).f2)) := hcc5 2 _ rfl
     have hf5_0 : wr.frozen? ⟨go5, (x5_1 : Int).toNat * 3, none⟩ = false := hfr5 0
     have hf5_1 : wr.frozen? ⟨go5, (x5_1 : Int).toNat * 3 + 1, none⟩ = false := hfr5 1
     have hf5_2 : wr.frozen? ⟨go5, (x5_1 : Int).toNat * 3 + 2, none⟩ = false := hfr5 2
     (try clear hM5); clear hcl5 hcc5 hfr5
     replace p5 := eq_true p5
     replace q5 := eq_true q5
     have HX9 := xm (show Kd.R k71 71 wr w0.heap.size (fun k_ => (P0_ k_ ∨ w.heap.size ≤ k_)) (.slice (some ⟨go5, 0, none⟩) x0_1.length co8) x0_1 from (rB HO_0))
     obtain ⟨ce9, hcl9, hM9, hcc9, hfr9⟩ := Kd.R_elem HX9.out z71 (x5_1 : Int) (of_decide_eq_true aB) (by have h_ : (x5_1 : Int) < ((x0_1.length : Int) : Int) := of_decide_eq_true aB; first | exact h_ | (have e_ := (Kd.R_reads' HO_0.out).1; omega) | simpa using h_)
     obtain rfl := k71_openM hM9
     have HP9 := Kd.R_seg HX9.out (x5_1 : Int) (of_decide_eq_true aB) (by have h_ : (x5_1 : Int) < ((x0_1.length : Int) : Int) := of_decide_eq_true aB; first | exact h_ | (have e_ := (Kd.R_reads' HO_0.out).1; omega) | simpa using h_) (seg := [.int .i64 x1_1]) (j := 0) hcl9 hcc9 (show 1 ≤ 3 from by decide) (x' := (⟨x1_1, (rd_T71 x0_1 x5_1).f1, (rd_T71 x0_1 x5_1).f2⟩ : S71)) (k71_mkM _ _ _ (⟨x1_1, (rd_T71 x0_1 x5_1).f1, (rd_T71 x0_1 x5_1).f2⟩ : S71) ) (fun _ hk => hk)
     have hx9_0 := hcc9 0 _ rfl
     (try simp only [show (k71).sz = 3 from rfl, Nat.mul_one, Nat.add_zero] at hx9_0)
     have hf9_0 := hfr9 0
     (try simp only [show (k71).sz = 3 from rfl, Nat.mul_one, Nat.add_zero] at hf9_0)
     (try clear hM9); clear hcl9 hcc9 hfr9
     go_wp2_with (first | ((with_reducible refine gate_store (t := 3) (p := 16) rfl ?_); refine store_event (t := 3) (p := 16) (v := ?vo_w10) (w1 := (wr.setCell ⟨go5, (x5_1 : Int).toNat * 3, none⟩ (.int .i64 x1_1))) ?hg ?ho ?hn ?hr ?_; (case ho => rfl); (case hg => rfl); (case hn => rfl); (case hr => exact zB); intro w10 hw; have hg : wr.grownBy w10 (some go5) := (by rw [hw]; exact HP9.2); have hp_ : Kd.R k71 71 w10 w0.heap.size (fun k_ => (P0_ k_ ∨ w.heap.size ≤ k_)) (.slice (some ⟨go5, 0, none⟩) x0_1.length co8) y298 := (by rw [hw, Ny298.out]; exact HP9.1); clear HP9; have n0_ := xm (hp_); have n1_ := xm ((by rw [hw]; exact xt (HB.out) GB5.out : Below w0.heap.size w0 w10)); have n2_ := xm (Kept.of_grown (S := (fun k_ => P0_ k_)) hg (by repeat (first | (with_reducible first | exact HK.out | apply Kept.alloc | apply Kept.drewN | apply Kept.drew) | exact HK.out)) (fun k_ e_ => (HO_0.out.1 k_ e_))); revert n0_ n1_ n2_; clear HO_0 HB HK; intro HO_0 HB HK; clear hg hw hp_; have p6 : 0 ≤ (x5_1 : Int) := of_decide_eq_true aB; have q6 : (x5_1 : Int) < ((x0_1.length : Int) : Int) := of_decide_eq_true aB; obtain ⟨ce6, hcl6, hM6, hcc6, hfr6⟩ := Kd.R_elem HO_0.out z71 (x5_1 : Int) p6 q6; obtain rfl := k71_openM hM6; have hx6_0 : w10.cell? ⟨go5, (x5_1 : Int).toNat * 3, none⟩ = some (.int .i64 ((rd_T71 y298 x5_1).f0)) := hcc6 0 _ rfl; have hx6_1 : w10.cell? ⟨go5, (x5_1 : Int).toNat * 3 + 1, none⟩ = some (.int .i64 ((rd_T71 y298 x5_1).f1)) := hcc6 1 _ rfl; have hx6_2 : w10.cell? ⟨go5, (x5_1 : Int).toNat * 3 + 2, none⟩ = some (.int .i64 ((rd_T71 y298 x5_1).f2)) := hcc6 2 _ rfl; have hf6_0 : w10.frozen? ⟨go5, (x5_1 : Int).toNat * 3, none⟩ = false := hfr6 0; have hf6_1 : w10.frozen? ⟨go5, (x5_1 : Int).toNat * 3 + 1, none⟩ = false := hfr6 1; have hf6_2 : w10.frozen? ⟨go5, (x5_1 : Int).toNat * 3 + 2, none⟩ = false := hfr6 2; (try clear hM6); clear hcl6 hcc6 hfr6; replace p6 := eq_true p6; replace q6 := eq_true q6; have HX11 := xm (show Kd.R k71 71 w10 w0.heap.size (fun k_ => (P0_ k_ ∨ w.heap.size ≤ k_)) (.slice (some ⟨go5, 0, none⟩) x0_1.length co8) y298 from (rB HO_0)); obtain ⟨ce11, hcl11, hM11, hcc11, hfr11⟩ := Kd.R_elem HX11.out z71 (x5_1 : Int) (of_decide_eq_true aB) (by have h_ : (x5_1 : Int) < ((x0_1.length : Int) : Int) := of_decide_eq_true aB; first | exact h_ | (have e_ := (Kd.R_reads' HO_0.out).1; omega) | simpa using h_); obtain rfl := k71_openM hM11; have HP11 := Kd.R_seg HX11.out (x5_1 : Int) (of_decide_eq_true aB) (by have h_ : (x5_1 : Int) < ((x0_1.length : Int) : Int) := of_decide_eq_true aB; first | exact h_ | (have e_ := (Kd.R_reads' HO_0.out).1; omega) | simpa using h_) (seg := [.int .i64 (wrap64 (x1_1 + 1))]) (j := 1) hcl11 hcc11 (show 2 ≤ 3 from by decide) (x' := (⟨(rd_T71 y298 x5_1).f0, wrap64 (x1_1 + 1), (rd_T71 y298 x5_1).f2⟩ : S71)) (k71_mkM _ _ _ (⟨(rd_T71 y298 x5_1).f0, wrap64 (x1_1 + 1), (rd_T71 y298 x5_1).f2⟩ : S71) ) (fun _ hk => hk); have hx11_1 := hcc11 1 _ rfl; (try simp only [show (k71).sz = 3 from rfl, Nat.mul_one, Nat.add_zero] at hx11_1); have hf11_1 := hfr11 1; (try simp only [show (k71).sz = 3 from rfl, Nat.mul_one, Nat.add_zero] at hf11_1); (try clear hM11); clear hcl11 hcc11 hfr11) | ((with_reducible refine gate_store (t := 3) (p := 23) rfl ?_); refine store_event (t := 3) (p := 23) (v := ?vo_w12) (w1 := (w10.setCell ⟨go5, (x5_1 : Int).toNat * 3 + 1, none⟩ (.int .i64 (wrap64 (x1_1 + 1))))) ?hg ?ho ?hn ?hr ?_; (case ho => rfl); (case hg => rfl); (case hn => rfl); (case hr => exact zB); intro w12 hw; have hg : w10.grownBy w12 (some go5) := (by rw [hw]; exact HP11.2); have hp_ : Kd.R k71 71 w12 w0.heap.size (fun k_ => (P0_ k_ ∨ w.heap.size ≤ k_)) (.slice (some ⟨go5, 0, none⟩) x0_1.length co8) y299 := (by rw [hw, Ny299.out]; exact HP11.1); clear HP11; have n0_ := xm (hp_); have n1_ := xm ((by rw [hw]; exact xt (HB.out) GB5.out : Below w0.heap.size w0 w12)); have n2_ := xm (Kept.of_grown (S := (fun k_ => P0_ k_)) hg (by repeat (first | (with_reducible first | exact HK.out | apply Kept.alloc | apply Kept.drewN | apply Kept.drew) | exact HK.out)) (fun k_ e_ => (HO_0.out.1 k_ e_))); revert n0_ n1_ n2_; clear HO_0 HB HK; intro HO_0 HB HK; clear hg hw hp_; have p7 : 0 ≤ (x5_1 : Int) := of_decide_eq_true aB; have q7 : (x5_1 : Int) < ((x0_1.length : Int) : Int) := of_decide_eq_true aB; obtain ⟨ce7, hcl7, hM7, hcc7, hfr7⟩ := Kd.R_elem HO_0.out z71 (x5_1 : Int) p7 q7; obtain rfl := k71_openM hM7; have hx7_0 : w12.cell? ⟨go5, (x5_1 : Int).toNat * 3, none⟩ = some (.int .i64 ((rd_T71 y299 x5_1).f0)) := hcc7 0 _ rfl; have hx7_1 : w12.cell? ⟨go5, (x5_1 : Int).toNat * 3 + 1, none⟩ = some (.int .i64 ((rd_T71 y299 x5_1).f1)) := hcc7 1 _ rfl; have hx7_2 : w12.cell? ⟨go5, (x5_1 : Int).toNat * 3 + 2, none⟩ = some (.int .i64 ((rd_T71 y299 x5_1).f2)) := hcc7 2 _ rfl; have hf7_0 : w12.frozen? ⟨go5, (x5_1 : Int).toNat * 3, none⟩ = false := hfr7 0; have hf7_1 : w12.frozen? ⟨go5, (x5_1 : Int).toNat * 3 + 1, none⟩ = false := hfr7 1; have hf7_2 : w12.frozen? ⟨go5, (x5_1 : Int).toNat * 3 + 2, none⟩ = false := hfr7 2; (try clear hM7); clear hcl7 hcc7 hfr7; replace p7 := eq_true p7; replace q7 := eq_true q7; have HX13 := xm (show Kd.R k71 71 w12 w0.heap.size (fun k_ => (P0_ k_ ∨ w.heap.size ≤ k_)) (.slice (some ⟨go5, 0, none⟩) x0_1.length co8) y299 from (rB HO_0)); obtain ⟨ce13, hcl13, hM13, hcc13, hfr13⟩ := Kd.R_elem HX13.out z71 (x5_1 : Int) (of_decide_eq_true aB) (by have h_ : (x5_1 : Int) < ((x0_1.length : Int) : Int) := of_decide_eq_true aB; first | exact h_ | (have e_ := (Kd.R_reads' HO_0.out).1; omega) | simpa using h_); obtain rfl := k71_openM hM13; have HP13 := Kd.R_seg HX13.out (x5_1 : Int) (of_decide_eq_true aB) (by have h_ : (x5_1 : Int) < ((x0_1.length : Int) : Int) := of_decide_eq_true aB; first | exact h_ | (have e_ := (Kd.R_reads' HO_0.out).1; omega) | simpa using h_) (seg := [.int .i64 (wrap64 ((wrap64 (x1_1 + 1)) + 1))]) (j := 2) hcl13 hcc13 (show 3 ≤ 3 from by decide) (x' := (⟨(rd_T71 y299 x5_1).f0, (rd_T71 y299 x5_1).f1, wrap64 ((wrap64 (x1_1 + 1)) + 1)⟩ : S71)) (k71_mkM _ _ _ (⟨(rd_T71 y299 x5_1).f0, (rd_T71 y299 x5_1).f1, wrap64 ((wrap64 (x1_1 + 1)) + 1)⟩ : S71) ) (fun _ hk => hk); have hx13_2 := hcc13 2 _ rfl; (try simp only [show (k71).sz = 3 from rfl, Nat.mul_one, Nat.add_zero] at hx13_2); have hf13_2 := hfr13 2; (try simp only [show (k71).sz = 3 from rfl, Nat.mul_one, Nat.add_zero] at hf13_2); (try clear hM13); clear hcl13 hcc13 hfr13) | ((with_reducible refine gate_store (t := 3) (p := 30) rfl ?_); refine store_event (t := 3) (p := 30) (v := ?vo_w14) (w1 := (w12.setCell ⟨go5, (x5_1 : Int).toNat * 3 + 2, none⟩ (.int .i64 (wrap64 ((wrap64 (x1_1 + 1)) + 1))))) ?hg ?ho ?hn ?hr ?_; (case ho => rfl); (case hg => rfl); (case hn => rfl); (case hr => exact zB); intro w14 hw; have hg : w12.grownBy w14 (some go5) := (by rw [hw]; exact HP13.2); have hp_ : Kd.R k71 71 w14 w0.heap.size (fun k_ => (P0_ k_ ∨ w.heap.size ≤ k_)) (.slice (some ⟨go5, 0, none⟩) x0_1.length co8) y300 := (by rw [hw, Ny300.out]; exact HP13.1); clear HP13; have n0_ := xm (hp_); have n1_ := xm ((by rw [hw]; exact xt (HB.out) GB5.out : Below w0.heap.size w0 w14)); have n2_ := xm (Kept.of_grown (S := (fun k_ => P0_ k_)) hg (by repeat (first | (with_reducible first | exact HK.out | apply Kept.alloc | apply Kept.drewN | apply Kept.drew) | exact HK.out)) (fun k_ e_ => (HO_0.out.1 k_ e_))); revert n0_ n1_ n2_; clear HO_0 HB HK; intro HO_0 HB HK; clear hg hw hp_))
     go_roundg k1
     case measure => have := HK1.out; omega
     case rel => exact ⟨(y300), (wrap64 ((wrap64 ((wrap64 (x1_1 + 1)) + 1)) + 1)), (wrap64 (x5_1 + 1)), sB, sB, H', ⟨by have := HK1.out; omega⟩, ⟨rB HO_0⟩, ⟨by repeat (first | (with_reducible first | exact HK.out | apply Kept.alloc | apply Kept.drewN | apply Kept.drew) | exact HK.out)⟩, ⟨bG⟩⟩
    ·rw [if_neg c4] at H
     exact absurd H (by simp)
   ·rw [if_neg c3] at H
    have c3b0 : decide (x5_1 < (x0_1.length : Int)) = false := decide_eq_false c3
    clear c3
    simp only [Option.some.injEq, Prod.mk.injEq] at H
    obtain ⟨rfl, rfl⟩ := H
    obtain ⟨Ao15, co15, eo15⟩ := Kd.R_slice HO_0.out
    subst eo15
    go_wp2
    go_ret
    exact ⟨eB, rB HO_0, bG, by repeat (first | (with_reducible first | exact HK.out | apply Kept.alloc | apply Kept.drewN | apply Kept.drew) | exact HK.out)⟩

/-! ### laws_markIntSS: function 37 -/
def laws_markIntSS.f (q : Nat) : List (List Int) → Int → Option (Int × List (List Int))
 | [], a => some (a, [])
 | x :: xs, a => (laws_markIntS.f q x a).bind fun t1 => (laws_markIntSS.f q xs t1.1).bind fun s => some (s.1, t1.2 :: s.2)
theorem laws_markIntSS.mono : ∀ a0 a1 k, LeO (laws_markIntSS.f k a0 a1) (laws_markIntSS.f (k + 1) a0 a1)
 | [], _, _ => LeO.refl _
 | x :: xs, a, k => by
  unfold laws_markIntSS.f
  repeat' first | exact LeO.refl _ | exact laws_markIntS.mono _ _ _ | exact laws_markIntSS.mono xs _ _ | refine LeO.bind ?_ (fun _ => ?_)
set_option maxHeartbeats 8000000 in
set_option maxRecDepth 100000 in
theorem laws_markIntSS.calls (k : Nat) (P0_ : Nat → Prop) (u9000_ : Value) (l0 : List (List Int)) (a1 : Int) (r1 : Int) (r2 : List (List Int)) (w0 w : World) (hB : Below w0.heap.size w0 w) (ho0 : Kd.S (Kd.slice 3 (Kd.int .i64)) 22 w w0.heap.size P0_ u9000_ l0) (h : laws_markIntSS.f k l0 a1 = some (r1, r2)) :
  Calls Try.prog 37 #[u9000_, .int .i64 a1] w fun e w' => e = .returned (.int .i64 r1) ∧ Kd.S (Kd.slice 3 (Kd.int .i64)) 22 w' w0.heap.size P0_ u9000_ r2 ∧ Below w0.heap.size w0 w' ∧ Kept w w' P0_ := by
 obtain ⟨A0, c0, rfl⟩ := Kd.S_slice ho0
 have HS0 := xm ho0
 have HB0 := xm hB
 have HK0 := xm (Kept.refl w P0_)
 have H0 := xm h
 have hlen := (Kd.S_reads' ho0).2.2.2.1
 clear ho0 hB h
 go_enter Try.func37, Try.ntmps37
 go_wp2
 go_loopg [1, 5] l0.length (fun kq v1 v5 w' => ∃ (ys zs ws : List (List Int)) (b x5 : Int), v1 = .int .i64 b ∧ v5 = .int .i64 x5 ∧ Aside0 (x5 = ys.length) ∧ Aside0 (ys.length + zs.length = l0.length) ∧ Aside0 (zs.length ≤ kq) ∧ Aside0 (laws_markIntSS.f k zs b = some (r1, ws)) ∧ Aside0 (r2 = ys ++ ws) ∧ Aside0 (Kd.S (Kd.slice 3 (Kd.int .i64)) 22 w' w0.heap.size P0_ (.slice A0 l0.length c0) (ys ++ zs)) ∧ Aside0 (Kept w w' P0_) ∧ Aside0 (Below w0.heap.size w0 w'))
 case atStart => exact ⟨[], l0, r2, a1, 0, rfl, rfl, ⟨rfl⟩, ⟨by simp⟩, ⟨Nat.le_refl _⟩, H0, ⟨rfl⟩, HS0, HK0, HB0⟩
 case round =>
  clear HS0 HK0 HB0 H0
  obtain ⟨ys, zs, ws, b, x5, rfl, rfl, hx5, hyz, hzk, HF, HR, HS, HK, HB⟩ := hrel
  have h50 := hx5.out
  have h51 := hyz.out
  cases zs with
  | nil =>
   have hc : decide (x5 < (l0.length : Int)) = false := decide_eq_false (by simp at h51; omega)
   have hf := HF.out
   unfold laws_markIntSS.f at hf
   simp only [Option.some.injEq, Prod.mk.injEq] at hf
   obtain ⟨rfl, rfl⟩ := hf
   have HR2 := HR.out
   rw [List.append_nil] at HR2
   subst HR2
   have HS2 := HS.out
   rw [List.append_nil] at HS2
   have HS3 := xm HS2
   clear HS2 HS HF HR h50 h51 hx5 hyz hzk
   go_wp2
   go_ret
   exact ⟨rfl, HS3.out, HB.out, HK.out⟩
  | cons x zs =>
   have hzc : (x :: zs).length = zs.length + 1 := rfl
   have hc : decide (x5 < (l0.length : Int)) = true := decide_eq_true (by omega)
   have hf := HF.out
   unfold laws_markIntSS.f at hf
   obtain ⟨⟨t1_1, t1_2⟩, hAt1, hf⟩ := Option.bind_eq_some_iff.mp hf
   obtain ⟨⟨s_1, s_2⟩, hN, hf⟩ := Option.bind_eq_some_iff.mp hf
   simp only [Option.some.injEq, Prod.mk.injEq] at hf
   obtain ⟨rfl, hws⟩ := hf
   have HN := xm hN
   have HW := xm hws
   clear hN hws HF
   have HAt1 := xm hAt1
   clear hAt1
   obtain ⟨go, co, eo, gb, _, _⟩ := Kd.S_form HS.out (by rw [List.length_append]; omega)
   (injection eo with ea_ en_ ec_; subst ea_; subst ec_; clear en_)
   have hi0 : 0 ≤ x5 := by omega
   have hi1 : x5 < (l0.length : Int) := by omega
   have hit : x5.toNat = ys.length := by omega
   have hset : ∀ y z : (List Int), (ys ++ y :: zs).set x5.toNat z = ys ++ z :: zs := fun y z => by rw [hit]; simp
   have hget : ∀ (y z : (List Int)), (ys ++ y :: zs).getD x5.toNat z = y := fun y z => by rw [hit]; simp
   have HI := xm (And.intro hi0 (And.intro hi1 (And.intro gb (And.intro hset hget))))
   have HL5 := xm (And.intro h50 (And.intro h51 (And.intro hzc hlen)))
   clear hit hset hget gb h50 h51 hzc
   obtain ⟨oki, ce, hcl, hM, hcc, hfr, hoki, hH⟩ := Kd.S_elem HS.out [] x5 HI.out.1 HI.out.2.1
   rw [HI.out.2.2.2.2] at hM
   obtain ⟨v0, rfl, g0⟩ := hM
   obtain ⟨Ai, ci, ei⟩ := Kd.R_slice g0
   subst ei
   have hx0 : wr.cell? ⟨go, x5.toNat, none⟩ = some (.slice Ai x.length ci) := (by have z_ := hcc 0 _ rfl; (try simp only [show ((Kd.slice 3 (Kd.int .i64))).sz = 1 from rfl, Nat.mul_one, Nat.add_zero] at z_); exact z_)
   have hz0 : wr.frozen? ⟨go, x5.toNat, none⟩ = false := (by have z_ := hfr 0; (try simp only [show ((Kd.slice 3 (Kd.int .i64))).sz = 1 from rfl, Nat.mul_one, Nat.add_zero] at z_); exact z_)
   have HH := xm hH
   have HG := xm g0
   have HO := xm hoki
   have HC := xm hcl
   (try clear hM)
   clear hcl hcc hfr hoki hH g0
   go_wp2_with (go_at_call 11; refine (laws_markIntS.calls k (fun k_ => some k_ = (.slice Ai x.length ci : Value).ownBlock) (.slice Ai x.length ci) x b t1_1 t1_2 w0 _ HB.out (Kd.R_tight rfl HG.out) HAt1.out).mono ?_; rintro e w1_ ⟨rfl, hy, hb, hkp⟩; have n0_ := xm (by rw [← HI.out.2.2.2.1 x t1_2]; exact Kd.H_back (x' := t1_2) (Kd.H_step HH.out (fun k_ _ hn_ hlt_ => hkp.2 k_ hlt_ (fun hs_ => hn_ (HG.out.1 k_ hs_.symm)))) (⟨_, rfl, Kd.R_reok rfl hy (fun k_ e_ => HG.out.1 k_ e_)⟩) (fun _ h_ => h_) : Kd.S (Kd.slice 3 (Kd.int .i64)) 22 w1_ w0.heap.size P0_ (.slice (some ⟨go, 0, none⟩) l0.length c0) (ys ++ t1_2 :: zs)); have n1_ := xm (Kept.then_ HK.out hkp (fun k_ hs_ => .inl (HO.out k_ (HG.out.1 k_ hs_.symm)).1)); have n2_ := xm hb; clear HS HK HB hb hkp hy HH HG HO HC hx0 hz0; revert n0_ n1_ n2_; intro HS HK HB)
   go_wp2
   go_roundg zs.length
   case measure => have z_ := hzk.out; simp at z_; omega
   case rel =>
    have hw5 : wrap64 (x5 + 1) = x5 + 1 := by have := HL5.out; unfold wrap64; omega
    refine ⟨ys ++ [t1_2], zs, s_2, t1_1, wrap64 (x5 + 1), sB, sB, ⟨?_⟩, ⟨?_⟩, ⟨Nat.le_refl _⟩, HN, ⟨?_⟩, ⟨?_⟩, HK, HB⟩
    ·rw [hw5, HL5.out.1]; simp
    ·have := HL5.out; simp; omega
    ·rw [HR.out, ← HW.out]; simp
    ·have z_ := HS.out; simpa using z_

/-! ### laws_markPartS: function 24 -/
def laws_markPartS.f (q : Nat) : List S47 → Int → Option (Int × List S47)
 | [], a => some (a, [])
 | x :: xs, a => (laws_markTestS.f q x.f3 (wrap64 (wrap64 (wrap64 (a + 1) + 1) + 1))).bind fun t1 => (laws_markIntS.f q x.f4 t1.1).bind fun t2 => (laws_markIntSS.f q x.f5 t2.1).bind fun t3 => (laws_markPartS.f q xs t3.1).bind fun s => some (s.1, (⟨a, wrap64 (a + 1), wrap64 (wrap64 (a + 1) + 1), t1.2, t2.2, t3.2⟩ : S47) :: s.2)
theorem laws_markPartS.mono : ∀ a0 a1 k, LeO (laws_markPartS.f k a0 a1) (laws_markPartS.f (k + 1) a0 a1)
 | [], _, _ => LeO.refl _
 | x :: xs, a, k => by
  unfold laws_markPartS.f
  repeat' first | exact LeO.refl _ | exact laws_markTestS.mono _ _ _ | exact laws_markIntS.mono _ _ _ | exact laws_markIntSS.mono _ _ _ | exact laws_markPartS.mono xs _ _ | refine LeO.bind ?_ (fun _ => ?_)
set_option maxHeartbeats 8000000 in
set_option maxRecDepth 100000 in
theorem laws_markPartS.calls (k : Nat) (P0_ : Nat → Prop) (u9000_ : Value) (l0 : List S47) (a1 : Int) (r1 : Int) (r2 : List S47) (w0 w : World) (hB : Below w0.heap.size w0 w) (ho0 : Kd.S kP47 47 w w0.heap.size P0_ u9000_ l0) (h : laws_markPartS.f k l0 a1 = some (r1, r2)) :
  Calls Try.prog 24 #[u9000_, .int .i64 a1] w fun e w' => e = .returned (.int .i64 r1) ∧ Kd.S kP47 47 w' w0.heap.size P0_ u9000_ r2 ∧ Below w0.heap.size w0 w' ∧ Kept w w' P0_ := by
 obtain ⟨A0, c0, rfl⟩ := Kd.S_slice ho0
 have HS0 := xm ho0
 have HB0 := xm hB
 have HK0 := xm (Kept.refl w P0_)
 have H0 := xm h
 have hlen := (Kd.S_reads' ho0).2.2.2.1
 clear ho0 hB h
 go_enter Try.func24, Try.ntmps24
 go_wp2
 go_loopg [1, 5] l0.length (fun kq v1 v5 w' => ∃ (ys zs ws : List S47) (b x5 : Int), v1 = .int .i64 b ∧ v5 = .int .i64 x5 ∧ Aside0 (x5 = ys.length) ∧ Aside0 (ys.length + zs.length = l0.length) ∧ Aside0 (zs.length ≤ kq) ∧ Aside0 (laws_markPartS.f k zs b = some (r1, ws)) ∧ Aside0 (r2 = ys ++ ws) ∧ Aside0 (Kd.S kP47 47 w' w0.heap.size P0_ (.slice A0 l0.length c0) (ys ++ zs)) ∧ Aside0 (Kept w w' P0_) ∧ Aside0 (Below w0.heap.size w0 w'))
 case atStart => exact ⟨[], l0, r2, a1, 0, rfl, rfl, ⟨rfl⟩, ⟨by simp⟩, ⟨Nat.le_refl _⟩, H0, ⟨rfl⟩, HS0, HK0, HB0⟩
 case round =>
  clear HS0 HK0 HB0 H0
  obtain ⟨ys, zs, ws, b, x5, rfl, rfl, hx5, hyz, hzk, HF, HR, HS, HK, HB⟩ := hrel
  have h50 := hx5.out
  have h51 := hyz.out
  cases zs with
  | nil =>
   have hc : decide (x5 < (l0.length : Int)) = false := decide_eq_false (by simp at h51; omega)
   have hf := HF.out
   unfold laws_markPartS.f at hf
   simp only [Option.some.injEq, Prod.mk.injEq] at hf
   obtain ⟨rfl, rfl⟩ := hf
   have HR2 := HR.out
   rw [List.append_nil] at HR2
   subst HR2
   have HS2 := HS.out
   rw [List.append_nil] at HS2
   have HS3 := xm HS2
   clear HS2 HS HF HR h50 h51 hx5 hyz hzk
   go_wp2
   go_ret
   exact ⟨rfl, HS3.out, HB.out, HK.out⟩
  | cons x zs =>
   have hzc : (x :: zs).length = zs.length + 1 := rfl
   have hc : decide (x5 < (l0.length : Int)) = true := decide_eq_true (by omega)
   have hf := HF.out
   unfold laws_markPartS.f at hf
   obtain ⟨⟨t1_1, t1_2⟩, hAt1, hf⟩ := Option.bind_eq_some_iff.mp hf
   obtain ⟨⟨t2_1, t2_2⟩, hAt2, hf⟩ := Option.bind_eq_some_iff.mp hf
   obtain ⟨⟨t3_1, t3_2⟩, hAt3, hf⟩ := Option.bind_eq_some_iff.mp hf
   obtain ⟨⟨s_1, s_2⟩, hN, hf⟩ := Option.bind_eq_some_iff.mp hf
   simp only [Option.some.injEq, Prod.mk.injEq] at hf
   obtain ⟨rfl, hws⟩ := hf
   have HN := xm hN
   have HW := xm hws
   clear hN hws HF
   have HAt1 := xm hAt1
   clear hAt1
   have HAt2 := xm hAt2
   clear hAt2
   have HAt3 := xm hAt3
   clear hAt3
   obtain ⟨go, co, eo, gb, _, _⟩ := Kd.S_form HS.out (by rw [List.length_append]; omega)
   (injection eo with ea_ en_ ec_; subst ea_; subst ec_; clear en_)
   have hi0 : 0 ≤ x5 := by omega
   have hi1 : x5 < (l0.length : Int) := by omega
   have hit : x5.toNat = ys.length := by omega
   have hset : ∀ y z : S47, (ys ++ y :: zs).set x5.toNat z = ys ++ z :: zs := fun y z => by rw [hit]; simp
   have hget : ∀ (y z : S47), (ys ++ y :: zs).getD x5.toNat z = y := fun y z => by rw [hit]; simp
   have HI := xm (And.intro hi0 (And.intro hi1 (And.intro gb (And.intro hset hget))))
   have HL5 := xm (And.intro h50 (And.intro h51 (And.intro hzc hlen)))
   clear hit hset hget gb h50 h51 hzc
   obtain ⟨oki, ce, hcl, hM, hcc, hfr, hoki, hH⟩ := Kd.S_elem HS.out z47 x5 HI.out.1 HI.out.2.1
   rw [HI.out.2.2.2.2] at hM
   obtain ⟨v3, v4, v5, T3, T4, T5, rfl, ⟨a3, a4, a5⟩, ⟨d3_4, d3_5, d4_5⟩, g3, g4, g5⟩ := hM
   obtain ⟨A3, c3, ei3⟩ := Kd.R_slice g3
   subst ei3
   obtain ⟨A4, c4, ei4⟩ := Kd.R_slice g4
   subst ei4
   obtain ⟨A5, c5, ei5⟩ := Kd.S_slice g5
   subst ei5
   have hx0 : wr.cell? ⟨go, x5.toNat * 6, none⟩ = some (.int .i64 x.f0) := (by have z_ := hcc 0 _ rfl; (try simp only [show (kP47).sz = 6 from rfl, Nat.mul_one, Nat.add_zero] at z_); exact z_)
   have hx1 : wr.cell? ⟨go, x5.toNat * 6 + 1, none⟩ = some (.int .i64 x.f1) := (by have z_ := hcc 1 _ rfl; (try simp only [show (kP47).sz = 6 from rfl, Nat.mul_one, Nat.add_zero] at z_); exact z_)
   have hx2 : wr.cell? ⟨go, x5.toNat * 6 + 2, none⟩ = some (.int .i64 x.f2) := (by have z_ := hcc 2 _ rfl; (try simp only [show (kP47).sz = 6 from rfl, Nat.mul_one, Nat.add_zero] at z_); exact z_)
   have hx3 : wr.cell? ⟨go, x5.toNat * 6 + 3, none⟩ = some (.slice A3 x.f3.length c3) := (by have z_ := hcc 3 _ rfl; (try simp only [show (kP47).sz = 6 from rfl, Nat.mul_one, Nat.add_zero] at z_); exact z_)
   have hx4 : wr.cell? ⟨go, x5.toNat * 6 + 4, none⟩ = some (.slice A4 x.f4.length c4) := (by have z_ := hcc 4 _ rfl; (try simp only [show (kP47).sz = 6 from rfl, Nat.mul_one, Nat.add_zero] at z_); exact z_)
   have hx5 : wr.cell? ⟨go, x5.toNat * 6 + 5, none⟩ = some (.slice A5 x.f5.length c5) := (by have z_ := hcc 5 _ rfl; (try simp only [show (kP47).sz = 6 from rfl, Nat.mul_one, Nat.add_zero] at z_); exact z_)
   have hz0 : wr.frozen? ⟨go, x5.toNat * 6, none⟩ = false := (by have z_ := hfr 0; (try simp only [show (kP47).sz = 6 from rfl, Nat.mul_one, Nat.add_zero] at z_); exact z_)
   have hz1 : wr.frozen? ⟨go, x5.toNat * 6 + 1, none⟩ = false := (by have z_ := hfr 1; (try simp only [show (kP47).sz = 6 from rfl, Nat.mul_one, Nat.add_zero] at z_); exact z_)
   have hz2 : wr.frozen? ⟨go, x5.toNat * 6 + 2, none⟩ = false := (by have z_ := hfr 2; (try simp only [show (kP47).sz = 6 from rfl, Nat.mul_one, Nat.add_zero] at z_); exact z_)
   have hz3 : wr.frozen? ⟨go, x5.toNat * 6 + 3, none⟩ = false := (by have z_ := hfr 3; (try simp only [show (kP47).sz = 6 from rfl, Nat.mul_one, Nat.add_zero] at z_); exact z_)
   have hz4 : wr.frozen? ⟨go, x5.toNat * 6 + 4, none⟩ = false := (by have z_ := hfr 4; (try simp only [show (kP47).sz = 6 from rfl, Nat.mul_one, Nat.add_zero] at z_); exact z_)
   have hz5 : wr.frozen? ⟨go, x5.toNat * 6 + 5, none⟩ = false := (by have z_ := hfr 5; (try simp only [show (kP47).sz = 6 from rfl, Nat.mul_one, Nat.add_zero] at z_); exact z_)
   have HH := xm hH
   have HG3 := xm g3
   have HG4 := xm g4
   have HG5 := xm g5
   have HO := xm hoki
   have HT3 := xm a3
   have HT4 := xm a4
   have HT5 := xm a5
   have HD3_4 := xm d3_4
   have HD3_5 := xm d3_5
   have HD4_5 := xm d4_5
   clear hcl hcc hfr hoki hH g3 g4 g5 a3 a4 a5 d3_4 d3_5 d4_5
   go_wp2_with (first
    | ((with_reducible refine gate_store (t := 3) (p := 16) rfl ?_); refine store_event (t := 3) (p := 16) (v := ?vo1) (w1 := (wr.setCell ⟨go, x5.toNat * 6, none⟩ (.int .i64 b))) ?hg ?ho ?hn ?hr ?_; (case ho => rfl); (case hg => rfl); (case hn => rfl); (case hr => exact zB); intro w1_ hw; have hs2 := Kd.H_seg HH.out HI.out.1 HI.out.2.1 (seg := [.int .i64 b]) (j := 0) (by show 0 + 1 ≤ 6; decide) (fun q_ hq_ => by rw [List.mem_singleton.1 hq_]; rfl); have hg : wr.grownBy w1_ (some go) := (by rw [hw]; exact hs2.2); have hH2 : Kd.H kP47 47 w1_ w0.heap.size P0_ (.slice (some ⟨go, 0, none⟩) l0.length c0) (ys ++ (⟨x.f0, x.f1, x.f2, x.f3, x.f4, x.f5⟩ : S47) :: zs) x5 oki [.int .i64 b, .int .i64 x.f1, .int .i64 x.f2, .slice A3 x.f3.length c3, .slice A4 x.f4.length c4, .slice A5 x.f5.length c5] := (by rw [hw]; exact hs2.1); have n0_ := xm (by rw [← HI.out.2.2.2.1 (⟨x.f0, x.f1, x.f2, x.f3, x.f4, x.f5⟩ : S47) (⟨b, x.f1, x.f2, x.f3, x.f4, x.f5⟩ : S47)]; exact Kd.H_back (x' := (⟨b, x.f1, x.f2, x.f3, x.f4, x.f5⟩ : S47)) hH2 (show kP47.M w1_ w0.heap.size oki (⟨b, x.f1, x.f2, x.f3, x.f4, x.f5⟩ : S47) _ from ⟨(.slice A3 x.f3.length c3), (.slice A4 x.f4.length c4), (.slice A5 x.f5.length c5), T3, T4, T5, rfl, ⟨HT3.out, HT4.out, HT5.out⟩, ⟨HD3_4.out, HD3_5.out, HD4_5.out⟩, Kd.R_grown HG3.out hg (fun k_ hk_ e_ => (HO.out k_ (HT3.out k_ hk_)).2 (by injection e_)), Kd.R_grown HG4.out hg (fun k_ hk_ e_ => (HO.out k_ (HT4.out k_ hk_)).2 (by injection e_)), Kd.S_grown HG5.out hg (fun k_ hk_ e_ => (HO.out k_ (HT5.out k_ hk_)).2 (by injection e_))⟩) (fun _ h_ => h_) : Kd.S kP47 47 w1_ w0.heap.size P0_ (.slice (some ⟨go, 0, none⟩) l0.length c0) (ys ++ (⟨b, x.f1, x.f2, x.f3, x.f4, x.f5⟩ : S47) :: zs)); have n1_ := xm (Kept.of_grown hg HK.out (fun k_ e_ => .inl (by have z_ := (Kd.S_R HS.out).1 go rfl; injection e_ with e_; rw [← e_]; exact z_))); have n2_ := xm ((by rw [hw]; exact xt HB.out HI.out.2.2.1) : Below w0.heap.size w0 w1_); clear hs2 hg hH2 hw HS HK HB HH HO HG3 HG4 HG5 HT3 HT4 HT5 HD3_4 HD3_5 HD4_5 hx0 hz0 hx1 hz1 hx2 hz2 hx3 hz3 hx4 hz4 hx5 hz5; revert n0_ n1_ n2_; intro HS HK HB; obtain ⟨oki, ce, hcl, hM, hcc, hfr, hoki, hH⟩ := Kd.S_elem HS.out z47 x5 HI.out.1 HI.out.2.1; rw [HI.out.2.2.2.2] at hM; obtain ⟨v3, v4, v5, T3, T4, T5, rfl, ⟨a3, a4, a5⟩, ⟨d3_4, d3_5, d4_5⟩, g3, g4, g5⟩ := hM; obtain ⟨A3, c3, ei3⟩ := Kd.R_slice g3; subst ei3; obtain ⟨A4, c4, ei4⟩ := Kd.R_slice g4; subst ei4; obtain ⟨A5, c5, ei5⟩ := Kd.S_slice g5; subst ei5; have hx0 : w1_.cell? ⟨go, x5.toNat * 6, none⟩ = some (.int .i64 b) := (by have z_ := hcc 0 _ rfl; (try simp only [show (kP47).sz = 6 from rfl, Nat.mul_one, Nat.add_zero] at z_); exact z_); have hx1 : w1_.cell? ⟨go, x5.toNat * 6 + 1, none⟩ = some (.int .i64 x.f1) := (by have z_ := hcc 1 _ rfl; (try simp only [show (kP47).sz = 6 from rfl, Nat.mul_one, Nat.add_zero] at z_); exact z_); have hx2 : w1_.cell? ⟨go, x5.toNat * 6 + 2, none⟩ = some (.int .i64 x.f2) := (by have z_ := hcc 2 _ rfl; (try simp only [show (kP47).sz = 6 from rfl, Nat.mul_one, Nat.add_zero] at z_); exact z_); have hx3 : w1_.cell? ⟨go, x5.toNat * 6 + 3, none⟩ = some (.slice A3 x.f3.length c3) := (by have z_ := hcc 3 _ rfl; (try simp only [show (kP47).sz = 6 from rfl, Nat.mul_one, Nat.add_zero] at z_); exact z_); have hx4 : w1_.cell? ⟨go, x5.toNat * 6 + 4, none⟩ = some (.slice A4 x.f4.length c4) := (by have z_ := hcc 4 _ rfl; (try simp only [show (kP47).sz = 6 from rfl, Nat.mul_one, Nat.add_zero] at z_); exact z_); have hx5 : w1_.cell? ⟨go, x5.toNat * 6 + 5, none⟩ = some (.slice A5 x.f5.length c5) := (by have z_ := hcc 5 _ rfl; (try simp only [show (kP47).sz = 6 from rfl, Nat.mul_one, Nat.add_zero] at z_); exact z_); have hz0 : w1_.frozen? ⟨go, x5.toNat * 6, none⟩ = false := (by have z_ := hfr 0; (try simp only [show (kP47).sz = 6 from rfl, Nat.mul_one, Nat.add_zero] at z_); exact z_); have hz1 : w1_.frozen? ⟨go, x5.toNat * 6 + 1, none⟩ = false := (by have z_ := hfr 1; (try simp only [show (kP47).sz = 6 from rfl, Nat.mul_one, Nat.add_zero] at z_); exact z_); have hz2 : w1_.frozen? ⟨go, x5.toNat * 6 + 2, none⟩ = false := (by have z_ := hfr 2; (try simp only [show (kP47).sz = 6 from rfl, Nat.mul_one, Nat.add_zero] at z_); exact z_); have hz3 : w1_.frozen? ⟨go, x5.toNat * 6 + 3, none⟩ = false := (by have z_ := hfr 3; (try simp only [show (kP47).sz = 6 from rfl, Nat.mul_one, Nat.add_zero] at z_); exact z_); have hz4 : w1_.frozen? ⟨go, x5.toNat * 6 + 4, none⟩ = false := (by have z_ := hfr 4; (try simp only [show (kP47).sz = 6 from rfl, Nat.mul_one, Nat.add_zero] at z_); exact z_); have hz5 : w1_.frozen? ⟨go, x5.toNat * 6 + 5, none⟩ = false := (by have z_ := hfr 5; (try simp only [show (kP47).sz = 6 from rfl, Nat.mul_one, Nat.add_zero] at z_); exact z_); have HH := xm hH; have HG3 := xm g3; have HG4 := xm g4; have HG5 := xm g5; have HO := xm hoki; have HT3 := xm a3; have HT4 := xm a4; have HT5 := xm a5; have HD3_4 := xm d3_4; have HD3_5 := xm d3_5; have HD4_5 := xm d4_5; clear hcl hcc hfr hoki hH g3 g4 g5 a3 a4 a5 d3_4 d3_5 d4_5)
    | ((with_reducible refine gate_store (t := 3) (p := 23) rfl ?_); refine store_event (t := 3) (p := 23) (v := ?vo2) (w1 := (w1_.setCell ⟨go, x5.toNat * 6 + 1, none⟩ (.int .i64 (wrap64 (b + 1))))) ?hg ?ho ?hn ?hr ?_; (case ho => rfl); (case hg => rfl); (case hn => rfl); (case hr => exact zB); intro w2_ hw; have hs2 := Kd.H_seg HH.out HI.out.1 HI.out.2.1 (seg := [.int .i64 (wrap64 (b + 1))]) (j := 1) (by show 1 + 1 ≤ 6; decide) (fun q_ hq_ => by rw [List.mem_singleton.1 hq_]; rfl); have hg : w1_.grownBy w2_ (some go) := (by rw [hw]; exact hs2.2); have hH2 : Kd.H kP47 47 w2_ w0.heap.size P0_ (.slice (some ⟨go, 0, none⟩) l0.length c0) (ys ++ (⟨b, x.f1, x.f2, x.f3, x.f4, x.f5⟩ : S47) :: zs) x5 oki [.int .i64 b, .int .i64 (wrap64 (b + 1)), .int .i64 x.f2, .slice A3 x.f3.length c3, .slice A4 x.f4.length c4, .slice A5 x.f5.length c5] := (by rw [hw]; exact hs2.1); have n0_ := xm (by rw [← HI.out.2.2.2.1 (⟨b, x.f1, x.f2, x.f3, x.f4, x.f5⟩ : S47) (⟨b, wrap64 (b + 1), x.f2, x.f3, x.f4, x.f5⟩ : S47)]; exact Kd.H_back (x' := (⟨b, wrap64 (b + 1), x.f2, x.f3, x.f4, x.f5⟩ : S47)) hH2 (show kP47.M w2_ w0.heap.size oki (⟨b, wrap64 (b + 1), x.f2, x.f3, x.f4, x.f5⟩ : S47) _ from ⟨(.slice A3 x.f3.length c3), (.slice A4 x.f4.length c4), (.slice A5 x.f5.length c5), T3, T4, T5, rfl, ⟨HT3.out, HT4.out, HT5.out⟩, ⟨HD3_4.out, HD3_5.out, HD4_5.out⟩, Kd.R_grown HG3.out hg (fun k_ hk_ e_ => (HO.out k_ (HT3.out k_ hk_)).2 (by injection e_)), Kd.R_grown HG4.out hg (fun k_ hk_ e_ => (HO.out k_ (HT4.out k_ hk_)).2 (by injection e_)), Kd.S_grown HG5.out hg (fun k_ hk_ e_ => (HO.out k_ (HT5.out k_ hk_)).2 (by injection e_))⟩) (fun _ h_ => h_) : Kd.S kP47 47 w2_ w0.heap.size P0_ (.slice (some ⟨go, 0, none⟩) l0.length c0) (ys ++ (⟨b, wrap64 (b + 1), x.f2, x.f3, x.f4, x.f5⟩ : S47) :: zs)); have n1_ := xm (Kept.of_grown hg HK.out (fun k_ e_ => .inl (by have z_ := (Kd.S_R HS.out).1 go rfl; injection e_ with e_; rw [← e_]; exact z_))); have n2_ := xm ((by rw [hw]; exact xt HB.out HI.out.2.2.1) : Below w0.heap.size w0 w2_); clear hs2 hg hH2 hw HS HK HB HH HO HG3 HG4 HG5 HT3 HT4 HT5 HD3_4 HD3_5 HD4_5 hx0 hz0 hx1 hz1 hx2 hz2 hx3 hz3 hx4 hz4 hx5 hz5; revert n0_ n1_ n2_; intro HS HK HB; obtain ⟨oki, ce, hcl, hM, hcc, hfr, hoki, hH⟩ := Kd.S_elem HS.out z47 x5 HI.out.1 HI.out.2.1; rw [HI.out.2.2.2.2] at hM; obtain ⟨v3, v4, v5, T3, T4, T5, rfl, ⟨a3, a4, a5⟩, ⟨d3_4, d3_5, d4_5⟩, g3, g4, g5⟩ := hM; obtain ⟨A3, c3, ei3⟩ := Kd.R_slice g3; subst ei3; obtain ⟨A4, c4, ei4⟩ := Kd.R_slice g4; subst ei4; obtain ⟨A5, c5, ei5⟩ := Kd.S_slice g5; subst ei5; have hx0 : w2_.cell? ⟨go, x5.toNat * 6, none⟩ = some (.int .i64 b) := (by have z_ := hcc 0 _ rfl; (try simp only [show (kP47).sz = 6 from rfl, Nat.mul_one, Nat.add_zero] at z_); exact z_); have hx1 : w2_.cell? ⟨go, x5.toNat * 6 + 1, none⟩ = some (.int .i64 (wrap64 (b + 1))) := (by have z_ := hcc 1 _ rfl; (try simp only [show (kP47).sz = 6 from rfl, Nat.mul_one, Nat.add_zero] at z_); exact z_); have hx2 : w2_.cell? ⟨go, x5.toNat * 6 + 2, none⟩ = some (.int .i64 x.f2) := (by have z_ := hcc 2 _ rfl; (try simp only [show (kP47).sz = 6 from rfl, Nat.mul_one, Nat.add_zero] at z_); exact z_); have hx3 : w2_.cell? ⟨go, x5.toNat * 6 + 3, none⟩ = some (.slice A3 x.f3.length c3) := (by have z_ := hcc 3 _ rfl; (try simp only [show (kP47).sz = 6 from rfl, Nat.mul_one, Nat.add_zero] at z_); exact z_); have hx4 : w2_.cell? ⟨go, x5.toNat * 6 + 4, none⟩ = some (.slice A4 x.f4.length c4) := (by have z_ := hcc 4 _ rfl; (try simp only [show (kP47).sz = 6 from rfl, Nat.mul_one, Nat.add_zero] at z_); exact z_); have hx5 : w2_.cell? ⟨go, x5.toNat * 6 + 5, none⟩ = some (.slice A5 x.f5.length c5) := (by have z_ := hcc 5 _ rfl; (try simp only [show (kP47).sz = 6 from rfl, Nat.mul_one, Nat.add_zero] at z_); exact z_); have hz0 : w2_.frozen? ⟨go, x5.toNat * 6, none⟩ = false := (by have z_ := hfr 0; (try simp only [show (kP47).sz = 6 from rfl, Nat.mul_one, Nat.add_zero] at z_); exact z_); have hz1 : w2_.frozen? ⟨go, x5.toNat * 6 + 1, none⟩ = false := (by have z_ := hfr 1; (try simp only [show (kP47).sz = 6 from rfl, Nat.mul_one, Nat.add_zero] at z_); exact z_); have hz2 : w2_.frozen? ⟨go, x5.toNat * 6 + 2, none⟩ = false := (by have z_ := hfr 2; (try simp only [show (kP47).sz = 6 from rfl, Nat.mul_one, Nat.add_zero] at z_); exact z_); have hz3 : w2_.frozen? ⟨go, x5.toNat * 6 + 3, none⟩ = false := (by have z_ := hfr 3; (try simp only [show (kP47).sz = 6 from rfl, Nat.mul_one, Nat.add_zero] at z_); exact z_); have hz4 : w2_.frozen? ⟨go, x5.toNat * 6 + 4, none⟩ = false := (by have z_ := hfr 4; (try simp only [show (kP47).sz = 6 from rfl, Nat.mul_one, Nat.add_zero] at z_); exact z_); have hz5 : w2_.frozen? ⟨go, x5.toNat * 6 + 5, none⟩ = false := (by have z_ := hfr 5; (try simp only [show (kP47).sz = 6 from rfl, Nat.mul_one, Nat.add_zero] at z_); exact z_); have HH := xm hH; have HG3 := xm g3; have HG4 := xm g4; have HG5 := xm g5; have HO := xm hoki; have HT3 := xm a3; have HT4 := xm a4; have HT5 := xm a5; have HD3_4 := xm d3_4; have HD3_5 := xm d3_5; have HD4_5 := xm d4_5; clear hcl hcc hfr hoki hH g3 g4 g5 a3 a4 a5 d3_4 d3_5 d4_5)
    | ((with_reducible refine gate_store (t := 3) (p := 30) rfl ?_); refine store_event (t := 3) (p := 30) (v := ?vo3) (w1 := (w2_.setCell ⟨go, x5.toNat * 6 + 2, none⟩ (.int .i64 (wrap64 (wrap64 (b + 1) + 1))))) ?hg ?ho ?hn ?hr ?_; (case ho => rfl); (case hg => rfl); (case hn => rfl); (case hr => exact zB); intro w3_ hw; have hs2 := Kd.H_seg HH.out HI.out.1 HI.out.2.1 (seg := [.int .i64 (wrap64 (wrap64 (b + 1) + 1))]) (j := 2) (by show 2 + 1 ≤ 6; decide) (fun q_ hq_ => by rw [List.mem_singleton.1 hq_]; rfl); have hg : w2_.grownBy w3_ (some go) := (by rw [hw]; exact hs2.2); have hH2 : Kd.H kP47 47 w3_ w0.heap.size P0_ (.slice (some ⟨go, 0, none⟩) l0.length c0) (ys ++ (⟨b, wrap64 (b + 1), x.f2, x.f3, x.f4, x.f5⟩ : S47) :: zs) x5 oki [.int .i64 b, .int .i64 (wrap64 (b + 1)), .int .i64 (wrap64 (wrap64 (b + 1) + 1)), .slice A3 x.f3.length c3, .slice A4 x.f4.length c4, .slice A5 x.f5.length c5] := (by rw [hw]; exact hs2.1); have n0_ := xm (by rw [← HI.out.2.2.2.1 (⟨b, wrap64 (b + 1), x.f2, x.f3, x.f4, x.f5⟩ : S47) (⟨b, wrap64 (b + 1), wrap64 (wrap64 (b + 1) + 1), x.f3, x.f4, x.f5⟩ : S47)]; exact Kd.H_back (x' := (⟨b, wrap64 (b + 1), wrap64 (wrap64 (b + 1) + 1), x.f3, x.f4, x.f5⟩ : S47)) hH2 (show kP47.M w3_ w0.heap.size oki (⟨b, wrap64 (b + 1), wrap64 (wrap64 (b + 1) + 1), x.f3, x.f4, x.f5⟩ : S47) _ from ⟨(.slice A3 x.f3.length c3), (.slice A4 x.f4.length c4), (.slice A5 x.f5.length c5), T3, T4, T5, rfl, ⟨HT3.out, HT4.out, HT5.out⟩, ⟨HD3_4.out, HD3_5.out, HD4_5.out⟩, Kd.R_grown HG3.out hg (fun k_ hk_ e_ => (HO.out k_ (HT3.out k_ hk_)).2 (by injection e_)), Kd.R_grown HG4.out hg (fun k_ hk_ e_ => (HO.out k_ (HT4.out k_ hk_)).2 (by injection e_)), Kd.S_grown HG5.out hg (fun k_ hk_ e_ => (HO.out k_ (HT5.out k_ hk_)).2 (by injection e_))⟩) (fun _ h_ => h_) : Kd.S kP47 47 w3_ w0.heap.size P0_ (.slice (some ⟨go, 0, none⟩) l0.length c0) (ys ++ (⟨b, wrap64 (b + 1), wrap64 (wrap64 (b + 1) + 1), x.f3, x.f4, x.f5⟩ : S47) :: zs)); have n1_ := xm (Kept.of_grown hg HK.out (fun k_ e_ => .inl (by have z_ := (Kd.S_R HS.out).1 go rfl; injection e_ with e_; rw [← e_]; exact z_))); have n2_ := xm ((by rw [hw]; exact xt HB.out HI.out.2.2.1) : Below w0.heap.size w0 w3_); clear hs2 hg hH2 hw HS HK HB HH HO HG3 HG4 HG5 HT3 HT4 HT5 HD3_4 HD3_5 HD4_5 hx0 hz0 hx1 hz1 hx2 hz2 hx3 hz3 hx4 hz4 hx5 hz5; revert n0_ n1_ n2_; intro HS HK HB; obtain ⟨oki, ce, hcl, hM, hcc, hfr, hoki, hH⟩ := Kd.S_elem HS.out z47 x5 HI.out.1 HI.out.2.1; rw [HI.out.2.2.2.2] at hM; obtain ⟨v3, v4, v5, T3, T4, T5, rfl, ⟨a3, a4, a5⟩, ⟨d3_4, d3_5, d4_5⟩, g3, g4, g5⟩ := hM; obtain ⟨A3, c3, ei3⟩ := Kd.R_slice g3; subst ei3; obtain ⟨A4, c4, ei4⟩ := Kd.R_slice g4; subst ei4; obtain ⟨A5, c5, ei5⟩ := Kd.S_slice g5; subst ei5; have hx0 : w3_.cell? ⟨go, x5.toNat * 6, none⟩ = some (.int .i64 b) := (by have z_ := hcc 0 _ rfl; (try simp only [show (kP47).sz = 6 from rfl, Nat.mul_one, Nat.add_zero] at z_); exact z_); have hx1 : w3_.cell? ⟨go, x5.toNat * 6 + 1, none⟩ = some (.int .i64 (wrap64 (b + 1))) := (by have z_ := hcc 1 _ rfl; (try simp only [show (kP47).sz = 6 from rfl, Nat.mul_one, Nat.add_zero] at z_); exact z_); have hx2 : w3_.cell? ⟨go, x5.toNat * 6 + 2, none⟩ = some (.int .i64 (wrap64 (wrap64 (b + 1) + 1))) := (by have z_ := hcc 2 _ rfl; (try simp only [show (kP47).sz = 6 from rfl, Nat.mul_one, Nat.add_zero] at z_); exact z_); have hx3 : w3_.cell? ⟨go, x5.toNat * 6 + 3, none⟩ = some (.slice A3 x.f3.length c3) := (by have z_ := hcc 3 _ rfl; (try simp only [show (kP47).sz = 6 from rfl, Nat.mul_one, Nat.add_zero] at z_); exact z_); have hx4 : w3_.cell? ⟨go, x5.toNat * 6 + 4, none⟩ = some (.slice A4 x.f4.length c4) := (by have z_ := hcc 4 _ rfl; (try simp only [show (kP47).sz = 6 from rfl, Nat.mul_one, Nat.add_zero] at z_); exact z_); have hx5 : w3_.cell? ⟨go, x5.toNat * 6 + 5, none⟩ = some (.slice A5 x.f5.length c5) := (by have z_ := hcc 5 _ rfl; (try simp only [show (kP47).sz = 6 from rfl, Nat.mul_one, Nat.add_zero] at z_); exact z_); have hz0 : w3_.frozen? ⟨go, x5.toNat * 6, none⟩ = false := (by have z_ := hfr 0; (try simp only [show (kP47).sz = 6 from rfl, Nat.mul_one, Nat.add_zero] at z_); exact z_); have hz1 : w3_.frozen? ⟨go, x5.toNat * 6 + 1, none⟩ = false := (by have z_ := hfr 1; (try simp only [show (kP47).sz = 6 from rfl, Nat.mul_one, Nat.add_zero] at z_); exact z_); have hz2 : w3_.frozen? ⟨go, x5.toNat * 6 + 2, none⟩ = false := (by have z_ := hfr 2; (try simp only [show (kP47).sz = 6 from rfl, Nat.mul_one, Nat.add_zero] at z_); exact z_); have hz3 : w3_.frozen? ⟨go, x5.toNat * 6 + 3, none⟩ = false := (by have z_ := hfr 3; (try simp only [show (kP47).sz = 6 from rfl, Nat.mul_one, Nat.add_zero] at z_); exact z_); have hz4 : w3_.frozen? ⟨go, x5.toNat * 6 + 4, none⟩ = false := (by have z_ := hfr 4; (try simp only [show (kP47).sz = 6 from rfl, Nat.mul_one, Nat.add_zero] at z_); exact z_); have hz5 : w3_.frozen? ⟨go, x5.toNat * 6 + 5, none⟩ = false := (by have z_ := hfr 5; (try simp only [show (kP47).sz = 6 from rfl, Nat.mul_one, Nat.add_zero] at z_); exact z_); have HH := xm hH; have HG3 := xm g3; have HG4 := xm g4; have HG5 := xm g5; have HO := xm hoki; have HT3 := xm a3; have HT4 := xm a4; have HT5 := xm a5; have HD3_4 := xm d3_4; have HD3_5 := xm d3_5; have HD4_5 := xm d4_5; clear hcl hcc hfr hoki hH g3 g4 g5 a3 a4 a5 d3_4 d3_5 d4_5)
    | (go_at_call 36; (with_reducible refine (laws_markTestS.calls k (fun k_ => some k_ = (.slice A3 x.f3.length c3 : Value).ownBlock) (.slice A3 x.f3.length c3) x.f3 (wrap64 (wrap64 (wrap64 (b + 1) + 1) + 1)) t1_1 t1_2 w0 _ HB.out (Kd.R_tight rfl HG3.out) HAt1.out).mono ?_); rintro e w4_ ⟨rfl, hy, hb, hkp⟩; have n0_ := xm (by rw [← HI.out.2.2.2.1 (⟨b, wrap64 (b + 1), wrap64 (wrap64 (b + 1) + 1), x.f3, x.f4, x.f5⟩ : S47) (⟨b, wrap64 (b + 1), wrap64 (wrap64 (b + 1) + 1), t1_2, x.f4, x.f5⟩ : S47)]; exact Kd.H_back (x' := (⟨b, wrap64 (b + 1), wrap64 (wrap64 (b + 1) + 1), t1_2, x.f4, x.f5⟩ : S47)) (Kd.H_step HH.out (fun k_ _ hn_ hlt_ => hkp.2 k_ hlt_ (fun hs_ => hn_ (HT3.out k_ (HG3.out.1 k_ hs_.symm))))) (show kP47.M w4_ w0.heap.size oki (⟨b, wrap64 (b + 1), wrap64 (wrap64 (b + 1) + 1), t1_2, x.f4, x.f5⟩ : S47) _ from ⟨(.slice A3 x.f3.length c3), (.slice A4 x.f4.length c4), (.slice A5 x.f5.length c5), T3, T4, T5, rfl, ⟨HT3.out, HT4.out, HT5.out⟩, ⟨HD3_4.out, HD3_5.out, HD4_5.out⟩, Kd.R_reok rfl hy (fun k_ e_ => HG3.out.1 k_ e_), Kd.R_kept HG4.out hkp (fun k_ h_ hs_ => (fun k_ h_ h2_ => HD3_4.out k_ h2_ h_) k_ h_ (HG3.out.1 k_ hs_.symm)), Kd.S_kept HG5.out hkp (fun k_ h_ hs_ => (fun k_ h_ h2_ => HD3_5.out k_ h2_ h_) k_ h_ (HG3.out.1 k_ hs_.symm))⟩) (fun _ h_ => h_) : Kd.S kP47 47 w4_ w0.heap.size P0_ (.slice (some ⟨go, 0, none⟩) l0.length c0) (ys ++ (⟨b, wrap64 (b + 1), wrap64 (wrap64 (b + 1) + 1), t1_2, x.f4, x.f5⟩ : S47) :: zs)); have n1_ := xm (Kept.then_ HK.out hkp (fun k_ hs_ => .inl (HO.out k_ (HT3.out k_ (HG3.out.1 k_ hs_.symm))).1)); have n2_ := xm hb; clear hb hkp hy HS HK HB HH HO HG3 HG4 HG5 HT3 HT4 HT5 HD3_4 HD3_5 HD4_5 hx0 hz0 hx1 hz1 hx2 hz2 hx3 hz3 hx4 hz4 hx5 hz5; revert n0_ n1_ n2_; intro HS HK HB; obtain ⟨oki, ce, hcl, hM, hcc, hfr, hoki, hH⟩ := Kd.S_elem HS.out z47 x5 HI.out.1 HI.out.2.1; rw [HI.out.2.2.2.2] at hM; obtain ⟨v3, v4, v5, T3, T4, T5, rfl, ⟨a3, a4, a5⟩, ⟨d3_4, d3_5, d4_5⟩, g3, g4, g5⟩ := hM; obtain ⟨A3, c3, ei3⟩ := Kd.R_slice g3; subst ei3; obtain ⟨A4, c4, ei4⟩ := Kd.R_slice g4; subst ei4; obtain ⟨A5, c5, ei5⟩ := Kd.S_slice g5; subst ei5; have hx0 : w4_.cell? ⟨go, x5.toNat * 6, none⟩ = some (.int .i64 b) := (by have z_ := hcc 0 _ rfl; (try simp only [show (kP47).sz = 6 from rfl, Nat.mul_one, Nat.add_zero] at z_); exact z_); have hx1 : w4_.cell? ⟨go, x5.toNat * 6 + 1, none⟩ = some (.int .i64 (wrap64 (b + 1))) := (by have z_ := hcc 1 _ rfl; (try simp only [show (kP47).sz = 6 from rfl, Nat.mul_one, Nat.add_zero] at z_); exact z_); have hx2 : w4_.cell? ⟨go, x5.toNat * 6 + 2, none⟩ = some (.int .i64 (wrap64 (wrap64 (b + 1) + 1))) := (by have z_ := hcc 2 _ rfl; (try simp only [show (kP47).sz = 6 from rfl, Nat.mul_one, Nat.add_zero] at z_); exact z_); have hx3 : w4_.cell? ⟨go, x5.toNat * 6 + 3, none⟩ = some (.slice A3 t1_2.length c3) := (by have z_ := hcc 3 _ rfl; (try simp only [show (kP47).sz = 6 from rfl, Nat.mul_one, Nat.add_zero] at z_); exact z_); have hx4 : w4_.cell? ⟨go, x5.toNat * 6 + 4, none⟩ = some (.slice A4 x.f4.length c4) := (by have z_ := hcc 4 _ rfl; (try simp only [show (kP47).sz = 6 from rfl, Nat.mul_one, Nat.add_zero] at z_); exact z_); have hx5 : w4_.cell? ⟨go, x5.toNat * 6 + 5, none⟩ = some (.slice A5 x.f5.length c5) := (by have z_ := hcc 5 _ rfl; (try simp only [show (kP47).sz = 6 from rfl, Nat.mul_one, Nat.add_zero] at z_); exact z_); have hz0 : w4_.frozen? ⟨go, x5.toNat * 6, none⟩ = false := (by have z_ := hfr 0; (try simp only [show (kP47).sz = 6 from rfl, Nat.mul_one, Nat.add_zero] at z_); exact z_); have hz1 : w4_.frozen? ⟨go, x5.toNat * 6 + 1, none⟩ = false := (by have z_ := hfr 1; (try simp only [show (kP47).sz = 6 from rfl, Nat.mul_one, Nat.add_zero] at z_); exact z_); have hz2 : w4_.frozen? ⟨go, x5.toNat * 6 + 2, none⟩ = false := (by have z_ := hfr 2; (try simp only [show (kP47).sz = 6 from rfl, Nat.mul_one, Nat.add_zero] at z_); exact z_); have hz3 : w4_.frozen? ⟨go, x5.toNat * 6 + 3, none⟩ = false := (by have z_ := hfr 3; (try simp only [show (kP47).sz = 6 from rfl, Nat.mul_one, Nat.add_zero] at z_); exact z_); have hz4 : w4_.frozen? ⟨go, x5.toNat * 6 + 4, none⟩ = false := (by have z_ := hfr 4; (try simp only [show (kP47).sz = 6 from rfl, Nat.mul_one, Nat.add_zero] at z_); exact z_); have hz5 : w4_.frozen? ⟨go, x5.toNat * 6 + 5, none⟩ = false := (by have z_ := hfr 5; (try simp only [show (kP47).sz = 6 from rfl, Nat.mul_one, Nat.add_zero] at z_); exact z_); have HH := xm hH; have HG3 := xm g3; have HG4 := xm g4; have HG5 := xm g5; have HO := xm hoki; have HT3 := xm a3; have HT4 := xm a4; have HT5 := xm a5; have HD3_4 := xm d3_4; have HD3_5 := xm d3_5; have HD4_5 := xm d4_5; clear hcl hcc hfr hoki hH g3 g4 g5 a3 a4 a5 d3_4 d3_5 d4_5)
    | (go_at_call 11; (with_reducible refine (laws_markIntS.calls k (fun k_ => some k_ = (.slice A4 x.f4.length c4 : Value).ownBlock) (.slice A4 x.f4.length c4) x.f4 t1_1 t2_1 t2_2 w0 _ HB.out (Kd.R_tight rfl HG4.out) HAt2.out).mono ?_); rintro e w5_ ⟨rfl, hy, hb, hkp⟩; have n0_ := xm (by rw [← HI.out.2.2.2.1 (⟨b, wrap64 (b + 1), wrap64 (wrap64 (b + 1) + 1), t1_2, x.f4, x.f5⟩ : S47) (⟨b, wrap64 (b + 1), wrap64 (wrap64 (b + 1) + 1), t1_2, t2_2, x.f5⟩ : S47)]; exact Kd.H_back (x' := (⟨b, wrap64 (b + 1), wrap64 (wrap64 (b + 1) + 1), t1_2, t2_2, x.f5⟩ : S47)) (Kd.H_step HH.out (fun k_ _ hn_ hlt_ => hkp.2 k_ hlt_ (fun hs_ => hn_ (HT4.out k_ (HG4.out.1 k_ hs_.symm))))) (show kP47.M w5_ w0.heap.size oki (⟨b, wrap64 (b + 1), wrap64 (wrap64 (b + 1) + 1), t1_2, t2_2, x.f5⟩ : S47) _ from ⟨(.slice A3 t1_2.length c3), (.slice A4 x.f4.length c4), (.slice A5 x.f5.length c5), T3, T4, T5, rfl, ⟨HT3.out, HT4.out, HT5.out⟩, ⟨HD3_4.out, HD3_5.out, HD4_5.out⟩, Kd.R_kept HG3.out hkp (fun k_ h_ hs_ => HD3_4.out k_ h_ (HG4.out.1 k_ hs_.symm)), Kd.R_reok rfl hy (fun k_ e_ => HG4.out.1 k_ e_), Kd.S_kept HG5.out hkp (fun k_ h_ hs_ => (fun k_ h_ h2_ => HD4_5.out k_ h2_ h_) k_ h_ (HG4.out.1 k_ hs_.symm))⟩) (fun _ h_ => h_) : Kd.S kP47 47 w5_ w0.heap.size P0_ (.slice (some ⟨go, 0, none⟩) l0.length c0) (ys ++ (⟨b, wrap64 (b + 1), wrap64 (wrap64 (b + 1) + 1), t1_2, t2_2, x.f5⟩ : S47) :: zs)); have n1_ := xm (Kept.then_ HK.out hkp (fun k_ hs_ => .inl (HO.out k_ (HT4.out k_ (HG4.out.1 k_ hs_.symm))).1)); have n2_ := xm hb; clear hb hkp hy HS HK HB HH HO HG3 HG4 HG5 HT3 HT4 HT5 HD3_4 HD3_5 HD4_5 hx0 hz0 hx1 hz1 hx2 hz2 hx3 hz3 hx4 hz4 hx5 hz5; revert n0_ n1_ n2_; intro HS HK HB; obtain ⟨oki, ce, hcl, hM, hcc, hfr, hoki, hH⟩ := Kd.S_elem HS.out z47 x5 HI.out.1 HI.out.2.1; rw [HI.out.2.2.2.2] at hM; obtain ⟨v3, v4, v5, T3, T4, T5, rfl, ⟨a3, a4, a5⟩, ⟨d3_4, d3_5, d4_5⟩, g3, g4, g5⟩ := hM; obtain ⟨A3, c3, ei3⟩ := Kd.R_slice g3; subst ei3; obtain ⟨A4, c4, ei4⟩ := Kd.R_slice g4; subst ei4; obtain ⟨A5, c5, ei5⟩ := Kd.S_slice g5; subst ei5; have hx0 : w5_.cell? ⟨go, x5.toNat * 6, none⟩ = some (.int .i64 b) := (by have z_ := hcc 0 _ rfl; (try simp only [show (kP47).sz = 6 from rfl, Nat.mul_one, Nat.add_zero] at z_); exact z_); have hx1 : w5_.cell? ⟨go, x5.toNat * 6 + 1, none⟩ = some (.int .i64 (wrap64 (b + 1))) := (by have z_ := hcc 1 _ rfl; (try simp only [show (kP47).sz = 6 from rfl, Nat.mul_one, Nat.add_zero] at z_); exact z_); have hx2 : w5_.cell? ⟨go, x5.toNat * 6 + 2, none⟩ = some (.int .i64 (wrap64 (wrap64 (b + 1) + 1))) := (by have z_ := hcc 2 _ rfl; (try simp only [show (kP47).sz = 6 from rfl, Nat.mul_one, Nat.add_zero] at z_); exact z_); have hx3 : w5_.cell? ⟨go, x5.toNat * 6 + 3, none⟩ = some (.slice A3 t1_2.length c3) := (by have z_ := hcc 3 _ rfl; (try simp only [show (kP47).sz = 6 from rfl, Nat.mul_one, Nat.add_zero] at z_); exact z_); have hx4 : w5_.cell? ⟨go, x5.toNat * 6 + 4, none⟩ = some (.slice A4 t2_2.length c4) := (by have z_ := hcc 4 _ rfl; (try simp only [show (kP47).sz = 6 from rfl, Nat.mul_one, Nat.add_zero] at z_); exact z_); have hx5 : w5_.cell? ⟨go, x5.toNat * 6 + 5, none⟩ = some (.slice A5 x.f5.length c5) := (by have z_ := hcc 5 _ rfl; (try simp only [show (kP47).sz = 6 from rfl, Nat.mul_one, Nat.add_zero] at z_); exact z_); have hz0 : w5_.frozen? ⟨go, x5.toNat * 6, none⟩ = false := (by have z_ := hfr 0; (try simp only [show (kP47).sz = 6 from rfl, Nat.mul_one, Nat.add_zero] at z_); exact z_); have hz1 : w5_.frozen? ⟨go, x5.toNat * 6 + 1, none⟩ = false := (by have z_ := hfr 1; (try simp only [show (kP47).sz = 6 from rfl, Nat.mul_one, Nat.add_zero] at z_); exact z_); have hz2 : w5_.frozen? ⟨go, x5.toNat * 6 + 2, none⟩ = false := (by have z_ := hfr 2; (try simp only [show (kP47).sz = 6 from rfl, Nat.mul_one, Nat.add_zero] at z_); exact z_); have hz3 : w5_.frozen? ⟨go, x5.toNat * 6 + 3, none⟩ = false := (by have z_ := hfr 3; (try simp only [show (kP47).sz = 6 from rfl, Nat.mul_one, Nat.add_zero] at z_); exact z_); have hz4 : w5_.frozen? ⟨go, x5.toNat * 6 + 4, none⟩ = false := (by have z_ := hfr 4; (try simp only [show (kP47).sz = 6 from rfl, Nat.mul_one, Nat.add_zero] at z_); exact z_); have hz5 : w5_.frozen? ⟨go, x5.toNat * 6 + 5, none⟩ = false := (by have z_ := hfr 5; (try simp only [show (kP47).sz = 6 from rfl, Nat.mul_one, Nat.add_zero] at z_); exact z_); have HH := xm hH; have HG3 := xm g3; have HG4 := xm g4; have HG5 := xm g5; have HO := xm hoki; have HT3 := xm a3; have HT4 := xm a4; have HT5 := xm a5; have HD3_4 := xm d3_4; have HD3_5 := xm d3_5; have HD4_5 := xm d4_5; clear hcl hcc hfr hoki hH g3 g4 g5 a3 a4 a5 d3_4 d3_5 d4_5)
    | (go_at_call 37; (with_reducible refine (laws_markIntSS.calls k T5 (.slice A5 x.f5.length c5) x.f5 t2_1 t3_1 t3_2 w0 _ HB.out HG5.out HAt3.out).mono ?_); rintro e w6_ ⟨rfl, hy, hb, hkp⟩; have n0_ := xm (by rw [← HI.out.2.2.2.1 (⟨b, wrap64 (b + 1), wrap64 (wrap64 (b + 1) + 1), t1_2, t2_2, x.f5⟩ : S47) (⟨b, wrap64 (b + 1), wrap64 (wrap64 (b + 1) + 1), t1_2, t2_2, t3_2⟩ : S47)]; exact Kd.H_back (x' := (⟨b, wrap64 (b + 1), wrap64 (wrap64 (b + 1) + 1), t1_2, t2_2, t3_2⟩ : S47)) (Kd.H_step HH.out (fun k_ _ hn_ hlt_ => hkp.2 k_ hlt_ (fun hs_ => hn_ (HT5.out k_ hs_)))) (show kP47.M w6_ w0.heap.size oki (⟨b, wrap64 (b + 1), wrap64 (wrap64 (b + 1) + 1), t1_2, t2_2, t3_2⟩ : S47) _ from ⟨(.slice A3 t1_2.length c3), (.slice A4 t2_2.length c4), (.slice A5 x.f5.length c5), T3, T4, T5, rfl, ⟨HT3.out, HT4.out, HT5.out⟩, ⟨HD3_4.out, HD3_5.out, HD4_5.out⟩, Kd.R_kept HG3.out hkp (fun k_ h_ hs_ => HD3_5.out k_ h_ hs_), Kd.R_kept HG4.out hkp (fun k_ h_ hs_ => HD4_5.out k_ h_ hs_), hy⟩) (fun _ h_ => h_) : Kd.S kP47 47 w6_ w0.heap.size P0_ (.slice (some ⟨go, 0, none⟩) l0.length c0) (ys ++ (⟨b, wrap64 (b + 1), wrap64 (wrap64 (b + 1) + 1), t1_2, t2_2, t3_2⟩ : S47) :: zs)); have n1_ := xm (Kept.then_ HK.out hkp (fun k_ hs_ => .inl (HO.out k_ (HT5.out k_ hs_)).1)); have n2_ := xm hb; clear hb hkp hy HS HK HB HH HO HG3 HG4 HG5 HT3 HT4 HT5 HD3_4 HD3_5 HD4_5 hx0 hz0 hx1 hz1 hx2 hz2 hx3 hz3 hx4 hz4 hx5 hz5; revert n0_ n1_ n2_; intro HS HK HB))
   go_wp2
   go_roundg zs.length
   case measure => have z_ := hzk.out; simp at z_; omega
   case rel =>
    have hw5 : wrap64 (x5 + 1) = x5 + 1 := by have := HL5.out; unfold wrap64; omega
    refine ⟨ys ++ [(⟨b, wrap64 (b + 1), wrap64 (wrap64 (b + 1) + 1), t1_2, t2_2, t3_2⟩ : S47)], zs, s_2, t3_1, wrap64 (x5 + 1), sB, sB, ⟨?_⟩, ⟨?_⟩, ⟨Nat.le_refl _⟩, HN, ⟨?_⟩, ⟨?_⟩, HK, HB⟩
    ·rw [hw5, HL5.out.1]; simp
    ·have := HL5.out; simp; omega
    ·rw [HR.out, ← HW.out]; simp
    ·have z_ := HS.out; simpa using z_

/-! ### laws_markView: function 10 -/
def laws_markView.f (k : Nat) (l0_0 : List Int) (l0_1 : List (S47)) (a1 : Int) : Option (Int × (List Int) × (List (S47))) := (laws_markIntS.f k l0_0 a1).bind fun t3b => ((laws_markPartS.f k l0_1 t3b.1).bind fun t4b => some (t4b.1, t3b.2, t4b.2))
theorem laws_markView.mono : ∀ a0_ a1_ a2_ k, LeO (laws_markView.f k a0_ a1_ a2_) (laws_markView.f (k + 1) a0_ a1_ a2_) := by
 intro a0_ a1_ a2_ k
 unfold laws_markView.f
 repeat' first
  | (with_reducible exact laws_markIntS.mono _ _ _)
  | (with_reducible exact laws_markPartS.mono _ _ _)
  | (with_reducible exact LeO.refl _)
  | (with_reducible exact LeO.none _)
  | (with_reducible refine LeO.ite ?_ ?_)
  | (with_reducible refine LeO.bind ?_ (fun _ => ?_))
  | exact laws_markIntS.mono _ _ _
  | exact laws_markPartS.mono _ _ _
theorem laws_markView.cs2 {w : World} {g t : Nat} {a0 a1 : Value} (h : w.heap[g]? = some (.cells #[a0, a1] t (0, 0))) : w.cell? ⟨g, 0, none⟩ = some a0 ∧ w.frozen? ⟨g, 0, none⟩ = false ∧ w.cell? ⟨g, 1, none⟩ = some a1 ∧ w.frozen? ⟨g, 1, none⟩ = false := ⟨(xc h 0).trans rfl, xf h 0, (xc h 1).trans rfl, xf h 1⟩
set_option maxHeartbeats 8000000 in
set_option maxRecDepth 100000 in
theorem laws_markView.calls (k : Nat) (P0_0_ : Nat → Prop) (u9000_ : Value) (l0_0 : List Int) (P0_1_ : Nat → Prop) (u9001_ : Value) (l0_1 : List (S47)) (a1 : Int) (r1 : Int) (r2 : List Int) (r3 : List (S47)) (w0 w : World) (hB : Below w0.heap.size w0 w) (ho0_0 : Kd.R (Kd.int .i64) 3 w w0.heap.size P0_0_ u9000_ l0_0) (ho0_1 : Kd.S kP47 47 w w0.heap.size P0_1_ u9001_ l0_1) (hp0_0_0_1 : ∀ k_, P0_0_ k_ → ¬ P0_1_ k_) (h : laws_markView.f k l0_0 l0_1 a1 = some (r1, r2, r3)) :
  Calls Try.prog 10 #[.agg #[u9000_, u9001_], .int .i64 a1] w fun e w' => e = .returned (.int .i64 r1) ∧ Kd.R (Kd.int .i64) 3 w' w0.heap.size P0_0_ u9000_ r2 ∧ Kd.S kP47 47 w' w0.heap.size P0_1_ u9001_ r3 ∧ Below w0.heap.size w0 w' ∧ Kept w w' (fun k_ => P0_0_ k_ ∨ P0_1_ k_) := by
 obtain ⟨A0_0, c0_0, rfl⟩ := Kd.R_slice ho0_0
 obtain ⟨A0_1, c0_1, rfl⟩ := Kd.S_slice ho0_1
 have F0_0 := xm (Kd.R_mono (ok' := fun k_ => P0_0_ k_ ∧ k_ < w.heap.size) (Kd.R_bound ho0_0) (fun k_ h_ => ⟨h_.1, h_.2.2.1⟩))
 have F0_1 := xm (Kd.S_mono (ok' := fun k_ => P0_1_ k_ ∧ k_ < w.heap.size) (Kd.S_bound ho0_1) (fun k_ h_ => ⟨h_.1, h_.2.2.1⟩))
 have hu31 := Try.underlying31
 have HB := xm hB
 have HK := xm (Kept.refl w (fun k_ => P0_0_ k_ ∨ P0_1_ k_))
 have Z0 := xm hB.size
 clear hB ho0_0 ho0_1
 unfold laws_markView.f at h
 replace h := Option.bind_eq_some_iff.mp h
 obtain ⟨⟨t3_0, t3_1⟩, t3A0, h⟩ := h
 (try dsimp only at h)
 have t3A := xm t3A0
 clear t3A0
 replace h := Option.bind_eq_some_iff.mp h
 obtain ⟨⟨t4_0, t4_1⟩, t4A0, h⟩ := h
 (try dsimp only at h)
 have t4A := xm t4A0
 clear t4A0
 simp only [Option.some.injEq, Prod.mk.injEq] at h
 obtain ⟨rfl, rfl, rfl⟩ := h
 go_enter Try.func10, Try.ntmps10
 go_wp2_with (first
  | ((with_reducible refine gate_dst (N := 2) rfl ?_); refine box_event ?hgq2 (N := 2) ?hdq2 (cs := #[.slice A0_0 l0_0.length c0_0, .slice A0_1 l0_1.length c0_1]) (t := 31) ?hrq2 ?_; (case hdq2 => rfl); (case hgq2 => rfl); (case hrq2 => exact zB); intro g1 hg_ w1_ hbox_ hb_; have Z1 := xm (hb_.size : w.heap.size ≤ w1_.heap.size); have hk_ := Kept.of_below hb_ (fun _ => False); have m0_ := xm (Kd.R_kept F0_0.out hk_ (fun _ _ h_ => h_)); have m1_ := xm (Kd.S_kept F0_1.out hk_ (fun _ _ h_ => h_)); clear F0_0 F0_1; have F0_0 := m0_; have F0_1 := m1_; clear m0_ m1_; have m0_ := xm (below_step (w := w0) HB.out hb_); clear HB; have HB := m0_; have m1_ := xm (HK.out.then_ hk_ (fun _ h_ => h_.elim)); clear HK; have HK := m1_; clear m1_; have BKg1 := xm hbox_; have GBg1 : Aside0 (w.heap.size ≤ g1 ∧ g1 < w1_.heap.size) := xm ⟨by rw [hg_]; exact Nat.le_refl _, blk_lt hbox_⟩; clear m0_ hb_ hbox_ hg_ hk_; obtain ⟨hcg1_0, hfg1_0, hcg1_1, hfg1_1⟩ := laws_markView.cs2 BKg1.out)
  | ((with_reducible refine gate_callee (f := 11) rfl ?_); refine goesL_ (some 8) rfl rfl Try.func11 (by kernel_rfl) rfl #[.slice A0_0 l0_0.length c0_0, .int .i64 a1] rfl mB ?_; refine (laws_markIntS.calls k (fun k_ => P0_0_ k_ ∧ k_ < w.heap.size) (.slice A0_0 l0_0.length c0_0) l0_0 a1 t3_0 t3_1 w0 _ HB.out F0_0.out t3A.out).mono ?_; rintro e w2_ ⟨rfl, h0_, hb_, hkp_⟩; refine ⟨_, rfl, ?_⟩; have Z2 := xm (hkp_.1 : w1_.heap.size ≤ w2_.heap.size); have yF0_0 := xm (Kd.R_reok rfl h0_ (fun k_ e_ => F0_0.out.1 k_ e_)); have m0_ := xm (Kd.S_kept F0_1.out hkp_ (fun k_ h_ h2_ => by exact (fun k_ h_ h2_ => hp0_0_0_1 k_ h2_ h_) k_ h_.1 h2_.1)); have m1_ := xm (blk_kept BKg1.out hkp_ (fun h2_ => by have u_ := GBg1.out; have u2_ := h2_.2; omega)); clear F0_1 BKg1; have F0_1 := m0_; have BKg1 := m1_; clear m0_ m1_; clear F0_0; have F0_0 := yF0_0; clear yF0_0; clear HB; have HB := xm hb_; have m1_ := xm (HK.out.then_ hkp_ (fun _ h_ => .inl (.inl h_.1))); clear HK; have HK := m1_; clear m1_; clear hb_ hkp_ h0_; (try clear LEF0_0); have LEF0_0 := xm (Kd.R_reads' F0_0.out).1; clear hcg1_0 hfg1_0 hcg1_1 hfg1_1; obtain ⟨hcg1_0, hfg1_0, hcg1_1, hfg1_1⟩ := laws_markView.cs2 BKg1.out)
  | ((with_reducible refine gate_callee (f := 24) rfl ?_); refine goesL_ (some 12) rfl rfl Try.func24 (by kernel_rfl) rfl #[.slice A0_1 l0_1.length c0_1, .int .i64 t3_0] rfl mB ?_; refine (laws_markPartS.calls k (fun k_ => P0_1_ k_ ∧ k_ < w.heap.size) (.slice A0_1 l0_1.length c0_1) l0_1 t3_0 t4_0 t4_1 w0 _ HB.out F0_1.out t4A.out).mono ?_; rintro e w3_ ⟨rfl, h0_, hb_, hkp_⟩; refine ⟨_, rfl, ?_⟩; have Z3 := xm (hkp_.1 : w2_.heap.size ≤ w3_.heap.size); have yF0_1 := xm h0_; have m0_ := xm (Kd.R_kept F0_0.out hkp_ (fun k_ h_ h2_ => by exact hp0_0_0_1 k_ h_.1 h2_.1)); have m1_ := xm (blk_kept BKg1.out hkp_ (fun h2_ => by have u_ := GBg1.out; have u2_ := h2_.2; omega)); clear F0_0 BKg1; have F0_0 := m0_; have BKg1 := m1_; clear m0_ m1_; clear F0_1; have F0_1 := yF0_1; clear yF0_1; clear HB; have HB := xm hb_; have m1_ := xm (HK.out.then_ hkp_ (fun _ h_ => .inl (.inr h_.1))); clear HK; have HK := m1_; clear m1_; clear hb_ hkp_ h0_; (try clear LEF0_1); have LEF0_1 := xm (Kd.S_reads' F0_1.out).1; clear hcg1_0 hfg1_0 hcg1_1 hfg1_1; obtain ⟨hcg1_0, hfg1_0, hcg1_1, hfg1_1⟩ := laws_markView.cs2 BKg1.out))
 go_wp2
 go_ret
 exact ⟨rfl, Kd.R_mono F0_0.out (fun _ h_ => h_.1), Kd.S_mono F0_1.out (fun _ h_ => h_.1), HB.out, HK.out⟩

/-! ### laws_heldIntS: function 12 -/
def laws_heldIntS.l0 : Nat → List Int → Int → Int → Option (Int)
 | 0, _, _, _ => none
 | k + 1, x0, x1, x5 => if x5 < (x0.length : Int) then (if 0 ≤ x5 then (if (rd x0 x5) = x1 then (laws_heldIntS.l0 k x0 (wrap64 (x1 + 1)) (wrap64 (x5 + 1))) else (some (-1))) else (none)) else (some x1)
def laws_heldIntS.f (k : Nat) (l0 : List Int) (a1 : Int) : Option (Int) := laws_heldIntS.l0 k l0 a1 0
theorem laws_heldIntS.mono_l : ∀ k, (∀ y0 y1 y2, LeO (laws_heldIntS.l0 k y0 y1 y2) (laws_heldIntS.l0 (k + 1) y0 y1 y2))
 | 0 => fun _ _ _ r h => by simp [laws_heldIntS.l0] at h
 | k + 1 => by
  have ih0 := laws_heldIntS.mono_l k
  ·intro y0 y1 y2
   unfold laws_heldIntS.l0
   repeat' first
   | (with_reducible exact ih0 _ _ _)
   | (with_reducible exact LeO.refl _)
   | (with_reducible exact LeO.none _)
   | (with_reducible refine LeO.ite ?_ ?_)
   | (with_reducible refine LeO.bind ?_ (fun _ => ?_))
   | exact ih0 _ _ _
   | exact LeO.none _
   | refine LeO.ite ?_ ?_
   | refine LeO.bind ?_ (fun _ => ?_)
theorem laws_heldIntS.mono : ∀ a0 a1 k, LeO (laws_heldIntS.f k a0 a1) (laws_heldIntS.f (k + 1) a0 a1) := by
 intro a0 a1 k
 have ih0 := laws_heldIntS.mono_l k
 unfold laws_heldIntS.f
 repeat' first
   | (with_reducible exact ih0 _ _ _)
   | (with_reducible exact LeO.refl _)
   | (with_reducible exact LeO.none _)
   | (with_reducible refine LeO.ite ?_ ?_)
   | (with_reducible refine LeO.bind ?_ (fun _ => ?_))
   | exact ih0 _ _ _
   | exact LeO.none _
   | refine LeO.ite ?_ ?_
   | refine LeO.bind ?_ (fun _ => ?_)
set_option maxHeartbeats 8000000 in
set_option maxRecDepth 100000 in
theorem laws_heldIntS.calls (k : Nat) (A0 : Option Addr) (c0 : Nat) (l0 : List Int) (a1 : Int) (r : Int) (w : World) (hr0 : Kd.C (Kd.int .i64) w A0 l0.length l0) (hc0 : l0.length ≤ c0) (h : laws_heldIntS.f k l0 a1 = some r) :
  Calls Try.prog 12 #[.slice A0 l0.length c0, .int .i64 a1] w fun e w' => e = .returned (.int .i64 r) ∧ Drawn0 w w' := by
 have HR0 := xm hr0
 have HC0 := xm hc0
 clear hr0 hc0
 have H : (laws_heldIntS.l0 k l0 a1 0) = some r := h
 clear h
 have H' := xm H
 clear H
 go_enter Try.func12, Try.ntmps12
 go_wp2
 go_loopg [1, 5] k (fun kq v1 v5 w' => ∃ (x1_1 : Int) (x5_1 : Int), v1 = .int .i64 x1_1 ∧ v5 = .int .i64 x5_1 ∧ Aside0 (laws_heldIntS.l0 kq l0 x1_1 x5_1 = some r) ∧ Aside0 (kq ≤ k) ∧ Drawn0 w w')
 case atStart => exact ⟨(a1), (0), sB, sB, H', ⟨Nat.le_refl _⟩, by repeat (first | exact Drawn0.refl _ | apply Drawn0.step)⟩
 case round =>
  clear H'
  try clear c1
  try clear p2
  obtain ⟨x1_1, x5_1, rfl, rfl, HA, HK1, ⟨m1, rfl⟩⟩ := hrel
  cases gk with
  | zero => exact absurd HA.out (by simp [laws_heldIntS.l0])
  | succ k1 =>
   have H := HA.out
   clear HA
   simp only [laws_heldIntS.l0] at H
   by_cases c3 : x5_1 < (l0.length : Int)
   ·rw [if_pos c3] at H
    have c3b0 : decide (x5_1 < (l0.length : Int)) = true := decide_eq_true c3
    clear c3
    by_cases c4 : 0 ≤ x5_1
    ·rw [if_pos c4] at H
     have c4b0 : decide (0 ≤ x5_1) = true := decide_eq_true c4
     clear c4
     by_cases c5 : (rd l0 x5_1) = x1_1
     ·rw [if_pos c5] at H
      have c5b0 : ((rd l0 x5_1) == x1_1) = true := beq_iff_eq.mpr c5
      have c5b1 : ((rd l0 x5_1) != x1_1) = false := bne_eq_false_iff_eq.mpr c5
      clear c5
      have H' := xm H
      clear H
      have p301 : 0 ≤ (x5_1 : Int) := of_decide_eq_true aB
      have q301 : x5_1 < (l0.length : Int) := of_decide_eq_true aB
      obtain ⟨ad301, e301, hx301_0⟩ := Kd.at_int HR0.out x5_1 p301 q301
      cases e301
      replace p301 := eq_true p301
      replace q301 := eq_true q301
      go_wp2
      go_roundg k1
      case measure => have := HK1.out; omega
      case rel => exact ⟨(wrap64 (x1_1 + 1)), (wrap64 (x5_1 + 1)), sB, sB, H', ⟨by have := HK1.out; omega⟩, by repeat (first | exact Drawn0.refl _ | apply Drawn0.step)⟩
     ·rw [if_neg c5] at H
      have c5b0 : ((rd l0 x5_1) == x1_1) = false := beq_eq_false_iff_ne.mpr c5
      have c5b1 : ((rd l0 x5_1) != x1_1) = true := bne_iff_ne.mpr c5
      obtain rfl := Option.some.inj H
      have p301 : 0 ≤ (x5_1 : Int) := of_decide_eq_true aB
      have q301 : x5_1 < (l0.length : Int) := of_decide_eq_true aB
      obtain ⟨ad301, e301, hx301_0⟩ := Kd.at_int HR0.out x5_1 p301 q301
      cases e301
      replace p301 := eq_true p301
      replace q301 := eq_true q301
      go_wp2
      go_ret
      exact ⟨sB, dB⟩
    ·rw [if_neg c4] at H
     exact absurd H (by simp)
   ·rw [if_neg c3] at H
    have c3b0 : decide (x5_1 < (l0.length : Int)) = false := decide_eq_false c3
    clear c3
    obtain rfl := Option.some.inj H
    go_wp2
    go_ret
    exact ⟨sB, dB⟩

end Go.Proofs.Ytaddemalepndfae.G
