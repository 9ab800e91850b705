/- Written by a program of this claim's own, out of the translation: functions of the program as plain functions, and that the calls answer as these. No conditions. -/
import Derived.Test.YtpbpglbldgpckaaG0
import Derived.Test.YtpbpglbldgpckaaG22
namespace Go.Proofs.Ytpbpglbldgpckaa.G
open Go.RowKit Go.Proofs.Ytpbpglbldgpckaa.X Go.Proofs.YtpbpglbldgpckaaW.PrintWords Go.Proofs.YtpbpglbldgpckaaW.PrintLast Go.Proofs.YtpbpglbldgpckaaW.PrintMore
attribute [local go_sem] max2_int min2_int max_two min_two max_three min_three max_four min_four   -- for this text's walks alone
set_option linter.unusedVariables false
set_option linter.unusedSimpArgs false

/-! ### slices_Clone_Lint_int: function 90 -/
def slices_Clone_Lint_int.f (l0 : List Int) : Option (List Int) := if l0.length < 17592186044416 then some l0 else none
set_option maxHeartbeats 8000000 in
set_option maxRecDepth 100000 in
theorem slices_Clone_Lint_int.calls (A0 : Option Addr) (c0 : Nat) (l0 : List Int) (r : List Int) (w : World) (hr0 : Kd.C (Kd.int .i64) w A0 l0.length l0) (hc0 : l0.length ≤ c0) (h : slices_Clone_Lint_int.f l0 = some r) :
  Calls Try.prog 90 #[.slice A0 l0.length c0] w fun e w' => ∃ v0_ : Value, e = .returned (v0_) ∧ Kd.R (Kd.int .i64) 3 w' w.heap.size (fun _ => True) v0_ r ∧ Below w.heap.size w w' := by
 have HR0 := xm hr0
 have hln := hr0.2.2
 have h : (if l0.length < 17592186044416 then some l0 else none) = some r := h
 by_cases c2 : l0.length < 17592186044416
 case neg => rw [if_neg c2] at h; cases h
 rw [if_pos c2] at h
 obtain rfl := Option.some.inj h
 have LM := xm c2
 have q4 : ∀ (w : World) (a : Option Addr) (n c : Nat), (binOp .eql 31 (.slice a n c) (.slice none 0 0)).run Try.prog w = .ok (.bool a.isNone) w := fun w a n c => eql_nil Try.underlying31 w a n c
 clear c2 h hr0 hc0
 cases A0 with
 | none =>
  obtain rfl : l0 = [] := by
   cases l0 with
   | nil => rfl
   | cons x xs => obtain ⟨ad, e, _⟩ := hln (Nat.succ_pos _); cases e
  clear hln
  go_enter Try.func90, Try.ntmps90
  go_wp2
  go_ret
  exact ⟨_, rfl, Kd.R_nil _ _ _ _ _, Below.refl _ _⟩
 | some a =>
  clear hln
  go_enter Try.func90, Try.ntmps90
  go_wp2_with (first | ((with_reducible refine gate_dst (N := 5) rfl ?_); refine Kd.R_lit (Kd.int .i64) _ 3 ?hg (N := 5) ?hd (xs := ([] : List Int)) (inner := []) (ok := fun _ => True) (okp := fun _ => True) ?hr ?hp (fun _ hk => hk) trivial (Below.refl w.heap.size w) (Nat.le_refl _) (by simp) ?_; (case hd => rfl); (case hg => rfl); (case hr => first | (go_simp; done) | (go_simp; rfl)); (case hp => exact (Reps.none _ _)); intro v5 w5 ho hb hg_ hnew_; clear hg_ hnew_; have HO := xm ho; have HB := xm hb; clear ho hb) | ((with_reducible refine gate_builtin (b := .append) (xs := #[.tmp 5, .tmp 6]) rfl ?_); at_builtin; refine Kd.R_append_rows (Kd.int .i64) (w0 := w) w.heap.size rfl (.tmp 5) (.tmp 6) 31 3 (.int .i64 0) 8 rfl Try.underlying31 info3 rfl (by decide) (by omega) v5 [] l0 _ _ _ (fun _ => True) (fun _ => False) rfl rfl ?aO ?aR (fun _ _ h => h) (fun _ h => h.elim) ?aF ?aB ?aS ?aL ?_; (case aR => exact (Kd.C_below HR0.out HB.out)); (case aB => exact HB.out); (case aF => exact (fun _ _ => trivial)); (case aO => exact HO.out); (case aS => exact xz HB.out); (case aL => have := LM.out; simp; omega); intro v7 w9 ho hb hg hat; have n0_ := xm ho; have n1_ := xm hb; clear HO HB ho hb hg hat; have HO := n0_; have HB := n1_; clear n0_ n1_))
  go_ret
  exact ⟨_, rfl, HO.out, HB.out⟩

/-! ### laws_markPreparedS: function 92 -/
def laws_markPreparedS.f (q : Nat) : List S130 → Int → Option (Int × List S130)
 | [], a => some (a, [])
 | x :: xs, a => (laws_markIntS.f q x.f2 (wrap64 (wrap64 (a + 1) + 1))).bind fun t1 => (laws_markPreparedS.f q xs t1.1).bind fun s => some (s.1, (⟨a, wrap64 (a + 1), t1.2⟩ : S130) :: s.2)
theorem laws_markPreparedS.mono : ∀ a0 a1 k, LeO (laws_markPreparedS.f k a0 a1) (laws_markPreparedS.f (k + 1) a0 a1)
 | [], _, _ => LeO.refl _
 | x :: xs, a, k => by
  unfold laws_markPreparedS.f
  repeat' first | exact LeO.refl _ | exact laws_markIntS.mono _ _ _ | exact laws_markPreparedS.mono xs _ _ | refine LeO.bind ?_ (fun _ => ?_)
set_option maxHeartbeats 8000000 in
set_option maxRecDepth 100000 in
theorem laws_markPreparedS.calls (k : Nat) (P0_ : Nat → Prop) (u9000_ : Value) (l0 : List S130) (a1 : Int) (r1 : Int) (r2 : List S130) (w0 w : World) (hB : Below w0.heap.size w0 w) (ho0 : Kd.S k130 130 w w0.heap.size P0_ u9000_ l0) (h : laws_markPreparedS.f k l0 a1 = some (r1, r2)) :
  Calls Try.prog 92 #[u9000_, .int .i64 a1] w fun e w' => e = .returned (.int .i64 r1) ∧ Kd.S k130 130 w' w0.heap.size P0_ u9000_ r2 ∧ Below w0.heap.size w0 w' ∧ Kept w w' P0_ := by
 obtain ⟨A0, c0, rfl⟩ := Kd.S_slice ho0
 have HS0 := xm ho0
 have HB0 := xm hB
 have HK0 := xm (Kept.refl w P0_)
 have H0 := xm h
 have hlen := (Kd.S_reads' ho0).2.2.2.1
 clear ho0 hB h
 go_enter Try.func92, Try.ntmps92
 go_wp2
 go_loopg [1, 5] l0.length (fun kq v1 v5 w' => ∃ (ys zs ws : List S130) (b x5 : Int), v1 = .int .i64 b ∧ v5 = .int .i64 x5 ∧ Aside0 (x5 = ys.length) ∧ Aside0 (ys.length + zs.length = l0.length) ∧ Aside0 (zs.length ≤ kq) ∧ Aside0 (laws_markPreparedS.f k zs b = some (r1, ws)) ∧ Aside0 (r2 = ys ++ ws) ∧ Aside0 (Kd.S k130 130 w' w0.heap.size P0_ (.slice A0 l0.length c0) (ys ++ zs)) ∧ Aside0 (Kept w w' P0_) ∧ Aside0 (Below w0.heap.size w0 w'))
 case atStart => exact ⟨[], l0, r2, a1, 0, rfl, rfl, ⟨rfl⟩, ⟨by simp⟩, ⟨Nat.le_refl _⟩, H0, ⟨rfl⟩, HS0, HK0, HB0⟩
 case round =>
  clear HS0 HK0 HB0 H0
  obtain ⟨ys, zs, ws, b, x5, rfl, rfl, hx5, hyz, hzk, HF, HR, HS, HK, HB⟩ := hrel
  have h50 := hx5.out
  have h51 := hyz.out
  cases zs with
  | nil =>
   have hc : decide (x5 < (l0.length : Int)) = false := decide_eq_false (by simp at h51; omega)
   have hf := HF.out
   unfold laws_markPreparedS.f at hf
   simp only [Option.some.injEq, Prod.mk.injEq] at hf
   obtain ⟨rfl, rfl⟩ := hf
   have HR2 := HR.out
   rw [List.append_nil] at HR2
   subst HR2
   have HS2 := HS.out
   rw [List.append_nil] at HS2
   have HS3 := xm HS2
   clear HS2 HS HF HR h50 h51 hx5 hyz hzk
   go_wp2
   go_ret
   exact ⟨rfl, HS3.out, HB.out, HK.out⟩
  | cons x zs =>
   have hzc : (x :: zs).length = zs.length + 1 := rfl
   have hc : decide (x5 < (l0.length : Int)) = true := decide_eq_true (by omega)
   have hf := HF.out
   unfold laws_markPreparedS.f at hf
   obtain ⟨⟨t1_1, t1_2⟩, hAt1, hf⟩ := Option.bind_eq_some_iff.mp hf
   obtain ⟨⟨s_1, s_2⟩, hN, hf⟩ := Option.bind_eq_some_iff.mp hf
   simp only [Option.some.injEq, Prod.mk.injEq] at hf
   obtain ⟨rfl, hws⟩ := hf
   have HN := xm hN
   have HW := xm hws
   clear hN hws HF
   have HAt1 := xm hAt1
   clear hAt1
   obtain ⟨go, co, eo, gb, _, _⟩ := Kd.S_form HS.out (by rw [List.length_append]; omega)
   (injection eo with ea_ en_ ec_; subst ea_; subst ec_; clear en_)
   have hi0 : 0 ≤ x5 := by omega
   have hi1 : x5 < (l0.length : Int) := by omega
   have hit : x5.toNat = ys.length := by omega
   have hset : ∀ y z : S130, (ys ++ y :: zs).set x5.toNat z = ys ++ z :: zs := fun y z => by rw [hit]; simp
   have hget : ∀ (y z : S130), (ys ++ y :: zs).getD x5.toNat z = y := fun y z => by rw [hit]; simp
   have HI := xm (And.intro hi0 (And.intro hi1 (And.intro gb (And.intro hset hget))))
   have HL5 := xm (And.intro h50 (And.intro h51 (And.intro hzc hlen)))
   clear hit hset hget gb h50 h51 hzc
   obtain ⟨oki, ce, hcl, hM, hcc, hfr, hoki, hH⟩ := Kd.S_elem HS.out z130 x5 HI.out.1 HI.out.2.1
   rw [HI.out.2.2.2.2] at hM
   obtain ⟨v0, rfl, g0⟩ := k130_openM hM
   obtain ⟨Ai, ci, ei⟩ := Kd.R_slice g0
   subst ei
   have hx0 : wr.cell? ⟨go, x5.toNat * 3, none⟩ = some (.int .i64 x.f0) := (by have z_ := hcc 0 _ rfl; (try simp only [show (k130).sz = 3 from rfl, Nat.mul_one, Nat.add_zero] at z_); exact z_)
   have hx1 : wr.cell? ⟨go, x5.toNat * 3 + 1, none⟩ = some (.int .i64 x.f1) := (by have z_ := hcc 1 _ rfl; (try simp only [show (k130).sz = 3 from rfl, Nat.mul_one, Nat.add_zero] at z_); exact z_)
   have hx2 : wr.cell? ⟨go, x5.toNat * 3 + 2, none⟩ = some (.slice Ai x.f2.length ci) := (by have z_ := hcc 2 _ rfl; (try simp only [show (k130).sz = 3 from rfl, Nat.mul_one, Nat.add_zero] at z_); exact z_)
   have hz0 : wr.frozen? ⟨go, x5.toNat * 3, none⟩ = false := (by have z_ := hfr 0; (try simp only [show (k130).sz = 3 from rfl, Nat.mul_one, Nat.add_zero] at z_); exact z_)
   have hz1 : wr.frozen? ⟨go, x5.toNat * 3 + 1, none⟩ = false := (by have z_ := hfr 1; (try simp only [show (k130).sz = 3 from rfl, Nat.mul_one, Nat.add_zero] at z_); exact z_)
   have hz2 : wr.frozen? ⟨go, x5.toNat * 3 + 2, none⟩ = false := (by have z_ := hfr 2; (try simp only [show (k130).sz = 3 from rfl, Nat.mul_one, Nat.add_zero] at z_); exact z_)
   have HH := xm hH
   have HG := xm g0
   have HO := xm hoki
   have HC := xm hcl
   (try clear hM)
   clear hcl hcc hfr hoki hH g0
   go_wp2_with (first
    | ((with_reducible refine gate_store (t := 3) (p := 16) rfl ?_); refine store_event (t := 3) (p := 16) (v := ?vo1) (w1 := (wr.setCell ⟨go, x5.toNat * 3, none⟩ (.int .i64 b))) ?hg ?ho ?hn ?hr ?_; (case ho => rfl); (case hg => rfl); (case hn => rfl); (case hr => first | (go_simp; done) | (go_simp; rfl)); intro w1_ hw; have hs2 := Kd.H_seg HH.out HI.out.1 HI.out.2.1 (seg := [.int .i64 b]) (j := 0) (by show 0 + 1 ≤ 3; decide) (fun q_ hq_ => by rw [List.mem_singleton.1 hq_]; rfl); have hg : wr.grownBy w1_ (some go) := (by rw [hw]; exact hs2.2); have hH2 : Kd.H k130 130 w1_ w0.heap.size P0_ (.slice (some ⟨go, 0, none⟩) l0.length c0) (ys ++ (⟨x.f0, x.f1, x.f2⟩ : S130) :: zs) x5 oki [.int .i64 b, .int .i64 x.f1, .slice Ai x.f2.length ci] := (by rw [hw]; exact hs2.1); have n0_ := xm (by rw [← HI.out.2.2.2.1 (⟨x.f0, x.f1, x.f2⟩ : S130) (⟨b, x.f1, x.f2⟩ : S130)]; exact Kd.H_back (x' := (⟨b, x.f1, x.f2⟩ : S130)) hH2 (k130_mkM w1_ w0.heap.size oki (⟨b, x.f1, x.f2⟩ : S130) (Kd.R_grown HG.out hg (fun k_ hk_ e_ => (HO.out k_ hk_).2 (by injection e_)))) (fun _ h_ => h_) : Kd.S k130 130 w1_ w0.heap.size P0_ (.slice (some ⟨go, 0, none⟩) l0.length c0) (ys ++ (⟨b, x.f1, x.f2⟩ : S130) :: zs)); have n1_ := xm (Kept.of_grown hg HK.out (fun k_ e_ => .inl (by have z_ := (Kd.S_R HS.out).1 go rfl; injection e_ with e_; rw [← e_]; exact z_))); have n2_ := xm ((by rw [hw]; exact xt HB.out HI.out.2.2.1) : Below w0.heap.size w0 w1_); clear HS HK HB hs2 hg hH2 hw HH HG HO HC hx0 hz0 hx1 hz1 hx2 hz2; have HS := n0_; have HK := n1_; have HB := n2_; clear n0_ n1_ n2_; obtain ⟨oki, ce, hcl, hM, hcc, hfr, hoki, hH⟩ := Kd.S_elem HS.out z130 x5 HI.out.1 HI.out.2.1; rw [HI.out.2.2.2.2] at hM; obtain ⟨v0, rfl, g0⟩ := k130_openM hM; obtain ⟨Ai, ci, ei⟩ := Kd.R_slice g0; subst ei; have hx0 : w1_.cell? ⟨go, x5.toNat * 3, none⟩ = some (.int .i64 b) := (by have z_ := hcc 0 _ rfl; (try simp only [show (k130).sz = 3 from rfl, Nat.mul_one, Nat.add_zero] at z_); exact z_); have hx1 : w1_.cell? ⟨go, x5.toNat * 3 + 1, none⟩ = some (.int .i64 x.f1) := (by have z_ := hcc 1 _ rfl; (try simp only [show (k130).sz = 3 from rfl, Nat.mul_one, Nat.add_zero] at z_); exact z_); have hx2 : w1_.cell? ⟨go, x5.toNat * 3 + 2, none⟩ = some (.slice Ai x.f2.length ci) := (by have z_ := hcc 2 _ rfl; (try simp only [show (k130).sz = 3 from rfl, Nat.mul_one, Nat.add_zero] at z_); exact z_); have hz0 : w1_.frozen? ⟨go, x5.toNat * 3, none⟩ = false := (by have z_ := hfr 0; (try simp only [show (k130).sz = 3 from rfl, Nat.mul_one, Nat.add_zero] at z_); exact z_); have hz1 : w1_.frozen? ⟨go, x5.toNat * 3 + 1, none⟩ = false := (by have z_ := hfr 1; (try simp only [show (k130).sz = 3 from rfl, Nat.mul_one, Nat.add_zero] at z_); exact z_); have hz2 : w1_.frozen? ⟨go, x5.toNat * 3 + 2, none⟩ = false := (by have z_ := hfr 2; (try simp only [show (k130).sz = 3 from rfl, Nat.mul_one, Nat.add_zero] at z_); exact z_); have HH := xm hH; have HG := xm g0; have HO := xm hoki; have HC := xm hcl; (try clear hM); clear hcl hcc hfr hoki hH g0)
    | ((with_reducible refine gate_store (t := 3) (p := 23) rfl ?_); refine store_event (t := 3) (p := 23) (v := ?vo2) (w1 := (w1_.setCell ⟨go, x5.toNat * 3 + 1, none⟩ (.int .i64 (wrap64 (b + 1))))) ?hg ?ho ?hn ?hr ?_; (case ho => rfl); (case hg => rfl); (case hn => rfl); (case hr => first | (go_simp; done) | (go_simp; rfl)); intro w2_ hw; have hs2 := Kd.H_seg HH.out HI.out.1 HI.out.2.1 (seg := [.int .i64 (wrap64 (b + 1))]) (j := 1) (by show 1 + 1 ≤ 3; decide) (fun q_ hq_ => by rw [List.mem_singleton.1 hq_]; rfl); have hg : w1_.grownBy w2_ (some go) := (by rw [hw]; exact hs2.2); have hH2 : Kd.H k130 130 w2_ w0.heap.size P0_ (.slice (some ⟨go, 0, none⟩) l0.length c0) (ys ++ (⟨b, x.f1, x.f2⟩ : S130) :: zs) x5 oki [.int .i64 b, .int .i64 (wrap64 (b + 1)), .slice Ai x.f2.length ci] := (by rw [hw]; exact hs2.1); have n0_ := xm (by rw [← HI.out.2.2.2.1 (⟨b, x.f1, x.f2⟩ : S130) (⟨b, wrap64 (b + 1), x.f2⟩ : S130)]; exact Kd.H_back (x' := (⟨b, wrap64 (b + 1), x.f2⟩ : S130)) hH2 (k130_mkM w2_ w0.heap.size oki (⟨b, wrap64 (b + 1), x.f2⟩ : S130) (Kd.R_grown HG.out hg (fun k_ hk_ e_ => (HO.out k_ hk_).2 (by injection e_)))) (fun _ h_ => h_) : Kd.S k130 130 w2_ w0.heap.size P0_ (.slice (some ⟨go, 0, none⟩) l0.length c0) (ys ++ (⟨b, wrap64 (b + 1), x.f2⟩ : S130) :: zs)); have n1_ := xm (Kept.of_grown hg HK.out (fun k_ e_ => .inl (by have z_ := (Kd.S_R HS.out).1 go rfl; injection e_ with e_; rw [← e_]; exact z_))); have n2_ := xm ((by rw [hw]; exact xt HB.out HI.out.2.2.1) : Below w0.heap.size w0 w2_); clear HS HK HB hs2 hg hH2 hw HH HG HO HC hx0 hz0 hx1 hz1 hx2 hz2; have HS := n0_; have HK := n1_; have HB := n2_; clear n0_ n1_ n2_; obtain ⟨oki, ce, hcl, hM, hcc, hfr, hoki, hH⟩ := Kd.S_elem HS.out z130 x5 HI.out.1 HI.out.2.1; rw [HI.out.2.2.2.2] at hM; obtain ⟨v0, rfl, g0⟩ := k130_openM hM; obtain ⟨Ai, ci, ei⟩ := Kd.R_slice g0; subst ei; have hx0 : w2_.cell? ⟨go, x5.toNat * 3, none⟩ = some (.int .i64 b) := (by have z_ := hcc 0 _ rfl; (try simp only [show (k130).sz = 3 from rfl, Nat.mul_one, Nat.add_zero] at z_); exact z_); have hx1 : w2_.cell? ⟨go, x5.toNat * 3 + 1, none⟩ = some (.int .i64 (wrap64 (b + 1))) := (by have z_ := hcc 1 _ rfl; (try simp only [show (k130).sz = 3 from rfl, Nat.mul_one, Nat.add_zero] at z_); exact z_); have hx2 : w2_.cell? ⟨go, x5.toNat * 3 + 2, none⟩ = some (.slice Ai x.f2.length ci) := (by have z_ := hcc 2 _ rfl; (try simp only [show (k130).sz = 3 from rfl, Nat.mul_one, Nat.add_zero] at z_); exact z_); have hz0 : w2_.frozen? ⟨go, x5.toNat * 3, none⟩ = false := (by have z_ := hfr 0; (try simp only [show (k130).sz = 3 from rfl, Nat.mul_one, Nat.add_zero] at z_); exact z_); have hz1 : w2_.frozen? ⟨go, x5.toNat * 3 + 1, none⟩ = false := (by have z_ := hfr 1; (try simp only [show (k130).sz = 3 from rfl, Nat.mul_one, Nat.add_zero] at z_); exact z_); have hz2 : w2_.frozen? ⟨go, x5.toNat * 3 + 2, none⟩ = false := (by have z_ := hfr 2; (try simp only [show (k130).sz = 3 from rfl, Nat.mul_one, Nat.add_zero] at z_); exact z_); have HH := xm hH; have HG := xm g0; have HO := xm hoki; have HC := xm hcl; (try clear hM); clear hcl hcc hfr hoki hH g0)
    | (go_at_call 30; refine (laws_markIntS.calls k (fun k_ => some k_ = (.slice Ai x.f2.length ci : Value).ownBlock) (.slice Ai x.f2.length ci) x.f2 (wrap64 (wrap64 (b + 1) + 1)) t1_1 t1_2 w0 _ HB.out (Kd.R_tight rfl HG.out) HAt1.out).mono ?_; rintro e w3_ ⟨rfl, hy, hb, hkp⟩; have n0_ := xm (by rw [← HI.out.2.2.2.1 (⟨b, wrap64 (b + 1), x.f2⟩ : S130) (⟨b, wrap64 (b + 1), t1_2⟩ : S130)]; exact Kd.H_back (x' := (⟨b, wrap64 (b + 1), t1_2⟩ : S130)) (Kd.H_step HH.out (fun k_ _ hn_ hlt_ => hkp.2 k_ hlt_ (fun hs_ => hn_ (HG.out.1 k_ hs_.symm)))) (k130_mkM w3_ w0.heap.size oki (⟨b, wrap64 (b + 1), t1_2⟩ : S130) (Kd.R_reok rfl hy (fun k_ e_ => HG.out.1 k_ e_))) (fun _ h_ => h_) : Kd.S k130 130 w3_ w0.heap.size P0_ (.slice (some ⟨go, 0, none⟩) l0.length c0) (ys ++ (⟨b, wrap64 (b + 1), t1_2⟩ : S130) :: zs)); have n1_ := xm (Kept.then_ HK.out hkp (fun k_ hs_ => .inl (HO.out k_ (HG.out.1 k_ hs_.symm)).1)); have n2_ := xm hb; clear HS HK HB hb hkp hy HH HG HO HC hx0 hz0 hx1 hz1 hx2 hz2; have HS := n0_; have HK := n1_; have HB := n2_; clear n0_ n1_ n2_))
   go_wp2
   go_roundg zs.length
   case measure => have z_ := hzk.out; simp at z_; omega
   case rel =>
    have hw5 : wrap64 (x5 + 1) = x5 + 1 := by have := HL5.out; unfold wrap64; omega
    refine ⟨ys ++ [(⟨b, wrap64 (b + 1), t1_2⟩ : S130)], zs, s_2, t1_1, wrap64 (x5 + 1), (by first | rfl | (simp; done) | (simp [*]; done)), (by first | rfl | (simp; done) | (simp [*]; done)), ⟨?_⟩, ⟨?_⟩, ⟨Nat.le_refl _⟩, HN, ⟨?_⟩, ⟨?_⟩, HK, HB⟩
    ·rw [hw5, HL5.out.1]; simp
    ·have := HL5.out; simp; omega
    ·rw [HR.out, ← HW.out]; simp
    ·have z_ := HS.out; simpa using z_

/-! ### laws_markSink: function 31 -/
def laws_markSink.f (k : Nat) (l0_0 : List Int) (a0_1 : Int) (l0_2 : List Int) (l0_3 : List (S130)) (l0_4 : List Int) (a0_5 : Int) (a0_6 : Int) (a1 : Int) : Option (Int × (List Int) × (List Int) × (List (S130)) × (List Int)) := (laws_markIntS.f k l0_0 a1).bind fun t3b => ((laws_markIntS.f k l0_2 t3b.1).bind fun t4b => ((laws_markPreparedS.f k l0_3 t4b.1).bind fun t5b => ((laws_markIntS.f k l0_4 t5b.1).bind fun t6b => some (t6b.1, t3b.2, t4b.2, t5b.2, t6b.2))))
theorem laws_markSink.mono : ∀ a0_ a1_ a2_ a3_ a4_ a5_ a6_ a7_ k, LeO (laws_markSink.f k a0_ a1_ a2_ a3_ a4_ a5_ a6_ a7_) (laws_markSink.f (k + 1) a0_ a1_ a2_ a3_ a4_ a5_ a6_ a7_) := by
 intro a0_ a1_ a2_ a3_ a4_ a5_ a6_ a7_ k
 unfold laws_markSink.f
 repeat' first
  | (with_reducible exact laws_markIntS.mono _ _ _)
  | (with_reducible exact laws_markPreparedS.mono _ _ _)
  | (with_reducible exact LeO.refl _)
  | (with_reducible exact LeO.none _)
  | (with_reducible refine LeO.ite ?_ ?_)
  | (with_reducible refine LeO.bind ?_ (fun _ => ?_))
  | exact laws_markIntS.mono _ _ _
  | exact laws_markPreparedS.mono _ _ _
theorem laws_markSink.cs7 {w : World} {g t : Nat} {a0 a1 a2 a3 a4 a5 a6 : Value} (h : w.heap[g]? = some (.cells #[a0, a1, a2, a3, a4, a5, a6] t (0, 0))) : w.cell? ⟨g, 0, none⟩ = some a0 ∧ w.frozen? ⟨g, 0, none⟩ = false ∧ w.cell? ⟨g, 1, none⟩ = some a1 ∧ w.frozen? ⟨g, 1, none⟩ = false ∧ w.cell? ⟨g, 2, none⟩ = some a2 ∧ w.frozen? ⟨g, 2, none⟩ = false ∧ w.cell? ⟨g, 3, none⟩ = some a3 ∧ w.frozen? ⟨g, 3, none⟩ = false ∧ w.cell? ⟨g, 4, none⟩ = some a4 ∧ w.frozen? ⟨g, 4, none⟩ = false ∧ w.cell? ⟨g, 5, none⟩ = some a5 ∧ w.frozen? ⟨g, 5, none⟩ = false ∧ w.cell? ⟨g, 6, none⟩ = some a6 ∧ w.frozen? ⟨g, 6, none⟩ = false := ⟨(xc h 0).trans rfl, xf h 0, (xc h 1).trans rfl, xf h 1, (xc h 2).trans rfl, xf h 2, (xc h 3).trans rfl, xf h 3, (xc h 4).trans rfl, xf h 4, (xc h 5).trans rfl, xf h 5, (xc h 6).trans rfl, xf h 6⟩
set_option maxHeartbeats 8000000 in
set_option maxRecDepth 100000 in
theorem laws_markSink.calls (k : Nat) (P0_0_ : Nat → Prop) (u9000_ : Value) (l0_0 : List Int) (a0_1 : Int) (P0_2_ : Nat → Prop) (u9001_ : Value) (l0_2 : List Int) (P0_3_ : Nat → Prop) (u9002_ : Value) (l0_3 : List (S130)) (P0_4_ : Nat → Prop) (u9003_ : Value) (l0_4 : List Int) (a0_5 : Int) (a0_6 : Int) (a1 : Int) (r1 : Int) (r2 : List Int) (r3 : List Int) (r4 : List (S130)) (r5 : List Int) (w0 w : World) (hB : Below w0.heap.size w0 w) (ho0_0 : Kd.R (Kd.int .i64) 3 w w0.heap.size P0_0_ u9000_ l0_0) (ho0_2 : Kd.R (Kd.int .i64) 3 w w0.heap.size P0_2_ u9001_ l0_2) (ho0_3 : Kd.S k130 130 w w0.heap.size P0_3_ u9002_ l0_3) (ho0_4 : Kd.R (Kd.int .i64) 3 w w0.heap.size P0_4_ u9003_ l0_4) (hp0_0_0_2 : ∀ k_, P0_0_ k_ → ¬ P0_2_ k_) (hp0_0_0_3 : ∀ k_, P0_0_ k_ → ¬ P0_3_ k_) (hp0_0_0_4 : ∀ k_, P0_0_ k_ → ¬ P0_4_ k_) (hp0_2_0_3 : ∀ k_, P0_2_ k_ → ¬ P0_3_ k_) (hp0_2_0_4 : ∀ k_, P0_2_ k_ → ¬ P0_4_ k_) (hp0_3_0_4 : ∀ k_, P0_3_ k_ → ¬ P0_4_ k_) (h : laws_markSink.f k l0_0 a0_1 l0_2 l0_3 l0_4 a0_5 a0_6 a1 = some (r1, r2, r3, r4, r5)) :
  Calls Try.prog 31 #[.agg #[u9000_, .int .i64 a0_1, u9001_, u9002_, u9003_, .int .i64 a0_5, .int .i64 a0_6], .int .i64 a1] w fun e w' => e = .returned (.int .i64 r1) ∧ Kd.R (Kd.int .i64) 3 w' w0.heap.size P0_0_ u9000_ r2 ∧ Kd.R (Kd.int .i64) 3 w' w0.heap.size P0_2_ u9001_ r3 ∧ Kd.S k130 130 w' w0.heap.size P0_3_ u9002_ r4 ∧ Kd.R (Kd.int .i64) 3 w' w0.heap.size P0_4_ u9003_ r5 ∧ Below w0.heap.size w0 w' ∧ Kept w w' (fun k_ => P0_0_ k_ ∨ P0_2_ k_ ∨ P0_3_ k_ ∨ P0_4_ k_) := by
 obtain ⟨A0_0, c0_0, rfl⟩ := Kd.R_slice ho0_0
 obtain ⟨A0_2, c0_2, rfl⟩ := Kd.R_slice ho0_2
 obtain ⟨A0_3, c0_3, rfl⟩ := Kd.S_slice ho0_3
 obtain ⟨A0_4, c0_4, rfl⟩ := Kd.R_slice ho0_4
 have F0_0 := xm (Kd.R_mono (ok' := fun k_ => P0_0_ k_ ∧ k_ < w.heap.size) (Kd.R_bound ho0_0) (fun k_ h_ => ⟨h_.1, h_.2.2.1⟩))
 have F0_2 := xm (Kd.R_mono (ok' := fun k_ => P0_2_ k_ ∧ k_ < w.heap.size) (Kd.R_bound ho0_2) (fun k_ h_ => ⟨h_.1, h_.2.2.1⟩))
 have F0_3 := xm (Kd.S_mono (ok' := fun k_ => P0_3_ k_ ∧ k_ < w.heap.size) (Kd.S_bound ho0_3) (fun k_ h_ => ⟨h_.1, h_.2.2.1⟩))
 have F0_4 := xm (Kd.R_mono (ok' := fun k_ => P0_4_ k_ ∧ k_ < w.heap.size) (Kd.R_bound ho0_4) (fun k_ h_ => ⟨h_.1, h_.2.2.1⟩))
 have hu34 := Try.underlying34
 have HB := xm hB
 have HK := xm (Kept.refl w (fun k_ => P0_0_ k_ ∨ P0_2_ k_ ∨ P0_3_ k_ ∨ P0_4_ k_))
 have Z0 := xm hB.size
 clear hB ho0_0 ho0_2 ho0_3 ho0_4
 unfold laws_markSink.f at h
 replace h := Option.bind_eq_some_iff.mp h
 obtain ⟨⟨t3_0, t3_1⟩, t3A0, h⟩ := h
 (try dsimp only at h)
 have t3A := xm t3A0
 clear t3A0
 replace h := Option.bind_eq_some_iff.mp h
 obtain ⟨⟨t4_0, t4_1⟩, t4A0, h⟩ := h
 (try dsimp only at h)
 have t4A := xm t4A0
 clear t4A0
 replace h := Option.bind_eq_some_iff.mp h
 obtain ⟨⟨t5_0, t5_1⟩, t5A0, h⟩ := h
 (try dsimp only at h)
 have t5A := xm t5A0
 clear t5A0
 replace h := Option.bind_eq_some_iff.mp h
 obtain ⟨⟨t6_0, t6_1⟩, t6A0, h⟩ := h
 (try dsimp only at h)
 have t6A := xm t6A0
 clear t6A0
 simp only [Option.some.injEq, Prod.mk.injEq] at h
 obtain ⟨rfl, rfl, rfl, rfl, rfl⟩ := h
 go_enter Try.func31, Try.ntmps31
 go_wp2_with (first
  | ((with_reducible refine gate_dst (N := 2) rfl ?_); refine box_event ?hgq2 (N := 2) ?hdq2 (cs := #[.slice A0_0 l0_0.length c0_0, .int .i64 a0_1, .slice A0_2 l0_2.length c0_2, .slice A0_3 l0_3.length c0_3, .slice A0_4 l0_4.length c0_4, .int .i64 a0_5, .int .i64 a0_6]) (t := 34) ?hrq2 ?_; (case hdq2 => rfl); (case hgq2 => rfl); (case hrq2 => first | (go_simp; done) | (go_simp; rfl)); intro g1 hg_ w1_ hbox_ hb_; have Z1 := xm (hb_.size : w.heap.size ≤ w1_.heap.size); have hk_ := Kept.of_below hb_ (fun _ => False); have m0_ := xm (Kd.R_kept F0_0.out hk_ (fun _ _ h_ => h_)); have m1_ := xm (Kd.R_kept F0_2.out hk_ (fun _ _ h_ => h_)); have m2_ := xm (Kd.S_kept F0_3.out hk_ (fun _ _ h_ => h_)); have m3_ := xm (Kd.R_kept F0_4.out hk_ (fun _ _ h_ => h_)); clear F0_0 F0_2 F0_3 F0_4; have F0_0 := m0_; have F0_2 := m1_; have F0_3 := m2_; have F0_4 := m3_; clear m0_ m1_ m2_ m3_; have m0_ := xm (below_step (w := w0) HB.out hb_); clear HB; have HB := m0_; have m1_ := xm (HK.out.then_ hk_ (fun _ h_ => h_.elim)); clear HK; have HK := m1_; clear m1_; have BKg1 := xm hbox_; have GBg1 : Aside0 (w.heap.size ≤ g1 ∧ g1 < w1_.heap.size) := xm ⟨by rw [hg_]; exact Nat.le_refl _, blk_lt hbox_⟩; clear m0_ hb_ hbox_ hg_ hk_; obtain ⟨hcg1_0, hfg1_0, hcg1_1, hfg1_1, hcg1_2, hfg1_2, hcg1_3, hfg1_3, hcg1_4, hfg1_4, hcg1_5, hfg1_5, hcg1_6, hfg1_6⟩ := laws_markSink.cs7 BKg1.out)
  | ((with_reducible refine gate_callee (f := 30) rfl ?_); refine goesL_ (some 8) rfl rfl Try.func30 (by kernel_rfl) rfl #[.slice A0_0 l0_0.length c0_0, .int .i64 a1] rfl (by (try simp only [List.map_toArray, List.map_cons, List.map_nil]); first | done | rfl) ?_; refine (laws_markIntS.calls k (fun k_ => P0_0_ k_ ∧ k_ < w.heap.size) (.slice A0_0 l0_0.length c0_0) l0_0 a1 t3_0 t3_1 w0 _ HB.out F0_0.out t3A.out).mono ?_; rintro e w2_ ⟨rfl, h0_, hb_, hkp_⟩; refine ⟨_, rfl, ?_⟩; have Z2 := xm (hkp_.1 : w1_.heap.size ≤ w2_.heap.size); have yF0_0 := xm (Kd.R_reok rfl h0_ (fun k_ e_ => F0_0.out.1 k_ e_)); have m0_ := xm (Kd.R_kept F0_2.out hkp_ (fun k_ h_ h2_ => by exact (fun k_ h_ h2_ => hp0_0_0_2 k_ h2_ h_) k_ h_.1 h2_.1)); have m1_ := xm (Kd.S_kept F0_3.out hkp_ (fun k_ h_ h2_ => by exact (fun k_ h_ h2_ => hp0_0_0_3 k_ h2_ h_) k_ h_.1 h2_.1)); have m2_ := xm (Kd.R_kept F0_4.out hkp_ (fun k_ h_ h2_ => by exact (fun k_ h_ h2_ => hp0_0_0_4 k_ h2_ h_) k_ h_.1 h2_.1)); have m3_ := xm (blk_kept BKg1.out hkp_ (fun h2_ => by have u_ := GBg1.out; have u2_ := h2_.2; omega)); clear F0_2 F0_3 F0_4 BKg1; have F0_2 := m0_; have F0_3 := m1_; have F0_4 := m2_; have BKg1 := m3_; clear m0_ m1_ m2_ m3_; clear F0_0; have F0_0 := yF0_0; clear yF0_0; clear HB; have HB := xm hb_; have m1_ := xm (HK.out.then_ hkp_ (fun _ h_ => .inl (.inl h_.1))); clear HK; have HK := m1_; clear m1_; clear hb_ hkp_ h0_; (try clear LEF0_0); have LEF0_0 := xm (Kd.R_reads' F0_0.out).1; clear hcg1_0 hfg1_0 hcg1_1 hfg1_1 hcg1_2 hfg1_2 hcg1_3 hfg1_3 hcg1_4 hfg1_4 hcg1_5 hfg1_5 hcg1_6 hfg1_6; obtain ⟨hcg1_0, hfg1_0, hcg1_1, hfg1_1, hcg1_2, hfg1_2, hcg1_3, hfg1_3, hcg1_4, hfg1_4, hcg1_5, hfg1_5, hcg1_6, hfg1_6⟩ := laws_markSink.cs7 BKg1.out)
  | ((with_reducible refine gate_callee (f := 30) rfl ?_); refine goesL_ (some 12) rfl rfl Try.func30 (by kernel_rfl) rfl #[.slice A0_2 l0_2.length c0_2, .int .i64 t3_0] rfl (by (try simp only [List.map_toArray, List.map_cons, List.map_nil]); first | done | rfl) ?_; refine (laws_markIntS.calls k (fun k_ => P0_2_ k_ ∧ k_ < w.heap.size) (.slice A0_2 l0_2.length c0_2) l0_2 t3_0 t4_0 t4_1 w0 _ HB.out F0_2.out t4A.out).mono ?_; rintro e w3_ ⟨rfl, h0_, hb_, hkp_⟩; refine ⟨_, rfl, ?_⟩; have Z3 := xm (hkp_.1 : w2_.heap.size ≤ w3_.heap.size); have yF0_2 := xm (Kd.R_reok rfl h0_ (fun k_ e_ => F0_2.out.1 k_ e_)); have m0_ := xm (Kd.R_kept F0_0.out hkp_ (fun k_ h_ h2_ => by exact hp0_0_0_2 k_ h_.1 h2_.1)); have m1_ := xm (Kd.S_kept F0_3.out hkp_ (fun k_ h_ h2_ => by exact (fun k_ h_ h2_ => hp0_2_0_3 k_ h2_ h_) k_ h_.1 h2_.1)); have m2_ := xm (Kd.R_kept F0_4.out hkp_ (fun k_ h_ h2_ => by exact (fun k_ h_ h2_ => hp0_2_0_4 k_ h2_ h_) k_ h_.1 h2_.1)); have m3_ := xm (blk_kept BKg1.out hkp_ (fun h2_ => by have u_ := GBg1.out; have u2_ := h2_.2; omega)); clear F0_0 F0_3 F0_4 BKg1; have F0_0 := m0_; have F0_3 := m1_; have F0_4 := m2_; have BKg1 := m3_; clear m0_ m1_ m2_ m3_; clear F0_2; have F0_2 := yF0_2; clear yF0_2; clear HB; have HB := xm hb_; have m1_ := xm (HK.out.then_ hkp_ (fun _ h_ => .inl (.inr (.inl h_.1)))); clear HK; have HK := m1_; clear m1_; clear hb_ hkp_ h0_; (try clear LEF0_2); have LEF0_2 := xm (Kd.R_reads' F0_2.out).1; clear hcg1_0 hfg1_0 hcg1_1 hfg1_1 hcg1_2 hfg1_2 hcg1_3 hfg1_3 hcg1_4 hfg1_4 hcg1_5 hfg1_5 hcg1_6 hfg1_6; obtain ⟨hcg1_0, hfg1_0, hcg1_1, hfg1_1, hcg1_2, hfg1_2, hcg1_3, hfg1_3, hcg1_4, hfg1_4, hcg1_5, hfg1_5, hcg1_6, hfg1_6⟩ := laws_markSink.cs7 BKg1.out)
  | ((with_reducible refine gate_callee (f := 92) rfl ?_); refine goesL_ (some 16) rfl rfl Try.func92 (by kernel_rfl) rfl #[.slice A0_3 l0_3.length c0_3, .int .i64 t4_0] rfl (by (try simp only [List.map_toArray, List.map_cons, List.map_nil]); first | done | rfl) ?_; refine (laws_markPreparedS.calls k (fun k_ => P0_3_ k_ ∧ k_ < w.heap.size) (.slice A0_3 l0_3.length c0_3) l0_3 t4_0 t5_0 t5_1 w0 _ HB.out F0_3.out t5A.out).mono ?_; rintro e w4_ ⟨rfl, h0_, hb_, hkp_⟩; refine ⟨_, rfl, ?_⟩; have Z4 := xm (hkp_.1 : w3_.heap.size ≤ w4_.heap.size); have yF0_3 := xm h0_; have m0_ := xm (Kd.R_kept F0_0.out hkp_ (fun k_ h_ h2_ => by exact hp0_0_0_3 k_ h_.1 h2_.1)); have m1_ := xm (Kd.R_kept F0_2.out hkp_ (fun k_ h_ h2_ => by exact hp0_2_0_3 k_ h_.1 h2_.1)); have m2_ := xm (Kd.R_kept F0_4.out hkp_ (fun k_ h_ h2_ => by exact (fun k_ h_ h2_ => hp0_3_0_4 k_ h2_ h_) k_ h_.1 h2_.1)); have m3_ := xm (blk_kept BKg1.out hkp_ (fun h2_ => by have u_ := GBg1.out; have u2_ := h2_.2; omega)); clear F0_0 F0_2 F0_4 BKg1; have F0_0 := m0_; have F0_2 := m1_; have F0_4 := m2_; have BKg1 := m3_; clear m0_ m1_ m2_ m3_; clear F0_3; have F0_3 := yF0_3; clear yF0_3; clear HB; have HB := xm hb_; have m1_ := xm (HK.out.then_ hkp_ (fun _ h_ => .inl (.inr (.inr (.inl h_.1))))); clear HK; have HK := m1_; clear m1_; clear hb_ hkp_ h0_; (try clear LEF0_3); have LEF0_3 := xm (Kd.S_reads' F0_3.out).1; clear hcg1_0 hfg1_0 hcg1_1 hfg1_1 hcg1_2 hfg1_2 hcg1_3 hfg1_3 hcg1_4 hfg1_4 hcg1_5 hfg1_5 hcg1_6 hfg1_6; obtain ⟨hcg1_0, hfg1_0, hcg1_1, hfg1_1, hcg1_2, hfg1_2, hcg1_3, hfg1_3, hcg1_4, hfg1_4, hcg1_5, hfg1_5, hcg1_6, hfg1_6⟩ := laws_markSink.cs7 BKg1.out)
  | ((with_reducible refine gate_callee (f := 30) rfl ?_); refine goesL_ (some 20) rfl rfl Try.func30 (by kernel_rfl) rfl #[.slice A0_4 l0_4.length c0_4, .int .i64 t5_0] rfl (by (try simp only [List.map_toArray, List.map_cons, List.map_nil]); first | done | rfl) ?_; refine (laws_markIntS.calls k (fun k_ => P0_4_ k_ ∧ k_ < w.heap.size) (.slice A0_4 l0_4.length c0_4) l0_4 t5_0 t6_0 t6_1 w0 _ HB.out F0_4.out t6A.out).mono ?_; rintro e w5_ ⟨rfl, h0_, hb_, hkp_⟩; refine ⟨_, rfl, ?_⟩; have Z5 := xm (hkp_.1 : w4_.heap.size ≤ w5_.heap.size); have yF0_4 := xm (Kd.R_reok rfl h0_ (fun k_ e_ => F0_4.out.1 k_ e_)); have m0_ := xm (Kd.R_kept F0_0.out hkp_ (fun k_ h_ h2_ => by exact hp0_0_0_4 k_ h_.1 h2_.1)); have m1_ := xm (Kd.R_kept F0_2.out hkp_ (fun k_ h_ h2_ => by exact hp0_2_0_4 k_ h_.1 h2_.1)); have m2_ := xm (Kd.S_kept F0_3.out hkp_ (fun k_ h_ h2_ => by exact hp0_3_0_4 k_ h_.1 h2_.1)); have m3_ := xm (blk_kept BKg1.out hkp_ (fun h2_ => by have u_ := GBg1.out; have u2_ := h2_.2; omega)); clear F0_0 F0_2 F0_3 BKg1; have F0_0 := m0_; have F0_2 := m1_; have F0_3 := m2_; have BKg1 := m3_; clear m0_ m1_ m2_ m3_; clear F0_4; have F0_4 := yF0_4; clear yF0_4; clear HB; have HB := xm hb_; have m1_ := xm (HK.out.then_ hkp_ (fun _ h_ => .inl (.inr (.inr (.inr h_.1))))); clear HK; have HK := m1_; clear m1_; clear hb_ hkp_ h0_; (try clear LEF0_4); have LEF0_4 := xm (Kd.R_reads' F0_4.out).1; clear hcg1_0 hfg1_0 hcg1_1 hfg1_1 hcg1_2 hfg1_2 hcg1_3 hfg1_3 hcg1_4 hfg1_4 hcg1_5 hfg1_5 hcg1_6 hfg1_6; obtain ⟨hcg1_0, hfg1_0, hcg1_1, hfg1_1, hcg1_2, hfg1_2, hcg1_3, hfg1_3, hcg1_4, hfg1_4, hcg1_5, hfg1_5, hcg1_6, hfg1_6⟩ := laws_markSink.cs7 BKg1.out))
 go_wp2
 go_ret
 exact ⟨rfl, Kd.R_mono F0_0.out (fun _ h_ => h_.1), Kd.R_mono F0_2.out (fun _ h_ => h_.1), Kd.S_mono F0_3.out (fun _ h_ => h_.1), Kd.R_mono F0_4.out (fun _ h_ => h_.1), HB.out, HK.out⟩

end Go.Proofs.Ytpbpglbldgpckaa.G
