/- Written by a program of this claim's own, out of the translation: functions of the program as plain functions, and that the calls answer as these. No conditions. -/
import Derived.Test.YtpbpglbldgpckaaG0
import Derived.Test.YtpbpglbldgpckaaG6
import Derived.Test.YtpbpglbldgpckaaG23
import Derived.Test.YtpbpglbldgpckaaG24
import Derived.Test.YtpbpglbldgpckaaG27
import Derived.Test.YtpbpglbldgpckaaG31
import Derived.Test.YtpbpglbldgpckaaG32
import Derived.Test.YtpbpglbldgpckaaG35
import Derived.Test.YtpbpglbldgpckaaG36
import Derived.Test.YtpbpglbldgpckaaG37
namespace Go.Proofs.Ytpbpglbldgpckaa.G
open Go.RowKit Go.Proofs.Ytpbpglbldgpckaa.X Go.Proofs.YtpbpglbldgpckaaW.PrintWords Go.Proofs.YtpbpglbldgpckaaW.PrintLast Go.Proofs.YtpbpglbldgpckaaW.PrintMore
attribute [local go_sem] max2_int min2_int max_two min_two max_three min_three max_four min_four   -- for this text's walks alone
set_option linter.unusedVariables false
set_option linter.unusedSimpArgs false

/-! ### impl_SlideOver: function 41 -/
def impl_SlideOver.pp (k : Nat) (F S B : List S51) (a b : Int) : Option ((List S51) × (List S51) × (List S51) × Int × Int) :=
 if F.length = 0 then (if 0 < B.length then ((slices_Reverse_Limpl_Map_impl_Map.f k B).bind fun F1 => (impl_sumsOf.f k F1).bind fun S1 => if S1.length = F1.length then some (tailOf F1, tailOf S1, ([] : List S51), 1, 0) else none) else none) else (if S.length = F.length then some (tailOf F, tailOf S, B, a, b) else none)
def impl_SlideOver.l0 : Nat → List S51 → Int → List S51 → List S51 → List S51 → Int → Int → List S51 → Int → Option ((List S51) × Bool)
 | 0, _, _, _, _, _, _, _, _, _ => none
 | k + 1, l, wide, F, S, B, a, b, out, i => if i < (l.length : Int) then (if 0 ≤ i then ((if (wrap64 ((F.length : Int) + (B.length : Int)) == wide) = true then impl_SlideOver.pp k F S B a b else some (F, S, B, a, b)).bind fun o => if o.2.2.1.length < 8796093022208 then ((impl_Map_then.f o.2.2.2.1 o.2.2.2.2 (rd_T51 l i).f0 (rd_T51 l i).f1).bind fun s => (impl_Window_sum.f o.1 o.2.1 (o.2.2.1 ++ [(⟨(rd_T51 l i).f0, (rd_T51 l i).f1⟩ : S51)]) s.1 s.2).bind fun t => if out.length < 8796093022208 then impl_SlideOver.l0 k l wide o.1 o.2.1 (o.2.2.1 ++ [(⟨(rd_T51 l i).f0, (rd_T51 l i).f1⟩ : S51)]) s.1 s.2 (out ++ [(⟨t.1, t.2⟩ : S51)]) (wrap64 (i + 1)) else none) else none) else none) else some (out, true)
def impl_SlideOver.f (k : Nat) (l0 : List (S51)) (a1 : Int) : Option ((List (S51)) × Bool) := if (l0.length : Int) > 100 then some (([] : List S51), false) else ((impl_areAll_impl_Map__impl_GoodMap.f l0).bind fun t => if t = true then ((impl_within.f a1 1 60).bind fun t2 => if t2 = true then impl_SlideOver.l0 k l0 a1 [] [] [] 1 0 [] 0 else some (([] : List S51), false)) else some (([] : List S51), false))
theorem impl_SlideOver.mono_pp (k : Nat) (F S B : List S51) (a b : Int) : LeO (impl_SlideOver.pp k F S B a b) (impl_SlideOver.pp (k + 1) F S B a b) :=
 LeO.ite (LeO.ite (LeO.bind (slices_Reverse_Limpl_Map_impl_Map.mono B k) (fun _ => LeO.bind (impl_sumsOf.mono _ k) (fun _ => LeO.refl _))) (LeO.refl _)) (LeO.refl _)
theorem impl_SlideOver.mono_l : ∀ k y0 y1 y2 y3 y4 y5 y6 y7 y8, LeO (impl_SlideOver.l0 k y0 y1 y2 y3 y4 y5 y6 y7 y8) (impl_SlideOver.l0 (k + 1) y0 y1 y2 y3 y4 y5 y6 y7 y8)
 | 0 => fun _ _ _ _ _ _ _ _ _ r h => by simp [impl_SlideOver.l0] at h
 | k + 1 => by
  intro y0 y1 y2 y3 y4 y5 y6 y7 y8
  rw [impl_SlideOver.l0, impl_SlideOver.l0]
  refine LeO.ite (LeO.ite (LeO.bind (LeO.ite (impl_SlideOver.mono_pp k y2 y3 y4 y5 y6) (LeO.refl _)) (fun _ => LeO.ite (LeO.bind (LeO.refl _) (fun _ => LeO.bind (LeO.refl _) (fun _ => LeO.ite (impl_SlideOver.mono_l k _ _ _ _ _ _ _ _ _) (LeO.refl _)))) (LeO.refl _))) (LeO.refl _)) (LeO.refl _)
theorem impl_SlideOver.mono : ∀ a0 a1 k, LeO (impl_SlideOver.f k a0 a1) (impl_SlideOver.f (k + 1) a0 a1) := fun a0 a1 k =>
 LeO.ite (LeO.refl _) (LeO.bind (LeO.refl _) (fun _ => LeO.ite (LeO.bind (LeO.refl _) (fun _ => LeO.ite (impl_SlideOver.mono_l k _ _ _ _ _ _ _ _ _) (LeO.refl _))) (LeO.refl _)))
theorem WinAt.tight {W : World} {base g : Nat} {Pw : Nat → Prop} {F S B : List S51} {a b : Int} (h : WinAt W base g Pw F S B a b) : WinAt W base g (fun k => Pw k ∧ k < W.heap.size) F S B a b := by
 obtain ⟨vf, vs, vb, h⟩ := h.v
 exact (WinV.mk h.blk h.rf h.rs h.rb (fun k hk => ⟨(h.df k hk).1, (h.df k hk).2.1, (h.df k hk).2.2.1, (h.df k hk).2.2.2, Kd.R_lt h.rf k hk.symm⟩) (fun k hk => ⟨(h.ds k hk).1, (h.ds k hk).2.1, (h.ds k hk).2.2, Kd.R_lt h.rs k hk.symm⟩) (fun k hk => ⟨(h.db k hk).1, (h.db k hk).2, Kd.R_lt h.rb k hk.symm⟩) ⟨h.inn, blk_lt h.blk⟩ h.ge).at
theorem WinAt.kept {W W2 : World} {base g : Nat} {Pw T : Nat → Prop} {F S B : List S51} {a b : Int} (h : WinAt W base g Pw F S B a b) (hk : Kept W W2 T) (hd : ∀ k, Pw k → ¬ T k) : WinAt W2 base g Pw F S B a b := by
 obtain ⟨vf, vs, vb, h⟩ := h.v
 exact (WinV.mk (blk_kept h.blk hk (hd g h.inn)) (Kd.R_kept h.rf hk (fun k e => hd k (h.df k e).2.2.2)) (Kd.R_kept h.rs hk (fun k e => hd k (h.ds k e).2.2)) (Kd.R_kept h.rb hk (fun k e => hd k (h.db k e).2)) h.df h.ds h.db h.inn h.ge).at
theorem WinAt.below {W W2 : World} {base g : Nat} {Pw : Nat → Prop} {F S B : List S51} {a b : Int} (h : WinAt W base g Pw F S B a b) (hb : Below W.heap.size W W2) : WinAt W2 base g Pw F S B a b := by
 obtain ⟨vf, vs, vb, h⟩ := h.v
 exact (h.below hb).at
theorem WinAt.mono {W : World} {base g : Nat} {Pw Pw' : Nat → Prop} {F S B : List S51} {a b : Int} (h : WinAt W base g Pw F S B a b) (hp : ∀ k, Pw k → Pw' k) : WinAt W base g Pw' F S B a b := by
 obtain ⟨vf, vs, vb, h⟩ := h.v
 exact (h.mono hp).at
/-- A window that a call just made lies whole in a new block. -/
theorem WinAt.new {W : World} {base : Nat} {v0 v1 v2 : Value} {F S B : List S51} {a b : Int} {n : Nat} (hn : base ≤ n) (h0 : Kd.R k51 51 W n (fun k_ => some k_ ≠ v1.ownBlock ∧ some k_ ≠ v2.ownBlock) v0 F) (h1 : Kd.R k51 51 W n (fun k_ => some k_ ≠ v0.ownBlock ∧ some k_ ≠ v2.ownBlock) v1 S) (h2 : Kd.R k51 51 W n (fun k_ => some k_ ≠ v0.ownBlock ∧ some k_ ≠ v1.ownBlock) v2 B) (hb : base ≤ W.heap.size) :
  WinAt (W.alloc (.cells #[v0, v1, v2, .int .i64 a, .int .i64 b] 53)) base W.heap.size (fun k => k < (W.alloc (.cells #[v0, v1, v2, .int .i64 a, .int .i64 b] 53)).heap.size) F S B a b := by
 have hz : (W.alloc (.cells #[v0, v1, v2, .int .i64 a, .int .i64 b] 53)).heap.size = W.heap.size + 1 := by simp
 have al : Below W.heap.size W (W.alloc (.cells #[v0, v1, v2, .int .i64 a, .int .i64 b] 53)) := xa (Below.refl _ _) _
 have l0 := Kd.R_lt h0
 have l1 := Kd.R_lt h1
 have l2 := Kd.R_lt h2
 refine (WinV.mk (blk_new W _) (Kd.R_below (Kd.R_own (Kd.R_lower h0 hn)) al) (Kd.R_below (Kd.R_own (Kd.R_lower h1 hn)) al) (Kd.R_below (Kd.R_own (Kd.R_lower h2 hn)) al) (fun k e => ⟨(h0.1 k e.symm).1, (h0.1 k e.symm).2, ?_, ?_⟩) (fun k e => ⟨(h1.1 k e.symm).2, ?_, ?_⟩) (fun k e => ⟨?_, ?_⟩) ?_ hb).at
 all_goals first | (have := l0 k e.symm; omega) | (have := l1 k e.symm; omega) | (have := l2 k e.symm; omega) | omega
set_option maxHeartbeats 8000000 in
set_option maxRecDepth 100000 in
theorem impl_SlideOver.calls (k : Nat) (A0 : Option Addr) (c0 : Nat) (l0 : List (S51)) (a1 : Int) (r1 : List (S51)) (r2 : Bool) (w : World) (hr0 : Kd.C k51 w A0 l0.length l0) (hc0 : l0.length ≤ c0) (h : impl_SlideOver.f k l0 a1 = some (r1, r2)) :
 Calls Try.prog 41 #[.slice A0 l0.length c0, .int .i64 a1] w fun e w' => ∃ v0_ : Value, e = .returned (.tuple #[v0_, .bool r2]) ∧ Kd.R k51 51 w' w.heap.size (fun _ => True) v0_ r1 ∧ Below w.heap.size w w' := by
 have hu53 := Try.underlying53
 have hu51 := Try.underlying51
 have hu50 := Try.underlying50
 have HR0 := xm hr0
 have HC0 := xm hc0
 clear hr0 hc0
 have HB := xm (Below.refl w.heap.size w)
 unfold impl_SlideOver.f at h
 by_cases c1 : (l0.length : Int) > 100
 ·rw [if_pos c1] at h
  have c1b : decide (100 < (l0.length : Int)) = true := decide_eq_true c1
  clear c1
  simp only [Option.some.injEq, Prod.mk.injEq] at h
  obtain ⟨rfl, rfl⟩ := h
  go_enter Try.func41, Try.ntmps41
  go_wp2
  go_ret2
  exact ⟨.slice none 0 0, rfl, Kd.R_nil _ _ _ _ _, HB.out⟩
 rw [if_neg c1] at h
 have c1b : decide (100 < (l0.length : Int)) = false := decide_eq_false c1
 clear c1
 obtain ⟨t, t0, h⟩ := Option.bind_eq_some_iff.mp h
 have T0 := xm t0
 clear t0
 cases t with
 | false =>
  rw [if_neg (by simp)] at h
  simp only [Option.some.injEq, Prod.mk.injEq] at h
  obtain ⟨rfl, rfl⟩ := h
  go_enter Try.func41, Try.ntmps41
  go_wp2_with (first
   | (go_at_call 97; refine (impl_areAll_impl_Map__impl_GoodMap.calls _ _ l0 _ _ (Kd.C_below HR0.out HB.out) HC0.out T0.out).mono ?_; rintro e w4 ⟨rfl, hb⟩; have n0_ := xm (below_step HB.out hb); clear HB hb; have HB := n0_; clear n0_))
  go_ret2
  exact ⟨.slice none 0 0, rfl, Kd.R_nil _ _ _ _ _, HB.out⟩
 | true =>
  rw [if_pos rfl] at h
  obtain ⟨t2, t1, h⟩ := Option.bind_eq_some_iff.mp h
  have T1 := xm t1
  clear t1
  cases t2 with
  | false =>
   rw [if_neg (by simp)] at h
   simp only [Option.some.injEq, Prod.mk.injEq] at h
   obtain ⟨rfl, rfl⟩ := h
   go_enter Try.func41, Try.ntmps41
   go_wp2_with (first
    | (go_at_call 97; refine (impl_areAll_impl_Map__impl_GoodMap.calls _ _ l0 _ _ (Kd.C_below HR0.out HB.out) HC0.out T0.out).mono ?_; rintro e w4 ⟨rfl, hb⟩; have n0_ := xm (below_step HB.out hb); clear HB hb; have HB := n0_; clear n0_)
    | (go_at_call 86; refine (impl_within.calls a1 1 60 _ _ T1.out).mono ?_; rintro e w5 ⟨rfl, hd⟩; have n0_ := xm (below_step HB.out hd.below); clear HB hd; have HB := n0_; clear n0_))
   go_ret2
   exact ⟨.slice none 0 0, rfl, Kd.R_nil _ _ _ _ _, HB.out⟩
  | true =>
   rw [if_pos rfl] at h
   have H' := xm h
   clear h
   go_enter Try.func41, Try.ntmps41
   go_wp2_with (first
    | (go_at_call 97; refine (impl_areAll_impl_Map__impl_GoodMap.calls _ _ l0 _ _ (Kd.C_below HR0.out HB.out) HC0.out T0.out).mono ?_; rintro e w4 ⟨rfl, hb⟩; have n0_ := xm (below_step HB.out hb); clear HB hb; have HB := n0_; clear n0_)
    | (go_at_call 86; refine (impl_within.calls a1 1 60 _ _ T1.out).mono ?_; rintro e w5 ⟨rfl, hd⟩; have n0_ := xm (below_step HB.out hd.below); clear HB hd; have HB := n0_; clear n0_)
    | (go_at_call 103; refine (impl_NewWindow.calls [] [] [] 1 0 _ rfl).mono ?_; rintro e wn ⟨v0, v1, v2, rfl, h0, h1, h2, hb⟩; obtain ⟨x0, y0, rfl⟩ := Kd.R_slice h0; obtain ⟨x1, y1, rfl⟩ := Kd.R_slice h1; obtain ⟨x2, y2, rfl⟩ := Kd.R_slice h2; have n0_ := xm (below_step HB.out hb); have hwn := WinAt.new (a := 1) (b := 0) HB.out.size h0 h1 h2 n0_.out.size; clear HB hb h0 h1 h2; have HB := n0_; clear n0_))
   obtain ⟨gw, hgw⟩ : ∃ q, wn.heap.size = q := ⟨_, rfl⟩
   rw [hgw] at hwn ⊢
   have HW0 := xm hwn
   have HZ0 := xm (show (wn.alloc (Obj.cells #[.slice x0 ([] : List S51).length y0, .slice x1 ([] : List S51).length y1, .slice x2 ([] : List S51).length y2, .int .i64 1, .int .i64 0] 53)).heap.size = gw + 1 from by rw [← hgw]; simp)
   have HB2 := xm (xa HB.out (Obj.cells #[.slice x0 ([] : List S51).length y0, .slice x1 ([] : List S51).length y1, .slice x2 ([] : List S51).length y2, .int .i64 1, .int .i64 0] 53))
   clear hwn hgw HB
   generalize wn.alloc (Obj.cells #[.slice x0 ([] : List S51).length y0, .slice x1 ([] : List S51).length y1, .slice x2 ([] : List S51).length y2, .int .i64 1, .int .i64 0] 53) = ws at HW0 HZ0 HB2 ⊢
   clear HZ0
   go_loopg [7, 26] k (fun kq v7 v26 w' => ∃ (F S B : List S51) (a b : Int) (out : List S51) (i : Int) (Pw : Nat → Prop), v26 = .int .i64 i ∧ Aside0 (impl_SlideOver.l0 kq l0 a1 F S B a b out i = some (r1, r2)) ∧ Aside0 (kq ≤ k) ∧ Aside0 (WinAt w' w.heap.size gw Pw F S B a b) ∧ Aside0 (∀ q, Pw q → q < w'.heap.size) ∧ Aside0 (Kd.R k51 51 w' w.heap.size (fun q => ¬ Pw q) v7 out) ∧ Aside0 (Below w.heap.size w w'))
   case atStart => exact ⟨[], [], [], 1, 0, [], 0, _, rfl, H', ⟨Nat.le_refl _⟩, HW0, ⟨fun _ h => h⟩, ⟨Kd.R_nil _ _ _ _ _⟩, HB2⟩
   case round =>
    clear H' HB2 HW0
    obtain ⟨F, S, B, a, b, out, i, Pw, rfl, HA, HK1, HW, HP, HO, HB⟩ := hrel
    cases gk with
    | zero => exact absurd HA.out (by simp [impl_SlideOver.l0])
    | succ k1 =>
     have H := HA.out
     clear HA
     simp only [impl_SlideOver.l0] at H
     by_cases c4 : i < (l0.length : Int)
     case neg =>
      rw [if_neg c4] at H
      have c4b : decide (i < (l0.length : Int)) = false := decide_eq_false c4
      clear c4
      simp only [Option.some.injEq, Prod.mk.injEq] at H
      obtain ⟨rfl, rfl⟩ := H
      go_wp2
      go_ret2
      exact ⟨_, rfl, Kd.R_mono HO.out (fun _ _ => trivial), HB.out⟩
     rw [if_pos c4] at H
     by_cases c5 : 0 ≤ i
     case neg => rw [if_neg c5] at H; cases H
     rw [if_pos c5] at H
     obtain ⟨⟨F2, S2, B2, a2, b2⟩, hpp, H⟩ := Option.bind_eq_some_iff.mp H
     dsimp only at H
     by_cases c7 : B2.length < 8796093022208
     case neg => rw [if_neg c7] at H; cases H
     rw [if_pos c7] at H
     obtain ⟨⟨s0, s1⟩, hm, H⟩ := Option.bind_eq_some_iff.mp H
     dsimp only at H
     obtain ⟨⟨t0, t1⟩, hs, H⟩ := Option.bind_eq_some_iff.mp H
     dsimp only at H
     by_cases c8 : out.length < 8796093022208
     case neg => rw [if_neg c8] at H; cases H
     rw [if_pos c8] at H
     have H' := xm H
     obtain ⟨BB, hBB⟩ : ∃ BB, B2 ++ [(⟨(rd_T51 l0 i).f0, (rd_T51 l0 i).f1⟩ : S51)] = BB := ⟨_, rfl⟩
     rw [hBB] at hs
     have HBB := xm hBB
     have C7 := xm c7
     have C8 := xm c8
     have M0 := xm hm
     have Q0 := xm hs
     have PP := xm hpp
     clear H hBB c7 c8 hm hs hpp
     obtain ⟨ad, e0, hx0, hx1⟩ := at_T51 (Kd.C_below HR0.out HB.out) i c5 c4
     cases e0
     have c4b : decide (i < (l0.length : Int)) = true := decide_eq_true c4
     obtain ⟨vf, vs, vb, hV⟩ := HW.out.v
     obtain ⟨Af, cf, rfl⟩ := Kd.R_slice hV.rf
     obtain ⟨As, cs, rfl⟩ := Kd.R_slice hV.rs
     obtain ⟨Ab, cb, rfl⟩ := Kd.R_slice hV.rb
     have HV := xm hV
     clear hV
     have HO2 := xm (Kd.R_mono (ok' := fun q => ¬ Pw q ∧ q < wr.heap.size) (Kd.R_bound HO.out) (fun q h => ⟨h.1, h.2.2.1⟩))
     have HZr := xm HB.out.size
     clear HO
     obtain ⟨ls, hls⟩ : ∃ ls : Int, wrap64 ((F.length : Int) + (B.length : Int)) = ls := ⟨_, rfl⟩
     have hlw : IntKind.i64.wrap ((F.length : Int) + (B.length : Int)) = ls := (i64_w _).trans hls
     rw [hls] at PP
     obtain ⟨hc0, hc1, hc2, hc3, hc4⟩ := HV.out.cells
     by_cases cw : (ls == a1) = true
     case neg =>
      have cwb : (ls == a1) = false := Bool.eq_false_iff.mpr cw
      have cwd : decide (ls = a1) = false := by simpa using cw
      have pp := PP.out
      rw [if_neg cw] at pp
      simp only [Option.some.injEq, Prod.mk.injEq] at pp
      obtain ⟨rfl, rfl, rfl, rfl, rfl⟩ := pp
      clear cw PP
      have HPS := xm (show ∀ q, Pw q → Pw q ∨ wr.heap.size ≤ q from fun q h => .inl h)
      go_wp2_with (first
       | ((with_reducible refine gate_dst (N := 9) rfl ?_); refine box_event ?hgzk (N := 9) ?hdzk (cs := #[.int .i64 0, .int .i64 0]) (t := 51) ?hrzk ?_; (case hdzk => rfl); (case hgzk => rfl); (case hrzk => first | (go_simp; done) | (go_simp; rfl)); intro g9 hg_ w1 hbox hbb; have B9 := xm hbox; have N9 := xm (show ¬ Pw g9 ∧ wr.heap.size ≤ g9 ∧ w.heap.size ≤ g9 from ⟨fun h => by have := HP.out g9 h; omega, by omega, by have := HB.out.size; omega⟩); have n0_ := xm (below_step HB.out hbb); have n1_ := xm (HW.out.below hbb); have n2_ := xm (HV.out.below hbb); have n3_ := xm (Kd.R_below HO2.out hbb); clear HB HW HV HO2; have HB := n0_; have HW := n1_; have HV := n2_; have HO2 := n3_; clear n0_ n1_ n2_ n3_; have HG1 := xm (Nat.le_of_lt (blk_lt B9.out)); have hx0' := (pw_cell_below hbb hx0); have hx1' := (pw_cell_below hbb hx1); have HS1 := xm hbb.size; clear hg_ hbox hbb hx0 hx1; clear hc0 hc1 hc2 hc3 hc4; obtain ⟨hc0, hc1, hc2, hc3, hc4⟩ := HV.out.cells; have y0 := (xc B9.out 0).trans rfl; have y1 := (xc B9.out 1).trans rfl; have f0 := xf B9.out 0; have f1 := xf B9.out 1)
       | ((with_reducible refine gate_store (t := 51) (p := 9) rfl ?_); refine store_event (t := 51) (p := 9) (v := ?vozs) (w1 := ((w1.setCell ⟨g9, 0, none⟩ (.int .i64 (rd_T51 l0 i).f0)).setCell ⟨g9, 1, none⟩ (.int .i64 (rd_T51 l0 i).f1))) ?hgzs ?hozs ?hnzs ?hrzs ?_; (case hozs => rfl); (case hgzs => rfl); (case hnzs => rfl); (case hrzs => first | (go_simp; done) | (go_simp; rfl)); intro w2 hw; have hk9 : Kept w1 w2 (fun q => q = g9) := (by rw [hw]; exact kept_box (kept_box (Kept.refl _ _) _ _) _ _); have n0_ := xm ((by rw [hw]; refine blk_put (cs := #[(.int .i64 (rd_T51 l0 i).f0), .int .i64 0]) ?_ 1 _ rfl; refine blk_put (cs := #[.int .i64 0, .int .i64 0]) ?_ 0 _ rfl; exact B9.out : w2.heap[g9]? = some (.cells #[(.int .i64 (rd_T51 l0 i).f0), (.int .i64 (rd_T51 l0 i).f1)] 51 (0, 0)))); have n1_ := xm ((by rw [hw]; exact xt (xt HB.out N9.out.2.2) N9.out.2.2 : Below w.heap.size w w2)); have n2_ := xm (HW.out.kept hk9 (fun q h e => N9.out.1 (by have e : q = g9 := e; rw [← e]; exact h))); have n3_ := xm (Kd.R_kept HO2.out hk9 (fun q h e => by have e : q = g9 := e; have := N9.out.2.1; have := h.2; omega)); have n4_ := xm (Nat.le_trans HS1.out hk9.1); clear B9 HB HW HO2 HS1; have B9 := n0_; have HB := n1_; have HW := n2_; have HO2 := n3_; have HS1 := n4_; clear n0_ n1_ n2_ n3_ n4_; obtain ⟨vf, vs, vb, hV⟩ := HW.out.v; clear HV; obtain ⟨Af, cf, rfl⟩ := Kd.R_slice hV.rf; obtain ⟨As, cs, rfl⟩ := Kd.R_slice hV.rs; obtain ⟨Ab, cb, rfl⟩ := Kd.R_slice hV.rb; have HV := xm hV; clear hV hw hk9 y0 y1 f0 f1 hx0' hx1'; clear hc0 hc1 hc2 hc3 hc4; obtain ⟨hc0, hc1, hc2, hc3, hc4⟩ := HV.out.cells; have y0 := (xc B9.out 0).trans rfl; have y1 := (xc B9.out 1).trans rfl)
       | ((with_reducible refine gate_callee (f := 105) rfl ?_); refine goesL_ (some 41) rfl rfl Try.func105 (by kernel_rfl) rfl #[.pointer (some ⟨gw, 0, none⟩), .agg #[(.int .i64 (rd_T51 l0 i).f0), (.int .i64 (rd_T51 l0 i).f1)]] rfl (by (try simp only [List.map_toArray, List.map_cons, List.map_nil]); first | done | rfl) ?_; refine (impl_Window_push.calls gw w.heap.size Pw F S B a b (rd_T51 l0 i).f0 (rd_T51 l0 i).f1 s0 s1 _ HW.out C7.out M0.out).mono ?_; rintro e w5 ⟨rfl, hb, hk, hw⟩; refine ⟨_, rfl, ?_⟩; rw [HBB.out] at hw; have n0_ := xm (HB.out.trans hb); have n1_ := xm (Kd.R_kept HO2.out hk (fun q h h2 => (HPS.out q h2).elim h.1 (fun h3 => by have := h.2; omega))); have n2_ := xm ((show ∀ q, (Pw q ∨ _) → Pw q ∨ wr.heap.size ≤ q from fun q h => h.elim (HPS.out q) (fun h => .inr (Nat.le_trans HS1.out h)))); clear HB HO2 HPS; have HB := n0_; have HO2 := n1_; have HPS := n2_; clear n0_ n1_ n2_; clear HW; (try clear HV); have HW := xm hw; (try clear hc0 hc1 hc2 hc3 hc4); clear hb hk hw y0 y1; obtain ⟨vf, vs, vb, hV⟩ := HW.out.v; obtain ⟨Bf, df, rfl⟩ := Kd.R_slice hV.rf; obtain ⟨Bs, ds, rfl⟩ := Kd.R_slice hV.rs; obtain ⟨Bb, db, rfl⟩ := Kd.R_slice hV.rb; have HV := xm hV; clear hV; obtain ⟨hc0, hc1, hc2, hc3, hc4⟩ := HV.out.cells)
       | (go_at_call 106; refine (impl_Window_sum.calls _ _ F _ _ S _ _ BB s0 s1 t0 t1 _ (Kd.R_reads' HV.out.rf).2.2 (Kd.R_reads' HV.out.rf).2.1 (Kd.R_reads' HV.out.rs).2.2 (Kd.R_reads' HV.out.rs).2.1 (Kd.R_reads' HV.out.rb).2.2 (Kd.R_reads' HV.out.rb).2.1 Q0.out).mono ?_; rintro e w6 ⟨rfl, hb⟩; have n0_ := xm (below_step HB.out hb); have n1_ := xm (Kd.R_below HO2.out hb); have n2_ := xm ((HW.out.below hb).tight); clear HB HO2 HW; have HB := n0_; have HO2 := n1_; have HW := n2_; clear n0_ n1_ n2_; clear HV hb; clear hc0 hc1 hc2 hc3 hc4)
       | ((with_reducible refine gate_builtin (b := .append) (xs := #[.tmp 42, .tmp 45]) rfl ?_); at_builtin; refine Kd.R_append k51 (w0 := w) w.heap.size rfl (.tmp 42) (.tmp 45) 50 51 (.agg #[(.int .i64 0), (.int .i64 0)]) 16 rfl Try.underlying50 info51 rfl (by decide) (by omega) u7 out (⟨t0, t1⟩ : S51) [.int .i64 t0, .int .i64 t1] (fun q => ¬ ((Pw q ∨ w2.heap.size ≤ q) ∧ q < w6.heap.size)) (fun _ => False) rfl (by first | (go_simp; done) | (go_simp; rfl)) ?aP (fun _ hk => hk.elim) ?aF ?aO ?aB ?aS ?aL ?_; (case aP => exact k51_mkM _ _ _ (⟨t0, t1⟩ : S51)); (case aB => exact HB.out); (case aF => exact (fun q hq h => by have := h.2; omega)); (case aO => exact Kd.R_mono HO2.out (fun q h h2 => (HPS.out q h2.1).elim h.1 (fun h3 => by have := h.2; omega))); (case aS => exact HB.out.size); (case aL => have := C8.out; omega); intro v1 w7 ho hb hg hat; have n0_ := xm (HW.out.kept (grown_kept hg) (fun q h e => (HO2.out.1 q e.symm).elim (fun h1 h2 => (HPS.out q h.1).elim h1 (fun h3 => by omega)))); have HSZ := xm hg.size; clear HW HB HO2; have HW := n0_; have HB := xm hb; have HO2 := xm ho; clear n0_ hb ho hg hat))
      go_roundg k1
      case measure => have := HK1.out; omega
      case rel => exact ⟨_, _, BB, s0, s1, out ++ [(⟨t0, t1⟩ : S51)], wrap64 (i + 1), (fun q => (Pw q ∨ w2.heap.size ≤ q) ∧ q < w6.heap.size), (by first | rfl | (simp; done) | (simp [*]; done)), ⟨by rw [← HBB.out]; exact H'.out⟩, ⟨by have := HK1.out; omega⟩, HW, ⟨fun q h => Nat.lt_of_lt_of_le h.2 HSZ.out⟩, HO2, HB⟩

     case pos =>
      have pp := PP.out
      rw [if_pos cw] at pp
      obtain rfl : ls = a1 := by simpa using cw
      clear cw PP
      unfold impl_SlideOver.pp at pp
      by_cases cF : F.length = 0
      case pos =>
       rw [if_pos cF] at pp
       by_cases cB : 0 < B.length
       case neg => rw [if_neg cB] at pp; cases pp
       rw [if_pos cB] at pp
       obtain ⟨F1, hf1, pp⟩ := Option.bind_eq_some_iff.mp pp
       obtain ⟨S1, hs1, pp⟩ := Option.bind_eq_some_iff.mp pp
       by_cases cS : S1.length = F1.length
       case neg => rw [if_neg cS] at pp; cases pp
       rw [if_pos cS] at pp
       simp only [Option.some.injEq, Prod.mk.injEq] at pp
       obtain ⟨rfl, rfl, rfl, rfl, rfl⟩ := pp
       obtain rfl : F = [] := List.eq_nil_of_length_eq_zero cF
       have PF1 := xm hf1
       have PS1 := xm hs1
       have PCS := xm cS
       have PCB := xm cB
       have hls2 : wrap64 (B.length : Int) = ls := by simpa using hls
       have hlw2 : IntKind.i64.wrap (B.length : Int) = ls := (i64_w _).trans hls2
       have hbb : (ls == ls) = true := by simp
       clear cF cB cS hf1 hs1 hls hlw
       go_wp2_with (first
        | ((with_reducible refine gate_dst (N := 9) rfl ?_); refine box_event ?hgzk (N := 9) ?hdzk (cs := #[.int .i64 0, .int .i64 0]) (t := 51) ?hrzk ?_; (case hdzk => rfl); (case hgzk => rfl); (case hrzk => first | (go_simp; done) | (go_simp; rfl)); intro g9 hg_ w1 hbox hbb; have B9 := xm hbox; have N9 := xm (show ¬ Pw g9 ∧ wr.heap.size ≤ g9 ∧ w.heap.size ≤ g9 from ⟨fun h => by have := HP.out g9 h; omega, by omega, by have := HB.out.size; omega⟩); have n0_ := xm (below_step HB.out hbb); have n1_ := xm (HW.out.below hbb); have n2_ := xm (HV.out.below hbb); have n3_ := xm (Kd.R_below HO2.out hbb); clear HB HW HV HO2; have HB := n0_; have HW := n1_; have HV := n2_; have HO2 := n3_; clear n0_ n1_ n2_ n3_; have HG1 := xm (Nat.le_of_lt (blk_lt B9.out)); have hx0' := (pw_cell_below hbb hx0); have hx1' := (pw_cell_below hbb hx1); have HS1 := xm hbb.size; clear hg_ hbox hbb hx0 hx1; clear hc0 hc1 hc2 hc3 hc4; obtain ⟨hc0, hc1, hc2, hc3, hc4⟩ := HV.out.cells; have y0 := (xc B9.out 0).trans rfl; have y1 := (xc B9.out 1).trans rfl; have f0 := xf B9.out 0; have f1 := xf B9.out 1)
        | ((with_reducible refine gate_store (t := 51) (p := 9) rfl ?_); refine store_event (t := 51) (p := 9) (v := ?vozs) (w1 := ((w1.setCell ⟨g9, 0, none⟩ (.int .i64 (rd_T51 l0 i).f0)).setCell ⟨g9, 1, none⟩ (.int .i64 (rd_T51 l0 i).f1))) ?hgzs ?hozs ?hnzs ?hrzs ?_; (case hozs => rfl); (case hgzs => rfl); (case hnzs => rfl); (case hrzs => first | (go_simp; done) | (go_simp; rfl)); intro w2 hw; have hk9 : Kept w1 w2 (fun q => q = g9) := (by rw [hw]; exact kept_box (kept_box (Kept.refl _ _) _ _) _ _); have n0_ := xm ((by rw [hw]; refine blk_put (cs := #[(.int .i64 (rd_T51 l0 i).f0), .int .i64 0]) ?_ 1 _ rfl; refine blk_put (cs := #[.int .i64 0, .int .i64 0]) ?_ 0 _ rfl; exact B9.out : w2.heap[g9]? = some (.cells #[(.int .i64 (rd_T51 l0 i).f0), (.int .i64 (rd_T51 l0 i).f1)] 51 (0, 0)))); have n1_ := xm ((by rw [hw]; exact xt (xt HB.out N9.out.2.2) N9.out.2.2 : Below w.heap.size w w2)); have n2_ := xm (HW.out.kept hk9 (fun q h e => N9.out.1 (by have e : q = g9 := e; rw [← e]; exact h))); have n3_ := xm (Kd.R_kept HO2.out hk9 (fun q h e => by have e : q = g9 := e; have := N9.out.2.1; have := h.2; omega)); have n4_ := xm (Nat.le_trans HS1.out hk9.1); clear B9 HB HW HO2 HS1; have B9 := n0_; have HB := n1_; have HW := n2_; have HO2 := n3_; have HS1 := n4_; clear n0_ n1_ n2_ n3_ n4_; obtain ⟨vf, vs, vb, hV⟩ := HW.out.v; clear HV; obtain ⟨Af, cf, rfl⟩ := Kd.R_slice hV.rf; obtain ⟨As, cs, rfl⟩ := Kd.R_slice hV.rs; obtain ⟨Ab, cb, rfl⟩ := Kd.R_slice hV.rb; have HV := xm hV; clear hV hw hk9 y0 y1 f0 f1 hx0' hx1'; clear hc0 hc1 hc2 hc3 hc4; obtain ⟨hc0, hc1, hc2, hc3, hc4⟩ := HV.out.cells; have y0 := (xc B9.out 0).trans rfl; have y1 := (xc B9.out 1).trans rfl)
        | ((with_reducible refine gate_callee (f := 104) rfl ?_); refine goesL_ (some 39) rfl rfl Try.func104 (by kernel_rfl) rfl #[.pointer (some ⟨gw, 0, none⟩)] rfl (by (try simp only [List.map_toArray, List.map_cons, List.map_nil]); first | done | rfl) ?_; refine (impl_Window_pop.clear_ gw Pw S B F1 S1 a b k1 k1 w _ HB.out HW.out PCB.out PF1.out PS1.out PCS.out).mono ?_; rintro e w3 ⟨⟨ve, rfl⟩, hb, hk, hw⟩; refine ⟨_, rfl, ?_⟩; obtain ⟨Pc, hW, hPS, hN9, hkc⟩ : ∃ Pc : Nat → Prop, WinAt w3 w.heap.size gw Pc (tailOf F1) (tailOf S1) [] 1 0 ∧ (∀ q, Pc q → Pw q ∨ wr.heap.size ≤ q) ∧ ¬ Pc g9 ∧ True := ⟨_, hw, fun q h => h.elim .inl (fun h => .inr (Nat.le_trans HS1.out h)), fun h => h.elim N9.out.1 (fun h => by have := blk_lt B9.out; omega), trivial⟩; have n0_ := xm (blk_kept B9.out hk N9.out.1); have n1_ := xm (HB.out.trans hb); have n2_ := xm (Kd.R_kept HO2.out hk (fun q h h2 => h.1 h2)); have n3_ := xm (Nat.le_trans HS1.out hk.1); clear B9 HB HO2 HS1; have B9 := n0_; have HB := n1_; have HO2 := n2_; have HS1 := n3_; clear n0_ n1_ n2_ n3_; have HPS := xm hPS; have HN9 := xm hN9; have n0_ := xm hW; clear HW HV hb hk hw hPS hN9 hkc hW y0 y1; have HW := n0_; clear n0_; clear hc0 hc1 hc2 hc3 hc4; have y0 := (xc B9.out 0).trans rfl; have y1 := (xc B9.out 1).trans rfl)
        | ((with_reducible refine gate_callee (f := 105) rfl ?_); refine goesL_ (some 41) rfl rfl Try.func105 (by kernel_rfl) rfl #[.pointer (some ⟨gw, 0, none⟩), .agg #[(.int .i64 (rd_T51 l0 i).f0), (.int .i64 (rd_T51 l0 i).f1)]] rfl (by (try simp only [List.map_toArray, List.map_cons, List.map_nil]); first | done | rfl) ?_; refine (impl_Window_push.calls gw w.heap.size Pc (tailOf F1) (tailOf S1) [] 1 0 (rd_T51 l0 i).f0 (rd_T51 l0 i).f1 s0 s1 _ HW.out C7.out M0.out).mono ?_; rintro e w5 ⟨rfl, hb, hk, hw⟩; refine ⟨_, rfl, ?_⟩; rw [HBB.out] at hw; have n0_ := xm (HB.out.trans hb); have n1_ := xm (Kd.R_kept HO2.out hk (fun q h h2 => (HPS.out q h2).elim h.1 (fun h3 => by have := h.2; omega))); have n2_ := xm ((show ∀ q, (Pc q ∨ _) → Pw q ∨ wr.heap.size ≤ q from fun q h => h.elim (HPS.out q) (fun h => .inr (Nat.le_trans HS1.out h)))); clear HB HO2 HPS; have HB := n0_; have HO2 := n1_; have HPS := n2_; clear n0_ n1_ n2_; clear HW; (try clear HV); have HW := xm hw; (try clear hc0 hc1 hc2 hc3 hc4); clear hb hk hw y0 y1; obtain ⟨vf, vs, vb, hV⟩ := HW.out.v; obtain ⟨Bf, df, rfl⟩ := Kd.R_slice hV.rf; obtain ⟨Bs, ds, rfl⟩ := Kd.R_slice hV.rs; obtain ⟨Bb, db, rfl⟩ := Kd.R_slice hV.rb; have HV := xm hV; clear hV; obtain ⟨hc0, hc1, hc2, hc3, hc4⟩ := HV.out.cells)
        | (go_at_call 106; refine (impl_Window_sum.calls _ _ (tailOf F1) _ _ (tailOf S1) _ _ BB s0 s1 t0 t1 _ (Kd.R_reads' HV.out.rf).2.2 (Kd.R_reads' HV.out.rf).2.1 (Kd.R_reads' HV.out.rs).2.2 (Kd.R_reads' HV.out.rs).2.1 (Kd.R_reads' HV.out.rb).2.2 (Kd.R_reads' HV.out.rb).2.1 Q0.out).mono ?_; rintro e w6 ⟨rfl, hb⟩; have n0_ := xm (below_step HB.out hb); have n1_ := xm (Kd.R_below HO2.out hb); have n2_ := xm ((HW.out.below hb).tight); clear HB HO2 HW; have HB := n0_; have HO2 := n1_; have HW := n2_; clear n0_ n1_ n2_; clear HV hb; clear hc0 hc1 hc2 hc3 hc4)
        | ((with_reducible refine gate_builtin (b := .append) (xs := #[.tmp 42, .tmp 45]) rfl ?_); at_builtin; refine Kd.R_append k51 (w0 := w) w.heap.size rfl (.tmp 42) (.tmp 45) 50 51 (.agg #[(.int .i64 0), (.int .i64 0)]) 16 rfl Try.underlying50 info51 rfl (by decide) (by omega) u7 out (⟨t0, t1⟩ : S51) [.int .i64 t0, .int .i64 t1] (fun q => ¬ ((Pc q ∨ w3.heap.size ≤ q) ∧ q < w6.heap.size)) (fun _ => False) rfl (by first | (go_simp; done) | (go_simp; rfl)) ?aP (fun _ hk => hk.elim) ?aF ?aO ?aB ?aS ?aL ?_; (case aP => exact k51_mkM _ _ _ (⟨t0, t1⟩ : S51)); (case aB => exact HB.out); (case aF => exact (fun q hq h => by have := h.2; omega)); (case aO => exact Kd.R_mono HO2.out (fun q h h2 => (HPS.out q h2.1).elim h.1 (fun h3 => by have := h.2; omega))); (case aS => exact HB.out.size); (case aL => have := C8.out; omega); intro v1 w7 ho hb hg hat; have n0_ := xm (HW.out.kept (grown_kept hg) (fun q h e => (HO2.out.1 q e.symm).elim (fun h1 h2 => (HPS.out q h.1).elim h1 (fun h3 => by omega)))); have HSZ := xm hg.size; clear HW HB HO2; have HW := n0_; have HB := xm hb; have HO2 := xm ho; clear n0_ hb ho hg hat))
       go_roundg k1
       case measure => have := HK1.out; omega
       case rel => exact ⟨_, _, BB, s0, s1, out ++ [(⟨t0, t1⟩ : S51)], wrap64 (i + 1), (fun q => (Pc q ∨ w3.heap.size ≤ q) ∧ q < w6.heap.size), (by first | rfl | (simp; done) | (simp [*]; done)), ⟨by rw [← HBB.out]; exact H'.out⟩, ⟨by have := HK1.out; omega⟩, HW, ⟨fun q h => Nat.lt_of_lt_of_le h.2 HSZ.out⟩, HO2, HB⟩

      case neg =>
       rw [if_neg cF] at pp
       by_cases cS : S.length = F.length
       case neg => rw [if_neg cS] at pp; cases pp
       rw [if_pos cS] at pp
       simp only [Option.some.injEq, Prod.mk.injEq] at pp
       obtain ⟨rfl, rfl, rfl, rfl, rfl⟩ := pp
       have PCS := xm cS
       have PCF := xm (show 0 < F.length from by omega)
       clear cF cS
       go_wp2_with (first
        | ((with_reducible refine gate_dst (N := 9) rfl ?_); refine box_event ?hgzk (N := 9) ?hdzk (cs := #[.int .i64 0, .int .i64 0]) (t := 51) ?hrzk ?_; (case hdzk => rfl); (case hgzk => rfl); (case hrzk => first | (go_simp; done) | (go_simp; rfl)); intro g9 hg_ w1 hbox hbb; have B9 := xm hbox; have N9 := xm (show ¬ Pw g9 ∧ wr.heap.size ≤ g9 ∧ w.heap.size ≤ g9 from ⟨fun h => by have := HP.out g9 h; omega, by omega, by have := HB.out.size; omega⟩); have n0_ := xm (below_step HB.out hbb); have n1_ := xm (HW.out.below hbb); have n2_ := xm (HV.out.below hbb); have n3_ := xm (Kd.R_below HO2.out hbb); clear HB HW HV HO2; have HB := n0_; have HW := n1_; have HV := n2_; have HO2 := n3_; clear n0_ n1_ n2_ n3_; have HG1 := xm (Nat.le_of_lt (blk_lt B9.out)); have hx0' := (pw_cell_below hbb hx0); have hx1' := (pw_cell_below hbb hx1); have HS1 := xm hbb.size; clear hg_ hbox hbb hx0 hx1; clear hc0 hc1 hc2 hc3 hc4; obtain ⟨hc0, hc1, hc2, hc3, hc4⟩ := HV.out.cells; have y0 := (xc B9.out 0).trans rfl; have y1 := (xc B9.out 1).trans rfl; have f0 := xf B9.out 0; have f1 := xf B9.out 1)
        | ((with_reducible refine gate_store (t := 51) (p := 9) rfl ?_); refine store_event (t := 51) (p := 9) (v := ?vozs) (w1 := ((w1.setCell ⟨g9, 0, none⟩ (.int .i64 (rd_T51 l0 i).f0)).setCell ⟨g9, 1, none⟩ (.int .i64 (rd_T51 l0 i).f1))) ?hgzs ?hozs ?hnzs ?hrzs ?_; (case hozs => rfl); (case hgzs => rfl); (case hnzs => rfl); (case hrzs => first | (go_simp; done) | (go_simp; rfl)); intro w2 hw; have hk9 : Kept w1 w2 (fun q => q = g9) := (by rw [hw]; exact kept_box (kept_box (Kept.refl _ _) _ _) _ _); have n0_ := xm ((by rw [hw]; refine blk_put (cs := #[(.int .i64 (rd_T51 l0 i).f0), .int .i64 0]) ?_ 1 _ rfl; refine blk_put (cs := #[.int .i64 0, .int .i64 0]) ?_ 0 _ rfl; exact B9.out : w2.heap[g9]? = some (.cells #[(.int .i64 (rd_T51 l0 i).f0), (.int .i64 (rd_T51 l0 i).f1)] 51 (0, 0)))); have n1_ := xm ((by rw [hw]; exact xt (xt HB.out N9.out.2.2) N9.out.2.2 : Below w.heap.size w w2)); have n2_ := xm (HW.out.kept hk9 (fun q h e => N9.out.1 (by have e : q = g9 := e; rw [← e]; exact h))); have n3_ := xm (Kd.R_kept HO2.out hk9 (fun q h e => by have e : q = g9 := e; have := N9.out.2.1; have := h.2; omega)); have n4_ := xm (Nat.le_trans HS1.out hk9.1); clear B9 HB HW HO2 HS1; have B9 := n0_; have HB := n1_; have HW := n2_; have HO2 := n3_; have HS1 := n4_; clear n0_ n1_ n2_ n3_ n4_; obtain ⟨vf, vs, vb, hV⟩ := HW.out.v; clear HV; obtain ⟨Af, cf, rfl⟩ := Kd.R_slice hV.rf; obtain ⟨As, cs, rfl⟩ := Kd.R_slice hV.rs; obtain ⟨Ab, cb, rfl⟩ := Kd.R_slice hV.rb; have HV := xm hV; clear hV hw hk9 y0 y1 f0 f1 hx0' hx1'; clear hc0 hc1 hc2 hc3 hc4; obtain ⟨hc0, hc1, hc2, hc3, hc4⟩ := HV.out.cells; have y0 := (xc B9.out 0).trans rfl; have y1 := (xc B9.out 1).trans rfl)
        | ((with_reducible refine gate_callee (f := 104) rfl ?_); refine goesL_ (some 39) rfl rfl Try.func104 (by kernel_rfl) rfl #[.pointer (some ⟨gw, 0, none⟩)] rfl (by (try simp only [List.map_toArray, List.map_cons, List.map_nil]); first | done | rfl) ?_; refine (impl_Window_pop.full gw w.heap.size Pw F S B a b _ HW.out PCF.out PCS.out).mono ?_; rintro e w3 ⟨⟨ve, rfl⟩, hb, hk, hw⟩; refine ⟨_, rfl, ?_⟩; obtain ⟨Pc, hW, hPS, hN9, hkc⟩ : ∃ Pc : Nat → Prop, WinAt w3 w.heap.size gw Pc (tailOf F) (tailOf S) B a b ∧ (∀ q, Pc q → Pw q ∨ wr.heap.size ≤ q) ∧ ¬ Pc g9 ∧ True := ⟨_, hw, fun q h => h.elim .inl (fun h => .inr (Nat.le_trans HS1.out h)), fun h => h.elim N9.out.1 (fun h => by have := blk_lt B9.out; omega), trivial⟩; have n0_ := xm (blk_kept B9.out hk N9.out.1); have n1_ := xm (HB.out.trans hb); have n2_ := xm (Kd.R_kept HO2.out hk (fun q h h2 => h.1 h2)); have n3_ := xm (Nat.le_trans HS1.out hk.1); clear B9 HB HO2 HS1; have B9 := n0_; have HB := n1_; have HO2 := n2_; have HS1 := n3_; clear n0_ n1_ n2_ n3_; have HPS := xm hPS; have HN9 := xm hN9; have n0_ := xm hW; clear HW HV hb hk hw hPS hN9 hkc hW y0 y1; have HW := n0_; clear n0_; clear hc0 hc1 hc2 hc3 hc4; have y0 := (xc B9.out 0).trans rfl; have y1 := (xc B9.out 1).trans rfl)
        | ((with_reducible refine gate_callee (f := 105) rfl ?_); refine goesL_ (some 41) rfl rfl Try.func105 (by kernel_rfl) rfl #[.pointer (some ⟨gw, 0, none⟩), .agg #[(.int .i64 (rd_T51 l0 i).f0), (.int .i64 (rd_T51 l0 i).f1)]] rfl (by (try simp only [List.map_toArray, List.map_cons, List.map_nil]); first | done | rfl) ?_; refine (impl_Window_push.calls gw w.heap.size Pc (tailOf F) (tailOf S) B a b (rd_T51 l0 i).f0 (rd_T51 l0 i).f1 s0 s1 _ HW.out C7.out M0.out).mono ?_; rintro e w5 ⟨rfl, hb, hk, hw⟩; refine ⟨_, rfl, ?_⟩; rw [HBB.out] at hw; have n0_ := xm (HB.out.trans hb); have n1_ := xm (Kd.R_kept HO2.out hk (fun q h h2 => (HPS.out q h2).elim h.1 (fun h3 => by have := h.2; omega))); have n2_ := xm ((show ∀ q, (Pc q ∨ _) → Pw q ∨ wr.heap.size ≤ q from fun q h => h.elim (HPS.out q) (fun h => .inr (Nat.le_trans HS1.out h)))); clear HB HO2 HPS; have HB := n0_; have HO2 := n1_; have HPS := n2_; clear n0_ n1_ n2_; clear HW; (try clear HV); have HW := xm hw; (try clear hc0 hc1 hc2 hc3 hc4); clear hb hk hw y0 y1; obtain ⟨vf, vs, vb, hV⟩ := HW.out.v; obtain ⟨Bf, df, rfl⟩ := Kd.R_slice hV.rf; obtain ⟨Bs, ds, rfl⟩ := Kd.R_slice hV.rs; obtain ⟨Bb, db, rfl⟩ := Kd.R_slice hV.rb; have HV := xm hV; clear hV; obtain ⟨hc0, hc1, hc2, hc3, hc4⟩ := HV.out.cells)
        | (go_at_call 106; refine (impl_Window_sum.calls _ _ (tailOf F) _ _ (tailOf S) _ _ BB s0 s1 t0 t1 _ (Kd.R_reads' HV.out.rf).2.2 (Kd.R_reads' HV.out.rf).2.1 (Kd.R_reads' HV.out.rs).2.2 (Kd.R_reads' HV.out.rs).2.1 (Kd.R_reads' HV.out.rb).2.2 (Kd.R_reads' HV.out.rb).2.1 Q0.out).mono ?_; rintro e w6 ⟨rfl, hb⟩; have n0_ := xm (below_step HB.out hb); have n1_ := xm (Kd.R_below HO2.out hb); have n2_ := xm ((HW.out.below hb).tight); clear HB HO2 HW; have HB := n0_; have HO2 := n1_; have HW := n2_; clear n0_ n1_ n2_; clear HV hb; clear hc0 hc1 hc2 hc3 hc4)
        | ((with_reducible refine gate_builtin (b := .append) (xs := #[.tmp 42, .tmp 45]) rfl ?_); at_builtin; refine Kd.R_append k51 (w0 := w) w.heap.size rfl (.tmp 42) (.tmp 45) 50 51 (.agg #[(.int .i64 0), (.int .i64 0)]) 16 rfl Try.underlying50 info51 rfl (by decide) (by omega) u7 out (⟨t0, t1⟩ : S51) [.int .i64 t0, .int .i64 t1] (fun q => ¬ ((Pc q ∨ w3.heap.size ≤ q) ∧ q < w6.heap.size)) (fun _ => False) rfl (by first | (go_simp; done) | (go_simp; rfl)) ?aP (fun _ hk => hk.elim) ?aF ?aO ?aB ?aS ?aL ?_; (case aP => exact k51_mkM _ _ _ (⟨t0, t1⟩ : S51)); (case aB => exact HB.out); (case aF => exact (fun q hq h => by have := h.2; omega)); (case aO => exact Kd.R_mono HO2.out (fun q h h2 => (HPS.out q h2.1).elim h.1 (fun h3 => by have := h.2; omega))); (case aS => exact HB.out.size); (case aL => have := C8.out; omega); intro v1 w7 ho hb hg hat; have n0_ := xm (HW.out.kept (grown_kept hg) (fun q h e => (HO2.out.1 q e.symm).elim (fun h1 h2 => (HPS.out q h.1).elim h1 (fun h3 => by omega)))); have HSZ := xm hg.size; clear HW HB HO2; have HW := n0_; have HB := xm hb; have HO2 := xm ho; clear n0_ hb ho hg hat))
       go_roundg k1
       case measure => have := HK1.out; omega
       case rel => exact ⟨_, _, BB, s0, s1, out ++ [(⟨t0, t1⟩ : S51)], wrap64 (i + 1), (fun q => (Pc q ∨ w3.heap.size ≤ q) ∧ q < w6.heap.size), (by first | rfl | (simp; done) | (simp [*]; done)), ⟨by rw [← HBB.out]; exact H'.out⟩, ⟨by have := HK1.out; omega⟩, HW, ⟨fun q h => Nat.lt_of_lt_of_le h.2 HSZ.out⟩, HO2, HB⟩

end Go.Proofs.Ytpbpglbldgpckaa.G
