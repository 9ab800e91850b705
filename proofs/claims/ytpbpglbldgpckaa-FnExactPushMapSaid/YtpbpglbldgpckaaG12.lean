/- Written by a program of this claim's own, out of the translation: functions of the program as plain functions, and that the calls answer as these. No conditions. -/
import Derived.Test.YtpbpglbldgpckaaG0
import Derived.Test.YtpbpglbldgpckaaG9
import Derived.Test.YtpbpglbldgpckaaG10
import Derived.Test.YtpbpglbldgpckaaG11
namespace Go.Proofs.Ytpbpglbldgpckaa.G
open Go.RowKit Go.Proofs.Ytpbpglbldgpckaa.X Go.Proofs.YtpbpglbldgpckaaW.PrintWords Go.Proofs.YtpbpglbldgpckaaW.PrintLast Go.Proofs.YtpbpglbldgpckaaW.PrintMore
attribute [local go_sem] max2_int min2_int max_two min_two max_three min_three max_four min_four   -- for this text's walks alone
set_option linter.unusedVariables false
set_option linter.unusedSimpArgs false

/-! ### impl_PushMap: function 70 -/
def impl_PushMap.f (k : Nat) (l0_0 l0_1 l0_2 : List (S51)) (a0_3 a0_4 a1_0 a1_1 : Int) : Option ((List (S51)) × (List (S51)) × (List (S51)) × Int × Int × Bool) :=
 (impl_GoodWindow.f k l0_0 l0_1 l0_2 a0_3 a0_4).bind fun t => if t = true then ((impl_GoodMap.f a1_0 a1_1).bind fun t2 => if t2 = true then (if (wrap64 ((l0_0.length : Int) + (l0_2.length : Int)) == 60) = true then (some (([] : List S51), ([] : List S51), ([] : List S51), 0, 0, false)) else
  ((impl_Window_own.f l0_0 l0_1 l0_2 a0_3 a0_4).bind fun o => if o.2.2.1.length < 8796093022208 then ((impl_Map_then.f o.2.2.2.1 o.2.2.2.2 a1_0 a1_1).bind fun s => (impl_Window_own.f o.1 o.2.1 (o.2.2.1 ++ [⟨a1_0, a1_1⟩]) s.1 s.2).bind fun q => some (q.1, q.2.1, q.2.2.1, q.2.2.2.1, q.2.2.2.2, true)) else none)) else (some (([] : List S51), ([] : List S51), ([] : List S51), 0, 0, false))) else (some (([] : List S51), ([] : List S51), ([] : List S51), 0, 0, false))
theorem impl_PushMap.mono : ∀ a0 a1 a2 a3 a4 a5 a6 k, LeO (impl_PushMap.f k a0 a1 a2 a3 a4 a5 a6) (impl_PushMap.f (k + 1) a0 a1 a2 a3 a4 a5 a6) := fun a0 a1 a2 a3 a4 a5 a6 k => LeO.bind (impl_GoodWindow.mono a0 a1 a2 a3 a4 k) (fun _ => LeO.refl _)
set_option maxHeartbeats 8000000 in
set_option maxRecDepth 100000 in
theorem impl_PushMap.calls (k : Nat) (A0_0 : Option Addr) (c0_0 : Nat) (l0_0 : List (S51)) (A0_1 : Option Addr) (c0_1 : Nat) (l0_1 : List (S51)) (A0_2 : Option Addr) (c0_2 : Nat) (l0_2 : List (S51)) (a0_3 : Int) (a0_4 : Int) (a1_0 : Int) (a1_1 : Int) (r1 : List (S51)) (r2 : List (S51)) (r3 : List (S51)) (r4 : Int) (r5 : Int) (r6 : Bool) (w : World) (hr0_0 : Kd.C k51 w A0_0 l0_0.length l0_0) (hc0_0 : l0_0.length ≤ c0_0) (hr0_1 : Kd.C k51 w A0_1 l0_1.length l0_1) (hc0_1 : l0_1.length ≤ c0_1) (hr0_2 : Kd.C k51 w A0_2 l0_2.length l0_2) (hc0_2 : l0_2.length ≤ c0_2) (h : impl_PushMap.f k l0_0 l0_1 l0_2 a0_3 a0_4 a1_0 a1_1 = some (r1, r2, r3, r4, r5, r6)) :
 Calls Try.prog 70 #[.agg #[.slice A0_0 l0_0.length c0_0, .slice A0_1 l0_1.length c0_1, .slice A0_2 l0_2.length c0_2, .int .i64 a0_3, .int .i64 a0_4], .agg #[.int .i64 a1_0, .int .i64 a1_1]] w fun e w' => ∃ v0_ v1_ v2_ : Value, e = .returned (.tuple #[.agg #[v0_, v1_, v2_, .int .i64 r4, .int .i64 r5], .bool r6]) ∧ Kd.R k51 51 w' w.heap.size (fun k_ => some k_ ≠ (v1_ : Value).ownBlock ∧ some k_ ≠ (v2_ : Value).ownBlock) v0_ r1 ∧ Kd.R k51 51 w' w.heap.size (fun k_ => some k_ ≠ (v0_ : Value).ownBlock ∧ some k_ ≠ (v2_ : Value).ownBlock) v1_ r2 ∧ Kd.R k51 51 w' w.heap.size (fun k_ => some k_ ≠ (v0_ : Value).ownBlock ∧ some k_ ≠ (v1_ : Value).ownBlock) v2_ r3 ∧ Below w.heap.size w w' := by
 have hu53 := Try.underlying53
 have hu51 := Try.underlying51
 have hu50 := Try.underlying50
 have HR0 := xm hr0_0
 have HC0 := xm hc0_0
 have HR1 := xm hr0_1
 have HC1 := xm hc0_1
 have HR2 := xm hr0_2
 have HC2 := xm hc0_2
 clear hr0_0 hc0_0 hr0_1 hc0_1 hr0_2 hc0_2
 have HB := xm (Below.refl w.heap.size w)
 unfold impl_PushMap.f at h
 obtain ⟨t, t0, h⟩ := Option.bind_eq_some_iff.mp h
 have T0 := xm t0
 clear t0
 cases t with
 | false =>
  rw [if_neg (by simp)] at h
  simp only [Option.some.injEq, Prod.mk.injEq] at h
  obtain ⟨rfl, rfl, rfl, rfl, rfl, rfl⟩ := h
  go_enter Try.func70, Try.ntmps70
  go_wp2_with (first
   | ((with_reducible refine gate_dst (N := 2) rfl ?_); refine box_event ?hgza (N := 2) ?hdza (cs := #[.slice A0_0 l0_0.length c0_0, .slice A0_1 l0_1.length c0_1, .slice A0_2 l0_2.length c0_2, .int .i64 a0_3, .int .i64 a0_4]) (t := 53) ?hrza ?_; (case hdza => rfl); (case hgza => rfl); (case hrza => exact zB); intro g2 hg_ w1 hbox hbb; have B2 := xm hbox; have G2 := xm (Nat.le_of_eq hg_.symm); have n0_ := xm (below_step HB.out hbb); clear HB; have HB := n0_; clear n0_; clear hg_ hbox hbb)
   | ((with_reducible refine gate_dst (N := 3) rfl ?_); refine box_event ?hgzb (N := 3) ?hdzb (cs := #[.int .i64 a1_0, .int .i64 a1_1]) (t := 51) ?hrzb ?_; (case hdzb => rfl); (case hgzb => rfl); (case hrzb => exact zB); intro g3 hg_ w2 hbox hbb; have B3 := xm hbox; have n0_ := xm (below_step HB.out hbb); have n1_ := xm (blk_below B2.out hbb); clear HB B2; have HB := n0_; have B2 := n1_; clear n0_ n1_; clear hg_ hbox hbb; obtain ⟨x20, x21, x22, x23, x24, _, _, _, _, _⟩ := cz5 B2.out; have x30 := (xc B3.out 0).trans rfl; have x31 := (xc B3.out 1).trans rfl)
   | ((with_reducible refine gate_dst (N := 4) rfl ?_); refine box_event ?hgzc (N := 4) ?hdzc (cs := #[.slice none 0 0, .slice none 0 0, .slice none 0 0, .int .i64 0, .int .i64 0]) (t := 53) ?hrzc ?_; (case hdzc => rfl); (case hgzc => rfl); (case hrzc => exact zB); intro g4 hg_ w3 hbox hbb; have G4 := xm (show w.heap.size ≤ g4 from by rw [hg_]; exact HB.out.size); have B4 := xm hbox; have N24 := xm (show g4 ≠ g2 from fun h => by have := blk_lt B2.out; omega); have N34 := xm (show g4 ≠ g3 from fun h => by have := blk_lt B3.out; omega); have n0_ := xm (below_step HB.out hbb); have n1_ := xm (blk_below B2.out hbb); have n2_ := xm (blk_below B3.out hbb); clear HB B2 B3; have HB := n0_; have B2 := n1_; have B3 := n2_; clear n0_ n1_ n2_; clear hg_ hbox hbb; (try clear x20 x21 x22 x23 x24 x30 x31); obtain ⟨x20, x21, x22, x23, x24, _, _, _, _, _⟩ := cz5 B2.out; have x30 := (xc B3.out 0).trans rfl; have x31 := (xc B3.out 1).trans rfl)
   | (go_at_call 36; refine (impl_GoodWindow.calls k _ _ l0_0 _ _ l0_1 _ _ l0_2 a0_3 a0_4 _ _ (Kd.C_below HR0.out HB.out) HC0.out (Kd.C_below HR1.out HB.out) HC1.out (Kd.C_below HR2.out HB.out) HC2.out T0.out).mono ?_; rintro e w4 ⟨rfl, hb⟩; have n0_ := xm (below_step HB.out hb); have n1_ := xm (blk_below B2.out hb); have n2_ := xm (blk_below B3.out hb); have n3_ := xm (blk_below B4.out hb); clear HB B2 B3 B4; have HB := n0_; have B2 := n1_; have B3 := n2_; have B4 := n3_; clear n0_ n1_ n2_ n3_; clear hb; (try clear x20 x21 x22 x23 x24 x30 x31); obtain ⟨x20, x21, x22, x23, x24, _, _, _, _, _⟩ := cz5 B2.out; have x30 := (xc B3.out 0).trans rfl; have x31 := (xc B3.out 1).trans rfl)
   | ((with_reducible refine gate_store (t := 53) (p := 4) rfl ?_); obtain ⟨y0, y1, y2, y3, y4, f0, f1, f2, f3, f4⟩ := cz5 B4.out; refine store_event (t := 53) (p := 4) (v := ?vozzw4) (w1 := (((((w4.setCell ⟨g4, 0, none⟩ (.slice none 0 0)).setCell ⟨g4, 1, none⟩ (.slice none 0 0)).setCell ⟨g4, 2, none⟩ (.slice none 0 0)).setCell ⟨g4, 3, none⟩ (.int .i64 0)).setCell ⟨g4, 4, none⟩ (.int .i64 0))) ?hgzzw4 ?hozzw4 ?hnzzw4 ?hrzzw4 ?_; (case hozzw4 => rfl); (case hgzzw4 => rfl); (case hnzzw4 => rfl); (case hrzzw4 => exact zB); intro w9 hw; clear y0 y1 y2 y3 y4 f0 f1 f2 f3 f4; have n0_ := xm ((by rw [hw]; refine blk_put (cs := #[(.slice none 0 0), (.slice none 0 0), (.slice none 0 0), (.int .i64 0), (.int .i64 0)]) ?_ 4 _ rfl; refine blk_put (cs := #[(.slice none 0 0), (.slice none 0 0), (.slice none 0 0), (.int .i64 0), (.int .i64 0)]) ?_ 3 _ rfl; refine blk_put (cs := #[(.slice none 0 0), (.slice none 0 0), (.slice none 0 0), (.int .i64 0), (.int .i64 0)]) ?_ 2 _ rfl; refine blk_put (cs := #[(.slice none 0 0), (.slice none 0 0), (.slice none 0 0), (.int .i64 0), (.int .i64 0)]) ?_ 1 _ rfl; refine blk_put (cs := #[(.slice none 0 0), (.slice none 0 0), (.slice none 0 0), (.int .i64 0), (.int .i64 0)]) ?_ 0 _ rfl; exact B4.out : w9.heap[g4]? = some (.cells #[(.slice none 0 0), (.slice none 0 0), (.slice none 0 0), (.int .i64 0), (.int .i64 0)] 53 (0, 0)))); have n1_ := xm ((by rw [hw]; exact (Below.setCell (Below.setCell (Below.setCell (Below.setCell (Below.setCell HB.out (p := ⟨g4, 0, none⟩) G4.out _) (p := ⟨g4, 1, none⟩) G4.out _) (p := ⟨g4, 2, none⟩) G4.out _) (p := ⟨g4, 3, none⟩) G4.out _) (p := ⟨g4, 4, none⟩) G4.out _) : Below w.heap.size w w9)); have n2_ := xm ((by rw [hw]; exact (blk_far (p := ⟨g4, 4, none⟩) (blk_far (p := ⟨g4, 3, none⟩) (blk_far (p := ⟨g4, 2, none⟩) (blk_far (p := ⟨g4, 1, none⟩) (blk_far (p := ⟨g4, 0, none⟩) B2.out (Ne.symm N24.out) _) (Ne.symm N24.out) _) (Ne.symm N24.out) _) (Ne.symm N24.out) _) (Ne.symm N24.out) _) : w9.heap[_]? = some _)); have n3_ := xm ((by rw [hw]; exact (blk_far (p := ⟨g4, 4, none⟩) (blk_far (p := ⟨g4, 3, none⟩) (blk_far (p := ⟨g4, 2, none⟩) (blk_far (p := ⟨g4, 1, none⟩) (blk_far (p := ⟨g4, 0, none⟩) B3.out (Ne.symm N34.out) _) (Ne.symm N34.out) _) (Ne.symm N34.out) _) (Ne.symm N34.out) _) (Ne.symm N34.out) _) : w9.heap[_]? = some _)); clear B4 HB B2 B3; have B4 := n0_; have HB := n1_; have B2 := n2_; have B3 := n3_; clear n0_ n1_ n2_ n3_; clear hw; (try clear x20 x21 x22 x23 x24 x30 x31); obtain ⟨x20, x21, x22, x23, x24, _, _, _, _, _⟩ := cz5 B2.out; have x30 := (xc B3.out 0).trans rfl; have x31 := (xc B3.out 1).trans rfl))
  refine bodyPost_ret (results_ct rfl _ _ g4 53 #[.slice none 0 0, .slice none 0 0, .slice none 0 0, .int .i64 0, .int .i64 0] (0, 0) _ rfl B4.out hu53 rfl rfl) rfl ?_
  exact ⟨.slice none 0 0, .slice none 0 0, .slice none 0 0, rfl, Kd.R_nil _ _ _ _ _, Kd.R_nil _ _ _ _ _, Kd.R_nil _ _ _ _ _, HB.out⟩
 | true =>
  rw [if_pos rfl] at h
  obtain ⟨t2, t1, h⟩ := Option.bind_eq_some_iff.mp h
  have T1 := xm t1
  clear t1
  cases t2 with
  | false =>
   rw [if_neg (by simp)] at h
   simp only [Option.some.injEq, Prod.mk.injEq] at h
   obtain ⟨rfl, rfl, rfl, rfl, rfl, rfl⟩ := h
   go_enter Try.func70, Try.ntmps70
   go_wp2_with (first
    | ((with_reducible refine gate_dst (N := 2) rfl ?_); refine box_event ?hgza (N := 2) ?hdza (cs := #[.slice A0_0 l0_0.length c0_0, .slice A0_1 l0_1.length c0_1, .slice A0_2 l0_2.length c0_2, .int .i64 a0_3, .int .i64 a0_4]) (t := 53) ?hrza ?_; (case hdza => rfl); (case hgza => rfl); (case hrza => exact zB); intro g2 hg_ w1 hbox hbb; have B2 := xm hbox; have G2 := xm (Nat.le_of_eq hg_.symm); have n0_ := xm (below_step HB.out hbb); clear HB; have HB := n0_; clear n0_; clear hg_ hbox hbb)
    | ((with_reducible refine gate_dst (N := 3) rfl ?_); refine box_event ?hgzb (N := 3) ?hdzb (cs := #[.int .i64 a1_0, .int .i64 a1_1]) (t := 51) ?hrzb ?_; (case hdzb => rfl); (case hgzb => rfl); (case hrzb => exact zB); intro g3 hg_ w2 hbox hbb; have B3 := xm hbox; have n0_ := xm (below_step HB.out hbb); have n1_ := xm (blk_below B2.out hbb); clear HB B2; have HB := n0_; have B2 := n1_; clear n0_ n1_; clear hg_ hbox hbb; obtain ⟨x20, x21, x22, x23, x24, _, _, _, _, _⟩ := cz5 B2.out; have x30 := (xc B3.out 0).trans rfl; have x31 := (xc B3.out 1).trans rfl)
    | ((with_reducible refine gate_dst (N := 4) rfl ?_); refine box_event ?hgzc (N := 4) ?hdzc (cs := #[.slice none 0 0, .slice none 0 0, .slice none 0 0, .int .i64 0, .int .i64 0]) (t := 53) ?hrzc ?_; (case hdzc => rfl); (case hgzc => rfl); (case hrzc => exact zB); intro g4 hg_ w3 hbox hbb; have G4 := xm (show w.heap.size ≤ g4 from by rw [hg_]; exact HB.out.size); have B4 := xm hbox; have N24 := xm (show g4 ≠ g2 from fun h => by have := blk_lt B2.out; omega); have N34 := xm (show g4 ≠ g3 from fun h => by have := blk_lt B3.out; omega); have n0_ := xm (below_step HB.out hbb); have n1_ := xm (blk_below B2.out hbb); have n2_ := xm (blk_below B3.out hbb); clear HB B2 B3; have HB := n0_; have B2 := n1_; have B3 := n2_; clear n0_ n1_ n2_; clear hg_ hbox hbb; (try clear x20 x21 x22 x23 x24 x30 x31); obtain ⟨x20, x21, x22, x23, x24, _, _, _, _, _⟩ := cz5 B2.out; have x30 := (xc B3.out 0).trans rfl; have x31 := (xc B3.out 1).trans rfl)
    | (go_at_call 36; refine (impl_GoodWindow.calls k _ _ l0_0 _ _ l0_1 _ _ l0_2 a0_3 a0_4 _ _ (Kd.C_below HR0.out HB.out) HC0.out (Kd.C_below HR1.out HB.out) HC1.out (Kd.C_below HR2.out HB.out) HC2.out T0.out).mono ?_; rintro e w4 ⟨rfl, hb⟩; have n0_ := xm (below_step HB.out hb); have n1_ := xm (blk_below B2.out hb); have n2_ := xm (blk_below B3.out hb); have n3_ := xm (blk_below B4.out hb); clear HB B2 B3 B4; have HB := n0_; have B2 := n1_; have B3 := n2_; have B4 := n3_; clear n0_ n1_ n2_ n3_; clear hb; (try clear x20 x21 x22 x23 x24 x30 x31); obtain ⟨x20, x21, x22, x23, x24, _, _, _, _, _⟩ := cz5 B2.out; have x30 := (xc B3.out 0).trans rfl; have x31 := (xc B3.out 1).trans rfl)
    | (go_at_call 98; refine (impl_GoodMap.calls a1_0 a1_1 _ _ T1.out).mono ?_; rintro e w5 ⟨rfl, hb⟩; have n0_ := xm (below_step HB.out hb); have n1_ := xm (blk_below B2.out hb); have n2_ := xm (blk_below B3.out hb); have n3_ := xm (blk_below B4.out hb); clear HB B2 B3 B4; have HB := n0_; have B2 := n1_; have B3 := n2_; have B4 := n3_; clear n0_ n1_ n2_ n3_; clear hb; (try clear x20 x21 x22 x23 x24 x30 x31); obtain ⟨x20, x21, x22, x23, x24, _, _, _, _, _⟩ := cz5 B2.out; have x30 := (xc B3.out 0).trans rfl; have x31 := (xc B3.out 1).trans rfl)
    | ((with_reducible refine gate_store (t := 53) (p := 4) rfl ?_); obtain ⟨y0, y1, y2, y3, y4, f0, f1, f2, f3, f4⟩ := cz5 B4.out; refine store_event (t := 53) (p := 4) (v := ?vozzw5) (w1 := (((((w5.setCell ⟨g4, 0, none⟩ (.slice none 0 0)).setCell ⟨g4, 1, none⟩ (.slice none 0 0)).setCell ⟨g4, 2, none⟩ (.slice none 0 0)).setCell ⟨g4, 3, none⟩ (.int .i64 0)).setCell ⟨g4, 4, none⟩ (.int .i64 0))) ?hgzzw5 ?hozzw5 ?hnzzw5 ?hrzzw5 ?_; (case hozzw5 => rfl); (case hgzzw5 => rfl); (case hnzzw5 => rfl); (case hrzzw5 => exact zB); intro w9 hw; clear y0 y1 y2 y3 y4 f0 f1 f2 f3 f4; have n0_ := xm ((by rw [hw]; refine blk_put (cs := #[(.slice none 0 0), (.slice none 0 0), (.slice none 0 0), (.int .i64 0), (.int .i64 0)]) ?_ 4 _ rfl; refine blk_put (cs := #[(.slice none 0 0), (.slice none 0 0), (.slice none 0 0), (.int .i64 0), (.int .i64 0)]) ?_ 3 _ rfl; refine blk_put (cs := #[(.slice none 0 0), (.slice none 0 0), (.slice none 0 0), (.int .i64 0), (.int .i64 0)]) ?_ 2 _ rfl; refine blk_put (cs := #[(.slice none 0 0), (.slice none 0 0), (.slice none 0 0), (.int .i64 0), (.int .i64 0)]) ?_ 1 _ rfl; refine blk_put (cs := #[(.slice none 0 0), (.slice none 0 0), (.slice none 0 0), (.int .i64 0), (.int .i64 0)]) ?_ 0 _ rfl; exact B4.out : w9.heap[g4]? = some (.cells #[(.slice none 0 0), (.slice none 0 0), (.slice none 0 0), (.int .i64 0), (.int .i64 0)] 53 (0, 0)))); have n1_ := xm ((by rw [hw]; exact (Below.setCell (Below.setCell (Below.setCell (Below.setCell (Below.setCell HB.out (p := ⟨g4, 0, none⟩) G4.out _) (p := ⟨g4, 1, none⟩) G4.out _) (p := ⟨g4, 2, none⟩) G4.out _) (p := ⟨g4, 3, none⟩) G4.out _) (p := ⟨g4, 4, none⟩) G4.out _) : Below w.heap.size w w9)); have n2_ := xm ((by rw [hw]; exact (blk_far (p := ⟨g4, 4, none⟩) (blk_far (p := ⟨g4, 3, none⟩) (blk_far (p := ⟨g4, 2, none⟩) (blk_far (p := ⟨g4, 1, none⟩) (blk_far (p := ⟨g4, 0, none⟩) B2.out (Ne.symm N24.out) _) (Ne.symm N24.out) _) (Ne.symm N24.out) _) (Ne.symm N24.out) _) (Ne.symm N24.out) _) : w9.heap[_]? = some _)); have n3_ := xm ((by rw [hw]; exact (blk_far (p := ⟨g4, 4, none⟩) (blk_far (p := ⟨g4, 3, none⟩) (blk_far (p := ⟨g4, 2, none⟩) (blk_far (p := ⟨g4, 1, none⟩) (blk_far (p := ⟨g4, 0, none⟩) B3.out (Ne.symm N34.out) _) (Ne.symm N34.out) _) (Ne.symm N34.out) _) (Ne.symm N34.out) _) (Ne.symm N34.out) _) : w9.heap[_]? = some _)); clear B4 HB B2 B3; have B4 := n0_; have HB := n1_; have B2 := n2_; have B3 := n3_; clear n0_ n1_ n2_ n3_; clear hw; (try clear x20 x21 x22 x23 x24 x30 x31); obtain ⟨x20, x21, x22, x23, x24, _, _, _, _, _⟩ := cz5 B2.out; have x30 := (xc B3.out 0).trans rfl; have x31 := (xc B3.out 1).trans rfl))
   refine bodyPost_ret (results_ct rfl _ _ g4 53 #[.slice none 0 0, .slice none 0 0, .slice none 0 0, .int .i64 0, .int .i64 0] (0, 0) _ rfl B4.out hu53 rfl rfl) rfl ?_
   exact ⟨.slice none 0 0, .slice none 0 0, .slice none 0 0, rfl, Kd.R_nil _ _ _ _ _, Kd.R_nil _ _ _ _ _, Kd.R_nil _ _ _ _ _, HB.out⟩
  | true =>
   rw [if_pos rfl] at h
   obtain ⟨ls, hls⟩ : ∃ ls : Int, wrap64 ((l0_0.length : Int) + (l0_2.length : Int)) = ls := ⟨_, rfl⟩
   have hlw : IntKind.i64.wrap ((l0_0.length : Int) + (l0_2.length : Int)) = ls := (i64_w _).trans hls
   rw [hls] at h
   by_cases c6 : (ls == 60) = true
   ·rw [if_pos c6] at h
    simp only [Option.some.injEq, Prod.mk.injEq] at h
    obtain ⟨rfl, rfl, rfl, rfl, rfl, rfl⟩ := h
    go_enter Try.func70, Try.ntmps70
    go_wp2_with (first
     | ((with_reducible refine gate_dst (N := 2) rfl ?_); refine box_event ?hgza (N := 2) ?hdza (cs := #[.slice A0_0 l0_0.length c0_0, .slice A0_1 l0_1.length c0_1, .slice A0_2 l0_2.length c0_2, .int .i64 a0_3, .int .i64 a0_4]) (t := 53) ?hrza ?_; (case hdza => rfl); (case hgza => rfl); (case hrza => exact zB); intro g2 hg_ w1 hbox hbb; have B2 := xm hbox; have G2 := xm (Nat.le_of_eq hg_.symm); have n0_ := xm (below_step HB.out hbb); clear HB; have HB := n0_; clear n0_; clear hg_ hbox hbb)
     | ((with_reducible refine gate_dst (N := 3) rfl ?_); refine box_event ?hgzb (N := 3) ?hdzb (cs := #[.int .i64 a1_0, .int .i64 a1_1]) (t := 51) ?hrzb ?_; (case hdzb => rfl); (case hgzb => rfl); (case hrzb => exact zB); intro g3 hg_ w2 hbox hbb; have B3 := xm hbox; have n0_ := xm (below_step HB.out hbb); have n1_ := xm (blk_below B2.out hbb); clear HB B2; have HB := n0_; have B2 := n1_; clear n0_ n1_; clear hg_ hbox hbb; obtain ⟨x20, x21, x22, x23, x24, _, _, _, _, _⟩ := cz5 B2.out; have x30 := (xc B3.out 0).trans rfl; have x31 := (xc B3.out 1).trans rfl)
     | ((with_reducible refine gate_dst (N := 4) rfl ?_); refine box_event ?hgzc (N := 4) ?hdzc (cs := #[.slice none 0 0, .slice none 0 0, .slice none 0 0, .int .i64 0, .int .i64 0]) (t := 53) ?hrzc ?_; (case hdzc => rfl); (case hgzc => rfl); (case hrzc => exact zB); intro g4 hg_ w3 hbox hbb; have G4 := xm (show w.heap.size ≤ g4 from by rw [hg_]; exact HB.out.size); have B4 := xm hbox; have N24 := xm (show g4 ≠ g2 from fun h => by have := blk_lt B2.out; omega); have N34 := xm (show g4 ≠ g3 from fun h => by have := blk_lt B3.out; omega); have n0_ := xm (below_step HB.out hbb); have n1_ := xm (blk_below B2.out hbb); have n2_ := xm (blk_below B3.out hbb); clear HB B2 B3; have HB := n0_; have B2 := n1_; have B3 := n2_; clear n0_ n1_ n2_; clear hg_ hbox hbb; (try clear x20 x21 x22 x23 x24 x30 x31); obtain ⟨x20, x21, x22, x23, x24, _, _, _, _, _⟩ := cz5 B2.out; have x30 := (xc B3.out 0).trans rfl; have x31 := (xc B3.out 1).trans rfl)
     | (go_at_call 36; refine (impl_GoodWindow.calls k _ _ l0_0 _ _ l0_1 _ _ l0_2 a0_3 a0_4 _ _ (Kd.C_below HR0.out HB.out) HC0.out (Kd.C_below HR1.out HB.out) HC1.out (Kd.C_below HR2.out HB.out) HC2.out T0.out).mono ?_; rintro e w4 ⟨rfl, hb⟩; have n0_ := xm (below_step HB.out hb); have n1_ := xm (blk_below B2.out hb); have n2_ := xm (blk_below B3.out hb); have n3_ := xm (blk_below B4.out hb); clear HB B2 B3 B4; have HB := n0_; have B2 := n1_; have B3 := n2_; have B4 := n3_; clear n0_ n1_ n2_ n3_; clear hb; (try clear x20 x21 x22 x23 x24 x30 x31); obtain ⟨x20, x21, x22, x23, x24, _, _, _, _, _⟩ := cz5 B2.out; have x30 := (xc B3.out 0).trans rfl; have x31 := (xc B3.out 1).trans rfl)
     | (go_at_call 98; refine (impl_GoodMap.calls a1_0 a1_1 _ _ T1.out).mono ?_; rintro e w5 ⟨rfl, hb⟩; have n0_ := xm (below_step HB.out hb); have n1_ := xm (blk_below B2.out hb); have n2_ := xm (blk_below B3.out hb); have n3_ := xm (blk_below B4.out hb); clear HB B2 B3 B4; have HB := n0_; have B2 := n1_; have B3 := n2_; have B4 := n3_; clear n0_ n1_ n2_ n3_; clear hb; (try clear x20 x21 x22 x23 x24 x30 x31); obtain ⟨x20, x21, x22, x23, x24, _, _, _, _, _⟩ := cz5 B2.out; have x30 := (xc B3.out 0).trans rfl; have x31 := (xc B3.out 1).trans rfl)
     | ((with_reducible refine gate_store (t := 53) (p := 4) rfl ?_); obtain ⟨y0, y1, y2, y3, y4, f0, f1, f2, f3, f4⟩ := cz5 B4.out; refine store_event (t := 53) (p := 4) (v := ?vozzw5) (w1 := (((((w5.setCell ⟨g4, 0, none⟩ (.slice none 0 0)).setCell ⟨g4, 1, none⟩ (.slice none 0 0)).setCell ⟨g4, 2, none⟩ (.slice none 0 0)).setCell ⟨g4, 3, none⟩ (.int .i64 0)).setCell ⟨g4, 4, none⟩ (.int .i64 0))) ?hgzzw5 ?hozzw5 ?hnzzw5 ?hrzzw5 ?_; (case hozzw5 => rfl); (case hgzzw5 => rfl); (case hnzzw5 => rfl); (case hrzzw5 => exact zB); intro w9 hw; clear y0 y1 y2 y3 y4 f0 f1 f2 f3 f4; have n0_ := xm ((by rw [hw]; refine blk_put (cs := #[(.slice none 0 0), (.slice none 0 0), (.slice none 0 0), (.int .i64 0), (.int .i64 0)]) ?_ 4 _ rfl; refine blk_put (cs := #[(.slice none 0 0), (.slice none 0 0), (.slice none 0 0), (.int .i64 0), (.int .i64 0)]) ?_ 3 _ rfl; refine blk_put (cs := #[(.slice none 0 0), (.slice none 0 0), (.slice none 0 0), (.int .i64 0), (.int .i64 0)]) ?_ 2 _ rfl; refine blk_put (cs := #[(.slice none 0 0), (.slice none 0 0), (.slice none 0 0), (.int .i64 0), (.int .i64 0)]) ?_ 1 _ rfl; refine blk_put (cs := #[(.slice none 0 0), (.slice none 0 0), (.slice none 0 0), (.int .i64 0), (.int .i64 0)]) ?_ 0 _ rfl; exact B4.out : w9.heap[g4]? = some (.cells #[(.slice none 0 0), (.slice none 0 0), (.slice none 0 0), (.int .i64 0), (.int .i64 0)] 53 (0, 0)))); have n1_ := xm ((by rw [hw]; exact (Below.setCell (Below.setCell (Below.setCell (Below.setCell (Below.setCell HB.out (p := ⟨g4, 0, none⟩) G4.out _) (p := ⟨g4, 1, none⟩) G4.out _) (p := ⟨g4, 2, none⟩) G4.out _) (p := ⟨g4, 3, none⟩) G4.out _) (p := ⟨g4, 4, none⟩) G4.out _) : Below w.heap.size w w9)); have n2_ := xm ((by rw [hw]; exact (blk_far (p := ⟨g4, 4, none⟩) (blk_far (p := ⟨g4, 3, none⟩) (blk_far (p := ⟨g4, 2, none⟩) (blk_far (p := ⟨g4, 1, none⟩) (blk_far (p := ⟨g4, 0, none⟩) B2.out (Ne.symm N24.out) _) (Ne.symm N24.out) _) (Ne.symm N24.out) _) (Ne.symm N24.out) _) (Ne.symm N24.out) _) : w9.heap[_]? = some _)); have n3_ := xm ((by rw [hw]; exact (blk_far (p := ⟨g4, 4, none⟩) (blk_far (p := ⟨g4, 3, none⟩) (blk_far (p := ⟨g4, 2, none⟩) (blk_far (p := ⟨g4, 1, none⟩) (blk_far (p := ⟨g4, 0, none⟩) B3.out (Ne.symm N34.out) _) (Ne.symm N34.out) _) (Ne.symm N34.out) _) (Ne.symm N34.out) _) (Ne.symm N34.out) _) : w9.heap[_]? = some _)); clear B4 HB B2 B3; have B4 := n0_; have HB := n1_; have B2 := n2_; have B3 := n3_; clear n0_ n1_ n2_ n3_; clear hw; (try clear x20 x21 x22 x23 x24 x30 x31); obtain ⟨x20, x21, x22, x23, x24, _, _, _, _, _⟩ := cz5 B2.out; have x30 := (xc B3.out 0).trans rfl; have x31 := (xc B3.out 1).trans rfl))
    refine bodyPost_ret (results_ct rfl _ _ g4 53 #[.slice none 0 0, .slice none 0 0, .slice none 0 0, .int .i64 0, .int .i64 0] (0, 0) _ rfl B4.out hu53 rfl rfl) rfl ?_
    exact ⟨.slice none 0 0, .slice none 0 0, .slice none 0 0, rfl, Kd.R_nil _ _ _ _ _, Kd.R_nil _ _ _ _ _, Kd.R_nil _ _ _ _ _, HB.out⟩
   ·rw [if_neg c6] at h
    have c6b : (ls == 60) = false := Bool.eq_false_iff.mpr c6
    have c6d : decide (ls = 60) = false := by simpa using c6
    clear c6
    obtain ⟨⟨F, S, B, a, b⟩, o0, h⟩ := Option.bind_eq_some_iff.mp h
    dsimp only at h
    by_cases c7 : B.length < 8796093022208
    case neg => rw [if_neg c7] at h; cases h
    rw [if_pos c7] at h
    obtain ⟨⟨s0, s1⟩, m0, h⟩ := Option.bind_eq_some_iff.mp h
    dsimp only at h
    obtain ⟨⟨q1, q2, q3, q4, q5⟩, p0, h⟩ := Option.bind_eq_some_iff.mp h
    simp only [Option.some.injEq, Prod.mk.injEq] at h
    obtain ⟨rfl, rfl, rfl, rfl, rfl, rfl⟩ := h
    obtain ⟨BB, hBB⟩ : ∃ BB, B ++ [(⟨a1_0, a1_1⟩ : S51)] = BB := ⟨_, rfl⟩
    rw [hBB] at p0
    have HBB := xm hBB
    clear hBB
    have O0 := xm o0
    have M0 := xm m0
    have Q0 := xm p0
    have C7 := xm c7
    clear o0 m0 p0 c7
    go_enter Try.func70, Try.ntmps70
    go_wp2_with (first
     | ((with_reducible refine gate_dst (N := 2) rfl ?_); refine box_event ?hgza (N := 2) ?hdza (cs := #[.slice A0_0 l0_0.length c0_0, .slice A0_1 l0_1.length c0_1, .slice A0_2 l0_2.length c0_2, .int .i64 a0_3, .int .i64 a0_4]) (t := 53) ?hrza ?_; (case hdza => rfl); (case hgza => rfl); (case hrza => exact zB); intro g2 hg_ w1 hbox hbb; have B2 := xm hbox; have G2 := xm (Nat.le_of_eq hg_.symm); have n0_ := xm (below_step HB.out hbb); clear HB; have HB := n0_; clear n0_; clear hg_ hbox hbb)
     | ((with_reducible refine gate_dst (N := 3) rfl ?_); refine box_event ?hgzb (N := 3) ?hdzb (cs := #[.int .i64 a1_0, .int .i64 a1_1]) (t := 51) ?hrzb ?_; (case hdzb => rfl); (case hgzb => rfl); (case hrzb => exact zB); intro g3 hg_ w2 hbox hbb; have B3 := xm hbox; have n0_ := xm (below_step HB.out hbb); have n1_ := xm (blk_below B2.out hbb); clear HB B2; have HB := n0_; have B2 := n1_; clear n0_ n1_; clear hg_ hbox hbb; obtain ⟨x20, x21, x22, x23, x24, _, _, _, _, _⟩ := cz5 B2.out; have x30 := (xc B3.out 0).trans rfl; have x31 := (xc B3.out 1).trans rfl)
     | ((with_reducible refine gate_dst (N := 4) rfl ?_); refine box_event ?hgzc (N := 4) ?hdzc (cs := #[.slice none 0 0, .slice none 0 0, .slice none 0 0, .int .i64 0, .int .i64 0]) (t := 53) ?hrzc ?_; (case hdzc => rfl); (case hgzc => rfl); (case hrzc => exact zB); intro g4 hg_ w3 hbox hbb; have G4 := xm (show w.heap.size ≤ g4 from by rw [hg_]; exact HB.out.size); have B4 := xm hbox; have N24 := xm (show g4 ≠ g2 from fun h => by have := blk_lt B2.out; omega); have N34 := xm (show g4 ≠ g3 from fun h => by have := blk_lt B3.out; omega); have n0_ := xm (below_step HB.out hbb); have n1_ := xm (blk_below B2.out hbb); have n2_ := xm (blk_below B3.out hbb); clear HB B2 B3; have HB := n0_; have B2 := n1_; have B3 := n2_; clear n0_ n1_ n2_; clear hg_ hbox hbb; (try clear x20 x21 x22 x23 x24 x30 x31); obtain ⟨x20, x21, x22, x23, x24, _, _, _, _, _⟩ := cz5 B2.out; have x30 := (xc B3.out 0).trans rfl; have x31 := (xc B3.out 1).trans rfl)
     | (go_at_call 36; refine (impl_GoodWindow.calls k _ _ l0_0 _ _ l0_1 _ _ l0_2 a0_3 a0_4 _ _ (Kd.C_below HR0.out HB.out) HC0.out (Kd.C_below HR1.out HB.out) HC1.out (Kd.C_below HR2.out HB.out) HC2.out T0.out).mono ?_; rintro e w4 ⟨rfl, hb⟩; have n0_ := xm (below_step HB.out hb); have n1_ := xm (blk_below B2.out hb); have n2_ := xm (blk_below B3.out hb); have n3_ := xm (blk_below B4.out hb); clear HB B2 B3 B4; have HB := n0_; have B2 := n1_; have B3 := n2_; have B4 := n3_; clear n0_ n1_ n2_ n3_; clear hb; (try clear x20 x21 x22 x23 x24 x30 x31); obtain ⟨x20, x21, x22, x23, x24, _, _, _, _, _⟩ := cz5 B2.out; have x30 := (xc B3.out 0).trans rfl; have x31 := (xc B3.out 1).trans rfl)
     | (go_at_call 98; refine (impl_GoodMap.calls a1_0 a1_1 _ _ T1.out).mono ?_; rintro e w5 ⟨rfl, hb⟩; have n0_ := xm (below_step HB.out hb); have n1_ := xm (blk_below B2.out hb); have n2_ := xm (blk_below B3.out hb); have n3_ := xm (blk_below B4.out hb); clear HB B2 B3 B4; have HB := n0_; have B2 := n1_; have B3 := n2_; have B4 := n3_; clear n0_ n1_ n2_ n3_; clear hb; (try clear x20 x21 x22 x23 x24 x30 x31); obtain ⟨x20, x21, x22, x23, x24, _, _, _, _, _⟩ := cz5 B2.out; have x30 := (xc B3.out 0).trans rfl; have x31 := (xc B3.out 1).trans rfl)
     | ((with_reducible refine gate_callee (f := 130) rfl ?_); refine goesL_ (some 27) rfl rfl Try.func130 (by kernel_rfl) rfl #[.agg #[.slice A0_0 l0_0.length c0_0, .slice A0_1 l0_1.length c0_1, .slice A0_2 l0_2.length c0_2, .int .i64 a0_3, .int .i64 a0_4]] rfl mB ?_; refine (impl_Window_own.calls _ _ l0_0 _ _ l0_1 _ _ l0_2 a0_3 a0_4 F S B a b _ (Kd.C_below HR0.out HB.out) HC0.out (Kd.C_below HR1.out HB.out) HC1.out (Kd.C_below HR2.out HB.out) HC2.out O0.out).mono ?_; rintro e w6 ⟨v0, v1, v2, rfl, r0, r1_, r2_, hb⟩; refine ⟨_, rfl, ?_⟩; obtain ⟨Af, cf, rfl⟩ := Kd.R_slice r0; obtain ⟨As, cs, rfl⟩ := Kd.R_slice r1_; obtain ⟨Ab, cb, rfl⟩ := Kd.R_slice r2_; have RO := xm (show ∀ k, ((.slice Af F.length cf : Value).ownBlock = some k ∨ (.slice As S.length cs : Value).ownBlock = some k ∨ (.slice Ab B.length cb : Value).ownBlock = some k) → k ≠ g2 ∧ k ≠ g3 ∧ k ≠ g4 from fun k hk => by have l2 := blk_lt B2.out; have l3 := blk_lt B3.out; have l4 := blk_lt B4.out; have : w5.heap.size ≤ k := (hk.elim (Kd.R_base r0 k) (fun h => h.elim (Kd.R_base r1_ k) (Kd.R_base r2_ k))); exact ⟨by omega, by omega, by omega⟩); have R0 := xm (Kd.R_lower r0 HB.out.size); have R1 := xm (Kd.R_lower r1_ HB.out.size); have R2 := xm (Kd.R_lower r2_ HB.out.size); have n0_ := xm (below_step HB.out hb); have n1_ := xm (blk_below B2.out hb); have n2_ := xm (blk_below B3.out hb); have n3_ := xm (blk_below B4.out hb); clear HB B2 B3 B4; have HB := n0_; have B2 := n1_; have B3 := n2_; have B4 := n3_; clear n0_ n1_ n2_ n3_; clear r0 r1_ r2_ hb; (try clear x20 x21 x22 x23 x24 x30 x31); obtain ⟨x20, x21, x22, x23, x24, _, _, _, _, _⟩ := cz5 B2.out; have x30 := (xc B3.out 0).trans rfl; have x31 := (xc B3.out 1).trans rfl)
     | ((with_reducible refine gate_dst (N := 6) rfl ?_); refine box_event ?hgzd (N := 6) ?hdzd (cs := #[.slice none 0 0, .slice none 0 0, .slice none 0 0, .int .i64 0, .int .i64 0]) (t := 53) ?hrzd ?_; (case hdzd => rfl); (case hgzd => rfl); (case hrzd => exact zB); intro g6 hg_ w7 hbox hbb; have G6 := xm (show w.heap.size ≤ g6 from by rw [hg_]; exact HB.out.size); have B6 := xm hbox; have N6 := xm (show g6 ≠ g2 ∧ g6 ≠ g3 ∧ g6 ≠ g4 from ⟨fun h => by have := blk_lt B2.out; omega, fun h => by have := blk_lt B3.out; omega, fun h => by have := blk_lt B4.out; omega⟩); have RN := xm (show ∀ k, ((.slice Af F.length cf : Value).ownBlock = some k ∨ (.slice As S.length cs : Value).ownBlock = some k ∨ (.slice Ab B.length cb : Value).ownBlock = some k) → k ≠ g6 from fun k hk => by have : k < w6.heap.size := (hk.elim (Kd.R_lt R0.out k) (fun h => h.elim (Kd.R_lt R1.out k) (Kd.R_lt R2.out k))); omega); have n0_ := xm (below_step HB.out hbb); have n1_ := xm (blk_below B2.out hbb); have n2_ := xm (blk_below B3.out hbb); have n3_ := xm (blk_below B4.out hbb); have n4_ := xm (Kd.R_own (Kd.R_below R0.out hbb)); have n5_ := xm (Kd.R_own (Kd.R_below R1.out hbb)); have n6_ := xm (Kd.R_own (Kd.R_below R2.out hbb)); have n7_ := xm (R0.out.1); have n8_ := xm (R1.out.1); clear HB B2 B3 B4 R0 R1 R2; have HB := n0_; have B2 := n1_; have B3 := n2_; have B4 := n3_; have R0 := n4_; have R1 := n5_; have R2 := n6_; have HD0 := n7_; have HD1 := n8_; clear n0_ n1_ n2_ n3_ n4_ n5_ n6_ n7_ n8_; clear hg_ hbox hbb; (try clear x20 x21 x22 x23 x24 x30 x31); obtain ⟨x20, x21, x22, x23, x24, _, _, _, _, _⟩ := cz5 B2.out; have x30 := (xc B3.out 0).trans rfl; have x31 := (xc B3.out 1).trans rfl)
     | ((with_reducible refine gate_store (t := 53) (p := 6) rfl ?_); obtain ⟨y0, y1, y2, y3, y4, f0, f1, f2, f3, f4⟩ := cz5 B6.out; refine store_event (t := 53) (p := 6) (v := ?voze) (w1 := (((((w7.setCell ⟨g6, 0, none⟩ (.slice Af F.length cf : Value)).setCell ⟨g6, 1, none⟩ (.slice As S.length cs : Value)).setCell ⟨g6, 2, none⟩ (.slice Ab B.length cb : Value)).setCell ⟨g6, 3, none⟩ (.int .i64 a)).setCell ⟨g6, 4, none⟩ (.int .i64 b))) ?hgze ?hoze ?hnze ?hrze ?_; (case hoze => rfl); (case hgze => rfl); (case hnze => rfl); (case hrze => exact zB); intro w8 hw; clear y0 y1 y2 y3 y4 f0 f1 f2 f3 f4; have n0_ := xm ((by rw [hw]; refine blk_put (cs := #[(.slice Af F.length cf : Value), (.slice As S.length cs : Value), (.slice Ab B.length cb : Value), (.int .i64 a), (.int .i64 0)]) ?_ 4 _ rfl; refine blk_put (cs := #[(.slice Af F.length cf : Value), (.slice As S.length cs : Value), (.slice Ab B.length cb : Value), (.int .i64 0), (.int .i64 0)]) ?_ 3 _ rfl; refine blk_put (cs := #[(.slice Af F.length cf : Value), (.slice As S.length cs : Value), (.slice none 0 0), (.int .i64 0), (.int .i64 0)]) ?_ 2 _ rfl; refine blk_put (cs := #[(.slice Af F.length cf : Value), (.slice none 0 0), (.slice none 0 0), (.int .i64 0), (.int .i64 0)]) ?_ 1 _ rfl; refine blk_put (cs := #[(.slice none 0 0), (.slice none 0 0), (.slice none 0 0), (.int .i64 0), (.int .i64 0)]) ?_ 0 _ rfl; exact B6.out : w8.heap[g6]? = some (.cells #[(.slice Af F.length cf : Value), (.slice As S.length cs : Value), (.slice Ab B.length cb : Value), (.int .i64 a), (.int .i64 b)] 53 (0, 0)))); have n1_ := xm ((by rw [hw]; exact (Below.setCell (Below.setCell (Below.setCell (Below.setCell (Below.setCell HB.out (p := ⟨g6, 0, none⟩) G6.out _) (p := ⟨g6, 1, none⟩) G6.out _) (p := ⟨g6, 2, none⟩) G6.out _) (p := ⟨g6, 3, none⟩) G6.out _) (p := ⟨g6, 4, none⟩) G6.out _) : Below w.heap.size w w8)); have n2_ := xm ((by rw [hw]; exact (blk_far (p := ⟨g6, 4, none⟩) (blk_far (p := ⟨g6, 3, none⟩) (blk_far (p := ⟨g6, 2, none⟩) (blk_far (p := ⟨g6, 1, none⟩) (blk_far (p := ⟨g6, 0, none⟩) B2.out (Ne.symm N6.out.1) _) (Ne.symm N6.out.1) _) (Ne.symm N6.out.1) _) (Ne.symm N6.out.1) _) (Ne.symm N6.out.1) _) : w8.heap[_]? = some _)); have n3_ := xm ((by rw [hw]; exact (blk_far (p := ⟨g6, 4, none⟩) (blk_far (p := ⟨g6, 3, none⟩) (blk_far (p := ⟨g6, 2, none⟩) (blk_far (p := ⟨g6, 1, none⟩) (blk_far (p := ⟨g6, 0, none⟩) B3.out (Ne.symm N6.out.2.1) _) (Ne.symm N6.out.2.1) _) (Ne.symm N6.out.2.1) _) (Ne.symm N6.out.2.1) _) (Ne.symm N6.out.2.1) _) : w8.heap[_]? = some _)); have n4_ := xm ((by rw [hw]; exact (blk_far (p := ⟨g6, 4, none⟩) (blk_far (p := ⟨g6, 3, none⟩) (blk_far (p := ⟨g6, 2, none⟩) (blk_far (p := ⟨g6, 1, none⟩) (blk_far (p := ⟨g6, 0, none⟩) B4.out (Ne.symm N6.out.2.2) _) (Ne.symm N6.out.2.2) _) (Ne.symm N6.out.2.2) _) (Ne.symm N6.out.2.2) _) (Ne.symm N6.out.2.2) _) : w8.heap[_]? = some _)); have n5_ := xm ((by rw [hw]; exact (Kd.R_far (p := ⟨g6, 4, none⟩) (Kd.R_far (p := ⟨g6, 3, none⟩) (Kd.R_far (p := ⟨g6, 2, none⟩) (Kd.R_far (p := ⟨g6, 1, none⟩) (Kd.R_far (p := ⟨g6, 0, none⟩) R0.out (fun k hk => RN.out k (.inl hk.symm)) _) (fun k hk => RN.out k (.inl hk.symm)) _) (fun k hk => RN.out k (.inl hk.symm)) _) (fun k hk => RN.out k (.inl hk.symm)) _) (fun k hk => RN.out k (.inl hk.symm)) _) : Kd.R k51 51 w8 w.heap.size _ _ _)); have n6_ := xm ((by rw [hw]; exact (Kd.R_far (p := ⟨g6, 4, none⟩) (Kd.R_far (p := ⟨g6, 3, none⟩) (Kd.R_far (p := ⟨g6, 2, none⟩) (Kd.R_far (p := ⟨g6, 1, none⟩) (Kd.R_far (p := ⟨g6, 0, none⟩) R1.out (fun k hk => RN.out k (.inr (.inl hk.symm))) _) (fun k hk => RN.out k (.inr (.inl hk.symm))) _) (fun k hk => RN.out k (.inr (.inl hk.symm))) _) (fun k hk => RN.out k (.inr (.inl hk.symm))) _) (fun k hk => RN.out k (.inr (.inl hk.symm))) _) : Kd.R k51 51 w8 w.heap.size _ _ _)); have n7_ := xm ((by rw [hw]; exact (Kd.R_far (p := ⟨g6, 4, none⟩) (Kd.R_far (p := ⟨g6, 3, none⟩) (Kd.R_far (p := ⟨g6, 2, none⟩) (Kd.R_far (p := ⟨g6, 1, none⟩) (Kd.R_far (p := ⟨g6, 0, none⟩) R2.out (fun k hk => RN.out k (.inr (.inr hk.symm))) _) (fun k hk => RN.out k (.inr (.inr hk.symm))) _) (fun k hk => RN.out k (.inr (.inr hk.symm))) _) (fun k hk => RN.out k (.inr (.inr hk.symm))) _) (fun k hk => RN.out k (.inr (.inr hk.symm))) _) : Kd.R k51 51 w8 w.heap.size _ _ _)); clear B6 HB B2 B3 B4 R0 R1 R2; have B6 := n0_; have HB := n1_; have B2 := n2_; have B3 := n3_; have B4 := n4_; have R0 := n5_; have R1 := n6_; have R2 := n7_; clear n0_ n1_ n2_ n3_ n4_ n5_ n6_ n7_; clear hw; (try clear x20 x21 x22 x23 x24 x30 x31); obtain ⟨x20, x21, x22, x23, x24, _, _, _, _, _⟩ := cz5 B2.out; have x30 := (xc B3.out 0).trans rfl; have x31 := (xc B3.out 1).trans rfl; have HW := xm (show WinAt w8 w.heap.size g6 (fun k => k = g6 ∨ some k = (.slice Af F.length cf : Value).ownBlock ∨ some k = (.slice As S.length cs : Value).ownBlock ∨ some k = (.slice Ab B.length cb : Value).ownBlock) F S B a b from ⟨⟨(.slice Af F.length cf : Value), (.slice As S.length cs : Value), (.slice Ab B.length cb : Value), B6.out, R0.out, R1.out, R2.out, fun k hk => ⟨(HD0.out k hk.symm).1, (HD0.out k hk.symm).2, RN.out k (.inl hk.symm), .inr (.inl hk)⟩, fun k hk => ⟨(HD1.out k hk.symm).2, RN.out k (.inr (.inl hk.symm)), .inr (.inr (.inl hk))⟩, fun k hk => ⟨RN.out k (.inr (.inr hk.symm)), .inr (.inr (.inr hk))⟩⟩, .inl rfl, G6.out⟩); have NB := xm (show ∀ q, q = g2 ∨ q = g3 ∨ q = g4 → ¬ (q = g6 ∨ some q = (.slice Af F.length cf : Value).ownBlock ∨ some q = (.slice As S.length cs : Value).ownBlock ∨ some q = (.slice Ab B.length cb : Value).ownBlock) from fun q hq h => by rcases h with h | h; exact (by have := N6.out; omega); exact (by have := RO.out q (h.elim (fun h => .inl h.symm) (fun h => h.elim (fun h => .inr (.inl h.symm)) (fun h => .inr (.inr h.symm)))); omega)); clear R0 R1 R2 B6 HD0 HD1)
     | ((with_reducible refine gate_callee (f := 105) rfl ?_); refine goesL_ (some 29) rfl rfl Try.func105 (by kernel_rfl) rfl #[.pointer (some ⟨g6, 0, none⟩), .agg #[.int .i64 a1_0, .int .i64 a1_1]] rfl mB ?_; refine (impl_Window_push.calls g6 w.heap.size _ F S B a b a1_0 a1_1 s0 s1 _ HW.out C7.out M0.out).mono ?_; rintro e w9 ⟨rfl, hb, hk, hw9⟩; refine ⟨_, rfl, ?_⟩; rw [HBB.out] at hw9; obtain ⟨vf, vs, vb, hV⟩ := hw9.v; obtain ⟨Bf, df, rfl⟩ := Kd.R_slice hV.rf; obtain ⟨Bs, ds, rfl⟩ := Kd.R_slice hV.rs; obtain ⟨Bb, db, rfl⟩ := Kd.R_slice hV.rb; have HV := xm hV; have n0_ := xm (HB.out.trans hb); have n1_ := xm (blk_kept B2.out hk (NB.out _ (.inl rfl))); have n2_ := xm (blk_kept B3.out hk (NB.out _ (.inr (.inl rfl)))); have n3_ := xm (blk_kept B4.out hk (NB.out _ (.inr (.inr rfl)))); clear HB B2 B3 B4; have HB := n0_; have B2 := n1_; have B3 := n2_; have B4 := n3_; clear n0_ n1_ n2_ n3_; clear hb hk hw9 hV HW NB RN RO; (try clear x20 x21 x22 x23 x24 x30 x31); obtain ⟨x20, x21, x22, x23, x24, _, _, _, _, _⟩ := cz5 B2.out; have x30 := (xc B3.out 0).trans rfl; have x31 := (xc B3.out 1).trans rfl; obtain ⟨z0, z1, z2, z3, z4⟩ := HV.out.cells)
     | ((with_reducible refine gate_callee (f := 130) rfl ?_); refine goesL_ (some 31) rfl rfl Try.func130 (by kernel_rfl) rfl #[.agg #[.slice Bf F.length df, .slice Bs S.length ds, .slice Bb BB.length db, .int .i64 s0, .int .i64 s1]] rfl mB ?_; refine (impl_Window_own.calls _ _ F _ _ S _ _ BB s0 s1 q1 q2 q3 q4 q5 _ (Kd.R_reads' HV.out.rf).2.2 (Kd.R_reads' HV.out.rf).2.1 (Kd.R_reads' HV.out.rs).2.2 (Kd.R_reads' HV.out.rs).2.1 (Kd.R_reads' HV.out.rb).2.2 (Kd.R_reads' HV.out.rb).2.1 Q0.out).mono ?_; rintro e wA ⟨u0, u1, u2, rfl, r0, r1_, r2_, hb⟩; refine ⟨_, rfl, ?_⟩; obtain ⟨Ef, ef, rfl⟩ := Kd.R_slice r0; obtain ⟨Es, es, rfl⟩ := Kd.R_slice r1_; obtain ⟨Eb, eb, rfl⟩ := Kd.R_slice r2_; have L4 := xm (blk_lt B4.out); have U0 := xm (Kd.R_lower (Kd.R_mono (ok' := fun k => (some k ≠ (Value.slice Es q2.length es).ownBlock ∧ some k ≠ (Value.slice Eb q3.length eb).ownBlock) ∧ w9.heap.size ≤ k) (Kd.R_bound r0) (fun k hk => ⟨hk.1, hk.2.1⟩)) HB.out.size); have U1 := xm (Kd.R_lower (Kd.R_mono (ok' := fun k => (some k ≠ (Value.slice Ef q1.length ef).ownBlock ∧ some k ≠ (Value.slice Eb q3.length eb).ownBlock) ∧ w9.heap.size ≤ k) (Kd.R_bound r1_) (fun k hk => ⟨hk.1, hk.2.1⟩)) HB.out.size); have U2 := xm (Kd.R_lower (Kd.R_mono (ok' := fun k => (some k ≠ (Value.slice Ef q1.length ef).ownBlock ∧ some k ≠ (Value.slice Es q2.length es).ownBlock) ∧ w9.heap.size ≤ k) (Kd.R_bound r2_) (fun k hk => ⟨hk.1, hk.2.1⟩)) HB.out.size); have n0_ := xm (below_step HB.out hb); have n1_ := xm (blk_below B2.out hb); have n2_ := xm (blk_below B3.out hb); have n3_ := xm (blk_below B4.out hb); clear HB B2 B3 B4; have HB := n0_; have B2 := n1_; have B3 := n2_; have B4 := n3_; clear n0_ n1_ n2_ n3_; clear r0 r1_ r2_ hb z0 z1 z2 z3 z4; (try clear x20 x21 x22 x23 x24 x30 x31); obtain ⟨x20, x21, x22, x23, x24, _, _, _, _, _⟩ := cz5 B2.out; have x30 := (xc B3.out 0).trans rfl; have x31 := (xc B3.out 1).trans rfl)
     | ((with_reducible refine gate_store (t := 53) (p := 4) rfl ?_); obtain ⟨y0, y1, y2, y3, y4, f0, f1, f2, f3, f4⟩ := cz5 B4.out; refine store_event (t := 53) (p := 4) (v := ?vozf) (w1 := (((((wA.setCell ⟨g4, 0, none⟩ (.slice Ef q1.length ef)).setCell ⟨g4, 1, none⟩ (.slice Es q2.length es)).setCell ⟨g4, 2, none⟩ (.slice Eb q3.length eb)).setCell ⟨g4, 3, none⟩ (.int .i64 q4)).setCell ⟨g4, 4, none⟩ (.int .i64 q5))) ?hgzf ?hozf ?hnzf ?hrzf ?_; (case hozf => rfl); (case hgzf => rfl); (case hnzf => rfl); (case hrzf => exact zB); intro wB hw; clear y0 y1 y2 y3 y4 f0 f1 f2 f3 f4; have n0_ := xm ((by rw [hw]; refine blk_put (cs := #[(.slice Ef q1.length ef), (.slice Es q2.length es), (.slice Eb q3.length eb), (.int .i64 q4), (.int .i64 0)]) ?_ 4 _ rfl; refine blk_put (cs := #[(.slice Ef q1.length ef), (.slice Es q2.length es), (.slice Eb q3.length eb), (.int .i64 0), (.int .i64 0)]) ?_ 3 _ rfl; refine blk_put (cs := #[(.slice Ef q1.length ef), (.slice Es q2.length es), (.slice none 0 0), (.int .i64 0), (.int .i64 0)]) ?_ 2 _ rfl; refine blk_put (cs := #[(.slice Ef q1.length ef), (.slice none 0 0), (.slice none 0 0), (.int .i64 0), (.int .i64 0)]) ?_ 1 _ rfl; refine blk_put (cs := #[(.slice none 0 0), (.slice none 0 0), (.slice none 0 0), (.int .i64 0), (.int .i64 0)]) ?_ 0 _ rfl; exact B4.out : wB.heap[g4]? = some (.cells #[(.slice Ef q1.length ef), (.slice Es q2.length es), (.slice Eb q3.length eb), (.int .i64 q4), (.int .i64 q5)] 53 (0, 0)))); have n1_ := xm ((by rw [hw]; exact (Below.setCell (Below.setCell (Below.setCell (Below.setCell (Below.setCell HB.out (p := ⟨g4, 0, none⟩) G4.out _) (p := ⟨g4, 1, none⟩) G4.out _) (p := ⟨g4, 2, none⟩) G4.out _) (p := ⟨g4, 3, none⟩) G4.out _) (p := ⟨g4, 4, none⟩) G4.out _) : Below w.heap.size w wB)); have n2_ := xm ((by rw [hw]; exact (blk_far (p := ⟨g4, 4, none⟩) (blk_far (p := ⟨g4, 3, none⟩) (blk_far (p := ⟨g4, 2, none⟩) (blk_far (p := ⟨g4, 1, none⟩) (blk_far (p := ⟨g4, 0, none⟩) B2.out (Ne.symm N24.out) _) (Ne.symm N24.out) _) (Ne.symm N24.out) _) (Ne.symm N24.out) _) (Ne.symm N24.out) _) : wB.heap[_]? = some _)); have n3_ := xm ((by rw [hw]; exact (blk_far (p := ⟨g4, 4, none⟩) (blk_far (p := ⟨g4, 3, none⟩) (blk_far (p := ⟨g4, 2, none⟩) (blk_far (p := ⟨g4, 1, none⟩) (blk_far (p := ⟨g4, 0, none⟩) B3.out (Ne.symm N34.out) _) (Ne.symm N34.out) _) (Ne.symm N34.out) _) (Ne.symm N34.out) _) (Ne.symm N34.out) _) : wB.heap[_]? = some _)); have n4_ := xm ((by rw [hw]; exact (Kd.R_far (p := ⟨g4, 4, none⟩) (Kd.R_far (p := ⟨g4, 3, none⟩) (Kd.R_far (p := ⟨g4, 2, none⟩) (Kd.R_far (p := ⟨g4, 1, none⟩) (Kd.R_far (p := ⟨g4, 0, none⟩) U0.out (fun k hk => by have h1 := hk.2; have h2 := L4.out; show k ≠ g4; omega) _) (fun k hk => by have h1 := hk.2; have h2 := L4.out; show k ≠ g4; omega) _) (fun k hk => by have h1 := hk.2; have h2 := L4.out; show k ≠ g4; omega) _) (fun k hk => by have h1 := hk.2; have h2 := L4.out; show k ≠ g4; omega) _) (fun k hk => by have h1 := hk.2; have h2 := L4.out; show k ≠ g4; omega) _) : Kd.R k51 51 wB w.heap.size _ _ _)); have n5_ := xm ((by rw [hw]; exact (Kd.R_far (p := ⟨g4, 4, none⟩) (Kd.R_far (p := ⟨g4, 3, none⟩) (Kd.R_far (p := ⟨g4, 2, none⟩) (Kd.R_far (p := ⟨g4, 1, none⟩) (Kd.R_far (p := ⟨g4, 0, none⟩) U1.out (fun k hk => by have h1 := hk.2; have h2 := L4.out; show k ≠ g4; omega) _) (fun k hk => by have h1 := hk.2; have h2 := L4.out; show k ≠ g4; omega) _) (fun k hk => by have h1 := hk.2; have h2 := L4.out; show k ≠ g4; omega) _) (fun k hk => by have h1 := hk.2; have h2 := L4.out; show k ≠ g4; omega) _) (fun k hk => by have h1 := hk.2; have h2 := L4.out; show k ≠ g4; omega) _) : Kd.R k51 51 wB w.heap.size _ _ _)); have n6_ := xm ((by rw [hw]; exact (Kd.R_far (p := ⟨g4, 4, none⟩) (Kd.R_far (p := ⟨g4, 3, none⟩) (Kd.R_far (p := ⟨g4, 2, none⟩) (Kd.R_far (p := ⟨g4, 1, none⟩) (Kd.R_far (p := ⟨g4, 0, none⟩) U2.out (fun k hk => by have h1 := hk.2; have h2 := L4.out; show k ≠ g4; omega) _) (fun k hk => by have h1 := hk.2; have h2 := L4.out; show k ≠ g4; omega) _) (fun k hk => by have h1 := hk.2; have h2 := L4.out; show k ≠ g4; omega) _) (fun k hk => by have h1 := hk.2; have h2 := L4.out; show k ≠ g4; omega) _) (fun k hk => by have h1 := hk.2; have h2 := L4.out; show k ≠ g4; omega) _) : Kd.R k51 51 wB w.heap.size _ _ _)); clear B4 HB B2 B3 U0 U1 U2; have B4 := n0_; have HB := n1_; have B2 := n2_; have B3 := n3_; have U0 := n4_; have U1 := n5_; have U2 := n6_; clear n0_ n1_ n2_ n3_ n4_ n5_ n6_; clear hw; (try clear x20 x21 x22 x23 x24 x30 x31); obtain ⟨x20, x21, x22, x23, x24, _, _, _, _, _⟩ := cz5 B2.out; have x30 := (xc B3.out 0).trans rfl; have x31 := (xc B3.out 1).trans rfl))
    refine bodyPost_ret (results_ct rfl _ _ g4 53 #[(.slice Ef q1.length ef), (.slice Es q2.length es), (.slice Eb q3.length eb), (.int .i64 q4), (.int .i64 q5)] (0, 0) _ rfl B4.out hu53 rfl rfl) rfl ?_
    exact ⟨_, _, _, rfl, Kd.R_mono U0.out (fun _ h => h.1), Kd.R_mono U1.out (fun _ h => h.1), Kd.R_mono U2.out (fun _ h => h.1), HB.out⟩

/-! ### laws_heldMapS: function 44 -/
def laws_heldMapS.l0 : Nat → List (S51) → Int → Int → Option (Int)
 | 0, _, _, _ => none
 | k + 1, x0, x1, x5 => if x5 < (x0.length : Int) then (if 0 ≤ x5 then (if ((rd_T51 x0 x5).f0) = x1 then (if ((rd_T51 x0 x5).f1) = (wrap64 (x1 + 1)) then (laws_heldMapS.l0 k x0 (wrap64 ((wrap64 (x1 + 1)) + 1)) (wrap64 (x5 + 1))) else (some (-1))) else (some (-1))) else (none)) else (some x1)
def laws_heldMapS.f (k : Nat) (l0 : List (S51)) (a1 : Int) : Option (Int) := laws_heldMapS.l0 k l0 a1 0
theorem laws_heldMapS.mono_l : ∀ k, (∀ y0 y1 y2, LeO (laws_heldMapS.l0 k y0 y1 y2) (laws_heldMapS.l0 (k + 1) y0 y1 y2))
 | 0 => fun _ _ _ r h => by simp [laws_heldMapS.l0] at h
 | k + 1 => by
  have ih0 := laws_heldMapS.mono_l k
  ·intro y0 y1 y2
   unfold laws_heldMapS.l0
   repeat' first
   | (with_reducible exact ih0 _ _ _)
   | (with_reducible exact LeO.refl _)
   | (with_reducible exact LeO.none _)
   | (with_reducible refine LeO.ite ?_ ?_)
   | (with_reducible refine LeO.bind ?_ (fun _ => ?_))
   | exact ih0 _ _ _
   | exact LeO.none _
   | refine LeO.ite ?_ ?_
   | refine LeO.bind ?_ (fun _ => ?_)
theorem laws_heldMapS.mono : ∀ a0 a1 k, LeO (laws_heldMapS.f k a0 a1) (laws_heldMapS.f (k + 1) a0 a1) := by
 intro a0 a1 k
 have ih0 := laws_heldMapS.mono_l k
 unfold laws_heldMapS.f
 repeat' first
   | (with_reducible exact ih0 _ _ _)
   | (with_reducible exact LeO.refl _)
   | (with_reducible exact LeO.none _)
   | (with_reducible refine LeO.ite ?_ ?_)
   | (with_reducible refine LeO.bind ?_ (fun _ => ?_))
   | exact ih0 _ _ _
   | exact LeO.none _
   | refine LeO.ite ?_ ?_
   | refine LeO.bind ?_ (fun _ => ?_)
set_option maxHeartbeats 8000000 in
set_option maxRecDepth 100000 in
theorem laws_heldMapS.calls (k : Nat) (A0 : Option Addr) (c0 : Nat) (l0 : List (S51)) (a1 : Int) (r : Int) (w : World) (hr0 : Kd.C k51 w A0 l0.length l0) (hc0 : l0.length ≤ c0) (h : laws_heldMapS.f k l0 a1 = some r) :
  Calls Try.prog 44 #[.slice A0 l0.length c0, .int .i64 a1] w fun e w' => e = .returned (.int .i64 r) ∧ Drawn0 w w' := by
 have HR0 := xm hr0
 have HC0 := xm hc0
 clear hr0 hc0
 have H : (laws_heldMapS.l0 k l0 a1 0) = some r := h
 clear h
 have H' := xm H
 clear H
 go_enter Try.func44, Try.ntmps44
 go_wp2
 go_loopg [1, 5] k (fun kq v1 v5 w' => ∃ (x1_1 : Int) (x5_1 : Int), v1 = .int .i64 x1_1 ∧ v5 = .int .i64 x5_1 ∧ Aside0 (laws_heldMapS.l0 kq l0 x1_1 x5_1 = some r) ∧ Aside0 (kq ≤ k) ∧ Drawn0 w w')
 case atStart => exact ⟨(a1), (0), (by first | rfl | (simp; done) | (simp [*]; done)), (by first | rfl | (simp; done) | (simp [*]; done)), H', ⟨Nat.le_refl _⟩, by repeat (first | exact Drawn0.refl _ | apply Drawn0.step)⟩
 case round =>
  clear H'
  try clear p2
  obtain ⟨x1_1, x5_1, rfl, rfl, HA, HK1, ⟨m1, rfl⟩⟩ := hrel
  cases gk with
  | zero => exact absurd HA.out (by simp [laws_heldMapS.l0])
  | succ k1 =>
   have H := HA.out
   clear HA
   simp only [laws_heldMapS.l0] at H
   by_cases c3 : x5_1 < (l0.length : Int)
   ·rw [if_pos c3] at H
    have c3b0 : decide (x5_1 < (l0.length : Int)) = true := decide_eq_true c3
    clear c3
    by_cases c4 : 0 ≤ x5_1
    ·rw [if_pos c4] at H
     have c4b0 : decide (0 ≤ x5_1) = true := decide_eq_true c4
     clear c4
     by_cases c5 : ((rd_T51 l0 x5_1).f0) = x1_1
     ·rw [if_pos c5] at H
      have c5b0 : (((rd_T51 l0 x5_1).f0) == x1_1) = true := beq_iff_eq.mpr c5
      have c5b1 : (((rd_T51 l0 x5_1).f0) != x1_1) = false := bne_eq_false_iff_eq.mpr c5
      clear c5
      by_cases c6 : ((rd_T51 l0 x5_1).f1) = (wrap64 (x1_1 + 1))
      ·rw [if_pos c6] at H
       have c6b0 : (((rd_T51 l0 x5_1).f1) == (wrap64 (x1_1 + 1))) = true := beq_iff_eq.mpr c6
       have c6b1 : (((rd_T51 l0 x5_1).f1) != (wrap64 (x1_1 + 1))) = false := bne_eq_false_iff_eq.mpr c6
       clear c6
       have H' := xm H
       clear H
       have p276 : 0 ≤ (x5_1 : Int) := of_decide_eq_true aB
       have q276 : x5_1 < (l0.length : Int) := of_decide_eq_true aB
       obtain ⟨ad276, e276, hx276_0, hx276_1⟩ := at_T51 HR0.out x5_1 p276 q276
       cases e276
       replace p276 := eq_true p276
       replace q276 := eq_true q276
       have p277 : 0 ≤ (x5_1 : Int) := of_decide_eq_true aB
       have q277 : x5_1 < (l0.length : Int) := of_decide_eq_true aB
       obtain ⟨ad277, e277, hx277_0, hx277_1⟩ := at_T51 HR0.out x5_1 p277 q277
       obtain rfl : ad276 = ad277 := (by injection e277)
       replace p277 := eq_true p277
       replace q277 := eq_true q277
       go_wp2
       go_roundg k1
       case measure => have := HK1.out; omega
       case rel => exact ⟨(wrap64 ((wrap64 (x1_1 + 1)) + 1)), (wrap64 (x5_1 + 1)), (by first | rfl | (simp; done) | (simp [*]; done)), (by first | rfl | (simp; done) | (simp [*]; done)), H', ⟨by have := HK1.out; omega⟩, by repeat (first | exact Drawn0.refl _ | apply Drawn0.step)⟩
      ·rw [if_neg c6] at H
       have c6b0 : (((rd_T51 l0 x5_1).f1) == (wrap64 (x1_1 + 1))) = false := beq_eq_false_iff_ne.mpr c6
       have c6b1 : (((rd_T51 l0 x5_1).f1) != (wrap64 (x1_1 + 1))) = true := bne_iff_ne.mpr c6
       obtain rfl := Option.some.inj H
       have p276 : 0 ≤ (x5_1 : Int) := of_decide_eq_true aB
       have q276 : x5_1 < (l0.length : Int) := of_decide_eq_true aB
       obtain ⟨ad276, e276, hx276_0, hx276_1⟩ := at_T51 HR0.out x5_1 p276 q276
       cases e276
       replace p276 := eq_true p276
       replace q276 := eq_true q276
       have p277 : 0 ≤ (x5_1 : Int) := of_decide_eq_true aB
       have q277 : x5_1 < (l0.length : Int) := of_decide_eq_true aB
       obtain ⟨ad277, e277, hx277_0, hx277_1⟩ := at_T51 HR0.out x5_1 p277 q277
       obtain rfl : ad276 = ad277 := (by injection e277)
       replace p277 := eq_true p277
       replace q277 := eq_true q277
       go_wp2
       go_ret
       exact ⟨by first | rfl | (simp; done) | (simp [*]; done), by repeat (first | exact Drawn0.refl _ | apply Drawn0.step)⟩
     ·rw [if_neg c5] at H
      have c5b0 : (((rd_T51 l0 x5_1).f0) == x1_1) = false := beq_eq_false_iff_ne.mpr c5
      have c5b1 : (((rd_T51 l0 x5_1).f0) != x1_1) = true := bne_iff_ne.mpr c5
      obtain rfl := Option.some.inj H
      have p276 : 0 ≤ (x5_1 : Int) := of_decide_eq_true aB
      have q276 : x5_1 < (l0.length : Int) := of_decide_eq_true aB
      obtain ⟨ad276, e276, hx276_0, hx276_1⟩ := at_T51 HR0.out x5_1 p276 q276
      cases e276
      replace p276 := eq_true p276
      replace q276 := eq_true q276
      go_wp2
      go_ret
      exact ⟨by first | rfl | (simp; done) | (simp [*]; done), by repeat (first | exact Drawn0.refl _ | apply Drawn0.step)⟩
    ·rw [if_neg c4] at H
     exact absurd H (by simp)
   ·rw [if_neg c3] at H
    have c3b0 : decide (x5_1 < (l0.length : Int)) = false := decide_eq_false c3
    clear c3
    obtain rfl := Option.some.inj H
    go_wp2
    go_ret
    exact ⟨by first | rfl | (simp; done) | (simp [*]; done), by repeat (first | exact Drawn0.refl _ | apply Drawn0.step)⟩

/-! ### laws_heldWindow: function 71 -/
def laws_heldWindow.f (k : Nat) (l0_0 : List (S51)) (l0_1 : List (S51)) (l0_2 : List (S51)) (a0_3 : Int) (a0_4 : Int) (a1 : Int) : Option (Int) := (laws_heldMapS.f k l0_0 a1).bind fun t279 => (if t279 < 0 then (some (-1)) else ((laws_heldMapS.f k l0_1 t279).bind fun t280 => (if t280 < 0 then (some (-1)) else ((laws_heldMapS.f k l0_2 t280).bind fun t281 => (if t281 < 0 then (some (-1)) else (some t281))))))
theorem laws_heldWindow.mono : ∀ a0 a1 a2 a3 a4 a5 k, LeO (laws_heldWindow.f k a0 a1 a2 a3 a4 a5) (laws_heldWindow.f (k + 1) a0 a1 a2 a3 a4 a5) := by
 intro a0 a1 a2 a3 a4 a5 k
 unfold laws_heldWindow.f
 repeat' first
   | (with_reducible exact laws_heldMapS.mono _ _ _)
   | (with_reducible exact LeO.refl _)
   | (with_reducible exact LeO.none _)
   | (with_reducible refine LeO.ite ?_ ?_)
   | (with_reducible refine LeO.bind ?_ (fun _ => ?_))
   | exact laws_heldMapS.mono _ _ _
   | exact LeO.none _
   | refine LeO.ite ?_ ?_
   | refine LeO.bind ?_ (fun _ => ?_)
set_option maxHeartbeats 8000000 in
set_option maxRecDepth 100000 in
theorem laws_heldWindow.calls (k : Nat) (A0_0 : Option Addr) (c0_0 : Nat) (l0_0 : List (S51)) (A0_1 : Option Addr) (c0_1 : Nat) (l0_1 : List (S51)) (A0_2 : Option Addr) (c0_2 : Nat) (l0_2 : List (S51)) (a0_3 : Int) (a0_4 : Int) (a1 : Int) (r : Int) (w : World) (hr0_0 : Kd.C k51 w A0_0 l0_0.length l0_0) (hc0_0 : l0_0.length ≤ c0_0) (hr0_1 : Kd.C k51 w A0_1 l0_1.length l0_1) (hc0_1 : l0_1.length ≤ c0_1) (hr0_2 : Kd.C k51 w A0_2 l0_2.length l0_2) (hc0_2 : l0_2.length ≤ c0_2) (h : laws_heldWindow.f k l0_0 l0_1 l0_2 a0_3 a0_4 a1 = some r) :
  Calls Try.prog 71 #[.agg #[.slice A0_0 l0_0.length c0_0, .slice A0_1 l0_1.length c0_1, .slice A0_2 l0_2.length c0_2, .int .i64 a0_3, .int .i64 a0_4], .int .i64 a1] w fun e w' => e = .returned (.int .i64 r) ∧ Below w.heap.size w w' := by
 have hu53 := Try.underlying53
 have HR0_0 := xm hr0_0
 have HC0_0 := xm hc0_0
 clear hr0_0 hc0_0
 have HR0_1 := xm hr0_1
 have HC0_1 := xm hc0_1
 clear hr0_1 hc0_1
 have HR0_2 := xm hr0_2
 have HC0_2 := xm hc0_2
 clear hr0_2 hc0_2
 have HB := xm (Below.refl w.heap.size w)
 have H : ((laws_heldMapS.f k l0_0 a1).bind fun t279 => (if t279 < 0 then (some (-1)) else ((laws_heldMapS.f k l0_1 t279).bind fun t280 => (if t280 < 0 then (some (-1)) else ((laws_heldMapS.f k l0_2 t280).bind fun t281 => (if t281 < 0 then (some (-1)) else (some t281))))))) = some r := h
 clear h
 replace H := Option.bind_eq_some_iff.mp H
 obtain ⟨t279, A30, H⟩ := H
 replace H : (if t279 < 0 then (some (-1)) else ((laws_heldMapS.f k l0_1 t279).bind fun t280 => (if t280 < 0 then (some (-1)) else ((laws_heldMapS.f k l0_2 t280).bind fun t281 => (if t281 < 0 then (some (-1)) else (some t281)))))) = some r := H
 have A3 := xm A30
 clear A30
 by_cases c4 : t279 < 0
 ·rw [if_pos c4] at H
  have c4b0 : decide (t279 < 0) = true := decide_eq_true c4
  clear c4
  obtain rfl := Option.some.inj H
  go_enter Try.func71, Try.ntmps71
  go_wp2_with (first | ((with_reducible refine gate_dst (N := 2) rfl ?_); refine box_event ?hg (N := 2) ?hd (cs := #[.slice A0_0 l0_0.length c0_0, .slice A0_1 l0_1.length c0_1, .slice A0_2 l0_2.length c0_2, .int .i64 a0_3, .int .i64 a0_4]) (t := 53) ?hr ?_; (case hd => rfl); (case hg => rfl); (case hr => exact zB); intro gb278 hg w5 hbox hb; have n0_ := xm (below_step bB hb); have n1_ := xm (hbox); have n2_ := xm ((by rw [hg]; exact (xz bB) : w.heap.size ≤ gb278)); have n3_ := xm ((by rw [hg]; exact (xz bB) : w.heap.size ≤ gb278)); clear HB; have HB := n0_; have BK278 := n1_; have GW278 := n2_; have GE278 := n3_; clear n0_ n1_ n2_ n3_; clear hb hbox hg; obtain ⟨hcz6_0, hcz6_1, hcz6_2, hcz6_3, hcz6_4, hfz6_0, hfz6_1, hfz6_2, hfz6_3, hfz6_4⟩ := cz5 BK278.out) | ((with_reducible refine gate_callee (f := 44) rfl ?_); refine goesL_ (some 8) rfl rfl Try.func44 (by kernel_rfl) rfl #[.slice A0_0 l0_0.length c0_0, .int .i64 a1] rfl mB ?_; (with_reducible refine (laws_heldMapS.calls k _ _ l0_0 a1 t279 _ ?side1 ?side2 A3.out).mono ?_); (case side1 => exact cB (Kd.C_below HR0_0.out HB.out)); (case side2 => exact HC0_0.out); rintro e w' ⟨rfl, ⟨nd, rfl⟩⟩; refine ⟨_, rfl, ?_⟩))
  go_ret
  exact ⟨by first | rfl | (simp [errW_none, errW_some] <;> rfl) | (simp [*, errW_none, errW_some] <;> rfl), by repeat (first | (with_reducible first | exact HB.out | apply xa | apply xn | apply xd | refine xt ?_ GE278.out) | exact HB.out)⟩
 ·rw [if_neg c4] at H
  have c4b0 : decide (t279 < 0) = false := decide_eq_false c4
  clear c4
  replace H := Option.bind_eq_some_iff.mp H
  obtain ⟨t280, A70, H⟩ := H
  replace H : (if t280 < 0 then (some (-1)) else ((laws_heldMapS.f k l0_2 t280).bind fun t281 => (if t281 < 0 then (some (-1)) else (some t281)))) = some r := H
  have A7 := xm A70
  clear A70
  by_cases c8 : t280 < 0
  ·rw [if_pos c8] at H
   have c8b0 : decide (t280 < 0) = true := decide_eq_true c8
   clear c8
   obtain rfl := Option.some.inj H
   go_enter Try.func71, Try.ntmps71
   go_wp2_with (first | ((with_reducible refine gate_dst (N := 2) rfl ?_); refine box_event ?hg (N := 2) ?hd (cs := #[.slice A0_0 l0_0.length c0_0, .slice A0_1 l0_1.length c0_1, .slice A0_2 l0_2.length c0_2, .int .i64 a0_3, .int .i64 a0_4]) (t := 53) ?hr ?_; (case hd => rfl); (case hg => rfl); (case hr => exact zB); intro gb278 hg w9 hbox hb; have n0_ := xm (below_step bB hb); have n1_ := xm (hbox); have n2_ := xm ((by rw [hg]; exact (xz bB) : w.heap.size ≤ gb278)); have n3_ := xm ((by rw [hg]; exact (xz bB) : w.heap.size ≤ gb278)); clear HB; have HB := n0_; have BK278 := n1_; have GW278 := n2_; have GE278 := n3_; clear n0_ n1_ n2_ n3_; clear hb hbox hg; obtain ⟨hcz10_0, hcz10_1, hcz10_2, hcz10_3, hcz10_4, hfz10_0, hfz10_1, hfz10_2, hfz10_3, hfz10_4⟩ := cz5 BK278.out) | ((with_reducible refine gate_callee (f := 44) rfl ?_); refine goesL_ (some 8) rfl rfl Try.func44 (by kernel_rfl) rfl #[.slice A0_0 l0_0.length c0_0, .int .i64 a1] rfl mB ?_; (with_reducible refine (laws_heldMapS.calls k _ _ l0_0 a1 t279 _ ?side1 ?side2 A3.out).mono ?_); (case side1 => exact cB (Kd.C_below HR0_0.out HB.out)); (case side2 => exact HC0_0.out); rintro e w' ⟨rfl, ⟨nd, rfl⟩⟩; refine ⟨_, rfl, ?_⟩) | ((with_reducible refine gate_callee (f := 44) rfl ?_); refine goesL_ (some 14) rfl rfl Try.func44 (by kernel_rfl) rfl #[.slice A0_1 l0_1.length c0_1, .int .i64 t279] rfl mB ?_; (with_reducible refine (laws_heldMapS.calls k _ _ l0_1 t279 t280 _ ?side1 ?side2 A7.out).mono ?_); (case side1 => repeat (first | exact (Kd.C_below HR0_1.out bG) | (with_reducible refine Kd.C_alloc ?_ _) | (with_reducible refine Kd.C_drewN ?_ _) | (with_reducible refine Kd.C_drew ?_))); (case side2 => exact HC0_1.out); rintro e w' ⟨rfl, ⟨nd, rfl⟩⟩; refine ⟨_, rfl, ?_⟩))
   go_ret
   exact ⟨by first | rfl | (simp [errW_none, errW_some] <;> rfl) | (simp [*, errW_none, errW_some] <;> rfl), by repeat (first | (with_reducible first | exact HB.out | apply xa | apply xn | apply xd | refine xt ?_ GE278.out) | exact HB.out)⟩
  ·rw [if_neg c8] at H
   have c8b0 : decide (t280 < 0) = false := decide_eq_false c8
   clear c8
   replace H := Option.bind_eq_some_iff.mp H
   obtain ⟨t281, A110, H⟩ := H
   replace H : (if t281 < 0 then (some (-1)) else (some t281)) = some r := H
   have A11 := xm A110
   clear A110
   by_cases c12 : t281 < 0
   ·rw [if_pos c12] at H
    have c12b0 : decide (t281 < 0) = true := decide_eq_true c12
    clear c12
    obtain rfl := Option.some.inj H
    go_enter Try.func71, Try.ntmps71
    go_wp2_with (first | ((with_reducible refine gate_dst (N := 2) rfl ?_); refine box_event ?hg (N := 2) ?hd (cs := #[.slice A0_0 l0_0.length c0_0, .slice A0_1 l0_1.length c0_1, .slice A0_2 l0_2.length c0_2, .int .i64 a0_3, .int .i64 a0_4]) (t := 53) ?hr ?_; (case hd => rfl); (case hg => rfl); (case hr => exact zB); intro gb278 hg w13 hbox hb; have n0_ := xm (below_step bB hb); have n1_ := xm (hbox); have n2_ := xm ((by rw [hg]; exact (xz bB) : w.heap.size ≤ gb278)); have n3_ := xm ((by rw [hg]; exact (xz bB) : w.heap.size ≤ gb278)); clear HB; have HB := n0_; have BK278 := n1_; have GW278 := n2_; have GE278 := n3_; clear n0_ n1_ n2_ n3_; clear hb hbox hg; obtain ⟨hcz14_0, hcz14_1, hcz14_2, hcz14_3, hcz14_4, hfz14_0, hfz14_1, hfz14_2, hfz14_3, hfz14_4⟩ := cz5 BK278.out) | ((with_reducible refine gate_callee (f := 44) rfl ?_); refine goesL_ (some 8) rfl rfl Try.func44 (by kernel_rfl) rfl #[.slice A0_0 l0_0.length c0_0, .int .i64 a1] rfl mB ?_; (with_reducible refine (laws_heldMapS.calls k _ _ l0_0 a1 t279 _ ?side1 ?side2 A3.out).mono ?_); (case side1 => exact cB (Kd.C_below HR0_0.out HB.out)); (case side2 => exact HC0_0.out); rintro e w' ⟨rfl, ⟨nd, rfl⟩⟩; refine ⟨_, rfl, ?_⟩) | ((with_reducible refine gate_callee (f := 44) rfl ?_); refine goesL_ (some 14) rfl rfl Try.func44 (by kernel_rfl) rfl #[.slice A0_1 l0_1.length c0_1, .int .i64 t279] rfl mB ?_; (with_reducible refine (laws_heldMapS.calls k _ _ l0_1 t279 t280 _ ?side1 ?side2 A7.out).mono ?_); (case side1 => repeat (first | exact (Kd.C_below HR0_1.out bG) | (with_reducible refine Kd.C_alloc ?_ _) | (with_reducible refine Kd.C_drewN ?_ _) | (with_reducible refine Kd.C_drew ?_))); (case side2 => exact HC0_1.out); rintro e w' ⟨rfl, ⟨nd, rfl⟩⟩; refine ⟨_, rfl, ?_⟩) | ((with_reducible refine gate_callee (f := 44) rfl ?_); refine goesL_ (some 20) rfl rfl Try.func44 (by kernel_rfl) rfl #[.slice A0_2 l0_2.length c0_2, .int .i64 t280] rfl mB ?_; (with_reducible refine (laws_heldMapS.calls k _ _ l0_2 t280 t281 _ ?side1 ?side2 A11.out).mono ?_); (case side1 => repeat (first | exact (Kd.C_below HR0_2.out bG) | (with_reducible refine Kd.C_alloc ?_ _) | (with_reducible refine Kd.C_drewN ?_ _) | (with_reducible refine Kd.C_drew ?_))); (case side2 => exact HC0_2.out); rintro e w' ⟨rfl, ⟨nd, rfl⟩⟩; refine ⟨_, rfl, ?_⟩))
    go_ret
    exact ⟨by first | rfl | (simp [errW_none, errW_some] <;> rfl) | (simp [*, errW_none, errW_some] <;> rfl), by repeat (first | (with_reducible first | exact HB.out | apply xa | apply xn | apply xd | refine xt ?_ GE278.out) | exact HB.out)⟩
   ·rw [if_neg c12] at H
    have c12b0 : decide (t281 < 0) = false := decide_eq_false c12
    clear c12
    obtain rfl := Option.some.inj H
    go_enter Try.func71, Try.ntmps71
    go_wp2_with (first | ((with_reducible refine gate_dst (N := 2) rfl ?_); refine box_event ?hg (N := 2) ?hd (cs := #[.slice A0_0 l0_0.length c0_0, .slice A0_1 l0_1.length c0_1, .slice A0_2 l0_2.length c0_2, .int .i64 a0_3, .int .i64 a0_4]) (t := 53) ?hr ?_; (case hd => rfl); (case hg => rfl); (case hr => exact zB); intro gb278 hg w15 hbox hb; have n0_ := xm (below_step bB hb); have n1_ := xm (hbox); have n2_ := xm ((by rw [hg]; exact (xz bB) : w.heap.size ≤ gb278)); have n3_ := xm ((by rw [hg]; exact (xz bB) : w.heap.size ≤ gb278)); clear HB; have HB := n0_; have BK278 := n1_; have GW278 := n2_; have GE278 := n3_; clear n0_ n1_ n2_ n3_; clear hb hbox hg; obtain ⟨hcz16_0, hcz16_1, hcz16_2, hcz16_3, hcz16_4, hfz16_0, hfz16_1, hfz16_2, hfz16_3, hfz16_4⟩ := cz5 BK278.out) | ((with_reducible refine gate_callee (f := 44) rfl ?_); refine goesL_ (some 8) rfl rfl Try.func44 (by kernel_rfl) rfl #[.slice A0_0 l0_0.length c0_0, .int .i64 a1] rfl mB ?_; (with_reducible refine (laws_heldMapS.calls k _ _ l0_0 a1 t279 _ ?side1 ?side2 A3.out).mono ?_); (case side1 => exact cB (Kd.C_below HR0_0.out HB.out)); (case side2 => exact HC0_0.out); rintro e w' ⟨rfl, ⟨nd, rfl⟩⟩; refine ⟨_, rfl, ?_⟩) | ((with_reducible refine gate_callee (f := 44) rfl ?_); refine goesL_ (some 14) rfl rfl Try.func44 (by kernel_rfl) rfl #[.slice A0_1 l0_1.length c0_1, .int .i64 t279] rfl mB ?_; (with_reducible refine (laws_heldMapS.calls k _ _ l0_1 t279 t280 _ ?side1 ?side2 A7.out).mono ?_); (case side1 => repeat (first | exact (Kd.C_below HR0_1.out bG) | (with_reducible refine Kd.C_alloc ?_ _) | (with_reducible refine Kd.C_drewN ?_ _) | (with_reducible refine Kd.C_drew ?_))); (case side2 => exact HC0_1.out); rintro e w' ⟨rfl, ⟨nd, rfl⟩⟩; refine ⟨_, rfl, ?_⟩) | ((with_reducible refine gate_callee (f := 44) rfl ?_); refine goesL_ (some 20) rfl rfl Try.func44 (by kernel_rfl) rfl #[.slice A0_2 l0_2.length c0_2, .int .i64 t280] rfl mB ?_; (with_reducible refine (laws_heldMapS.calls k _ _ l0_2 t280 t281 _ ?side1 ?side2 A11.out).mono ?_); (case side1 => repeat (first | exact (Kd.C_below HR0_2.out bG) | (with_reducible refine Kd.C_alloc ?_ _) | (with_reducible refine Kd.C_drewN ?_ _) | (with_reducible refine Kd.C_drew ?_))); (case side2 => exact HC0_2.out); rintro e w' ⟨rfl, ⟨nd, rfl⟩⟩; refine ⟨_, rfl, ?_⟩))
    go_ret
    exact ⟨by first | rfl | (simp [errW_none, errW_some] <;> rfl) | (simp [*, errW_none, errW_some] <;> rfl), by repeat (first | (with_reducible first | exact HB.out | apply xa | apply xn | apply xd | refine xt ?_ GE278.out) | exact HB.out)⟩

end Go.Proofs.Ytpbpglbldgpckaa.G
