/- Written by a program of this claim's own, out of the translation: functions of the program as plain functions, and that the calls answer as these. No conditions. -/
import Derived.Test.YtmelechhnimlnadG0
import Derived.Test.YtmelechhnimlnadG4
namespace Go.Proofs.Ytmelechhnimlnad.G
open Go.RowKit Go.Proofs.Ytmelechhnimlnad.X Go.Proofs.YtmelechhnimlnadW.PrintWords Go.Proofs.YtmelechhnimlnadW.PrintLast Go.Proofs.YtmelechhnimlnadW.PrintMore
attribute [local go_sem] max2_int min2_int max_two min_two max_three min_three max_four min_four   -- for this text's walks alone
set_option linter.unusedVariables false
set_option linter.unusedSimpArgs false

/-! ### spec_l9Made: function 51 -/
mutual
def spec_l9Made.j0 : Nat → Int → Int → Int → Int → List (S48) → Option (Int × (List (S48)))
 | 0, _, _, _, _, _ => none
 | k + 1, x1, x9, x10, x185000, x185001 => spec_l9Made.l0 k x1 x9 x10 x185001 (x185001.length : Int) 0 x185000 ([] : List (S48))
def spec_l9Made.l0 : Nat → Int → Int → Int → List (S48) → Int → Int → Int → List (S48) → Option (Int × (List (S48)))
 | 0, _, _, _, _, _, _, _, _ => none
 | k + 1, x1, x9, x10, x26, x27, x28, x187000, x187001 => if x28 < x27 then (if 0 ≤ x28 then (if x28 < (x26.length : Int) then ((spec_l2OwnRow.f ((rd_T48 x26 x28).f0)).bind fun t189 => (if 0 ≤ x1 then (if x1 < (t189.length : Int) then (if (rd t189 x1) = x10 then (if x187001.length < 5864062014805 then (spec_l9Made.l0 k x1 x9 x10 x26 x27 (wrap64 (x28 + 1)) x187000 (x187001 ++ [(⟨(t189.set (x1 : Int).toNat x9)⟩ : S48)])) else (none)) else (if x187001.length < 5864062014805 then (spec_l9Made.l0 k x1 x9 x10 x26 x27 (wrap64 (x28 + 1)) x187000 (x187001 ++ [(⟨t189⟩ : S48)])) else (none))) else (none)) else (none))) else (none)) else (none)) else (some (x187000, x187001))
end
def spec_l9Made.f (k : Nat) (a0_0 : Int) (l0_1 : List (S48)) (a1 : Int) (a2 : Int) (a3 : Int) : Option (Int × (List (S48))) := if a2 > a3 then (spec_l9Made.j0 k a1 a3 a2 a0_0 l0_1) else (spec_l9Made.j0 k a1 a2 a3 a0_0 l0_1)
theorem spec_l9Made.mono_l : ∀ k, (∀ y0 y1 y2 y3 y4, LeO (spec_l9Made.j0 k y0 y1 y2 y3 y4) (spec_l9Made.j0 (k + 1) y0 y1 y2 y3 y4)) ∧ (∀ y0 y1 y2 y3 y4 y5 y6 y7, LeO (spec_l9Made.l0 k y0 y1 y2 y3 y4 y5 y6 y7) (spec_l9Made.l0 (k + 1) y0 y1 y2 y3 y4 y5 y6 y7))
 | 0 => ⟨fun _ _ _ _ _ r h => by simp [spec_l9Made.j0] at h, fun _ _ _ _ _ _ _ _ r h => by simp [spec_l9Made.l0] at h⟩
 | k + 1 => by
  obtain ⟨ih0, ih1⟩ := spec_l9Made.mono_l k
  refine ⟨?_, ?_⟩
  ·intro y0 y1 y2 y3 y4
   unfold spec_l9Made.j0
   repeat' first
   | (with_reducible exact ih0 _ _ _ _ _)
   | (with_reducible exact ih1 _ _ _ _ _ _ _ _)
   | (with_reducible exact LeO.refl _)
   | (with_reducible exact LeO.none _)
   | (with_reducible refine LeO.ite ?_ ?_)
   | (with_reducible refine LeO.bind ?_ (fun _ => ?_))
   | exact ih0 _ _ _ _ _
   | exact ih1 _ _ _ _ _ _ _ _
   | exact LeO.none _
   | refine LeO.ite ?_ ?_
   | refine LeO.bind ?_ (fun _ => ?_)
  ·intro y0 y1 y2 y3 y4 y5 y6 y7
   unfold spec_l9Made.l0
   repeat' first
   | (with_reducible exact ih0 _ _ _ _ _)
   | (with_reducible exact ih1 _ _ _ _ _ _ _ _)
   | (with_reducible exact LeO.refl _)
   | (with_reducible exact LeO.none _)
   | (with_reducible refine LeO.ite ?_ ?_)
   | (with_reducible refine LeO.bind ?_ (fun _ => ?_))
   | exact ih0 _ _ _ _ _
   | exact ih1 _ _ _ _ _ _ _ _
   | exact LeO.none _
   | refine LeO.ite ?_ ?_
   | refine LeO.bind ?_ (fun _ => ?_)
theorem spec_l9Made.mono : ∀ a0 a1 a2 a3 a4 k, LeO (spec_l9Made.f k a0 a1 a2 a3 a4) (spec_l9Made.f (k + 1) a0 a1 a2 a3 a4) := by
 intro a0 a1 a2 a3 a4 k
 obtain ⟨ih0, ih1⟩ := spec_l9Made.mono_l k
 unfold spec_l9Made.f
 repeat' first
   | (with_reducible exact ih0 _ _ _ _ _)
   | (with_reducible exact ih1 _ _ _ _ _ _ _ _)
   | (with_reducible exact LeO.refl _)
   | (with_reducible exact LeO.none _)
   | (with_reducible refine LeO.ite ?_ ?_)
   | (with_reducible refine LeO.bind ?_ (fun _ => ?_))
   | exact ih0 _ _ _ _ _
   | exact ih1 _ _ _ _ _ _ _ _
   | exact LeO.none _
   | refine LeO.ite ?_ ?_
   | refine LeO.bind ?_ (fun _ => ?_)
set_option maxHeartbeats 8000000 in
set_option maxRecDepth 100000 in
theorem spec_l9Made.calls (k : Nat) (a0_0 : Int) (A0_1 : Option Addr) (c0_1 : Nat) (l0_1 : List (S48)) (a1 : Int) (a2 : Int) (a3 : Int) (r1 : Int) (r2 : List (S48)) (w : World) (hr0_1 : Kd.C k48 w A0_1 l0_1.length l0_1) (hc0_1 : l0_1.length ≤ c0_1) (h : spec_l9Made.f k a0_0 l0_1 a1 a2 a3 = some (r1, r2)) :
  Calls Try.prog 51 #[.agg #[.int .i64 a0_0, .slice A0_1 l0_1.length c0_1], .int .i64 a1, .int .i64 a2, .int .i64 a3] w fun e w' => ∃ v1_ : Value, e = .returned (.agg #[.int .i64 r1, v1_]) ∧ Kd.S k48 48 w' w.heap.size (fun _ => True) v1_ r2 ∧ Below w.heap.size w w' := by
 have hu43 := Try.underlying43
 have hu48 := Try.underlying48
 have HR0_1 := xm hr0_1
 have HC0_1 := xm hc0_1
 clear hr0_1 hc0_1
 have HB := xm (Below.refl w.heap.size w)
 have H : (if a2 > a3 then (spec_l9Made.j0 k a1 a3 a2 a0_0 l0_1) else (spec_l9Made.j0 k a1 a2 a3 a0_0 l0_1)) = some (r1, r2) := h
 clear h
 have HC5 := xm H
 clear H
 go_enter Try.func51, Try.ntmps51
 go_upto_if 19 with (first | ((with_reducible refine gate_dst (N := 4) rfl ?_); refine box_event ?hg (N := 4) ?hd (cs := #[.int .i64 a0_0, .slice A0_1 l0_1.length c0_1]) (t := 43) ?hr ?_; (case hd => rfl); (case hg => rfl); (case hr => exact zB); intro gb184 hg w6 hbox hb; have n0_ := xm (below_step bB hb); have n1_ := xm (hbox); have n2_ := xm ((by rw [hg]; exact (xz bB) : w.heap.size ≤ gb184)); have n3_ := xm ((by rw [hg]; exact (xz bB) : w.heap.size ≤ gb184)); revert n0_ n1_ n2_ n3_; clear HB; intro HB BK184 GW184 GE184; clear hb hbox hg) | ((with_reducible refine gate_dst (N := 8) rfl ?_); refine box_event ?hg (N := 8) ?hd (cs := #[.int .i64 0, .slice none 0 0]) (t := 43) ?hr ?_; (case hd => rfl); (case hg => rfl); (case hr => exact zB); intro gb185 hg w7 hbox hb; have n0_ := xm (blk_below (kB BK184) hb); have n1_ := xm (below_step bG hb); have n2_ := xm (hbox); have n3_ := xm ((by rw [hg]; exact (xz bG) : w.heap.size ≤ gb185)); have n4_ := xm ((by rw [hg]; exact (xz bG) : w.heap.size ≤ gb185)); have n5_ := xm ((by rw [hg]; exact Nat.ne_of_lt (blk_lt (kB BK184)) : gb184 ≠ gb185)); have n6_ := xm ((by rw [hg]; exact Nat.ne_of_gt (blk_lt (kB BK184)) : gb185 ≠ gb184)); revert n0_ n1_ n2_ n3_ n4_ n5_ n6_; clear BK184 HB; intro BK184 HB BK185 GW185 GE185 NB184_185 NB185_184; clear hb hbox hg))
 (try simp only [Act.put, xi, xj, xk])
 go_cut [9, 10] (fun v9 v10 wc => ∃ (kq : Nat) (x9_4 : Int) (x10_4 : Int), v9 = .int .i64 x9_4 ∧ v10 = .int .i64 x10_4 ∧ Aside0 (spec_l9Made.j0 kq a1 x9_4 x10_4 a0_0 l0_1 = some (r1, r2)) ∧ Aside0 (kq ≤ k) ∧ Aside0 (wc.heap[gb184]? = some (.cells #[.int .i64 a0_0, (.slice A0_1 l0_1.length c0_1)] 43 (0, 0))) ∧ Aside0 (wc.heap[gb185]? = some (.cells #[.int .i64 0, (.slice none 0 0)] 43 (0, 0))) ∧ Aside0 (Below w.heap.size w wc))
 case first =>
  have H := HC5.out
  clear HC5
  by_cases c8 : a2 > a3
  ·rw [if_pos c8] at H
   have c8b0 : decide (a3 < a2) = true := decide_eq_true c8
   clear c8
   (first | rw [c8b0] | (simp only [i64_w, i32_w]; rw [c8b0]) | skip)
   have H' := xm H
   clear H
   go_wp2
   go_meet
   case rel => exact ⟨_, (a3), (a2), sB, sB, H', ⟨by first | omega | exact Nat.le_refl _⟩, ⟨kB BK184⟩, ⟨kB BK185⟩, ⟨bG⟩⟩
  ·rw [if_neg c8] at H
   have c8b0 : decide (a3 < a2) = false := decide_eq_false c8
   clear c8
   (first | rw [c8b0] | (simp only [i64_w, i32_w]; rw [c8b0]) | skip)
   have H' := xm H
   clear H
   go_wp2
   go_meet
   case rel => exact ⟨_, (a2), (a3), sB, sB, H', ⟨by first | omega | exact Nat.le_refl _⟩, ⟨kB BK184⟩, ⟨kB BK185⟩, ⟨bG⟩⟩
 case rest =>
  clear HC5
  try clear p2
  try clear c5
  try clear c8
  try clear c8b0
  obtain ⟨kq, x9_4, x10_4, rfl, rfl, HA, HJ4, BK184, BK185, HB⟩ := hcut
  cases kq with
  | zero => exact absurd HA.out (by simp [spec_l9Made.j0])
  | succ kj4 =>
   have H := HA.out
   clear HA
   simp only [spec_l9Made.j0] at H
   have H' := xm H
   clear H
   have hnb9 := NB184_185.out
   have hnc9 := NB185_184.out
   obtain ⟨hcz10_0, hcz10_1, hfz10_0, hfz10_1⟩ := cz2 BK184.out
   go_wp2_with (first | ((with_reducible refine gate_dst (N := 11) rfl ?_); refine box_event ?hg (N := 11) ?hd (cs := #[.int .i64 0, .slice none 0 0]) (t := 43) ?hr ?_; (case hd => rfl); (case hg => rfl); (case hr => exact zB); intro gb186 hg w11 hbox hb; have n0_ := xm (blk_below (kB BK184) hb); have n1_ := xm (blk_below (kB BK185) hb); have n2_ := xm (below_step bG hb); have n3_ := xm (hbox); have n4_ := xm ((by rw [hg]; exact (xz bG) : w.heap.size ≤ gb186)); have n5_ := xm ((by rw [hg]; exact (xz bG) : w.heap.size ≤ gb186)); have n6_ := xm ((by rw [hg]; exact Nat.ne_of_lt (blk_lt (kB BK184)) : gb184 ≠ gb186)); have n7_ := xm ((by rw [hg]; exact Nat.ne_of_gt (blk_lt (kB BK184)) : gb186 ≠ gb184)); have n8_ := xm ((by rw [hg]; exact Nat.ne_of_lt (blk_lt (kB BK185)) : gb185 ≠ gb186)); have n9_ := xm ((by rw [hg]; exact Nat.ne_of_gt (blk_lt (kB BK185)) : gb186 ≠ gb185)); revert n0_ n1_ n2_ n3_ n4_ n5_ n6_ n7_ n8_ n9_; clear BK184 BK185 HB; intro BK184 BK185 HB BK186 GW186 GE186 NB184_186 NB186_184 NB185_186 NB186_185; clear hb hbox hg; have hnb12 := NB186_184.out; have hnc12 := NB184_186.out; have hnb13 := NB186_185.out; have hnc13 := NB185_186.out; obtain ⟨hcz14_0, hcz14_1, hfz14_0, hfz14_1⟩ := cz2 BK186.out; obtain ⟨hcz15_0, hcz15_1, hfz15_0, hfz15_1⟩ := cz2 BK184.out))
   go_loopg [28] kj4 (fun kq v28 w' => ∃ (x28_2 : Int) (x187001_2 : List (S48)) (u187001 : Value), v28 = .int .i64 x28_2 ∧ Aside0 (spec_l9Made.l0 kq a1 x9_4 x10_4 l0_1 (l0_1.length : Int) x28_2 a0_0 x187001_2 = some (r1, r2)) ∧ Aside0 (kq ≤ kj4) ∧ Aside0 (Kd.S k48 48 w' w.heap.size (fun _ => True) u187001 x187001_2) ∧ Aside0 (w'.heap[gb184]? = some (.cells #[.int .i64 a0_0, (.slice A0_1 l0_1.length c0_1)] 43 (0, 0))) ∧ Aside0 (w'.heap[gb185]? = some (.cells #[.int .i64 0, (.slice none 0 0)] 43 (0, 0))) ∧ Aside0 (w'.heap[gb186]? = some (.cells #[.int .i64 a0_0, u187001] 43 (0, 0))) ∧ Aside0 (Below w.heap.size w w'))
   case atStart => exact ⟨(0), (([] : List (S48))), (.slice none 0 0), sB, H', ⟨Nat.le_refl _⟩, ⟨by first | exact Kd.S_nil _ _ _ _ _ | exact Kd.N_nil _ _ _ _ _ | exact Kd.V_nil _ _ _ _ _ | exact Kd.Q_nil _ _ _ _ _ | exact Kd.R_nil _ _ _ _ _⟩, ⟨by (with_reducible repeat (first | refine xq ?_ _ | refine xr ?_ | refine xo ?_ _)); refine blk_far ?_ NB184_186.out _; (with_reducible repeat (first | refine xq ?_ _ | refine xr ?_ | refine xo ?_ _)); refine blk_far ?_ NB184_186.out _; (with_reducible repeat (first | refine xq ?_ _ | refine xr ?_ | refine xo ?_ _)); exact BK184.out⟩, ⟨by (with_reducible repeat (first | refine xq ?_ _ | refine xr ?_ | refine xo ?_ _)); refine blk_far ?_ NB185_186.out _; (with_reducible repeat (first | refine xq ?_ _ | refine xr ?_ | refine xo ?_ _)); refine blk_far ?_ NB185_186.out _; (with_reducible repeat (first | refine xq ?_ _ | refine xr ?_ | refine xo ?_ _)); exact BK185.out⟩, ⟨by (with_reducible repeat (first | refine xq ?_ _ | refine xr ?_ | refine xo ?_ _)); refine blk_put (cs := #[.int .i64 a0_0, .slice none 0 0]) ?_ 1 _ rfl; (with_reducible repeat (first | refine xq ?_ _ | refine xr ?_ | refine xo ?_ _)); refine blk_put (cs := #[.int .i64 0, .slice none 0 0]) ?_ 0 _ rfl; (with_reducible repeat (first | refine xq ?_ _ | refine xr ?_ | refine xo ?_ _)); exact BK186.out⟩, ⟨bG⟩⟩
   case round =>
    clear H'
    try clear c1
    try clear p2
    try clear c5
    try clear c8
    try clear c8b0
    try clear c9
    try clear c12
    try clear c13
    try clear hcz10_0 hcz10_1
    try clear hcz14_0 hcz14_1
    try clear hcz15_0 hcz15_1
    try clear hfz10_0 hfz10_1
    try clear hfz14_0 hfz14_1
    try clear hfz15_0 hfz15_1
    try clear p2
    obtain ⟨x28_2, x187001_2, u187001, rfl, HA, HK2, HO_187001, BK184, BK185, BK186, HB⟩ := hrel
    cases gk with
    | zero => exact absurd HA.out (by simp [spec_l9Made.l0])
    | succ k2 =>
     have H := HA.out
     clear HA
     simp only [spec_l9Made.l0] at H
     by_cases c16 : x28_2 < (l0_1.length : Int)
     ·rw [if_pos c16] at H
      have c16b0 : decide (x28_2 < (l0_1.length : Int)) = true := decide_eq_true c16
      clear c16
      by_cases c17 : 0 ≤ x28_2
      ·rw [if_pos c17] at H
       have c17b0 : decide (0 ≤ x28_2) = true := decide_eq_true c17
       clear c17
       by_cases c18 : x28_2 < (l0_1.length : Int)
       ·rw [if_pos c18] at H
        have c18b0 : decide (x28_2 < (l0_1.length : Int)) = true := decide_eq_true c18
        clear c18
        replace H := Option.bind_eq_some_iff.mp H
        obtain ⟨t189, A190, H⟩ := H
        replace H : (if 0 ≤ a1 then (if a1 < (t189.length : Int) then (if (rd t189 a1) = x10_4 then (if x187001_2.length < 5864062014805 then (spec_l9Made.l0 k2 a1 x9_4 x10_4 l0_1 (l0_1.length : Int) (wrap64 (x28_2 + 1)) a0_0 (x187001_2 ++ [(⟨(t189.set (a1 : Int).toNat x9_4)⟩ : S48)])) else (none)) else (if x187001_2.length < 5864062014805 then (spec_l9Made.l0 k2 a1 x9_4 x10_4 l0_1 (l0_1.length : Int) (wrap64 (x28_2 + 1)) a0_0 (x187001_2 ++ [(⟨t189⟩ : S48)])) else (none))) else (none)) else (none)) = some (r1, r2) := H
        have A19 := xm A190
        clear A190
        by_cases c20 : 0 ≤ a1
        ·rw [if_pos c20] at H
         have c20b0 : decide (0 ≤ a1) = true := decide_eq_true c20
         clear c20
         by_cases c21 : a1 < (t189.length : Int)
         ·rw [if_pos c21] at H
          have c21b0 : decide (a1 < (t189.length : Int)) = true := decide_eq_true c21
          clear c21
          by_cases c22 : (rd t189 a1) = x10_4
          ·rw [if_pos c22] at H
           have c22b0 : ((rd t189 a1) == x10_4) = true := beq_iff_eq.mpr c22
           have c22b1 : ((rd t189 a1) != x10_4) = false := bne_eq_false_iff_eq.mpr c22
           clear c22
           obtain ⟨y194, hy194⟩ : ∃ y_ : List Int, y_ = (t189.set (a1 : Int).toNat x9_4) := ⟨_, rfl⟩
           replace H : (if x187001_2.length < 5864062014805 then (spec_l9Made.l0 k2 a1 x9_4 x10_4 l0_1 (l0_1.length : Int) (wrap64 (x28_2 + 1)) a0_0 (x187001_2 ++ [(⟨y194⟩ : S48)])) else (none)) = some (r1, r2) := by first | (rw [hy194]; with_reducible exact H) | (have H2_ := (Option.bind_some _ _).symm.trans H; rw [hy194]; with_reducible exact H2_) | (have H2_ := (Option.bind_some _ _).symm.trans H; with_reducible exact H2_) | with_reducible exact H | (rw [hy194]; exact H) | exact H
           have Ny194 := xm hy194
           clear hy194
           by_cases c24 : x187001_2.length < 5864062014805
           ·rw [if_pos c24] at H
            have LMc24 := xm c24
            clear c24
            obtain ⟨y195, hy195⟩ : ∃ y_ : List (S48), y_ = (x187001_2 ++ [(⟨y194⟩ : S48)]) := ⟨_, rfl⟩
            replace H : (spec_l9Made.l0 k2 a1 x9_4 x10_4 l0_1 (l0_1.length : Int) (wrap64 (x28_2 + 1)) a0_0 y195) = some (r1, r2) := by first | (rw [hy195]; with_reducible exact H) | (have H2_ := (Option.bind_some _ _).symm.trans H; rw [hy195]; with_reducible exact H2_) | (have H2_ := (Option.bind_some _ _).symm.trans H; with_reducible exact H2_) | with_reducible exact H | (rw [hy195]; exact H) | exact H
            have Ny195 := xm hy195
            clear hy195
            have H' := xm H
            clear H
            have p187 : 0 ≤ (x28_2 : Int) := of_decide_eq_true aB
            have q187 : x28_2 < (l0_1.length : Int) := of_decide_eq_true aB
            obtain ⟨ad187, A187_0, c187_0, e187, hx187_0, hl187_0, hi187_0⟩ := at_T48 HR0_1.out x28_2 p187 q187
            cases e187
            replace hx187_0 := hU hx187_0
            have HR187_0 := xm hi187_0
            have HC187_0 := xm hl187_0
            clear hi187_0 hl187_0
            replace p187 := eq_true p187
            replace q187 := eq_true q187
            go_wp2_with (first | ((with_reducible refine gate_dst (N := 13) rfl ?_); refine box_event ?hg (N := 13) ?hd (cs := #[.slice none 0 0]) (t := 48) ?hr ?_; (case hd => rfl); (case hg => rfl); (case hr => exact zB); intro gb188 hg w25 hbox hb; have n0_ := xm (Kd.S_below (Kd.S_elderB (tB HO_187001) gb188 (Nat.le_of_eq hg.symm)) hb); have n1_ := xm (blk_below (kB BK184) hb); have n2_ := xm (blk_below (kB BK185) hb); have n3_ := xm (blk_below (kB BK186) hb); have n4_ := xm (below_step bG hb); have n5_ := xm (hbox); have n6_ := xm ((by rw [hg]; exact (xz bG) : w.heap.size ≤ gb188)); have n7_ := xm ((by rw [hg]; exact (xz bG) : w.heap.size ≤ gb188)); have n8_ := xm ((by rw [hg]; exact Nat.ne_of_lt (blk_lt (kB BK184)) : gb184 ≠ gb188)); have n9_ := xm ((by rw [hg]; exact Nat.ne_of_gt (blk_lt (kB BK184)) : gb188 ≠ gb184)); have n10_ := xm ((by rw [hg]; exact Nat.ne_of_lt (blk_lt (kB BK185)) : gb185 ≠ gb188)); have n11_ := xm ((by rw [hg]; exact Nat.ne_of_gt (blk_lt (kB BK185)) : gb188 ≠ gb185)); have n12_ := xm ((by rw [hg]; exact Nat.ne_of_lt (blk_lt (kB BK186)) : gb186 ≠ gb188)); have n13_ := xm ((by rw [hg]; exact Nat.ne_of_gt (blk_lt (kB BK186)) : gb188 ≠ gb186)); revert n0_ n1_ n2_ n3_ n4_ n5_ n6_ n7_ n8_ n9_ n10_ n11_ n12_ n13_; clear HO_187001 BK184 BK185 BK186 HB; intro HO_187001 BK184 BK185 BK186 HB BK188 GW188 GE188 NB184_188 NB188_184 NB185_188 NB188_185 NB186_188 NB188_186; clear hb hbox hg; have hnb26 := NB188_184.out; have hnc26 := NB184_188.out; have hnb27 := NB188_185.out; have hnc27 := NB185_188.out; have hnb28 := NB188_186.out; have hnc28 := NB186_188.out; obtain ⟨hcz29_0, hfz29_0⟩ := cz1 BK188.out) | ((with_reducible refine gate_callee (f := 60) rfl ?_); refine goesL_ (some 33) rfl rfl Try.func60 (by kernel_rfl) rfl #[.agg #[.slice A187_0 ((rd_T48 l0_1 x28_2).f0).length c187_0]] rfl mB ?_; (with_reducible refine (spec_l2OwnRow.calls _ _ ((rd_T48 l0_1 x28_2).f0) t189 _ ?side1 ?side2 A19.out).mono ?_); (case side1 => exact Kd.C_below HR187_0.out bG); (case side2 => exact HC187_0.out); rintro e w30 ⟨v190, rfl, ho0, hb⟩; refine ⟨_, rfl, ?_⟩; have n0_ := xm (Kd.S_elder' (by (with_reducible repeat (first | apply Kd.S_alloc | apply Kd.S_drewN | apply Kd.S_drew)); exact (Kd.S_mono (Kd.S_far (p := ⟨gb188, 0, none⟩) (Kd.S_mono HO_187001.out (fun k_ hk => (⟨hk, hk.2⟩ : _ ∧ k_ ≠ gb188))) (fun _ hk => hk.2) (.slice A187_0 ((rd_T48 l0_1 x28_2).f0).length c187_0)) (fun _ h_ => h_.1))) (Kd.R_base ho0) hb); have n1_ := xm (Kd.R_lower ho0 (xz bG)); have n2_ := xm (blk_below (kF BK184 NB184_188) hb); have n3_ := xm (blk_below (kF BK185 NB185_188) hb); have n4_ := xm (blk_below (kF BK186 NB186_188) hb); have n5_ := xm (blk_below (g := gb188) (o := .cells #[.slice A187_0 ((rd_T48 l0_1 x28_2).f0).length c187_0] 48 (0, 0)) (by (with_reducible repeat (first | refine xq ?_ _ | refine xr ?_ | refine xo ?_ _)); refine blk_put (cs := #[.slice none 0 0]) ?_ 0 _ rfl; (with_reducible repeat (first | refine xq ?_ _ | refine xr ?_ | refine xo ?_ _)); exact BK188.out) hb); have n6_ := xm (below_step bG hb); revert n0_ n1_ n2_ n3_ n4_ n5_ n6_; clear HO_187001 BK184 BK185 BK186 BK188 HB; intro HO_187001 HO191 BK184 BK185 BK186 BK188 HB; (try clear hb); (try clear hk); (try clear ho0)) | ((with_reducible refine gate_dst (N := 14) rfl ?_); refine box_event ?hg (N := 14) ?hd (cs := #[.slice none 0 0]) (t := 48) ?hr ?_; (case hd => rfl); (case hg => rfl); (case hr => exact zB); intro gb192 hg w31 hbox hb; have n0_ := xm (Kd.S_below (Kd.S_elderB (tB HO_187001) gb192 (Nat.le_of_eq hg.symm)) hb); have n1_ := xm (Kd.R_below (rB HO191) hb); have n2_ := xm (blk_below (kB BK184) hb); have n3_ := xm (blk_below (kB BK185) hb); have n4_ := xm (blk_below (kB BK186) hb); have n5_ := xm (blk_below (kB BK188) hb); have n6_ := xm (below_step bG hb); have n7_ := xm (hbox); have n8_ := xm ((by rw [hg]; exact (xz bG) : w.heap.size ≤ gb192)); have n9_ := xm ((by rw [hg]; exact (xz bG) : w.heap.size ≤ gb192)); have n10_ := xm ((by rw [hg]; exact Nat.ne_of_lt (blk_lt (kB BK184)) : gb184 ≠ gb192)); have n11_ := xm ((by rw [hg]; exact Nat.ne_of_gt (blk_lt (kB BK184)) : gb192 ≠ gb184)); have n12_ := xm ((by rw [hg]; exact Nat.ne_of_lt (blk_lt (kB BK185)) : gb185 ≠ gb192)); have n13_ := xm ((by rw [hg]; exact Nat.ne_of_gt (blk_lt (kB BK185)) : gb192 ≠ gb185)); have n14_ := xm ((by rw [hg]; exact Nat.ne_of_lt (blk_lt (kB BK186)) : gb186 ≠ gb192)); have n15_ := xm ((by rw [hg]; exact Nat.ne_of_gt (blk_lt (kB BK186)) : gb192 ≠ gb186)); have n16_ := xm ((by rw [hg]; exact Nat.ne_of_lt (blk_lt (kB BK188)) : gb188 ≠ gb192)); have n17_ := xm ((by rw [hg]; exact Nat.ne_of_gt (blk_lt (kB BK188)) : gb192 ≠ gb188)); revert n0_ n1_ n2_ n3_ n4_ n5_ n6_ n7_ n8_ n9_ n10_ n11_ n12_ n13_ n14_ n15_ n16_ n17_; clear HO_187001 HO191 BK184 BK185 BK186 BK188 HB; intro HO_187001 HO191 BK184 BK185 BK186 BK188 HB BK192 GW192 GE192 NB184_192 NB192_184 NB185_192 NB192_185 NB186_192 NB192_186 NB188_192 NB192_188; clear hb hbox hg; obtain ⟨Ao32, co32, eo32⟩ := Kd.R_slice HO191.out; subst eo32; have hnb33 := NB192_184.out; have hnc33 := NB184_192.out; have hnb34 := NB192_185.out; have hnc34 := NB185_192.out; have hnb35 := NB192_186.out; have hnc35 := NB186_192.out; have hnb36 := NB192_188.out; have hnc36 := NB188_192.out; obtain ⟨hcz37_0, hfz37_0⟩ := cz1 BK192.out) | ((with_reducible refine gate_store (t := 48) (p := 14) rfl ?_); refine store_event (t := 48) (p := 14) (v := ?vo_w38) (w1 := (w31.setCell ⟨gb192, 0, none⟩ (.slice Ao32 t189.length co32))) ?hg ?ho ?hn ?hr ?_; (case ho => rfl); (case hg => rfl); (case hn => rfl); (case hr => exact zB); intro w38 hw; have n0_ : Aside0 (Kd.S k48 48 w38 w.heap.size (fun k_ => some k_ ≠ (.slice Ao32 t189.length co32 : Value).ownBlock ∧ k_ ≠ gb188 ∧ k_ ≠ gb192) u187001 x187001_2) := ⟨(by rw [hw]; exact (by (with_reducible repeat (first | apply Kd.S_alloc | apply Kd.S_drewN | apply Kd.S_drew)); exact Kd.S_mono (Kd.S_far (p := ⟨gb192, 0, none⟩) (Kd.S_mono HO_187001.out (fun k_ hk => (⟨hk, hk.2⟩ : _ ∧ k_ ≠ gb192))) (fun _ hk => hk.2) (.slice Ao32 t189.length co32)) (fun _ hk => ⟨hk.1.1.2, ⟨hk.1.1.1.2, hk.1.2⟩⟩)))⟩; have n1_ : Aside0 (Kd.R (Kd.int .i64) 3 w38 w.heap.size (fun _ => True) (.slice Ao32 t189.length co32) t189) := ⟨(by rw [hw]; exact (by (with_reducible repeat (first | apply Kd.R_alloc | apply Kd.R_drewN | apply Kd.R_drew)); exact Kd.R_mono (Kd.R_far (p := ⟨gb192, 0, none⟩) (Kd.R_types HO191.out BK192.out (by decide)) (fun _ hk => hk.2) (.slice Ao32 t189.length co32)) (fun _ hk => trivial)))⟩; have n2_ : Aside0 (w38.heap[gb184]? = some (.cells #[.int .i64 a0_0, .slice (some ad187) l0_1.length c0_1] 43 (0, 0))) := ⟨(by rw [hw]; exact (kF BK184 NB184_192))⟩; have n3_ : Aside0 (w38.heap[gb185]? = some (.cells #[.int .i64 0, .slice none 0 0] 43 (0, 0))) := ⟨(by rw [hw]; exact (kF BK185 NB185_192))⟩; have n4_ : Aside0 (w38.heap[gb186]? = some (.cells #[.int .i64 a0_0, u187001] 43 (0, 0))) := ⟨(by rw [hw]; exact (kF BK186 NB186_192))⟩; have n5_ : Aside0 (w38.heap[gb188]? = some (.cells #[.slice A187_0 ((rd_T48 l0_1 x28_2).f0).length c187_0] 48 (0, 0))) := ⟨(by rw [hw]; exact (kF BK188 NB188_192))⟩; have n6_ : Aside0 (w38.heap[gb192]? = some (.cells #[.slice Ao32 t189.length co32] 48 (0, 0))) := ⟨(by rw [hw]; exact (by (with_reducible repeat (first | refine xq ?_ _ | refine xr ?_ | refine xo ?_ _)); refine blk_put (cs := #[.slice none 0 0]) ?_ 0 _ rfl; (with_reducible repeat (first | refine xq ?_ _ | refine xr ?_ | refine xo ?_ _)); exact BK192.out))⟩; have n7_ : Aside0 (Below w.heap.size w w38) := ⟨(by rw [hw]; exact bG)⟩; revert n0_ n1_ n2_ n3_ n4_ n5_ n6_ n7_; clear hw HO_187001 HO191 BK184 BK185 BK186 BK188 BK192 HB; intro HO_187001 HO191 BK184 BK185 BK186 BK188 BK192 HB; obtain ⟨hcz39_0, hfz39_0⟩ := cz1 BK192.out; have p193 : 0 ≤ (a1 : Int) := of_decide_eq_true aB; have q193 : a1 < (t189.length : Int) := of_decide_eq_true aB; obtain ⟨ad193, e193, hx193_0⟩ := Kd.at_int (Kd.R_reads' HO191.out).2.2 a1 p193 q193; cases e193; replace p193 := eq_true p193; replace q193 := eq_true q193; have p23 : 0 ≤ (a1 : Int) := of_decide_eq_true aB; have q23 : (a1 : Int) < ((t189.length : Int) : Int) := of_decide_eq_true aB; obtain ⟨go23, co23, eo23, gb23, gl23, cl23, HG23⟩ := Kd.R_form HO191.out (by omega); (first | cases eo23 | (injection eo23 with ea_ en_ ec_; (first | subst ea_ | (injection ea_ with ea_; subst ea_)); subst ec_; clear en_)); have GB23 := xm gb23; have GG23 := xm HG23; clear gb23 gl23 HG23; (first | simp only [add_plain] at hx193_0 | skip); obtain ⟨hx23_0, hf23_0⟩ := Kd.R_celln 0 HO191.out (a1 : Int) p23 q23; replace p23 := eq_true p23; replace q23 := eq_true q23; obtain ⟨hy40_, hz40_⟩ := Kd.R_celln 0 HO191.out (a1 : Int) (of_decide_eq_true aB) (of_decide_eq_true aB); have HP40 := Kd.R_putg HO191.out (a1 : Int) x9_4) | ((with_reducible refine gate_store (t := 3) (p := 45) rfl ?_); refine store_event (t := 3) (p := 45) (v := ?vo_w41) (w1 := (w38.setCell ⟨go23, (a1 : Int).toNat, none⟩ (.int .i64 x9_4))) ?hg ?ho ?hn ?hr ?_; (case ho => rfl); (case hg => rfl); (case hn => rfl); (case hr => exact zB); intro w41 hw; have hg : w38.grownBy w41 (some go23) := (by rw [hw]; exact HP40.2); have hp_ : Kd.R (Kd.int .i64) 3 w41 w.heap.size (fun _ => True) (.slice (some ⟨go23, 0, none⟩) t189.length co32) y194 := (by rw [hw, Ny194.out]; exact HP40.1); clear HP40; have n0_ := xm (Kd.S_after (v := (.slice (some ⟨go23, 0, none⟩) t189.length co32)) (v1 := (.slice (some ⟨go23, 0, none⟩) t189.length co32)) (ok := (fun k_ => k_ ≠ gb188 ∧ k_ ≠ gb192)) (by (with_reducible repeat (first | apply Kd.S_alloc | apply Kd.S_drewN | apply Kd.S_drew)); exact Kd.S_mono HO_187001.out (fun _ hk => ⟨⟨hk.2.1, hk.2.2⟩, hk.1⟩)) hg (.inl rfl)); have n1_ := xm (blk_grown (kB BK184) hg (Kd.R_ne HO191.out BK184.out (by decide))); have n2_ := xm (blk_grown (kB BK185) hg (Kd.R_ne HO191.out BK185.out (by decide))); have n3_ := xm (blk_grown (kB BK186) hg (Kd.R_ne HO191.out BK186.out (by decide))); have n4_ := xm (blk_grown (kB BK188) hg (Kd.R_ne HO191.out BK188.out (by decide))); have n5_ := xm (hp_); have n6_ := xm (blk_grown (kB BK192) hg (Kd.R_ne HO191.out BK192.out (by decide))); have n7_ := xm ((by rw [hw]; exact xt (HB.out) GB23.out : Below w.heap.size w w41)); revert n0_ n1_ n2_ n3_ n4_ n5_ n6_ n7_; clear HO_187001 BK184 BK185 BK186 BK188 HO191 BK192 HB; intro HO_187001 BK184 BK185 BK186 BK188 HO191 BK192 HB; clear hg hw hp_; have hnb42 := NB186_184.out; have hnc42 := NB184_186.out; have hnb43 := NB186_185.out; have hnc43 := NB185_186.out; obtain ⟨hcz44_0, hcz44_1, hfz44_0, hfz44_1⟩ := cz2 BK186.out; obtain ⟨hcz45_0, hfz45_0⟩ := cz1 BK192.out) | ((with_reducible refine gate_builtin (b := .append) (xs := #[.tmp 47, .tmp 49]) rfl ?_); at_builtin; refine Kd.S_append k48 (w0 := w) w.heap.size rfl (.tmp 47) (.tmp 49) 41 48 (.agg #[(.slice none 0 0)]) 24 rfl Try.underlying41 info48 rfl (by decide) (by omega) u187001 x187001_2 (⟨y194⟩ : S48) [.slice (some ⟨go23, 0, none⟩) t189.length co32] (fun k_ => k_ ≠ gb188 ∧ k_ ≠ gb192) (fun k_ => some k_ = (.slice (some ⟨go23, 0, none⟩) t189.length co32 : Value).ownBlock) rfl rfl ?aP (fun k_ hk_ => ((Kd.R_mono (ok' := fun k_ => ((fun k_ => k_ ≠ gb188 ∧ k_ ≠ gb192)) k_ ∧ some k_ ≠ (u187001 : Value).ownBlock) (Kd.R_types (Kd.R_types (Kd.R_apart' (HO191.out) (Kd.S_typed HO_187001.out) (by decide)) BK188.out (by decide)) BK192.out (by decide)) (fun k_ hk => ⟨⟨hk.1.2, hk.2⟩, hk.1.1.2⟩))).1 k_ hk_.symm) ?aF ?aO ?aB ?aS ?aL ?_; (case aP => exact k48_mkM _ _ _ (⟨y194⟩ : S48) (Kd.R_mono (Kd.R_tight rfl (Kd.R_mono (ok' := fun k_ => ((fun k_ => k_ ≠ gb188 ∧ k_ ≠ gb192)) k_ ∧ some k_ ≠ (u187001 : Value).ownBlock) (Kd.R_types (Kd.R_types (Kd.R_apart' (HO191.out) (Kd.S_typed HO_187001.out) (by decide)) BK188.out (by decide)) BK192.out (by decide)) (fun k_ hk => ⟨⟨hk.1.2, hk.2⟩, hk.1.1.2⟩))) (fun _ h_ => h_))); (case aB => exact bG); (case aF => exact (fun k_ hk => ⟨Kd.freshB (kB BK188) k_ hk, Kd.freshB (kB BK192) k_ hk⟩)); (case aO => exact (by (with_reducible repeat (first | apply Kd.S_alloc | apply Kd.S_drewN | apply Kd.S_drew)); exact Kd.S_mono HO_187001.out (fun k_ hk => ⟨⟨hk.1.1, hk.1.2⟩, fun e_ => hk.2 e_⟩))); (case aS => exact (xz bG)); (case aL => have := LMc24.out; omega); intro v196 w46 ho hb hg hat; rw [← Ny195.out] at ho; have n0_ := xm (blk_grown (kB BK184) hg (Kd.S_ne HO_187001.out BK184.out (by decide))); have n1_ := xm (blk_grown (kB BK185) hg (Kd.S_ne HO_187001.out BK185.out (by decide))); have n2_ := xm (blk_grown (kB BK186) hg (Kd.S_ne HO_187001.out BK186.out (by decide))); have n3_ := xm (blk_grown (kB BK188) hg (Kd.S_away HO_187001.out (fun _ hk => hk.1.1))); have n4_ := xm (blk_grown (kB BK192) hg (Kd.S_away HO_187001.out (fun _ hk => hk.1.2))); have n5_ := xm (hb); have n6_ := xm (ho); revert n0_ n1_ n2_ n3_ n4_ n5_ n6_; clear BK184 BK185 BK186 BK188 BK192 HB HO_187001 HO191; intro BK184 BK185 BK186 BK188 BK192 HB HO197; clear ho hb hg hat; obtain ⟨Ao47, co47, eo47⟩ := Kd.S_slice HO197.out; subst eo47; obtain ⟨hcz48_0, hcz48_1, hfz48_0, hfz48_1⟩ := cz2 BK186.out))
            go_roundg k2
            case measure => have := HJ4.out; have := HK2.out; omega
            case rel => exact ⟨(wrap64 (x28_2 + 1)), (y195), (.slice Ao47 y195.length co47), sB, H', ⟨by have := HJ4.out; have := HK2.out; omega⟩, ⟨by (with_reducible repeat (first | apply Kd.S_alloc | apply Kd.S_drewN | apply Kd.S_drew)); exact Kd.S_mono (Kd.S_far (p := ⟨gb186, 1, none⟩) (Kd.S_types HO197.out BK186.out (by decide)) (fun _ hk => hk.2) (.slice Ao47 y195.length co47)) (fun _ hk => trivial)⟩, ⟨by (with_reducible repeat (first | refine xq ?_ _ | refine xr ?_ | refine xo ?_ _)); refine blk_far ?_ NB184_186.out _; (with_reducible repeat (first | refine xq ?_ _ | refine xr ?_ | refine xo ?_ _)); exact BK184.out⟩, ⟨by (with_reducible repeat (first | refine xq ?_ _ | refine xr ?_ | refine xo ?_ _)); refine blk_far ?_ NB185_186.out _; (with_reducible repeat (first | refine xq ?_ _ | refine xr ?_ | refine xo ?_ _)); exact BK185.out⟩, ⟨by (with_reducible repeat (first | refine xq ?_ _ | refine xr ?_ | refine xo ?_ _)); refine blk_put (cs := #[.int .i64 a0_0, u187001]) ?_ 1 _ rfl; (with_reducible repeat (first | refine xq ?_ _ | refine xr ?_ | refine xo ?_ _)); exact BK186.out⟩, ⟨bG⟩⟩
           ·rw [if_neg c24] at H
            exact absurd H (by simp)
          ·rw [if_neg c22] at H
           have c22b0 : ((rd t189 a1) == x10_4) = false := beq_eq_false_iff_ne.mpr c22
           have c22b1 : ((rd t189 a1) != x10_4) = true := bne_iff_ne.mpr c22
           by_cases c49 : x187001_2.length < 5864062014805
           ·rw [if_pos c49] at H
            have LMc49 := xm c49
            clear c49
            obtain ⟨y198, hy198⟩ : ∃ y_ : List (S48), y_ = (x187001_2 ++ [(⟨t189⟩ : S48)]) := ⟨_, rfl⟩
            replace H : (spec_l9Made.l0 k2 a1 x9_4 x10_4 l0_1 (l0_1.length : Int) (wrap64 (x28_2 + 1)) a0_0 y198) = some (r1, r2) := by first | (rw [hy198]; with_reducible exact H) | (have H2_ := (Option.bind_some _ _).symm.trans H; rw [hy198]; with_reducible exact H2_) | (have H2_ := (Option.bind_some _ _).symm.trans H; with_reducible exact H2_) | with_reducible exact H | (rw [hy198]; exact H) | exact H
            have Ny198 := xm hy198
            clear hy198
            have H' := xm H
            clear H
            have p187 : 0 ≤ (x28_2 : Int) := of_decide_eq_true aB
            have q187 : x28_2 < (l0_1.length : Int) := of_decide_eq_true aB
            obtain ⟨ad187, A187_0, c187_0, e187, hx187_0, hl187_0, hi187_0⟩ := at_T48 HR0_1.out x28_2 p187 q187
            cases e187
            replace hx187_0 := hU hx187_0
            have HR187_0 := xm hi187_0
            have HC187_0 := xm hl187_0
            clear hi187_0 hl187_0
            replace p187 := eq_true p187
            replace q187 := eq_true q187
            go_wp2_with (first | ((with_reducible refine gate_dst (N := 13) rfl ?_); refine box_event ?hg (N := 13) ?hd (cs := #[.slice none 0 0]) (t := 48) ?hr ?_; (case hd => rfl); (case hg => rfl); (case hr => exact zB); intro gb188 hg w50 hbox hb; have n0_ := xm (Kd.S_below (Kd.S_elderB (tB HO_187001) gb188 (Nat.le_of_eq hg.symm)) hb); have n1_ := xm (blk_below (kB BK184) hb); have n2_ := xm (blk_below (kB BK185) hb); have n3_ := xm (blk_below (kB BK186) hb); have n4_ := xm (below_step bG hb); have n5_ := xm (hbox); have n6_ := xm ((by rw [hg]; exact (xz bG) : w.heap.size ≤ gb188)); have n7_ := xm ((by rw [hg]; exact (xz bG) : w.heap.size ≤ gb188)); have n8_ := xm ((by rw [hg]; exact Nat.ne_of_lt (blk_lt (kB BK184)) : gb184 ≠ gb188)); have n9_ := xm ((by rw [hg]; exact Nat.ne_of_gt (blk_lt (kB BK184)) : gb188 ≠ gb184)); have n10_ := xm ((by rw [hg]; exact Nat.ne_of_lt (blk_lt (kB BK185)) : gb185 ≠ gb188)); have n11_ := xm ((by rw [hg]; exact Nat.ne_of_gt (blk_lt (kB BK185)) : gb188 ≠ gb185)); have n12_ := xm ((by rw [hg]; exact Nat.ne_of_lt (blk_lt (kB BK186)) : gb186 ≠ gb188)); have n13_ := xm ((by rw [hg]; exact Nat.ne_of_gt (blk_lt (kB BK186)) : gb188 ≠ gb186)); revert n0_ n1_ n2_ n3_ n4_ n5_ n6_ n7_ n8_ n9_ n10_ n11_ n12_ n13_; clear HO_187001 BK184 BK185 BK186 HB; intro HO_187001 BK184 BK185 BK186 HB BK188 GW188 GE188 NB184_188 NB188_184 NB185_188 NB188_185 NB186_188 NB188_186; clear hb hbox hg; have hnb51 := NB188_184.out; have hnc51 := NB184_188.out; have hnb52 := NB188_185.out; have hnc52 := NB185_188.out; have hnb53 := NB188_186.out; have hnc53 := NB186_188.out; obtain ⟨hcz54_0, hfz54_0⟩ := cz1 BK188.out) | ((with_reducible refine gate_callee (f := 60) rfl ?_); refine goesL_ (some 33) rfl rfl Try.func60 (by kernel_rfl) rfl #[.agg #[.slice A187_0 ((rd_T48 l0_1 x28_2).f0).length c187_0]] rfl mB ?_; (with_reducible refine (spec_l2OwnRow.calls _ _ ((rd_T48 l0_1 x28_2).f0) t189 _ ?side1 ?side2 A19.out).mono ?_); (case side1 => exact Kd.C_below HR187_0.out bG); (case side2 => exact HC187_0.out); rintro e w55 ⟨v190, rfl, ho0, hb⟩; refine ⟨_, rfl, ?_⟩; have n0_ := xm (Kd.S_elder' (by (with_reducible repeat (first | apply Kd.S_alloc | apply Kd.S_drewN | apply Kd.S_drew)); exact (Kd.S_mono (Kd.S_far (p := ⟨gb188, 0, none⟩) (Kd.S_mono HO_187001.out (fun k_ hk => (⟨hk, hk.2⟩ : _ ∧ k_ ≠ gb188))) (fun _ hk => hk.2) (.slice A187_0 ((rd_T48 l0_1 x28_2).f0).length c187_0)) (fun _ h_ => h_.1))) (Kd.R_base ho0) hb); have n1_ := xm (Kd.R_lower ho0 (xz bG)); have n2_ := xm (blk_below (kF BK184 NB184_188) hb); have n3_ := xm (blk_below (kF BK185 NB185_188) hb); have n4_ := xm (blk_below (kF BK186 NB186_188) hb); have n5_ := xm (blk_below (g := gb188) (o := .cells #[.slice A187_0 ((rd_T48 l0_1 x28_2).f0).length c187_0] 48 (0, 0)) (by (with_reducible repeat (first | refine xq ?_ _ | refine xr ?_ | refine xo ?_ _)); refine blk_put (cs := #[.slice none 0 0]) ?_ 0 _ rfl; (with_reducible repeat (first | refine xq ?_ _ | refine xr ?_ | refine xo ?_ _)); exact BK188.out) hb); have n6_ := xm (below_step bG hb); revert n0_ n1_ n2_ n3_ n4_ n5_ n6_; clear HO_187001 BK184 BK185 BK186 BK188 HB; intro HO_187001 HO191 BK184 BK185 BK186 BK188 HB; (try clear hb); (try clear hk); (try clear ho0)) | ((with_reducible refine gate_dst (N := 14) rfl ?_); refine box_event ?hg (N := 14) ?hd (cs := #[.slice none 0 0]) (t := 48) ?hr ?_; (case hd => rfl); (case hg => rfl); (case hr => exact zB); intro gb192 hg w56 hbox hb; have n0_ := xm (Kd.S_below (Kd.S_elderB (tB HO_187001) gb192 (Nat.le_of_eq hg.symm)) hb); have n1_ := xm (Kd.R_below (rB HO191) hb); have n2_ := xm (blk_below (kB BK184) hb); have n3_ := xm (blk_below (kB BK185) hb); have n4_ := xm (blk_below (kB BK186) hb); have n5_ := xm (blk_below (kB BK188) hb); have n6_ := xm (below_step bG hb); have n7_ := xm (hbox); have n8_ := xm ((by rw [hg]; exact (xz bG) : w.heap.size ≤ gb192)); have n9_ := xm ((by rw [hg]; exact (xz bG) : w.heap.size ≤ gb192)); have n10_ := xm ((by rw [hg]; exact Nat.ne_of_lt (blk_lt (kB BK184)) : gb184 ≠ gb192)); have n11_ := xm ((by rw [hg]; exact Nat.ne_of_gt (blk_lt (kB BK184)) : gb192 ≠ gb184)); have n12_ := xm ((by rw [hg]; exact Nat.ne_of_lt (blk_lt (kB BK185)) : gb185 ≠ gb192)); have n13_ := xm ((by rw [hg]; exact Nat.ne_of_gt (blk_lt (kB BK185)) : gb192 ≠ gb185)); have n14_ := xm ((by rw [hg]; exact Nat.ne_of_lt (blk_lt (kB BK186)) : gb186 ≠ gb192)); have n15_ := xm ((by rw [hg]; exact Nat.ne_of_gt (blk_lt (kB BK186)) : gb192 ≠ gb186)); have n16_ := xm ((by rw [hg]; exact Nat.ne_of_lt (blk_lt (kB BK188)) : gb188 ≠ gb192)); have n17_ := xm ((by rw [hg]; exact Nat.ne_of_gt (blk_lt (kB BK188)) : gb192 ≠ gb188)); revert n0_ n1_ n2_ n3_ n4_ n5_ n6_ n7_ n8_ n9_ n10_ n11_ n12_ n13_ n14_ n15_ n16_ n17_; clear HO_187001 HO191 BK184 BK185 BK186 BK188 HB; intro HO_187001 HO191 BK184 BK185 BK186 BK188 HB BK192 GW192 GE192 NB184_192 NB192_184 NB185_192 NB192_185 NB186_192 NB192_186 NB188_192 NB192_188; clear hb hbox hg; obtain ⟨Ao57, co57, eo57⟩ := Kd.R_slice HO191.out; subst eo57; have hnb58 := NB192_184.out; have hnc58 := NB184_192.out; have hnb59 := NB192_185.out; have hnc59 := NB185_192.out; have hnb60 := NB192_186.out; have hnc60 := NB186_192.out; have hnb61 := NB192_188.out; have hnc61 := NB188_192.out; obtain ⟨hcz62_0, hfz62_0⟩ := cz1 BK192.out) | ((with_reducible refine gate_store (t := 48) (p := 14) rfl ?_); refine store_event (t := 48) (p := 14) (v := ?vo_w63) (w1 := (w56.setCell ⟨gb192, 0, none⟩ (.slice Ao57 t189.length co57))) ?hg ?ho ?hn ?hr ?_; (case ho => rfl); (case hg => rfl); (case hn => rfl); (case hr => exact zB); intro w63 hw; have n0_ : Aside0 (Kd.S k48 48 w63 w.heap.size (fun k_ => some k_ ≠ (.slice Ao57 t189.length co57 : Value).ownBlock ∧ k_ ≠ gb188 ∧ k_ ≠ gb192) u187001 x187001_2) := ⟨(by rw [hw]; exact (by (with_reducible repeat (first | apply Kd.S_alloc | apply Kd.S_drewN | apply Kd.S_drew)); exact Kd.S_mono (Kd.S_far (p := ⟨gb192, 0, none⟩) (Kd.S_mono HO_187001.out (fun k_ hk => (⟨hk, hk.2⟩ : _ ∧ k_ ≠ gb192))) (fun _ hk => hk.2) (.slice Ao57 t189.length co57)) (fun _ hk => ⟨hk.1.1.2, ⟨hk.1.1.1.2, hk.1.2⟩⟩)))⟩; have n1_ : Aside0 (Kd.R (Kd.int .i64) 3 w63 w.heap.size (fun _ => True) (.slice Ao57 t189.length co57) t189) := ⟨(by rw [hw]; exact (by (with_reducible repeat (first | apply Kd.R_alloc | apply Kd.R_drewN | apply Kd.R_drew)); exact Kd.R_mono (Kd.R_far (p := ⟨gb192, 0, none⟩) (Kd.R_types HO191.out BK192.out (by decide)) (fun _ hk => hk.2) (.slice Ao57 t189.length co57)) (fun _ hk => trivial)))⟩; have n2_ : Aside0 (w63.heap[gb184]? = some (.cells #[.int .i64 a0_0, .slice (some ad187) l0_1.length c0_1] 43 (0, 0))) := ⟨(by rw [hw]; exact (kF BK184 NB184_192))⟩; have n3_ : Aside0 (w63.heap[gb185]? = some (.cells #[.int .i64 0, .slice none 0 0] 43 (0, 0))) := ⟨(by rw [hw]; exact (kF BK185 NB185_192))⟩; have n4_ : Aside0 (w63.heap[gb186]? = some (.cells #[.int .i64 a0_0, u187001] 43 (0, 0))) := ⟨(by rw [hw]; exact (kF BK186 NB186_192))⟩; have n5_ : Aside0 (w63.heap[gb188]? = some (.cells #[.slice A187_0 ((rd_T48 l0_1 x28_2).f0).length c187_0] 48 (0, 0))) := ⟨(by rw [hw]; exact (kF BK188 NB188_192))⟩; have n6_ : Aside0 (w63.heap[gb192]? = some (.cells #[.slice Ao57 t189.length co57] 48 (0, 0))) := ⟨(by rw [hw]; exact (by (with_reducible repeat (first | refine xq ?_ _ | refine xr ?_ | refine xo ?_ _)); refine blk_put (cs := #[.slice none 0 0]) ?_ 0 _ rfl; (with_reducible repeat (first | refine xq ?_ _ | refine xr ?_ | refine xo ?_ _)); exact BK192.out))⟩; have n7_ : Aside0 (Below w.heap.size w w63) := ⟨(by rw [hw]; exact bG)⟩; revert n0_ n1_ n2_ n3_ n4_ n5_ n6_ n7_; clear hw HO_187001 HO191 BK184 BK185 BK186 BK188 BK192 HB; intro HO_187001 HO191 BK184 BK185 BK186 BK188 BK192 HB; obtain ⟨hcz64_0, hfz64_0⟩ := cz1 BK192.out; have p193 : 0 ≤ (a1 : Int) := of_decide_eq_true aB; have q193 : a1 < (t189.length : Int) := of_decide_eq_true aB; obtain ⟨ad193, e193, hx193_0⟩ := Kd.at_int (Kd.R_reads' HO191.out).2.2 a1 p193 q193; cases e193; replace p193 := eq_true p193; replace q193 := eq_true q193; have hnb65 := NB186_184.out; have hnc65 := NB184_186.out; have hnb66 := NB186_185.out; have hnc66 := NB185_186.out; obtain ⟨hcz67_0, hcz67_1, hfz67_0, hfz67_1⟩ := cz2 BK186.out) | ((with_reducible refine gate_builtin (b := .append) (xs := #[.tmp 47, .tmp 49]) rfl ?_); at_builtin; refine Kd.S_append k48 (w0 := w) w.heap.size rfl (.tmp 47) (.tmp 49) 41 48 (.agg #[(.slice none 0 0)]) 24 rfl Try.underlying41 info48 rfl (by decide) (by omega) u187001 x187001_2 (⟨t189⟩ : S48) [.slice (some ad193) t189.length co57] (fun k_ => k_ ≠ gb188 ∧ k_ ≠ gb192) (fun k_ => some k_ = (.slice (some ad193) t189.length co57 : Value).ownBlock) rfl rfl ?aP (fun k_ hk_ => ((Kd.R_mono (ok' := fun k_ => ((fun k_ => k_ ≠ gb188 ∧ k_ ≠ gb192)) k_ ∧ some k_ ≠ (u187001 : Value).ownBlock) (Kd.R_types (Kd.R_types (Kd.R_apart' (HO191.out) (Kd.S_typed HO_187001.out) (by decide)) BK188.out (by decide)) BK192.out (by decide)) (fun k_ hk => ⟨⟨hk.1.2, hk.2⟩, hk.1.1.2⟩))).1 k_ hk_.symm) ?aF ?aO ?aB ?aS ?aL ?_; (case aP => exact k48_mkM _ _ _ (⟨t189⟩ : S48) (Kd.R_mono (Kd.R_tight rfl (Kd.R_mono (ok' := fun k_ => ((fun k_ => k_ ≠ gb188 ∧ k_ ≠ gb192)) k_ ∧ some k_ ≠ (u187001 : Value).ownBlock) (Kd.R_types (Kd.R_types (Kd.R_apart' (HO191.out) (Kd.S_typed HO_187001.out) (by decide)) BK188.out (by decide)) BK192.out (by decide)) (fun k_ hk => ⟨⟨hk.1.2, hk.2⟩, hk.1.1.2⟩))) (fun _ h_ => h_))); (case aB => exact bG); (case aF => exact (fun k_ hk => ⟨Kd.freshB (kB BK188) k_ hk, Kd.freshB (kB BK192) k_ hk⟩)); (case aO => exact (by (with_reducible repeat (first | apply Kd.S_alloc | apply Kd.S_drewN | apply Kd.S_drew)); exact Kd.S_mono HO_187001.out (fun k_ hk => ⟨⟨hk.2.1, hk.2.2⟩, fun e_ => hk.1 e_⟩))); (case aS => exact (xz bG)); (case aL => have := LMc49.out; omega); intro v199 w68 ho hb hg hat; rw [← Ny198.out] at ho; have n0_ := xm (blk_grown (kB BK184) hg (Kd.S_ne HO_187001.out BK184.out (by decide))); have n1_ := xm (blk_grown (kB BK185) hg (Kd.S_ne HO_187001.out BK185.out (by decide))); have n2_ := xm (blk_grown (kB BK186) hg (Kd.S_ne HO_187001.out BK186.out (by decide))); have n3_ := xm (blk_grown (kB BK188) hg (Kd.S_away HO_187001.out (fun _ hk => hk.2.1))); have n4_ := xm (blk_grown (kB BK192) hg (Kd.S_away HO_187001.out (fun _ hk => hk.2.2))); have n5_ := xm (hb); have n6_ := xm (ho); revert n0_ n1_ n2_ n3_ n4_ n5_ n6_; clear BK184 BK185 BK186 BK188 BK192 HB HO_187001 HO191; intro BK184 BK185 BK186 BK188 BK192 HB HO200; clear ho hb hg hat; obtain ⟨Ao69, co69, eo69⟩ := Kd.S_slice HO200.out; subst eo69; obtain ⟨hcz70_0, hcz70_1, hfz70_0, hfz70_1⟩ := cz2 BK186.out))
            go_roundg k2
            case measure => have := HJ4.out; have := HK2.out; omega
            case rel => exact ⟨(wrap64 (x28_2 + 1)), (y198), (.slice Ao69 y198.length co69), sB, H', ⟨by have := HJ4.out; have := HK2.out; omega⟩, ⟨by (with_reducible repeat (first | apply Kd.S_alloc | apply Kd.S_drewN | apply Kd.S_drew)); exact Kd.S_mono (Kd.S_far (p := ⟨gb186, 1, none⟩) (Kd.S_types HO200.out BK186.out (by decide)) (fun _ hk => hk.2) (.slice Ao69 y198.length co69)) (fun _ hk => trivial)⟩, ⟨by (with_reducible repeat (first | refine xq ?_ _ | refine xr ?_ | refine xo ?_ _)); refine blk_far ?_ NB184_186.out _; (with_reducible repeat (first | refine xq ?_ _ | refine xr ?_ | refine xo ?_ _)); exact BK184.out⟩, ⟨by (with_reducible repeat (first | refine xq ?_ _ | refine xr ?_ | refine xo ?_ _)); refine blk_far ?_ NB185_186.out _; (with_reducible repeat (first | refine xq ?_ _ | refine xr ?_ | refine xo ?_ _)); exact BK185.out⟩, ⟨by (with_reducible repeat (first | refine xq ?_ _ | refine xr ?_ | refine xo ?_ _)); refine blk_put (cs := #[.int .i64 a0_0, u187001]) ?_ 1 _ rfl; (with_reducible repeat (first | refine xq ?_ _ | refine xr ?_ | refine xo ?_ _)); exact BK186.out⟩, ⟨bG⟩⟩
           ·rw [if_neg c49] at H
            exact absurd H (by simp)
         ·rw [if_neg c21] at H
          exact absurd H (by simp)
        ·rw [if_neg c20] at H
         exact absurd H (by simp)
       ·rw [if_neg c18] at H
        exact absurd H (by simp)
      ·rw [if_neg c17] at H
       exact absurd H (by simp)
     ·rw [if_neg c16] at H
      have c16b0 : decide (x28_2 < (l0_1.length : Int)) = false := decide_eq_false c16
      clear c16
      simp only [Option.some.injEq, Prod.mk.injEq] at H
      obtain ⟨rfl, rfl⟩ := H
      have hnb71 := NB186_184.out
      have hnc71 := NB184_186.out
      have hnb72 := NB186_185.out
      have hnc72 := NB185_186.out
      obtain ⟨hcz73_0, hcz73_1, hfz73_0, hfz73_1⟩ := cz2 BK186.out
      have hnb74 := NB185_184.out
      have hnc74 := NB184_185.out
      obtain ⟨hcz75_0, hcz75_1, hfz75_0, hfz75_1⟩ := cz2 BK185.out
      obtain ⟨Ao76, co76, eo76⟩ := Kd.S_slice HO_187001.out
      subst eo76
      go_wp2
      refine bodyPost_ret (results_cell_row rfl _ _ gb185 43 #[.int .i64 a0_0, .slice Ao76 x187001_2.length co76] (0, 0) _ rfl (by (with_reducible repeat (first | refine xq ?_ _ | refine xr ?_ | refine xo ?_ _)); refine blk_put (cs := #[.int .i64 a0_0, .slice none 0 0]) ?_ 1 _ rfl; (with_reducible repeat (first | refine xq ?_ _ | refine xr ?_ | refine xo ?_ _)); refine blk_put (cs := #[.int .i64 0, .slice none 0 0]) ?_ 0 _ rfl; (with_reducible repeat (first | refine xq ?_ _ | refine xr ?_ | refine xo ?_ _)); exact BK185.out) Try.underlying43 rfl (by kernel_rfl)) rfl ?_
      exact ⟨_, eB, by (with_reducible repeat (first | apply Kd.S_alloc | apply Kd.S_drewN | apply Kd.S_drew)); exact Kd.S_mono (Kd.S_far (p := ⟨gb185, 1, none⟩) (Kd.S_far (p := ⟨gb185, 0, none⟩) (Kd.S_types HO_187001.out BK185.out (by decide)) (fun _ hk => hk.2) (.int .i64 a0_0)) (fun _ hk => hk.2) (.slice Ao76 x187001_2.length co76)) (fun _ hk => trivial), bG⟩

end Go.Proofs.Ytmelechhnimlnad.G
