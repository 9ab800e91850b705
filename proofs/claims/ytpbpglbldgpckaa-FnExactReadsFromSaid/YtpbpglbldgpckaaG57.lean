/- Written by a program of this claim's own, out of the translation: functions of the program as plain functions, and that the calls answer as these. No conditions. -/
import Derived.Test.YtpbpglbldgpckaaG0
namespace Go.Proofs.Ytpbpglbldgpckaa.G
open Go.RowKit Go.Proofs.Ytpbpglbldgpckaa.X Go.Proofs.YtpbpglbldgpckaaW.PrintWords Go.Proofs.YtpbpglbldgpckaaW.PrintLast Go.Proofs.YtpbpglbldgpckaaW.PrintMore
attribute [local go_sem] max2_int min2_int max_two min_two max_three min_three max_four min_four   -- for this text's walks alone
set_option linter.unusedVariables false
set_option linter.unusedSimpArgs false

/-! ### spec_l13Last: function 126 -/
def spec_l13Last.l0 : Nat → List (S111) → Int → Int → Option (Int)
 | 0, _, _, _ => none
 | k + 1, x0, x2, x7 => if x7 ≥ 0 then (if 0 ≤ x7 then (if x7 < (x0.length : Int) then (if ((rd_T111 x0 x7).f1) = 2 then (if ((rd_T111 x0 x7).f2) = x2 then (some x7) else (spec_l13Last.l0 k x0 x2 (wrap64 (x7 - 1)))) else (spec_l13Last.l0 k x0 x2 (wrap64 (x7 - 1)))) else (none)) else (none)) else (some (-1))
def spec_l13Last.f (k : Nat) (l0 : List (S111)) (a1 : Int) (a2 : Int) : Option (Int) := spec_l13Last.l0 k l0 a2 (wrap64 (a1 - 1))
theorem spec_l13Last.mono_l : ∀ k, (∀ y0 y1 y2, LeO (spec_l13Last.l0 k y0 y1 y2) (spec_l13Last.l0 (k + 1) y0 y1 y2))
 | 0 => fun _ _ _ r h => by simp [spec_l13Last.l0] at h
 | k + 1 => by
  have ih0 := spec_l13Last.mono_l k
  ·intro y0 y1 y2
   unfold spec_l13Last.l0
   repeat' first
   | (with_reducible exact ih0 _ _ _)
   | (with_reducible exact LeO.refl _)
   | (with_reducible exact LeO.none _)
   | (with_reducible refine LeO.ite ?_ ?_)
   | (with_reducible refine LeO.bind ?_ (fun _ => ?_))
   | exact ih0 _ _ _
   | exact LeO.none _
   | refine LeO.ite ?_ ?_
   | refine LeO.bind ?_ (fun _ => ?_)
theorem spec_l13Last.mono : ∀ a0 a1 a2 k, LeO (spec_l13Last.f k a0 a1 a2) (spec_l13Last.f (k + 1) a0 a1 a2) := by
 intro a0 a1 a2 k
 have ih0 := spec_l13Last.mono_l k
 unfold spec_l13Last.f
 repeat' first
   | (with_reducible exact ih0 _ _ _)
   | (with_reducible exact LeO.refl _)
   | (with_reducible exact LeO.none _)
   | (with_reducible refine LeO.ite ?_ ?_)
   | (with_reducible refine LeO.bind ?_ (fun _ => ?_))
   | exact ih0 _ _ _
   | exact LeO.none _
   | refine LeO.ite ?_ ?_
   | refine LeO.bind ?_ (fun _ => ?_)
set_option maxHeartbeats 8000000 in
set_option maxRecDepth 100000 in
theorem spec_l13Last.calls (k : Nat) (A0 : Option Addr) (c0 : Nat) (l0 : List (S111)) (a1 : Int) (a2 : Int) (r : Int) (w : World) (hr0 : Kd.C k111 w A0 l0.length l0) (hc0 : l0.length ≤ c0) (h : spec_l13Last.f k l0 a1 a2 = some r) :
  Calls Try.prog 126 #[.slice A0 l0.length c0, .int .i64 a1, .int .i64 a2] w fun e w' => e = .returned (.int .i64 r) ∧ Drawn0 w w' := by
 have HR0 := xm hr0
 have HC0 := xm hc0
 clear hr0 hc0
 have H : (spec_l13Last.l0 k l0 a2 (wrap64 (a1 - 1))) = some r := h
 clear h
 have H' := xm H
 clear H
 go_enter Try.func126, Try.ntmps126
 go_wp2
 go_loopg [7] k (fun kq v7 w' => ∃ (x7_1 : Int), v7 = .int .i64 x7_1 ∧ Aside0 (spec_l13Last.l0 kq l0 a2 x7_1 = some r) ∧ Aside0 (kq ≤ k) ∧ Drawn0 w w')
 case atStart => exact ⟨(wrap64 (a1 - 1)), (by first | rfl | (simp; done) | (simp [*]; done)), H', ⟨Nat.le_refl _⟩, by repeat (first | exact Drawn0.refl _ | apply Drawn0.step)⟩
 case round =>
  clear H'
  try clear c1
  try clear p2
  obtain ⟨x7_1, rfl, HA, HK1, ⟨m1, rfl⟩⟩ := hrel
  cases gk with
  | zero => exact absurd HA.out (by simp [spec_l13Last.l0])
  | succ k1 =>
   have H := HA.out
   clear HA
   simp only [spec_l13Last.l0] at H
   by_cases c4 : x7_1 ≥ 0
   ·rw [if_pos c4] at H
    have c4b0 : decide (0 ≤ x7_1) = true := decide_eq_true c4
    clear c4
    by_cases c5 : 0 ≤ x7_1
    ·rw [if_pos c5] at H
     have c5b0 : decide (0 ≤ x7_1) = true := decide_eq_true c5
     clear c5
     by_cases c6 : x7_1 < (l0.length : Int)
     ·rw [if_pos c6] at H
      have c6b0 : decide (x7_1 < (l0.length : Int)) = true := decide_eq_true c6
      clear c6
      by_cases c7 : ((rd_T111 l0 x7_1).f1) = 2
      ·rw [if_pos c7] at H
       have c7b0 : (((rd_T111 l0 x7_1).f1) == 2) = true := beq_iff_eq.mpr c7
       have c7b1 : (((rd_T111 l0 x7_1).f1) != 2) = false := bne_eq_false_iff_eq.mpr c7
       clear c7
       by_cases c8 : ((rd_T111 l0 x7_1).f2) = a2
       ·rw [if_pos c8] at H
        have c8b0 : (((rd_T111 l0 x7_1).f2) == a2) = true := beq_iff_eq.mpr c8
        have c8b1 : (((rd_T111 l0 x7_1).f2) != a2) = false := bne_eq_false_iff_eq.mpr c8
        clear c8
        obtain rfl := Option.some.inj H
        have p892 : 0 ≤ (x7_1 : Int) := of_decide_eq_true (by first | (with_reducible assumption) | assumption)
        have q892 : x7_1 < (l0.length : Int) := of_decide_eq_true (by first | (with_reducible assumption) | assumption)
        obtain ⟨ad892, e892, hx892_0, hx892_1, hx892_2⟩ := at_T111 HR0.out x7_1 p892 q892
        cases e892
        replace p892 := eq_true p892
        replace q892 := eq_true q892
        have p893 : 0 ≤ (x7_1 : Int) := of_decide_eq_true (by first | (with_reducible assumption) | assumption)
        have q893 : x7_1 < (l0.length : Int) := of_decide_eq_true (by first | (with_reducible assumption) | assumption)
        obtain ⟨ad893, e893, hx893_0, hx893_1, hx893_2⟩ := at_T111 HR0.out x7_1 p893 q893
        obtain rfl : ad892 = ad893 := (by injection e893)
        replace p893 := eq_true p893
        replace q893 := eq_true q893
        go_wp2
        go_ret
        exact ⟨by first | rfl | (simp; done) | (simp [*]; done), by repeat (first | exact Drawn0.refl _ | apply Drawn0.step)⟩
       ·rw [if_neg c8] at H
        have c8b0 : (((rd_T111 l0 x7_1).f2) == a2) = false := beq_eq_false_iff_ne.mpr c8
        have c8b1 : (((rd_T111 l0 x7_1).f2) != a2) = true := bne_iff_ne.mpr c8
        have H' := xm H
        clear H
        have p892 : 0 ≤ (x7_1 : Int) := of_decide_eq_true (by first | (with_reducible assumption) | assumption)
        have q892 : x7_1 < (l0.length : Int) := of_decide_eq_true (by first | (with_reducible assumption) | assumption)
        obtain ⟨ad892, e892, hx892_0, hx892_1, hx892_2⟩ := at_T111 HR0.out x7_1 p892 q892
        cases e892
        replace p892 := eq_true p892
        replace q892 := eq_true q892
        have p893 : 0 ≤ (x7_1 : Int) := of_decide_eq_true (by first | (with_reducible assumption) | assumption)
        have q893 : x7_1 < (l0.length : Int) := of_decide_eq_true (by first | (with_reducible assumption) | assumption)
        obtain ⟨ad893, e893, hx893_0, hx893_1, hx893_2⟩ := at_T111 HR0.out x7_1 p893 q893
        obtain rfl : ad892 = ad893 := (by injection e893)
        replace p893 := eq_true p893
        replace q893 := eq_true q893
        go_wp2
        go_roundg k1
        case measure => have := HK1.out; omega
        case rel => exact ⟨(wrap64 (x7_1 - 1)), (by first | rfl | (simp; done) | (simp [*]; done)), H', ⟨by have := HK1.out; omega⟩, by repeat (first | exact Drawn0.refl _ | apply Drawn0.step)⟩
      ·rw [if_neg c7] at H
       have c7b0 : (((rd_T111 l0 x7_1).f1) == 2) = false := beq_eq_false_iff_ne.mpr c7
       have c7b1 : (((rd_T111 l0 x7_1).f1) != 2) = true := bne_iff_ne.mpr c7
       have H' := xm H
       clear H
       have p892 : 0 ≤ (x7_1 : Int) := of_decide_eq_true (by first | (with_reducible assumption) | assumption)
       have q892 : x7_1 < (l0.length : Int) := of_decide_eq_true (by first | (with_reducible assumption) | assumption)
       obtain ⟨ad892, e892, hx892_0, hx892_1, hx892_2⟩ := at_T111 HR0.out x7_1 p892 q892
       cases e892
       replace p892 := eq_true p892
       replace q892 := eq_true q892
       go_wp2
       go_roundg k1
       case measure => have := HK1.out; omega
       case rel => exact ⟨(wrap64 (x7_1 - 1)), (by first | rfl | (simp; done) | (simp [*]; done)), H', ⟨by have := HK1.out; omega⟩, by repeat (first | exact Drawn0.refl _ | apply Drawn0.step)⟩
     ·rw [if_neg c6] at H
      exact absurd H (by simp)
    ·rw [if_neg c5] at H
     exact absurd H (by simp)
   ·rw [if_neg c4] at H
    have c4b0 : decide (0 ≤ x7_1) = false := decide_eq_false c4
    clear c4
    obtain rfl := Option.some.inj H
    go_wp2
    go_ret
    exact ⟨by first | rfl | (simp; done) | (simp [*]; done), by repeat (first | exact Drawn0.refl _ | apply Drawn0.step)⟩

/-! ### math_bits_Mul32: function 177 -/
def math_bits_Mul32.f (a0 : Int) (a1 : Int) : Option (Int × Int) := some (((IntKind.u64.wrap ((IntKind.u64.wrap (a0)) * (IntKind.u64.wrap (a1)))) / 4294967296) % 4294967296, (IntKind.u64.wrap ((IntKind.u64.wrap (a0)) * (IntKind.u64.wrap (a1)))) % 4294967296)
set_option maxHeartbeats 8000000 in
set_option maxRecDepth 100000 in
theorem math_bits_Mul32.calls (a0 : Int) (a1 : Int) (r1 : Int) (r2 : Int) (w : World) (h : math_bits_Mul32.f a0 a1 = some (r1, r2)) :
  Calls Try.prog 177 #[.int .u32 a0, .int .u32 a1] w fun e w' => e = .returned (.tuple #[.int .u32 r1, .int .u32 r2]) ∧ Drawn0 w w' := by
 have H : (some (((IntKind.u64.wrap ((IntKind.u64.wrap (a0)) * (IntKind.u64.wrap (a1)))) / 4294967296) % 4294967296, (IntKind.u64.wrap ((IntKind.u64.wrap (a0)) * (IntKind.u64.wrap (a1)))) % 4294967296)) = some (r1, r2) := h
 clear h
 simp only [Option.some.injEq, Prod.mk.injEq] at H
 obtain ⟨rfl, rfl⟩ := H
 go_enter Try.func177, Try.ntmps177
 go_wp2
 go_ret2
 exact ⟨by first | rfl | (simp; done) | (simp [*]; done), by repeat (first | exact Drawn0.refl _ | apply Drawn0.step)⟩

/-! ### math_bits_Mul64: function 178 -/
def math_bits_Mul64.f (a0 : Int) (a1 : Int) : Option (Int × Int) := some (IntKind.u64.wrap ((IntKind.u64.wrap ((IntKind.u64.wrap ((a0 / 4294967296) * (a1 / 4294967296))) + ((IntKind.u64.wrap ((IntKind.u64.wrap ((a0 / 4294967296) * (Go.bits .and .u64 a1 4294967295))) + ((IntKind.u64.wrap ((Go.bits .and .u64 a0 4294967295) * (Go.bits .and .u64 a1 4294967295))) / 4294967296))) / 4294967296))) + ((IntKind.u64.wrap ((Go.bits .and .u64 (IntKind.u64.wrap ((IntKind.u64.wrap ((a0 / 4294967296) * (Go.bits .and .u64 a1 4294967295))) + ((IntKind.u64.wrap ((Go.bits .and .u64 a0 4294967295) * (Go.bits .and .u64 a1 4294967295))) / 4294967296))) 4294967295) + (IntKind.u64.wrap ((Go.bits .and .u64 a0 4294967295) * (a1 / 4294967296))))) / 4294967296)), IntKind.u64.wrap (a0 * a1))
set_option maxHeartbeats 8000000 in
set_option maxRecDepth 100000 in
theorem math_bits_Mul64.calls (a0 : Int) (a1 : Int) (r1 : Int) (r2 : Int) (w : World) (h : math_bits_Mul64.f a0 a1 = some (r1, r2)) :
  Calls Try.prog 178 #[.int .u64 a0, .int .u64 a1] w fun e w' => e = .returned (.tuple #[.int .u64 r1, .int .u64 r2]) ∧ Drawn0 w w' := by
 have H : (some (IntKind.u64.wrap ((IntKind.u64.wrap ((IntKind.u64.wrap ((a0 / 4294967296) * (a1 / 4294967296))) + ((IntKind.u64.wrap ((IntKind.u64.wrap ((a0 / 4294967296) * (Go.bits .and .u64 a1 4294967295))) + ((IntKind.u64.wrap ((Go.bits .and .u64 a0 4294967295) * (Go.bits .and .u64 a1 4294967295))) / 4294967296))) / 4294967296))) + ((IntKind.u64.wrap ((Go.bits .and .u64 (IntKind.u64.wrap ((IntKind.u64.wrap ((a0 / 4294967296) * (Go.bits .and .u64 a1 4294967295))) + ((IntKind.u64.wrap ((Go.bits .and .u64 a0 4294967295) * (Go.bits .and .u64 a1 4294967295))) / 4294967296))) 4294967295) + (IntKind.u64.wrap ((Go.bits .and .u64 a0 4294967295) * (a1 / 4294967296))))) / 4294967296)), IntKind.u64.wrap (a0 * a1))) = some (r1, r2) := h
 clear h
 simp only [Option.some.injEq, Prod.mk.injEq] at H
 obtain ⟨rfl, rfl⟩ := H
 go_enter Try.func178, Try.ntmps178
 go_wp2
 go_ret2
 exact ⟨by first | rfl | (simp; done) | (simp [*]; done), by repeat (first | exact Drawn0.refl _ | apply Drawn0.step)⟩

/-! ### math_bits_Mul: function 174 -/
def math_bits_Mul.f (a0 : Int) (a1 : Int) : Option (Int × Int) := (math_bits_Mul64.f a0 a1).bind fun bt905 => (some (bt905.1, bt905.2))
set_option maxHeartbeats 8000000 in
set_option maxRecDepth 100000 in
theorem math_bits_Mul.calls (a0 : Int) (a1 : Int) (r1 : Int) (r2 : Int) (w : World) (h : math_bits_Mul.f a0 a1 = some (r1, r2)) :
  Calls Try.prog 174 #[.int .u64 a0, .int .u64 a1] w fun e w' => e = .returned (.tuple #[.int .u64 r1, .int .u64 r2]) ∧ Drawn0 w w' := by
 have H : ((math_bits_Mul64.f a0 a1).bind fun bt905 => (some (bt905.1, bt905.2))) = some (r1, r2) := h
 clear h
 replace H := Option.bind_eq_some_iff.mp H
 obtain ⟨⟨t905, t906⟩, A30, H⟩ := H
 replace H : (some (t905, t906)) = some (r1, r2) := H
 have A3 := xm A30
 clear A30
 simp only [Option.some.injEq, Prod.mk.injEq] at H
 obtain ⟨rfl, rfl⟩ := H
 go_enter Try.func174, Try.ntmps174
 go_wp2_with (first | ((with_reducible refine gate_callee (f := 178) rfl ?_); refine goesL_ (some 25) rfl rfl Try.func178 (by kernel_rfl) rfl #[.int .u64 a0, .int .u64 a1] rfl (by (try simp only [List.map_toArray, List.map_cons, List.map_nil]); first | done | rfl | (simp only [List.length_drop, List.length_take]; rfl)) ?_; (with_reducible refine (math_bits_Mul64.calls a0 a1 t905 t906 _ A3.out).mono ?_); rintro e w' ⟨rfl, ⟨nd, rfl⟩⟩; refine ⟨_, rfl, ?_⟩))
 go_ret2
 exact ⟨by first | rfl | (simp; done) | (simp [*]; done), by repeat (first | exact Drawn0.refl _ | apply Drawn0.step)⟩

/-! ### slices_Repeat_Lint_int: function 162 -/
def slices_Repeat_Lint_int.f (l0 : List Int) (a1 : Int) : Option (List Int) := if l0.length = 1 then (if a1 = 4 then some [rd l0 0, rd l0 0, rd l0 0, rd l0 0] else none) else none
theorem slices_Repeat_Lint_int.int3 : (Try.prog.info? 3).map (·.size) = some 1 := by
 obtain ⟨i_, hi_, hz_⟩ := Option.map_eq_some_iff.1 info3
 simp only [Prod.mk.injEq] at hz_
 rw [hi_]; simp [hz_.2.1]
/-- A copy of some cells into a row that is known. -/
theorem slices_Repeat_Lint_int.cpy (w : World) (g o dLen dCap : Nat) (a : Addr) (sLen sCap : Nat) (cur : Array Value) (cs cur' : List Value) (hg : w.heap[g]? = some (.cells cur 3 (0, 0))) (hn : cs.length = Nat.min sLen dLen)
  (hsrc : ∀ j v, cs[j]? = some v → w.cell? (a.add j) = some v) (hfit : o + cs.length ≤ cur.size) (h1 : ∀ v ∈ cs, v.oneCell' = true) (hc : cur.toList.take o ++ cs ++ cur.toList.drop (o + cs.length) = cur') :
  ∃ w1 : World, (Builtin.copy_ #[31, 31] 3 #[.slice (some ⟨g, o, none⟩) dLen dCap, .slice (some a) sLen sCap]).run Try.prog w = .ok (.int .i64 (cs.length : Nat)) w1 ∧ w1.heap[g]? = some (.cells cur'.toArray 3 (0, 0)) ∧ w.grownBy w1 (some g) := by
 have h := run_copy_row Try.prog w 31 31 3 3 g o dLen dCap a sLen sCap cur 3 cs Try.underlying31 slices_Repeat_Lint_int.int3 hg hn hsrc hfit h1
 rw [hc] at h
 exact ⟨_, h, setRow_heap w g cur _ 3 _ hg, ⟨rfl, rfl, rfl, by simp [World.setRow], fun k hk hne => setRow_other w g k _ (fun e => hne (by rw [e]))⟩⟩
section
variable {P : Program} {ops : Array Oper} {rest : List Oper} {o : Oper} {a : Act} {Q : Exit → Act → World → Prop}
theorem slices_Repeat_Lint_int.make_event {W : World} (hgd : o.guard = none) {N : Tmp} (_hd : o.dst = some N) {cs : Array Value} {t : TypeId} {n : Nat}
  (hrun : (execOp a.eval o).run P W = .ok (.value (.slice (some ⟨W.heap.size, 0, none⟩) n n)) (W.alloc (.cells cs t (0, 0))))
  (h : ∀ g, g = W.heap.size → ∀ w1, w1.heap[g]? = some (.cells cs t (0, 0)) → Below W.heap.size W w1 → wpList P ops Q rest (a.put o.dst (.slice (some ⟨g, 0, none⟩) n n)) w1) : wpList P ops Q (o :: rest) a W :=
 Kd.event_run hgd hrun (h _ rfl _ (blk_new W _) (xa (Below.refl _ _) _))
end
theorem slices_Repeat_Lint_int.mk4 (w1 : World) : (Instr.makeSlice 31 (.int .i64 4) (.int .i64 4)).run Try.prog w1 = .ok (.slice (some ⟨w1.heap.size, 0, none⟩) 4 4) (w1.alloc (.cells #[.int .i64 0, .int .i64 0, .int .i64 0, .int .i64 0] 3)) := by
 obtain ⟨i_, hi_, hz_⟩ := Option.map_eq_some_iff.1 info3
 simp only [Prod.mk.injEq] at hz_
 have hm_ := run_makeSlice (P := Try.prog) w1 31 3 i_ (.int .i64 0) Try.underlying31 hi_ hz_.1 .i64 .i64 4 4 (by omega) (by omega) (by rw [hz_.2.1]; decide) (by rw [hz_.2.2]; omega) (by omega)
 rw [hz_.2.1] at hm_
 rw [hm_]
 have hc : madeCells (Value.int IntKind.i64 0).cells (Int.toNat 4 * 1) = #[.int .i64 0, .int .i64 0, .int .i64 0, .int .i64 0] := by
  unfold madeCells
  rw [show Array.range (Int.toNat 4 * 1) = #[0, 1, 2, 3] from by decide]
  simp [Value.cells, Nat.mod_one]
 rw [hc]
 rfl
theorem slices_Repeat_Lint_int.wr2 : wrap64 2 = 2 := by unfold wrap64; omega
theorem slices_Repeat_Lint_int.wr4 : wrap64 4 = 4 := by unfold wrap64; omega
theorem slices_Repeat_Lint_int.src_pre {w : World} {g t : Nat} {cur : Array Value} (h : w.heap[g]? = some (.cells cur t (0, 0))) (k : Nat) {cs : List Value} (hc : cur.toList.take k = cs) : ∀ j v, cs[j]? = some v → w.cell? ((⟨g, 0, none⟩ : Addr).add j) = some v := by
 subst hc
 intro j v hj
 rw [add_at, Nat.zero_add]
 refine (xc h j).trans ?_
 rw [List.getElem?_take] at hj
 split at hj
 ·simpa using hj
 ·cases hj
set_option maxHeartbeats 4000000 in
set_option maxRecDepth 100000 in
theorem slices_Repeat_Lint_int.one (x : Int) (ad : Addr) (c0 : Nat) (w : World) (hx : w.cell? ad = some (.int .i64 x)) (hMul : ∀ w, Calls Try.prog 174 #[.int .u64 1, .int .u64 4] w fun e w' => e = .returned (.tuple #[.int .u64 0, .int .u64 4]) ∧ Drawn0 w w') :
  Calls Try.prog 162 #[.slice (some ad) 1 c0, .int .i64 4] w fun e w' => ∃ v0_ : Value, e = .returned v0_ ∧ Kd.R (Kd.int .i64) 3 w' w.heap.size (fun _ => True) v0_ [x, x, x, x] ∧ Below w.heap.size w w' := by
 go_enter Try.func162, Try.ntmps162
 go_wp2_with (first
  | (go_at_call 174; refine (hMul _).mono ?_; rintro e w1 ⟨rfl, hd⟩; have hb := hd.below; have hx1 := pw_cell_below hb hx)
  | ((with_reducible refine gate_dst (N := 30) rfl ?_); refine slices_Repeat_Lint_int.make_event ?hg1 (N := 30) ?hd1 (cs := #[.int .i64 0, .int .i64 0, .int .i64 0, .int .i64 0]) (t := 3) (n := 4) ?hr1 ?_; (case hd1 => rfl); (case hg1 => rfl); (case hr1 => go_simp; rw [slices_Repeat_Lint_int.mk4]; rfl); intro g hg w2 hbk hb2; have HG := xm hg; clear hg; have hx2 := pw_cell_below hb2 hx1; obtain ⟨w3, hr3, hbk3, hg3⟩ := slices_Repeat_Lint_int.cpy w2 g 0 4 4 ad 1 c0 _ [.int .i64 x] [.int .i64 x, .int .i64 0, .int .i64 0, .int .i64 0] hbk rfl (fun j v hj => by cases j with | zero => (simp at hj; subst hj; simpa [Addr.add] using hx2) | succ j => simp at hj) (by simp) (by simp [Value.oneCell']) rfl)
  | ((with_reducible refine gate_builtin (b := .copy) (xs := #[.tmp 31, .tmp 32]) rfl ?_); refine Kd.event_run rfl (v := .int .i64 1) (w1 := w3) ?hr2 ?_; (case hr2 => go_simp; rw [hr3]; rfl)))
 refine wp_loop_rounds 3 ?_
 (try simp only [Exit.inBlock, Exit.then, if_true, if_false])
 rw [rounds_succ]
 go_wp2
 refine start_ (n := 10) (S := fun _ => True) (ds := []) #[Z,Z,Z,Z,Z,Z,Z,Z,Z,Z] (by kernel_rfl) rfl rfl trivial (fun hHeld => ?_)
 have hbk3' := xr hbk3
 generalize hwqw3 : w3.drew = w3q at hbk3' ⊢
 have HQw3 := xm hwqw3
 clear hwqw3
 refine pure_ (i := 0) (N := some 38) (v := ?_) (a' := ?_) #[Y,Z,Z,Z,Z,Z,Z,Z,Z,Z] rfl rfl (by kernel_rfl) (fun _ _ _ h => h) (Or.inl ⟨by rfl, ?_⟩) ?_ ?_
 rotate_left
 ·intro w'
  go_simp
  with_reducible rfl
 rotate_left
 ·simp only [Act.put, xi, xj, xk, i64_w, i32_w]
  rfl
 refine pure_ (i := 1) (N := some 39) (v := ?_) (a' := ?_) #[Y,Y,Z,Z,Z,Z,Z,Z,Z,Z] rfl rfl (by kernel_rfl) (fun _ _ _ h => h) (Or.inl ⟨by rfl, ?_⟩) ?_ ?_
 rotate_left
 ·intro w'
  go_simp
  with_reducible rfl
 rotate_left
 ·simp only [Act.put, xi, xj, xk, i64_w, i32_w]
  rfl
 refine pure_ (i := 2) (N := some 40) (v := ?_) (a' := ?_) #[Y,Y,Y,Z,Z,Z,Z,Z,Z,Z] rfl rfl (by kernel_rfl) (fun _ _ _ h => h) (Or.inl ⟨by rfl, ?_⟩) ?_ ?_
 rotate_left
 ·intro w'
  go_simp
  with_reducible rfl
 rotate_left
 ·simp only [Act.put, xi, xj, xk, i64_w, i32_w]
  rfl
 refine pure_ (i := 3) (N := some 41) (v := ?_) (a' := ?_) #[Y,Y,Y,Y,Z,Z,Z,Z,Z,Z] rfl rfl (by kernel_rfl) (fun _ _ _ h => h) (Or.inl ⟨by rfl, ?_⟩) ?_ ?_
 rotate_left
 ·intro w'
  go_simp
  with_reducible rfl
 rotate_left
 ·simp only [Act.put, xi, xj, xk, i64_w, i32_w]
  rfl
 refine pure_ (i := 4) (N := some 42) (v := ?_) (a' := ?_) #[Y,Y,Y,Y,Y,Z,Z,Z,Z,Z] rfl rfl (by kernel_rfl) (fun _ _ _ h => h) (Or.inl ⟨by rfl, ?_⟩) ?_ ?_
 rotate_left
 ·intro w'
  go_simp
  with_reducible rfl
 rotate_left
 ·simp only [Act.put, xi, xj, xk, i64_w, i32_w]
  rfl
 refine pure_ (i := 5) (N := some 43) (v := ?_) (a' := ?_) #[Y,Y,Y,Y,Y,Y,Z,Z,Z,Z] rfl rfl (by kernel_rfl) (fun _ _ _ h => h) (Or.inl ⟨by rfl, ?_⟩) ?_ ?_
 rotate_left
 ·intro w'
  go_simp
  with_reducible rfl
 rotate_left
 ·simp only [Act.put, xi, xj, xk, i64_w, i32_w]
  rfl
 refine pure_ (i := 6) (N := some 44) (v := ?_) (a' := ?_) #[Y,Y,Y,Y,Y,Y,Y,Z,Z,Z] rfl rfl (by kernel_rfl) (fun _ _ _ h => h) (Or.inl ⟨by rfl, ?_⟩) ?_ ?_
 rotate_left
 ·intro w'
  go_simp
  with_reducible rfl
 rotate_left
 ·simp only [Act.put, xi, xj, xk, i64_w, i32_w]
  rfl
 refine one_ (i := 7) (N := some 45) #[Y,Y,Y,Y,Y,Y,Y,Y,Z,Z] rfl rfl (by kernel_rfl) (by decide) (fun K hK => ?_)
 obtain ⟨w4, hrw4, hbkw4, hgw4⟩ := slices_Repeat_Lint_int.cpy w3q g 1 3 3 ⟨g, 0, none⟩ 1 4 _ [.int .i64 x] [.int .i64 x, .int .i64 x, .int .i64 0, .int .i64 0] hbk3' rfl (slices_Repeat_Lint_int.src_pre hbk3' 1 rfl) (by simp) (by simp [Value.oneCell']) rfl
 refine value_ (v := .int .i64 1) (w1 := w4) (by rfl) rfl (by first | (go_simp; done) | (go_simp; rw [hrw4, hrw4])) ?_
 refine hK.out _ _ trivial (fun hHeld => ?_)
 clear hK K
 refine norm_ (a' := ?_) ?_ ?_
 rotate_left
 ·show Act.put _ (some 45) _ = _
  simp only [Act.put, xi, xj, xk, i64_w, i32_w]
  rfl
 refine pure_ (i := 8) (N := some 46) (v := ?_) (a' := ?_) #[Y,Y,Y,Y,Y,Y,Y,Y,Y,Z] rfl rfl (by kernel_rfl) (fun _ _ _ h => h) (Or.inl ⟨by rfl, ?_⟩) ?_ ?_
 rotate_left
 ·intro w'
  go_simp
  with_reducible rfl
 rotate_left
 ·simp only [Act.put, xi, xj, xk, i64_w, i32_w, slices_Repeat_Lint_int.wr2, slices_Repeat_Lint_int.wr4]
  rfl
 refine pure_ (i := 9) (N := some 8) (v := ?_) (a' := ?_) #[Y,Y,Y,Y,Y,Y,Y,Y,Y,Y] rfl rfl (by kernel_rfl) (fun _ _ _ h => h) (Or.inl ⟨by rfl, ?_⟩) ?_ ?_
 rotate_left
 ·intro w'
  go_simp
  with_reducible rfl
 rotate_left
 ·simp only [Act.put, xi, xj, xk, i64_w, i32_w]
  rfl
 refine done_ (by kernel_rfl) ?_
 (try simp only [Exit.inBlock, Exit.then, if_true, if_false])
 rw [rounds_succ]
 go_wp2
 refine start_ (n := 10) (S := fun _ => True) (ds := []) #[Z,Z,Z,Z,Z,Z,Z,Z,Z,Z] (by kernel_rfl) rfl rfl trivial (fun hHeld => ?_)
 have hbkw4' := xr hbkw4
 generalize hwqw4 : w4.drew = w4q at hbkw4' ⊢
 have HQw4 := xm hwqw4
 clear hwqw4
 refine pure_ (i := 0) (N := some 38) (v := ?_) (a' := ?_) #[Y,Z,Z,Z,Z,Z,Z,Z,Z,Z] rfl rfl (by kernel_rfl) (fun _ _ _ h => h) (Or.inl ⟨by rfl, ?_⟩) ?_ ?_
 rotate_left
 ·intro w'
  go_simp
  with_reducible rfl
 rotate_left
 ·simp only [Act.put, xi, xj, xk, i64_w, i32_w]
  rfl
 refine pure_ (i := 1) (N := some 39) (v := ?_) (a' := ?_) #[Y,Y,Z,Z,Z,Z,Z,Z,Z,Z] rfl rfl (by kernel_rfl) (fun _ _ _ h => h) (Or.inl ⟨by rfl, ?_⟩) ?_ ?_
 rotate_left
 ·intro w'
  go_simp
  with_reducible rfl
 rotate_left
 ·simp only [Act.put, xi, xj, xk, i64_w, i32_w]
  rfl
 refine pure_ (i := 2) (N := some 40) (v := ?_) (a' := ?_) #[Y,Y,Y,Z,Z,Z,Z,Z,Z,Z] rfl rfl (by kernel_rfl) (fun _ _ _ h => h) (Or.inl ⟨by rfl, ?_⟩) ?_ ?_
 rotate_left
 ·intro w'
  go_simp
  with_reducible rfl
 rotate_left
 ·simp only [Act.put, xi, xj, xk, i64_w, i32_w]
  rfl
 refine pure_ (i := 3) (N := some 41) (v := ?_) (a' := ?_) #[Y,Y,Y,Y,Z,Z,Z,Z,Z,Z] rfl rfl (by kernel_rfl) (fun _ _ _ h => h) (Or.inl ⟨by rfl, ?_⟩) ?_ ?_
 rotate_left
 ·intro w'
  go_simp
  with_reducible rfl
 rotate_left
 ·simp only [Act.put, xi, xj, xk, i64_w, i32_w]
  rfl
 refine pure_ (i := 4) (N := some 42) (v := ?_) (a' := ?_) #[Y,Y,Y,Y,Y,Z,Z,Z,Z,Z] rfl rfl (by kernel_rfl) (fun _ _ _ h => h) (Or.inl ⟨by rfl, ?_⟩) ?_ ?_
 rotate_left
 ·intro w'
  go_simp
  with_reducible rfl
 rotate_left
 ·simp only [Act.put, xi, xj, xk, i64_w, i32_w]
  rfl
 refine pure_ (i := 5) (N := some 43) (v := ?_) (a' := ?_) #[Y,Y,Y,Y,Y,Y,Z,Z,Z,Z] rfl rfl (by kernel_rfl) (fun _ _ _ h => h) (Or.inl ⟨by rfl, ?_⟩) ?_ ?_
 rotate_left
 ·intro w'
  go_simp
  with_reducible rfl
 rotate_left
 ·simp only [Act.put, xi, xj, xk, i64_w, i32_w]
  rfl
 refine pure_ (i := 6) (N := some 44) (v := ?_) (a' := ?_) #[Y,Y,Y,Y,Y,Y,Y,Z,Z,Z] rfl rfl (by kernel_rfl) (fun _ _ _ h => h) (Or.inl ⟨by rfl, ?_⟩) ?_ ?_
 rotate_left
 ·intro w'
  go_simp
  with_reducible rfl
 rotate_left
 ·simp only [Act.put, xi, xj, xk, i64_w, i32_w]
  rfl
 refine one_ (i := 7) (N := some 45) #[Y,Y,Y,Y,Y,Y,Y,Y,Z,Z] rfl rfl (by kernel_rfl) (by decide) (fun K hK => ?_)
 obtain ⟨w5, hrw5, hbkw5, hgw5⟩ := slices_Repeat_Lint_int.cpy w4q g 2 2 2 ⟨g, 0, none⟩ 2 4 _ [.int .i64 x, .int .i64 x] [.int .i64 x, .int .i64 x, .int .i64 x, .int .i64 x] hbkw4' rfl (slices_Repeat_Lint_int.src_pre hbkw4' 2 rfl) (by simp) (by simp [Value.oneCell']) rfl
 refine value_ (v := .int .i64 2) (w1 := w5) (by rfl) rfl (by first | (go_simp; done) | (go_simp; rw [hrw5, hrw5])) ?_
 refine hK.out _ _ trivial (fun hHeld => ?_)
 clear hK K
 refine norm_ (a' := ?_) ?_ ?_
 rotate_left
 ·show Act.put _ (some 45) _ = _
  simp only [Act.put, xi, xj, xk, i64_w, i32_w]
  rfl
 refine pure_ (i := 8) (N := some 46) (v := ?_) (a' := ?_) #[Y,Y,Y,Y,Y,Y,Y,Y,Y,Z] rfl rfl (by kernel_rfl) (fun _ _ _ h => h) (Or.inl ⟨by rfl, ?_⟩) ?_ ?_
 rotate_left
 ·intro w'
  go_simp
  with_reducible rfl
 rotate_left
 ·simp only [Act.put, xi, xj, xk, i64_w, i32_w, slices_Repeat_Lint_int.wr2, slices_Repeat_Lint_int.wr4]
  rfl
 refine pure_ (i := 9) (N := some 8) (v := ?_) (a' := ?_) #[Y,Y,Y,Y,Y,Y,Y,Y,Y,Y] rfl rfl (by kernel_rfl) (fun _ _ _ h => h) (Or.inl ⟨by rfl, ?_⟩) ?_ ?_
 rotate_left
 ·intro w'
  go_simp
  with_reducible rfl
 rotate_left
 ·simp only [Act.put, xi, xj, xk, i64_w, i32_w]
  rfl
 refine done_ (by kernel_rfl) ?_
 (try simp only [Exit.inBlock, Exit.then, if_true, if_false])
 rw [rounds_succ]
 go_wp2
 go_ret
 refine ⟨.slice (some ⟨g, 0, none⟩) 4 4, rfl, ?_, ?_⟩
 ·refine Kd.R_of_own (xs := [x, x, x, x]) ⟨rfl, .inr ⟨g, 4, _, rfl, ?_, hbkw5, by simp, by decide, rfl, rfl⟩⟩ (fun _ _ => trivial)
  rw [HG.out]; exact hb.size
 ·have q3 : Below w.heap.size w w3 := (hb.trans (hb2.mono hb.size)).grown hg3 (Nat.le_trans hb.size hb2.size) (fun k hk => by cases hk; rw [HG.out]; exact hb.size)
  have q3' : Below w.heap.size w w3q := by rw [← HQw3.out]; exact below_drew q3
  have q4 : Below w.heap.size w w4 := q3'.grown hgw4 q3'.size (fun k hk => by cases hk; rw [HG.out]; exact hb.size)
  have q4' : Below w.heap.size w w4q := by rw [← HQw4.out]; exact below_drew q4
  exact q4'.grown hgw5 q4'.size (fun k hk => by cases hk; rw [HG.out]; exact hb.size)
theorem slices_Repeat_Lint_int.calls (A0 : Option Addr) (c0 : Nat) (l0 : List Int) (a1 : Int) (r : List Int) (w : World) (hr0 : Kd.C (Kd.int .i64) w A0 l0.length l0) (hc0 : l0.length ≤ c0) (h : slices_Repeat_Lint_int.f l0 a1 = some r) :
  Calls Try.prog 162 #[.slice A0 l0.length c0, .int .i64 a1] w fun e w' => ∃ v0_ : Value, e = .returned (v0_) ∧ Kd.R (Kd.int .i64) 3 w' w.heap.size (fun _ => True) v0_ r ∧ Below w.heap.size w w' := by
 have H : (if l0.length = 1 then (if a1 = 4 then some [rd l0 0, rd l0 0, rd l0 0, rd l0 0] else none) else none) = some r := h
 by_cases h1 : l0.length = 1
 ·rw [if_pos h1] at H
  by_cases h2 : a1 = 4
  ·rw [if_pos h2] at H
   subst h2
   obtain rfl := Option.some.inj H
   obtain ⟨ad, rfl, hx⟩ := Kd.at_int hr0 0 (by omega) (by omega)
   rw [h1]
   exact slices_Repeat_Lint_int.one (rd l0 0) ad c0 w (by simpa [Addr.add] using hx) (fun w2 => math_bits_Mul.calls 1 4 0 4 w2 (by decide +kernel))
  ·rw [if_neg h2] at H; cases H
 ·rw [if_neg h1] at H; cases H

/-! ### impl_sources: function 127 -/
def impl_sources.l0 : Nat → List Int → List (S151) → List (S111) → Int → Int → Option ((List (S151)) × List Int)
 | 0, _, _, _, _, _ => none
 | k + 1, x4, x5, x10, x11, x12 => if x12 < x11 then (if 0 ≤ x12 then (if x12 < (x10.length : Int) then (if ((rd_T111 x10 x12).f1) = 1 then (if 0 ≤ ((rd_T111 x10 x12).f2) then (if ((rd_T111 x10 x12).f2) < (x4.length : Int) then (if x5.length < 8796093022208 then (impl_sources.l0 k x4 (x5 ++ [(⟨x12, rd x4 ((rd_T111 x10 x12).f2)⟩ : S151)]) x10 x11 (wrap64 (x12 + 1))) else (none)) else (none)) else (none)) else (if 0 ≤ ((rd_T111 x10 x12).f2) then (if ((rd_T111 x10 x12).f2) < (x4.length : Int) then (impl_sources.l0 k (x4.set (((rd_T111 x10 x12).f2) : Int).toNat x12) x5 x10 x11 (wrap64 (x12 + 1))) else (none)) else (none))) else (none)) else (none)) else (some (x5, x4))
def impl_sources.f (k : Nat) (l0 : List (S111)) : Option ((List (S151)) × List Int) := (slices_Repeat_Lint_int.f (([(-1)] : List Int)) 4).bind fun t910 => (impl_sources.l0 k t910 ([] : List (S151)) l0 (l0.length : Int) 0)
theorem impl_sources.mono_l : ∀ k, (∀ y0 y1 y2 y3 y4, LeO (impl_sources.l0 k y0 y1 y2 y3 y4) (impl_sources.l0 (k + 1) y0 y1 y2 y3 y4))
 | 0 => fun _ _ _ _ _ r h => by simp [impl_sources.l0] at h
 | k + 1 => by
  have ih0 := impl_sources.mono_l k
  ·intro y0 y1 y2 y3 y4
   unfold impl_sources.l0
   repeat' first
   | (with_reducible exact ih0 _ _ _ _ _)
   | (with_reducible exact LeO.refl _)
   | (with_reducible exact LeO.none _)
   | (with_reducible refine LeO.ite ?_ ?_)
   | (with_reducible refine LeO.bind ?_ (fun _ => ?_))
   | exact ih0 _ _ _ _ _
   | exact LeO.none _
   | refine LeO.ite ?_ ?_
   | refine LeO.bind ?_ (fun _ => ?_)
theorem impl_sources.mono : ∀ a0 k, LeO (impl_sources.f k a0) (impl_sources.f (k + 1) a0) := by
 intro a0 k
 have ih0 := impl_sources.mono_l k
 unfold impl_sources.f
 repeat' first
   | (with_reducible exact ih0 _ _ _ _ _)
   | (with_reducible exact LeO.refl _)
   | (with_reducible exact LeO.none _)
   | (with_reducible refine LeO.ite ?_ ?_)
   | (with_reducible refine LeO.bind ?_ (fun _ => ?_))
   | exact ih0 _ _ _ _ _
   | exact LeO.none _
   | refine LeO.ite ?_ ?_
   | refine LeO.bind ?_ (fun _ => ?_)
set_option maxHeartbeats 8000000 in
set_option maxRecDepth 100000 in
theorem impl_sources.calls (k : Nat) (A0 : Option Addr) (c0 : Nat) (l0 : List (S111)) (r1 : List (S151)) (r2 : List Int) (w : World) (hr0 : Kd.C k111 w A0 l0.length l0) (hc0 : l0.length ≤ c0) (h : impl_sources.f k l0 = some (r1, r2)) :
  Calls Try.prog 127 #[.slice A0 l0.length c0] w fun e w' => ∃ v0_ v1_ : Value, e = .returned (.tuple #[v0_, v1_]) ∧ Kd.R k151 151 w' w.heap.size (fun _ => True) v0_ r1 ∧ Kd.R (Kd.int .i64) 3 w' w.heap.size (fun _ => True) v1_ r2 ∧ Below w.heap.size w w' := by
 have hu111 := Try.underlying111
 have hu151 := Try.underlying151
 have HR0 := xm hr0
 have HC0 := xm hc0
 clear hr0 hc0
 have HB := xm (Below.refl w.heap.size w)
 have H : ((slices_Repeat_Lint_int.f (([(-1)] : List Int)) 4).bind fun t910 => (impl_sources.l0 k t910 ([] : List (S151)) l0 (l0.length : Int) 0)) = some (r1, r2) := h
 clear h
 obtain ⟨y907, hy907⟩ : ∃ y_ : List Int, y_ = (([(-1)] : List Int)) := ⟨_, rfl⟩
 replace H : ((slices_Repeat_Lint_int.f y907 4).bind fun t910 => (impl_sources.l0 k t910 ([] : List (S151)) l0 (l0.length : Int) 0)) = some (r1, r2) := by first | (rw [hy907]; with_reducible exact H) | (have H2_ := (Option.bind_some _ _).symm.trans H; rw [hy907]; with_reducible exact H2_) | (have H2_ := (Option.bind_some _ _).symm.trans H; with_reducible exact H2_) | with_reducible exact H | (rw [hy907]; exact H) | exact H
 have Ny907 := xm hy907
 clear hy907
 replace H := Option.bind_eq_some_iff.mp H
 obtain ⟨t910, A20, H⟩ := H
 replace H : (impl_sources.l0 k t910 ([] : List (S151)) l0 (l0.length : Int) 0) = some (r1, r2) := H
 have A2 := xm A20
 clear A20
 have H' := xm H
 clear H
 go_enter Try.func127, Try.ntmps127
 go_wp2_with (first | ((with_reducible refine gate_dst (N := 8) rfl ?_); refine Kd.R_lit (Kd.int .i64) _ 3 ?hg (N := 8) ?hd (xs := ([(-1)] : List Int)) (inner := [.int .i64 (-1)]) (ok := fun _ => True) (okp := fun _ => True) ?hr ?hp (fun _ hk => hk) trivial (Below.refl _ _) (Nat.le_refl _) (by simp) ?_; (case hd => rfl); (case hg => rfl); (case hr => first | (go_simp; done) | (go_simp; rfl)); (case hp => exact (Reps.one (show Kd.M (Kd.int .i64) _ _ _ (-1) [.int .i64 (-1)] from rfl) (Reps.none _ _))); intro v908 w3 ho4 hb hg_ hnew_; clear hg_ hnew_; (first | rw [← Ny907.out] at ho4 | (simp only [Int.reduceToNat] at ho4; rw [← Ny907.out] at ho4)); have n0_ := xm (Kd.R_lower ho4 (xz (by repeat (first | (with_reducible first | exact HB.out | apply xa | apply xn | apply xd) | exact HB.out)))); have n1_ := xm (below_step (by repeat (first | (with_reducible first | exact HB.out | apply xa | apply xn | apply xd) | exact HB.out)) hb); clear HB; have HO909 := n0_; have HB := n1_; clear n0_ n1_; clear hb ho4; obtain ⟨Ao5, co5, eo5⟩ := Kd.R_slice HO909.out; subst eo5) | ((with_reducible refine gate_callee (f := 162) rfl ?_); refine goesL_ (some 9) rfl rfl Try.func162 (by kernel_rfl) rfl #[.slice Ao5 y907.length co5, .int .i64 4] rfl (by (try simp only [List.map_toArray, List.map_cons, List.map_nil]); first | done | rfl | (simp only [List.length_drop, List.length_take]; rfl)) ?_; (with_reducible refine (slices_Repeat_Lint_int.calls _ _ y907 4 t910 _ ?side1 ?side2 A2.out).mono ?_); (case side1 => repeat (first | exact (Kd.R_reads' HO909.out).2.2 | (with_reducible refine Kd.C_alloc ?_ _) | (with_reducible refine Kd.C_drewN ?_ _) | (with_reducible refine Kd.C_drew ?_))); (case side2 => exact (Kd.R_reads' HO909.out).2.1); rintro e w6 ⟨v911, rfl, ho0, hb⟩; refine ⟨_, rfl, ?_⟩; have n0_ := xm (Kd.R_elder' (by (with_reducible repeat (first | apply Kd.R_alloc | apply Kd.R_drewN | apply Kd.R_drew)); exact HO909.out) (Kd.R_base ho0) hb); have n1_ := xm (Kd.R_lower (Kd.R_new' ho0 (Kd.R_lt (by (with_reducible repeat (first | apply Kd.R_alloc | apply Kd.R_drewN | apply Kd.R_drew)); exact HO909.out))) (xz (by repeat (first | (with_reducible first | exact HB.out | apply xa | apply xn | apply xd) | exact HB.out)))); have n2_ := xm (below_step (by repeat (first | (with_reducible first | exact HB.out | apply xa | apply xn | apply xd) | exact HB.out)) hb); clear HO909; clear HB; have HO909 := n0_; have HO912 := n1_; have HB := n2_; clear n0_ n1_ n2_; (try clear hb); (try clear hb2); (try clear hk); (try clear hi); (try clear ho0)))
 go_loopg [5, 12] k (fun kq v5 v12 w' => ∃ (x4_1 : List Int) (x5_1 : List (S151)) (x12_1 : Int), v12 = .int .i64 x12_1 ∧ Aside0 (impl_sources.l0 kq x4_1 x5_1 l0 (l0.length : Int) x12_1 = some (r1, r2)) ∧ Aside0 (kq ≤ k) ∧ Aside0 (Kd.R (Kd.int .i64) 3 w' w.heap.size (fun _ => True) v911 x4_1) ∧ Aside0 (Kd.R k151 151 w' w.heap.size (fun _ => True) v5 x5_1) ∧ Aside0 (Below w.heap.size w w'))
 case atStart => exact ⟨(t910), (([] : List (S151))), (0), (by first | rfl | (simp; done) | (simp [*]; done)), H', ⟨Nat.le_refl _⟩, ⟨by (with_reducible repeat (first | apply Kd.R_alloc | apply Kd.R_drewN | apply Kd.R_drew)); exact Kd.R_mono HO912.out (fun _ hk => trivial)⟩, ⟨by first | exact Kd.R_nil _ _ _ _ _ | exact Kd.N_nil _ _ _ _ _ | exact Kd.V_nil _ _ _ _ _ | exact Kd.Q_nil _ _ _ _ _ | exact Kd.S_nil _ _ _ _ _⟩, ⟨by repeat (first | (with_reducible first | exact HB.out | apply xa | apply xn | apply xd) | exact HB.out)⟩⟩
 case round =>
  clear H'
  try clear c1
  try clear p2
  obtain ⟨x4_1, x5_1, x12_1, rfl, HA, HK1, HO_4, HO_5, HB⟩ := hrel
  cases gk with
  | zero => exact absurd HA.out (by simp [impl_sources.l0])
  | succ k1 =>
   have H := HA.out
   clear HA
   simp only [impl_sources.l0] at H
   by_cases c7 : x12_1 < (l0.length : Int)
   ·rw [if_pos c7] at H
    have c7b0 : decide (x12_1 < (l0.length : Int)) = true := decide_eq_true c7
    clear c7
    by_cases c8 : 0 ≤ x12_1
    ·rw [if_pos c8] at H
     have c8b0 : decide (0 ≤ x12_1) = true := decide_eq_true c8
     clear c8
     by_cases c9 : x12_1 < (l0.length : Int)
     ·rw [if_pos c9] at H
      have c9b0 : decide (x12_1 < (l0.length : Int)) = true := decide_eq_true c9
      clear c9
      by_cases c10 : ((rd_T111 l0 x12_1).f1) = 1
      ·rw [if_pos c10] at H
       have c10b0 : (((rd_T111 l0 x12_1).f1) == 1) = true := beq_iff_eq.mpr c10
       have c10b1 : (((rd_T111 l0 x12_1).f1) != 1) = false := bne_eq_false_iff_eq.mpr c10
       clear c10
       by_cases c11 : 0 ≤ ((rd_T111 l0 x12_1).f2)
       ·rw [if_pos c11] at H
        have c11b0 : decide (0 ≤ ((rd_T111 l0 x12_1).f2)) = true := decide_eq_true c11
        clear c11
        by_cases c12 : ((rd_T111 l0 x12_1).f2) < (x4_1.length : Int)
        ·rw [if_pos c12] at H
         have c12b0 : decide (((rd_T111 l0 x12_1).f2) < (x4_1.length : Int)) = true := decide_eq_true c12
         clear c12
         by_cases c13 : x5_1.length < 8796093022208
         ·rw [if_pos c13] at H
          have LMc13 := xm c13
          clear c13
          obtain ⟨y916, hy916⟩ : ∃ y_ : List (S151), y_ = (x5_1 ++ [(⟨x12_1, rd x4_1 ((rd_T111 l0 x12_1).f2)⟩ : S151)]) := ⟨_, rfl⟩
          replace H : (impl_sources.l0 k1 x4_1 y916 l0 (l0.length : Int) (wrap64 (x12_1 + 1))) = some (r1, r2) := by first | (rw [hy916]; with_reducible exact H) | (have H2_ := (Option.bind_some _ _).symm.trans H; rw [hy916]; with_reducible exact H2_) | (have H2_ := (Option.bind_some _ _).symm.trans H; with_reducible exact H2_) | with_reducible exact H | (rw [hy916]; exact H) | exact H
          have Ny916 := xm hy916
          clear hy916
          have H' := xm H
          clear H
          have p913 : 0 ≤ (x12_1 : Int) := of_decide_eq_true (by first | (with_reducible assumption) | assumption)
          have q913 : x12_1 < (l0.length : Int) := of_decide_eq_true (by first | (with_reducible assumption) | assumption)
          obtain ⟨ad913, e913, hx913_0, hx913_1, hx913_2⟩ := at_T111 HR0.out x12_1 p913 q913
          cases e913
          replace hx913_0 := (HB.out.cell (World.block_lt_of_cell? w _ hx913_0)).trans hx913_0
          replace hx913_1 := (HB.out.cell (World.block_lt_of_cell? w _ hx913_1)).trans hx913_1
          replace hx913_2 := (HB.out.cell (World.block_lt_of_cell? w _ hx913_2)).trans hx913_2
          replace p913 := eq_true p913
          replace q913 := eq_true q913
          go_wp2_with (first | ((with_reducible refine gate_dst (N := 7) rfl ?_); refine box_event ?hg (N := 7) ?hd (cs := #[.int .i64 0, .int .i64 0, .int .i64 0]) (t := 111) ?hr ?_; (case hd => rfl); (case hg => rfl); (case hr => first | (go_simp; done) | (go_simp; rfl)); intro gb914 hg w14 hbox hb; have n0_ := xm (Kd.R_below (by (with_reducible repeat (first | apply Kd.R_alloc | apply Kd.R_drewN | apply Kd.R_drew)); exact HO_4.out) hb); have n1_ := xm (Kd.R_below (by (with_reducible repeat (first | apply Kd.R_alloc | apply Kd.R_drewN | apply Kd.R_drew)); exact HO_5.out) hb); have n2_ := xm (below_step (by repeat (first | (with_reducible first | exact HB.out | apply xa | apply xn | apply xd) | exact HB.out)) hb); have n3_ := xm (hbox); have n4_ := xm ((by rw [hg]; exact (xz (by repeat (first | (with_reducible first | exact HB.out | apply xa | apply xn | apply xd) | exact HB.out))) : w.heap.size ≤ gb914)); have n5_ := xm ((by rw [hg]; exact (xz (by repeat (first | (with_reducible first | exact HB.out | apply xa | apply xn | apply xd) | exact HB.out))) : w.heap.size ≤ gb914)); clear HO_4; clear HO_5; clear HB; have HO_4 := n0_; have HO_5 := n1_; have HB := n2_; have BK914 := n3_; have GW914 := n4_; have GE914 := n5_; clear n0_ n1_ n2_ n3_ n4_ n5_; clear hb hbox hg; have hcz15_0 : w14.cell? ⟨gb914, 0, none⟩ = some (.int .i64 0) := (xc BK914.out 0).trans rfl; have hcz15_1 : w14.cell? ⟨gb914, 1, none⟩ = some (.int .i64 0) := (xc BK914.out 1).trans rfl; have hcz15_2 : w14.cell? ⟨gb914, 2, none⟩ = some (.int .i64 0) := (xc BK914.out 2).trans rfl; have hfz15_0 := xf BK914.out 0; have hfz15_1 := xf BK914.out 1; have hfz15_2 := xf BK914.out 2; obtain ⟨Ao16, co16, eo16⟩ := Kd.R_slice HO_4.out; subst eo16; have p915 : 0 ≤ (((rd_T111 l0 x12_1).f2) : Int) := of_decide_eq_true (by first | (with_reducible assumption) | assumption); have q915 : ((rd_T111 l0 x12_1).f2) < (x4_1.length : Int) := of_decide_eq_true (by first | (with_reducible assumption) | assumption); obtain ⟨ad915, e915, hx915_0⟩ := Kd.at_int (Kd.R_reads' HO_4.out).2.2 ((rd_T111 l0 x12_1).f2) p915 q915; cases e915; have hn915_0 : ad915.block ≠ gb914 := Kd.own_blk (Kd.R_ne HO_4.out BK914.out (by decide)); have hn915_1 : ad915.block ≠ gb914 := Kd.own_blk (Kd.R_ne HO_4.out BK914.out (by decide)); have hn915_2 : ad915.block ≠ gb914 := Kd.own_blk (Kd.R_ne HO_4.out BK914.out (by decide)); replace hx915_0 := (cell_far (p := ⟨gb914, 0, none⟩) (by first | (rw [add_block]; exact hn915_0) | (show (Addr.add _ _).block ≠ _; rw [add_block]; exact hn915_0) | exact hn915_0) (.int .i64 ((rd_T111 l0 x12_1).f0))).trans hx915_0; replace hx915_0 := (cell_far (p := ⟨gb914, 1, none⟩) (by first | (rw [add_block]; exact hn915_1) | (show (Addr.add _ _).block ≠ _; rw [add_block]; exact hn915_1) | exact hn915_1) (.int .i64 ((rd_T111 l0 x12_1).f1))).trans hx915_0; replace hx915_0 := (cell_far (p := ⟨gb914, 2, none⟩) (by first | (rw [add_block]; exact hn915_2) | (show (Addr.add _ _).block ≠ _; rw [add_block]; exact hn915_2) | exact hn915_2) (.int .i64 ((rd_T111 l0 x12_1).f2))).trans hx915_0; clear hn915_0; clear hn915_1; clear hn915_2; replace p915 := eq_true p915; replace q915 := eq_true q915) | ((with_reducible refine gate_builtin (b := .append) (xs := #[.tmp 20, .tmp 28]) rfl ?_); at_builtin; refine Kd.R_append k151 (w0 := w) w.heap.size rfl (.tmp 20) (.tmp 28) 91 151 (.agg #[(.int .i64 0), (.int .i64 0)]) 16 rfl Try.underlying91 info151 rfl (by decide) (by omega) u5 x5_1 (⟨x12_1, rd x4_1 ((rd_T111 l0 x12_1).f2)⟩ : S151) [.int .i64 x12_1, .int .i64 (rd x4_1 ((rd_T111 l0 x12_1).f2))] (fun _ => True) (fun _ => False) rfl (by first | (go_simp; done) | (go_simp; rfl)) ?aP (fun _ hk => hk.elim) ?aF ?aO ?aB ?aS ?aL ?_; (case aP => exact k151_mkM _ _ _ (⟨x12_1, rd x4_1 ((rd_T111 l0 x12_1).f2)⟩ : S151)); (case aB => exact (by repeat (first | (with_reducible first | exact HB.out | apply xa | apply xn | apply xd | refine xt ?_ GE914.out) | exact HB.out))); (case aF => exact (fun _ _ => trivial)); (case aO => exact (by (with_reducible repeat (first | apply Kd.R_alloc | apply Kd.R_drewN | apply Kd.R_drew)); exact Kd.R_mono (Kd.R_far (p := ⟨gb914, 2, none⟩) (Kd.R_far (p := ⟨gb914, 1, none⟩) (Kd.R_far (p := ⟨gb914, 0, none⟩) (Kd.R_types HO_5.out BK914.out (by decide)) (fun _ hk => hk.2) (.int .i64 ((rd_T111 l0 x12_1).f0))) (fun _ hk => hk.2) (.int .i64 ((rd_T111 l0 x12_1).f1))) (fun _ hk => hk.2) (.int .i64 ((rd_T111 l0 x12_1).f2))) (fun _ hk => trivial))); (case aS => exact (xz (by repeat (first | (with_reducible first | exact HB.out | apply xa | apply xn | apply xd | refine xt ?_ GE914.out) | exact HB.out)))); (case aL => have := LMc13.out; omega); intro v917 w17 ho hb hg hat; rw [← Ny916.out] at ho; have n0_ := xm (Kd.R_over' (by (with_reducible repeat (first | apply Kd.R_alloc | apply Kd.R_drewN | apply Kd.R_drew)); exact (Kd.R_mono (Kd.R_far (p := ⟨gb914, 2, none⟩) (Kd.R_far (p := ⟨gb914, 1, none⟩) (Kd.R_far (p := ⟨gb914, 0, none⟩) (Kd.R_types HO_4.out BK914.out (by decide)) (fun _ hk => hk.2) (.int .i64 ((rd_T111 l0 x12_1).f0))) (fun _ hk => hk.2) (.int .i64 ((rd_T111 l0 x12_1).f1))) (fun _ hk => hk.2) (.int .i64 ((rd_T111 l0 x12_1).f2))) (fun _ h_ => h_.1))) (Kd.R_typed (by (with_reducible repeat (first | apply Kd.R_alloc | apply Kd.R_drewN | apply Kd.R_drew)); exact (Kd.R_mono (Kd.R_far (p := ⟨gb914, 2, none⟩) (Kd.R_far (p := ⟨gb914, 1, none⟩) (Kd.R_far (p := ⟨gb914, 0, none⟩) (Kd.R_types HO_5.out BK914.out (by decide)) (fun _ hk => hk.2) (.int .i64 ((rd_T111 l0 x12_1).f0))) (fun _ hk => hk.2) (.int .i64 ((rd_T111 l0 x12_1).f1))) (fun _ hk => hk.2) (.int .i64 ((rd_T111 l0 x12_1).f2))) (fun _ h_ => h_.1)))) (by decide) hg); have n1_ := xm (blk_grown (g := gb914) (o := .cells #[.int .i64 ((rd_T111 l0 x12_1).f0), .int .i64 ((rd_T111 l0 x12_1).f1), .int .i64 ((rd_T111 l0 x12_1).f2)] 111 (0, 0)) (by (with_reducible repeat (first | refine xq ?_ _ | refine xr ?_ | refine xo ?_ _)); refine blk_put (cs := #[.int .i64 ((rd_T111 l0 x12_1).f0), .int .i64 ((rd_T111 l0 x12_1).f1), .int .i64 0]) ?_ 2 _ rfl; (with_reducible repeat (first | refine xq ?_ _ | refine xr ?_ | refine xo ?_ _)); refine blk_put (cs := #[.int .i64 ((rd_T111 l0 x12_1).f0), .int .i64 0, .int .i64 0]) ?_ 1 _ rfl; (with_reducible repeat (first | refine xq ?_ _ | refine xr ?_ | refine xo ?_ _)); refine blk_put (cs := #[.int .i64 0, .int .i64 0, .int .i64 0]) ?_ 0 _ rfl; (with_reducible repeat (first | refine xq ?_ _ | refine xr ?_ | refine xo ?_ _)); exact BK914.out) hg (Kd.R_ne HO_5.out BK914.out (by decide))); have n2_ := xm (hb); have n3_ := xm (ho); clear HO_4; clear BK914; clear HB; clear HO_5; have HO_4 := n0_; have BK914 := n1_; have HB := n2_; have HO918 := n3_; clear n0_ n1_ n2_ n3_; clear ho hb hg hat))
          go_roundg k1
          case measure => have := HK1.out; omega
          case rel => exact ⟨(x4_1), (y916), (wrap64 (x12_1 + 1)), (by first | rfl | (simp; done) | (simp [*]; done)), H', ⟨by have := HK1.out; omega⟩, ⟨by (with_reducible repeat (first | apply Kd.R_alloc | apply Kd.R_drewN | apply Kd.R_drew)); exact HO_4.out⟩, ⟨by (with_reducible repeat (first | apply Kd.R_alloc | apply Kd.R_drewN | apply Kd.R_drew)); exact HO918.out⟩, ⟨by repeat (first | (with_reducible first | exact HB.out | apply xa | apply xn | apply xd | refine xt ?_ GE914.out) | exact HB.out)⟩⟩
         ·rw [if_neg c13] at H
          exact absurd H (by simp)
        ·rw [if_neg c12] at H
         exact absurd H (by simp)
       ·rw [if_neg c11] at H
        exact absurd H (by simp)
      ·rw [if_neg c10] at H
       have c10b0 : (((rd_T111 l0 x12_1).f1) == 1) = false := beq_eq_false_iff_ne.mpr c10
       have c10b1 : (((rd_T111 l0 x12_1).f1) != 1) = true := bne_iff_ne.mpr c10
       by_cases c18 : 0 ≤ ((rd_T111 l0 x12_1).f2)
       ·rw [if_pos c18] at H
        have c18b0 : decide (0 ≤ ((rd_T111 l0 x12_1).f2)) = true := decide_eq_true c18
        clear c18
        by_cases c19 : ((rd_T111 l0 x12_1).f2) < (x4_1.length : Int)
        ·rw [if_pos c19] at H
         have c19b0 : decide (((rd_T111 l0 x12_1).f2) < (x4_1.length : Int)) = true := decide_eq_true c19
         clear c19
         obtain ⟨y919, hy919⟩ : ∃ y_ : List Int, y_ = (x4_1.set (((rd_T111 l0 x12_1).f2) : Int).toNat x12_1) := ⟨_, rfl⟩
         replace H : (impl_sources.l0 k1 y919 x5_1 l0 (l0.length : Int) (wrap64 (x12_1 + 1))) = some (r1, r2) := by first | (rw [hy919]; with_reducible exact H) | (have H2_ := (Option.bind_some _ _).symm.trans H; rw [hy919]; with_reducible exact H2_) | (have H2_ := (Option.bind_some _ _).symm.trans H; with_reducible exact H2_) | with_reducible exact H | (rw [hy919]; exact H) | exact H
         have Ny919 := xm hy919
         clear hy919
         have H' := xm H
         clear H
         have p913 : 0 ≤ (x12_1 : Int) := of_decide_eq_true (by first | (with_reducible assumption) | assumption)
         have q913 : x12_1 < (l0.length : Int) := of_decide_eq_true (by first | (with_reducible assumption) | assumption)
         obtain ⟨ad913, e913, hx913_0, hx913_1, hx913_2⟩ := at_T111 HR0.out x12_1 p913 q913
         cases e913
         replace hx913_0 := (HB.out.cell (World.block_lt_of_cell? w _ hx913_0)).trans hx913_0
         replace hx913_1 := (HB.out.cell (World.block_lt_of_cell? w _ hx913_1)).trans hx913_1
         replace hx913_2 := (HB.out.cell (World.block_lt_of_cell? w _ hx913_2)).trans hx913_2
         replace p913 := eq_true p913
         replace q913 := eq_true q913
         go_wp2_with (first | ((with_reducible refine gate_dst (N := 7) rfl ?_); refine box_event ?hg (N := 7) ?hd (cs := #[.int .i64 0, .int .i64 0, .int .i64 0]) (t := 111) ?hr ?_; (case hd => rfl); (case hg => rfl); (case hr => first | (go_simp; done) | (go_simp; rfl)); intro gb914 hg w21 hbox hb; have n0_ := xm (Kd.R_below (by (with_reducible repeat (first | apply Kd.R_alloc | apply Kd.R_drewN | apply Kd.R_drew)); exact HO_4.out) hb); have n1_ := xm (Kd.R_below (by (with_reducible repeat (first | apply Kd.R_alloc | apply Kd.R_drewN | apply Kd.R_drew)); exact HO_5.out) hb); have n2_ := xm (below_step (by repeat (first | (with_reducible first | exact HB.out | apply xa | apply xn | apply xd) | exact HB.out)) hb); have n3_ := xm (hbox); have n4_ := xm ((by rw [hg]; exact (xz (by repeat (first | (with_reducible first | exact HB.out | apply xa | apply xn | apply xd) | exact HB.out))) : w.heap.size ≤ gb914)); have n5_ := xm ((by rw [hg]; exact (xz (by repeat (first | (with_reducible first | exact HB.out | apply xa | apply xn | apply xd) | exact HB.out))) : w.heap.size ≤ gb914)); clear HO_4; clear HO_5; clear HB; have HO_4 := n0_; have HO_5 := n1_; have HB := n2_; have BK914 := n3_; have GW914 := n4_; have GE914 := n5_; clear n0_ n1_ n2_ n3_ n4_ n5_; clear hb hbox hg; have hcz22_0 : w21.cell? ⟨gb914, 0, none⟩ = some (.int .i64 0) := (xc BK914.out 0).trans rfl; have hcz22_1 : w21.cell? ⟨gb914, 1, none⟩ = some (.int .i64 0) := (xc BK914.out 1).trans rfl; have hcz22_2 : w21.cell? ⟨gb914, 2, none⟩ = some (.int .i64 0) := (xc BK914.out 2).trans rfl; have hfz22_0 := xf BK914.out 0; have hfz22_1 := xf BK914.out 1; have hfz22_2 := xf BK914.out 2) | ((with_reducible refine gate_store (t := 111) (p := 7) rfl ?_); refine store_event (t := 111) (p := 7) (v := ?vo_w23) (w1 := (((w21.setCell ⟨gb914, 0, none⟩ (.int .i64 ((rd_T111 l0 x12_1).f0))).setCell ⟨gb914, 1, none⟩ (.int .i64 ((rd_T111 l0 x12_1).f1))).setCell ⟨gb914, 2, none⟩ (.int .i64 ((rd_T111 l0 x12_1).f2)))) ?hg ?ho ?hn ?hr ?_; (case ho => rfl); (case hg => rfl); (case hn => rfl); (case hr => first | (go_simp; done) | (go_simp; rfl)); intro w23 hw; have n0_ : Aside0 (Kd.R (Kd.int .i64) 3 w23 w.heap.size (fun _ => True) v911 x4_1) := ⟨(by rw [hw]; exact (by (with_reducible repeat (first | apply Kd.R_alloc | apply Kd.R_drewN | apply Kd.R_drew)); exact Kd.R_mono (Kd.R_far (p := ⟨gb914, 2, none⟩) (Kd.R_far (p := ⟨gb914, 1, none⟩) (Kd.R_far (p := ⟨gb914, 0, none⟩) (Kd.R_types HO_4.out BK914.out (by decide)) (fun _ hk => hk.2) (.int .i64 ((rd_T111 l0 x12_1).f0))) (fun _ hk => hk.2) (.int .i64 ((rd_T111 l0 x12_1).f1))) (fun _ hk => hk.2) (.int .i64 ((rd_T111 l0 x12_1).f2))) (fun _ hk => trivial)))⟩; have n1_ : Aside0 (Kd.R k151 151 w23 w.heap.size (fun _ => True) u5 x5_1) := ⟨(by rw [hw]; exact (by (with_reducible repeat (first | apply Kd.R_alloc | apply Kd.R_drewN | apply Kd.R_drew)); exact Kd.R_mono (Kd.R_far (p := ⟨gb914, 2, none⟩) (Kd.R_far (p := ⟨gb914, 1, none⟩) (Kd.R_far (p := ⟨gb914, 0, none⟩) (Kd.R_types HO_5.out BK914.out (by decide)) (fun _ hk => hk.2) (.int .i64 ((rd_T111 l0 x12_1).f0))) (fun _ hk => hk.2) (.int .i64 ((rd_T111 l0 x12_1).f1))) (fun _ hk => hk.2) (.int .i64 ((rd_T111 l0 x12_1).f2))) (fun _ hk => trivial)))⟩; have n2_ : Aside0 (w23.heap[gb914]? = some (.cells #[.int .i64 ((rd_T111 l0 x12_1).f0), .int .i64 ((rd_T111 l0 x12_1).f1), .int .i64 ((rd_T111 l0 x12_1).f2)] 111 (0, 0))) := ⟨(by rw [hw]; exact (by (with_reducible repeat (first | refine xq ?_ _ | refine xr ?_ | refine xo ?_ _)); refine blk_put (cs := #[.int .i64 ((rd_T111 l0 x12_1).f0), .int .i64 ((rd_T111 l0 x12_1).f1), .int .i64 0]) ?_ 2 _ rfl; (with_reducible repeat (first | refine xq ?_ _ | refine xr ?_ | refine xo ?_ _)); refine blk_put (cs := #[.int .i64 ((rd_T111 l0 x12_1).f0), .int .i64 0, .int .i64 0]) ?_ 1 _ rfl; (with_reducible repeat (first | refine xq ?_ _ | refine xr ?_ | refine xo ?_ _)); refine blk_put (cs := #[.int .i64 0, .int .i64 0, .int .i64 0]) ?_ 0 _ rfl; (with_reducible repeat (first | refine xq ?_ _ | refine xr ?_ | refine xo ?_ _)); exact BK914.out))⟩; have n3_ : Aside0 (Below w.heap.size w w23) := ⟨(by rw [hw]; exact (by repeat (first | (with_reducible first | exact HB.out | apply xa | apply xn | apply xd | refine xt ?_ GE914.out) | exact HB.out)))⟩; clear hw; clear HO_4; clear HO_5; clear BK914; clear HB; have HO_4 := n0_; have HO_5 := n1_; have BK914 := n2_; have HB := n3_; clear n0_ n1_ n2_ n3_; have hcz24_0 : w23.cell? ⟨gb914, 0, none⟩ = some (.int .i64 ((rd_T111 l0 x12_1).f0)) := (xc BK914.out 0).trans rfl; have hcz24_1 : w23.cell? ⟨gb914, 1, none⟩ = some (.int .i64 ((rd_T111 l0 x12_1).f1)) := (xc BK914.out 1).trans rfl; have hcz24_2 : w23.cell? ⟨gb914, 2, none⟩ = some (.int .i64 ((rd_T111 l0 x12_1).f2)) := (xc BK914.out 2).trans rfl; have hfz24_0 := xf BK914.out 0; have hfz24_1 := xf BK914.out 1; have hfz24_2 := xf BK914.out 2; have p20 : 0 ≤ (((rd_T111 l0 x12_1).f2) : Int) := of_decide_eq_true (by first | (with_reducible assumption) | assumption); have q20 : (((rd_T111 l0 x12_1).f2) : Int) < ((x4_1.length : Int) : Int) := of_decide_eq_true (by first | (with_reducible assumption) | assumption); obtain ⟨go20, co20, eo20, gb20, gl20, cl20, HG20⟩ := Kd.R_form HO_4.out (by omega); (first | cases eo20 | (injection eo20 with ea_ en_ ec_; (first | subst ea_ | (injection ea_ with ea_; subst ea_)); subst ec_; clear en_)); have GB20 := xm gb20; have GG20 := xm HG20; clear gb20 gl20 HG20; obtain ⟨hx20_0, hf20_0⟩ := Kd.R_celln 0 HO_4.out (((rd_T111 l0 x12_1).f2) : Int) p20 q20; replace p20 := eq_true p20; replace q20 := eq_true q20; obtain ⟨hy25_, hz25_⟩ := Kd.R_celln 0 HO_4.out (((rd_T111 l0 x12_1).f2) : Int) (of_decide_eq_true (by first | (with_reducible assumption) | assumption)) (of_decide_eq_true (by first | (with_reducible assumption) | assumption)); have HP25 := Kd.R_putg HO_4.out (((rd_T111 l0 x12_1).f2) : Int) x12_1) | ((with_reducible refine gate_store (t := 3) (p := 34) rfl ?_); refine store_event (t := 3) (p := 34) (v := ?vo_w26) (w1 := (w23.setCell ⟨go20, (((rd_T111 l0 x12_1).f2) : Int).toNat, none⟩ (.int .i64 x12_1))) ?hg ?ho ?hn ?hr ?_; (case ho => rfl); (case hg => rfl); (case hn => rfl); (case hr => first | (go_simp; done) | (go_simp; rfl)); intro w26 hw; have hg : w23.grownBy w26 (some go20) := (by rw [hw]; exact HP25.2); have hp_ : Kd.R (Kd.int .i64) 3 w26 w.heap.size (fun _ => True) (.slice (some ⟨go20, 0, none⟩) x4_1.length co20) y919 := (by rw [hw, Ny919.out]; exact HP25.1); clear HP25; have n0_ := xm (hp_); have n1_ := xm (Kd.R_over' (v := (.slice (some ⟨go20, 0, none⟩) x4_1.length co20)) (by (with_reducible repeat (first | apply Kd.R_alloc | apply Kd.R_drewN | apply Kd.R_drew)); exact HO_5.out) (Kd.R_typed HO_4.out) (by decide) hg); have n2_ := xm (blk_grown (g := gb914) (o := .cells #[.int .i64 ((rd_T111 l0 x12_1).f0), .int .i64 ((rd_T111 l0 x12_1).f1), .int .i64 ((rd_T111 l0 x12_1).f2)] 111 (0, 0)) (by (with_reducible repeat (first | refine xq ?_ _ | refine xr ?_ | refine xo ?_ _)); exact BK914.out) hg (Kd.R_ne HO_4.out BK914.out (by decide))); have n3_ := xm ((by rw [hw]; exact xt (HB.out) GB20.out : Below w.heap.size w w26)); clear HO_4; clear HO_5; clear BK914; clear HB; have HO_4 := n0_; have HO_5 := n1_; have BK914 := n2_; have HB := n3_; clear n0_ n1_ n2_ n3_; clear hg hw hp_))
         go_roundg k1
         case measure => have := HK1.out; omega
         case rel => exact ⟨(y919), (x5_1), (wrap64 (x12_1 + 1)), (by first | rfl | (simp; done) | (simp [*]; done)), H', ⟨by have := HK1.out; omega⟩, ⟨by (with_reducible repeat (first | apply Kd.R_alloc | apply Kd.R_drewN | apply Kd.R_drew)); exact HO_4.out⟩, ⟨by (with_reducible repeat (first | apply Kd.R_alloc | apply Kd.R_drewN | apply Kd.R_drew)); exact HO_5.out⟩, ⟨by repeat (first | (with_reducible first | exact HB.out | apply xa | apply xn | apply xd | refine xt ?_ GE914.out) | exact HB.out)⟩⟩
        ·rw [if_neg c19] at H
         exact absurd H (by simp)
       ·rw [if_neg c18] at H
        exact absurd H (by simp)
     ·rw [if_neg c9] at H
      exact absurd H (by simp)
    ·rw [if_neg c8] at H
     exact absurd H (by simp)
   ·rw [if_neg c7] at H
    have c7b0 : decide (x12_1 < (l0.length : Int)) = false := decide_eq_false c7
    clear c7
    simp only [Option.some.injEq, Prod.mk.injEq] at H
    obtain ⟨rfl, rfl⟩ := H
    go_wp2
    go_ret2
    exact ⟨_, _, by first | rfl | (simp [errW_none, errW_some] <;> rfl) | (simp [*, errW_none, errW_some] <;> rfl), by (with_reducible repeat (first | apply Kd.R_alloc | apply Kd.R_drewN | apply Kd.R_drew)); exact HO_5.out, by (with_reducible repeat (first | apply Kd.R_alloc | apply Kd.R_drewN | apply Kd.R_drew)); exact HO_4.out, by repeat (first | (with_reducible first | exact HB.out | apply xa | apply xn | apply xd) | exact HB.out)⟩

end Go.Proofs.Ytpbpglbldgpckaa.G
