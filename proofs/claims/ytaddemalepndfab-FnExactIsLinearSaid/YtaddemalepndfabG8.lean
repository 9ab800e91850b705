/- Written by a program of this claim's own, out of the translation: functions of the program as plain functions, and that the calls answer as these. No conditions. -/
import Derived.Test.YtaddemalepndfabG0
import Derived.Test.YtaddemalepndfabG7
namespace Go.Proofs.Ytaddemalepndfab.G
open Go.RowKit Go.Proofs.Ytaddemalepndfab.X Go.Proofs.YtaddemalepndfabW.PrintWords Go.Proofs.YtaddemalepndfabW.PrintLast Go.Proofs.YtaddemalepndfabW.PrintMore
attribute [local go_sem] max2_int min2_int max_two min_two max_three min_three max_four min_four   -- for this text's walks alone
set_option linter.unusedVariables false
set_option linter.unusedSimpArgs false

/-! ### impl_GoodTests: function 41 -/
def impl_GoodTests.f (l0 : List (S73)) (a1 : Int) : Option (Bool) := if (l0.length : Int) ≤ 8 then ((impl_areAll_impl_Test__impl_GoodTests_1.f l0 a1).bind fun t227 => (some t227)) else (some false)
set_option maxHeartbeats 8000000 in
set_option maxRecDepth 100000 in
theorem impl_GoodTests.calls (A0 : Option Addr) (c0 : Nat) (l0 : List (S73)) (a1 : Int) (r : Bool) (w : World) (hr0 : Kd.C k73 w A0 l0.length l0) (hc0 : l0.length ≤ c0) (h : impl_GoodTests.f l0 a1 = some r) :
  Calls Try.prog 41 #[.slice A0 l0.length c0, .int .i64 a1] w fun e w' => e = .returned (.bool r) ∧ Below w.heap.size w w' := by
 have HR0 := xm hr0
 have HC0 := xm hc0
 clear hr0 hc0
 have HB := xm (Below.refl w.heap.size w)
 have H : (if (l0.length : Int) ≤ 8 then ((impl_areAll_impl_Test__impl_GoodTests_1.f l0 a1).bind fun t227 => (some t227)) else (some false)) = some r := h
 clear h
 by_cases c3 : (l0.length : Int) ≤ 8
 ·rw [if_pos c3] at H
  have c3b0 : decide ((l0.length : Int) ≤ 8) = true := decide_eq_true c3
  have c3b1 : decide (l0.length ≤ 8) = true := decide_eq_true (by omega)
  clear c3
  replace H := Option.bind_eq_some_iff.mp H
  obtain ⟨t227, A40, H⟩ := H
  replace H : (some t227) = some r := H
  have A4 := xm A40
  clear A40
  obtain rfl := Option.some.inj H
  go_enter Try.func41, Try.ntmps41
  go_wp2_with (first | ((with_reducible refine gate_dst (N := 3) rfl ?_); refine box_event ?hg (N := 3) ?hd (cs := #[.int .i64 a1]) (t := 3) ?hr ?_; (case hd => rfl); (case hg => rfl); (case hr => exact zB); intro gb226 hg w5 hbox hb; have n0_ := xm (below_step bB hb); have n1_ := xm (hbox); have n2_ := xm ((by rw [hg]; exact (xz bB) : w.heap.size ≤ gb226)); have n3_ := xm ((by rw [hg]; exact (xz bB) : w.heap.size ≤ gb226)); revert n0_ n1_ n2_ n3_; clear HB; intro HB BK226 GW226 GE226; clear hb hbox hg) | (go_at_call 50; (with_reducible refine (impl_areAll_impl_Test__impl_GoodTests_1.calls _ _ l0 gb226 a1 t227 _ ?side1 ?side2 ?side3 A4.out).mono ?_); (case side1 => exact cB (Kd.C_below HR0.out HB.out)); (case side2 => exact HC0.out); (case side3 => exact by (with_reducible repeat (first | refine xq ?_ _ | refine xr ?_ | refine xo ?_ _)); exact BK226.out); rintro e w6 ⟨rfl, hb⟩; have n0_ := xm (blk_below (kB BK226) hb); have n1_ := xm (below_step bG hb); revert n0_ n1_; clear BK226 HB; intro BK226 HB; (try clear hb); (try clear hb2); (try clear hk); (try clear hi)))
  go_ret
  exact ⟨by first | rfl | (simp [errW_none, errW_some] <;> rfl) | (simp [*, errW_none, errW_some] <;> rfl), by repeat (first | (with_reducible first | exact HB.out | apply xa | apply xn | apply xd | refine xt ?_ GE226.out) | exact HB.out)⟩
 ·rw [if_neg c3] at H
  have c3b0 : decide ((l0.length : Int) ≤ 8) = false := decide_eq_false c3
  have c3b1 : decide (l0.length ≤ 8) = false := decide_eq_false (by omega)
  clear c3
  obtain rfl := Option.some.inj H
  go_enter Try.func41, Try.ntmps41
  go_wp2_with (first | ((with_reducible refine gate_dst (N := 3) rfl ?_); refine box_event ?hg (N := 3) ?hd (cs := #[.int .i64 a1]) (t := 3) ?hr ?_; (case hd => rfl); (case hg => rfl); (case hr => exact zB); intro gb226 hg w7 hbox hb; have n0_ := xm (below_step bB hb); have n1_ := xm (hbox); have n2_ := xm ((by rw [hg]; exact (xz bB) : w.heap.size ≤ gb226)); have n3_ := xm ((by rw [hg]; exact (xz bB) : w.heap.size ≤ gb226)); revert n0_ n1_ n2_ n3_; clear HB; intro HB BK226 GW226 GE226; clear hb hbox hg))
  go_ret
  exact ⟨by first | rfl | (simp [errW_none, errW_some] <;> rfl) | (simp [*, errW_none, errW_some] <;> rfl), by repeat (first | (with_reducible first | exact HB.out | apply xa | apply xn | apply xd | refine xt ?_ GE226.out) | exact HB.out)⟩

/-! ### impl_areColumns_1: function 54 -/
def impl_areColumns_1.f (a0 : Int) (a1 : Int) : Option (Bool) := (impl_isPlace.f a0 a1).bind fun t229 => (some t229)
set_option maxHeartbeats 8000000 in
set_option maxRecDepth 100000 in
theorem impl_areColumns_1.calls (a0 : Int) (gc1 : Nat) (a1 : Int) (r : Bool) (w : World) (hbk1 : w.heap[gc1]? = some (.cells #[.int .i64 a1] 3 (0, 0))) (h : impl_areColumns_1.f a0 a1 = some r) :
  Calls Try.prog 54 #[.int .i64 a0, .pointer (some ⟨gc1, 0, none⟩)] w fun e w' => e = .returned (.bool r) ∧ Below w.heap.size w w' := by
 have BK228 := xm hbk1
 clear hbk1
 have HB := xm (Below.refl w.heap.size w)
 have H : ((impl_isPlace.f a0 a1).bind fun t229 => (some t229)) = some r := h
 clear h
 replace H := Option.bind_eq_some_iff.mp H
 obtain ⟨t229, A30, H⟩ := H
 replace H : (some t229) = some r := H
 have A3 := xm A30
 clear A30
 obtain rfl := Option.some.inj H
 obtain ⟨hcz4_0, hfz4_0⟩ := cz1 BK228.out
 go_enter Try.func54, Try.ntmps54
 go_wp2_with (first | ((with_reducible refine gate_callee (f := 52) rfl ?_); refine goesL_ (some 6) rfl rfl Try.func52 (by kernel_rfl) rfl #[.int .i64 a0, .int .i64 a1] rfl mB ?_; (with_reducible refine (impl_isPlace.calls a0 a1 t229 _ A3.out).mono ?_); rintro e w' ⟨rfl, ⟨nd, rfl⟩⟩; refine ⟨_, rfl, ?_⟩))
 go_ret
 exact ⟨by first | rfl | (simp [errW_none, errW_some] <;> rfl) | (simp [*, errW_none, errW_some] <;> rfl), by repeat (first | (with_reducible first | exact HB.out | apply xa | apply xn | apply xd | refine xt ?_ GE228.out) | exact HB.out)⟩

/-! ### impl_areAll_int__impl_areColumns_1: function 100001 -/
theorem enters54 : ∀ args w, (callFunc 54 args).run Try.prog w = .ok (.enter 54 args) w := enters_of Try.func54 (by kernel_rfl) rfl
def impl_areAll_int__impl_areColumns_1.f (l0 : List Int) (a1 : Int) : Option Bool := allO (fun x => impl_areColumns_1.f x a1) l0
set_option maxHeartbeats 8000000 in
set_option maxRecDepth 100000 in
theorem impl_areAll_int__impl_areColumns_1.calls (A0 : Option Addr) (c0 : Nat) (l0 : List Int) (gc1 : Nat) (a1 : Int) (r : Bool) (w : World) (hr0 : Kd.C (Kd.int .i64) w A0 l0.length l0) (hc0 : l0.length ≤ c0) (hbk1 : w.heap[gc1]? = some (.cells #[.int .i64 a1] 3 (0, 0))) (h : impl_areAll_int__impl_areColumns_1.f l0 a1 = some r) :
  Calls Try.prog 24 #[.slice A0 l0.length c0, .func (.func 54) #[] #[.pointer (some ⟨gc1, 0, none⟩)]] w fun e w' => e = .returned (.bool r) ∧ Below w.heap.size w w' := by
 refine impl_areAll_int.any 54 #[.pointer (some ⟨gc1, 0, none⟩)] enters54 (fun x => impl_areColumns_1.f x a1) A0 c0 l0 r w hr0 hc0 ?_ h
 intro W x cs b hW hK hb
 obtain rfl : cs = [.int .i64 x] := hK
 simp only [encOne, encAgg, List.headD_cons, app0, app1, app2, app3]
 refine (impl_areColumns_1.calls x gc1 a1 b W (blk_below hW hbk1) hb).mono ?_
 rintro e w' ⟨he, hd⟩
 exact ⟨he, hd⟩

/-! ### impl_areColumns: function 42 -/
def impl_areColumns.f (l0 : List Int) (a1 : Int) : Option (Bool) := if (l0.length : Int) ≤ 6 then ((impl_areAll_int__impl_areColumns_1.f l0 a1).bind fun t231 => (some t231)) else (some false)
set_option maxHeartbeats 8000000 in
set_option maxRecDepth 100000 in
theorem impl_areColumns.calls (A0 : Option Addr) (c0 : Nat) (l0 : List Int) (a1 : Int) (r : Bool) (w : World) (hr0 : Kd.C (Kd.int .i64) w A0 l0.length l0) (hc0 : l0.length ≤ c0) (h : impl_areColumns.f l0 a1 = some r) :
  Calls Try.prog 42 #[.slice A0 l0.length c0, .int .i64 a1] w fun e w' => e = .returned (.bool r) ∧ Below w.heap.size w w' := by
 have HR0 := xm hr0
 have HC0 := xm hc0
 clear hr0 hc0
 have HB := xm (Below.refl w.heap.size w)
 have H : (if (l0.length : Int) ≤ 6 then ((impl_areAll_int__impl_areColumns_1.f l0 a1).bind fun t231 => (some t231)) else (some false)) = some r := h
 clear h
 by_cases c3 : (l0.length : Int) ≤ 6
 ·rw [if_pos c3] at H
  have c3b0 : decide ((l0.length : Int) ≤ 6) = true := decide_eq_true c3
  have c3b1 : decide (l0.length ≤ 6) = true := decide_eq_true (by omega)
  clear c3
  replace H := Option.bind_eq_some_iff.mp H
  obtain ⟨t231, A40, H⟩ := H
  replace H : (some t231) = some r := H
  have A4 := xm A40
  clear A40
  obtain rfl := Option.some.inj H
  go_enter Try.func42, Try.ntmps42
  go_wp2_with (first | ((with_reducible refine gate_dst (N := 3) rfl ?_); refine box_event ?hg (N := 3) ?hd (cs := #[.int .i64 a1]) (t := 3) ?hr ?_; (case hd => rfl); (case hg => rfl); (case hr => exact zB); intro gb230 hg w5 hbox hb; have n0_ := xm (below_step bB hb); have n1_ := xm (hbox); have n2_ := xm ((by rw [hg]; exact (xz bB) : w.heap.size ≤ gb230)); have n3_ := xm ((by rw [hg]; exact (xz bB) : w.heap.size ≤ gb230)); revert n0_ n1_ n2_ n3_; clear HB; intro HB BK230 GW230 GE230; clear hb hbox hg) | (go_at_call 24; (with_reducible refine (impl_areAll_int__impl_areColumns_1.calls _ _ l0 gb230 a1 t231 _ ?side1 ?side2 ?side3 A4.out).mono ?_); (case side1 => exact cB (Kd.C_below HR0.out HB.out)); (case side2 => exact HC0.out); (case side3 => exact by (with_reducible repeat (first | refine xq ?_ _ | refine xr ?_ | refine xo ?_ _)); exact BK230.out); rintro e w6 ⟨rfl, hb⟩; have n0_ := xm (blk_below (kB BK230) hb); have n1_ := xm (below_step bG hb); revert n0_ n1_; clear BK230 HB; intro BK230 HB; (try clear hb); (try clear hb2); (try clear hk); (try clear hi)))
  go_ret
  exact ⟨by first | rfl | (simp [errW_none, errW_some] <;> rfl) | (simp [*, errW_none, errW_some] <;> rfl), by repeat (first | (with_reducible first | exact HB.out | apply xa | apply xn | apply xd | refine xt ?_ GE230.out) | exact HB.out)⟩
 ·rw [if_neg c3] at H
  have c3b0 : decide ((l0.length : Int) ≤ 6) = false := decide_eq_false c3
  have c3b1 : decide (l0.length ≤ 6) = false := decide_eq_false (by omega)
  clear c3
  obtain rfl := Option.some.inj H
  go_enter Try.func42, Try.ntmps42
  go_wp2_with (first | ((with_reducible refine gate_dst (N := 3) rfl ?_); refine box_event ?hg (N := 3) ?hd (cs := #[.int .i64 a1]) (t := 3) ?hr ?_; (case hd => rfl); (case hg => rfl); (case hr => exact zB); intro gb230 hg w7 hbox hb; have n0_ := xm (below_step bB hb); have n1_ := xm (hbox); have n2_ := xm ((by rw [hg]; exact (xz bB) : w.heap.size ≤ gb230)); have n3_ := xm ((by rw [hg]; exact (xz bB) : w.heap.size ≤ gb230)); revert n0_ n1_ n2_ n3_; clear HB; intro HB BK230 GW230 GE230; clear hb hbox hg))
  go_ret
  exact ⟨by first | rfl | (simp [errW_none, errW_some] <;> rfl) | (simp [*, errW_none, errW_some] <;> rfl), by repeat (first | (with_reducible first | exact HB.out | apply xa | apply xn | apply xd | refine xt ?_ GE230.out) | exact HB.out)⟩

/-! ### slices_IndexFunc_LLint_Lint: function 65 -/
set_option maxHeartbeats 8000000 in
set_option maxRecDepth 100000 in
theorem slices_IndexFunc_LLint_Lint.any (g : Nat) (lb : Array Value) (eg : ∀ args w, (callFunc g args).run Try.prog w = .ok (.enter g args) w) (pf : List Int → Option Bool)
  (A0 : Option Addr) (c0 : Nat) (l0 : List (List Int)) (r : Int) (w : World) (hr0 : Kd.C (Kd.slice 3 (Kd.int .i64)) w A0 l0.length l0) (hc0 : l0.length ≤ c0) (hp : PB Try.prog g lb (Kd.slice 3 (Kd.int .i64)) encOne pf w) (h : idxO pf l0 0 = some r) :
  Calls Try.prog 65 #[.slice A0 l0.length c0, .func (.func g) #[] lb] w fun e w' => e = .returned (.int .i64 r) ∧ Below w.heap.size w w' := by
 have HR0 := xm hr0
 have HP := xm hp
 have H' := xm h
 have HB := xm (Below.refl w.heap.size w)
 have hn : (l0.length : Int) ≤ 9223372036854775807 := by have := hr0.2.1; omega
 clear hr0 hp h hc0
 go_enter Try.func65, Try.ntmps65
 go_wp2
 go_loopg [5, 8] l0.length (fun kq v5 v8 w' => ∃ kk : Nat, v8 = .int .i64 kk ∧ kk ≤ l0.length ∧ l0.length - kk ≤ kq ∧ Aside0 (idxO pf (l0.drop kk) kk = some r) ∧ Aside0 (Below w.heap.size w w'))
 case atStart => exact ⟨0, rfl, Nat.zero_le _, by omega, H', HB⟩
 case round =>
  clear H' HB
  obtain ⟨kk, rfl, hkk, hg, HA, HB⟩ := hrel
  by_cases hlt : kk < l0.length
  ·have hlti : (kk : Int) < (l0.length : Int) := by omega
   obtain ⟨ad, A_0, c_0, e0, hx0, hl0, hi0⟩ := at_L2 HR0.out (kk : Int) (by omega) hlti
   cases e0
   replace hx0 := (HB.out.cell (World.block_lt_of_cell? w _ hx0)).trans hx0
   simp only [Int.toNat_natCast] at hx0
   have H := HA.out
   rw [List.drop_eq_getElem_cons hlt] at H
   unfold idxO at H
   have hrd : l0[kk] = rd_L2 l0 (kk : Int) := by simp [rd_L2, hlt]
   rw [hrd] at H
   obtain ⟨b, hb, H⟩ := Option.bind_eq_some_iff.mp H
   have hcall := HP.out _ (rd_L2 l0 (kk : Int)) [.slice A_0 (rd_L2 l0 (kk : Int)).length c_0] b HB.out ⟨A_0, c_0, rfl, hl0, Kd.C_below hi0 HB.out⟩ hb
   have HL := xm hcall
   have HI0 := xm hi0
   clear hi0 hl0
   clear hcall hb HA
   clear hrd
   simp only [encOne, encAgg, List.headD_cons] at HL
   cases b with
   | true =>
    obtain rfl := Option.some.inj H
    go_wp2_with (go_at_fn g; refine HL.out.mono ?_; rintro e w' ⟨rfl, hb'⟩)
    go_ret
    exact ⟨rfl, below_step HB.out hb'⟩
   | false =>
    have H1 := xm H
    clear H
    go_wp2_with (go_at_fn g; refine HL.out.mono ?_; rintro e w' ⟨rfl, hb'⟩)
    go_roundg (l0.length - (kk + 1))
    case measure => omega
    case rel => exact ⟨kk + 1, by go_num, by omega, by omega, ⟨by have := H1.out; simpa using this⟩, ⟨below_step HB.out hb'⟩⟩
  ·have : kk = l0.length := by omega
   subst this
   have H := HA.out
   rw [List.drop_length] at H
   unfold idxO at H
   obtain rfl := Option.some.inj H
   clear H HA
   go_wp2
   go_ret
   exact ⟨rfl, HB.out⟩

/-! ### slices_ContainsFunc_LLint_Lint: function 61 -/
set_option maxHeartbeats 8000000 in
set_option maxRecDepth 100000 in
theorem slices_ContainsFunc_LLint_Lint.any (g : Nat) (lb : Array Value) (eg : ∀ args w, (callFunc g args).run Try.prog w = .ok (.enter g args) w) (pf : List Int → Option Bool)
  (A0 : Option Addr) (c0 : Nat) (l0 : List (List Int)) (r : Bool) (w : World) (hr0 : Kd.C (Kd.slice 3 (Kd.int .i64)) w A0 l0.length l0) (hc0 : l0.length ≤ c0) (hp : PB Try.prog g lb (Kd.slice 3 (Kd.int .i64)) encOne pf w) (h : anyO pf l0 = some r) :
  Calls Try.prog 61 #[.slice A0 l0.length c0, .func (.func g) #[] lb] w fun e w' => e = .returned (.bool r) ∧ Below w.heap.size w w' := by
 rw [← idxO_any pf l0 0 (Int.le_refl 0)] at h
 obtain ⟨i, hi, hri⟩ := Option.map_eq_some_iff.mp h
 have HC := xm (slices_IndexFunc_LLint_Lint.any g lb eg pf A0 c0 l0 i w hr0 hc0 hp hi)
 have HR := xm hri
 clear hr0 hc0 hp h hi hri eg
 go_enter Try.func61, Try.ntmps61
 go_wp2_with (go_at_call 65; refine HC.out.mono ?_; rintro e w' ⟨rfl, hb⟩)
 go_ret
 exact ⟨by first | rfl | (rw [HR.out]; rfl) | rw [HR.out], hb⟩

/-! ### impl_areAll_Lint_1: function 62 -/
set_option maxHeartbeats 8000000 in
set_option maxRecDepth 100000 in
theorem impl_areAll_Lint_1.pb (g : Nat) (lb : Array Value) (eg : ∀ args w, (callFunc g args).run Try.prog w = .ok (.enter g args) w) (pf : List Int → Option Bool) (w w1 : World) (b0 : Nat) (hw : Below w.heap.size w w1)
  (hbk : w1.heap[b0]? = some (.cells #[.func (.func g) #[] lb] 81 (0, 0))) (hp : PB Try.prog g lb (Kd.slice 3 (Kd.int .i64)) encOne pf w) :
  PB Try.prog 62 #[.pointer (some ⟨b0, 0, none⟩)] (Kd.slice 3 (Kd.int .i64)) encOne (fun x => (pf x).map (!·)) w1 := by
 intro W x cs b hW hK hb
 obtain ⟨b1, hb1, rfl⟩ := Option.map_eq_some_iff.mp hb
 have hWw := below_step hw hW
 have hbW := blk_below hW hbk
 have HL := xm (hp W x cs b1 hWw hK hb1)
 obtain ⟨A_0, c_0, rfl, hl0, hi0⟩ := hK
 clear hl0 hi0
 have hcz : W.cell? ⟨b0, 0, none⟩ = some (.func (.func g) #[] lb) := (xc hbW 0).trans rfl
 clear hp hb hb1 hWw hbW hW hbk hw
 simp only [encOne, encAgg, List.headD_cons] at HL ⊢
 go_enter Try.func62, Try.ntmps62
 go_wp2_with (go_at_fn g; refine HL.out.mono ?_; rintro e w' ⟨rfl, hb'⟩)
 go_ret
 exact ⟨rfl, hb'⟩

/-! ### impl_areAll_Lint: function 55 -/
theorem enters62 : ∀ args w, (callFunc 62 args).run Try.prog w = .ok (.enter 62 args) w := enters_of Try.func62 (by kernel_rfl) rfl
set_option maxHeartbeats 8000000 in
set_option maxRecDepth 100000 in
theorem impl_areAll_Lint.any (g : Nat) (lb : Array Value) (eg : ∀ args w, (callFunc g args).run Try.prog w = .ok (.enter g args) w) (pf : List Int → Option Bool)
  (A0 : Option Addr) (c0 : Nat) (l0 : List (List Int)) (r : Bool) (w : World) (hr0 : Kd.C (Kd.slice 3 (Kd.int .i64)) w A0 l0.length l0) (hc0 : l0.length ≤ c0) (hp : PB Try.prog g lb (Kd.slice 3 (Kd.int .i64)) encOne pf w) (h : allO pf l0 = some r) :
  Calls Try.prog 55 #[.slice A0 l0.length c0, .func (.func g) #[] lb] w fun e w' => e = .returned (.bool r) ∧ Below w.heap.size w w' := by
 rw [← any_all pf l0] at h
 obtain ⟨b, hb, rfl⟩ := Option.map_eq_some_iff.mp h
 have hB1 : Below w.heap.size w (w.alloc (.cells #[.func (.func g) #[] lb] 81)) := xa (Below.refl _ _) _
 have HC := xm (slices_ContainsFunc_LLint_Lint.any 62 #[.pointer (some ⟨w.heap.size, 0, none⟩)] enters62 _ A0 c0 l0 b _ (Kd.C_below hr0 hB1) hc0 (impl_areAll_Lint_1.pb g lb eg pf w _ w.heap.size hB1 (heap_new w _ _) hp) hb)
 have HB1 := xm hB1
 clear hr0 hc0 hp h hb eg hB1
 go_enter Try.func55, Try.ntmps55
 go_wp2_with (go_at_call 61; refine HC.out.mono ?_; rintro e w' ⟨rfl, hb⟩)
 go_ret
 exact ⟨rfl, below_step HB1.out hb⟩

/-! ### impl_arePairs_1: function 56 -/
def impl_arePairs_1.f (l0 : List Int) (a1 : Int) (a2 : Int) : Option (Bool) := if (l0.length : Int) = 2 then (if 0 < (l0.length : Int) then ((impl_isPlace.f (rd l0 0) a1).bind fun t235 => (if t235 = true then (if 1 < (l0.length : Int) then ((impl_isPlace.f (rd l0 1) a2).bind fun t237 => (some t237)) else (none)) else (some false))) else (none)) else (some false)
set_option maxHeartbeats 8000000 in
set_option maxRecDepth 100000 in
theorem impl_arePairs_1.calls (A0 : Option Addr) (c0 : Nat) (l0 : List Int) (gc1 : Nat) (a1 : Int) (gc2 : Nat) (a2 : Int) (r : Bool) (w : World) (hr0 : Kd.C (Kd.int .i64) w A0 l0.length l0) (hc0 : l0.length ≤ c0) (hbk1 : w.heap[gc1]? = some (.cells #[.int .i64 a1] 3 (0, 0))) (hbk2 : w.heap[gc2]? = some (.cells #[.int .i64 a2] 3 (0, 0))) (h : impl_arePairs_1.f l0 a1 a2 = some r) :
  Calls Try.prog 56 #[.slice A0 l0.length c0, .pointer (some ⟨gc1, 0, none⟩), .pointer (some ⟨gc2, 0, none⟩)] w fun e w' => e = .returned (.bool r) ∧ Below w.heap.size w w' := by
 have HR0 := xm hr0
 have HC0 := xm hc0
 clear hr0 hc0
 have BK232 := xm hbk1
 clear hbk1
 have BK233 := xm hbk2
 clear hbk2
 have HB := xm (Below.refl w.heap.size w)
 have H : (if (l0.length : Int) = 2 then (if 0 < (l0.length : Int) then ((impl_isPlace.f (rd l0 0) a1).bind fun t235 => (if t235 = true then (if 1 < (l0.length : Int) then ((impl_isPlace.f (rd l0 1) a2).bind fun t237 => (some t237)) else (none)) else (some false))) else (none)) else (some false)) = some r := h
 clear h
 by_cases c4 : (l0.length : Int) = 2
 ·rw [if_pos c4] at H
  have c4b0 : ((l0.length : Int) == 2) = true := beq_iff_eq.mpr c4
  have c4b1 : ((l0.length : Int) != 2) = false := bne_eq_false_iff_eq.mpr c4
  clear c4
  by_cases c5 : 0 < (l0.length : Int)
  ·rw [if_pos c5] at H
   have c5b0 : decide (0 < (l0.length : Int)) = true := decide_eq_true c5
   have c5b1 : decide (0 < l0.length) = true := decide_eq_true (by omega)
   clear c5
   replace H := Option.bind_eq_some_iff.mp H
   obtain ⟨t235, A60, H⟩ := H
   replace H : (if t235 = true then (if 1 < (l0.length : Int) then ((impl_isPlace.f (rd l0 1) a2).bind fun t237 => (some t237)) else (none)) else (some false)) = some r := H
   have A6 := xm A60
   clear A60
   by_cases c7 : t235 = true
   ·subst c7
    have H1 : (if 1 < (l0.length : Int) then ((impl_isPlace.f (rd l0 1) a2).bind fun t237 => (some t237)) else (none)) = some r := by first | (with_reducible rfl) | (rw [if_pos rfl] at H; exact H)
    clear H
    have H := H1
    clear H1
    by_cases c8 : 1 < (l0.length : Int)
    ·rw [if_pos c8] at H
     have c8b0 : decide (1 < (l0.length : Int)) = true := decide_eq_true c8
     have c8b1 : decide (1 < l0.length) = true := decide_eq_true (by omega)
     clear c8
     replace H := Option.bind_eq_some_iff.mp H
     obtain ⟨t237, A90, H⟩ := H
     replace H : (some t237) = some r := H
     have A9 := xm A90
     clear A90
     obtain rfl := Option.some.inj H
     have p234 : 0 ≤ (0 : Int) := (by omega)
     have q234 : 0 < (l0.length : Int) := of_decide_eq_true aB
     obtain ⟨ad234, e234, hx234_0⟩ := Kd.at_int HR0.out 0 p234 q234
     cases e234
     have qi234 : (0 < l0.length) = True := eq_true (by omega)
     (try rw [show ((0 : Int)).toNat = 0 from rfl] at hx234_0)
     (try rw [Addr.add_zero'] at hx234_0)
     replace p234 := eq_true p234
     replace q234 := eq_true q234
     obtain ⟨hcz10_0, hfz10_0⟩ := cz1 BK232.out
     go_enter Try.func56, Try.ntmps56
     go_wp2_with (first | (go_at_call 52; (with_reducible refine (impl_isPlace.calls (rd l0 0) a1 true _ A6.out).mono ?_); rintro e w' ⟨rfl, ⟨nd, rfl⟩⟩; (try first | exact ⟨rfl, _, World.drewN_drewN _ _ _⟩ | exact ⟨rfl, _, Eq.trans (World.drewN_drewN _ _ _) (congrArg (World.drewN _) (Nat.add_assoc _ _ _))⟩); have p236 : 0 ≤ (1 : Int) := (by omega); have q236 : 1 < (l0.length : Int) := of_decide_eq_true aB; obtain ⟨ad236, e236, hx236_0⟩ := Kd.at_int HR0.out 1 p236 q236; obtain rfl : ad234 = ad236 := (by injection e236); (try simp only [show (1 : Int).toNat = 1 from rfl, Nat.reduceMul, Nat.reduceEqDiff, Go.Addr.add, ↓reduceIte] at hx236_0); have qi236 : (1 < l0.length) = True := eq_true (by omega); (try rw [show ((1 : Int)).toNat = 1 from rfl] at hx236_0); replace p236 := eq_true p236; replace q236 := eq_true q236; obtain ⟨hcz11_0, hfz11_0⟩ := cz1 BK233.out) | (go_at_call 52; (with_reducible refine (impl_isPlace.calls (rd l0 1) a2 t237 _ A9.out).mono ?_); rintro e w' ⟨rfl, ⟨nd, rfl⟩⟩; (try first | exact ⟨rfl, _, World.drewN_drewN _ _ _⟩ | exact ⟨rfl, _, Eq.trans (World.drewN_drewN _ _ _) (congrArg (World.drewN _) (Nat.add_assoc _ _ _))⟩)))
     repeat (go_quiet (first | (go_at_call 52; (with_reducible refine (impl_isPlace.calls (rd l0 0) a1 true _ A6.out).mono ?_); rintro e w' ⟨rfl, ⟨nd, rfl⟩⟩; (try first | exact ⟨rfl, _, World.drewN_drewN _ _ _⟩ | exact ⟨rfl, _, Eq.trans (World.drewN_drewN _ _ _) (congrArg (World.drewN _) (Nat.add_assoc _ _ _))⟩); have p236 : 0 ≤ (1 : Int) := (by omega); have q236 : 1 < (l0.length : Int) := of_decide_eq_true aB; obtain ⟨ad236, e236, hx236_0⟩ := Kd.at_int HR0.out 1 p236 q236; obtain rfl : ad234 = ad236 := (by injection e236); (try simp only [show (1 : Int).toNat = 1 from rfl, Nat.reduceMul, Nat.reduceEqDiff, Go.Addr.add, ↓reduceIte] at hx236_0); have qi236 : (1 < l0.length) = True := eq_true (by omega); (try rw [show ((1 : Int)).toNat = 1 from rfl] at hx236_0); replace p236 := eq_true p236; replace q236 := eq_true q236; obtain ⟨hcz11_0, hfz11_0⟩ := cz1 BK233.out) | (go_at_call 52; (with_reducible refine (impl_isPlace.calls (rd l0 1) a2 t237 _ A9.out).mono ?_); rintro e w' ⟨rfl, ⟨nd, rfl⟩⟩; (try first | exact ⟨rfl, _, World.drewN_drewN _ _ _⟩ | exact ⟨rfl, _, Eq.trans (World.drewN_drewN _ _ _) (congrArg (World.drewN _) (Nat.add_assoc _ _ _))⟩))); try go_wp2_with (first | (go_at_call 52; (with_reducible refine (impl_isPlace.calls (rd l0 0) a1 true _ A6.out).mono ?_); rintro e w' ⟨rfl, ⟨nd, rfl⟩⟩; (try first | exact ⟨rfl, _, World.drewN_drewN _ _ _⟩ | exact ⟨rfl, _, Eq.trans (World.drewN_drewN _ _ _) (congrArg (World.drewN _) (Nat.add_assoc _ _ _))⟩); have p236 : 0 ≤ (1 : Int) := (by omega); have q236 : 1 < (l0.length : Int) := of_decide_eq_true aB; obtain ⟨ad236, e236, hx236_0⟩ := Kd.at_int HR0.out 1 p236 q236; obtain rfl : ad234 = ad236 := (by injection e236); (try simp only [show (1 : Int).toNat = 1 from rfl, Nat.reduceMul, Nat.reduceEqDiff, Go.Addr.add, ↓reduceIte] at hx236_0); have qi236 : (1 < l0.length) = True := eq_true (by omega); (try rw [show ((1 : Int)).toNat = 1 from rfl] at hx236_0); replace p236 := eq_true p236; replace q236 := eq_true q236; obtain ⟨hcz11_0, hfz11_0⟩ := cz1 BK233.out) | (go_at_call 52; (with_reducible refine (impl_isPlace.calls (rd l0 1) a2 t237 _ A9.out).mono ?_); rintro e w' ⟨rfl, ⟨nd, rfl⟩⟩; (try first | exact ⟨rfl, _, World.drewN_drewN _ _ _⟩ | exact ⟨rfl, _, Eq.trans (World.drewN_drewN _ _ _) (congrArg (World.drewN _) (Nat.add_assoc _ _ _))⟩))))
     go_ret
     exact ⟨by first | rfl | (simp [errW_none, errW_some] <;> rfl) | (simp [*, errW_none, errW_some] <;> rfl), by repeat (first | (with_reducible first | exact HB.out | apply xa | apply xn | apply xd | refine xt ?_ GE232.out | refine xt ?_ GE233.out) | exact HB.out)⟩
    ·rw [if_neg c8] at H
     exact absurd H (by simp)
   ·replace c7 := Bool.eq_false_iff.mpr c7
    subst c7
    have H1 : (some false) = some r := by first | (with_reducible rfl) | (rw [if_neg (show ¬ (false = true) by decide)] at H; exact H)
    clear H
    have H := H1
    clear H1
    obtain rfl := Option.some.inj H
    have p234 : 0 ≤ (0 : Int) := (by omega)
    have q234 : 0 < (l0.length : Int) := of_decide_eq_true aB
    obtain ⟨ad234, e234, hx234_0⟩ := Kd.at_int HR0.out 0 p234 q234
    cases e234
    have qi234 : (0 < l0.length) = True := eq_true (by omega)
    (try rw [show ((0 : Int)).toNat = 0 from rfl] at hx234_0)
    (try rw [Addr.add_zero'] at hx234_0)
    replace p234 := eq_true p234
    replace q234 := eq_true q234
    obtain ⟨hcz12_0, hfz12_0⟩ := cz1 BK232.out
    go_enter Try.func56, Try.ntmps56
    go_wp2_with (first | (go_at_call 52; (with_reducible refine (impl_isPlace.calls (rd l0 0) a1 false _ A6.out).mono ?_); rintro e w' ⟨rfl, ⟨nd, rfl⟩⟩; (try first | exact ⟨rfl, _, World.drewN_drewN _ _ _⟩ | exact ⟨rfl, _, Eq.trans (World.drewN_drewN _ _ _) (congrArg (World.drewN _) (Nat.add_assoc _ _ _))⟩)))
    repeat (go_quiet (first | (go_at_call 52; (with_reducible refine (impl_isPlace.calls (rd l0 0) a1 false _ A6.out).mono ?_); rintro e w' ⟨rfl, ⟨nd, rfl⟩⟩; (try first | exact ⟨rfl, _, World.drewN_drewN _ _ _⟩ | exact ⟨rfl, _, Eq.trans (World.drewN_drewN _ _ _) (congrArg (World.drewN _) (Nat.add_assoc _ _ _))⟩))); try go_wp2_with (first | (go_at_call 52; (with_reducible refine (impl_isPlace.calls (rd l0 0) a1 false _ A6.out).mono ?_); rintro e w' ⟨rfl, ⟨nd, rfl⟩⟩; (try first | exact ⟨rfl, _, World.drewN_drewN _ _ _⟩ | exact ⟨rfl, _, Eq.trans (World.drewN_drewN _ _ _) (congrArg (World.drewN _) (Nat.add_assoc _ _ _))⟩))))
    go_ret
    exact ⟨by first | rfl | (simp [errW_none, errW_some] <;> rfl) | (simp [*, errW_none, errW_some] <;> rfl), by repeat (first | (with_reducible first | exact HB.out | apply xa | apply xn | apply xd | refine xt ?_ GE232.out | refine xt ?_ GE233.out) | exact HB.out)⟩
  ·rw [if_neg c5] at H
   exact absurd H (by simp)
 ·rw [if_neg c4] at H
  have c4b0 : ((l0.length : Int) == 2) = false := beq_eq_false_iff_ne.mpr c4
  have c4b1 : ((l0.length : Int) != 2) = true := bne_iff_ne.mpr c4
  obtain rfl := Option.some.inj H
  go_enter Try.func56, Try.ntmps56
  go_wp2
  repeat (go_quiet (fail); try go_wp2)
  go_ret
  exact ⟨by first | rfl | (simp [errW_none, errW_some] <;> rfl) | (simp [*, errW_none, errW_some] <;> rfl), by repeat (first | (with_reducible first | exact HB.out | apply xa | apply xn | apply xd | refine xt ?_ GE232.out | refine xt ?_ GE233.out) | exact HB.out)⟩

/-! ### impl_areAll_Lint__impl_arePairs_1: function 100002 -/
theorem enters56 : ∀ args w, (callFunc 56 args).run Try.prog w = .ok (.enter 56 args) w := enters_of Try.func56 (by kernel_rfl) rfl
def impl_areAll_Lint__impl_arePairs_1.f (l0 : List (List Int)) (a1 : Int) (a2 : Int) : Option Bool := allO (fun x => impl_arePairs_1.f x a1 a2) l0
set_option maxHeartbeats 8000000 in
set_option maxRecDepth 100000 in
theorem impl_areAll_Lint__impl_arePairs_1.calls (A0 : Option Addr) (c0 : Nat) (l0 : List (List Int)) (gc1 : Nat) (a1 : Int) (gc2 : Nat) (a2 : Int) (r : Bool) (w : World) (hr0 : Kd.C (Kd.slice 3 (Kd.int .i64)) w A0 l0.length l0) (hc0 : l0.length ≤ c0) (hbk1 : w.heap[gc1]? = some (.cells #[.int .i64 a1] 3 (0, 0))) (hbk2 : w.heap[gc2]? = some (.cells #[.int .i64 a2] 3 (0, 0))) (h : impl_areAll_Lint__impl_arePairs_1.f l0 a1 a2 = some r) :
  Calls Try.prog 55 #[.slice A0 l0.length c0, .func (.func 56) #[] #[.pointer (some ⟨gc1, 0, none⟩), .pointer (some ⟨gc2, 0, none⟩)]] w fun e w' => e = .returned (.bool r) ∧ Below w.heap.size w w' := by
 refine impl_areAll_Lint.any 56 #[.pointer (some ⟨gc1, 0, none⟩), .pointer (some ⟨gc2, 0, none⟩)] enters56 (fun x => impl_arePairs_1.f x a1 a2) A0 c0 l0 r w hr0 hc0 ?_ h
 intro W x cs b hW hK hb
 obtain ⟨A_0, c_0, rfl, hl0, hi0⟩ := hK
 simp only [encOne, encAgg, List.headD_cons, app0, app1, app2, app3]
 refine (impl_arePairs_1.calls _ _ x gc1 a1 gc2 a2 b W hi0 hl0 (blk_below hW hbk1) (blk_below hW hbk2) hb).mono ?_
 rintro e w' ⟨he, hd⟩
 exact ⟨he, hd⟩

/-! ### impl_arePairs: function 43 -/
def impl_arePairs.f (l0 : List (List Int)) (a1 : Int) (a2 : Int) : Option (Bool) := if (l0.length : Int) ≤ 6 then ((impl_areAll_Lint__impl_arePairs_1.f l0 a1 a2).bind fun t240 => (some t240)) else (some false)
set_option maxHeartbeats 8000000 in
set_option maxRecDepth 100000 in
theorem impl_arePairs.calls (A0 : Option Addr) (c0 : Nat) (l0 : List (List Int)) (a1 : Int) (a2 : Int) (r : Bool) (w : World) (hr0 : Kd.C (Kd.slice 3 (Kd.int .i64)) w A0 l0.length l0) (hc0 : l0.length ≤ c0) (h : impl_arePairs.f l0 a1 a2 = some r) :
  Calls Try.prog 43 #[.slice A0 l0.length c0, .int .i64 a1, .int .i64 a2] w fun e w' => e = .returned (.bool r) ∧ Below w.heap.size w w' := by
 have HR0 := xm hr0
 have HC0 := xm hc0
 clear hr0 hc0
 have HB := xm (Below.refl w.heap.size w)
 have H : (if (l0.length : Int) ≤ 6 then ((impl_areAll_Lint__impl_arePairs_1.f l0 a1 a2).bind fun t240 => (some t240)) else (some false)) = some r := h
 clear h
 by_cases c4 : (l0.length : Int) ≤ 6
 ·rw [if_pos c4] at H
  have c4b0 : decide ((l0.length : Int) ≤ 6) = true := decide_eq_true c4
  have c4b1 : decide (l0.length ≤ 6) = true := decide_eq_true (by omega)
  clear c4
  replace H := Option.bind_eq_some_iff.mp H
  obtain ⟨t240, A50, H⟩ := H
  replace H : (some t240) = some r := H
  have A5 := xm A50
  clear A50
  obtain rfl := Option.some.inj H
  go_enter Try.func43, Try.ntmps43
  go_wp2_with (first | ((with_reducible refine gate_dst (N := 4) rfl ?_); refine box_event ?hg (N := 4) ?hd (cs := #[.int .i64 a1]) (t := 3) ?hr ?_; (case hd => rfl); (case hg => rfl); (case hr => exact zB); intro gb238 hg w6 hbox hb; have n0_ := xm (below_step bB hb); have n1_ := xm (hbox); have n2_ := xm ((by rw [hg]; exact (xz bB) : w.heap.size ≤ gb238)); have n3_ := xm ((by rw [hg]; exact (xz bB) : w.heap.size ≤ gb238)); revert n0_ n1_ n2_ n3_; clear HB; intro HB BK238 GW238 GE238; clear hb hbox hg) | ((with_reducible refine gate_dst (N := 5) rfl ?_); refine box_event ?hg (N := 5) ?hd (cs := #[.int .i64 a2]) (t := 3) ?hr ?_; (case hd => rfl); (case hg => rfl); (case hr => exact zB); intro gb239 hg w7 hbox hb; have n0_ := xm (blk_below (kB BK238) hb); have n1_ := xm (below_step bG hb); have n2_ := xm (hbox); have n3_ := xm ((by rw [hg]; exact (xz bG) : w.heap.size ≤ gb239)); have n4_ := xm ((by rw [hg]; exact (xz bG) : w.heap.size ≤ gb239)); have n5_ := xm ((by rw [hg]; exact Nat.ne_of_lt (blk_lt (kB BK238)) : gb238 ≠ gb239)); have n6_ := xm ((by rw [hg]; exact Nat.ne_of_gt (blk_lt (kB BK238)) : gb239 ≠ gb238)); revert n0_ n1_ n2_ n3_ n4_ n5_ n6_; clear BK238 HB; intro BK238 HB BK239 GW239 GE239 NB238_239 NB239_238; clear hb hbox hg) | (go_at_call 55; (with_reducible refine (impl_areAll_Lint__impl_arePairs_1.calls _ _ l0 gb238 a1 gb239 a2 t240 _ ?side1 ?side2 ?side3 ?side4 A5.out).mono ?_); (case side1 => exact cB (Kd.C_below HR0.out HB.out)); (case side2 => exact HC0.out); (case side3 => exact by (with_reducible repeat (first | refine xq ?_ _ | refine xr ?_ | refine xo ?_ _)); exact BK238.out); (case side4 => exact by (with_reducible repeat (first | refine xq ?_ _ | refine xr ?_ | refine xo ?_ _)); exact BK239.out); rintro e w8 ⟨rfl, hb⟩; have n0_ := xm (blk_below (kB BK238) hb); have n1_ := xm (blk_below (kB BK239) hb); have n2_ := xm (below_step bG hb); revert n0_ n1_ n2_; clear BK238 BK239 HB; intro BK238 BK239 HB; (try clear hb); (try clear hb2); (try clear hk); (try clear hi)))
  go_ret
  exact ⟨by first | rfl | (simp [errW_none, errW_some] <;> rfl) | (simp [*, errW_none, errW_some] <;> rfl), by repeat (first | (with_reducible first | exact HB.out | apply xa | apply xn | apply xd | refine xt ?_ GE238.out | refine xt ?_ GE239.out) | exact HB.out)⟩
 ·rw [if_neg c4] at H
  have c4b0 : decide ((l0.length : Int) ≤ 6) = false := decide_eq_false c4
  have c4b1 : decide (l0.length ≤ 6) = false := decide_eq_false (by omega)
  clear c4
  obtain rfl := Option.some.inj H
  go_enter Try.func43, Try.ntmps43
  go_wp2_with (first | ((with_reducible refine gate_dst (N := 4) rfl ?_); refine box_event ?hg (N := 4) ?hd (cs := #[.int .i64 a1]) (t := 3) ?hr ?_; (case hd => rfl); (case hg => rfl); (case hr => exact zB); intro gb238 hg w9 hbox hb; have n0_ := xm (below_step bB hb); have n1_ := xm (hbox); have n2_ := xm ((by rw [hg]; exact (xz bB) : w.heap.size ≤ gb238)); have n3_ := xm ((by rw [hg]; exact (xz bB) : w.heap.size ≤ gb238)); revert n0_ n1_ n2_ n3_; clear HB; intro HB BK238 GW238 GE238; clear hb hbox hg) | ((with_reducible refine gate_dst (N := 5) rfl ?_); refine box_event ?hg (N := 5) ?hd (cs := #[.int .i64 a2]) (t := 3) ?hr ?_; (case hd => rfl); (case hg => rfl); (case hr => exact zB); intro gb239 hg w10 hbox hb; have n0_ := xm (blk_below (kB BK238) hb); have n1_ := xm (below_step bG hb); have n2_ := xm (hbox); have n3_ := xm ((by rw [hg]; exact (xz bG) : w.heap.size ≤ gb239)); have n4_ := xm ((by rw [hg]; exact (xz bG) : w.heap.size ≤ gb239)); have n5_ := xm ((by rw [hg]; exact Nat.ne_of_lt (blk_lt (kB BK238)) : gb238 ≠ gb239)); have n6_ := xm ((by rw [hg]; exact Nat.ne_of_gt (blk_lt (kB BK238)) : gb239 ≠ gb238)); revert n0_ n1_ n2_ n3_ n4_ n5_ n6_; clear BK238 HB; intro BK238 HB BK239 GW239 GE239 NB238_239 NB239_238; clear hb hbox hg))
  go_ret
  exact ⟨by first | rfl | (simp [errW_none, errW_some] <;> rfl) | (simp [*, errW_none, errW_some] <;> rfl), by repeat (first | (with_reducible first | exact HB.out | apply xa | apply xn | apply xd | refine xt ?_ GE238.out | refine xt ?_ GE239.out) | exact HB.out)⟩

/-! ### impl_unpaired_1: function 63 -/
def impl_unpaired_1.f (l0 : List Int) (a1 : Int) : Option (Bool) := if 1 < (l0.length : Int) then (some ((rd l0 1) == a1)) else (none)
set_option maxHeartbeats 8000000 in
set_option maxRecDepth 100000 in
theorem impl_unpaired_1.calls (A0 : Option Addr) (c0 : Nat) (l0 : List Int) (gc1 : Nat) (a1 : Int) (r : Bool) (w : World) (hr0 : Kd.C (Kd.int .i64) w A0 l0.length l0) (hc0 : l0.length ≤ c0) (hbk1 : w.heap[gc1]? = some (.cells #[.int .i64 a1] 3 (0, 0))) (h : impl_unpaired_1.f l0 a1 = some r) :
  Calls Try.prog 63 #[.slice A0 l0.length c0, .pointer (some ⟨gc1, 0, none⟩)] w fun e w' => e = .returned (.bool r) ∧ Below w.heap.size w w' := by
 have HR0 := xm hr0
 have HC0 := xm hc0
 clear hr0 hc0
 have BK241 := xm hbk1
 clear hbk1
 have HB := xm (Below.refl w.heap.size w)
 have H : (if 1 < (l0.length : Int) then (some ((rd l0 1) == a1)) else (none)) = some r := h
 clear h
 by_cases c3 : 1 < (l0.length : Int)
 ·rw [if_pos c3] at H
  have c3b0 : decide (1 < (l0.length : Int)) = true := decide_eq_true c3
  have c3b1 : decide (1 < l0.length) = true := decide_eq_true (by omega)
  clear c3
  obtain rfl := Option.some.inj H
  have p242 : 0 ≤ (1 : Int) := (by omega)
  have q242 : 1 < (l0.length : Int) := of_decide_eq_true aB
  obtain ⟨ad242, e242, hx242_0⟩ := Kd.at_int HR0.out 1 p242 q242
  cases e242
  (try simp only [show (1 : Int).toNat = 1 from rfl, Nat.reduceMul, Nat.reduceEqDiff, Go.Addr.add, ↓reduceIte] at hx242_0)
  have qi242 : (1 < l0.length) = True := eq_true (by omega)
  (try rw [show ((1 : Int)).toNat = 1 from rfl] at hx242_0)
  replace p242 := eq_true p242
  replace q242 := eq_true q242
  obtain ⟨hcz4_0, hfz4_0⟩ := cz1 BK241.out
  go_enter Try.func63, Try.ntmps63
  go_wp2
  repeat (go_quiet (fail); try go_wp2)
  go_ret
  exact ⟨by first | rfl | (simp [errW_none, errW_some] <;> rfl) | (simp [*, errW_none, errW_some] <;> rfl), by repeat (first | (with_reducible first | exact HB.out | apply xa | apply xn | apply xd | refine xt ?_ GE241.out) | exact HB.out)⟩
 ·rw [if_neg c3] at H
  exact absurd H (by simp)

/-! ### slices_ContainsFunc_LLint_Lint__impl_unpaired_1: function 100003 -/
theorem enters63 : ∀ args w, (callFunc 63 args).run Try.prog w = .ok (.enter 63 args) w := enters_of Try.func63 (by kernel_rfl) rfl
def slices_ContainsFunc_LLint_Lint__impl_unpaired_1.f (l0 : List (List Int)) (a1 : Int) : Option Bool := anyO (fun x => impl_unpaired_1.f x a1) l0
set_option maxHeartbeats 8000000 in
set_option maxRecDepth 100000 in
theorem slices_ContainsFunc_LLint_Lint__impl_unpaired_1.calls (A0 : Option Addr) (c0 : Nat) (l0 : List (List Int)) (gc1 : Nat) (a1 : Int) (r : Bool) (w : World) (hr0 : Kd.C (Kd.slice 3 (Kd.int .i64)) w A0 l0.length l0) (hc0 : l0.length ≤ c0) (hbk1 : w.heap[gc1]? = some (.cells #[.int .i64 a1] 3 (0, 0))) (h : slices_ContainsFunc_LLint_Lint__impl_unpaired_1.f l0 a1 = some r) :
  Calls Try.prog 61 #[.slice A0 l0.length c0, .func (.func 63) #[] #[.pointer (some ⟨gc1, 0, none⟩)]] w fun e w' => e = .returned (.bool r) ∧ Below w.heap.size w w' := by
 refine slices_ContainsFunc_LLint_Lint.any 63 #[.pointer (some ⟨gc1, 0, none⟩)] enters63 (fun x => impl_unpaired_1.f x a1) A0 c0 l0 r w hr0 hc0 ?_ h
 intro W x cs b hW hK hb
 obtain ⟨A_0, c_0, rfl, hl0, hi0⟩ := hK
 simp only [encOne, encAgg, List.headD_cons, app0, app1, app2, app3]
 refine (impl_unpaired_1.calls _ _ x gc1 a1 b W hi0 hl0 (blk_below hW hbk1) hb).mono ?_
 rintro e w' ⟨he, hd⟩
 exact ⟨he, hd⟩

/-! ### impl_unpaired: function 57 -/
def impl_unpaired.l0 : Nat → List (List Int) → List Int → Int → Int → Option (List Int)
 | 0, _, _, _, _ => none
 | k + 1, x1, x5, x7, x8 => if x8 < x7 then ((slices_ContainsFunc_LLint_Lint__impl_unpaired_1.f x1 x8).bind fun t244 => (if t244 = true then (impl_unpaired.l0 k x1 x5 x7 (wrap64 (x8 + 1))) else (if x5.length < 17592186044416 then (impl_unpaired.l0 k x1 (x5 ++ [x8]) x7 (wrap64 (x8 + 1))) else (none)))) else (some x5)
def impl_unpaired.f (k : Nat) (a0 : Int) (l1 : List (List Int)) : Option (List Int) := impl_unpaired.l0 k l1 ([] : List Int) a0 0
theorem impl_unpaired.mono_l : ∀ k, (∀ y0 y1 y2 y3, LeO (impl_unpaired.l0 k y0 y1 y2 y3) (impl_unpaired.l0 (k + 1) y0 y1 y2 y3))
 | 0 => fun _ _ _ _ r h => by simp [impl_unpaired.l0] at h
 | k + 1 => by
  have ih0 := impl_unpaired.mono_l k
  ·intro y0 y1 y2 y3
   unfold impl_unpaired.l0
   repeat' first
   | (with_reducible exact ih0 _ _ _ _)
   | (with_reducible exact LeO.refl _)
   | (with_reducible exact LeO.none _)
   | (with_reducible refine LeO.ite ?_ ?_)
   | (with_reducible refine LeO.bind ?_ (fun _ => ?_))
   | exact ih0 _ _ _ _
   | exact LeO.none _
   | refine LeO.ite ?_ ?_
   | refine LeO.bind ?_ (fun _ => ?_)
theorem impl_unpaired.mono : ∀ a0 a1 k, LeO (impl_unpaired.f k a0 a1) (impl_unpaired.f (k + 1) a0 a1) := by
 intro a0 a1 k
 have ih0 := impl_unpaired.mono_l k
 unfold impl_unpaired.f
 repeat' first
   | (with_reducible exact ih0 _ _ _ _)
   | (with_reducible exact LeO.refl _)
   | (with_reducible exact LeO.none _)
   | (with_reducible refine LeO.ite ?_ ?_)
   | (with_reducible refine LeO.bind ?_ (fun _ => ?_))
   | exact ih0 _ _ _ _
   | exact LeO.none _
   | refine LeO.ite ?_ ?_
   | refine LeO.bind ?_ (fun _ => ?_)
set_option maxHeartbeats 8000000 in
set_option maxRecDepth 100000 in
theorem impl_unpaired.calls (k : Nat) (a0 : Int) (A1 : Option Addr) (c1 : Nat) (l1 : List (List Int)) (r : List Int) (w : World) (hr1 : Kd.C (Kd.slice 3 (Kd.int .i64)) w A1 l1.length l1) (hc1 : l1.length ≤ c1) (h : impl_unpaired.f k a0 l1 = some r) :
  Calls Try.prog 57 #[.int .i64 a0, .slice A1 l1.length c1] w fun e w' => ∃ v0_ : Value, e = .returned (v0_) ∧ Kd.R (Kd.int .i64) 3 w' w.heap.size (fun _ => True) v0_ r ∧ Below w.heap.size w w' := by
 have HR1 := xm hr1
 have HC1 := xm hc1
 clear hr1 hc1
 have HB := xm (Below.refl w.heap.size w)
 have H : (impl_unpaired.l0 k l1 ([] : List Int) a0 0) = some r := h
 clear h
 have H' := xm H
 clear H
 go_enter Try.func57, Try.ntmps57
 go_wp2
 go_loopg [5, 8] k (fun kq v5 v8 w' => ∃ (x5_1 : List Int) (x8_1 : Int), v8 = .int .i64 x8_1 ∧ Aside0 (impl_unpaired.l0 kq l1 x5_1 a0 x8_1 = some r) ∧ Aside0 (kq ≤ k) ∧ Aside0 (Kd.R (Kd.int .i64) 3 w' w.heap.size (fun _ => True) v5 x5_1) ∧ Aside0 (Below w.heap.size w w'))
 case atStart => exact ⟨(([] : List Int)), (0), (by first | rfl | (simp; done) | (simp [*]; done)), H', ⟨Nat.le_refl _⟩, ⟨by first | exact Kd.R_nil _ _ _ _ _ | exact Kd.N_nil _ _ _ _ _ | exact Kd.V_nil _ _ _ _ _ | exact Kd.Q_nil _ _ _ _ _ | exact Kd.S_nil _ _ _ _ _⟩, ⟨by repeat (first | (with_reducible first | exact HB.out | apply xa | apply xn | apply xd) | exact HB.out)⟩⟩
 case round =>
  clear H'
  try clear c1
  try clear p2
  obtain ⟨x5_1, x8_1, rfl, HA, HK1, HO_5, HB⟩ := hrel
  cases gk with
  | zero => exact absurd HA.out (by simp [impl_unpaired.l0])
  | succ k1 =>
   have H := HA.out
   clear HA
   simp only [impl_unpaired.l0] at H
   by_cases c3 : x8_1 < a0
   ·rw [if_pos c3] at H
    have c3b0 : decide (x8_1 < a0) = true := decide_eq_true c3
    clear c3
    replace H := Option.bind_eq_some_iff.mp H
    obtain ⟨t244, A40, H⟩ := H
    replace H : (if t244 = true then (impl_unpaired.l0 k1 l1 x5_1 a0 (wrap64 (x8_1 + 1))) else (if x5_1.length < 17592186044416 then (impl_unpaired.l0 k1 l1 (x5_1 ++ [x8_1]) a0 (wrap64 (x8_1 + 1))) else (none))) = some r := H
    have A4 := xm A40
    clear A40
    by_cases c5 : t244 = true
    ·subst c5
     have H1 : (impl_unpaired.l0 k1 l1 x5_1 a0 (wrap64 (x8_1 + 1))) = some r := by first | (with_reducible rfl) | (rw [if_pos rfl] at H; exact H)
     clear H
     have H := H1
     clear H1
     have H' := xm H
     clear H
     go_wp2_with (first | ((with_reducible refine gate_dst (N := 6) rfl ?_); refine box_event ?hg (N := 6) ?hd (cs := #[.int .i64 0]) (t := 3) ?hr ?_; (case hd => rfl); (case hg => rfl); (case hr => exact zB); intro gb243 hg w6 hbox hb; have n0_ := xm (Kd.R_below (Kd.R_elderB (rB HO_5) gb243 (Nat.le_of_eq hg.symm)) hb); have n1_ := xm (below_step bB hb); have n2_ := xm (hbox); have n3_ := xm ((by rw [hg]; exact (xz bB) : w.heap.size ≤ gb243)); have n4_ := xm ((by rw [hg]; exact (xz bB) : w.heap.size ≤ gb243)); revert n0_ n1_ n2_ n3_ n4_; clear HO_5 HB; intro HO_5 HB BK243 GW243 GE243; clear hb hbox hg; obtain ⟨hcz7_0, hfz7_0⟩ := cz1 BK243.out) | ((with_reducible refine gate_callee (f := 61) rfl ?_); refine goesL_ (some 13) rfl rfl Try.func61 (by kernel_rfl) rfl #[.slice A1 l1.length c1, .func (.func 63) #[] #[.pointer (some ⟨gb243, 0, none⟩)]] rfl mB ?_; (with_reducible refine (slices_ContainsFunc_LLint_Lint__impl_unpaired_1.calls _ _ l1 gb243 x8_1 true _ ?side1 ?side2 ?side3 A4.out).mono ?_); (case side1 => exact Kd.C_below HR1.out bG); (case side2 => exact HC1.out); (case side3 => exact by (with_reducible repeat (first | refine xq ?_ _ | refine xr ?_ | refine xo ?_ _)); refine blk_put (cs := #[.int .i64 0]) ?_ 0 _ rfl; (with_reducible repeat (first | refine xq ?_ _ | refine xr ?_ | refine xo ?_ _)); exact BK243.out); rintro e w8 ⟨rfl, hb⟩; refine ⟨_, rfl, ?_⟩; have n0_ := xm (Kd.R_below (by (with_reducible repeat (first | apply Kd.R_alloc | apply Kd.R_drewN | apply Kd.R_drew)); exact (Kd.R_mono (Kd.R_far (p := ⟨gb243, 0, none⟩) (Kd.R_mono HO_5.out (fun k_ hk => (⟨hk, hk.2⟩ : _ ∧ k_ ≠ gb243))) (fun _ hk => hk.2) (.int .i64 x8_1)) (fun _ h_ => h_.1))) hb); have n1_ := xm (blk_below (g := gb243) (o := .cells #[.int .i64 x8_1] 3 (0, 0)) (by (with_reducible repeat (first | refine xq ?_ _ | refine xr ?_ | refine xo ?_ _)); refine blk_put (cs := #[.int .i64 0]) ?_ 0 _ rfl; (with_reducible repeat (first | refine xq ?_ _ | refine xr ?_ | refine xo ?_ _)); exact BK243.out) hb); have n2_ := xm (below_step bG hb); revert n0_ n1_ n2_; clear HO_5 BK243 HB; intro HO_5 BK243 HB; (try clear hb); (try clear hb2); (try clear hk); (try clear hi)))
     go_roundg k1
     case measure => have := HK1.out; omega
     case rel => exact ⟨(x5_1), (wrap64 (x8_1 + 1)), (by first | rfl | (simp; done) | (simp [*]; done)), H', ⟨by have := HK1.out; omega⟩, ⟨by (with_reducible repeat (first | apply Kd.R_alloc | apply Kd.R_drewN | apply Kd.R_drew)); exact Kd.R_mono HO_5.out (fun _ hk => trivial)⟩, ⟨by repeat (first | (with_reducible first | exact HB.out | apply xa | apply xn | apply xd | refine xt ?_ GE243.out) | exact HB.out)⟩⟩
    ·replace c5 := Bool.eq_false_iff.mpr c5
     subst c5
     have H1 : (if x5_1.length < 17592186044416 then (impl_unpaired.l0 k1 l1 (x5_1 ++ [x8_1]) a0 (wrap64 (x8_1 + 1))) else (none)) = some r := by first | (with_reducible rfl) | (rw [if_neg (show ¬ (false = true) by decide)] at H; exact H)
     clear H
     have H := H1
     clear H1
     by_cases c9 : x5_1.length < 17592186044416
     ·rw [if_pos c9] at H
      have LMc9 := xm c9
      clear c9
      obtain ⟨y245, hy245⟩ : ∃ y_ : List Int, y_ = (x5_1 ++ [x8_1]) := ⟨_, rfl⟩
      replace H : (impl_unpaired.l0 k1 l1 y245 a0 (wrap64 (x8_1 + 1))) = some r := by first | (rw [hy245]; with_reducible exact H) | (have H2_ := (Option.bind_some _ _).symm.trans H; rw [hy245]; with_reducible exact H2_) | (have H2_ := (Option.bind_some _ _).symm.trans H; with_reducible exact H2_) | with_reducible exact H | (rw [hy245]; exact H) | exact H
      have Ny245 := xm hy245
      clear hy245
      have H' := xm H
      clear H
      go_wp2_with (first | ((with_reducible refine gate_dst (N := 6) rfl ?_); refine box_event ?hg (N := 6) ?hd (cs := #[.int .i64 0]) (t := 3) ?hr ?_; (case hd => rfl); (case hg => rfl); (case hr => exact zB); intro gb243 hg w10 hbox hb; have n0_ := xm (Kd.R_below (Kd.R_elderB (rB HO_5) gb243 (Nat.le_of_eq hg.symm)) hb); have n1_ := xm (below_step bB hb); have n2_ := xm (hbox); have n3_ := xm ((by rw [hg]; exact (xz bB) : w.heap.size ≤ gb243)); have n4_ := xm ((by rw [hg]; exact (xz bB) : w.heap.size ≤ gb243)); revert n0_ n1_ n2_ n3_ n4_; clear HO_5 HB; intro HO_5 HB BK243 GW243 GE243; clear hb hbox hg; obtain ⟨hcz11_0, hfz11_0⟩ := cz1 BK243.out) | ((with_reducible refine gate_callee (f := 61) rfl ?_); refine goesL_ (some 13) rfl rfl Try.func61 (by kernel_rfl) rfl #[.slice A1 l1.length c1, .func (.func 63) #[] #[.pointer (some ⟨gb243, 0, none⟩)]] rfl mB ?_; (with_reducible refine (slices_ContainsFunc_LLint_Lint__impl_unpaired_1.calls _ _ l1 gb243 x8_1 false _ ?side1 ?side2 ?side3 A4.out).mono ?_); (case side1 => exact Kd.C_below HR1.out bG); (case side2 => exact HC1.out); (case side3 => exact by (with_reducible repeat (first | refine xq ?_ _ | refine xr ?_ | refine xo ?_ _)); refine blk_put (cs := #[.int .i64 0]) ?_ 0 _ rfl; (with_reducible repeat (first | refine xq ?_ _ | refine xr ?_ | refine xo ?_ _)); exact BK243.out); rintro e w12 ⟨rfl, hb⟩; refine ⟨_, rfl, ?_⟩; have n0_ := xm (Kd.R_below (by (with_reducible repeat (first | apply Kd.R_alloc | apply Kd.R_drewN | apply Kd.R_drew)); exact (Kd.R_mono (Kd.R_far (p := ⟨gb243, 0, none⟩) (Kd.R_mono HO_5.out (fun k_ hk => (⟨hk, hk.2⟩ : _ ∧ k_ ≠ gb243))) (fun _ hk => hk.2) (.int .i64 x8_1)) (fun _ h_ => h_.1))) hb); have n1_ := xm (blk_below (g := gb243) (o := .cells #[.int .i64 x8_1] 3 (0, 0)) (by (with_reducible repeat (first | refine xq ?_ _ | refine xr ?_ | refine xo ?_ _)); refine blk_put (cs := #[.int .i64 0]) ?_ 0 _ rfl; (with_reducible repeat (first | refine xq ?_ _ | refine xr ?_ | refine xo ?_ _)); exact BK243.out) hb); have n2_ := xm (below_step bG hb); revert n0_ n1_ n2_; clear HO_5 BK243 HB; intro HO_5 BK243 HB; (try clear hb); (try clear hb2); (try clear hk); (try clear hi); obtain ⟨hcz13_0, hfz13_0⟩ := cz1 BK243.out) | ((with_reducible refine gate_builtin (b := .append) (xs := #[.tmp 15, .tmp 17]) rfl ?_); at_builtin; refine Kd.R_append (Kd.int .i64) (w0 := w) w.heap.size rfl (.tmp 15) (.tmp 17) 22 3 (.int .i64 0) 8 rfl Try.underlying22 info3 rfl (by decide) (by omega) u5 x5_1 x8_1 [.int .i64 x8_1] (fun k_ => k_ ≠ gb243) (fun _ => False) rfl rfl ?aP (fun _ hk => hk.elim) ?aF ?aO ?aB ?aS ?aL ?_; (case aP => exact rfl); (case aB => exact bG); (case aF => exact (fun k_ hk => Kd.freshB (kB BK243) k_ hk)); (case aO => exact (by (with_reducible repeat (first | apply Kd.R_alloc | apply Kd.R_drewN | apply Kd.R_drew)); exact Kd.R_mono HO_5.out (fun _ hk => hk.2))); (case aS => exact (xz bG)); (case aL => have := LMc9.out; omega); intro v246 w14 ho hb hg hat; rw [← Ny245.out] at ho; have n0_ := xm (blk_grown (kB BK243) hg (Kd.R_away HO_5.out (fun _ hk => hk.2))); have n1_ := xm (hb); have n2_ := xm (ho); revert n0_ n1_ n2_; clear BK243 HB HO_5; intro BK243 HB HO247; clear ho hb hg hat))
      go_roundg k1
      case measure => have := HK1.out; omega
      case rel => exact ⟨(y245), (wrap64 (x8_1 + 1)), (by first | rfl | (simp; done) | (simp [*]; done)), H', ⟨by have := HK1.out; omega⟩, ⟨by (with_reducible repeat (first | apply Kd.R_alloc | apply Kd.R_drewN | apply Kd.R_drew)); exact Kd.R_mono HO247.out (fun _ hk => trivial)⟩, ⟨by repeat (first | (with_reducible first | exact HB.out | apply xa | apply xn | apply xd | refine xt ?_ GE243.out) | exact HB.out)⟩⟩
     ·rw [if_neg c9] at H
      exact absurd H (by simp)
   ·rw [if_neg c3] at H
    have c3b0 : decide (x8_1 < a0) = false := decide_eq_false c3
    clear c3
    obtain rfl := Option.some.inj H
    go_wp2
    go_ret
    exact ⟨_, by first | rfl | (simp [errW_none, errW_some] <;> rfl) | (simp [*, errW_none, errW_some] <;> rfl), by (with_reducible repeat (first | apply Kd.R_alloc | apply Kd.R_drewN | apply Kd.R_drew)); exact HO_5.out, by repeat (first | (with_reducible first | exact HB.out | apply xa | apply xn | apply xd) | exact HB.out)⟩

/-! ### impl_joinedColumns: function 44 -/
def impl_joinedColumns.f (k : Nat) (a0 : Int) (a1 : Int) (l2 : List (List Int)) : Option (Int) := (impl_unpaired.f k a1 l2).bind fun t248 => (some (wrap64 (a0 + (t248.length : Int))))
theorem impl_joinedColumns.mono : ∀ a0 a1 a2 k, LeO (impl_joinedColumns.f k a0 a1 a2) (impl_joinedColumns.f (k + 1) a0 a1 a2) := by
 intro a0 a1 a2 k
 unfold impl_joinedColumns.f
 repeat' first
   | (with_reducible exact impl_unpaired.mono _ _ _)
   | (with_reducible exact LeO.refl _)
   | (with_reducible exact LeO.none _)
   | (with_reducible refine LeO.ite ?_ ?_)
   | (with_reducible refine LeO.bind ?_ (fun _ => ?_))
   | exact impl_unpaired.mono _ _ _
   | exact LeO.none _
   | refine LeO.ite ?_ ?_
   | refine LeO.bind ?_ (fun _ => ?_)
set_option maxHeartbeats 8000000 in
set_option maxRecDepth 100000 in
theorem impl_joinedColumns.calls (k : Nat) (a0 : Int) (a1 : Int) (A2 : Option Addr) (c2 : Nat) (l2 : List (List Int)) (r : Int) (w : World) (hr2 : Kd.C (Kd.slice 3 (Kd.int .i64)) w A2 l2.length l2) (hc2 : l2.length ≤ c2) (h : impl_joinedColumns.f k a0 a1 l2 = some r) :
  Calls Try.prog 44 #[.int .i64 a0, .int .i64 a1, .slice A2 l2.length c2] w fun e w' => e = .returned (.int .i64 r) ∧ Below w.heap.size w w' := by
 have HR2 := xm hr2
 have HC2 := xm hc2
 clear hr2 hc2
 have HB := xm (Below.refl w.heap.size w)
 have H : ((impl_unpaired.f k a1 l2).bind fun t248 => (some (wrap64 (a0 + (t248.length : Int))))) = some r := h
 clear h
 replace H := Option.bind_eq_some_iff.mp H
 obtain ⟨t248, A40, H⟩ := H
 replace H : (some (wrap64 (a0 + (t248.length : Int)))) = some r := H
 have A4 := xm A40
 clear A40
 obtain rfl := Option.some.inj H
 go_enter Try.func44, Try.ntmps44
 go_wp2_with (first | ((with_reducible refine gate_callee (f := 57) rfl ?_); refine goesL_ (some 10) rfl rfl Try.func57 (by kernel_rfl) rfl #[.int .i64 a1, .slice A2 l2.length c2] rfl mB ?_; (with_reducible refine (impl_unpaired.calls k a1 _ _ l2 t248 _ ?side1 ?side2 A4.out).mono ?_); (case side1 => repeat (first | exact HR2.out | (with_reducible refine Kd.C_alloc ?_ _) | (with_reducible refine Kd.C_drewN ?_ _) | (with_reducible refine Kd.C_drew ?_))); (case side2 => exact HC2.out); rintro e w5 ⟨v249, rfl, ho0, hb⟩; refine ⟨_, rfl, ?_⟩; have n0_ := xm (Kd.R_lower ho0 (xz bB)); have n1_ := xm (below_step bB hb); revert n0_ n1_; clear HB; intro HO250 HB; (try clear hb); (try clear hb2); (try clear hk); (try clear hi); (try clear ho0); obtain ⟨Ao6, co6, eo6⟩ := Kd.R_slice HO250.out; subst eo6))
 go_ret
 exact ⟨by first | rfl | (simp [errW_none, errW_some] <;> rfl) | (simp [*, errW_none, errW_some] <;> rfl), by repeat (first | (with_reducible first | exact HB.out | apply xa | apply xn | apply xd) | exact HB.out)⟩

end Go.Proofs.Ytaddemalepndfab.G
