/- Written by a program of this claim's own, out of the translation: functions of the program as plain functions, and that the calls answer as these. No conditions. -/
import Derived.Test.YtmelechhnimlnaaG0
namespace Go.Proofs.Ytmelechhnimlnaa.G
open Go.RowKit Go.Proofs.Ytmelechhnimlnaa.X Go.Proofs.YtmelechhnimlnaaW.PrintWords Go.Proofs.YtmelechhnimlnaaW.PrintLast Go.Proofs.YtmelechhnimlnaaW.PrintMore
attribute [local go_sem] max2_int min2_int max_two min_two max_three min_three max_four min_four   -- for this text's walks alone
set_option linter.unusedVariables false
set_option linter.unusedSimpArgs false

/-! ### slices_IndexFunc_LLint_Lint: function 49 -/
set_option maxHeartbeats 8000000 in
set_option maxRecDepth 100000 in
theorem slices_IndexFunc_LLint_Lint.any (g : Nat) (lb : Array Value) (eg : ∀ args w, (callFunc g args).run Try.prog w = .ok (.enter g args) w) (pf : List Int → Option Bool)
  (A0 : Option Addr) (c0 : Nat) (l0 : List (List Int)) (r : Int) (w : World) (hr0 : Kd.C (Kd.slice 3 (Kd.int .i64)) w A0 l0.length l0) (hc0 : l0.length ≤ c0) (hp : PB Try.prog g lb (Kd.slice 3 (Kd.int .i64)) encOne pf w) (h : idxO pf l0 0 = some r) :
  Calls Try.prog 49 #[.slice A0 l0.length c0, .func (.func g) #[] lb] w fun e w' => e = .returned (.int .i64 r) ∧ Below w.heap.size w w' := by
 have HR0 := xm hr0
 have HP := xm hp
 have H' := xm h
 have HB := xm (Below.refl w.heap.size w)
 have hn : (l0.length : Int) ≤ 9223372036854775807 := by have := hr0.2.1; omega
 clear hr0 hp h hc0
 go_enter Try.func49, Try.ntmps49
 go_wp2
 go_loopg [5, 8] l0.length (fun kq v5 v8 w' => ∃ kk : Nat, v8 = .int .i64 kk ∧ kk ≤ l0.length ∧ l0.length - kk ≤ kq ∧ Aside0 (idxO pf (l0.drop kk) kk = some r) ∧ Aside0 (Below w.heap.size w w'))
 case atStart => exact ⟨0, rfl, Nat.zero_le _, by omega, H', HB⟩
 case round =>
  clear H' HB
  obtain ⟨kk, rfl, hkk, hg, HA, HB⟩ := hrel
  by_cases hlt : kk < l0.length
  ·have hlti : (kk : Int) < (l0.length : Int) := by omega
   obtain ⟨ad, A_0, c_0, e0, hx0, hl0, hi0⟩ := at_L2 HR0.out (kk : Int) (by omega) hlti
   cases e0
   replace hx0 := hU hx0
   simp only [Int.toNat_natCast] at hx0
   have H := HA.out
   rw [List.drop_eq_getElem_cons hlt] at H
   unfold idxO at H
   have hrd : l0[kk] = rd_L2 l0 (kk : Int) := by simp [rd_L2, hlt]
   rw [hrd] at H
   obtain ⟨b, hb, H⟩ := Option.bind_eq_some_iff.mp H
   have hcall := HP.out _ (rd_L2 l0 (kk : Int)) [.slice A_0 (rd_L2 l0 (kk : Int)).length c_0] b HB.out ⟨A_0, c_0, rfl, hl0, Kd.C_below hi0 HB.out⟩ hb
   have HL := xm hcall
   have HI0 := xm hi0
   clear hi0 hl0
   clear hcall hb HA
   clear hrd
   simp only [encOne, encAgg, List.headD_cons] at HL
   cases b with
   | true =>
    obtain rfl := Option.some.inj H
    go_wp2_with (go_at_fn g; refine HL.out.mono ?_; rintro e w' ⟨rfl, hb'⟩)
    go_ret
    exact ⟨rfl, below_step HB.out hb'⟩
   | false =>
    have H1 := xm H
    clear H
    go_wp2_with (go_at_fn g; refine HL.out.mono ?_; rintro e w' ⟨rfl, hb'⟩)
    go_roundg (l0.length - (kk + 1))
    case measure => omega
    case rel => exact ⟨kk + 1, by go_num, by omega, by omega, ⟨by have := H1.out; simpa using this⟩, ⟨below_step HB.out hb'⟩⟩
  ·have : kk = l0.length := by omega
   subst this
   have H := HA.out
   rw [List.drop_length] at H
   unfold idxO at H
   obtain rfl := Option.some.inj H
   clear H HA
   go_wp2
   go_ret
   exact ⟨rfl, HB.out⟩

/-! ### slices_ContainsFunc_LLint_Lint: function 44 -/
set_option maxHeartbeats 8000000 in
set_option maxRecDepth 100000 in
theorem slices_ContainsFunc_LLint_Lint.any (g : Nat) (lb : Array Value) (eg : ∀ args w, (callFunc g args).run Try.prog w = .ok (.enter g args) w) (pf : List Int → Option Bool)
  (A0 : Option Addr) (c0 : Nat) (l0 : List (List Int)) (r : Bool) (w : World) (hr0 : Kd.C (Kd.slice 3 (Kd.int .i64)) w A0 l0.length l0) (hc0 : l0.length ≤ c0) (hp : PB Try.prog g lb (Kd.slice 3 (Kd.int .i64)) encOne pf w) (h : anyO pf l0 = some r) :
  Calls Try.prog 44 #[.slice A0 l0.length c0, .func (.func g) #[] lb] w fun e w' => e = .returned (.bool r) ∧ Below w.heap.size w w' := by
 rw [← idxO_any pf l0 0 (Int.le_refl 0)] at h
 obtain ⟨i, hi, hri⟩ := Option.map_eq_some_iff.mp h
 have HC := xm (slices_IndexFunc_LLint_Lint.any g lb eg pf A0 c0 l0 i w hr0 hc0 hp hi)
 have HR := xm hri
 clear hr0 hc0 hp h hi hri eg
 go_enter Try.func44, Try.ntmps44
 go_wp2_with (go_at_call 49; refine HC.out.mono ?_; rintro e w' ⟨rfl, hb⟩)
 go_ret
 exact ⟨by first | rfl | (rw [HR.out]; rfl) | rw [HR.out], hb⟩

/-! ### impl_areAll_Lint_1: function 45 -/
set_option maxHeartbeats 8000000 in
set_option maxRecDepth 100000 in
theorem impl_areAll_Lint_1.pb (g : Nat) (lb : Array Value) (eg : ∀ args w, (callFunc g args).run Try.prog w = .ok (.enter g args) w) (pf : List Int → Option Bool) (w w1 : World) (b0 : Nat) (hw : Below w.heap.size w w1)
  (hbk : w1.heap[b0]? = some (.cells #[.func (.func g) #[] lb] 56 (0, 0))) (hp : PB Try.prog g lb (Kd.slice 3 (Kd.int .i64)) encOne pf w) :
  PB Try.prog 45 #[.pointer (some ⟨b0, 0, none⟩)] (Kd.slice 3 (Kd.int .i64)) encOne (fun x => (pf x).map (!·)) w1 := by
 intro W x cs b hW hK hb
 obtain ⟨b1, hb1, rfl⟩ := Option.map_eq_some_iff.mp hb
 have hWw := below_step hw hW
 have hbW := blk_below hW hbk
 have HL := xm (hp W x cs b1 hWw hK hb1)
 obtain ⟨A_0, c_0, rfl, hl0, hi0⟩ := hK
 clear hl0 hi0
 have hcz : W.cell? ⟨b0, 0, none⟩ = some (.func (.func g) #[] lb) := (xc hbW 0).trans rfl
 clear hp hb hb1 hWw hbW hW hbk hw
 simp only [encOne, encAgg, List.headD_cons] at HL ⊢
 go_enter Try.func45, Try.ntmps45
 go_wp2_with (go_at_fn g; refine HL.out.mono ?_; rintro e w' ⟨rfl, hb'⟩)
 go_ret
 exact ⟨rfl, hb'⟩

/-! ### impl_areAll_Lint: function 32 -/
theorem enters45 : ∀ args w, (callFunc 45 args).run Try.prog w = .ok (.enter 45 args) w := enters_of Try.func45 (by kernel_rfl) rfl
set_option maxHeartbeats 8000000 in
set_option maxRecDepth 100000 in
theorem impl_areAll_Lint.any (g : Nat) (lb : Array Value) (eg : ∀ args w, (callFunc g args).run Try.prog w = .ok (.enter g args) w) (pf : List Int → Option Bool)
  (A0 : Option Addr) (c0 : Nat) (l0 : List (List Int)) (r : Bool) (w : World) (hr0 : Kd.C (Kd.slice 3 (Kd.int .i64)) w A0 l0.length l0) (hc0 : l0.length ≤ c0) (hp : PB Try.prog g lb (Kd.slice 3 (Kd.int .i64)) encOne pf w) (h : allO pf l0 = some r) :
  Calls Try.prog 32 #[.slice A0 l0.length c0, .func (.func g) #[] lb] w fun e w' => e = .returned (.bool r) ∧ Below w.heap.size w w' := by
 rw [← any_all pf l0] at h
 obtain ⟨b, hb, rfl⟩ := Option.map_eq_some_iff.mp h
 have hB1 : Below w.heap.size w (w.alloc (.cells #[.func (.func g) #[] lb] 56)) := xa (Below.refl _ _) _
 have HC := xm (slices_ContainsFunc_LLint_Lint.any 45 #[.pointer (some ⟨w.heap.size, 0, none⟩)] enters45 _ A0 c0 l0 b _ (Kd.C_below hr0 hB1) hc0 (impl_areAll_Lint_1.pb g lb eg pf w _ w.heap.size hB1 (heap_new w _ _) hp) hb)
 have HB1 := xm hB1
 clear hr0 hc0 hp h hb eg hB1
 go_enter Try.func32, Try.ntmps32
 go_wp2_with (go_at_call 44; refine HC.out.mono ?_; rintro e w' ⟨rfl, hb⟩)
 go_ret
 exact ⟨rfl, below_step HB1.out hb⟩

/-! ### impl_isPlace: function 34 -/
def impl_isPlace.f (a0 : Int) (a1 : Int) : Option (Bool) := if a0 ≥ 0 then (some (decide (a0 < a1))) else (some false)
set_option maxHeartbeats 8000000 in
set_option maxRecDepth 100000 in
theorem impl_isPlace.calls (a0 : Int) (a1 : Int) (r : Bool) (w : World) (h : impl_isPlace.f a0 a1 = some r) :
  Calls Try.prog 34 #[.int .i64 a0, .int .i64 a1] w fun e w' => e = .returned (.bool r) ∧ Drawn0 w w' := by
 have H : (if a0 ≥ 0 then (some (decide (a0 < a1))) else (some false)) = some r := h
 clear h
 by_cases c3 : a0 ≥ 0
 ·rw [if_pos c3] at H
  have c3b0 : decide (0 ≤ a0) = true := decide_eq_true c3
  clear c3
  obtain rfl := Option.some.inj H
  go_enter Try.func34, Try.ntmps34
  go_wp2
  go_ret
  exact ⟨sB, dB⟩
 ·rw [if_neg c3] at H
  have c3b0 : decide (0 ≤ a0) = false := decide_eq_false c3
  clear c3
  obtain rfl := Option.some.inj H
  go_enter Try.func34, Try.ntmps34
  go_wp2
  go_ret
  exact ⟨sB, dB⟩

/-! ### impl_arePairs_1: function 33 -/
def impl_arePairs_1.f (l0 : List Int) (a1 : Int) (a2 : Int) : Option (Bool) := if (l0.length : Int) = 2 then (if 0 < (l0.length : Int) then ((impl_isPlace.f (rd l0 0) a1).bind fun t177 => (if t177 = true then (if 1 < (l0.length : Int) then ((impl_isPlace.f (rd l0 1) a2).bind fun t179 => (some t179)) else (none)) else (some false))) else (none)) else (some false)
set_option maxHeartbeats 8000000 in
set_option maxRecDepth 100000 in
theorem impl_arePairs_1.calls (A0 : Option Addr) (c0 : Nat) (l0 : List Int) (gc1 : Nat) (a1 : Int) (gc2 : Nat) (a2 : Int) (r : Bool) (w : World) (hr0 : Kd.C (Kd.int .i64) w A0 l0.length l0) (hc0 : l0.length ≤ c0) (hbk1 : w.heap[gc1]? = some (.cells #[.int .i64 a1] 3 (0, 0))) (hbk2 : w.heap[gc2]? = some (.cells #[.int .i64 a2] 3 (0, 0))) (h : impl_arePairs_1.f l0 a1 a2 = some r) :
  Calls Try.prog 33 #[.slice A0 l0.length c0, .pointer (some ⟨gc1, 0, none⟩), .pointer (some ⟨gc2, 0, none⟩)] w fun e w' => e = .returned (.bool r) ∧ Below w.heap.size w w' := by
 have HR0 := xm hr0
 have HC0 := xm hc0
 clear hr0 hc0
 have BK174 := xm hbk1
 clear hbk1
 have BK175 := xm hbk2
 clear hbk2
 have HB := xm (Below.refl w.heap.size w)
 have H : (if (l0.length : Int) = 2 then (if 0 < (l0.length : Int) then ((impl_isPlace.f (rd l0 0) a1).bind fun t177 => (if t177 = true then (if 1 < (l0.length : Int) then ((impl_isPlace.f (rd l0 1) a2).bind fun t179 => (some t179)) else (none)) else (some false))) else (none)) else (some false)) = some r := h
 clear h
 by_cases c4 : (l0.length : Int) = 2
 ·rw [if_pos c4] at H
  have c4b0 : ((l0.length : Int) == 2) = true := beq_iff_eq.mpr c4
  have c4b1 : ((l0.length : Int) != 2) = false := bne_eq_false_iff_eq.mpr c4
  clear c4
  by_cases c5 : 0 < (l0.length : Int)
  ·rw [if_pos c5] at H
   have c5b0 : decide (0 < (l0.length : Int)) = true := decide_eq_true c5
   have c5b1 : decide (0 < l0.length) = true := decide_eq_true (by omega)
   clear c5
   replace H := Option.bind_eq_some_iff.mp H
   obtain ⟨t177, A60, H⟩ := H
   replace H : (if t177 = true then (if 1 < (l0.length : Int) then ((impl_isPlace.f (rd l0 1) a2).bind fun t179 => (some t179)) else (none)) else (some false)) = some r := H
   have A6 := xm A60
   clear A60
   by_cases c7 : t177 = true
   ·subst c7
    have H1 : (if 1 < (l0.length : Int) then ((impl_isPlace.f (rd l0 1) a2).bind fun t179 => (some t179)) else (none)) = some r := by first | (with_reducible rfl) | (rw [if_pos rfl] at H; exact H)
    clear H
    have H := H1
    clear H1
    by_cases c8 : 1 < (l0.length : Int)
    ·rw [if_pos c8] at H
     have c8b0 : decide (1 < (l0.length : Int)) = true := decide_eq_true c8
     have c8b1 : decide (1 < l0.length) = true := decide_eq_true (by omega)
     clear c8
     replace H := Option.bind_eq_some_iff.mp H
     obtain ⟨t179, A90, H⟩ := H
     replace H : (some t179) = some r := H
     have A9 := xm A90
     clear A90
     obtain rfl := Option.some.inj H
     have p176 : 0 ≤ (0 : Int) := (by omega)
     have q176 : 0 < (l0.length : Int) := of_decide_eq_true aB
     obtain ⟨ad176, e176, hx176_0⟩ := Kd.at_int HR0.out 0 p176 q176
     cases e176
     have qi176 : (0 < l0.length) = True := eq_true (by omega)
     (try rw [show ((0 : Int)).toNat = 0 from rfl] at hx176_0)
     (try rw [Addr.add_zero'] at hx176_0)
     replace p176 := eq_true p176
     replace q176 := eq_true q176
     obtain ⟨hcz10_0, hfz10_0⟩ := cz1 BK174.out
     go_enter Try.func33, Try.ntmps33
     go_wp2_with (first | (go_at_call 34; (with_reducible refine (impl_isPlace.calls (rd l0 0) a1 true _ A6.out).mono ?_); rintro e w' ⟨rfl, ⟨nd, rfl⟩⟩; (try first | exact ⟨rfl, _, World.drewN_drewN _ _ _⟩ | exact ⟨rfl, _, Eq.trans (World.drewN_drewN _ _ _) (congrArg (World.drewN _) (Nat.add_assoc _ _ _))⟩); have p178 : 0 ≤ (1 : Int) := (by omega); have q178 : 1 < (l0.length : Int) := of_decide_eq_true aB; obtain ⟨ad178, e178, hx178_0⟩ := Kd.at_int HR0.out 1 p178 q178; obtain rfl : ad176 = ad178 := (by injection e178); (try simp only [show (1 : Int).toNat = 1 from rfl, Nat.reduceMul, Nat.reduceEqDiff, Go.Addr.add, ↓reduceIte] at hx178_0); have qi178 : (1 < l0.length) = True := eq_true (by omega); (try rw [show ((1 : Int)).toNat = 1 from rfl] at hx178_0); replace p178 := eq_true p178; replace q178 := eq_true q178; obtain ⟨hcz11_0, hfz11_0⟩ := cz1 BK175.out) | (go_at_call 34; (with_reducible refine (impl_isPlace.calls (rd l0 1) a2 t179 _ A9.out).mono ?_); rintro e w' ⟨rfl, ⟨nd, rfl⟩⟩; (try first | exact ⟨rfl, _, World.drewN_drewN _ _ _⟩ | exact ⟨rfl, _, Eq.trans (World.drewN_drewN _ _ _) (congrArg (World.drewN _) (Nat.add_assoc _ _ _))⟩)))
     repeat (go_quiet (first | (go_at_call 34; (with_reducible refine (impl_isPlace.calls (rd l0 0) a1 true _ A6.out).mono ?_); rintro e w' ⟨rfl, ⟨nd, rfl⟩⟩; (try first | exact ⟨rfl, _, World.drewN_drewN _ _ _⟩ | exact ⟨rfl, _, Eq.trans (World.drewN_drewN _ _ _) (congrArg (World.drewN _) (Nat.add_assoc _ _ _))⟩); have p178 : 0 ≤ (1 : Int) := (by omega); have q178 : 1 < (l0.length : Int) := of_decide_eq_true aB; obtain ⟨ad178, e178, hx178_0⟩ := Kd.at_int HR0.out 1 p178 q178; obtain rfl : ad176 = ad178 := (by injection e178); (try simp only [show (1 : Int).toNat = 1 from rfl, Nat.reduceMul, Nat.reduceEqDiff, Go.Addr.add, ↓reduceIte] at hx178_0); have qi178 : (1 < l0.length) = True := eq_true (by omega); (try rw [show ((1 : Int)).toNat = 1 from rfl] at hx178_0); replace p178 := eq_true p178; replace q178 := eq_true q178; obtain ⟨hcz11_0, hfz11_0⟩ := cz1 BK175.out) | (go_at_call 34; (with_reducible refine (impl_isPlace.calls (rd l0 1) a2 t179 _ A9.out).mono ?_); rintro e w' ⟨rfl, ⟨nd, rfl⟩⟩; (try first | exact ⟨rfl, _, World.drewN_drewN _ _ _⟩ | exact ⟨rfl, _, Eq.trans (World.drewN_drewN _ _ _) (congrArg (World.drewN _) (Nat.add_assoc _ _ _))⟩))); try go_wp2_with (first | (go_at_call 34; (with_reducible refine (impl_isPlace.calls (rd l0 0) a1 true _ A6.out).mono ?_); rintro e w' ⟨rfl, ⟨nd, rfl⟩⟩; (try first | exact ⟨rfl, _, World.drewN_drewN _ _ _⟩ | exact ⟨rfl, _, Eq.trans (World.drewN_drewN _ _ _) (congrArg (World.drewN _) (Nat.add_assoc _ _ _))⟩); have p178 : 0 ≤ (1 : Int) := (by omega); have q178 : 1 < (l0.length : Int) := of_decide_eq_true aB; obtain ⟨ad178, e178, hx178_0⟩ := Kd.at_int HR0.out 1 p178 q178; obtain rfl : ad176 = ad178 := (by injection e178); (try simp only [show (1 : Int).toNat = 1 from rfl, Nat.reduceMul, Nat.reduceEqDiff, Go.Addr.add, ↓reduceIte] at hx178_0); have qi178 : (1 < l0.length) = True := eq_true (by omega); (try rw [show ((1 : Int)).toNat = 1 from rfl] at hx178_0); replace p178 := eq_true p178; replace q178 := eq_true q178; obtain ⟨hcz11_0, hfz11_0⟩ := cz1 BK175.out) | (go_at_call 34; (with_reducible refine (impl_isPlace.calls (rd l0 1) a2 t179 _ A9.out).mono ?_); rintro e w' ⟨rfl, ⟨nd, rfl⟩⟩; (try first | exact ⟨rfl, _, World.drewN_drewN _ _ _⟩ | exact ⟨rfl, _, Eq.trans (World.drewN_drewN _ _ _) (congrArg (World.drewN _) (Nat.add_assoc _ _ _))⟩))))
     go_ret
     exact ⟨eB, bG⟩
    ·rw [if_neg c8] at H
     exact absurd H (by simp)
   ·replace c7 := Bool.eq_false_iff.mpr c7
    subst c7
    have H1 : (some false) = some r := by first | (with_reducible rfl) | (rw [if_neg (show ¬ (false = true) by decide)] at H; exact H)
    clear H
    have H := H1
    clear H1
    obtain rfl := Option.some.inj H
    have p176 : 0 ≤ (0 : Int) := (by omega)
    have q176 : 0 < (l0.length : Int) := of_decide_eq_true aB
    obtain ⟨ad176, e176, hx176_0⟩ := Kd.at_int HR0.out 0 p176 q176
    cases e176
    have qi176 : (0 < l0.length) = True := eq_true (by omega)
    (try rw [show ((0 : Int)).toNat = 0 from rfl] at hx176_0)
    (try rw [Addr.add_zero'] at hx176_0)
    replace p176 := eq_true p176
    replace q176 := eq_true q176
    obtain ⟨hcz12_0, hfz12_0⟩ := cz1 BK174.out
    go_enter Try.func33, Try.ntmps33
    go_wp2_with (first | (go_at_call 34; (with_reducible refine (impl_isPlace.calls (rd l0 0) a1 false _ A6.out).mono ?_); rintro e w' ⟨rfl, ⟨nd, rfl⟩⟩; (try first | exact ⟨rfl, _, World.drewN_drewN _ _ _⟩ | exact ⟨rfl, _, Eq.trans (World.drewN_drewN _ _ _) (congrArg (World.drewN _) (Nat.add_assoc _ _ _))⟩)))
    repeat (go_quiet (first | (go_at_call 34; (with_reducible refine (impl_isPlace.calls (rd l0 0) a1 false _ A6.out).mono ?_); rintro e w' ⟨rfl, ⟨nd, rfl⟩⟩; (try first | exact ⟨rfl, _, World.drewN_drewN _ _ _⟩ | exact ⟨rfl, _, Eq.trans (World.drewN_drewN _ _ _) (congrArg (World.drewN _) (Nat.add_assoc _ _ _))⟩))); try go_wp2_with (first | (go_at_call 34; (with_reducible refine (impl_isPlace.calls (rd l0 0) a1 false _ A6.out).mono ?_); rintro e w' ⟨rfl, ⟨nd, rfl⟩⟩; (try first | exact ⟨rfl, _, World.drewN_drewN _ _ _⟩ | exact ⟨rfl, _, Eq.trans (World.drewN_drewN _ _ _) (congrArg (World.drewN _) (Nat.add_assoc _ _ _))⟩))))
    go_ret
    exact ⟨eB, bG⟩
  ·rw [if_neg c5] at H
   exact absurd H (by simp)
 ·rw [if_neg c4] at H
  have c4b0 : ((l0.length : Int) == 2) = false := beq_eq_false_iff_ne.mpr c4
  have c4b1 : ((l0.length : Int) != 2) = true := bne_iff_ne.mpr c4
  obtain rfl := Option.some.inj H
  go_enter Try.func33, Try.ntmps33
  go_wp2
  repeat (go_quiet (fail); try go_wp2)
  go_ret
  exact ⟨eB, bG⟩

/-! ### impl_areAll_Lint__impl_arePairs_1: function 100001 -/
theorem enters33 : ∀ args w, (callFunc 33 args).run Try.prog w = .ok (.enter 33 args) w := enters_of Try.func33 (by kernel_rfl) rfl
def impl_areAll_Lint__impl_arePairs_1.f (l0 : List (List Int)) (a1 : Int) (a2 : Int) : Option Bool := allO (fun x => impl_arePairs_1.f x a1 a2) l0
set_option maxHeartbeats 8000000 in
set_option maxRecDepth 100000 in
theorem impl_areAll_Lint__impl_arePairs_1.calls (A0 : Option Addr) (c0 : Nat) (l0 : List (List Int)) (gc1 : Nat) (a1 : Int) (gc2 : Nat) (a2 : Int) (r : Bool) (w : World) (hr0 : Kd.C (Kd.slice 3 (Kd.int .i64)) w A0 l0.length l0) (hc0 : l0.length ≤ c0) (hbk1 : w.heap[gc1]? = some (.cells #[.int .i64 a1] 3 (0, 0))) (hbk2 : w.heap[gc2]? = some (.cells #[.int .i64 a2] 3 (0, 0))) (h : impl_areAll_Lint__impl_arePairs_1.f l0 a1 a2 = some r) :
  Calls Try.prog 32 #[.slice A0 l0.length c0, .func (.func 33) #[] #[.pointer (some ⟨gc1, 0, none⟩), .pointer (some ⟨gc2, 0, none⟩)]] w fun e w' => e = .returned (.bool r) ∧ Below w.heap.size w w' := by
 refine impl_areAll_Lint.any 33 #[.pointer (some ⟨gc1, 0, none⟩), .pointer (some ⟨gc2, 0, none⟩)] enters33 (fun x => impl_arePairs_1.f x a1 a2) A0 c0 l0 r w hr0 hc0 ?_ h
 intro W x cs b hW hK hb
 obtain ⟨A_0, c_0, rfl, hl0, hi0⟩ := hK
 simp only [encOne, encAgg, List.headD_cons, app0, app1, app2, app3]
 refine (impl_arePairs_1.calls _ _ x gc1 a1 gc2 a2 b W hi0 hl0 (blk_below hW hbk1) (blk_below hW hbk2) hb).mono ?_
 rintro e w' ⟨he, hd⟩
 exact ⟨he, hd⟩

/-! ### impl_arePairs: function 15 -/
def impl_arePairs.f (l0 : List (List Int)) (a1 : Int) (a2 : Int) : Option (Bool) := if (l0.length : Int) ≤ 6 then ((impl_areAll_Lint__impl_arePairs_1.f l0 a1 a2).bind fun t182 => (some t182)) else (some false)
set_option maxHeartbeats 8000000 in
set_option maxRecDepth 100000 in
theorem impl_arePairs.calls (A0 : Option Addr) (c0 : Nat) (l0 : List (List Int)) (a1 : Int) (a2 : Int) (r : Bool) (w : World) (hr0 : Kd.C (Kd.slice 3 (Kd.int .i64)) w A0 l0.length l0) (hc0 : l0.length ≤ c0) (h : impl_arePairs.f l0 a1 a2 = some r) :
  Calls Try.prog 15 #[.slice A0 l0.length c0, .int .i64 a1, .int .i64 a2] w fun e w' => e = .returned (.bool r) ∧ Below w.heap.size w w' := by
 have HR0 := xm hr0
 have HC0 := xm hc0
 clear hr0 hc0
 have HB := xm (Below.refl w.heap.size w)
 have H : (if (l0.length : Int) ≤ 6 then ((impl_areAll_Lint__impl_arePairs_1.f l0 a1 a2).bind fun t182 => (some t182)) else (some false)) = some r := h
 clear h
 by_cases c4 : (l0.length : Int) ≤ 6
 ·rw [if_pos c4] at H
  have c4b0 : decide ((l0.length : Int) ≤ 6) = true := decide_eq_true c4
  have c4b1 : decide (l0.length ≤ 6) = true := decide_eq_true (by omega)
  clear c4
  replace H := Option.bind_eq_some_iff.mp H
  obtain ⟨t182, A50, H⟩ := H
  replace H : (some t182) = some r := H
  have A5 := xm A50
  clear A50
  obtain rfl := Option.some.inj H
  go_enter Try.func15, Try.ntmps15
  go_wp2_with (first | ((with_reducible refine gate_dst (N := 4) rfl ?_); refine box_event ?hg (N := 4) ?hd (cs := #[.int .i64 a1]) (t := 3) ?hr ?_; (case hd => rfl); (case hg => rfl); (case hr => exact zB); intro gb180 hg w6 hbox hb; have n0_ := xm (below_step bB hb); have n1_ := xm (hbox); have n2_ := xm ((by rw [hg]; exact (xz bB) : w.heap.size ≤ gb180)); have n3_ := xm ((by rw [hg]; exact (xz bB) : w.heap.size ≤ gb180)); revert n0_ n1_ n2_ n3_; clear HB; intro HB BK180 GW180 GE180; clear hb hbox hg) | ((with_reducible refine gate_dst (N := 5) rfl ?_); refine box_event ?hg (N := 5) ?hd (cs := #[.int .i64 a2]) (t := 3) ?hr ?_; (case hd => rfl); (case hg => rfl); (case hr => exact zB); intro gb181 hg w7 hbox hb; have n0_ := xm (blk_below (kB BK180) hb); have n1_ := xm (below_step bG hb); have n2_ := xm (hbox); have n3_ := xm ((by rw [hg]; exact (xz bG) : w.heap.size ≤ gb181)); have n4_ := xm ((by rw [hg]; exact (xz bG) : w.heap.size ≤ gb181)); have n5_ := xm ((by rw [hg]; exact Nat.ne_of_lt (blk_lt (kB BK180)) : gb180 ≠ gb181)); have n6_ := xm ((by rw [hg]; exact Nat.ne_of_gt (blk_lt (kB BK180)) : gb181 ≠ gb180)); revert n0_ n1_ n2_ n3_ n4_ n5_ n6_; clear BK180 HB; intro BK180 HB BK181 GW181 GE181 NB180_181 NB181_180; clear hb hbox hg) | (go_at_call 32; (with_reducible refine (impl_areAll_Lint__impl_arePairs_1.calls _ _ l0 gb180 a1 gb181 a2 t182 _ ?side1 ?side2 ?side3 ?side4 A5.out).mono ?_); (case side1 => exact cB (Kd.C_below HR0.out HB.out)); (case side2 => exact HC0.out); (case side3 => exact by (with_reducible repeat (first | refine xq ?_ _ | refine xr ?_ | refine xo ?_ _)); exact BK180.out); (case side4 => exact by (with_reducible repeat (first | refine xq ?_ _ | refine xr ?_ | refine xo ?_ _)); exact BK181.out); rintro e w8 ⟨rfl, hb⟩; have n0_ := xm (blk_below (kB BK180) hb); have n1_ := xm (blk_below (kB BK181) hb); have n2_ := xm (below_step bG hb); revert n0_ n1_ n2_; clear BK180 BK181 HB; intro BK180 BK181 HB; (try clear hb)))
  go_ret
  exact ⟨eB, bG⟩
 ·rw [if_neg c4] at H
  have c4b0 : decide ((l0.length : Int) ≤ 6) = false := decide_eq_false c4
  have c4b1 : decide (l0.length ≤ 6) = false := decide_eq_false (by omega)
  clear c4
  obtain rfl := Option.some.inj H
  go_enter Try.func15, Try.ntmps15
  go_wp2_with (first | ((with_reducible refine gate_dst (N := 4) rfl ?_); refine box_event ?hg (N := 4) ?hd (cs := #[.int .i64 a1]) (t := 3) ?hr ?_; (case hd => rfl); (case hg => rfl); (case hr => exact zB); intro gb180 hg w9 hbox hb; have n0_ := xm (below_step bB hb); have n1_ := xm (hbox); have n2_ := xm ((by rw [hg]; exact (xz bB) : w.heap.size ≤ gb180)); have n3_ := xm ((by rw [hg]; exact (xz bB) : w.heap.size ≤ gb180)); revert n0_ n1_ n2_ n3_; clear HB; intro HB BK180 GW180 GE180; clear hb hbox hg) | ((with_reducible refine gate_dst (N := 5) rfl ?_); refine box_event ?hg (N := 5) ?hd (cs := #[.int .i64 a2]) (t := 3) ?hr ?_; (case hd => rfl); (case hg => rfl); (case hr => exact zB); intro gb181 hg w10 hbox hb; have n0_ := xm (blk_below (kB BK180) hb); have n1_ := xm (below_step bG hb); have n2_ := xm (hbox); have n3_ := xm ((by rw [hg]; exact (xz bG) : w.heap.size ≤ gb181)); have n4_ := xm ((by rw [hg]; exact (xz bG) : w.heap.size ≤ gb181)); have n5_ := xm ((by rw [hg]; exact Nat.ne_of_lt (blk_lt (kB BK180)) : gb180 ≠ gb181)); have n6_ := xm ((by rw [hg]; exact Nat.ne_of_gt (blk_lt (kB BK180)) : gb181 ≠ gb180)); revert n0_ n1_ n2_ n3_ n4_ n5_ n6_; clear BK180 HB; intro BK180 HB BK181 GW181 GE181 NB180_181 NB181_180; clear hb hbox hg))
  go_ret
  exact ⟨eB, bG⟩

/-! ### impl_Row_picked: function 22 -/
def impl_Row_picked.l0 : Nat → List Int → Int → Int → List Int → List Int → Option (List Int)
 | 0, _, _, _, _, _ => none
 | k + 1, x8, x9, x10, x184000, x186000 => if x10 < x9 then (if 0 ≤ x10 then (if x10 < (x8.length : Int) then (if 0 ≤ (rd x8 x10) then (if (rd x8 x10) < (x184000.length : Int) then (if x186000.length < 17592186044416 then (impl_Row_picked.l0 k x8 x9 (wrap64 (x10 + 1)) x184000 (x186000 ++ [rd x184000 (rd x8 x10)])) else (none)) else (none)) else (none)) else (none)) else (none)) else (some x186000)
def impl_Row_picked.f (k : Nat) (l0_0 : List Int) (l1 : List Int) : Option (List Int) := impl_Row_picked.l0 k l1 (l1.length : Int) 0 l0_0 ([] : List Int)
theorem impl_Row_picked.mono_l : ∀ k, (∀ y0 y1 y2 y3 y4, LeO (impl_Row_picked.l0 k y0 y1 y2 y3 y4) (impl_Row_picked.l0 (k + 1) y0 y1 y2 y3 y4))
 | 0 => fun _ _ _ _ _ r h => by simp [impl_Row_picked.l0] at h
 | k + 1 => by
  have ih0 := impl_Row_picked.mono_l k
  ·intro y0 y1 y2 y3 y4
   unfold impl_Row_picked.l0
   repeat' first
   | (with_reducible exact ih0 _ _ _ _ _)
   | (with_reducible exact LeO.refl _)
   | (with_reducible exact LeO.none _)
   | (with_reducible refine LeO.ite ?_ ?_)
   | (with_reducible refine LeO.bind ?_ (fun _ => ?_))
   | exact ih0 _ _ _ _ _
   | exact LeO.none _
   | refine LeO.ite ?_ ?_
   | refine LeO.bind ?_ (fun _ => ?_)
theorem impl_Row_picked.mono : ∀ a0 a1 k, LeO (impl_Row_picked.f k a0 a1) (impl_Row_picked.f (k + 1) a0 a1) := by
 intro a0 a1 k
 have ih0 := impl_Row_picked.mono_l k
 unfold impl_Row_picked.f
 repeat' first
   | (with_reducible exact ih0 _ _ _ _ _)
   | (with_reducible exact LeO.refl _)
   | (with_reducible exact LeO.none _)
   | (with_reducible refine LeO.ite ?_ ?_)
   | (with_reducible refine LeO.bind ?_ (fun _ => ?_))
   | exact ih0 _ _ _ _ _
   | exact LeO.none _
   | refine LeO.ite ?_ ?_
   | refine LeO.bind ?_ (fun _ => ?_)
def impl_Row_picked.T5 : Bool × List (List Nat × List Nat) := (true, [([], []), ([0], [0]), ([], []), ([2], [2]), ([], []), ([3, 4], [3, 4]), ([5], [5]), ([6], [6]), ([1, 7], [1, 7]), ([0, 1, 2, 3, 4, 5, 6, 7, 8], []), ([9, 8, 8, 0, 1, 2, 3, 4, 5, 6, 7, 8], [8, 9])])
def impl_Row_picked.B5 : List Nat := [0, 1, 0, 4, 0, 28, 60, 124, 255, 511, 1023]
theorem impl_Row_picked.tab5 : rtab .any (opsOf Try.f22 5) = impl_Row_picked.T5 := by kernel_rfl
theorem impl_Row_picked.bits5 : waitsOk impl_Row_picked.T5.2 impl_Row_picked.B5 = true := by kernel_rfl
set_option maxHeartbeats 8000000 in
set_option maxRecDepth 100000 in
theorem impl_Row_picked.calls (k : Nat) (A0_0 : Option Addr) (c0_0 : Nat) (l0_0 : List Int) (A1 : Option Addr) (c1 : Nat) (l1 : List Int) (r : List Int) (w : World) (hr0_0 : Kd.C (Kd.int .i64) w A0_0 l0_0.length l0_0) (hc0_0 : l0_0.length ≤ c0_0) (hr1 : Kd.C (Kd.int .i64) w A1 l1.length l1) (hc1 : l1.length ≤ c1) (h : impl_Row_picked.f k l0_0 l1 = some r) :
  Calls Try.prog 22 #[.agg #[.slice A0_0 l0_0.length c0_0], .slice A1 l1.length c1] w fun e w' => ∃ v0_ : Value, e = .returned (.agg #[v0_]) ∧ Kd.R (Kd.int .i64) 3 w' w.heap.size (fun _ => True) v0_ r ∧ Below w.heap.size w w' := by
 have hu25 := Try.underlying25
 have HR0_0 := xm hr0_0
 have HC0_0 := xm hc0_0
 clear hr0_0 hc0_0
 have HR1 := xm hr1
 have HC1 := xm hc1
 clear hr1 hc1
 have HB := xm (Below.refl w.heap.size w)
 have H : (impl_Row_picked.l0 k l1 (l1.length : Int) 0 l0_0 ([] : List Int)) = some r := h
 clear h
 have H' := xm H
 clear H
 go_enter Try.func22, Try.ntmps22
 go_wp2_with (first | ((with_reducible refine gate_dst (N := 2) rfl ?_); refine box_event ?hg (N := 2) ?hd (cs := #[.slice A0_0 l0_0.length c0_0]) (t := 25) ?hr ?_; (case hd => rfl); (case hg => rfl); (case hr => exact zB); intro gb183 hg w3 hbox hb; have n0_ := xm (below_step bB hb); have n1_ := xm (hbox); have n2_ := xm ((by rw [hg]; exact (xz bB) : w.heap.size ≤ gb183)); have n3_ := xm ((by rw [hg]; exact (xz bB) : w.heap.size ≤ gb183)); revert n0_ n1_ n2_ n3_; clear HB; intro HB BK183 GW183 GE183; clear hb hbox hg) | ((with_reducible refine gate_dst (N := 4) rfl ?_); refine box_event ?hg (N := 4) ?hd (cs := #[.slice none 0 0]) (t := 25) ?hr ?_; (case hd => rfl); (case hg => rfl); (case hr => exact zB); intro gb184 hg w4 hbox hb; have n0_ := xm (blk_below (kB BK183) hb); have n1_ := xm (below_step bG hb); have n2_ := xm (hbox); have n3_ := xm ((by rw [hg]; exact (xz bG) : w.heap.size ≤ gb184)); have n4_ := xm ((by rw [hg]; exact (xz bG) : w.heap.size ≤ gb184)); have n5_ := xm ((by rw [hg]; exact Nat.ne_of_lt (blk_lt (kB BK183)) : gb183 ≠ gb184)); have n6_ := xm ((by rw [hg]; exact Nat.ne_of_gt (blk_lt (kB BK183)) : gb184 ≠ gb183)); revert n0_ n1_ n2_ n3_ n4_ n5_ n6_; clear BK183 HB; intro BK183 HB BK184 GW184 GE184 NB183_184 NB184_183; clear hb hbox hg) | ((with_reducible refine gate_dst (N := 5) rfl ?_); refine box_event ?hg (N := 5) ?hd (cs := #[.slice none 0 0]) (t := 25) ?hr ?_; (case hd => rfl); (case hg => rfl); (case hr => exact zB); intro gb185 hg w5 hbox hb; have n0_ := xm (blk_below (kB BK183) hb); have n1_ := xm (blk_below (kB BK184) hb); have n2_ := xm (below_step bG hb); have n3_ := xm (hbox); have n4_ := xm ((by rw [hg]; exact (xz bG) : w.heap.size ≤ gb185)); have n5_ := xm ((by rw [hg]; exact (xz bG) : w.heap.size ≤ gb185)); have n6_ := xm ((by rw [hg]; exact Nat.ne_of_lt (blk_lt (kB BK183)) : gb183 ≠ gb185)); have n7_ := xm ((by rw [hg]; exact Nat.ne_of_gt (blk_lt (kB BK183)) : gb185 ≠ gb183)); have n8_ := xm ((by rw [hg]; exact Nat.ne_of_lt (blk_lt (kB BK184)) : gb184 ≠ gb185)); have n9_ := xm ((by rw [hg]; exact Nat.ne_of_gt (blk_lt (kB BK184)) : gb185 ≠ gb184)); revert n0_ n1_ n2_ n3_ n4_ n5_ n6_ n7_ n8_ n9_; clear BK183 BK184 HB; intro BK183 BK184 HB BK185 GW185 GE185 NB183_185 NB185_183 NB184_185 NB185_184; clear hb hbox hg))
 go_loopg [10] k (fun kq v10 w' => ∃ (x10_1 : Int) (x186000_1 : List Int) (u186000 : Value), v10 = .int .i64 x10_1 ∧ Aside0 (impl_Row_picked.l0 kq l1 (l1.length : Int) x10_1 l0_0 x186000_1 = some r) ∧ Aside0 (kq ≤ k) ∧ Aside0 (Kd.R (Kd.int .i64) 3 w' w.heap.size (fun _ => True) u186000 x186000_1) ∧ Aside0 (w'.heap[gb183]? = some (.cells #[(.slice A0_0 l0_0.length c0_0)] 25 (0, 0))) ∧ Aside0 (w'.heap[gb184]? = some (.cells #[(.slice none 0 0)] 25 (0, 0))) ∧ Aside0 (w'.heap[gb185]? = some (.cells #[u186000] 25 (0, 0))) ∧ Aside0 (Below w.heap.size w w'))
 case atStart => exact ⟨(0), (([] : List Int)), (.slice none 0 0), sB, H', ⟨Nat.le_refl _⟩, ⟨by first | exact Kd.R_nil _ _ _ _ _ | exact Kd.N_nil _ _ _ _ _ | exact Kd.V_nil _ _ _ _ _ | exact Kd.Q_nil _ _ _ _ _ | exact Kd.S_nil _ _ _ _ _⟩, ⟨kB BK183⟩, ⟨kB BK184⟩, ⟨kB BK185⟩, ⟨bG⟩⟩
 case round =>
  clear H'
  try clear c1
  try clear c2
  try clear p2
  obtain ⟨x10_1, x186000_1, u186000, rfl, HA, HK1, HO_186000, BK183, BK184, BK185, HB⟩ := hrel
  cases gk with
  | zero => exact absurd HA.out (by simp [impl_Row_picked.l0])
  | succ k1 =>
   have H := HA.out
   clear HA
   simp only [impl_Row_picked.l0] at H
   by_cases c6 : x10_1 < (l1.length : Int)
   ·rw [if_pos c6] at H
    have c6b0 : decide (x10_1 < (l1.length : Int)) = true := decide_eq_true c6
    clear c6
    by_cases c7 : 0 ≤ x10_1
    ·rw [if_pos c7] at H
     have c7b0 : decide (0 ≤ x10_1) = true := decide_eq_true c7
     clear c7
     by_cases c8 : x10_1 < (l1.length : Int)
     ·rw [if_pos c8] at H
      have c8b0 : decide (x10_1 < (l1.length : Int)) = true := decide_eq_true c8
      clear c8
      by_cases c9 : 0 ≤ (rd l1 x10_1)
      ·rw [if_pos c9] at H
       have c9b0 : decide (0 ≤ (rd l1 x10_1)) = true := decide_eq_true c9
       clear c9
       by_cases c10 : (rd l1 x10_1) < (l0_0.length : Int)
       ·rw [if_pos c10] at H
        have c10b0 : decide ((rd l1 x10_1) < (l0_0.length : Int)) = true := decide_eq_true c10
        clear c10
        by_cases c11 : x186000_1.length < 17592186044416
        ·rw [if_pos c11] at H
         have LMc11 := xm c11
         clear c11
         obtain ⟨y188, hy188⟩ : ∃ y_ : List Int, y_ = (x186000_1 ++ [rd l0_0 (rd l1 x10_1)]) := ⟨_, rfl⟩
         replace H : (impl_Row_picked.l0 k1 l1 (l1.length : Int) (wrap64 (x10_1 + 1)) l0_0 y188) = some r := by first | (rw [hy188]; with_reducible exact H) | (have H2_ := (Option.bind_some _ _).symm.trans H; rw [hy188]; with_reducible exact H2_) | (have H2_ := (Option.bind_some _ _).symm.trans H; with_reducible exact H2_) | with_reducible exact H | (rw [hy188]; exact H) | exact H
         have Ny188 := xm hy188
         clear hy188
         have H' := xm H
         clear H
         have p186 : 0 ≤ (x10_1 : Int) := of_decide_eq_true aB
         have q186 : x10_1 < (l1.length : Int) := of_decide_eq_true aB
         obtain ⟨ad186, e186, hx186_0⟩ := Kd.at_int HR1.out x10_1 p186 q186
         cases e186
         replace hx186_0 := hU hx186_0
         replace p186 := eq_true p186
         replace q186 := eq_true q186
         try go_wp2
         have n0_ := xm (Kd.R_drew HO_186000.out)
         have n1_ := xm (xr BK183.out)
         have n2_ := xm (xr BK184.out)
         have n3_ := xm (xr BK185.out)
         have n4_ := xm (xd HB.out)
         revert n0_ n1_ n2_ n3_ n4_; clear HO_186000 BK183 BK184 BK185 HB; intro HO_186000 BK183 BK184 BK185 HB
         have p187 : 0 ≤ ((rd l1 x10_1) : Int) := of_decide_eq_true aB
         have q187 : (rd l1 x10_1) < (l0_0.length : Int) := of_decide_eq_true aB
         obtain ⟨ad187, e187, hx187_0⟩ := Kd.at_int HR0_0.out (rd l1 x10_1) p187 q187
         have hw187_0 := hx187_0
         cases e187
         replace hx187_0 := hU hx187_0
         replace p187 := eq_true p187
         replace q187 := eq_true q187
         refine start_ (n := 11) (S := fun w' => w'.cell? ⟨gb185, 0, none⟩ = some (u186000) ∧ w'.cell? ⟨gb183, 0, none⟩ = some (.slice (some ad187) l0_0.length c0_0) ∧ w'.cell? (ad187.add ((rd l1 x10_1)).toNat) = some (.int .i64 (rd l0_0 (rd l1 x10_1)))) (ds := [10]) #[Z,Z,Z,Z,Z,Z,Z,Z,Z,Z,Z] (by kernel_rfl) rfl rfl ⟨(xc BK185.out 0).trans rfl, (xc BK183.out 0).trans rfl, ((HB.out.cell (World.block_lt_of_cell? w _ hw187_0)).trans hw187_0)⟩ (fun hHeld => ?_); refine with_tabW impl_Row_picked.tab5 impl_Row_picked.bits5 (fun HT_ HW_ => ?_)
         generalize wr.drew = w12 at HO_186000 BK183 BK184 BK185 HB hx187_0 hHeld ⊢
         refine pu 0 11 1 ?_
         refine pu 2 11 5 ?_
         refine pu 4 11 21 ?_
         refine tx 1 11 23 rfl rfl (take_ofW HT_.out HW_.out (by kernel_rfl)) hHeld (by rintro w' ⟨s0, s1, s2⟩; go_simp; with_reducible rfl) ?_
         refine tx 3 11 31 rfl rfl (take_ofW HT_.out HW_.out (by kernel_rfl)) hHeld (by rintro w' ⟨s0, s1, s2⟩; go_simp; with_reducible rfl) ?_
         refine pu 5 11 63 ?_
         refine tx 6 11 127 rfl rfl (take_ofW HT_.out HW_.out (by kernel_rfl)) hHeld (by rintro w' ⟨s0, s1, s2⟩; go_simp; with_reducible rfl) ?_
         refine one_ (i := 7) (N := some 21) #[Y,Y,Y,Y,Y,Y,Y,Y,Z,Z,Z] rfl rfl (one_of HT_.out (by kernel_rfl)) (by decide) (fun K hK => ?_)
         refine value_ (w1 := ?_) (v := ?_) (by rfl) rfl ?_ ?_
         rotate_left 2
         ·go_simp
          constructor
          ·rfl
          ·rfl
         refine hK.out _ _ ⟨(xc (xo BK185.out _) 0).trans rfl, (xc (xo BK183.out _) 0).trans rfl, (World.cell?_alloc_lt _ _ _ (World.block_lt_of_cell? _ _ (((HB.out.cell (World.block_lt_of_cell? w _ hw187_0)).trans hw187_0)))).trans (((HB.out.cell (World.block_lt_of_cell? w _ hw187_0)).trans hw187_0))⟩ (fun hHeld => nC ?_)
         clear hK K
         refine one_ (i := 8) (N := some 22) #[Y,Y,Y,Y,Y,Y,Y,Y,Y,Z,Z] rfl rfl (one_of HT_.out (by kernel_rfl)) (by decide) (fun K hK => ?_)
         refine Kd.R_append_step (Kd.int .i64) (w0 := w) w.heap.size (by rfl) (.tmp 15) (.tmp 21) 23 3 (.int .i64 0) 8 rfl Try.underlying23 info3 rfl (by decide) (by omega) u186000 x186000_1 (rd l0_0 (rd l1 x10_1)) [.int .i64 (rd l0_0 (rd l1 x10_1))] (fun _ => True) (fun _ => False) rfl rfl ?aP (fun _ hk => hk.elim) ?aF ?aO ?aB ?aS ?aL ?_
         (case aP => exact rfl)
         (case aB => exact bG)
         (case aF => exact (fun _ _ => trivial))
         (case aO => exact (rB HO_186000))
         (case aS => exact (xz bG))
         (case aL => have := LMc11.out; omega)
         intro v189 w13 ho hb hg hat
         rw [← Ny188.out] at ho
         have n0_ := xm (blk_grown (kB BK183) hg (Kd.R_ne HO_186000.out BK183.out (by decide)))
         have n1_ := xm (blk_grown (kB BK184) hg (Kd.R_ne HO_186000.out BK184.out (by decide)))
         have n2_ := xm (blk_grown (kB BK185) hg (Kd.R_ne HO_186000.out BK185.out (by decide)))
         have n3_ := xm (hb)
         have n4_ := xm (ho)
         revert n0_ n1_ n2_ n3_ n4_; clear BK183 BK184 BK185 HB HO_186000; intro BK183 BK184 BK185 HB HO190
         clear ho hb hg hat
         obtain ⟨Ao14, co14, eo14⟩ := Kd.R_slice HO190.out
         (first | subst eo14 | (injection eo14 with f1_ f2_ f3_; have f4_ := f1_.symm; have f5_ := f3_.symm; clear f1_ f2_ f3_; subst f4_; subst f5_))
         refine hK.out _ _ ⟨(xc BK185.out 0).trans rfl, (xc BK183.out 0).trans rfl, ((HB.out.cell (World.block_lt_of_cell? w _ hw187_0)).trans hw187_0)⟩ (fun hHeld => nC ?_)
         clear hK K
         refine pu 9 11 1023 ?_
         refine last_ (i := 10) (N := none) #[Y,Y,Y,Y,Y,Y,Y,Y,Y,Y,Y] rfl rfl (one_of HT_.out (by kernel_rfl)) (by decide) (fun K hK => ?_)
         have hs15 : w13.cell? ⟨gb185, 0, none⟩ = some (u186000) := (xc BK185.out 0).trans rfl
         have hfs15 := xf BK185.out 0
         have hns15_0 := NB183_185.out
         have hns15_1 := NB184_185.out
         have hms15_0 := NB185_183.out
         have hms15_1 := NB185_184.out
         refine skip_ (w1 := ?_) (by rfl) rfl ?_ ?_
         rotate_left
         ·go_simp
          rfl
         refine hK.out _ _ ?_
         clear hK K
         refine done_ (done_of HT_.out (by kernel_rfl)) ?_
         try go_wp2
         go_roundg k1
         case measure => have := HK1.out; omega
         case rel => exact ⟨(wrap64 (x10_1 + 1)), (y188), (.slice Ao14 y188.length co14), sB, H', ⟨by have := HK1.out; omega⟩, ⟨by (with_reducible repeat (first | apply Kd.R_alloc | apply Kd.R_drewN | apply Kd.R_drew)); exact Kd.R_mono (Kd.R_far (p := ⟨gb185, 0, none⟩) (Kd.R_types HO190.out BK185.out (by decide)) (fun _ hk => hk.2) (.slice Ao14 y188.length co14)) (fun _ hk => trivial)⟩, ⟨by (with_reducible repeat (first | refine xq ?_ _ | refine xr ?_ | refine xo ?_ _)); refine blk_far ?_ NB183_185.out _; (with_reducible repeat (first | refine xq ?_ _ | refine xr ?_ | refine xo ?_ _)); exact BK183.out⟩, ⟨by (with_reducible repeat (first | refine xq ?_ _ | refine xr ?_ | refine xo ?_ _)); refine blk_far ?_ NB184_185.out _; (with_reducible repeat (first | refine xq ?_ _ | refine xr ?_ | refine xo ?_ _)); exact BK184.out⟩, ⟨by (with_reducible repeat (first | refine xq ?_ _ | refine xr ?_ | refine xo ?_ _)); refine blk_put (cs := #[u186000]) ?_ 0 _ rfl; (with_reducible repeat (first | refine xq ?_ _ | refine xr ?_ | refine xo ?_ _)); exact BK185.out⟩, ⟨bG⟩⟩
        ·rw [if_neg c11] at H
         exact absurd H (by simp)
       ·rw [if_neg c10] at H
        exact absurd H (by simp)
      ·rw [if_neg c9] at H
       exact absurd H (by simp)
     ·rw [if_neg c8] at H
      exact absurd H (by simp)
    ·rw [if_neg c7] at H
     exact absurd H (by simp)
   ·rw [if_neg c6] at H
    have c6b0 : decide (x10_1 < (l1.length : Int)) = false := decide_eq_false c6
    clear c6
    obtain rfl := Option.some.inj H
    have hnb16 := NB185_183.out
    have hnc16 := NB183_185.out
    have hnb17 := NB185_184.out
    have hnc17 := NB184_185.out
    obtain ⟨hcz18_0, hfz18_0⟩ := cz1 BK185.out
    obtain ⟨Ao19, co19, eo19⟩ := Kd.R_slice HO_186000.out
    subst eo19
    have hnb20 := NB184_183.out
    have hnc20 := NB183_184.out
    obtain ⟨hcz21_0, hfz21_0⟩ := cz1 BK184.out
    go_wp2
    refine bodyPost_ret (results_cell_row rfl _ _ gb184 25 #[.slice Ao19 x186000_1.length co19] (0, 0) _ rfl (by (with_reducible repeat (first | refine xq ?_ _ | refine xr ?_ | refine xo ?_ _)); refine blk_put (cs := #[.slice none 0 0]) ?_ 0 _ rfl; (with_reducible repeat (first | refine xq ?_ _ | refine xr ?_ | refine xo ?_ _)); exact BK184.out) Try.underlying25 rfl (by kernel_rfl)) rfl ?_
    exact ⟨_, eB, by (with_reducible repeat (first | apply Kd.R_alloc | apply Kd.R_drewN | apply Kd.R_drew)); exact Kd.R_mono (Kd.R_far (p := ⟨gb184, 0, none⟩) (Kd.R_types HO_186000.out BK184.out (by decide)) (fun _ hk => hk.2) (.slice Ao19 x186000_1.length co19)) (fun _ hk => trivial), bG⟩

/-! ### impl_joined_1: function 35 -/
def impl_joined_1.f (l0 : List Int) (l1_0 : List Int) (l2_0 : List Int) : Option (Bool) := if 0 < (l0.length : Int) then (if 0 ≤ (rd l0 0) then (if (rd l0 0) < (l1_0.length : Int) then (if 1 < (l0.length : Int) then (if 0 ≤ (rd l0 1) then (if (rd l0 1) < (l2_0.length : Int) then (some ((rd l1_0 (rd l0 0)) == (rd l2_0 (rd l0 1)))) else (none)) else (none)) else (none)) else (none)) else (none)) else (none)
set_option maxHeartbeats 8000000 in
set_option maxRecDepth 100000 in
theorem impl_joined_1.calls (A0 : Option Addr) (c0 : Nat) (l0 : List Int) (gc1 : Nat) (A1_0 : Option Addr) (c1_0 : Nat) (l1_0 : List Int) (gc2 : Nat) (A2_0 : Option Addr) (c2_0 : Nat) (l2_0 : List Int) (r : Bool) (w : World) (hr0 : Kd.C (Kd.int .i64) w A0 l0.length l0) (hc0 : l0.length ≤ c0) (hr1_0 : Kd.C (Kd.int .i64) w A1_0 l1_0.length l1_0) (hc1_0 : l1_0.length ≤ c1_0) (hr2_0 : Kd.C (Kd.int .i64) w A2_0 l2_0.length l2_0) (hc2_0 : l2_0.length ≤ c2_0) (hbk1 : w.heap[gc1]? = some (.cells #[.slice A1_0 l1_0.length c1_0] 25 (0, 0))) (hbk2 : w.heap[gc2]? = some (.cells #[.slice A2_0 l2_0.length c2_0] 25 (0, 0))) (h : impl_joined_1.f l0 l1_0 l2_0 = some r) :
  Calls Try.prog 35 #[.slice A0 l0.length c0, .pointer (some ⟨gc1, 0, none⟩), .pointer (some ⟨gc2, 0, none⟩)] w fun e w' => e = .returned (.bool r) ∧ Below w.heap.size w w' := by
 have HR0 := xm hr0
 have HC0 := xm hc0
 clear hr0 hc0
 have HR1_0 := xm hr1_0
 have HC1_0 := xm hc1_0
 clear hr1_0 hc1_0
 have HR2_0 := xm hr2_0
 have HC2_0 := xm hc2_0
 clear hr2_0 hc2_0
 have BK191 := xm hbk1
 clear hbk1
 have BK192 := xm hbk2
 clear hbk2
 have HB := xm (Below.refl w.heap.size w)
 have H : (if 0 < (l0.length : Int) then (if 0 ≤ (rd l0 0) then (if (rd l0 0) < (l1_0.length : Int) then (if 1 < (l0.length : Int) then (if 0 ≤ (rd l0 1) then (if (rd l0 1) < (l2_0.length : Int) then (some ((rd l1_0 (rd l0 0)) == (rd l2_0 (rd l0 1)))) else (none)) else (none)) else (none)) else (none)) else (none)) else (none)) = some r := h
 clear h
 by_cases c4 : 0 < (l0.length : Int)
 ·rw [if_pos c4] at H
  have c4b0 : decide (0 < (l0.length : Int)) = true := decide_eq_true c4
  have c4b1 : decide (0 < l0.length) = true := decide_eq_true (by omega)
  clear c4
  by_cases c5 : 0 ≤ (rd l0 0)
  ·rw [if_pos c5] at H
   have c5b0 : decide (0 ≤ (rd l0 0)) = true := decide_eq_true c5
   clear c5
   by_cases c6 : (rd l0 0) < (l1_0.length : Int)
   ·rw [if_pos c6] at H
    have c6b0 : decide ((rd l0 0) < (l1_0.length : Int)) = true := decide_eq_true c6
    clear c6
    by_cases c7 : 1 < (l0.length : Int)
    ·rw [if_pos c7] at H
     have c7b0 : decide (1 < (l0.length : Int)) = true := decide_eq_true c7
     have c7b1 : decide (1 < l0.length) = true := decide_eq_true (by omega)
     clear c7
     by_cases c8 : 0 ≤ (rd l0 1)
     ·rw [if_pos c8] at H
      have c8b0 : decide (0 ≤ (rd l0 1)) = true := decide_eq_true c8
      clear c8
      by_cases c9 : (rd l0 1) < (l2_0.length : Int)
      ·rw [if_pos c9] at H
       have c9b0 : decide ((rd l0 1) < (l2_0.length : Int)) = true := decide_eq_true c9
       clear c9
       obtain rfl := Option.some.inj H
       obtain ⟨hcz10_0, hfz10_0⟩ := cz1 BK191.out
       have p193 : 0 ≤ (0 : Int) := (by omega)
       have q193 : 0 < (l0.length : Int) := of_decide_eq_true aB
       obtain ⟨ad193, e193, hx193_0⟩ := Kd.at_int HR0.out 0 p193 q193
       cases e193
       have qi193 : (0 < l0.length) = True := eq_true (by omega)
       (try rw [show ((0 : Int)).toNat = 0 from rfl] at hx193_0)
       (try rw [Addr.add_zero'] at hx193_0)
       replace p193 := eq_true p193
       replace q193 := eq_true q193
       have p194 : 0 ≤ ((rd l0 0) : Int) := of_decide_eq_true aB
       have q194 : (rd l0 0) < (l1_0.length : Int) := of_decide_eq_true aB
       obtain ⟨ad194, e194, hx194_0⟩ := Kd.at_int HR1_0.out (rd l0 0) p194 q194
       cases e194
       replace p194 := eq_true p194
       replace q194 := eq_true q194
       obtain ⟨hcz11_0, hfz11_0⟩ := cz1 BK192.out
       have p195 : 0 ≤ (1 : Int) := (by omega)
       have q195 : 1 < (l0.length : Int) := of_decide_eq_true aB
       obtain ⟨ad195, e195, hx195_0⟩ := Kd.at_int HR0.out 1 p195 q195
       obtain rfl : ad193 = ad195 := (by injection e195)
       (try simp only [show (1 : Int).toNat = 1 from rfl, Nat.reduceMul, Nat.reduceEqDiff, Go.Addr.add, ↓reduceIte] at hx195_0)
       have qi195 : (1 < l0.length) = True := eq_true (by omega)
       (try rw [show ((1 : Int)).toNat = 1 from rfl] at hx195_0)
       replace p195 := eq_true p195
       replace q195 := eq_true q195
       have p196 : 0 ≤ ((rd l0 1) : Int) := of_decide_eq_true aB
       have q196 : (rd l0 1) < (l2_0.length : Int) := of_decide_eq_true aB
       obtain ⟨ad196, e196, hx196_0⟩ := Kd.at_int HR2_0.out (rd l0 1) p196 q196
       cases e196
       replace p196 := eq_true p196
       replace q196 := eq_true q196
       go_enter Try.func35, Try.ntmps35
       go_wp2
       repeat (go_quiet (fail); try go_wp2)
       go_ret
       exact ⟨eB, bG⟩
      ·rw [if_neg c9] at H
       exact absurd H (by simp)
     ·rw [if_neg c8] at H
      exact absurd H (by simp)
    ·rw [if_neg c7] at H
     exact absurd H (by simp)
   ·rw [if_neg c6] at H
    exact absurd H (by simp)
  ·rw [if_neg c5] at H
   exact absurd H (by simp)
 ·rw [if_neg c4] at H
  exact absurd H (by simp)

end Go.Proofs.Ytmelechhnimlnaa.G
