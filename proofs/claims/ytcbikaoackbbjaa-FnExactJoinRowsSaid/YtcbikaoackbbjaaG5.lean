/- Written by a program of this claim's own, out of the translation: functions of the program as plain functions, and that the calls answer as these. No conditions. -/
import Derived.Test.YtcbikaoackbbjaaG0
import Derived.Test.YtcbikaoackbbjaaG4
namespace Go.Proofs.Ytcbikaoackbbjaa.G
open Go.RowKit Go.Proofs.Ytcbikaoackbbjaa.X Go.Proofs.YtcbikaoackbbjaaW.PrintWords Go.Proofs.YtcbikaoackbbjaaW.PrintLast Go.Proofs.YtcbikaoackbbjaaW.PrintMore
attribute [local go_sem] max2_int min2_int max_two min_two max_three min_three max_four min_four   -- for this text's walks alone
set_option linter.unusedVariables false
set_option linter.unusedSimpArgs false

/-! ### impl_areAll_Lint: function 148 -/
theorem enters165 : ∀ args w, (callFunc 165 args).run Try.prog w = .ok (.enter 165 args) w := enters_of Try.func165 (by kernel_rfl) rfl
set_option maxHeartbeats 8000000 in
set_option maxRecDepth 100000 in
theorem impl_areAll_Lint.any (g : Nat) (lb : Array Value) (eg : ∀ args w, (callFunc g args).run Try.prog w = .ok (.enter g args) w) (pf : List Int → Option Bool)
  (A0 : Option Addr) (c0 : Nat) (l0 : List (List Int)) (r : Bool) (w : World) (hr0 : Kd.C (Kd.slice 3 (Kd.int .i64)) w A0 l0.length l0) (hc0 : l0.length ≤ c0) (hp : PB Try.prog g lb (Kd.slice 3 (Kd.int .i64)) encOne pf w) (h : allO pf l0 = some r) :
  Calls Try.prog 148 #[.slice A0 l0.length c0, .func (.func g) #[] lb] w fun e w' => e = .returned (.bool r) ∧ Below w.heap.size w w' := by
 rw [← any_all pf l0] at h
 obtain ⟨b, hb, rfl⟩ := Option.map_eq_some_iff.mp h
 have hB1 : Below w.heap.size w (w.alloc (.cells #[.func (.func g) #[] lb] 165)) := xa (Below.refl _ _) _
 have HC := xm (slices_ContainsFunc_LLint_Lint.any 165 #[.pointer (some ⟨w.heap.size, 0, none⟩)] enters165 _ A0 c0 l0 b _ (Kd.C_below hr0 hB1) hc0 (impl_areAll_Lint_1.pb g lb eg pf w _ w.heap.size hB1 (heap_new w _ _) hp) hb)
 have HB1 := xm hB1
 clear hr0 hc0 hp h hb eg hB1
 go_enter Try.func148, Try.ntmps148
 go_wp2_with (go_at_call 164; refine HC.out.mono ?_; rintro e w' ⟨rfl, hb⟩)
 go_ret
 exact ⟨rfl, below_step HB1.out hb⟩

/-! ### impl_isPlace: function 137 -/
def impl_isPlace.f (a0 : Int) (a1 : Int) : Option (Bool) := if a0 ≥ 0 then (some (decide (a0 < a1))) else (some false)
set_option maxHeartbeats 8000000 in
set_option maxRecDepth 100000 in
theorem impl_isPlace.calls (a0 : Int) (a1 : Int) (r : Bool) (w : World) (h : impl_isPlace.f a0 a1 = some r) :
  Calls Try.prog 137 #[.int .i64 a0, .int .i64 a1] w fun e w' => e = .returned (.bool r) ∧ Drawn0 w w' := by
 have H : (if a0 ≥ 0 then (some (decide (a0 < a1))) else (some false)) = some r := h
 clear h
 by_cases c3 : a0 ≥ 0
 ·rw [if_pos c3] at H
  have c3b0 : decide (0 ≤ a0) = true := decide_eq_true c3
  clear c3
  obtain rfl := Option.some.inj H
  go_enter Try.func137, Try.ntmps137
  go_wp2
  go_ret
  exact ⟨by first | rfl | (simp; done) | (simp [*]; done), by repeat (first | exact Drawn0.refl _ | apply Drawn0.step)⟩
 ·rw [if_neg c3] at H
  have c3b0 : decide (0 ≤ a0) = false := decide_eq_false c3
  clear c3
  obtain rfl := Option.some.inj H
  go_enter Try.func137, Try.ntmps137
  go_wp2
  go_ret
  exact ⟨by first | rfl | (simp; done) | (simp [*]; done), by repeat (first | exact Drawn0.refl _ | apply Drawn0.step)⟩

/-! ### impl_arePairs_1: function 149 -/
def impl_arePairs_1.f (l0 : List Int) (a1 : Int) (a2 : Int) : Option (Bool) := if (l0.length : Int) = 2 then (if 0 < (l0.length : Int) then ((impl_isPlace.f (rd l0 0) a1).bind fun t182 => (if t182 = true then (if 1 < (l0.length : Int) then ((impl_isPlace.f (rd l0 1) a2).bind fun t184 => (some t184)) else (none)) else (some false))) else (none)) else (some false)
set_option maxHeartbeats 8000000 in
set_option maxRecDepth 100000 in
theorem impl_arePairs_1.calls (A0 : Option Addr) (c0 : Nat) (l0 : List Int) (gc1 : Nat) (a1 : Int) (gc2 : Nat) (a2 : Int) (r : Bool) (w : World) (hr0 : Kd.C (Kd.int .i64) w A0 l0.length l0) (hc0 : l0.length ≤ c0) (hbk1 : w.heap[gc1]? = some (.cells #[.int .i64 a1] 3 (0, 0))) (hbk2 : w.heap[gc2]? = some (.cells #[.int .i64 a2] 3 (0, 0))) (h : impl_arePairs_1.f l0 a1 a2 = some r) :
  Calls Try.prog 149 #[.slice A0 l0.length c0, .pointer (some ⟨gc1, 0, none⟩), .pointer (some ⟨gc2, 0, none⟩)] w fun e w' => e = .returned (.bool r) ∧ Below w.heap.size w w' := by
 have HR0 := xm hr0
 have HC0 := xm hc0
 clear hr0 hc0
 have BK179 := xm hbk1
 clear hbk1
 have BK180 := xm hbk2
 clear hbk2
 have HB := xm (Below.refl w.heap.size w)
 have H : (if (l0.length : Int) = 2 then (if 0 < (l0.length : Int) then ((impl_isPlace.f (rd l0 0) a1).bind fun t182 => (if t182 = true then (if 1 < (l0.length : Int) then ((impl_isPlace.f (rd l0 1) a2).bind fun t184 => (some t184)) else (none)) else (some false))) else (none)) else (some false)) = some r := h
 clear h
 by_cases c4 : (l0.length : Int) = 2
 ·rw [if_pos c4] at H
  have c4b0 : ((l0.length : Int) == 2) = true := beq_iff_eq.mpr c4
  have c4b1 : ((l0.length : Int) != 2) = false := bne_eq_false_iff_eq.mpr c4
  clear c4
  by_cases c5 : 0 < (l0.length : Int)
  ·rw [if_pos c5] at H
   have c5b0 : decide (0 < (l0.length : Int)) = true := decide_eq_true c5
   have c5b1 : decide (0 < l0.length) = true := decide_eq_true (by omega)
   clear c5
   replace H := Option.bind_eq_some_iff.mp H
   obtain ⟨t182, A60, H⟩ := H
   replace H : (if t182 = true then (if 1 < (l0.length : Int) then ((impl_isPlace.f (rd l0 1) a2).bind fun t184 => (some t184)) else (none)) else (some false)) = some r := H
   have A6 := xm A60
   clear A60
   by_cases c7 : t182 = true
   ·subst c7
    have H1 : (if 1 < (l0.length : Int) then ((impl_isPlace.f (rd l0 1) a2).bind fun t184 => (some t184)) else (none)) = some r := by first | (with_reducible rfl) | (rw [if_pos rfl] at H; exact H)
    clear H
    have H := H1
    clear H1
    by_cases c8 : 1 < (l0.length : Int)
    ·rw [if_pos c8] at H
     have c8b0 : decide (1 < (l0.length : Int)) = true := decide_eq_true c8
     have c8b1 : decide (1 < l0.length) = true := decide_eq_true (by omega)
     clear c8
     replace H := Option.bind_eq_some_iff.mp H
     obtain ⟨t184, A90, H⟩ := H
     replace H : (some t184) = some r := H
     have A9 := xm A90
     clear A90
     obtain rfl := Option.some.inj H
     have p181 : 0 ≤ (0 : Int) := (by omega)
     have q181 : 0 < (l0.length : Int) := of_decide_eq_true aB
     obtain ⟨ad181, e181, hx181_0⟩ := Kd.at_int HR0.out 0 p181 q181
     cases e181
     have qi181 : (0 < l0.length) = True := eq_true (by omega)
     (try rw [show ((0 : Int)).toNat = 0 from rfl] at hx181_0)
     (try rw [Addr.add_zero'] at hx181_0)
     replace p181 := eq_true p181
     replace q181 := eq_true q181
     obtain ⟨hcz10_0, hfz10_0⟩ := cz1 BK179.out
     go_enter Try.func149, Try.ntmps149
     go_wp2_with (first | (go_at_call 137; (with_reducible refine (impl_isPlace.calls (rd l0 0) a1 true _ A6.out).mono ?_); rintro e w' ⟨rfl, ⟨nd, rfl⟩⟩; (try first | exact ⟨rfl, _, World.drewN_drewN _ _ _⟩ | exact ⟨rfl, _, Eq.trans (World.drewN_drewN _ _ _) (congrArg (World.drewN _) (Nat.add_assoc _ _ _))⟩); have p183 : 0 ≤ (1 : Int) := (by omega); have q183 : 1 < (l0.length : Int) := of_decide_eq_true aB; obtain ⟨ad183, e183, hx183_0⟩ := Kd.at_int HR0.out 1 p183 q183; obtain rfl : ad181 = ad183 := (by injection e183); (try simp only [show (1 : Int).toNat = 1 from rfl, Nat.reduceMul, Nat.reduceEqDiff, Go.Addr.add, ↓reduceIte] at hx183_0); have qi183 : (1 < l0.length) = True := eq_true (by omega); (try rw [show ((1 : Int)).toNat = 1 from rfl] at hx183_0); replace p183 := eq_true p183; replace q183 := eq_true q183; obtain ⟨hcz11_0, hfz11_0⟩ := cz1 BK180.out) | (go_at_call 137; (with_reducible refine (impl_isPlace.calls (rd l0 1) a2 t184 _ A9.out).mono ?_); rintro e w' ⟨rfl, ⟨nd, rfl⟩⟩; (try first | exact ⟨rfl, _, World.drewN_drewN _ _ _⟩ | exact ⟨rfl, _, Eq.trans (World.drewN_drewN _ _ _) (congrArg (World.drewN _) (Nat.add_assoc _ _ _))⟩)))
     repeat (go_quiet (first | (go_at_call 137; (with_reducible refine (impl_isPlace.calls (rd l0 0) a1 true _ A6.out).mono ?_); rintro e w' ⟨rfl, ⟨nd, rfl⟩⟩; (try first | exact ⟨rfl, _, World.drewN_drewN _ _ _⟩ | exact ⟨rfl, _, Eq.trans (World.drewN_drewN _ _ _) (congrArg (World.drewN _) (Nat.add_assoc _ _ _))⟩); have p183 : 0 ≤ (1 : Int) := (by omega); have q183 : 1 < (l0.length : Int) := of_decide_eq_true aB; obtain ⟨ad183, e183, hx183_0⟩ := Kd.at_int HR0.out 1 p183 q183; obtain rfl : ad181 = ad183 := (by injection e183); (try simp only [show (1 : Int).toNat = 1 from rfl, Nat.reduceMul, Nat.reduceEqDiff, Go.Addr.add, ↓reduceIte] at hx183_0); have qi183 : (1 < l0.length) = True := eq_true (by omega); (try rw [show ((1 : Int)).toNat = 1 from rfl] at hx183_0); replace p183 := eq_true p183; replace q183 := eq_true q183; obtain ⟨hcz11_0, hfz11_0⟩ := cz1 BK180.out) | (go_at_call 137; (with_reducible refine (impl_isPlace.calls (rd l0 1) a2 t184 _ A9.out).mono ?_); rintro e w' ⟨rfl, ⟨nd, rfl⟩⟩; (try first | exact ⟨rfl, _, World.drewN_drewN _ _ _⟩ | exact ⟨rfl, _, Eq.trans (World.drewN_drewN _ _ _) (congrArg (World.drewN _) (Nat.add_assoc _ _ _))⟩))); try go_wp2_with (first | (go_at_call 137; (with_reducible refine (impl_isPlace.calls (rd l0 0) a1 true _ A6.out).mono ?_); rintro e w' ⟨rfl, ⟨nd, rfl⟩⟩; (try first | exact ⟨rfl, _, World.drewN_drewN _ _ _⟩ | exact ⟨rfl, _, Eq.trans (World.drewN_drewN _ _ _) (congrArg (World.drewN _) (Nat.add_assoc _ _ _))⟩); have p183 : 0 ≤ (1 : Int) := (by omega); have q183 : 1 < (l0.length : Int) := of_decide_eq_true aB; obtain ⟨ad183, e183, hx183_0⟩ := Kd.at_int HR0.out 1 p183 q183; obtain rfl : ad181 = ad183 := (by injection e183); (try simp only [show (1 : Int).toNat = 1 from rfl, Nat.reduceMul, Nat.reduceEqDiff, Go.Addr.add, ↓reduceIte] at hx183_0); have qi183 : (1 < l0.length) = True := eq_true (by omega); (try rw [show ((1 : Int)).toNat = 1 from rfl] at hx183_0); replace p183 := eq_true p183; replace q183 := eq_true q183; obtain ⟨hcz11_0, hfz11_0⟩ := cz1 BK180.out) | (go_at_call 137; (with_reducible refine (impl_isPlace.calls (rd l0 1) a2 t184 _ A9.out).mono ?_); rintro e w' ⟨rfl, ⟨nd, rfl⟩⟩; (try first | exact ⟨rfl, _, World.drewN_drewN _ _ _⟩ | exact ⟨rfl, _, Eq.trans (World.drewN_drewN _ _ _) (congrArg (World.drewN _) (Nat.add_assoc _ _ _))⟩))))
     go_ret
     exact ⟨by first | rfl | (simp [errW_none, errW_some] <;> rfl) | (simp [*, errW_none, errW_some] <;> rfl), by repeat (first | (with_reducible first | exact HB.out | apply xa | apply xn | apply xd | refine xt ?_ GE179.out | refine xt ?_ GE180.out) | exact HB.out)⟩
    ·rw [if_neg c8] at H
     exact absurd H (by simp)
   ·replace c7 := Bool.eq_false_iff.mpr c7
    subst c7
    have H1 : (some false) = some r := by first | (with_reducible rfl) | (rw [if_neg (show ¬ (false = true) by decide)] at H; exact H)
    clear H
    have H := H1
    clear H1
    obtain rfl := Option.some.inj H
    have p181 : 0 ≤ (0 : Int) := (by omega)
    have q181 : 0 < (l0.length : Int) := of_decide_eq_true aB
    obtain ⟨ad181, e181, hx181_0⟩ := Kd.at_int HR0.out 0 p181 q181
    cases e181
    have qi181 : (0 < l0.length) = True := eq_true (by omega)
    (try rw [show ((0 : Int)).toNat = 0 from rfl] at hx181_0)
    (try rw [Addr.add_zero'] at hx181_0)
    replace p181 := eq_true p181
    replace q181 := eq_true q181
    obtain ⟨hcz12_0, hfz12_0⟩ := cz1 BK179.out
    go_enter Try.func149, Try.ntmps149
    go_wp2_with (first | (go_at_call 137; (with_reducible refine (impl_isPlace.calls (rd l0 0) a1 false _ A6.out).mono ?_); rintro e w' ⟨rfl, ⟨nd, rfl⟩⟩; (try first | exact ⟨rfl, _, World.drewN_drewN _ _ _⟩ | exact ⟨rfl, _, Eq.trans (World.drewN_drewN _ _ _) (congrArg (World.drewN _) (Nat.add_assoc _ _ _))⟩)))
    repeat (go_quiet (first | (go_at_call 137; (with_reducible refine (impl_isPlace.calls (rd l0 0) a1 false _ A6.out).mono ?_); rintro e w' ⟨rfl, ⟨nd, rfl⟩⟩; (try first | exact ⟨rfl, _, World.drewN_drewN _ _ _⟩ | exact ⟨rfl, _, Eq.trans (World.drewN_drewN _ _ _) (congrArg (World.drewN _) (Nat.add_assoc _ _ _))⟩))); try go_wp2_with (first | (go_at_call 137; (with_reducible refine (impl_isPlace.calls (rd l0 0) a1 false _ A6.out).mono ?_); rintro e w' ⟨rfl, ⟨nd, rfl⟩⟩; (try first | exact ⟨rfl, _, World.drewN_drewN _ _ _⟩ | exact ⟨rfl, _, Eq.trans (World.drewN_drewN _ _ _) (congrArg (World.drewN _) (Nat.add_assoc _ _ _))⟩))))
    go_ret
    exact ⟨by first | rfl | (simp [errW_none, errW_some] <;> rfl) | (simp [*, errW_none, errW_some] <;> rfl), by repeat (first | (with_reducible first | exact HB.out | apply xa | apply xn | apply xd | refine xt ?_ GE179.out | refine xt ?_ GE180.out) | exact HB.out)⟩
  ·rw [if_neg c5] at H
   exact absurd H (by simp)
 ·rw [if_neg c4] at H
  have c4b0 : ((l0.length : Int) == 2) = false := beq_eq_false_iff_ne.mpr c4
  have c4b1 : ((l0.length : Int) != 2) = true := bne_iff_ne.mpr c4
  obtain rfl := Option.some.inj H
  go_enter Try.func149, Try.ntmps149
  go_wp2
  repeat (go_quiet (fail); try go_wp2)
  go_ret
  exact ⟨by first | rfl | (simp [errW_none, errW_some] <;> rfl) | (simp [*, errW_none, errW_some] <;> rfl), by repeat (first | (with_reducible first | exact HB.out | apply xa | apply xn | apply xd | refine xt ?_ GE179.out | refine xt ?_ GE180.out) | exact HB.out)⟩

/-! ### impl_areAll_Lint__impl_arePairs_1: function 100001 -/
theorem enters149 : ∀ args w, (callFunc 149 args).run Try.prog w = .ok (.enter 149 args) w := enters_of Try.func149 (by kernel_rfl) rfl
def impl_areAll_Lint__impl_arePairs_1.f (l0 : List (List Int)) (a1 : Int) (a2 : Int) : Option Bool := allO (fun x => impl_arePairs_1.f x a1 a2) l0
set_option maxHeartbeats 8000000 in
set_option maxRecDepth 100000 in
theorem impl_areAll_Lint__impl_arePairs_1.calls (A0 : Option Addr) (c0 : Nat) (l0 : List (List Int)) (gc1 : Nat) (a1 : Int) (gc2 : Nat) (a2 : Int) (r : Bool) (w : World) (hr0 : Kd.C (Kd.slice 3 (Kd.int .i64)) w A0 l0.length l0) (hc0 : l0.length ≤ c0) (hbk1 : w.heap[gc1]? = some (.cells #[.int .i64 a1] 3 (0, 0))) (hbk2 : w.heap[gc2]? = some (.cells #[.int .i64 a2] 3 (0, 0))) (h : impl_areAll_Lint__impl_arePairs_1.f l0 a1 a2 = some r) :
  Calls Try.prog 148 #[.slice A0 l0.length c0, .func (.func 149) #[] #[.pointer (some ⟨gc1, 0, none⟩), .pointer (some ⟨gc2, 0, none⟩)]] w fun e w' => e = .returned (.bool r) ∧ Below w.heap.size w w' := by
 refine impl_areAll_Lint.any 149 #[.pointer (some ⟨gc1, 0, none⟩), .pointer (some ⟨gc2, 0, none⟩)] enters149 (fun x => impl_arePairs_1.f x a1 a2) A0 c0 l0 r w hr0 hc0 ?_ h
 intro W x cs b hW hK hb
 obtain ⟨A_0, c_0, rfl, hl0, hi0⟩ := hK
 simp only [encOne, encAgg, List.headD_cons, app0, app1, app2, app3]
 refine (impl_arePairs_1.calls _ _ x gc1 a1 gc2 a2 b W hi0 hl0 (blk_below hW hbk1) (blk_below hW hbk2) hb).mono ?_
 rintro e w' ⟨he, hd⟩
 exact ⟨he, hd⟩

/-! ### impl_arePairs: function 118 -/
def impl_arePairs.f (l0 : List (List Int)) (a1 : Int) (a2 : Int) : Option (Bool) := if (l0.length : Int) ≤ 6 then ((impl_areAll_Lint__impl_arePairs_1.f l0 a1 a2).bind fun t187 => (some t187)) else (some false)
set_option maxHeartbeats 8000000 in
set_option maxRecDepth 100000 in
theorem impl_arePairs.calls (A0 : Option Addr) (c0 : Nat) (l0 : List (List Int)) (a1 : Int) (a2 : Int) (r : Bool) (w : World) (hr0 : Kd.C (Kd.slice 3 (Kd.int .i64)) w A0 l0.length l0) (hc0 : l0.length ≤ c0) (h : impl_arePairs.f l0 a1 a2 = some r) :
  Calls Try.prog 118 #[.slice A0 l0.length c0, .int .i64 a1, .int .i64 a2] w fun e w' => e = .returned (.bool r) ∧ Below w.heap.size w w' := by
 have HR0 := xm hr0
 have HC0 := xm hc0
 clear hr0 hc0
 have HB := xm (Below.refl w.heap.size w)
 have H : (if (l0.length : Int) ≤ 6 then ((impl_areAll_Lint__impl_arePairs_1.f l0 a1 a2).bind fun t187 => (some t187)) else (some false)) = some r := h
 clear h
 by_cases c4 : (l0.length : Int) ≤ 6
 ·rw [if_pos c4] at H
  have c4b0 : decide ((l0.length : Int) ≤ 6) = true := decide_eq_true c4
  have c4b1 : decide (l0.length ≤ 6) = true := decide_eq_true (by omega)
  clear c4
  replace H := Option.bind_eq_some_iff.mp H
  obtain ⟨t187, A50, H⟩ := H
  replace H : (some t187) = some r := H
  have A5 := xm A50
  clear A50
  obtain rfl := Option.some.inj H
  go_enter Try.func118, Try.ntmps118
  go_wp2_with (first | ((with_reducible refine gate_dst (N := 4) rfl ?_); refine box_event ?hg (N := 4) ?hd (cs := #[.int .i64 a1]) (t := 3) ?hr ?_; (case hd => rfl); (case hg => rfl); (case hr => exact zB); intro gb185 hg w6 hbox hb; have n0_ := xm (below_step bB hb); have n1_ := xm (hbox); have n2_ := xm ((by rw [hg]; exact (xz bB) : w.heap.size ≤ gb185)); have n3_ := xm ((by rw [hg]; exact (xz bB) : w.heap.size ≤ gb185)); clear HB; have HB := n0_; have BK185 := n1_; have GW185 := n2_; have GE185 := n3_; clear n0_ n1_ n2_ n3_; clear hb hbox hg) | ((with_reducible refine gate_dst (N := 5) rfl ?_); refine box_event ?hg (N := 5) ?hd (cs := #[.int .i64 a2]) (t := 3) ?hr ?_; (case hd => rfl); (case hg => rfl); (case hr => exact zB); intro gb186 hg w7 hbox hb; have n0_ := xm (blk_below (kB BK185) hb); have n1_ := xm (below_step bG hb); have n2_ := xm (hbox); have n3_ := xm ((by rw [hg]; exact (xz bG) : w.heap.size ≤ gb186)); have n4_ := xm ((by rw [hg]; exact (xz bG) : w.heap.size ≤ gb186)); have n5_ := xm ((by rw [hg]; exact Nat.ne_of_lt (blk_lt (kB BK185)) : gb185 ≠ gb186)); have n6_ := xm ((by rw [hg]; exact Nat.ne_of_gt (blk_lt (kB BK185)) : gb186 ≠ gb185)); clear BK185; clear HB; have BK185 := n0_; have HB := n1_; have BK186 := n2_; have GW186 := n3_; have GE186 := n4_; have NB185_186 := n5_; have NB186_185 := n6_; clear n0_ n1_ n2_ n3_ n4_ n5_ n6_; clear hb hbox hg) | (go_at_call 148; (with_reducible refine (impl_areAll_Lint__impl_arePairs_1.calls _ _ l0 gb185 a1 gb186 a2 t187 _ ?side1 ?side2 ?side3 ?side4 A5.out).mono ?_); (case side1 => exact cB (Kd.C_below HR0.out HB.out)); (case side2 => exact HC0.out); (case side3 => exact by (with_reducible repeat (first | refine xq ?_ _ | refine xr ?_ | refine xo ?_ _)); exact BK185.out); (case side4 => exact by (with_reducible repeat (first | refine xq ?_ _ | refine xr ?_ | refine xo ?_ _)); exact BK186.out); rintro e w8 ⟨rfl, hb⟩; have n0_ := xm (blk_below (kB BK185) hb); have n1_ := xm (blk_below (kB BK186) hb); have n2_ := xm (below_step bG hb); clear BK185; clear BK186; clear HB; have BK185 := n0_; have BK186 := n1_; have HB := n2_; clear n0_ n1_ n2_; (try clear hb); (try clear hb2); (try clear hk); (try clear hi)))
  go_ret
  exact ⟨by first | rfl | (simp [errW_none, errW_some] <;> rfl) | (simp [*, errW_none, errW_some] <;> rfl), by repeat (first | (with_reducible first | exact HB.out | apply xa | apply xn | apply xd | refine xt ?_ GE185.out | refine xt ?_ GE186.out) | exact HB.out)⟩
 ·rw [if_neg c4] at H
  have c4b0 : decide ((l0.length : Int) ≤ 6) = false := decide_eq_false c4
  have c4b1 : decide (l0.length ≤ 6) = false := decide_eq_false (by omega)
  clear c4
  obtain rfl := Option.some.inj H
  go_enter Try.func118, Try.ntmps118
  go_wp2_with (first | ((with_reducible refine gate_dst (N := 4) rfl ?_); refine box_event ?hg (N := 4) ?hd (cs := #[.int .i64 a1]) (t := 3) ?hr ?_; (case hd => rfl); (case hg => rfl); (case hr => exact zB); intro gb185 hg w9 hbox hb; have n0_ := xm (below_step bB hb); have n1_ := xm (hbox); have n2_ := xm ((by rw [hg]; exact (xz bB) : w.heap.size ≤ gb185)); have n3_ := xm ((by rw [hg]; exact (xz bB) : w.heap.size ≤ gb185)); clear HB; have HB := n0_; have BK185 := n1_; have GW185 := n2_; have GE185 := n3_; clear n0_ n1_ n2_ n3_; clear hb hbox hg) | ((with_reducible refine gate_dst (N := 5) rfl ?_); refine box_event ?hg (N := 5) ?hd (cs := #[.int .i64 a2]) (t := 3) ?hr ?_; (case hd => rfl); (case hg => rfl); (case hr => exact zB); intro gb186 hg w10 hbox hb; have n0_ := xm (blk_below (kB BK185) hb); have n1_ := xm (below_step bG hb); have n2_ := xm (hbox); have n3_ := xm ((by rw [hg]; exact (xz bG) : w.heap.size ≤ gb186)); have n4_ := xm ((by rw [hg]; exact (xz bG) : w.heap.size ≤ gb186)); have n5_ := xm ((by rw [hg]; exact Nat.ne_of_lt (blk_lt (kB BK185)) : gb185 ≠ gb186)); have n6_ := xm ((by rw [hg]; exact Nat.ne_of_gt (blk_lt (kB BK185)) : gb186 ≠ gb185)); clear BK185; clear HB; have BK185 := n0_; have HB := n1_; have BK186 := n2_; have GW186 := n3_; have GE186 := n4_; have NB185_186 := n5_; have NB186_185 := n6_; clear n0_ n1_ n2_ n3_ n4_ n5_ n6_; clear hb hbox hg))
  go_ret
  exact ⟨by first | rfl | (simp [errW_none, errW_some] <;> rfl) | (simp [*, errW_none, errW_some] <;> rfl), by repeat (first | (with_reducible first | exact HB.out | apply xa | apply xn | apply xd | refine xt ?_ GE185.out | refine xt ?_ GE186.out) | exact HB.out)⟩

/-! ### impl_Row_picked: function 86 -/
def impl_Row_picked.l0 : Nat → List Int → Int → Int → List Int → List Int → Option (List Int)
 | 0, _, _, _, _, _ => none
 | k + 1, x8, x9, x10, x189000, x191000 => if x10 < x9 then (if 0 ≤ x10 then (if x10 < (x8.length : Int) then (if 0 ≤ (rd x8 x10) then (if (rd x8 x10) < (x189000.length : Int) then (if x191000.length < 17592186044416 then (impl_Row_picked.l0 k x8 x9 (wrap64 (x10 + 1)) x189000 (x191000 ++ [rd x189000 (rd x8 x10)])) else (none)) else (none)) else (none)) else (none)) else (none)) else (some x191000)
def impl_Row_picked.f (k : Nat) (l0_0 : List Int) (l1 : List Int) : Option (List Int) := impl_Row_picked.l0 k l1 (l1.length : Int) 0 l0_0 ([] : List Int)
theorem impl_Row_picked.mono_l : ∀ k, (∀ y0 y1 y2 y3 y4, LeO (impl_Row_picked.l0 k y0 y1 y2 y3 y4) (impl_Row_picked.l0 (k + 1) y0 y1 y2 y3 y4))
 | 0 => fun _ _ _ _ _ r h => by simp [impl_Row_picked.l0] at h
 | k + 1 => by
  have ih0 := impl_Row_picked.mono_l k
  ·intro y0 y1 y2 y3 y4
   unfold impl_Row_picked.l0
   repeat' first
   | (with_reducible exact ih0 _ _ _ _ _)
   | (with_reducible exact LeO.refl _)
   | (with_reducible exact LeO.none _)
   | (with_reducible refine LeO.ite ?_ ?_)
   | (with_reducible refine LeO.bind ?_ (fun _ => ?_))
   | exact ih0 _ _ _ _ _
   | exact LeO.none _
   | refine LeO.ite ?_ ?_
   | refine LeO.bind ?_ (fun _ => ?_)
theorem impl_Row_picked.mono : ∀ a0 a1 k, LeO (impl_Row_picked.f k a0 a1) (impl_Row_picked.f (k + 1) a0 a1) := by
 intro a0 a1 k
 have ih0 := impl_Row_picked.mono_l k
 unfold impl_Row_picked.f
 repeat' first
   | (with_reducible exact ih0 _ _ _ _ _)
   | (with_reducible exact LeO.refl _)
   | (with_reducible exact LeO.none _)
   | (with_reducible refine LeO.ite ?_ ?_)
   | (with_reducible refine LeO.bind ?_ (fun _ => ?_))
   | exact ih0 _ _ _ _ _
   | exact LeO.none _
   | refine LeO.ite ?_ ?_
   | refine LeO.bind ?_ (fun _ => ?_)
def impl_Row_picked.T5 : Bool × List (List Nat × List Nat) := (true, [([], []), ([0], [0]), ([], []), ([2], [2]), ([], []), ([3, 4], [3, 4]), ([5], [5]), ([6], [6]), ([1, 7], [1, 7]), ([0, 1, 2, 3, 4, 5, 6, 7, 8], []), ([9, 8, 8, 0, 1, 2, 3, 4, 5, 6, 7, 8], [8, 9])])
def impl_Row_picked.B5 : List Nat := [0, 1, 0, 4, 0, 28, 60, 124, 255, 511, 1023]
theorem impl_Row_picked.tab5 : rtab .any (opsOf Try.f86 5) = impl_Row_picked.T5 := by kernel_rfl
theorem impl_Row_picked.bits5 : waitsOk impl_Row_picked.T5.2 impl_Row_picked.B5 = true := by kernel_rfl
set_option maxHeartbeats 8000000 in
set_option maxRecDepth 100000 in
theorem impl_Row_picked.calls (k : Nat) (A0_0 : Option Addr) (c0_0 : Nat) (l0_0 : List Int) (A1 : Option Addr) (c1 : Nat) (l1 : List Int) (r : List Int) (w : World) (hr0_0 : Kd.C (Kd.int .i64) w A0_0 l0_0.length l0_0) (hc0_0 : l0_0.length ≤ c0_0) (hr1 : Kd.C (Kd.int .i64) w A1 l1.length l1) (hc1 : l1.length ≤ c1) (h : impl_Row_picked.f k l0_0 l1 = some r) :
  Calls Try.prog 86 #[.agg #[.slice A0_0 l0_0.length c0_0], .slice A1 l1.length c1] w fun e w' => ∃ v0_ : Value, e = .returned (.agg #[v0_]) ∧ Kd.R (Kd.int .i64) 3 w' w.heap.size (fun _ => True) v0_ r ∧ Below w.heap.size w w' := by
 have hu26 := Try.underlying26
 have HR0_0 := xm hr0_0
 have HC0_0 := xm hc0_0
 clear hr0_0 hc0_0
 have HR1 := xm hr1
 have HC1 := xm hc1
 clear hr1 hc1
 have HB := xm (Below.refl w.heap.size w)
 have H : (impl_Row_picked.l0 k l1 (l1.length : Int) 0 l0_0 ([] : List Int)) = some r := h
 clear h
 have H' := xm H
 clear H
 go_enter Try.func86, Try.ntmps86
 go_wp2_with (first | ((with_reducible refine gate_dst (N := 2) rfl ?_); refine box_event ?hg (N := 2) ?hd (cs := #[.slice A0_0 l0_0.length c0_0]) (t := 26) ?hr ?_; (case hd => rfl); (case hg => rfl); (case hr => exact zB); intro gb188 hg w3 hbox hb; have n0_ := xm (below_step bB hb); have n1_ := xm (hbox); have n2_ := xm ((by rw [hg]; exact (xz bB) : w.heap.size ≤ gb188)); have n3_ := xm ((by rw [hg]; exact (xz bB) : w.heap.size ≤ gb188)); clear HB; have HB := n0_; have BK188 := n1_; have GW188 := n2_; have GE188 := n3_; clear n0_ n1_ n2_ n3_; clear hb hbox hg) | ((with_reducible refine gate_dst (N := 4) rfl ?_); refine box_event ?hg (N := 4) ?hd (cs := #[.slice none 0 0]) (t := 26) ?hr ?_; (case hd => rfl); (case hg => rfl); (case hr => exact zB); intro gb189 hg w4 hbox hb; have n0_ := xm (blk_below (kB BK188) hb); have n1_ := xm (below_step bG hb); have n2_ := xm (hbox); have n3_ := xm ((by rw [hg]; exact (xz bG) : w.heap.size ≤ gb189)); have n4_ := xm ((by rw [hg]; exact (xz bG) : w.heap.size ≤ gb189)); have n5_ := xm ((by rw [hg]; exact Nat.ne_of_lt (blk_lt (kB BK188)) : gb188 ≠ gb189)); have n6_ := xm ((by rw [hg]; exact Nat.ne_of_gt (blk_lt (kB BK188)) : gb189 ≠ gb188)); clear BK188; clear HB; have BK188 := n0_; have HB := n1_; have BK189 := n2_; have GW189 := n3_; have GE189 := n4_; have NB188_189 := n5_; have NB189_188 := n6_; clear n0_ n1_ n2_ n3_ n4_ n5_ n6_; clear hb hbox hg) | ((with_reducible refine gate_dst (N := 5) rfl ?_); refine box_event ?hg (N := 5) ?hd (cs := #[.slice none 0 0]) (t := 26) ?hr ?_; (case hd => rfl); (case hg => rfl); (case hr => exact zB); intro gb190 hg w5 hbox hb; have n0_ := xm (blk_below (kB BK188) hb); have n1_ := xm (blk_below (kB BK189) hb); have n2_ := xm (below_step bG hb); have n3_ := xm (hbox); have n4_ := xm ((by rw [hg]; exact (xz bG) : w.heap.size ≤ gb190)); have n5_ := xm ((by rw [hg]; exact (xz bG) : w.heap.size ≤ gb190)); have n6_ := xm ((by rw [hg]; exact Nat.ne_of_lt (blk_lt (kB BK188)) : gb188 ≠ gb190)); have n7_ := xm ((by rw [hg]; exact Nat.ne_of_gt (blk_lt (kB BK188)) : gb190 ≠ gb188)); have n8_ := xm ((by rw [hg]; exact Nat.ne_of_lt (blk_lt (kB BK189)) : gb189 ≠ gb190)); have n9_ := xm ((by rw [hg]; exact Nat.ne_of_gt (blk_lt (kB BK189)) : gb190 ≠ gb189)); clear BK188; clear BK189; clear HB; have BK188 := n0_; have BK189 := n1_; have HB := n2_; have BK190 := n3_; have GW190 := n4_; have GE190 := n5_; have NB188_190 := n6_; have NB190_188 := n7_; have NB189_190 := n8_; have NB190_189 := n9_; clear n0_ n1_ n2_ n3_ n4_ n5_ n6_ n7_ n8_ n9_; clear hb hbox hg))
 go_loopg [10] k (fun kq v10 w' => ∃ (x10_1 : Int) (x191000_1 : List Int) (u191000 : Value), v10 = .int .i64 x10_1 ∧ Aside0 (impl_Row_picked.l0 kq l1 (l1.length : Int) x10_1 l0_0 x191000_1 = some r) ∧ Aside0 (kq ≤ k) ∧ Aside0 (Kd.R (Kd.int .i64) 3 w' w.heap.size (fun _ => True) u191000 x191000_1) ∧ Aside0 (w'.heap[gb188]? = some (.cells #[(.slice A0_0 l0_0.length c0_0)] 26 (0, 0))) ∧ Aside0 (w'.heap[gb189]? = some (.cells #[(.slice none 0 0)] 26 (0, 0))) ∧ Aside0 (w'.heap[gb190]? = some (.cells #[u191000] 26 (0, 0))) ∧ Aside0 (Below w.heap.size w w'))
 case atStart => exact ⟨(0), (([] : List Int)), (.slice none 0 0), (by first | rfl | (simp; done) | (simp [*]; done)), H', ⟨Nat.le_refl _⟩, ⟨by first | exact Kd.R_nil _ _ _ _ _ | exact Kd.N_nil _ _ _ _ _ | exact Kd.V_nil _ _ _ _ _ | exact Kd.Q_nil _ _ _ _ _ | exact Kd.S_nil _ _ _ _ _⟩, ⟨by (with_reducible repeat (first | refine xq ?_ _ | refine xr ?_ | refine xo ?_ _)); exact BK188.out⟩, ⟨by (with_reducible repeat (first | refine xq ?_ _ | refine xr ?_ | refine xo ?_ _)); exact BK189.out⟩, ⟨by (with_reducible repeat (first | refine xq ?_ _ | refine xr ?_ | refine xo ?_ _)); exact BK190.out⟩, ⟨by repeat (first | (with_reducible first | exact HB.out | apply xa | apply xn | apply xd | refine xt ?_ GE188.out | refine xt ?_ GE189.out | refine xt ?_ GE190.out) | exact HB.out)⟩⟩
 case round =>
  clear H'
  try clear c1
  try clear p2
  obtain ⟨x10_1, x191000_1, u191000, rfl, HA, HK1, HO_191000, BK188, BK189, BK190, HB⟩ := hrel
  cases gk with
  | zero => exact absurd HA.out (by simp [impl_Row_picked.l0])
  | succ k1 =>
   have H := HA.out
   clear HA
   simp only [impl_Row_picked.l0] at H
   by_cases c6 : x10_1 < (l1.length : Int)
   ·rw [if_pos c6] at H
    have c6b0 : decide (x10_1 < (l1.length : Int)) = true := decide_eq_true c6
    clear c6
    by_cases c7 : 0 ≤ x10_1
    ·rw [if_pos c7] at H
     have c7b0 : decide (0 ≤ x10_1) = true := decide_eq_true c7
     clear c7
     by_cases c8 : x10_1 < (l1.length : Int)
     ·rw [if_pos c8] at H
      have c8b0 : decide (x10_1 < (l1.length : Int)) = true := decide_eq_true c8
      clear c8
      by_cases c9 : 0 ≤ (rd l1 x10_1)
      ·rw [if_pos c9] at H
       have c9b0 : decide (0 ≤ (rd l1 x10_1)) = true := decide_eq_true c9
       clear c9
       by_cases c10 : (rd l1 x10_1) < (l0_0.length : Int)
       ·rw [if_pos c10] at H
        have c10b0 : decide ((rd l1 x10_1) < (l0_0.length : Int)) = true := decide_eq_true c10
        clear c10
        by_cases c11 : x191000_1.length < 17592186044416
        ·rw [if_pos c11] at H
         have LMc11 := xm c11
         clear c11
         obtain ⟨y193, hy193⟩ : ∃ y_ : List Int, y_ = (x191000_1 ++ [rd l0_0 (rd l1 x10_1)]) := ⟨_, rfl⟩
         replace H : (impl_Row_picked.l0 k1 l1 (l1.length : Int) (wrap64 (x10_1 + 1)) l0_0 y193) = some r := by first | (rw [hy193]; with_reducible exact H) | (have H2_ := (Option.bind_some _ _).symm.trans H; rw [hy193]; with_reducible exact H2_) | (have H2_ := (Option.bind_some _ _).symm.trans H; with_reducible exact H2_) | with_reducible exact H | (rw [hy193]; exact H) | exact H
         have Ny193 := xm hy193
         clear hy193
         have H' := xm H
         clear H
         have p191 : 0 ≤ (x10_1 : Int) := of_decide_eq_true aB
         have q191 : x10_1 < (l1.length : Int) := of_decide_eq_true aB
         obtain ⟨ad191, e191, hx191_0⟩ := Kd.at_int HR1.out x10_1 p191 q191
         cases e191
         replace hx191_0 := (HB.out.cell (World.block_lt_of_cell? w _ hx191_0)).trans hx191_0
         replace p191 := eq_true p191
         replace q191 := eq_true q191
         try go_wp2
         have n0_ := xm (Kd.R_drew HO_191000.out)
         have n1_ := xm (xr BK188.out)
         have n2_ := xm (xr BK189.out)
         have n3_ := xm (xr BK190.out)
         have n4_ := xm (xd HB.out)
         clear HO_191000
         clear BK188
         clear BK189
         clear BK190
         clear HB
         have HO_191000 := n0_
         have BK188 := n1_
         have BK189 := n2_
         have BK190 := n3_
         have HB := n4_
         clear n0_ n1_ n2_ n3_ n4_
         have p192 : 0 ≤ ((rd l1 x10_1) : Int) := of_decide_eq_true aB
         have q192 : (rd l1 x10_1) < (l0_0.length : Int) := of_decide_eq_true aB
         obtain ⟨ad192, e192, hx192_0⟩ := Kd.at_int HR0_0.out (rd l1 x10_1) p192 q192
         have hw192_0 := hx192_0
         cases e192
         replace hx192_0 := (HB.out.cell (World.block_lt_of_cell? w _ hx192_0)).trans hx192_0
         replace p192 := eq_true p192
         replace q192 := eq_true q192
         refine start_ (n := 11) (S := fun w' => w'.cell? ⟨gb190, 0, none⟩ = some (u191000) ∧ w'.cell? ⟨gb188, 0, none⟩ = some (.slice (some ad192) l0_0.length c0_0) ∧ w'.cell? (ad192.add ((rd l1 x10_1)).toNat) = some (.int .i64 (rd l0_0 (rd l1 x10_1)))) (ds := [10]) #[Z,Z,Z,Z,Z,Z,Z,Z,Z,Z,Z] (by kernel_rfl) rfl rfl ⟨(xc BK190.out 0).trans rfl, (xc BK188.out 0).trans rfl, ((HB.out.cell (World.block_lt_of_cell? w _ hw192_0)).trans hw192_0)⟩ (fun hHeld => ?_); refine with_tabW impl_Row_picked.tab5 impl_Row_picked.bits5 (fun HT_ HW_ => ?_)
         generalize wr.drew = w12 at HO_191000 BK188 BK189 BK190 HB hx192_0 hHeld ⊢
         refine px 0 11 1 (any_of HT_.out (by kernel_rfl)) ?_
         refine px 2 11 5 (any_of HT_.out (by kernel_rfl)) ?_
         refine px 4 11 21 (any_of HT_.out (by kernel_rfl)) ?_
         refine tx 1 11 23 rfl rfl (take_ofW HT_.out HW_.out (by kernel_rfl)) hHeld (by rintro w' ⟨s0, s1, s2⟩; go_simp; with_reducible rfl) ?_
         refine tx 3 11 31 rfl rfl (take_ofW HT_.out HW_.out (by kernel_rfl)) hHeld (by rintro w' ⟨s0, s1, s2⟩; go_simp; with_reducible rfl) ?_
         refine px 5 11 63 (any_of HT_.out (by kernel_rfl)) ?_
         refine tx 6 11 127 rfl rfl (take_ofW HT_.out HW_.out (by kernel_rfl)) hHeld (by rintro w' ⟨s0, s1, s2⟩; go_simp; with_reducible rfl) ?_
         refine one_ (i := 7) (N := some 21) #[Y,Y,Y,Y,Y,Y,Y,Y,Z,Z,Z] rfl rfl (one_of HT_.out (by kernel_rfl)) (by decide) (fun K hK => ?_)
         refine value_ (w1 := ?_) (v := ?_) (by rfl) rfl ?_ ?_
         rotate_left 2
         ·go_simp
          constructor
          ·rfl
          ·rfl
         refine hK.out _ _ ⟨(xc (xo BK190.out _) 0).trans rfl, (xc (xo BK188.out _) 0).trans rfl, (World.cell?_alloc_lt _ _ _ (World.block_lt_of_cell? _ _ (((HB.out.cell (World.block_lt_of_cell? w _ hw192_0)).trans hw192_0)))).trans (((HB.out.cell (World.block_lt_of_cell? w _ hw192_0)).trans hw192_0))⟩ (fun hHeld => ?_)
         clear hK K
         refine norm_ (a' := ?_) ?_ ?_
         rotate_left
         ·show Act.put _ (some 21) _ = _
          simp only [Act.put, xi, xj, xk, i64_w, i32_w]
          rfl
         refine one_ (i := 8) (N := some 22) #[Y,Y,Y,Y,Y,Y,Y,Y,Y,Z,Z] rfl rfl (one_of HT_.out (by kernel_rfl)) (by decide) (fun K hK => ?_)
         refine Kd.R_append_step (Kd.int .i64) (w0 := w) w.heap.size (by rfl) (.tmp 15) (.tmp 21) 22 3 (.int .i64 0) 8 rfl Try.underlying22 info3 rfl (by decide) (by omega) u191000 x191000_1 (rd l0_0 (rd l1 x10_1)) [.int .i64 (rd l0_0 (rd l1 x10_1))] (fun _ => True) (fun _ => False) rfl rfl ?aP (fun _ hk => hk.elim) ?aF ?aO ?aB ?aS ?aL ?_
         (case aP => exact rfl)
         (case aB => exact bG)
         (case aF => exact (fun _ _ => trivial))
         (case aO => exact (rB HO_191000))
         (case aS => exact (xz bG))
         (case aL => have := LMc11.out; omega)
         intro v194 w13 ho hb hg hat
         rw [← Ny193.out] at ho
         have n0_ := xm (blk_grown (kB BK188) hg (Kd.R_ne HO_191000.out BK188.out (by decide)))
         have n1_ := xm (blk_grown (kB BK189) hg (Kd.R_ne HO_191000.out BK189.out (by decide)))
         have n2_ := xm (blk_grown (kB BK190) hg (Kd.R_ne HO_191000.out BK190.out (by decide)))
         have n3_ := xm (hb)
         have n4_ := xm (ho)
         clear BK188
         clear BK189
         clear BK190
         clear HB
         clear HO_191000
         have BK188 := n0_
         have BK189 := n1_
         have BK190 := n2_
         have HB := n3_
         have HO195 := n4_
         clear n0_ n1_ n2_ n3_ n4_
         clear ho hb hg hat
         obtain ⟨Ao14, co14, eo14⟩ := Kd.R_slice HO195.out
         (first | subst eo14 | (injection eo14 with f1_ f2_ f3_; have f4_ := f1_.symm; have f5_ := f3_.symm; clear f1_ f2_ f3_; subst f4_; subst f5_))
         refine hK.out _ _ ⟨(xc BK190.out 0).trans rfl, (xc BK188.out 0).trans rfl, ((HB.out.cell (World.block_lt_of_cell? w _ hw192_0)).trans hw192_0)⟩ (fun hHeld => ?_)
         clear hK K
         refine norm_ (a' := ?_) ?_ ?_
         rotate_left
         ·show Act.put _ (some 22) _ = _
          simp only [Act.put, xi, xj, xk, i64_w, i32_w]
          rfl
         refine px 9 11 1023 (any_of HT_.out (by kernel_rfl)) ?_
         refine last_ (i := 10) (N := none) #[Y,Y,Y,Y,Y,Y,Y,Y,Y,Y,Y] rfl rfl (one_of HT_.out (by kernel_rfl)) (by decide) (fun K hK => ?_)
         have hs15 : w13.cell? ⟨gb190, 0, none⟩ = some (u191000) := (xc BK190.out 0).trans rfl
         have hfs15 := xf BK190.out 0
         have hns15_0 := NB188_190.out
         have hns15_1 := NB189_190.out
         have hms15_0 := NB190_188.out
         have hms15_1 := NB190_189.out
         refine skip_ (w1 := ?_) (by rfl) rfl ?_ ?_
         rotate_left
         ·go_simp
          rfl
         refine hK.out _ _ ?_
         clear hK K
         refine done_ (done_of HT_.out (by kernel_rfl)) ?_
         try go_wp2
         go_roundg k1
         case measure => have := HK1.out; omega
         case rel => exact ⟨(wrap64 (x10_1 + 1)), (y193), (.slice Ao14 y193.length co14), (by first | rfl | (simp; done) | (simp [*]; done)), H', ⟨by have := HK1.out; omega⟩, ⟨by (with_reducible repeat (first | apply Kd.R_alloc | apply Kd.R_drewN | apply Kd.R_drew)); exact Kd.R_mono (Kd.R_far (p := ⟨gb190, 0, none⟩) (Kd.R_types HO195.out BK190.out (by decide)) (fun _ hk => hk.2) (.slice Ao14 y193.length co14)) (fun _ hk => trivial)⟩, ⟨by (with_reducible repeat (first | refine xq ?_ _ | refine xr ?_ | refine xo ?_ _)); refine blk_far ?_ NB188_190.out _; (with_reducible repeat (first | refine xq ?_ _ | refine xr ?_ | refine xo ?_ _)); exact BK188.out⟩, ⟨by (with_reducible repeat (first | refine xq ?_ _ | refine xr ?_ | refine xo ?_ _)); refine blk_far ?_ NB189_190.out _; (with_reducible repeat (first | refine xq ?_ _ | refine xr ?_ | refine xo ?_ _)); exact BK189.out⟩, ⟨by (with_reducible repeat (first | refine xq ?_ _ | refine xr ?_ | refine xo ?_ _)); refine blk_put (cs := #[u191000]) ?_ 0 _ rfl; (with_reducible repeat (first | refine xq ?_ _ | refine xr ?_ | refine xo ?_ _)); exact BK190.out⟩, ⟨by repeat (first | (with_reducible first | exact HB.out | apply xa | apply xn | apply xd | refine xt ?_ GE188.out | refine xt ?_ GE189.out | refine xt ?_ GE190.out) | exact HB.out)⟩⟩
        ·rw [if_neg c11] at H
         exact absurd H (by simp)
       ·rw [if_neg c10] at H
        exact absurd H (by simp)
      ·rw [if_neg c9] at H
       exact absurd H (by simp)
     ·rw [if_neg c8] at H
      exact absurd H (by simp)
    ·rw [if_neg c7] at H
     exact absurd H (by simp)
   ·rw [if_neg c6] at H
    have c6b0 : decide (x10_1 < (l1.length : Int)) = false := decide_eq_false c6
    clear c6
    obtain rfl := Option.some.inj H
    have hnb16 := NB190_188.out
    have hnc16 := NB188_190.out
    have hnb17 := NB190_189.out
    have hnc17 := NB189_190.out
    obtain ⟨hcz18_0, hfz18_0⟩ := cz1 BK190.out
    obtain ⟨Ao19, co19, eo19⟩ := Kd.R_slice HO_191000.out
    subst eo19
    have hnb20 := NB189_188.out
    have hnc20 := NB188_189.out
    obtain ⟨hcz21_0, hfz21_0⟩ := cz1 BK189.out
    go_wp2
    refine bodyPost_ret (results_cell_row rfl _ _ gb189 26 #[.slice Ao19 x191000_1.length co19] (0, 0) _ rfl (by (with_reducible repeat (first | refine xq ?_ _ | refine xr ?_ | refine xo ?_ _)); refine blk_put (cs := #[.slice none 0 0]) ?_ 0 _ rfl; (with_reducible repeat (first | refine xq ?_ _ | refine xr ?_ | refine xo ?_ _)); exact BK189.out) Try.underlying26 rfl (by kernel_rfl)) rfl ?_
    exact ⟨_, by first | rfl | (simp [errW_none, errW_some] <;> rfl) | (simp [*, errW_none, errW_some] <;> rfl), by (with_reducible repeat (first | apply Kd.R_alloc | apply Kd.R_drewN | apply Kd.R_drew)); exact Kd.R_mono (Kd.R_far (p := ⟨gb189, 0, none⟩) (Kd.R_types HO_191000.out BK189.out (by decide)) (fun _ hk => hk.2) (.slice Ao19 x191000_1.length co19)) (fun _ hk => trivial), by repeat (first | (with_reducible first | exact HB.out | apply xa | apply xn | apply xd | refine xt ?_ GE188.out | refine xt ?_ GE189.out | refine xt ?_ GE190.out) | exact HB.out)⟩

/-! ### slices_Grow_Lint_int: function 160 -/
def slices_Grow_Lint_int.f (l0 : List Int) (a1 : Int) : Option (List Int) := if l0.length = 0 then (if 0 ≤ a1 then (if a1 ≤ 17592186044416 then some [] else none) else none) else none
set_option maxHeartbeats 8000000 in
set_option maxRecDepth 100000 in
theorem slices_Grow_Lint_int.calls (A0 : Option Addr) (c0 : Nat) (l0 : List Int) (a1 : Int) (r : List Int) (w : World) (hr0 : Kd.C (Kd.int .i64) w A0 l0.length l0) (hc0 : l0.length ≤ c0) (h : slices_Grow_Lint_int.f l0 a1 = some r) :
 Calls Try.prog 160 #[.slice none 0 0, .int .i64 a1] w fun e w' => ∃ v0_ : Value, e = .returned v0_ ∧ Kd.R (Kd.int .i64) 3 w' w.heap.size (fun _ => True) v0_ r ∧ Below w.heap.size w w' := by
 unfold slices_Grow_Lint_int.f at h
 by_cases c1 : l0.length = 0
 case neg => rw [if_neg c1] at h; cases h
 rw [if_pos c1] at h
 by_cases c2 : 0 ≤ a1
 case neg => rw [if_neg c2] at h; cases h
 rw [if_pos c2] at h
 by_cases c3 : a1 ≤ 17592186044416
 case neg => rw [if_neg c3] at h; cases h
 rw [if_pos c3] at h
 obtain rfl := Option.some.inj h
 clear h c1 hr0 hc0
 have C2 := xm c2
 have C3 := xm c3
 have d1 : decide (a1 < 0) = false := decide_eq_false (by omega)
 have HB := xm (Below.refl w.heap.size w)
 have hw0 : wrap64 (a1 - wrap64 (0 - 0)) = a1 := by unfold wrap64; omega
 have hw1 : wrap64 (a1 - 0) = a1 := by unfold wrap64; omega
 have hw2 : wrap64 a1 = a1 := by unfold wrap64; omega
 have CW : Aside0 (0 ≤ wrap64 a1 ∧ (([] : List Int).length + (wrap64 a1).toNat) * 8 ≤ 140737488355328) := xm (by rw [hw2]; exact ⟨c2, by simp only [List.length_nil, Nat.zero_add]; omega⟩)
 clear c2 c3
 go_enter Try.func160, Try.ntmps160
 by_cases c4 : 0 < a1
 ·have d2 : decide (0 < a1) = true := decide_eq_true c4
  have d3 : decide (a1 > 0) = true := decide_eq_true c4
  clear c4
  go_wp2_with ((with_reducible refine gate_builtin (b := .append) (xs := #[.tmp 20, .tmp 21]) rfl ?_); at_builtin; refine Kd.R_append_zeros (Kd.int .i64) (w0 := w) w.heap.size rfl (.tmp 20) (.tmp 21) 22 3 3 (.int .i64 0) 8 rfl Try.underlying22 Try.underlying3 info3 rfl (by decide) (by decide) (.slice none 0 0) [] 0 (wrap64 a1) (fun _ => True) rfl rfl rfl (fun _ _ => trivial) (Kd.R_nil _ _ _ _ _) CW.out.1 bB (xz bB) CW.out.2 ?_; intro v1 w1 hv hb hg hat; obtain ⟨A1, c1, rfl⟩ := Kd.R_slice hv; have HV := xm hv; have HB1 := xm hb; clear HB hv hb hg hat; have HB := HB1; clear HB1)
  go_ret
  exact ⟨_, rfl, Kd.R_take (m := 0) HV.out (Nat.zero_le _), HB.out⟩
 ·have d2 : decide (0 < a1) = false := decide_eq_false c4
  have d3 : decide (a1 > 0) = false := decide_eq_false c4
  have C4 := xm c4
  clear c4
  go_wp2
  go_ret
  exact ⟨_, rfl, Kd.R_nil _ _ _ _ _, by repeat (first | (with_reducible first | exact HB.out | apply xa | apply xn | apply xd) | exact HB.out)⟩

end Go.Proofs.Ytcbikaoackbbjaa.G
