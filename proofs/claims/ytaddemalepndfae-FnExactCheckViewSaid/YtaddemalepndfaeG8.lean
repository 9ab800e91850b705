/- Written by a program of this claim's own, out of the translation: functions of the program as plain functions, and that the calls answer as these. No conditions. -/
import Derived.Test.YtaddemalepndfaeG0
import Derived.Test.YtaddemalepndfaeG7
namespace Go.Proofs.Ytaddemalepndfae.G
open Go.RowKit Go.Proofs.Ytaddemalepndfae.X Go.Proofs.YtaddemalepndfaeW.PrintWords Go.Proofs.YtaddemalepndfaeW.PrintLast Go.Proofs.YtaddemalepndfaeW.PrintMore
attribute [local go_sem] max2_int min2_int max_two min_two max_three min_three max_four min_four   -- for this text's walks alone
set_option linter.unusedVariables false
set_option linter.unusedSimpArgs false

/-! ### impl_arePairs_1: function 53 -/
def impl_arePairs_1.f (l0 : List Int) (a1 : Int) (a2 : Int) : Option (Bool) := if (l0.length : Int) = 2 then (if 0 < (l0.length : Int) then ((impl_isPlace.f (rd l0 0) a1).bind fun t233 => (if t233 = true then (if 1 < (l0.length : Int) then ((impl_isPlace.f (rd l0 1) a2).bind fun t235 => (some t235)) else (none)) else (some false))) else (none)) else (some false)
set_option maxHeartbeats 8000000 in
set_option maxRecDepth 100000 in
theorem impl_arePairs_1.calls (A0 : Option Addr) (c0 : Nat) (l0 : List Int) (gc1 : Nat) (a1 : Int) (gc2 : Nat) (a2 : Int) (r : Bool) (w : World) (hr0 : Kd.C (Kd.int .i64) w A0 l0.length l0) (hc0 : l0.length ≤ c0) (hbk1 : w.heap[gc1]? = some (.cells #[.int .i64 a1] 3 (0, 0))) (hbk2 : w.heap[gc2]? = some (.cells #[.int .i64 a2] 3 (0, 0))) (h : impl_arePairs_1.f l0 a1 a2 = some r) :
  Calls Try.prog 53 #[.slice A0 l0.length c0, .pointer (some ⟨gc1, 0, none⟩), .pointer (some ⟨gc2, 0, none⟩)] w fun e w' => e = .returned (.bool r) ∧ Below w.heap.size w w' := by
 have HR0 := xm hr0
 have HC0 := xm hc0
 clear hr0 hc0
 have BK230 := xm hbk1
 clear hbk1
 have BK231 := xm hbk2
 clear hbk2
 have HB := xm (Below.refl w.heap.size w)
 have H : (if (l0.length : Int) = 2 then (if 0 < (l0.length : Int) then ((impl_isPlace.f (rd l0 0) a1).bind fun t233 => (if t233 = true then (if 1 < (l0.length : Int) then ((impl_isPlace.f (rd l0 1) a2).bind fun t235 => (some t235)) else (none)) else (some false))) else (none)) else (some false)) = some r := h
 clear h
 by_cases c4 : (l0.length : Int) = 2
 ·rw [if_pos c4] at H
  have c4b0 : ((l0.length : Int) == 2) = true := beq_iff_eq.mpr c4
  have c4b1 : ((l0.length : Int) != 2) = false := bne_eq_false_iff_eq.mpr c4
  clear c4
  by_cases c5 : 0 < (l0.length : Int)
  ·rw [if_pos c5] at H
   have c5b0 : decide (0 < (l0.length : Int)) = true := decide_eq_true c5
   have c5b1 : decide (0 < l0.length) = true := decide_eq_true (by omega)
   clear c5
   replace H := Option.bind_eq_some_iff.mp H
   obtain ⟨t233, A60, H⟩ := H
   replace H : (if t233 = true then (if 1 < (l0.length : Int) then ((impl_isPlace.f (rd l0 1) a2).bind fun t235 => (some t235)) else (none)) else (some false)) = some r := H
   have A6 := xm A60
   clear A60
   by_cases c7 : t233 = true
   ·subst c7
    have H1 : (if 1 < (l0.length : Int) then ((impl_isPlace.f (rd l0 1) a2).bind fun t235 => (some t235)) else (none)) = some r := by first | (with_reducible rfl) | (rw [if_pos rfl] at H; exact H)
    clear H
    have H := H1
    clear H1
    by_cases c8 : 1 < (l0.length : Int)
    ·rw [if_pos c8] at H
     have c8b0 : decide (1 < (l0.length : Int)) = true := decide_eq_true c8
     have c8b1 : decide (1 < l0.length) = true := decide_eq_true (by omega)
     clear c8
     replace H := Option.bind_eq_some_iff.mp H
     obtain ⟨t235, A90, H⟩ := H
     replace H : (some t235) = some r := H
     have A9 := xm A90
     clear A90
     obtain rfl := Option.some.inj H
     have p232 : 0 ≤ (0 : Int) := (by omega)
     have q232 : 0 < (l0.length : Int) := of_decide_eq_true aB
     obtain ⟨ad232, e232, hx232_0⟩ := Kd.at_int HR0.out 0 p232 q232
     cases e232
     have qi232 : (0 < l0.length) = True := eq_true (by omega)
     (try rw [show ((0 : Int)).toNat = 0 from rfl] at hx232_0)
     (try rw [Addr.add_zero'] at hx232_0)
     replace p232 := eq_true p232
     replace q232 := eq_true q232
     obtain ⟨hcz10_0, hfz10_0⟩ := cz1 BK230.out
     go_enter Try.func53, Try.ntmps53
     go_wp2_with (first | (go_at_call 49; (with_reducible refine (impl_isPlace.calls (rd l0 0) a1 true _ A6.out).mono ?_); rintro e w' ⟨rfl, ⟨nd, rfl⟩⟩; (try first | exact ⟨rfl, _, World.drewN_drewN _ _ _⟩ | exact ⟨rfl, _, Eq.trans (World.drewN_drewN _ _ _) (congrArg (World.drewN _) (Nat.add_assoc _ _ _))⟩); have p234 : 0 ≤ (1 : Int) := (by omega); have q234 : 1 < (l0.length : Int) := of_decide_eq_true aB; obtain ⟨ad234, e234, hx234_0⟩ := Kd.at_int HR0.out 1 p234 q234; obtain rfl : ad232 = ad234 := (by injection e234); (try simp only [show (1 : Int).toNat = 1 from rfl, Nat.reduceMul, Nat.reduceEqDiff, Go.Addr.add, ↓reduceIte] at hx234_0); have qi234 : (1 < l0.length) = True := eq_true (by omega); (try rw [show ((1 : Int)).toNat = 1 from rfl] at hx234_0); replace p234 := eq_true p234; replace q234 := eq_true q234; obtain ⟨hcz11_0, hfz11_0⟩ := cz1 BK231.out) | (go_at_call 49; (with_reducible refine (impl_isPlace.calls (rd l0 1) a2 t235 _ A9.out).mono ?_); rintro e w' ⟨rfl, ⟨nd, rfl⟩⟩; (try first | exact ⟨rfl, _, World.drewN_drewN _ _ _⟩ | exact ⟨rfl, _, Eq.trans (World.drewN_drewN _ _ _) (congrArg (World.drewN _) (Nat.add_assoc _ _ _))⟩)))
     repeat (go_quiet (first | (go_at_call 49; (with_reducible refine (impl_isPlace.calls (rd l0 0) a1 true _ A6.out).mono ?_); rintro e w' ⟨rfl, ⟨nd, rfl⟩⟩; (try first | exact ⟨rfl, _, World.drewN_drewN _ _ _⟩ | exact ⟨rfl, _, Eq.trans (World.drewN_drewN _ _ _) (congrArg (World.drewN _) (Nat.add_assoc _ _ _))⟩); have p234 : 0 ≤ (1 : Int) := (by omega); have q234 : 1 < (l0.length : Int) := of_decide_eq_true aB; obtain ⟨ad234, e234, hx234_0⟩ := Kd.at_int HR0.out 1 p234 q234; obtain rfl : ad232 = ad234 := (by injection e234); (try simp only [show (1 : Int).toNat = 1 from rfl, Nat.reduceMul, Nat.reduceEqDiff, Go.Addr.add, ↓reduceIte] at hx234_0); have qi234 : (1 < l0.length) = True := eq_true (by omega); (try rw [show ((1 : Int)).toNat = 1 from rfl] at hx234_0); replace p234 := eq_true p234; replace q234 := eq_true q234; obtain ⟨hcz11_0, hfz11_0⟩ := cz1 BK231.out) | (go_at_call 49; (with_reducible refine (impl_isPlace.calls (rd l0 1) a2 t235 _ A9.out).mono ?_); rintro e w' ⟨rfl, ⟨nd, rfl⟩⟩; (try first | exact ⟨rfl, _, World.drewN_drewN _ _ _⟩ | exact ⟨rfl, _, Eq.trans (World.drewN_drewN _ _ _) (congrArg (World.drewN _) (Nat.add_assoc _ _ _))⟩))); try go_wp2_with (first | (go_at_call 49; (with_reducible refine (impl_isPlace.calls (rd l0 0) a1 true _ A6.out).mono ?_); rintro e w' ⟨rfl, ⟨nd, rfl⟩⟩; (try first | exact ⟨rfl, _, World.drewN_drewN _ _ _⟩ | exact ⟨rfl, _, Eq.trans (World.drewN_drewN _ _ _) (congrArg (World.drewN _) (Nat.add_assoc _ _ _))⟩); have p234 : 0 ≤ (1 : Int) := (by omega); have q234 : 1 < (l0.length : Int) := of_decide_eq_true aB; obtain ⟨ad234, e234, hx234_0⟩ := Kd.at_int HR0.out 1 p234 q234; obtain rfl : ad232 = ad234 := (by injection e234); (try simp only [show (1 : Int).toNat = 1 from rfl, Nat.reduceMul, Nat.reduceEqDiff, Go.Addr.add, ↓reduceIte] at hx234_0); have qi234 : (1 < l0.length) = True := eq_true (by omega); (try rw [show ((1 : Int)).toNat = 1 from rfl] at hx234_0); replace p234 := eq_true p234; replace q234 := eq_true q234; obtain ⟨hcz11_0, hfz11_0⟩ := cz1 BK231.out) | (go_at_call 49; (with_reducible refine (impl_isPlace.calls (rd l0 1) a2 t235 _ A9.out).mono ?_); rintro e w' ⟨rfl, ⟨nd, rfl⟩⟩; (try first | exact ⟨rfl, _, World.drewN_drewN _ _ _⟩ | exact ⟨rfl, _, Eq.trans (World.drewN_drewN _ _ _) (congrArg (World.drewN _) (Nat.add_assoc _ _ _))⟩))))
     go_ret
     exact ⟨eB, bG⟩
    ·rw [if_neg c8] at H
     exact absurd H (by simp)
   ·replace c7 := Bool.eq_false_iff.mpr c7
    subst c7
    have H1 : (some false) = some r := by first | (with_reducible rfl) | (rw [if_neg (show ¬ (false = true) by decide)] at H; exact H)
    clear H
    have H := H1
    clear H1
    obtain rfl := Option.some.inj H
    have p232 : 0 ≤ (0 : Int) := (by omega)
    have q232 : 0 < (l0.length : Int) := of_decide_eq_true aB
    obtain ⟨ad232, e232, hx232_0⟩ := Kd.at_int HR0.out 0 p232 q232
    cases e232
    have qi232 : (0 < l0.length) = True := eq_true (by omega)
    (try rw [show ((0 : Int)).toNat = 0 from rfl] at hx232_0)
    (try rw [Addr.add_zero'] at hx232_0)
    replace p232 := eq_true p232
    replace q232 := eq_true q232
    obtain ⟨hcz12_0, hfz12_0⟩ := cz1 BK230.out
    go_enter Try.func53, Try.ntmps53
    go_wp2_with (first | (go_at_call 49; (with_reducible refine (impl_isPlace.calls (rd l0 0) a1 false _ A6.out).mono ?_); rintro e w' ⟨rfl, ⟨nd, rfl⟩⟩; (try first | exact ⟨rfl, _, World.drewN_drewN _ _ _⟩ | exact ⟨rfl, _, Eq.trans (World.drewN_drewN _ _ _) (congrArg (World.drewN _) (Nat.add_assoc _ _ _))⟩)))
    repeat (go_quiet (first | (go_at_call 49; (with_reducible refine (impl_isPlace.calls (rd l0 0) a1 false _ A6.out).mono ?_); rintro e w' ⟨rfl, ⟨nd, rfl⟩⟩; (try first | exact ⟨rfl, _, World.drewN_drewN _ _ _⟩ | exact ⟨rfl, _, Eq.trans (World.drewN_drewN _ _ _) (congrArg (World.drewN _) (Nat.add_assoc _ _ _))⟩))); try go_wp2_with (first | (go_at_call 49; (with_reducible refine (impl_isPlace.calls (rd l0 0) a1 false _ A6.out).mono ?_); rintro e w' ⟨rfl, ⟨nd, rfl⟩⟩; (try first | exact ⟨rfl, _, World.drewN_drewN _ _ _⟩ | exact ⟨rfl, _, Eq.trans (World.drewN_drewN _ _ _) (congrArg (World.drewN _) (Nat.add_assoc _ _ _))⟩))))
    go_ret
    exact ⟨eB, bG⟩
  ·rw [if_neg c5] at H
   exact absurd H (by simp)
 ·rw [if_neg c4] at H
  have c4b0 : ((l0.length : Int) == 2) = false := beq_eq_false_iff_ne.mpr c4
  have c4b1 : ((l0.length : Int) != 2) = true := bne_iff_ne.mpr c4
  obtain rfl := Option.some.inj H
  go_enter Try.func53, Try.ntmps53
  go_wp2
  repeat (go_quiet (fail); try go_wp2)
  go_ret
  exact ⟨eB, bG⟩

/-! ### impl_areAll_Lint__impl_arePairs_1: function 100002 -/
theorem enters53 : ∀ args w, (callFunc 53 args).run Try.prog w = .ok (.enter 53 args) w := enters_of Try.func53 (by kernel_rfl) rfl
def impl_areAll_Lint__impl_arePairs_1.f (l0 : List (List Int)) (a1 : Int) (a2 : Int) : Option Bool := allO (fun x => impl_arePairs_1.f x a1 a2) l0
set_option maxHeartbeats 8000000 in
set_option maxRecDepth 100000 in
theorem impl_areAll_Lint__impl_arePairs_1.calls (A0 : Option Addr) (c0 : Nat) (l0 : List (List Int)) (gc1 : Nat) (a1 : Int) (gc2 : Nat) (a2 : Int) (r : Bool) (w : World) (hr0 : Kd.C (Kd.slice 3 (Kd.int .i64)) w A0 l0.length l0) (hc0 : l0.length ≤ c0) (hbk1 : w.heap[gc1]? = some (.cells #[.int .i64 a1] 3 (0, 0))) (hbk2 : w.heap[gc2]? = some (.cells #[.int .i64 a2] 3 (0, 0))) (h : impl_areAll_Lint__impl_arePairs_1.f l0 a1 a2 = some r) :
  Calls Try.prog 52 #[.slice A0 l0.length c0, .func (.func 53) #[] #[.pointer (some ⟨gc1, 0, none⟩), .pointer (some ⟨gc2, 0, none⟩)]] w fun e w' => e = .returned (.bool r) ∧ Below w.heap.size w w' := by
 refine impl_areAll_Lint.any 53 #[.pointer (some ⟨gc1, 0, none⟩), .pointer (some ⟨gc2, 0, none⟩)] enters53 (fun x => impl_arePairs_1.f x a1 a2) A0 c0 l0 r w hr0 hc0 ?_ h
 intro W x cs b hW hK hb
 obtain ⟨A_0, c_0, rfl, hl0, hi0⟩ := hK
 simp only [encOne, encAgg, List.headD_cons, app0, app1, app2, app3]
 refine (impl_arePairs_1.calls _ _ x gc1 a1 gc2 a2 b W hi0 hl0 (blk_below hW hbk1) (blk_below hW hbk2) hb).mono ?_
 rintro e w' ⟨he, hd⟩
 exact ⟨he, hd⟩

/-! ### impl_arePairs: function 33 -/
def impl_arePairs.f (l0 : List (List Int)) (a1 : Int) (a2 : Int) : Option (Bool) := if (l0.length : Int) ≤ 6 then ((impl_areAll_Lint__impl_arePairs_1.f l0 a1 a2).bind fun t238 => (some t238)) else (some false)
set_option maxHeartbeats 8000000 in
set_option maxRecDepth 100000 in
theorem impl_arePairs.calls (A0 : Option Addr) (c0 : Nat) (l0 : List (List Int)) (a1 : Int) (a2 : Int) (r : Bool) (w : World) (hr0 : Kd.C (Kd.slice 3 (Kd.int .i64)) w A0 l0.length l0) (hc0 : l0.length ≤ c0) (h : impl_arePairs.f l0 a1 a2 = some r) :
  Calls Try.prog 33 #[.slice A0 l0.length c0, .int .i64 a1, .int .i64 a2] w fun e w' => e = .returned (.bool r) ∧ Below w.heap.size w w' := by
 have HR0 := xm hr0
 have HC0 := xm hc0
 clear hr0 hc0
 have HB := xm (Below.refl w.heap.size w)
 have H : (if (l0.length : Int) ≤ 6 then ((impl_areAll_Lint__impl_arePairs_1.f l0 a1 a2).bind fun t238 => (some t238)) else (some false)) = some r := h
 clear h
 by_cases c4 : (l0.length : Int) ≤ 6
 ·rw [if_pos c4] at H
  have c4b0 : decide ((l0.length : Int) ≤ 6) = true := decide_eq_true c4
  have c4b1 : decide (l0.length ≤ 6) = true := decide_eq_true (by omega)
  clear c4
  replace H := Option.bind_eq_some_iff.mp H
  obtain ⟨t238, A50, H⟩ := H
  replace H : (some t238) = some r := H
  have A5 := xm A50
  clear A50
  obtain rfl := Option.some.inj H
  go_enter Try.func33, Try.ntmps33
  go_wp2_with (first | ((with_reducible refine gate_dst (N := 4) rfl ?_); refine box_event ?hg (N := 4) ?hd (cs := #[.int .i64 a1]) (t := 3) ?hr ?_; (case hd => rfl); (case hg => rfl); (case hr => exact zB); intro gb236 hg w6 hbox hb; have n0_ := xm (below_step bB hb); have n1_ := xm (hbox); have n2_ := xm ((by rw [hg]; exact (xz bB) : w.heap.size ≤ gb236)); have n3_ := xm ((by rw [hg]; exact (xz bB) : w.heap.size ≤ gb236)); revert n0_ n1_ n2_ n3_; clear HB; intro HB BK236 GW236 GE236; clear hb hbox hg) | ((with_reducible refine gate_dst (N := 5) rfl ?_); refine box_event ?hg (N := 5) ?hd (cs := #[.int .i64 a2]) (t := 3) ?hr ?_; (case hd => rfl); (case hg => rfl); (case hr => exact zB); intro gb237 hg w7 hbox hb; have n0_ := xm (blk_below (kB BK236) hb); have n1_ := xm (below_step bG hb); have n2_ := xm (hbox); have n3_ := xm ((by rw [hg]; exact (xz bG) : w.heap.size ≤ gb237)); have n4_ := xm ((by rw [hg]; exact (xz bG) : w.heap.size ≤ gb237)); have n5_ := xm ((by rw [hg]; exact Nat.ne_of_lt (blk_lt (kB BK236)) : gb236 ≠ gb237)); have n6_ := xm ((by rw [hg]; exact Nat.ne_of_gt (blk_lt (kB BK236)) : gb237 ≠ gb236)); revert n0_ n1_ n2_ n3_ n4_ n5_ n6_; clear BK236 HB; intro BK236 HB BK237 GW237 GE237 NB236_237 NB237_236; clear hb hbox hg) | (go_at_call 52; (with_reducible refine (impl_areAll_Lint__impl_arePairs_1.calls _ _ l0 gb236 a1 gb237 a2 t238 _ ?side1 ?side2 ?side3 ?side4 A5.out).mono ?_); (case side1 => exact cB (Kd.C_below HR0.out HB.out)); (case side2 => exact HC0.out); (case side3 => exact by (with_reducible repeat (first | refine xq ?_ _ | refine xr ?_ | refine xo ?_ _)); exact BK236.out); (case side4 => exact by (with_reducible repeat (first | refine xq ?_ _ | refine xr ?_ | refine xo ?_ _)); exact BK237.out); rintro e w8 ⟨rfl, hb⟩; have n0_ := xm (blk_below (kB BK236) hb); have n1_ := xm (blk_below (kB BK237) hb); have n2_ := xm (below_step bG hb); revert n0_ n1_ n2_; clear BK236 BK237 HB; intro BK236 BK237 HB; (try clear hb)))
  go_ret
  exact ⟨eB, bG⟩
 ·rw [if_neg c4] at H
  have c4b0 : decide ((l0.length : Int) ≤ 6) = false := decide_eq_false c4
  have c4b1 : decide (l0.length ≤ 6) = false := decide_eq_false (by omega)
  clear c4
  obtain rfl := Option.some.inj H
  go_enter Try.func33, Try.ntmps33
  go_wp2_with (first | ((with_reducible refine gate_dst (N := 4) rfl ?_); refine box_event ?hg (N := 4) ?hd (cs := #[.int .i64 a1]) (t := 3) ?hr ?_; (case hd => rfl); (case hg => rfl); (case hr => exact zB); intro gb236 hg w9 hbox hb; have n0_ := xm (below_step bB hb); have n1_ := xm (hbox); have n2_ := xm ((by rw [hg]; exact (xz bB) : w.heap.size ≤ gb236)); have n3_ := xm ((by rw [hg]; exact (xz bB) : w.heap.size ≤ gb236)); revert n0_ n1_ n2_ n3_; clear HB; intro HB BK236 GW236 GE236; clear hb hbox hg) | ((with_reducible refine gate_dst (N := 5) rfl ?_); refine box_event ?hg (N := 5) ?hd (cs := #[.int .i64 a2]) (t := 3) ?hr ?_; (case hd => rfl); (case hg => rfl); (case hr => exact zB); intro gb237 hg w10 hbox hb; have n0_ := xm (blk_below (kB BK236) hb); have n1_ := xm (below_step bG hb); have n2_ := xm (hbox); have n3_ := xm ((by rw [hg]; exact (xz bG) : w.heap.size ≤ gb237)); have n4_ := xm ((by rw [hg]; exact (xz bG) : w.heap.size ≤ gb237)); have n5_ := xm ((by rw [hg]; exact Nat.ne_of_lt (blk_lt (kB BK236)) : gb236 ≠ gb237)); have n6_ := xm ((by rw [hg]; exact Nat.ne_of_gt (blk_lt (kB BK236)) : gb237 ≠ gb236)); revert n0_ n1_ n2_ n3_ n4_ n5_ n6_; clear BK236 HB; intro BK236 HB BK237 GW237 GE237 NB236_237 NB237_236; clear hb hbox hg))
  go_ret
  exact ⟨eB, bG⟩

/-! ### impl_unpaired_1: function 62 -/
def impl_unpaired_1.f (l0 : List Int) (a1 : Int) : Option (Bool) := if 1 < (l0.length : Int) then (some ((rd l0 1) == a1)) else (none)
set_option maxHeartbeats 8000000 in
set_option maxRecDepth 100000 in
theorem impl_unpaired_1.calls (A0 : Option Addr) (c0 : Nat) (l0 : List Int) (gc1 : Nat) (a1 : Int) (r : Bool) (w : World) (hr0 : Kd.C (Kd.int .i64) w A0 l0.length l0) (hc0 : l0.length ≤ c0) (hbk1 : w.heap[gc1]? = some (.cells #[.int .i64 a1] 3 (0, 0))) (h : impl_unpaired_1.f l0 a1 = some r) :
  Calls Try.prog 62 #[.slice A0 l0.length c0, .pointer (some ⟨gc1, 0, none⟩)] w fun e w' => e = .returned (.bool r) ∧ Below w.heap.size w w' := by
 have HR0 := xm hr0
 have HC0 := xm hc0
 clear hr0 hc0
 have BK239 := xm hbk1
 clear hbk1
 have HB := xm (Below.refl w.heap.size w)
 have H : (if 1 < (l0.length : Int) then (some ((rd l0 1) == a1)) else (none)) = some r := h
 clear h
 by_cases c3 : 1 < (l0.length : Int)
 ·rw [if_pos c3] at H
  have c3b0 : decide (1 < (l0.length : Int)) = true := decide_eq_true c3
  have c3b1 : decide (1 < l0.length) = true := decide_eq_true (by omega)
  clear c3
  obtain rfl := Option.some.inj H
  have p240 : 0 ≤ (1 : Int) := (by omega)
  have q240 : 1 < (l0.length : Int) := of_decide_eq_true aB
  obtain ⟨ad240, e240, hx240_0⟩ := Kd.at_int HR0.out 1 p240 q240
  cases e240
  (try simp only [show (1 : Int).toNat = 1 from rfl, Nat.reduceMul, Nat.reduceEqDiff, Go.Addr.add, ↓reduceIte] at hx240_0)
  have qi240 : (1 < l0.length) = True := eq_true (by omega)
  (try rw [show ((1 : Int)).toNat = 1 from rfl] at hx240_0)
  replace p240 := eq_true p240
  replace q240 := eq_true q240
  obtain ⟨hcz4_0, hfz4_0⟩ := cz1 BK239.out
  go_enter Try.func62, Try.ntmps62
  go_wp2
  repeat (go_quiet (fail); try go_wp2)
  go_ret
  exact ⟨eB, bG⟩
 ·rw [if_neg c3] at H
  exact absurd H (by simp)

/-! ### slices_ContainsFunc_LLint_Lint__impl_unpaired_1: function 100003 -/
theorem enters62 : ∀ args w, (callFunc 62 args).run Try.prog w = .ok (.enter 62 args) w := enters_of Try.func62 (by kernel_rfl) rfl
def slices_ContainsFunc_LLint_Lint__impl_unpaired_1.f (l0 : List (List Int)) (a1 : Int) : Option Bool := anyO (fun x => impl_unpaired_1.f x a1) l0
set_option maxHeartbeats 8000000 in
set_option maxRecDepth 100000 in
theorem slices_ContainsFunc_LLint_Lint__impl_unpaired_1.calls (A0 : Option Addr) (c0 : Nat) (l0 : List (List Int)) (gc1 : Nat) (a1 : Int) (r : Bool) (w : World) (hr0 : Kd.C (Kd.slice 3 (Kd.int .i64)) w A0 l0.length l0) (hc0 : l0.length ≤ c0) (hbk1 : w.heap[gc1]? = some (.cells #[.int .i64 a1] 3 (0, 0))) (h : slices_ContainsFunc_LLint_Lint__impl_unpaired_1.f l0 a1 = some r) :
  Calls Try.prog 60 #[.slice A0 l0.length c0, .func (.func 62) #[] #[.pointer (some ⟨gc1, 0, none⟩)]] w fun e w' => e = .returned (.bool r) ∧ Below w.heap.size w w' := by
 refine slices_ContainsFunc_LLint_Lint.any 62 #[.pointer (some ⟨gc1, 0, none⟩)] enters62 (fun x => impl_unpaired_1.f x a1) A0 c0 l0 r w hr0 hc0 ?_ h
 intro W x cs b hW hK hb
 obtain ⟨A_0, c_0, rfl, hl0, hi0⟩ := hK
 simp only [encOne, encAgg, List.headD_cons, app0, app1, app2, app3]
 refine (impl_unpaired_1.calls _ _ x gc1 a1 b W hi0 hl0 (blk_below hW hbk1) hb).mono ?_
 rintro e w' ⟨he, hd⟩
 exact ⟨he, hd⟩

/-! ### impl_unpaired: function 54 -/
def impl_unpaired.l0 : Nat → List (List Int) → List Int → Int → Int → Option (List Int)
 | 0, _, _, _, _ => none
 | k + 1, x1, x5, x7, x8 => if x8 < x7 then ((slices_ContainsFunc_LLint_Lint__impl_unpaired_1.f x1 x8).bind fun t242 => (if t242 = true then (impl_unpaired.l0 k x1 x5 x7 (wrap64 (x8 + 1))) else (if x5.length < 17592186044416 then (impl_unpaired.l0 k x1 (x5 ++ [x8]) x7 (wrap64 (x8 + 1))) else (none)))) else (some x5)
def impl_unpaired.f (k : Nat) (a0 : Int) (l1 : List (List Int)) : Option (List Int) := impl_unpaired.l0 k l1 ([] : List Int) a0 0
theorem impl_unpaired.mono_l : ∀ k, (∀ y0 y1 y2 y3, LeO (impl_unpaired.l0 k y0 y1 y2 y3) (impl_unpaired.l0 (k + 1) y0 y1 y2 y3))
 | 0 => fun _ _ _ _ r h => by simp [impl_unpaired.l0] at h
 | k + 1 => by
  have ih0 := impl_unpaired.mono_l k
  ·intro y0 y1 y2 y3
   unfold impl_unpaired.l0
   repeat' first
   | (with_reducible exact ih0 _ _ _ _)
   | (with_reducible exact LeO.refl _)
   | (with_reducible exact LeO.none _)
   | (with_reducible refine LeO.ite ?_ ?_)
   | (with_reducible refine LeO.bind ?_ (fun _ => ?_))
   | exact ih0 _ _ _ _
   | exact LeO.none _
   | refine LeO.ite ?_ ?_
   | refine LeO.bind ?_ (fun _ => ?_)
theorem impl_unpaired.mono : ∀ a0 a1 k, LeO (impl_unpaired.f k a0 a1) (impl_unpaired.f (k + 1) a0 a1) := by
 intro a0 a1 k
 have ih0 := impl_unpaired.mono_l k
 unfold impl_unpaired.f
 repeat' first
   | (with_reducible exact ih0 _ _ _ _)
   | (with_reducible exact LeO.refl _)
   | (with_reducible exact LeO.none _)
   | (with_reducible refine LeO.ite ?_ ?_)
   | (with_reducible refine LeO.bind ?_ (fun _ => ?_))
   | exact ih0 _ _ _ _
   | exact LeO.none _
   | refine LeO.ite ?_ ?_
   | refine LeO.bind ?_ (fun _ => ?_)
set_option maxHeartbeats 8000000 in
set_option maxRecDepth 100000 in
theorem impl_unpaired.calls (k : Nat) (a0 : Int) (A1 : Option Addr) (c1 : Nat) (l1 : List (List Int)) (r : List Int) (w : World) (hr1 : Kd.C (Kd.slice 3 (Kd.int .i64)) w A1 l1.length l1) (hc1 : l1.length ≤ c1) (h : impl_unpaired.f k a0 l1 = some r) :
  Calls Try.prog 54 #[.int .i64 a0, .slice A1 l1.length c1] w fun e w' => ∃ v0_ : Value, e = .returned (v0_) ∧ Kd.R (Kd.int .i64) 3 w' w.heap.size (fun _ => True) v0_ r ∧ Below w.heap.size w w' := by
 have HR1 := xm hr1
 have HC1 := xm hc1
 clear hr1 hc1
 have HB := xm (Below.refl w.heap.size w)
 have H : (impl_unpaired.l0 k l1 ([] : List Int) a0 0) = some r := h
 clear h
 have H' := xm H
 clear H
 go_enter Try.func54, Try.ntmps54
 go_wp2
 go_loopg [5, 8] k (fun kq v5 v8 w' => ∃ (x5_1 : List Int) (x8_1 : Int), v8 = .int .i64 x8_1 ∧ Aside0 (impl_unpaired.l0 kq l1 x5_1 a0 x8_1 = some r) ∧ Aside0 (kq ≤ k) ∧ Aside0 (Kd.R (Kd.int .i64) 3 w' w.heap.size (fun _ => True) v5 x5_1) ∧ Aside0 (Below w.heap.size w w'))
 case atStart => exact ⟨(([] : List Int)), (0), sB, H', ⟨Nat.le_refl _⟩, ⟨by first | exact Kd.R_nil _ _ _ _ _ | exact Kd.N_nil _ _ _ _ _ | exact Kd.V_nil _ _ _ _ _ | exact Kd.Q_nil _ _ _ _ _ | exact Kd.S_nil _ _ _ _ _⟩, ⟨bG⟩⟩
 case round =>
  clear H'
  try clear c1
  try clear p2
  obtain ⟨x5_1, x8_1, rfl, HA, HK1, HO_5, HB⟩ := hrel
  cases gk with
  | zero => exact absurd HA.out (by simp [impl_unpaired.l0])
  | succ k1 =>
   have H := HA.out
   clear HA
   simp only [impl_unpaired.l0] at H
   by_cases c3 : x8_1 < a0
   ·rw [if_pos c3] at H
    have c3b0 : decide (x8_1 < a0) = true := decide_eq_true c3
    clear c3
    replace H := Option.bind_eq_some_iff.mp H
    obtain ⟨t242, A40, H⟩ := H
    replace H : (if t242 = true then (impl_unpaired.l0 k1 l1 x5_1 a0 (wrap64 (x8_1 + 1))) else (if x5_1.length < 17592186044416 then (impl_unpaired.l0 k1 l1 (x5_1 ++ [x8_1]) a0 (wrap64 (x8_1 + 1))) else (none))) = some r := H
    have A4 := xm A40
    clear A40
    by_cases c5 : t242 = true
    ·subst c5
     have H1 : (impl_unpaired.l0 k1 l1 x5_1 a0 (wrap64 (x8_1 + 1))) = some r := by first | (with_reducible rfl) | (rw [if_pos rfl] at H; exact H)
     clear H
     have H := H1
     clear H1
     have H' := xm H
     clear H
     go_wp2_with (first | ((with_reducible refine gate_dst (N := 6) rfl ?_); refine box_event ?hg (N := 6) ?hd (cs := #[.int .i64 0]) (t := 3) ?hr ?_; (case hd => rfl); (case hg => rfl); (case hr => exact zB); intro gb241 hg w6 hbox hb; have n0_ := xm (Kd.R_below (Kd.R_elderB (rB HO_5) gb241 (Nat.le_of_eq hg.symm)) hb); have n1_ := xm (below_step bB hb); have n2_ := xm (hbox); have n3_ := xm ((by rw [hg]; exact (xz bB) : w.heap.size ≤ gb241)); have n4_ := xm ((by rw [hg]; exact (xz bB) : w.heap.size ≤ gb241)); revert n0_ n1_ n2_ n3_ n4_; clear HO_5 HB; intro HO_5 HB BK241 GW241 GE241; clear hb hbox hg; obtain ⟨hcz7_0, hfz7_0⟩ := cz1 BK241.out) | ((with_reducible refine gate_callee (f := 60) rfl ?_); refine goesL_ (some 13) rfl rfl Try.func60 (by kernel_rfl) rfl #[.slice A1 l1.length c1, .func (.func 62) #[] #[.pointer (some ⟨gb241, 0, none⟩)]] rfl mB ?_; (with_reducible refine (slices_ContainsFunc_LLint_Lint__impl_unpaired_1.calls _ _ l1 gb241 x8_1 true _ ?side1 ?side2 ?side3 A4.out).mono ?_); (case side1 => exact Kd.C_below HR1.out bG); (case side2 => exact HC1.out); (case side3 => exact by (with_reducible repeat (first | refine xq ?_ _ | refine xr ?_ | refine xo ?_ _)); refine blk_put (cs := #[.int .i64 0]) ?_ 0 _ rfl; (with_reducible repeat (first | refine xq ?_ _ | refine xr ?_ | refine xo ?_ _)); exact BK241.out); rintro e w8 ⟨rfl, hb⟩; refine ⟨_, rfl, ?_⟩; have n0_ := xm (Kd.R_below (by (with_reducible repeat (first | apply Kd.R_alloc | apply Kd.R_drewN | apply Kd.R_drew)); exact (Kd.R_mono (Kd.R_far (p := ⟨gb241, 0, none⟩) (Kd.R_mono HO_5.out (fun k_ hk => (⟨hk, hk.2⟩ : _ ∧ k_ ≠ gb241))) (fun _ hk => hk.2) (.int .i64 x8_1)) (fun _ h_ => h_.1))) hb); have n1_ := xm (blk_below (g := gb241) (o := .cells #[.int .i64 x8_1] 3 (0, 0)) (by (with_reducible repeat (first | refine xq ?_ _ | refine xr ?_ | refine xo ?_ _)); refine blk_put (cs := #[.int .i64 0]) ?_ 0 _ rfl; (with_reducible repeat (first | refine xq ?_ _ | refine xr ?_ | refine xo ?_ _)); exact BK241.out) hb); have n2_ := xm (below_step bG hb); revert n0_ n1_ n2_; clear HO_5 BK241 HB; intro HO_5 BK241 HB; (try clear hb); (try clear hk)))
     go_roundg k1
     case measure => have := HK1.out; omega
     case rel => exact ⟨(x5_1), (wrap64 (x8_1 + 1)), sB, H', ⟨by have := HK1.out; omega⟩, ⟨by (with_reducible repeat (first | apply Kd.R_alloc | apply Kd.R_drewN | apply Kd.R_drew)); exact Kd.R_mono HO_5.out (fun _ hk => trivial)⟩, ⟨bG⟩⟩
    ·replace c5 := Bool.eq_false_iff.mpr c5
     subst c5
     have H1 : (if x5_1.length < 17592186044416 then (impl_unpaired.l0 k1 l1 (x5_1 ++ [x8_1]) a0 (wrap64 (x8_1 + 1))) else (none)) = some r := by first | (with_reducible rfl) | (rw [if_neg (show ¬ (false = true) by decide)] at H; exact H)
     clear H
     have H := H1
     clear H1
     by_cases c9 : x5_1.length < 17592186044416
     ·rw [if_pos c9] at H
      have LMc9 := xm c9
      clear c9
      obtain ⟨y243, hy243⟩ : ∃ y_ : List Int, y_ = (x5_1 ++ [x8_1]) := ⟨_, rfl⟩
      replace H : (impl_unpaired.l0 k1 l1 y243 a0 (wrap64 (x8_1 + 1))) = some r := by first | (rw [hy243]; with_reducible exact H) | (have H2_ := (Option.bind_some _ _).symm.trans H; rw [hy243]; with_reducible exact H2_) | (have H2_ := (Option.bind_some _ _).symm.trans H; with_reducible exact H2_) | with_reducible exact H | (rw [hy243]; exact H) | exact H
      have Ny243 := xm hy243
      clear hy243
      have H' := xm H
      clear H
      go_wp2_with (first | ((with_reducible refine gate_dst (N := 6) rfl ?_); refine box_event ?hg (N := 6) ?hd (cs := #[.int .i64 0]) (t := 3) ?hr ?_; (case hd => rfl); (case hg => rfl); (case hr => exact zB); intro gb241 hg w10 hbox hb; have n0_ := xm (Kd.R_below (Kd.R_elderB (rB HO_5) gb241 (Nat.le_of_eq hg.symm)) hb); have n1_ := xm (below_step bB hb); have n2_ := xm (hbox); have n3_ := xm ((by rw [hg]; exact (xz bB) : w.heap.size ≤ gb241)); have n4_ := xm ((by rw [hg]; exact (xz bB) : w.heap.size ≤ gb241)); revert n0_ n1_ n2_ n3_ n4_; clear HO_5 HB; intro HO_5 HB BK241 GW241 GE241; clear hb hbox hg; obtain ⟨hcz11_0, hfz11_0⟩ := cz1 BK241.out) | ((with_reducible refine gate_callee (f := 60) rfl ?_); refine goesL_ (some 13) rfl rfl Try.func60 (by kernel_rfl) rfl #[.slice A1 l1.length c1, .func (.func 62) #[] #[.pointer (some ⟨gb241, 0, none⟩)]] rfl mB ?_; (with_reducible refine (slices_ContainsFunc_LLint_Lint__impl_unpaired_1.calls _ _ l1 gb241 x8_1 false _ ?side1 ?side2 ?side3 A4.out).mono ?_); (case side1 => exact Kd.C_below HR1.out bG); (case side2 => exact HC1.out); (case side3 => exact by (with_reducible repeat (first | refine xq ?_ _ | refine xr ?_ | refine xo ?_ _)); refine blk_put (cs := #[.int .i64 0]) ?_ 0 _ rfl; (with_reducible repeat (first | refine xq ?_ _ | refine xr ?_ | refine xo ?_ _)); exact BK241.out); rintro e w12 ⟨rfl, hb⟩; refine ⟨_, rfl, ?_⟩; have n0_ := xm (Kd.R_below (by (with_reducible repeat (first | apply Kd.R_alloc | apply Kd.R_drewN | apply Kd.R_drew)); exact (Kd.R_mono (Kd.R_far (p := ⟨gb241, 0, none⟩) (Kd.R_mono HO_5.out (fun k_ hk => (⟨hk, hk.2⟩ : _ ∧ k_ ≠ gb241))) (fun _ hk => hk.2) (.int .i64 x8_1)) (fun _ h_ => h_.1))) hb); have n1_ := xm (blk_below (g := gb241) (o := .cells #[.int .i64 x8_1] 3 (0, 0)) (by (with_reducible repeat (first | refine xq ?_ _ | refine xr ?_ | refine xo ?_ _)); refine blk_put (cs := #[.int .i64 0]) ?_ 0 _ rfl; (with_reducible repeat (first | refine xq ?_ _ | refine xr ?_ | refine xo ?_ _)); exact BK241.out) hb); have n2_ := xm (below_step bG hb); revert n0_ n1_ n2_; clear HO_5 BK241 HB; intro HO_5 BK241 HB; (try clear hb); (try clear hk); obtain ⟨hcz13_0, hfz13_0⟩ := cz1 BK241.out) | ((with_reducible refine gate_builtin (b := .append) (xs := #[.tmp 15, .tmp 17]) rfl ?_); at_builtin; refine Kd.R_append (Kd.int .i64) (w0 := w) w.heap.size rfl (.tmp 15) (.tmp 17) 22 3 (.int .i64 0) 8 rfl Try.underlying22 info3 rfl (by decide) (by omega) u5 x5_1 x8_1 [.int .i64 x8_1] (fun k_ => k_ ≠ gb241) (fun _ => False) rfl rfl ?aP (fun _ hk => hk.elim) ?aF ?aO ?aB ?aS ?aL ?_; (case aP => exact rfl); (case aB => exact bG); (case aF => exact (fun k_ hk => Kd.freshB (kB BK241) k_ hk)); (case aO => exact (by (with_reducible repeat (first | apply Kd.R_alloc | apply Kd.R_drewN | apply Kd.R_drew)); exact Kd.R_mono HO_5.out (fun _ hk => hk.2))); (case aS => exact (xz bG)); (case aL => have := LMc9.out; omega); intro v244 w14 ho hb hg hat; rw [← Ny243.out] at ho; have n0_ := xm (blk_grown (kB BK241) hg (Kd.R_away HO_5.out (fun _ hk => hk.2))); have n1_ := xm (hb); have n2_ := xm (ho); revert n0_ n1_ n2_; clear BK241 HB HO_5; intro BK241 HB HO245; clear ho hb hg hat))
      go_roundg k1
      case measure => have := HK1.out; omega
      case rel => exact ⟨(y243), (wrap64 (x8_1 + 1)), sB, H', ⟨by have := HK1.out; omega⟩, ⟨by (with_reducible repeat (first | apply Kd.R_alloc | apply Kd.R_drewN | apply Kd.R_drew)); exact Kd.R_mono HO245.out (fun _ hk => trivial)⟩, ⟨bG⟩⟩
     ·rw [if_neg c9] at H
      exact absurd H (by simp)
   ·rw [if_neg c3] at H
    have c3b0 : decide (x8_1 < a0) = false := decide_eq_false c3
    clear c3
    obtain rfl := Option.some.inj H
    go_wp2
    go_ret
    exact ⟨_, eB, rB HO_5, bG⟩

/-! ### impl_joinedColumns: function 34 -/
def impl_joinedColumns.f (k : Nat) (a0 : Int) (a1 : Int) (l2 : List (List Int)) : Option (Int) := (impl_unpaired.f k a1 l2).bind fun t246 => (some (wrap64 (a0 + (t246.length : Int))))
theorem impl_joinedColumns.mono : ∀ a0 a1 a2 k, LeO (impl_joinedColumns.f k a0 a1 a2) (impl_joinedColumns.f (k + 1) a0 a1 a2) := by
 intro a0 a1 a2 k
 unfold impl_joinedColumns.f
 repeat' first
   | (with_reducible exact impl_unpaired.mono _ _ _)
   | (with_reducible exact LeO.refl _)
   | (with_reducible exact LeO.none _)
   | (with_reducible refine LeO.ite ?_ ?_)
   | (with_reducible refine LeO.bind ?_ (fun _ => ?_))
   | exact impl_unpaired.mono _ _ _
   | exact LeO.none _
   | refine LeO.ite ?_ ?_
   | refine LeO.bind ?_ (fun _ => ?_)
set_option maxHeartbeats 8000000 in
set_option maxRecDepth 100000 in
theorem impl_joinedColumns.calls (k : Nat) (a0 : Int) (a1 : Int) (A2 : Option Addr) (c2 : Nat) (l2 : List (List Int)) (r : Int) (w : World) (hr2 : Kd.C (Kd.slice 3 (Kd.int .i64)) w A2 l2.length l2) (hc2 : l2.length ≤ c2) (h : impl_joinedColumns.f k a0 a1 l2 = some r) :
  Calls Try.prog 34 #[.int .i64 a0, .int .i64 a1, .slice A2 l2.length c2] w fun e w' => e = .returned (.int .i64 r) ∧ Below w.heap.size w w' := by
 have HR2 := xm hr2
 have HC2 := xm hc2
 clear hr2 hc2
 have HB := xm (Below.refl w.heap.size w)
 have H : ((impl_unpaired.f k a1 l2).bind fun t246 => (some (wrap64 (a0 + (t246.length : Int))))) = some r := h
 clear h
 replace H := Option.bind_eq_some_iff.mp H
 obtain ⟨t246, A40, H⟩ := H
 replace H : (some (wrap64 (a0 + (t246.length : Int)))) = some r := H
 have A4 := xm A40
 clear A40
 obtain rfl := Option.some.inj H
 go_enter Try.func34, Try.ntmps34
 go_wp2_with (first | ((with_reducible refine gate_callee (f := 54) rfl ?_); refine goesL_ (some 10) rfl rfl Try.func54 (by kernel_rfl) rfl #[.int .i64 a1, .slice A2 l2.length c2] rfl mB ?_; (with_reducible refine (impl_unpaired.calls k a1 _ _ l2 t246 _ ?side1 ?side2 A4.out).mono ?_); (case side1 => repeat (first | exact HR2.out | (with_reducible refine Kd.C_alloc ?_ _) | (with_reducible refine Kd.C_drewN ?_ _) | (with_reducible refine Kd.C_drew ?_))); (case side2 => exact HC2.out); rintro e w5 ⟨v247, rfl, ho0, hb⟩; refine ⟨_, rfl, ?_⟩; have n0_ := xm (Kd.R_lower ho0 (xz bB)); have n1_ := xm (below_step bB hb); revert n0_ n1_; clear HB; intro HO248 HB; (try clear hb); (try clear ho0); obtain ⟨Ao6, co6, eo6⟩ := Kd.R_slice HO248.out; subst eo6))
 go_ret
 exact ⟨eB, bG⟩

end Go.Proofs.Ytaddemalepndfae.G
