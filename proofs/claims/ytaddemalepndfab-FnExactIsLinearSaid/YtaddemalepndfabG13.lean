/- Written by a program of this claim's own, out of the translation: functions of the program as plain functions, and that the calls answer as these. No conditions. -/
import Derived.Test.YtaddemalepndfabG0
import Derived.Test.YtaddemalepndfabG12
namespace Go.Proofs.Ytaddemalepndfab.G
open Go.RowKit Go.Proofs.Ytaddemalepndfab.X Go.Proofs.YtaddemalepndfabW.PrintWords Go.Proofs.YtaddemalepndfabW.PrintLast Go.Proofs.YtaddemalepndfabW.PrintMore
attribute [local go_sem] max2_int min2_int max_two min_two max_three min_three max_four min_four   -- for this text's walks alone
set_option linter.unusedVariables false
set_option linter.unusedSimpArgs false

/-! ### slices_IndexFunc_Limpl_Part_impl_Part: function 45 -/
set_option maxHeartbeats 8000000 in
set_option maxRecDepth 100000 in
theorem slices_IndexFunc_Limpl_Part_impl_Part.any (g : Nat) (lb : Array Value) (eg : ∀ args w, (callFunc g args).run Try.prog w = .ok (.enter g args) w) (pf : S42 → Option Bool)
  (A0 : Option Addr) (c0 : Nat) (l0 : List S42) (r : Int) (w : World) (hr0 : Kd.C k42 w A0 l0.length l0) (hc0 : l0.length ≤ c0) (hp : PB Try.prog g lb k42 encAgg pf w) (h : idxO pf l0 0 = some r) :
  Calls Try.prog 45 #[.slice A0 l0.length c0, .func (.func g) #[] lb] w fun e w' => e = .returned (.int .i64 r) ∧ Below w.heap.size w w' := by
 have HR0 := xm hr0
 have HP := xm hp
 have H' := xm h
 have HB := xm (Below.refl w.heap.size w)
 have hn : (l0.length : Int) ≤ 9223372036854775807 := by have := hr0.2.1; omega
 clear hr0 hp h hc0
 have hu42 := Try.underlying42
 go_enter Try.func45, Try.ntmps45
 go_wp2
 go_loopg [5, 8] l0.length (fun kq v5 v8 w' => ∃ kk : Nat, v8 = .int .i64 kk ∧ kk ≤ l0.length ∧ l0.length - kk ≤ kq ∧ Aside0 (idxO pf (l0.drop kk) kk = some r) ∧ Aside0 (Below w.heap.size w w'))
 case atStart => exact ⟨0, rfl, Nat.zero_le _, by omega, H', HB⟩
 case round =>
  clear H' HB
  obtain ⟨kk, rfl, hkk, hg, HA, HB⟩ := hrel
  by_cases hlt : kk < l0.length
  ·have hlti : (kk : Int) < (l0.length : Int) := by omega
   obtain ⟨ad, A_3, c_3, A_4, c_4, A_5, c_5, e0, hx0, hx1, hx2, hx3, hx4, hx5, hl3, hi3, hl4, hi4, hl5, hi5⟩ := at_T42 HR0.out (kk : Int) (by omega) hlti
   cases e0
   replace hx0 := (HB.out.cell (World.block_lt_of_cell? w _ hx0)).trans hx0
   replace hx1 := (HB.out.cell (World.block_lt_of_cell? w _ hx1)).trans hx1
   replace hx2 := (HB.out.cell (World.block_lt_of_cell? w _ hx2)).trans hx2
   replace hx3 := (HB.out.cell (World.block_lt_of_cell? w _ hx3)).trans hx3
   replace hx4 := (HB.out.cell (World.block_lt_of_cell? w _ hx4)).trans hx4
   replace hx5 := (HB.out.cell (World.block_lt_of_cell? w _ hx5)).trans hx5
   simp only [Int.toNat_natCast] at hx0 hx1 hx2 hx3 hx4 hx5
   have H := HA.out
   rw [List.drop_eq_getElem_cons hlt] at H
   unfold idxO at H
   have hrd : l0[kk] = rd_T42 l0 (kk : Int) := by simp [rd_T42, hlt]
   rw [hrd] at H
   obtain ⟨b, hb, H⟩ := Option.bind_eq_some_iff.mp H
   have hcall := HP.out _ (rd_T42 l0 (kk : Int)) [.int .i64 ((rd_T42 l0 (kk : Int)).f0), .int .i64 ((rd_T42 l0 (kk : Int)).f1), .int .i64 ((rd_T42 l0 (kk : Int)).f2), .slice A_3 ((rd_T42 l0 (kk : Int)).f3).length c_3, .slice A_4 ((rd_T42 l0 (kk : Int)).f4).length c_4, .slice A_5 ((rd_T42 l0 (kk : Int)).f5).length c_5] b HB.out (k42_mk wr (rd_T42 l0 (kk : Int)) hl3 (Kd.C_below hi3 HB.out) hl4 (Kd.C_below hi4 HB.out) hl5 (Kd.C_below hi5 HB.out)) hb
   have HL := xm hcall
   have HI3 := xm hi3
   have HI4 := xm hi4
   have HI5 := xm hi5
   clear hi3 hl3
   clear hi4 hl4
   clear hi5 hl5
   clear hcall hb HA
   clear hrd
   simp only [encOne, encAgg, List.headD_cons] at HL
   cases b with
   | true =>
    obtain rfl := Option.some.inj H
    go_wp2_with (go_at_fn g; refine HL.out.mono ?_; rintro e w' ⟨rfl, hb'⟩)
    go_ret
    exact ⟨rfl, below_step HB.out hb'⟩
   | false =>
    have H1 := xm H
    clear H
    go_wp2_with (go_at_fn g; refine HL.out.mono ?_; rintro e w' ⟨rfl, hb'⟩)
    go_roundg (l0.length - (kk + 1))
    case measure => omega
    case rel => exact ⟨kk + 1, by go_num, by omega, by omega, ⟨by have := H1.out; simpa using this⟩, ⟨below_step HB.out hb'⟩⟩
  ·have : kk = l0.length := by omega
   subst this
   have H := HA.out
   rw [List.drop_length] at H
   unfold idxO at H
   obtain rfl := Option.some.inj H
   clear H HA
   go_wp2
   go_ret
   exact ⟨rfl, HB.out⟩

/-! ### slices_ContainsFunc_Limpl_Part_impl_Part: function 28 -/
set_option maxHeartbeats 8000000 in
set_option maxRecDepth 100000 in
theorem slices_ContainsFunc_Limpl_Part_impl_Part.any (g : Nat) (lb : Array Value) (eg : ∀ args w, (callFunc g args).run Try.prog w = .ok (.enter g args) w) (pf : S42 → Option Bool)
  (A0 : Option Addr) (c0 : Nat) (l0 : List S42) (r : Bool) (w : World) (hr0 : Kd.C k42 w A0 l0.length l0) (hc0 : l0.length ≤ c0) (hp : PB Try.prog g lb k42 encAgg pf w) (h : anyO pf l0 = some r) :
  Calls Try.prog 28 #[.slice A0 l0.length c0, .func (.func g) #[] lb] w fun e w' => e = .returned (.bool r) ∧ Below w.heap.size w w' := by
 rw [← idxO_any pf l0 0 (Int.le_refl 0)] at h
 obtain ⟨i, hi, hri⟩ := Option.map_eq_some_iff.mp h
 have HC := xm (slices_IndexFunc_Limpl_Part_impl_Part.any g lb eg pf A0 c0 l0 i w hr0 hc0 hp hi)
 have HR := xm hri
 clear hr0 hc0 hp h hi hri eg
 go_enter Try.func28, Try.ntmps28
 go_wp2_with (go_at_call 45; refine HC.out.mono ?_; rintro e w' ⟨rfl, hb⟩)
 go_ret
 exact ⟨by first | rfl | (rw [HR.out]; rfl) | rw [HR.out], hb⟩

/-! ### impl_areAll_impl_Part_1: function 29 -/
set_option maxHeartbeats 8000000 in
set_option maxRecDepth 100000 in
theorem impl_areAll_impl_Part_1.pb (g : Nat) (lb : Array Value) (eg : ∀ args w, (callFunc g args).run Try.prog w = .ok (.enter g args) w) (pf : S42 → Option Bool) (w w1 : World) (b0 : Nat) (hw : Below w.heap.size w w1)
  (hbk : w1.heap[b0]? = some (.cells #[.func (.func g) #[] lb] 46 (0, 0))) (hp : PB Try.prog g lb k42 encAgg pf w) :
  PB Try.prog 29 #[.pointer (some ⟨b0, 0, none⟩)] k42 encAgg (fun x => (pf x).map (!·)) w1 := by
 intro W x cs b hW hK hb
 obtain ⟨b1, hb1, rfl⟩ := Option.map_eq_some_iff.mp hb
 have hWw := below_step hw hW
 have hbW := blk_below hW hbk
 obtain ⟨A_3, c_3, A_4, c_4, A_5, c_5, rfl, hl3, hi3, hl4, hi4, hl5, hi5⟩ := k42_open hK
 have hB2 : Below W.heap.size W (W.alloc (.cells #[.int .i64 x.f0, .int .i64 x.f1, .int .i64 x.f2, .slice A_3 (x.f3).length c_3, .slice A_4 (x.f4).length c_4, .slice A_5 (x.f5).length c_5] 42)) := xa (Below.refl _ _) _
 have HL := xm (hp _ x _ b1 (below_step hWw hB2) (Kd.K_below _ hB2 hK) hb1)
 have HB2 := xm hB2
 have hcz : (W.alloc (.cells #[.int .i64 x.f0, .int .i64 x.f1, .int .i64 x.f2, .slice A_3 (x.f3).length c_3, .slice A_4 (x.f4).length c_4, .slice A_5 (x.f5).length c_5] 42)).cell? ⟨b0, 0, none⟩ = some (.func (.func g) #[] lb) := (xc (heap_old hbW) 0).trans rfl
 clear hp hb hb1 hWw hbW hW hbk hw hB2 hK
 clear hl3 hi3
 clear hl4 hi4
 clear hl5 hi5
 have hu42 := Try.underlying42
 simp only [encOne, encAgg, List.headD_cons] at HL ⊢
 go_enter Try.func29, Try.ntmps29
 go_wp2_with (go_at_fn g; refine HL.out.mono ?_; rintro e w' ⟨rfl, hb'⟩)
 go_ret
 exact ⟨rfl, below_step HB2.out hb'⟩

/-! ### impl_areAll_impl_Part: function 15 -/
theorem enters29 : ∀ args w, (callFunc 29 args).run Try.prog w = .ok (.enter 29 args) w := enters_of Try.func29 (by kernel_rfl) rfl
set_option maxHeartbeats 8000000 in
set_option maxRecDepth 100000 in
theorem impl_areAll_impl_Part.any (g : Nat) (lb : Array Value) (eg : ∀ args w, (callFunc g args).run Try.prog w = .ok (.enter g args) w) (pf : S42 → Option Bool)
  (A0 : Option Addr) (c0 : Nat) (l0 : List S42) (r : Bool) (w : World) (hr0 : Kd.C k42 w A0 l0.length l0) (hc0 : l0.length ≤ c0) (hp : PB Try.prog g lb k42 encAgg pf w) (h : allO pf l0 = some r) :
  Calls Try.prog 15 #[.slice A0 l0.length c0, .func (.func g) #[] lb] w fun e w' => e = .returned (.bool r) ∧ Below w.heap.size w w' := by
 rw [← any_all pf l0] at h
 obtain ⟨b, hb, rfl⟩ := Option.map_eq_some_iff.mp h
 have hB1 : Below w.heap.size w (w.alloc (.cells #[.func (.func g) #[] lb] 46)) := xa (Below.refl _ _) _
 have HC := xm (slices_ContainsFunc_Limpl_Part_impl_Part.any 29 #[.pointer (some ⟨w.heap.size, 0, none⟩)] enters29 _ A0 c0 l0 b _ (Kd.C_below hr0 hB1) hc0 (impl_areAll_impl_Part_1.pb g lb eg pf w _ w.heap.size hB1 (heap_new w _ _) hp) hb)
 have HB1 := xm hB1
 clear hr0 hc0 hp h hb eg hB1
 go_enter Try.func15, Try.ntmps15
 go_wp2_with (go_at_call 28; refine HC.out.mono ?_; rintro e w' ⟨rfl, hb⟩)
 go_ret
 exact ⟨rfl, below_step HB1.out hb⟩

/-! ### impl_IsLinear_1: function 16 -/
def impl_IsLinear_1.f (a0_0 : Int) (a0_1 : Int) (a0_2 : Int) (l0_3 : List (S73)) (l0_4 : List Int) (l0_5 : List (List Int)) : Option (Bool) := if a0_0 = 4 then (some false) else (some (a0_0 != 7))
set_option maxHeartbeats 8000000 in
set_option maxRecDepth 100000 in
theorem impl_IsLinear_1.calls (a0_0 : Int) (a0_1 : Int) (a0_2 : Int) (A0_3 : Option Addr) (c0_3 : Nat) (l0_3 : List (S73)) (A0_4 : Option Addr) (c0_4 : Nat) (l0_4 : List Int) (A0_5 : Option Addr) (c0_5 : Nat) (l0_5 : List (List Int)) (r : Bool) (w : World) (hr0_3 : Kd.C k73 w A0_3 l0_3.length l0_3) (hc0_3 : l0_3.length ≤ c0_3) (hr0_4 : Kd.C (Kd.int .i64) w A0_4 l0_4.length l0_4) (hc0_4 : l0_4.length ≤ c0_4) (hr0_5 : Kd.C (Kd.slice 3 (Kd.int .i64)) w A0_5 l0_5.length l0_5) (hc0_5 : l0_5.length ≤ c0_5) (h : impl_IsLinear_1.f a0_0 a0_1 a0_2 l0_3 l0_4 l0_5 = some r) :
  Calls Try.prog 16 #[.agg #[.int .i64 a0_0, .int .i64 a0_1, .int .i64 a0_2, .slice A0_3 l0_3.length c0_3, .slice A0_4 l0_4.length c0_4, .slice A0_5 l0_5.length c0_5]] w fun e w' => e = .returned (.bool r) ∧ Below w.heap.size w w' := by
 have hu42 := Try.underlying42
 have HR0_3 := xm hr0_3
 have HC0_3 := xm hc0_3
 clear hr0_3 hc0_3
 have HR0_4 := xm hr0_4
 have HC0_4 := xm hc0_4
 clear hr0_4 hc0_4
 have HR0_5 := xm hr0_5
 have HC0_5 := xm hc0_5
 clear hr0_5 hc0_5
 have HB := xm (Below.refl w.heap.size w)
 have H : (if a0_0 = 4 then (some false) else (some (a0_0 != 7))) = some r := h
 clear h
 by_cases c2 : a0_0 = 4
 ·rw [if_pos c2] at H
  have c2b0 : (a0_0 == 4) = true := beq_iff_eq.mpr c2
  have c2b1 : (a0_0 != 4) = false := bne_eq_false_iff_eq.mpr c2
  clear c2
  obtain rfl := Option.some.inj H
  go_enter Try.func16, Try.ntmps16
  go_wp2_with (first | ((with_reducible refine gate_dst (N := 1) rfl ?_); refine box_event ?hg (N := 1) ?hd (cs := #[.int .i64 a0_0, .int .i64 a0_1, .int .i64 a0_2, .slice A0_3 l0_3.length c0_3, .slice A0_4 l0_4.length c0_4, .slice A0_5 l0_5.length c0_5]) (t := 42) ?hr ?_; (case hd => rfl); (case hg => rfl); (case hr => exact zB); intro gb277 hg w3 hbox hb; have n0_ := xm (below_step bB hb); have n1_ := xm (hbox); have n2_ := xm ((by rw [hg]; exact (xz bB) : w.heap.size ≤ gb277)); have n3_ := xm ((by rw [hg]; exact (xz bB) : w.heap.size ≤ gb277)); revert n0_ n1_ n2_ n3_; clear HB; intro HB BK277 GW277 GE277; clear hb hbox hg; obtain ⟨hcz4_0, hcz4_1, hcz4_2, hcz4_3, hcz4_4, hcz4_5, hfz4_0, hfz4_1, hfz4_2, hfz4_3, hfz4_4, hfz4_5⟩ := cz6 BK277.out))
  go_ret
  exact ⟨by first | rfl | (simp [errW_none, errW_some] <;> rfl) | (simp [*, errW_none, errW_some] <;> rfl), by repeat (first | (with_reducible first | exact HB.out | apply xa | apply xn | apply xd | refine xt ?_ GE277.out) | exact HB.out)⟩
 ·rw [if_neg c2] at H
  have c2b0 : (a0_0 == 4) = false := beq_eq_false_iff_ne.mpr c2
  have c2b1 : (a0_0 != 4) = true := bne_iff_ne.mpr c2
  obtain rfl := Option.some.inj H
  go_enter Try.func16, Try.ntmps16
  go_wp2_with (first | ((with_reducible refine gate_dst (N := 1) rfl ?_); refine box_event ?hg (N := 1) ?hd (cs := #[.int .i64 a0_0, .int .i64 a0_1, .int .i64 a0_2, .slice A0_3 l0_3.length c0_3, .slice A0_4 l0_4.length c0_4, .slice A0_5 l0_5.length c0_5]) (t := 42) ?hr ?_; (case hd => rfl); (case hg => rfl); (case hr => exact zB); intro gb277 hg w5 hbox hb; have n0_ := xm (below_step bB hb); have n1_ := xm (hbox); have n2_ := xm ((by rw [hg]; exact (xz bB) : w.heap.size ≤ gb277)); have n3_ := xm ((by rw [hg]; exact (xz bB) : w.heap.size ≤ gb277)); revert n0_ n1_ n2_ n3_; clear HB; intro HB BK277 GW277 GE277; clear hb hbox hg; obtain ⟨hcz6_0, hcz6_1, hcz6_2, hcz6_3, hcz6_4, hcz6_5, hfz6_0, hfz6_1, hfz6_2, hfz6_3, hfz6_4, hfz6_5⟩ := cz6 BK277.out))
  go_ret
  exact ⟨by first | rfl | (simp [errW_none, errW_some] <;> rfl) | (simp [*, errW_none, errW_some] <;> rfl), by repeat (first | (with_reducible first | exact HB.out | apply xa | apply xn | apply xd | refine xt ?_ GE277.out) | exact HB.out)⟩

/-! ### impl_areAll_impl_Part__impl_IsLinear_1: function 100005 -/
theorem enters16 : ∀ args w, (callFunc 16 args).run Try.prog w = .ok (.enter 16 args) w := enters_of Try.func16 (by kernel_rfl) rfl
def impl_areAll_impl_Part__impl_IsLinear_1.f (l0 : List S42)  : Option Bool := allO (fun x => impl_IsLinear_1.f x.f0 x.f1 x.f2 x.f3 x.f4 x.f5) l0
set_option maxHeartbeats 8000000 in
set_option maxRecDepth 100000 in
theorem impl_areAll_impl_Part__impl_IsLinear_1.calls (A0 : Option Addr) (c0 : Nat) (l0 : List S42)  (r : Bool) (w : World) (hr0 : Kd.C k42 w A0 l0.length l0) (hc0 : l0.length ≤ c0) (h : impl_areAll_impl_Part__impl_IsLinear_1.f l0  = some r) :
  Calls Try.prog 15 #[.slice A0 l0.length c0, .func (.func 16) #[] #[]] w fun e w' => e = .returned (.bool r) ∧ Below w.heap.size w w' := by
 refine impl_areAll_impl_Part.any 16 #[] enters16 (fun x => impl_IsLinear_1.f x.f0 x.f1 x.f2 x.f3 x.f4 x.f5) A0 c0 l0 r w hr0 hc0 ?_ h
 intro W x cs b hW hK hb
 obtain ⟨A_3, c_3, A_4, c_4, A_5, c_5, rfl, hl3, hi3, hl4, hi4, hl5, hi5⟩ := k42_open hK
 simp only [encOne, encAgg, List.headD_cons, app0, app1, app2, app3]
 refine (impl_IsLinear_1.calls x.f0 x.f1 x.f2 _ _ x.f3 _ _ x.f4 _ _ x.f5 b W hi3 hl3 hi4 hl4 hi5 hl5 hb).mono ?_
 rintro e w' ⟨he, hd⟩
 exact ⟨he, hd⟩

/-! ### impl_IsLinear: function 7 -/
def impl_IsLinear.f (k : Nat) (l0_0 : List Int) (l0_1 : List (S42)) : Option (Bool × Bool) := (impl_CheckView.f k l0_0 l0_1).bind fun bt279 => (if bt279.2 = true then ((impl_areAll_impl_Part__impl_IsLinear_1.f l0_1).bind fun t283 => (some (t283, true))) else (some (false, false)))
theorem impl_IsLinear.mono : ∀ a0 a1 k, LeO (impl_IsLinear.f k a0 a1) (impl_IsLinear.f (k + 1) a0 a1) := by
 intro a0 a1 k
 unfold impl_IsLinear.f
 repeat' first
   | (with_reducible exact impl_CheckView.mono _ _ _)
   | (with_reducible exact LeO.refl _)
   | (with_reducible exact LeO.none _)
   | (with_reducible refine LeO.ite ?_ ?_)
   | (with_reducible refine LeO.bind ?_ (fun _ => ?_))
   | exact impl_CheckView.mono _ _ _
   | exact LeO.none _
   | refine LeO.ite ?_ ?_
   | refine LeO.bind ?_ (fun _ => ?_)
set_option maxHeartbeats 8000000 in
set_option maxRecDepth 100000 in
theorem impl_IsLinear.calls (k : Nat) (A0_0 : Option Addr) (c0_0 : Nat) (l0_0 : List Int) (A0_1 : Option Addr) (c0_1 : Nat) (l0_1 : List (S42)) (r1 : Bool) (r2 : Bool) (w : World) (hr0_0 : Kd.C (Kd.int .i64) w A0_0 l0_0.length l0_0) (hc0_0 : l0_0.length ≤ c0_0) (hr0_1 : Kd.C k42 w A0_1 l0_1.length l0_1) (hc0_1 : l0_1.length ≤ c0_1) (h : impl_IsLinear.f k l0_0 l0_1 = some (r1, r2)) :
  Calls Try.prog 7 #[.agg #[.slice A0_0 l0_0.length c0_0, .slice A0_1 l0_1.length c0_1]] w fun e w' => e = .returned (.tuple #[.bool r1, .bool r2]) ∧ Below w.heap.size w w' := by
 have hu31 := Try.underlying31
 have HR0_0 := xm hr0_0
 have HC0_0 := xm hc0_0
 clear hr0_0 hc0_0
 have HR0_1 := xm hr0_1
 have HC0_1 := xm hc0_1
 clear hr0_1 hc0_1
 have HB := xm (Below.refl w.heap.size w)
 have H : ((impl_CheckView.f k l0_0 l0_1).bind fun bt279 => (if bt279.2 = true then ((impl_areAll_impl_Part__impl_IsLinear_1.f l0_1).bind fun t283 => (some (t283, true))) else (some (false, false)))) = some (r1, r2) := h
 clear h
 replace H := Option.bind_eq_some_iff.mp H
 obtain ⟨⟨t279, t282⟩, A20, H⟩ := H
 replace H : (if t282 = true then ((impl_areAll_impl_Part__impl_IsLinear_1.f l0_1).bind fun t283 => (some (t283, true))) else (some (false, false))) = some (r1, r2) := H
 have A2 := xm A20
 clear A20
 by_cases c3 : t282 = true
 ·subst c3
  have H1 : ((impl_areAll_impl_Part__impl_IsLinear_1.f l0_1).bind fun t283 => (some (t283, true))) = some (r1, r2) := by first | (with_reducible rfl) | (rw [if_pos rfl] at H; exact H)
  clear H
  have H := H1
  clear H1
  replace H := Option.bind_eq_some_iff.mp H
  obtain ⟨t283, A40, H⟩ := H
  replace H : (some (t283, true)) = some (r1, r2) := H
  have A4 := xm A40
  clear A40
  simp only [Option.some.injEq, Prod.mk.injEq] at H
  obtain ⟨rfl, rfl⟩ := H
  go_enter Try.func7, Try.ntmps7
  go_wp2_with (first | ((with_reducible refine gate_dst (N := 1) rfl ?_); refine box_event ?hg (N := 1) ?hd (cs := #[.slice A0_0 l0_0.length c0_0, .slice A0_1 l0_1.length c0_1]) (t := 31) ?hr ?_; (case hd => rfl); (case hg => rfl); (case hr => exact zB); intro gb278 hg w5 hbox hb; have n0_ := xm (below_step bB hb); have n1_ := xm (hbox); have n2_ := xm ((by rw [hg]; exact (xz bB) : w.heap.size ≤ gb278)); have n3_ := xm ((by rw [hg]; exact (xz bB) : w.heap.size ≤ gb278)); revert n0_ n1_ n2_ n3_; clear HB; intro HB BK278 GW278 GE278; clear hb hbox hg; obtain ⟨hcz6_0, hcz6_1, hfz6_0, hfz6_1⟩ := cz2 BK278.out) | ((with_reducible refine gate_callee (f := 14) rfl ?_); refine goesL_ (some 8) rfl rfl Try.func14 (by kernel_rfl) rfl #[.agg #[.slice A0_0 l0_0.length c0_0, .slice A0_1 l0_1.length c0_1]] rfl mB ?_; (with_reducible refine (impl_CheckView.calls k _ _ l0_0 _ _ l0_1 t279 true _ ?side1 ?side2 ?side3 ?side4 A2.out).mono ?_); (case side1 => exact cB (Kd.C_below HR0_0.out HB.out)); (case side2 => exact HC0_0.out); (case side3 => exact cB (Kd.C_below HR0_1.out HB.out)); (case side4 => exact HC0_1.out); rintro e w7 ⟨v280, rfl, ho0, hb⟩; refine ⟨_, rfl, ?_⟩; have n0_ := xm (Kd.R_lower ho0 (xz bG)); have n1_ := xm (blk_below (kB BK278) hb); have n2_ := xm (below_step bG hb); revert n0_ n1_ n2_; clear BK278 HB; intro HO281 BK278 HB; (try clear hb); (try clear hb2); (try clear hk); (try clear hi); (try clear ho0); obtain ⟨hcz8_0, hcz8_1, hfz8_0, hfz8_1⟩ := cz2 BK278.out) | ((with_reducible refine gate_callee (f := 15) rfl ?_); refine goesL_ (some 15) rfl rfl Try.func15 (by kernel_rfl) rfl #[.slice A0_1 l0_1.length c0_1, .func (.func 16) #[] #[]] rfl mB ?_; (with_reducible refine (impl_areAll_impl_Part__impl_IsLinear_1.calls _ _ l0_1 t283 _ ?side1 ?side2 A4.out).mono ?_); (case side1 => exact cB (Kd.C_below HR0_1.out HB.out)); (case side2 => exact HC0_1.out); rintro e w9 ⟨rfl, hb⟩; refine ⟨_, rfl, ?_⟩; have n0_ := xm (Kd.R_below (rB HO281) hb); have n1_ := xm (blk_below (kB BK278) hb); have n2_ := xm (below_step bG hb); revert n0_ n1_ n2_; clear HO281 BK278 HB; intro HO281 BK278 HB; (try clear hb); (try clear hb2); (try clear hk); (try clear hi)))
  go_ret2
  exact ⟨by first | rfl | (simp [errW_none, errW_some] <;> rfl) | (simp [*, errW_none, errW_some] <;> rfl), by repeat (first | (with_reducible first | exact HB.out | apply xa | apply xn | apply xd | refine xt ?_ GE278.out) | exact HB.out)⟩
 ·replace c3 := Bool.eq_false_iff.mpr c3
  subst c3
  have H1 : (some (false, false)) = some (r1, r2) := by first | (with_reducible rfl) | (rw [if_neg (show ¬ (false = true) by decide)] at H; exact H)
  clear H
  have H := H1
  clear H1
  simp only [Option.some.injEq, Prod.mk.injEq] at H
  obtain ⟨rfl, rfl⟩ := H
  go_enter Try.func7, Try.ntmps7
  go_wp2_with (first | ((with_reducible refine gate_dst (N := 1) rfl ?_); refine box_event ?hg (N := 1) ?hd (cs := #[.slice A0_0 l0_0.length c0_0, .slice A0_1 l0_1.length c0_1]) (t := 31) ?hr ?_; (case hd => rfl); (case hg => rfl); (case hr => exact zB); intro gb278 hg w10 hbox hb; have n0_ := xm (below_step bB hb); have n1_ := xm (hbox); have n2_ := xm ((by rw [hg]; exact (xz bB) : w.heap.size ≤ gb278)); have n3_ := xm ((by rw [hg]; exact (xz bB) : w.heap.size ≤ gb278)); revert n0_ n1_ n2_ n3_; clear HB; intro HB BK278 GW278 GE278; clear hb hbox hg; obtain ⟨hcz11_0, hcz11_1, hfz11_0, hfz11_1⟩ := cz2 BK278.out) | ((with_reducible refine gate_callee (f := 14) rfl ?_); refine goesL_ (some 8) rfl rfl Try.func14 (by kernel_rfl) rfl #[.agg #[.slice A0_0 l0_0.length c0_0, .slice A0_1 l0_1.length c0_1]] rfl mB ?_; (with_reducible refine (impl_CheckView.calls k _ _ l0_0 _ _ l0_1 t279 false _ ?side1 ?side2 ?side3 ?side4 A2.out).mono ?_); (case side1 => exact cB (Kd.C_below HR0_0.out HB.out)); (case side2 => exact HC0_0.out); (case side3 => exact cB (Kd.C_below HR0_1.out HB.out)); (case side4 => exact HC0_1.out); rintro e w12 ⟨v280, rfl, ho0, hb⟩; refine ⟨_, rfl, ?_⟩; have n0_ := xm (Kd.R_lower ho0 (xz bG)); have n1_ := xm (blk_below (kB BK278) hb); have n2_ := xm (below_step bG hb); revert n0_ n1_ n2_; clear BK278 HB; intro HO281 BK278 HB; (try clear hb); (try clear hb2); (try clear hk); (try clear hi); (try clear ho0)))
  go_ret2
  exact ⟨by first | rfl | (simp [errW_none, errW_some] <;> rfl) | (simp [*, errW_none, errW_some] <;> rfl), by repeat (first | (with_reducible first | exact HB.out | apply xa | apply xn | apply xd | refine xt ?_ GE278.out) | exact HB.out)⟩

/-! ### laws_eqIntS: function 17 -/
def laws_eqIntS.l0 : Nat → List Int → List Int → Int → Option (Bool)
 | 0, _, _, _ => none
 | k + 1, x0, x1, x5 => if x5 < (x0.length : Int) then (if 0 ≤ x5 then (if x5 < (x1.length : Int) then (if (rd x0 x5) = (rd x1 x5) then (laws_eqIntS.l0 k x0 x1 (wrap64 (x5 + 1))) else (some false)) else (none)) else (none)) else (some true)
def laws_eqIntS.f (k : Nat) (l0 : List Int) (l1 : List Int) : Option (Bool) := if (l0.length : Int) = (l1.length : Int) then (laws_eqIntS.l0 k l0 l1 0) else (some false)
theorem laws_eqIntS.mono_l : ∀ k, (∀ y0 y1 y2, LeO (laws_eqIntS.l0 k y0 y1 y2) (laws_eqIntS.l0 (k + 1) y0 y1 y2))
 | 0 => fun _ _ _ r h => by simp [laws_eqIntS.l0] at h
 | k + 1 => by
  have ih0 := laws_eqIntS.mono_l k
  ·intro y0 y1 y2
   unfold laws_eqIntS.l0
   repeat' first
   | (with_reducible exact ih0 _ _ _)
   | (with_reducible exact LeO.refl _)
   | (with_reducible exact LeO.none _)
   | (with_reducible refine LeO.ite ?_ ?_)
   | (with_reducible refine LeO.bind ?_ (fun _ => ?_))
   | exact ih0 _ _ _
   | exact LeO.none _
   | refine LeO.ite ?_ ?_
   | refine LeO.bind ?_ (fun _ => ?_)
theorem laws_eqIntS.mono : ∀ a0 a1 k, LeO (laws_eqIntS.f k a0 a1) (laws_eqIntS.f (k + 1) a0 a1) := by
 intro a0 a1 k
 have ih0 := laws_eqIntS.mono_l k
 unfold laws_eqIntS.f
 repeat' first
   | (with_reducible exact ih0 _ _ _)
   | (with_reducible exact LeO.refl _)
   | (with_reducible exact LeO.none _)
   | (with_reducible refine LeO.ite ?_ ?_)
   | (with_reducible refine LeO.bind ?_ (fun _ => ?_))
   | exact ih0 _ _ _
   | exact LeO.none _
   | refine LeO.ite ?_ ?_
   | refine LeO.bind ?_ (fun _ => ?_)
set_option maxHeartbeats 8000000 in
set_option maxRecDepth 100000 in
theorem laws_eqIntS.calls (k : Nat) (A0 : Option Addr) (c0 : Nat) (l0 : List Int) (A1 : Option Addr) (c1 : Nat) (l1 : List Int) (r : Bool) (w : World) (hr0 : Kd.C (Kd.int .i64) w A0 l0.length l0) (hc0 : l0.length ≤ c0) (hr1 : Kd.C (Kd.int .i64) w A1 l1.length l1) (hc1 : l1.length ≤ c1) (h : laws_eqIntS.f k l0 l1 = some r) :
  Calls Try.prog 17 #[.slice A0 l0.length c0, .slice A1 l1.length c1] w fun e w' => e = .returned (.bool r) ∧ Drawn0 w w' := by
 have HR0 := xm hr0
 have HC0 := xm hc0
 clear hr0 hc0
 have HR1 := xm hr1
 have HC1 := xm hc1
 clear hr1 hc1
 have H : (if (l0.length : Int) = (l1.length : Int) then (laws_eqIntS.l0 k l0 l1 0) else (some false)) = some r := h
 clear h
 by_cases c3 : (l0.length : Int) = (l1.length : Int)
 ·rw [if_pos c3] at H
  have c3b0 : ((l0.length : Int) == (l1.length : Int)) = true := beq_iff_eq.mpr c3
  have c3b1 : ((l0.length : Int) != (l1.length : Int)) = false := bne_eq_false_iff_eq.mpr c3
  have c3b2 : (l0.length == l1.length) = true := by first | simpa using c3 | (simp at c3 ⊢; omega)
  clear c3
  have H' := xm H
  clear H
  go_enter Try.func17, Try.ntmps17
  go_wp2
  repeat (go_quiet (fail); try go_wp2)
  go_loopg [5] k (fun kq v5 w' => ∃ (x5_1 : Int), v5 = .int .i64 x5_1 ∧ Aside0 (laws_eqIntS.l0 kq l0 l1 x5_1 = some r) ∧ Aside0 (kq ≤ k) ∧ Drawn0 w w')
  case atStart => exact ⟨(0), (by first | rfl | (simp; done) | (simp [*]; done)), H', ⟨Nat.le_refl _⟩, by repeat (first | exact Drawn0.refl _ | apply Drawn0.step)⟩
  case round =>
   clear H'
   try clear c1
   try clear p2
   try clear c3
   try clear c3b0
   try clear c3b1
   try clear c3b2
   obtain ⟨x5_1, rfl, HA, HK1, ⟨m1, rfl⟩⟩ := hrel
   cases gk with
   | zero => exact absurd HA.out (by simp [laws_eqIntS.l0])
   | succ k1 =>
    have H := HA.out
    clear HA
    simp only [laws_eqIntS.l0] at H
    by_cases c4 : x5_1 < (l0.length : Int)
    ·rw [if_pos c4] at H
     have c4b0 : decide (x5_1 < (l0.length : Int)) = true := decide_eq_true c4
     clear c4
     by_cases c5 : 0 ≤ x5_1
     ·rw [if_pos c5] at H
      have c5b0 : decide (0 ≤ x5_1) = true := decide_eq_true c5
      clear c5
      by_cases c6 : x5_1 < (l1.length : Int)
      ·rw [if_pos c6] at H
       have c6b0 : decide (x5_1 < (l1.length : Int)) = true := decide_eq_true c6
       clear c6
       by_cases c7 : (rd l0 x5_1) = (rd l1 x5_1)
       ·rw [if_pos c7] at H
        have c7b0 : ((rd l0 x5_1) == (rd l1 x5_1)) = true := beq_iff_eq.mpr c7
        have c7b1 : ((rd l0 x5_1) != (rd l1 x5_1)) = false := bne_eq_false_iff_eq.mpr c7
        clear c7
        have H' := xm H
        clear H
        have p284 : 0 ≤ (x5_1 : Int) := of_decide_eq_true aB
        have q284 : x5_1 < (l0.length : Int) := of_decide_eq_true aB
        obtain ⟨ad284, e284, hx284_0⟩ := Kd.at_int HR0.out x5_1 p284 q284
        cases e284
        replace p284 := eq_true p284
        replace q284 := eq_true q284
        have p285 : 0 ≤ (x5_1 : Int) := of_decide_eq_true aB
        have q285 : x5_1 < (l1.length : Int) := of_decide_eq_true aB
        obtain ⟨ad285, e285, hx285_0⟩ := Kd.at_int HR1.out x5_1 p285 q285
        cases e285
        replace p285 := eq_true p285
        replace q285 := eq_true q285
        go_wp2
        repeat (go_quiet (fail); try go_wp2)
        go_roundg k1
        case measure => have := HK1.out; omega
        case rel => exact ⟨(wrap64 (x5_1 + 1)), (by first | rfl | (simp; done) | (simp [*]; done)), H', ⟨by have := HK1.out; omega⟩, by repeat (first | exact Drawn0.refl _ | apply Drawn0.step)⟩
       ·rw [if_neg c7] at H
        have c7b0 : ((rd l0 x5_1) == (rd l1 x5_1)) = false := beq_eq_false_iff_ne.mpr c7
        have c7b1 : ((rd l0 x5_1) != (rd l1 x5_1)) = true := bne_iff_ne.mpr c7
        obtain rfl := Option.some.inj H
        have p284 : 0 ≤ (x5_1 : Int) := of_decide_eq_true aB
        have q284 : x5_1 < (l0.length : Int) := of_decide_eq_true aB
        obtain ⟨ad284, e284, hx284_0⟩ := Kd.at_int HR0.out x5_1 p284 q284
        cases e284
        replace p284 := eq_true p284
        replace q284 := eq_true q284
        have p285 : 0 ≤ (x5_1 : Int) := of_decide_eq_true aB
        have q285 : x5_1 < (l1.length : Int) := of_decide_eq_true aB
        obtain ⟨ad285, e285, hx285_0⟩ := Kd.at_int HR1.out x5_1 p285 q285
        cases e285
        replace p285 := eq_true p285
        replace q285 := eq_true q285
        go_wp2
        repeat (go_quiet (fail); try go_wp2)
        go_ret
        exact ⟨by first | rfl | (simp; done) | (simp [*]; done), by repeat (first | exact Drawn0.refl _ | apply Drawn0.step)⟩
      ·rw [if_neg c6] at H
       exact absurd H (by simp)
     ·rw [if_neg c5] at H
      exact absurd H (by simp)
    ·rw [if_neg c4] at H
     have c4b0 : decide (x5_1 < (l0.length : Int)) = false := decide_eq_false c4
     clear c4
     obtain rfl := Option.some.inj H
     go_wp2
     repeat (go_quiet (fail); try go_wp2)
     go_ret
     exact ⟨by first | rfl | (simp; done) | (simp [*]; done), by repeat (first | exact Drawn0.refl _ | apply Drawn0.step)⟩
 ·rw [if_neg c3] at H
  have c3b0 : ((l0.length : Int) == (l1.length : Int)) = false := beq_eq_false_iff_ne.mpr c3
  have c3b1 : ((l0.length : Int) != (l1.length : Int)) = true := bne_iff_ne.mpr c3
  have c3b2 : (l0.length == l1.length) = false := by first | simpa using c3 | (simp at c3 ⊢; omega)
  obtain rfl := Option.some.inj H
  go_enter Try.func17, Try.ntmps17
  go_wp2
  repeat (go_quiet (fail); try go_wp2)
  go_ret
  exact ⟨by first | rfl | (simp; done) | (simp [*]; done), by repeat (first | exact Drawn0.refl _ | apply Drawn0.step)⟩

/-! ### laws_eqTest: function 58 -/
def laws_eqTest.f (a0_0 : Int) (a0_1 : Int) (a0_2 : Int) (a1_0 : Int) (a1_1 : Int) (a1_2 : Int) : Option (Bool) := if a0_0 = a1_0 then (if a0_1 = a1_1 then (if a0_2 = a1_2 then (some true) else (some false)) else (some false)) else (some false)
set_option maxHeartbeats 8000000 in
set_option maxRecDepth 100000 in
theorem laws_eqTest.calls (a0_0 : Int) (a0_1 : Int) (a0_2 : Int) (a1_0 : Int) (a1_1 : Int) (a1_2 : Int) (r : Bool) (w : World) (h : laws_eqTest.f a0_0 a0_1 a0_2 a1_0 a1_1 a1_2 = some r) :
  Calls Try.prog 58 #[.agg #[.int .i64 a0_0, .int .i64 a0_1, .int .i64 a0_2], .agg #[.int .i64 a1_0, .int .i64 a1_1, .int .i64 a1_2]] w fun e w' => e = .returned (.bool r) ∧ Below w.heap.size w w' := by
 have hu73 := Try.underlying73
 have HB := xm (Below.refl w.heap.size w)
 have H : (if a0_0 = a1_0 then (if a0_1 = a1_1 then (if a0_2 = a1_2 then (some true) else (some false)) else (some false)) else (some false)) = some r := h
 clear h
 by_cases c3 : a0_0 = a1_0
 ·rw [if_pos c3] at H
  have c3b0 : (a0_0 == a1_0) = true := beq_iff_eq.mpr c3
  have c3b1 : (a0_0 != a1_0) = false := bne_eq_false_iff_eq.mpr c3
  clear c3
  by_cases c4 : a0_1 = a1_1
  ·rw [if_pos c4] at H
   have c4b0 : (a0_1 == a1_1) = true := beq_iff_eq.mpr c4
   have c4b1 : (a0_1 != a1_1) = false := bne_eq_false_iff_eq.mpr c4
   clear c4
   by_cases c5 : a0_2 = a1_2
   ·rw [if_pos c5] at H
    have c5b0 : (a0_2 == a1_2) = true := beq_iff_eq.mpr c5
    have c5b1 : (a0_2 != a1_2) = false := bne_eq_false_iff_eq.mpr c5
    clear c5
    obtain rfl := Option.some.inj H
    go_enter Try.func58, Try.ntmps58
    go_wp2_with (first | ((with_reducible refine gate_dst (N := 2) rfl ?_); refine box_event ?hg (N := 2) ?hd (cs := #[.int .i64 a0_0, .int .i64 a0_1, .int .i64 a0_2]) (t := 73) ?hr ?_; (case hd => rfl); (case hg => rfl); (case hr => exact zB); intro gb286 hg w6 hbox hb; have n0_ := xm (below_step bB hb); have n1_ := xm (hbox); have n2_ := xm ((by rw [hg]; exact (xz bB) : w.heap.size ≤ gb286)); have n3_ := xm ((by rw [hg]; exact (xz bB) : w.heap.size ≤ gb286)); revert n0_ n1_ n2_ n3_; clear HB; intro HB BK286 GW286 GE286; clear hb hbox hg) | ((with_reducible refine gate_dst (N := 3) rfl ?_); refine box_event ?hg (N := 3) ?hd (cs := #[.int .i64 a1_0, .int .i64 a1_1, .int .i64 a1_2]) (t := 73) ?hr ?_; (case hd => rfl); (case hg => rfl); (case hr => exact zB); intro gb287 hg w7 hbox hb; have n0_ := xm (blk_below (kB BK286) hb); have n1_ := xm (below_step bG hb); have n2_ := xm (hbox); have n3_ := xm ((by rw [hg]; exact (xz bG) : w.heap.size ≤ gb287)); have n4_ := xm ((by rw [hg]; exact (xz bG) : w.heap.size ≤ gb287)); have n5_ := xm ((by rw [hg]; exact Nat.ne_of_lt (blk_lt (kB BK286)) : gb286 ≠ gb287)); have n6_ := xm ((by rw [hg]; exact Nat.ne_of_gt (blk_lt (kB BK286)) : gb287 ≠ gb286)); revert n0_ n1_ n2_ n3_ n4_ n5_ n6_; clear BK286 HB; intro BK286 HB BK287 GW287 GE287 NB286_287 NB287_286; clear hb hbox hg; have hnb8 := NB286_287.out; have hnc8 := NB287_286.out; obtain ⟨hcz9_0, hcz9_1, hcz9_2, hfz9_0, hfz9_1, hfz9_2⟩ := cz3 BK286.out; obtain ⟨hcz10_0, hcz10_1, hcz10_2, hfz10_0, hfz10_1, hfz10_2⟩ := cz3 BK287.out))
    go_ret
    exact ⟨by first | rfl | (simp [errW_none, errW_some] <;> rfl) | (simp [*, errW_none, errW_some] <;> rfl), by repeat (first | (with_reducible first | exact HB.out | apply xa | apply xn | apply xd | refine xt ?_ GE286.out | refine xt ?_ GE287.out) | exact HB.out)⟩
   ·rw [if_neg c5] at H
    have c5b0 : (a0_2 == a1_2) = false := beq_eq_false_iff_ne.mpr c5
    have c5b1 : (a0_2 != a1_2) = true := bne_iff_ne.mpr c5
    obtain rfl := Option.some.inj H
    go_enter Try.func58, Try.ntmps58
    go_wp2_with (first | ((with_reducible refine gate_dst (N := 2) rfl ?_); refine box_event ?hg (N := 2) ?hd (cs := #[.int .i64 a0_0, .int .i64 a0_1, .int .i64 a0_2]) (t := 73) ?hr ?_; (case hd => rfl); (case hg => rfl); (case hr => exact zB); intro gb286 hg w11 hbox hb; have n0_ := xm (below_step bB hb); have n1_ := xm (hbox); have n2_ := xm ((by rw [hg]; exact (xz bB) : w.heap.size ≤ gb286)); have n3_ := xm ((by rw [hg]; exact (xz bB) : w.heap.size ≤ gb286)); revert n0_ n1_ n2_ n3_; clear HB; intro HB BK286 GW286 GE286; clear hb hbox hg) | ((with_reducible refine gate_dst (N := 3) rfl ?_); refine box_event ?hg (N := 3) ?hd (cs := #[.int .i64 a1_0, .int .i64 a1_1, .int .i64 a1_2]) (t := 73) ?hr ?_; (case hd => rfl); (case hg => rfl); (case hr => exact zB); intro gb287 hg w12 hbox hb; have n0_ := xm (blk_below (kB BK286) hb); have n1_ := xm (below_step bG hb); have n2_ := xm (hbox); have n3_ := xm ((by rw [hg]; exact (xz bG) : w.heap.size ≤ gb287)); have n4_ := xm ((by rw [hg]; exact (xz bG) : w.heap.size ≤ gb287)); have n5_ := xm ((by rw [hg]; exact Nat.ne_of_lt (blk_lt (kB BK286)) : gb286 ≠ gb287)); have n6_ := xm ((by rw [hg]; exact Nat.ne_of_gt (blk_lt (kB BK286)) : gb287 ≠ gb286)); revert n0_ n1_ n2_ n3_ n4_ n5_ n6_; clear BK286 HB; intro BK286 HB BK287 GW287 GE287 NB286_287 NB287_286; clear hb hbox hg; have hnb13 := NB286_287.out; have hnc13 := NB287_286.out; obtain ⟨hcz14_0, hcz14_1, hcz14_2, hfz14_0, hfz14_1, hfz14_2⟩ := cz3 BK286.out; obtain ⟨hcz15_0, hcz15_1, hcz15_2, hfz15_0, hfz15_1, hfz15_2⟩ := cz3 BK287.out))
    go_ret
    exact ⟨by first | rfl | (simp [errW_none, errW_some] <;> rfl) | (simp [*, errW_none, errW_some] <;> rfl), by repeat (first | (with_reducible first | exact HB.out | apply xa | apply xn | apply xd | refine xt ?_ GE286.out | refine xt ?_ GE287.out) | exact HB.out)⟩
  ·rw [if_neg c4] at H
   have c4b0 : (a0_1 == a1_1) = false := beq_eq_false_iff_ne.mpr c4
   have c4b1 : (a0_1 != a1_1) = true := bne_iff_ne.mpr c4
   obtain rfl := Option.some.inj H
   go_enter Try.func58, Try.ntmps58
   go_wp2_with (first | ((with_reducible refine gate_dst (N := 2) rfl ?_); refine box_event ?hg (N := 2) ?hd (cs := #[.int .i64 a0_0, .int .i64 a0_1, .int .i64 a0_2]) (t := 73) ?hr ?_; (case hd => rfl); (case hg => rfl); (case hr => exact zB); intro gb286 hg w16 hbox hb; have n0_ := xm (below_step bB hb); have n1_ := xm (hbox); have n2_ := xm ((by rw [hg]; exact (xz bB) : w.heap.size ≤ gb286)); have n3_ := xm ((by rw [hg]; exact (xz bB) : w.heap.size ≤ gb286)); revert n0_ n1_ n2_ n3_; clear HB; intro HB BK286 GW286 GE286; clear hb hbox hg) | ((with_reducible refine gate_dst (N := 3) rfl ?_); refine box_event ?hg (N := 3) ?hd (cs := #[.int .i64 a1_0, .int .i64 a1_1, .int .i64 a1_2]) (t := 73) ?hr ?_; (case hd => rfl); (case hg => rfl); (case hr => exact zB); intro gb287 hg w17 hbox hb; have n0_ := xm (blk_below (kB BK286) hb); have n1_ := xm (below_step bG hb); have n2_ := xm (hbox); have n3_ := xm ((by rw [hg]; exact (xz bG) : w.heap.size ≤ gb287)); have n4_ := xm ((by rw [hg]; exact (xz bG) : w.heap.size ≤ gb287)); have n5_ := xm ((by rw [hg]; exact Nat.ne_of_lt (blk_lt (kB BK286)) : gb286 ≠ gb287)); have n6_ := xm ((by rw [hg]; exact Nat.ne_of_gt (blk_lt (kB BK286)) : gb287 ≠ gb286)); revert n0_ n1_ n2_ n3_ n4_ n5_ n6_; clear BK286 HB; intro BK286 HB BK287 GW287 GE287 NB286_287 NB287_286; clear hb hbox hg; have hnb18 := NB286_287.out; have hnc18 := NB287_286.out; obtain ⟨hcz19_0, hcz19_1, hcz19_2, hfz19_0, hfz19_1, hfz19_2⟩ := cz3 BK286.out; obtain ⟨hcz20_0, hcz20_1, hcz20_2, hfz20_0, hfz20_1, hfz20_2⟩ := cz3 BK287.out))
   go_ret
   exact ⟨by first | rfl | (simp [errW_none, errW_some] <;> rfl) | (simp [*, errW_none, errW_some] <;> rfl), by repeat (first | (with_reducible first | exact HB.out | apply xa | apply xn | apply xd | refine xt ?_ GE286.out | refine xt ?_ GE287.out) | exact HB.out)⟩
 ·rw [if_neg c3] at H
  have c3b0 : (a0_0 == a1_0) = false := beq_eq_false_iff_ne.mpr c3
  have c3b1 : (a0_0 != a1_0) = true := bne_iff_ne.mpr c3
  obtain rfl := Option.some.inj H
  go_enter Try.func58, Try.ntmps58
  go_wp2_with (first | ((with_reducible refine gate_dst (N := 2) rfl ?_); refine box_event ?hg (N := 2) ?hd (cs := #[.int .i64 a0_0, .int .i64 a0_1, .int .i64 a0_2]) (t := 73) ?hr ?_; (case hd => rfl); (case hg => rfl); (case hr => exact zB); intro gb286 hg w21 hbox hb; have n0_ := xm (below_step bB hb); have n1_ := xm (hbox); have n2_ := xm ((by rw [hg]; exact (xz bB) : w.heap.size ≤ gb286)); have n3_ := xm ((by rw [hg]; exact (xz bB) : w.heap.size ≤ gb286)); revert n0_ n1_ n2_ n3_; clear HB; intro HB BK286 GW286 GE286; clear hb hbox hg) | ((with_reducible refine gate_dst (N := 3) rfl ?_); refine box_event ?hg (N := 3) ?hd (cs := #[.int .i64 a1_0, .int .i64 a1_1, .int .i64 a1_2]) (t := 73) ?hr ?_; (case hd => rfl); (case hg => rfl); (case hr => exact zB); intro gb287 hg w22 hbox hb; have n0_ := xm (blk_below (kB BK286) hb); have n1_ := xm (below_step bG hb); have n2_ := xm (hbox); have n3_ := xm ((by rw [hg]; exact (xz bG) : w.heap.size ≤ gb287)); have n4_ := xm ((by rw [hg]; exact (xz bG) : w.heap.size ≤ gb287)); have n5_ := xm ((by rw [hg]; exact Nat.ne_of_lt (blk_lt (kB BK286)) : gb286 ≠ gb287)); have n6_ := xm ((by rw [hg]; exact Nat.ne_of_gt (blk_lt (kB BK286)) : gb287 ≠ gb286)); revert n0_ n1_ n2_ n3_ n4_ n5_ n6_; clear BK286 HB; intro BK286 HB BK287 GW287 GE287 NB286_287 NB287_286; clear hb hbox hg; have hnb23 := NB286_287.out; have hnc23 := NB287_286.out; obtain ⟨hcz24_0, hcz24_1, hcz24_2, hfz24_0, hfz24_1, hfz24_2⟩ := cz3 BK286.out; obtain ⟨hcz25_0, hcz25_1, hcz25_2, hfz25_0, hfz25_1, hfz25_2⟩ := cz3 BK287.out))
  go_ret
  exact ⟨by first | rfl | (simp [errW_none, errW_some] <;> rfl) | (simp [*, errW_none, errW_some] <;> rfl), by repeat (first | (with_reducible first | exact HB.out | apply xa | apply xn | apply xd | refine xt ?_ GE286.out | refine xt ?_ GE287.out) | exact HB.out)⟩

end Go.Proofs.Ytaddemalepndfab.G
