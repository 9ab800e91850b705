/- Written by a program of this claim's own, out of the translation: functions of the program as plain functions, and that the calls answer as these. No conditions. -/
import Derived.Test.YtmelechhnimlnadG0
import Derived.Test.YtmelechhnimlnadG10
import Derived.Test.YtmelechhnimlnadG11
import Derived.Test.YtmelechhnimlnadG13
namespace Go.Proofs.Ytmelechhnimlnad.G
open Go.RowKit Go.Proofs.Ytmelechhnimlnad.X Go.Proofs.YtmelechhnimlnadW.PrintWords Go.Proofs.YtmelechhnimlnadW.PrintLast Go.Proofs.YtmelechhnimlnadW.PrintMore
attribute [local go_sem] max2_int min2_int max_two min_two max_three min_three max_four min_four   -- for this text's walks alone
set_option linter.unusedVariables false
set_option linter.unusedSimpArgs false

/-! ### impl_Tableau_step: function 23 -/
theorem enters45 : ∀ args w, (callFunc 45 args).run Try.prog w = .ok (.enter 45 args) w := enters_of Try.func45 (by kernel_rfl) rfl
def impl_Tableau_step.st (k : Nat) (c : Int) : List S49 → List S48 → Int → Option (Int × List S48)
  | [], xs, _ => some (-1, xs)
  | d :: ds, xs, i => (impl_Tableau_stepBy.f k c xs d.f0 d.f1).bind fun t => if t.1 = true then some (i, t.2) else impl_Tableau_step.st k c ds t.2 (i + 1)
theorem impl_Tableau_step.st_mono (k : Nat) (c : Int) : ∀ ds xs i, LeO (impl_Tableau_step.st k c ds xs i) (impl_Tableau_step.st (k + 1) c ds xs i)
  | [], _, _ => LeO.refl _
  | d :: ds, xs, i => LeO.bind (impl_Tableau_stepBy.mono _ _ _ _ k) fun t => LeO.ite (LeO.refl _) (impl_Tableau_step.st_mono k c ds t.2 (i + 1))
def impl_Tableau_step.f (k : Nat) (a0_0 : Int) (l0_1 : List S48) (l1 : List S49) : Option (Bool × List S48) := (impl_Tableau_step.st k a0_0 l1 l0_1 0).bind fun t => some (decide (0 ≤ t.1), t.2)
theorem impl_Tableau_step.mono : ∀ a0 a1 a2 k, LeO (impl_Tableau_step.f k a0 a1 a2) (impl_Tableau_step.f (k + 1) a0 a1 a2) := fun a0 a1 a2 k => LeO.bind (impl_Tableau_step.st_mono k a0 a2 a1 0) fun _ => LeO.refl _
set_option maxHeartbeats 8000000 in
set_option maxRecDepth 100000 in
theorem impl_Tableau_step.idx (k : Nat) (c : Int) (A0 : Option Addr) (c0 : Nat) (l0 : List S49) (A1 : Option Addr) (m c1 : Nat) (xs xr : List S48) (r : Int) (P0_ : Nat → Prop) (w0 w : World) (hW : Below w0.heap.size w0 w) (ho : Kd.S k48 48 w w0.heap.size P0_ (.slice A1 m c1) xs) (hr0 : Kd.C k49 w0 A0 l0.length l0) (hc0 : l0.length ≤ c0) (h : impl_Tableau_step.st k c l0 xs 0 = some (r, xr)) :
    Calls Try.prog 55 #[.slice A0 l0.length c0, .func (.func 45) #[.agg #[.int .i64 c, .slice A1 m c1]] #[]] w fun e w' => e = .returned (.int .i64 r) ∧ Kd.S k48 48 w' w0.heap.size P0_ (.slice A1 m c1) xr ∧ Below w0.heap.size w0 w' ∧ Kept w w' P0_ := by
  have eg := enters45
  have HR0 := xm hr0
  have H' := xm h
  have HS := xm ho
  have HB := xm hW
  have HK := xm (Kept.refl w P0_)
  have hn : (l0.length : Int) ≤ 9223372036854775807 := by have := hr0.2.1; omega
  clear hr0 h hc0 ho hW
  have huD := Try.underlying49
  go_enter Try.func55, Try.ntmps55
  go_wp2
  go_loopg [5, 8] l0.length (fun kq v5 v8 w' => ∃ (kk : Nat) (ys : List S48), v8 = .int .i64 kk ∧ kk ≤ l0.length ∧ l0.length - kk ≤ kq ∧ Aside0 (impl_Tableau_step.st k c (l0.drop kk) ys kk = some (r, xr)) ∧ Aside0 (Kd.S k48 48 w' w0.heap.size P0_ (.slice A1 m c1) ys) ∧ Aside0 (Below w0.heap.size w0 w') ∧ Aside0 (Kept w w' P0_))
  case atStart => exact ⟨0, xs, rfl, Nat.zero_le _, by omega, H', HS, HB, HK⟩
  case round =>
    clear H' HB HS HK
    obtain ⟨kk, ys, rfl, hkk, hg, HA, HS, HB, HK⟩ := hrel
    by_cases hlt : kk < l0.length
    · have hlti : (kk : Int) < (l0.length : Int) := by omega
      obtain ⟨ad, A_0, c_0, A_1, c_1, e0, hx0, hx1, hl0, hi0, hl1, hi1⟩ := at_T49 HR0.out (kk : Int) (by omega) hlti
      cases e0
      replace hx0 := hU hx0
      replace hx1 := hU hx1
      simp only [Int.toNat_natCast] at hx0 hx1
      have H := HA.out
      rw [List.drop_eq_getElem_cons hlt] at H
      unfold impl_Tableau_step.st at H
      have hrd : l0[kk] = rd_T49 l0 (kk : Int) := by simp [rd_T49, hlt]
      rw [hrd] at H
      obtain ⟨⟨b, yr⟩, hb, H⟩ := Option.bind_eq_some_iff.mp H
      have hm : m = ys.length := (Kd.S_reads' HS.out).1
      have hs0 := HS.out
      rw [hm] at hs0
      have hcall := impl_Tableau_stepBy.calls k c A1 c1 ys A_0 c_0 _ A_1 c_1 _ b yr P0_ w0 wr HB.out hs0 (Kd.C_below hi0 HB.out) hl0 (Kd.C_below hi1 HB.out) hl1 hb
      rw [← hm] at hcall
      have HL := xm hcall
      have HI0 := xm hi0
      have HI1 := xm hi1
      have HM := xm hm
      clear hi0 hl0
      clear hi1 hl1
      clear hcall hb HA hm hs0
      clear hrd
      cases b with
      | true =>
        replace H : some ((kk : Int), yr) = some (r, xr) := H
        obtain ⟨rfl, rfl⟩ := Prod.mk.inj (Option.some.inj H)
        clear H
        go_wp2_with (go_at_fn 45; refine HL.out.mono ?_; rintro e w' ⟨rfl, hs', hb', hk'⟩)
        go_ret
        exact ⟨rfl, hs', hb', Kept.then_ HK.out hk' (fun _ h_ => .inl h_)⟩
      | false =>
        replace H : impl_Tableau_step.st k c (l0.drop (kk + 1)) yr ((kk : Int) + 1) = some (r, xr) := H
        have H1 := xm H
        clear H
        go_wp2_with (go_at_fn 45; refine HL.out.mono ?_; rintro e w' ⟨rfl, hs', hb', hk'⟩)
        go_roundg (l0.length - (kk + 1))
        case measure => omega
        case rel => exact ⟨kk + 1, yr, by go_num, by omega, by omega, ⟨by have := H1.out; simpa using this⟩, ⟨hs'⟩, ⟨hb'⟩, ⟨Kept.then_ HK.out hk' (fun _ h_ => .inl h_)⟩⟩
    · have : kk = l0.length := by omega
      subst this
      have H := HA.out
      rw [List.drop_length] at H
      unfold impl_Tableau_step.st at H
      obtain ⟨rfl, rfl⟩ := Prod.mk.inj (Option.some.inj H)
      clear H HA
      go_wp2
      go_ret
      exact ⟨rfl, HS.out, HB.out, HK.out⟩
set_option maxHeartbeats 8000000 in
set_option maxRecDepth 100000 in
theorem impl_Tableau_step.has (k : Nat) (c : Int) (A0 : Option Addr) (c0 : Nat) (l0 : List S49) (A1 : Option Addr) (m c1 : Nat) (xs xr : List S48) (r : Bool) (P0_ : Nat → Prop) (w0 w : World) (hW : Below w0.heap.size w0 w) (ho : Kd.S k48 48 w w0.heap.size P0_ (.slice A1 m c1) xs) (hr0 : Kd.C k49 w0 A0 l0.length l0) (hc0 : l0.length ≤ c0) (h : impl_Tableau_step.f k c xs l0 = some (r, xr)) :
    Calls Try.prog 44 #[.slice A0 l0.length c0, .func (.func 45) #[.agg #[.int .i64 c, .slice A1 m c1]] #[]] w fun e w' => e = .returned (.bool r) ∧ Kd.S k48 48 w' w0.heap.size P0_ (.slice A1 m c1) xr ∧ Below w0.heap.size w0 w' ∧ Kept w w' P0_ := by
  unfold impl_Tableau_step.f at h
  obtain ⟨⟨i, xi⟩, hi, hri⟩ := Option.bind_eq_some_iff.mp h
  obtain ⟨hri, rfl⟩ := Prod.mk.inj (Option.some.inj hri)
  have HC := xm (impl_Tableau_step.idx k c A0 c0 l0 A1 m c1 xs xi i P0_ w0 w hW ho hr0 hc0 hi)
  have HR := xm hri
  clear hr0 hc0 h hi hri hW ho
  go_enter Try.func44, Try.ntmps44
  go_wp2_with (go_at_call 55; refine HC.out.mono ?_; rintro e w' ⟨rfl, hs, hb, hk⟩)
  go_ret
  exact ⟨by first | rfl | (rw [← HR.out]; rfl) | rw [← HR.out], hs, hb, hk⟩
set_option maxHeartbeats 8000000 in
set_option maxRecDepth 100000 in
theorem impl_Tableau_step.calls (k : Nat) (a0_0 : Int) (A1 : Option Addr) (m c1 : Nat) (l0_1 : List S48) (A2 : Option Addr) (c2 : Nat) (l1 : List S49) (r : Bool) (r2 : List S48) (P0_ : Nat → Prop) (w0 w : World) (hW : Below w0.heap.size w0 w) (ho : Kd.S k48 48 w w0.heap.size P0_ (.slice A1 m c1) l0_1) (hr1 : Kd.C k49 w0 A2 l1.length l1) (hc1 : l1.length ≤ c2) (h : impl_Tableau_step.f k a0_0 l0_1 l1 = some (r, r2)) :
    Calls Try.prog 23 #[.agg #[.int .i64 a0_0, .slice A1 m c1], .slice A2 l1.length c2] w fun e w' => e = .returned (.bool r) ∧ Kd.S k48 48 w' w0.heap.size P0_ (.slice A1 m c1) r2 ∧ Below w0.heap.size w0 w' ∧ Kept w w' P0_ := by
  have huT := Try.underlying43
  have HR := xm hr1
  have HC := xm hc1
  have HS := xm ho
  have HB := xm hW
  have HH := xm h
  clear hr1 hc1 ho hW h
  go_enter Try.func23, Try.ntmps23
  go_wp2_with (first
    | ((with_reducible refine gate_dst (N := 2) rfl ?_); refine box_event ?hg (N := 2) ?hd (cs := #[.int .i64 a0_0, .slice A1 m c1]) (t := 43) ?hr ?_; (case hd => rfl); (case hg => rfl); (case hr => exact zB); intro gb hg w1 hbox hb; have n0_ := xm (Kd.S_below HS.out hb); have n1_ := xm (below_step HB.out hb); have n2_ := xm (Kept.of_below hb P0_); clear HS HB hb hg; revert n0_ n1_ n2_; intro HS HB HK; obtain ⟨hc0, hc1, hf0, hf1⟩ := cz2 hbox; clear hbox)
    | (go_at_call 44; refine (impl_Tableau_step.has k a0_0 A2 c2 l1 A1 m c1 l0_1 r2 r P0_ w0 _ HB.out HS.out HR.out HC.out HH.out).mono ?_; rintro e w2 ⟨rfl, hs, hb, hk⟩))
  go_ret
  exact ⟨rfl, hs, hb, Kept.then_ HK.out hk (fun _ h_ => .inl h_)⟩

/-! ### slices_IndexFunc_Limpl_Row_impl_Row: function 46 -/
set_option maxHeartbeats 8000000 in
set_option maxRecDepth 100000 in
theorem slices_IndexFunc_Limpl_Row_impl_Row.any (g : Nat) (lb : Array Value) (eg : ∀ args w, (callFunc g args).run Try.prog w = .ok (.enter g args) w) (pf : S48 → Option Bool)
    (A0 : Option Addr) (c0 : Nat) (l0 : List S48) (r : Int) (w : World) (hr0 : Kd.C k48 w A0 l0.length l0) (hc0 : l0.length ≤ c0) (hp : PB Try.prog g lb k48 encAgg pf w) (h : idxO pf l0 0 = some r) :
    Calls Try.prog 46 #[.slice A0 l0.length c0, .func (.func g) #[] lb] w fun e w' => e = .returned (.int .i64 r) ∧ Below w.heap.size w w' := by
  have HR0 := xm hr0
  have HP := xm hp
  have H' := xm h
  have HB := xm (Below.refl w.heap.size w)
  have hn : (l0.length : Int) ≤ 9223372036854775807 := by have := hr0.2.1; omega
  clear hr0 hp h hc0
  have hu48 := Try.underlying48
  go_enter Try.func46, Try.ntmps46
  go_wp2
  go_loopg [5, 8] l0.length (fun kq v5 v8 w' => ∃ kk : Nat, v8 = .int .i64 kk ∧ kk ≤ l0.length ∧ l0.length - kk ≤ kq ∧ Aside0 (idxO pf (l0.drop kk) kk = some r) ∧ Aside0 (Below w.heap.size w w'))
  case atStart => exact ⟨0, rfl, Nat.zero_le _, by omega, H', HB⟩
  case round =>
    clear H' HB
    obtain ⟨kk, rfl, hkk, hg, HA, HB⟩ := hrel
    by_cases hlt : kk < l0.length
    · have hlti : (kk : Int) < (l0.length : Int) := by omega
      obtain ⟨ad, A_0, c_0, e0, hx0, hl0, hi0⟩ := at_T48 HR0.out (kk : Int) (by omega) hlti
      cases e0
      replace hx0 := hU hx0
      simp only [Int.toNat_natCast] at hx0
      have H := HA.out
      rw [List.drop_eq_getElem_cons hlt] at H
      unfold idxO at H
      have hrd : l0[kk] = rd_T48 l0 (kk : Int) := by simp [rd_T48, hlt]
      rw [hrd] at H
      obtain ⟨b, hb, H⟩ := Option.bind_eq_some_iff.mp H
      have hcall := HP.out _ (rd_T48 l0 (kk : Int)) [.slice A_0 ((rd_T48 l0 (kk : Int)).f0).length c_0] b HB.out (k48_mk wr (rd_T48 l0 (kk : Int)) hl0 (Kd.C_below hi0 HB.out)) hb
      have HL := xm hcall
      have HI0 := xm hi0
      clear hi0 hl0
      clear hcall hb HA
      clear hrd
      simp only [encOne, encAgg, List.headD_cons] at HL
      cases b with
      | true =>
        obtain rfl := Option.some.inj H
        go_wp2_with (go_at_fn g; refine HL.out.mono ?_; rintro e w' ⟨rfl, hb'⟩)
        go_ret
        exact ⟨rfl, below_step HB.out hb'⟩
      | false =>
        have H1 := xm H
        clear H
        go_wp2_with (go_at_fn g; refine HL.out.mono ?_; rintro e w' ⟨rfl, hb'⟩)
        go_roundg (l0.length - (kk + 1))
        case measure => omega
        case rel => exact ⟨kk + 1, by go_num, by omega, by omega, ⟨by have := H1.out; simpa using this⟩, ⟨below_step HB.out hb'⟩⟩
    · have : kk = l0.length := by omega
      subst this
      have H := HA.out
      rw [List.drop_length] at H
      unfold idxO at H
      obtain rfl := Option.some.inj H
      clear H HA
      go_wp2
      go_ret
      exact ⟨rfl, HB.out⟩

/-! ### slices_ContainsFunc_Limpl_Row_impl_Row: function 24 -/
set_option maxHeartbeats 8000000 in
set_option maxRecDepth 100000 in
theorem slices_ContainsFunc_Limpl_Row_impl_Row.any (g : Nat) (lb : Array Value) (eg : ∀ args w, (callFunc g args).run Try.prog w = .ok (.enter g args) w) (pf : S48 → Option Bool)
    (A0 : Option Addr) (c0 : Nat) (l0 : List S48) (r : Bool) (w : World) (hr0 : Kd.C k48 w A0 l0.length l0) (hc0 : l0.length ≤ c0) (hp : PB Try.prog g lb k48 encAgg pf w) (h : anyO pf l0 = some r) :
    Calls Try.prog 24 #[.slice A0 l0.length c0, .func (.func g) #[] lb] w fun e w' => e = .returned (.bool r) ∧ Below w.heap.size w w' := by
  rw [← idxO_any pf l0 0 (Int.le_refl 0)] at h
  obtain ⟨i, hi, hri⟩ := Option.map_eq_some_iff.mp h
  have HC := xm (slices_IndexFunc_Limpl_Row_impl_Row.any g lb eg pf A0 c0 l0 i w hr0 hc0 hp hi)
  have HR := xm hri
  clear hr0 hc0 hp h hi hri eg
  go_enter Try.func24, Try.ntmps24
  go_wp2_with (go_at_call 46; refine HC.out.mono ?_; rintro e w' ⟨rfl, hb⟩)
  go_ret
  exact ⟨by first | rfl | (rw [HR.out]; rfl) | rw [HR.out], hb⟩

/-! ### slices_IndexFunc_Lint_int: function 59 -/
set_option maxHeartbeats 8000000 in
set_option maxRecDepth 100000 in
theorem slices_IndexFunc_Lint_int.any (g : Nat) (lb : Array Value) (eg : ∀ args w, (callFunc g args).run Try.prog w = .ok (.enter g args) w) (pf : Int → Option Bool)
    (A0 : Option Addr) (c0 : Nat) (l0 : List Int) (r : Int) (w : World) (hr0 : Kd.C (Kd.int .i64) w A0 l0.length l0) (hc0 : l0.length ≤ c0) (hp : PB Try.prog g lb (Kd.int .i64) encOne pf w) (h : idxO pf l0 0 = some r) :
    Calls Try.prog 59 #[.slice A0 l0.length c0, .func (.func g) #[] lb] w fun e w' => e = .returned (.int .i64 r) ∧ Below w.heap.size w w' := by
  have HR0 := xm hr0
  have HP := xm hp
  have H' := xm h
  have HB := xm (Below.refl w.heap.size w)
  have hn : (l0.length : Int) ≤ 9223372036854775807 := by have := hr0.2.1; omega
  clear hr0 hp h hc0
  go_enter Try.func59, Try.ntmps59
  go_wp2
  go_loopg [5, 8] l0.length (fun kq v5 v8 w' => ∃ kk : Nat, v8 = .int .i64 kk ∧ kk ≤ l0.length ∧ l0.length - kk ≤ kq ∧ Aside0 (idxO pf (l0.drop kk) kk = some r) ∧ Aside0 (Below w.heap.size w w'))
  case atStart => exact ⟨0, rfl, Nat.zero_le _, by omega, H', HB⟩
  case round =>
    clear H' HB
    obtain ⟨kk, rfl, hkk, hg, HA, HB⟩ := hrel
    by_cases hlt : kk < l0.length
    · have hlti : (kk : Int) < (l0.length : Int) := by omega
      obtain ⟨ad, e0, hx0⟩ := Kd.at_int HR0.out (kk : Int) (by omega) hlti
      cases e0
      replace hx0 := hU hx0
      simp only [Int.toNat_natCast] at hx0
      have H := HA.out
      rw [List.drop_eq_getElem_cons hlt] at H
      unfold idxO at H
      have hrd : l0[kk] = rd l0 (kk : Int) := by simp [rd, hlt]
      rw [hrd] at H
      obtain ⟨b, hb, H⟩ := Option.bind_eq_some_iff.mp H
      have hcall := HP.out _ (rd l0 (kk : Int)) [.int .i64 (rd l0 (kk : Int))] b HB.out rfl hb
      have HL := xm hcall
      clear hcall hb HA
      clear hrd
      simp only [encOne, encAgg, List.headD_cons] at HL
      cases b with
      | true =>
        obtain rfl := Option.some.inj H
        go_wp2_with (go_at_fn g; refine HL.out.mono ?_; rintro e w' ⟨rfl, hb'⟩)
        go_ret
        exact ⟨rfl, below_step HB.out hb'⟩
      | false =>
        have H1 := xm H
        clear H
        go_wp2_with (go_at_fn g; refine HL.out.mono ?_; rintro e w' ⟨rfl, hb'⟩)
        go_roundg (l0.length - (kk + 1))
        case measure => omega
        case rel => exact ⟨kk + 1, by go_num, by omega, by omega, ⟨by have := H1.out; simpa using this⟩, ⟨below_step HB.out hb'⟩⟩
    · have : kk = l0.length := by omega
      subst this
      have H := HA.out
      rw [List.drop_length] at H
      unfold idxO at H
      obtain rfl := Option.some.inj H
      clear H HA
      go_wp2
      go_ret
      exact ⟨rfl, HB.out⟩

/-! ### slices_ContainsFunc_Lint_int: function 47 -/
set_option maxHeartbeats 8000000 in
set_option maxRecDepth 100000 in
theorem slices_ContainsFunc_Lint_int.any (g : Nat) (lb : Array Value) (eg : ∀ args w, (callFunc g args).run Try.prog w = .ok (.enter g args) w) (pf : Int → Option Bool)
    (A0 : Option Addr) (c0 : Nat) (l0 : List Int) (r : Bool) (w : World) (hr0 : Kd.C (Kd.int .i64) w A0 l0.length l0) (hc0 : l0.length ≤ c0) (hp : PB Try.prog g lb (Kd.int .i64) encOne pf w) (h : anyO pf l0 = some r) :
    Calls Try.prog 47 #[.slice A0 l0.length c0, .func (.func g) #[] lb] w fun e w' => e = .returned (.bool r) ∧ Below w.heap.size w w' := by
  rw [← idxO_any pf l0 0 (Int.le_refl 0)] at h
  obtain ⟨i, hi, hri⟩ := Option.map_eq_some_iff.mp h
  have HC := xm (slices_IndexFunc_Lint_int.any g lb eg pf A0 c0 l0 i w hr0 hc0 hp hi)
  have HR := xm hri
  clear hr0 hc0 hp h hi hri eg
  go_enter Try.func47, Try.ntmps47
  go_wp2_with (go_at_call 59; refine HC.out.mono ?_; rintro e w' ⟨rfl, hb⟩)
  go_ret
  exact ⟨by first | rfl | (rw [HR.out]; rfl) | rw [HR.out], hb⟩

/-! ### impl_areAll_int_1: function 48 -/
set_option maxHeartbeats 8000000 in
set_option maxRecDepth 100000 in
theorem impl_areAll_int_1.pb (g : Nat) (lb : Array Value) (eg : ∀ args w, (callFunc g args).run Try.prog w = .ok (.enter g args) w) (pf : Int → Option Bool) (w w1 : World) (b0 : Nat) (hw : Below w.heap.size w w1)
    (hbk : w1.heap[b0]? = some (.cells #[.func (.func g) #[] lb] 55 (0, 0))) (hp : PB Try.prog g lb (Kd.int .i64) encOne pf w) :
    PB Try.prog 48 #[.pointer (some ⟨b0, 0, none⟩)] (Kd.int .i64) encOne (fun x => (pf x).map (!·)) w1 := by
  intro W x cs b hW hK hb
  obtain ⟨b1, hb1, rfl⟩ := Option.map_eq_some_iff.mp hb
  have hWw := below_step hw hW
  have hbW := blk_below hW hbk
  have HL := xm (hp W x cs b1 hWw hK hb1)
  obtain rfl : cs = [.int .i64 x] := hK
  have hcz : W.cell? ⟨b0, 0, none⟩ = some (.func (.func g) #[] lb) := (xc hbW 0).trans rfl
  clear hp hb hb1 hWw hbW hW hbk hw
  simp only [encOne, encAgg, List.headD_cons] at HL ⊢
  go_enter Try.func48, Try.ntmps48
  go_wp2_with (go_at_fn g; refine HL.out.mono ?_; rintro e w' ⟨rfl, hb'⟩)
  go_ret
  exact ⟨rfl, hb'⟩

/-! ### impl_areAll_int: function 26 -/
theorem enters48 : ∀ args w, (callFunc 48 args).run Try.prog w = .ok (.enter 48 args) w := enters_of Try.func48 (by kernel_rfl) rfl
set_option maxHeartbeats 8000000 in
set_option maxRecDepth 100000 in
theorem impl_areAll_int.any (g : Nat) (lb : Array Value) (eg : ∀ args w, (callFunc g args).run Try.prog w = .ok (.enter g args) w) (pf : Int → Option Bool)
    (A0 : Option Addr) (c0 : Nat) (l0 : List Int) (r : Bool) (w : World) (hr0 : Kd.C (Kd.int .i64) w A0 l0.length l0) (hc0 : l0.length ≤ c0) (hp : PB Try.prog g lb (Kd.int .i64) encOne pf w) (h : allO pf l0 = some r) :
    Calls Try.prog 26 #[.slice A0 l0.length c0, .func (.func g) #[] lb] w fun e w' => e = .returned (.bool r) ∧ Below w.heap.size w w' := by
  rw [← any_all pf l0] at h
  obtain ⟨b, hb, rfl⟩ := Option.map_eq_some_iff.mp h
  have hB1 : Below w.heap.size w (w.alloc (.cells #[.func (.func g) #[] lb] 55)) := xa (Below.refl _ _) _
  have HC := xm (slices_ContainsFunc_Lint_int.any 48 #[.pointer (some ⟨w.heap.size, 0, none⟩)] enters48 _ A0 c0 l0 b _ (Kd.C_below hr0 hB1) hc0 (impl_areAll_int_1.pb g lb eg pf w _ w.heap.size hB1 (heap_new w _ _) hp) hb)
  have HB1 := xm hB1
  clear hr0 hc0 hp h hb eg hB1
  go_enter Try.func26, Try.ntmps26
  go_wp2_with (go_at_call 47; refine HC.out.mono ?_; rintro e w' ⟨rfl, hb⟩)
  go_ret
  exact ⟨rfl, below_step HB1.out hb⟩

/-! ### impl_IsLossless_1_1: function 27 -/
def impl_IsLossless_1_1.f (a0 : Int) : Option (Bool) := some (a0 == 0)
set_option maxHeartbeats 8000000 in
set_option maxRecDepth 100000 in
theorem impl_IsLossless_1_1.calls (a0 : Int) (r : Bool) (w : World) (h : impl_IsLossless_1_1.f a0 = some r) :
    Calls Try.prog 27 #[.int .i64 a0] w fun e w' => e = .returned (.bool r) ∧ Drawn0 w w' := by
  have H : (some (a0 == 0)) = some r := h
  clear h
  obtain rfl := Option.some.inj H
  go_enter Try.func27, Try.ntmps27
  go_wp2
  go_ret
  exact ⟨sB, dB⟩

/-! ### impl_areAll_int__impl_IsLossless_1_1: function 100001 -/
theorem enters27 : ∀ args w, (callFunc 27 args).run Try.prog w = .ok (.enter 27 args) w := enters_of Try.func27 (by kernel_rfl) rfl
def impl_areAll_int__impl_IsLossless_1_1.f (l0 : List Int)  : Option Bool := allO (fun x => impl_IsLossless_1_1.f x) l0
set_option maxHeartbeats 8000000 in
set_option maxRecDepth 100000 in
theorem impl_areAll_int__impl_IsLossless_1_1.calls (A0 : Option Addr) (c0 : Nat) (l0 : List Int)  (r : Bool) (w : World) (hr0 : Kd.C (Kd.int .i64) w A0 l0.length l0) (hc0 : l0.length ≤ c0) (h : impl_areAll_int__impl_IsLossless_1_1.f l0  = some r) :
    Calls Try.prog 26 #[.slice A0 l0.length c0, .func (.func 27) #[] #[]] w fun e w' => e = .returned (.bool r) ∧ Below w.heap.size w w' := by
  refine impl_areAll_int.any 27 #[] enters27 (fun x => impl_IsLossless_1_1.f x) A0 c0 l0 r w hr0 hc0 ?_ h
  intro W x cs b hW hK hb
  obtain rfl : cs = [.int .i64 x] := hK
  simp only [encOne, encAgg, List.headD_cons, app0, app1, app2, app3]
  refine (impl_IsLossless_1_1.calls x b W hb).mono ?_
  rintro e w' ⟨he, hd⟩
  exact ⟨he, hd.below⟩

/-! ### impl_IsLossless_1: function 25 -/
def impl_IsLossless_1.f (l0_0 : List Int) : Option (Bool) := (impl_areAll_int__impl_IsLossless_1_1.f l0_0).bind fun t352 => (some t352)
set_option maxHeartbeats 8000000 in
set_option maxRecDepth 100000 in
theorem impl_IsLossless_1.calls (A0_0 : Option Addr) (c0_0 : Nat) (l0_0 : List Int) (r : Bool) (w : World) (hr0_0 : Kd.C (Kd.int .i64) w A0_0 l0_0.length l0_0) (hc0_0 : l0_0.length ≤ c0_0) (h : impl_IsLossless_1.f l0_0 = some r) :
    Calls Try.prog 25 #[.agg #[.slice A0_0 l0_0.length c0_0]] w fun e w' => e = .returned (.bool r) ∧ Below w.heap.size w w' := by
  have hu48 := Try.underlying48
  have HR0_0 := xm hr0_0
  have HC0_0 := xm hc0_0
  clear hr0_0 hc0_0
  have HB := xm (Below.refl w.heap.size w)
  have H : ((impl_areAll_int__impl_IsLossless_1_1.f l0_0).bind fun t352 => (some t352)) = some r := h
  clear h
  replace H := Option.bind_eq_some_iff.mp H
  obtain ⟨t352, A20, H⟩ := H
  replace H : (some t352) = some r := H
  have A2 := xm A20
  clear A20
  obtain rfl := Option.some.inj H
  go_enter Try.func25, Try.ntmps25
  go_wp2_with (first | ((with_reducible refine gate_dst (N := 1) rfl ?_); refine box_event ?hg (N := 1) ?hd (cs := #[.slice A0_0 l0_0.length c0_0]) (t := 48) ?hr ?_; (case hd => rfl); (case hg => rfl); (case hr => exact zB); intro gb351 hg w3 hbox hb; have n0_ := xm (below_step bB hb); have n1_ := xm (hbox); have n2_ := xm ((by rw [hg]; exact (xz bB) : w.heap.size ≤ gb351)); have n3_ := xm ((by rw [hg]; exact (xz bB) : w.heap.size ≤ gb351)); revert n0_ n1_ n2_ n3_; clear HB; intro HB BK351 GW351 GE351; clear hb hbox hg; obtain ⟨hcz4_0, hfz4_0⟩ := cz1 BK351.out) | ((with_reducible refine gate_callee (f := 26) rfl ?_); refine goesL_ (some 5) rfl rfl Try.func26 (by kernel_rfl) rfl #[.slice A0_0 l0_0.length c0_0, .func (.func 27) #[] #[]] rfl mB ?_; (with_reducible refine (impl_areAll_int__impl_IsLossless_1_1.calls _ _ l0_0 t352 _ ?side1 ?side2 A2.out).mono ?_); (case side1 => exact cB (Kd.C_below HR0_0.out HB.out)); (case side2 => exact HC0_0.out); rintro e w5 ⟨rfl, hb⟩; refine ⟨_, rfl, ?_⟩; have n0_ := xm (blk_below (kB BK351) hb); have n1_ := xm (below_step bG hb); revert n0_ n1_; clear BK351 HB; intro BK351 HB; (try clear hb)))
  go_ret
  exact ⟨eB, bG⟩

/-! ### impl_IsLossless: function 9 -/
theorem enters25 : ∀ args w, (callFunc 25 args).run Try.prog w = .ok (.enter 25 args) w := enters_of Try.func25 (by kernel_rfl) rfl
def slices_ContainsFunc_Limpl_Row_impl_Row__impl_IsLossless_1.f (l0 : List S48)  : Option Bool := anyO (fun x => impl_IsLossless_1.f x.f0) l0
set_option maxHeartbeats 8000000 in
set_option maxRecDepth 100000 in
theorem slices_ContainsFunc_Limpl_Row_impl_Row__impl_IsLossless_1.calls (A0 : Option Addr) (c0 : Nat) (l0 : List S48)  (r : Bool) (w : World) (hr0 : Kd.C k48 w A0 l0.length l0) (hc0 : l0.length ≤ c0) (h : slices_ContainsFunc_Limpl_Row_impl_Row__impl_IsLossless_1.f l0  = some r) :
  Calls Try.prog 24 #[.slice A0 l0.length c0, .func (.func 25) #[] #[]] w fun e w' => e = .returned (.bool r) ∧ Below w.heap.size w w' := by
 refine slices_ContainsFunc_Limpl_Row_impl_Row.any 25 #[] enters25 (fun x => impl_IsLossless_1.f x.f0) A0 c0 l0 r w hr0 hc0 ?_ h
 intro W x cs b hW hK hb
 obtain ⟨A_0, c_0, rfl, hl0, hi0⟩ := k48_open hK
 simp only [encOne, encAgg, List.headD_cons, app0, app1, app2, app3]
 refine (impl_IsLossless_1.calls _ _ x.f0 b W hi0 hl0 hb).mono ?_
 rintro e w' ⟨he, hd⟩
 exact ⟨he, hd⟩

mutual
def impl_IsLossless.j0 : Nat → List (S49) → List (List Int) → Int → Bool → Option (Bool × Bool)
 | 0, _, _, _, _ => none
 | k + 1, x0, x1, x2, x18 => if x18 = true then (some (false, false)) else ((impl_start.f k x1 x2).bind fun bt355 => (impl_IsLossless.l0 k x0 bt355.1 bt355.2))
def impl_IsLossless.l0 : Nat → List (S49) → Int → List (S48) → Option (Bool × Bool)
 | 0, _, _, _ => none
 | k + 1, x0, x360000, x360001 => (impl_Tableau_step.f k x360000 x360001 x0).bind fun t360 => (if t360.1 = true then (impl_IsLossless.l0 k x0 x360000 t360.2) else ((slices_ContainsFunc_Limpl_Row_impl_Row__impl_IsLossless_1.f t360.2).bind fun t361 => (some (t361, true))))
end
def impl_IsLossless.f (k : Nat) (l0 : List (S49)) (l1 : List (List Int)) (a2 : Int) : Option (Bool × Bool) := (impl_GoodDepends.f k l0 a2).bind fun t353 => (if t353 = true then ((impl_GoodParts.f k l1 a2).bind fun t354 => (impl_IsLossless.j0 k l0 l1 a2 (!t354))) else (impl_IsLossless.j0 k l0 l1 a2 true))
theorem impl_IsLossless.mono_l : ∀ k, (∀ y0 y1 y2 y3, LeO (impl_IsLossless.j0 k y0 y1 y2 y3) (impl_IsLossless.j0 (k + 1) y0 y1 y2 y3)) ∧ (∀ y0 y1 y2, LeO (impl_IsLossless.l0 k y0 y1 y2) (impl_IsLossless.l0 (k + 1) y0 y1 y2))
 | 0 => ⟨fun _ _ _ _ r h => by simp [impl_IsLossless.j0] at h, fun _ _ _ r h => by simp [impl_IsLossless.l0] at h⟩
 | k + 1 => by
  obtain ⟨ih0, ih1⟩ := impl_IsLossless.mono_l k
  refine ⟨?_, ?_⟩
  ·intro y0 y1 y2 y3
   unfold impl_IsLossless.j0
   repeat' first
   | (with_reducible exact ih0 _ _ _ _)
   | (with_reducible exact ih1 _ _ _)
   | (with_reducible exact impl_GoodDepends.mono _ _ _)
   | (with_reducible exact impl_GoodParts.mono _ _ _)
   | (with_reducible exact impl_Tableau_step.mono _ _ _ _)
   | (with_reducible exact impl_start.mono _ _ _)
   | (with_reducible exact LeO.refl _)
   | (with_reducible exact LeO.none _)
   | (with_reducible refine LeO.ite ?_ ?_)
   | (with_reducible refine LeO.bind ?_ (fun _ => ?_))
   | exact ih0 _ _ _ _
   | exact ih1 _ _ _
   | exact impl_GoodDepends.mono _ _ _
   | exact impl_GoodParts.mono _ _ _
   | exact impl_Tableau_step.mono _ _ _ _
   | exact impl_start.mono _ _ _
   | exact LeO.none _
   | refine LeO.ite ?_ ?_
   | refine LeO.bind ?_ (fun _ => ?_)
  ·intro y0 y1 y2
   unfold impl_IsLossless.l0
   repeat' first
   | (with_reducible exact ih0 _ _ _ _)
   | (with_reducible exact ih1 _ _ _)
   | (with_reducible exact impl_GoodDepends.mono _ _ _)
   | (with_reducible exact impl_GoodParts.mono _ _ _)
   | (with_reducible exact impl_Tableau_step.mono _ _ _ _)
   | (with_reducible exact impl_start.mono _ _ _)
   | (with_reducible exact LeO.refl _)
   | (with_reducible exact LeO.none _)
   | (with_reducible refine LeO.ite ?_ ?_)
   | (with_reducible refine LeO.bind ?_ (fun _ => ?_))
   | exact ih0 _ _ _ _
   | exact ih1 _ _ _
   | exact impl_GoodDepends.mono _ _ _
   | exact impl_GoodParts.mono _ _ _
   | exact impl_Tableau_step.mono _ _ _ _
   | exact impl_start.mono _ _ _
   | exact LeO.none _
   | refine LeO.ite ?_ ?_
   | refine LeO.bind ?_ (fun _ => ?_)
theorem impl_IsLossless.mono : ∀ a0 a1 a2 k, LeO (impl_IsLossless.f k a0 a1 a2) (impl_IsLossless.f (k + 1) a0 a1 a2) := by
 intro a0 a1 a2 k
 obtain ⟨ih0, ih1⟩ := impl_IsLossless.mono_l k
 unfold impl_IsLossless.f
 repeat' first
   | (with_reducible exact ih0 _ _ _ _)
   | (with_reducible exact ih1 _ _ _)
   | (with_reducible exact impl_GoodDepends.mono _ _ _)
   | (with_reducible exact impl_GoodParts.mono _ _ _)
   | (with_reducible exact impl_Tableau_step.mono _ _ _ _)
   | (with_reducible exact impl_start.mono _ _ _)
   | (with_reducible exact LeO.refl _)
   | (with_reducible exact LeO.none _)
   | (with_reducible refine LeO.ite ?_ ?_)
   | (with_reducible refine LeO.bind ?_ (fun _ => ?_))
   | exact ih0 _ _ _ _
   | exact ih1 _ _ _
   | exact impl_GoodDepends.mono _ _ _
   | exact impl_GoodParts.mono _ _ _
   | exact impl_Tableau_step.mono _ _ _ _
   | exact impl_start.mono _ _ _
   | exact LeO.none _
   | refine LeO.ite ?_ ?_
   | refine LeO.bind ?_ (fun _ => ?_)
set_option maxHeartbeats 8000000 in
set_option maxRecDepth 100000 in
theorem impl_IsLossless.calls (k : Nat) (A0 : Option Addr) (c0 : Nat) (l0 : List (S49)) (A1 : Option Addr) (c1 : Nat) (l1 : List (List Int)) (a2 : Int) (r1 : Bool) (r2 : Bool) (w : World) (hr0 : Kd.C k49 w A0 l0.length l0) (hc0 : l0.length ≤ c0) (hr1 : Kd.C (Kd.slice 3 (Kd.int .i64)) w A1 l1.length l1) (hc1 : l1.length ≤ c1) (h : impl_IsLossless.f k l0 l1 a2 = some (r1, r2)) :
  Calls Try.prog 9 #[.slice A0 l0.length c0, .slice A1 l1.length c1, .int .i64 a2] w fun e w' => e = .returned (.tuple #[.bool r1, .bool r2]) ∧ Below w.heap.size w w' := by
 have hu43 := Try.underlying43
 have HR0 := xm hr0
 have HC0 := xm hc0
 clear hr0 hc0
 have HR1 := xm hr1
 have HC1 := xm hc1
 clear hr1 hc1
 have HB := xm (Below.refl w.heap.size w)
 have H : ((impl_GoodDepends.f k l0 a2).bind fun t353 => (if t353 = true then ((impl_GoodParts.f k l1 a2).bind fun t354 => (impl_IsLossless.j0 k l0 l1 a2 (!t354))) else (impl_IsLossless.j0 k l0 l1 a2 true))) = some (r1, r2) := h
 clear h
 have HC4 := xm H
 clear H
 go_enter Try.func9, Try.ntmps9
 go_upto_region 1 with (fail)
 go_cut [18] (fun v18 wc => ∃ (kq : Nat) (x18_3 : Bool), v18 = .bool x18_3 ∧ Aside0 (impl_IsLossless.j0 kq l0 l1 a2 x18_3 = some (r1, r2)) ∧ Aside0 (kq ≤ k) ∧ Aside0 (Below w.heap.size w wc))
 case first =>
  have H := HC4.out
  clear HC4
  replace H := Option.bind_eq_some_iff.mp H
  obtain ⟨t353, A50, H⟩ := H
  replace H : (if t353 = true then ((impl_GoodParts.f k l1 a2).bind fun t354 => (impl_IsLossless.j0 k l0 l1 a2 (!t354))) else (impl_IsLossless.j0 k l0 l1 a2 true)) = some (r1, r2) := H
  have A5 := xm A50
  clear A50
  by_cases c6 : t353 = true
  ·subst c6
   have H1 : ((impl_GoodParts.f k l1 a2).bind fun t354 => (impl_IsLossless.j0 k l0 l1 a2 (!t354))) = some (r1, r2) := by first | (with_reducible rfl) | (rw [if_pos rfl] at H; exact H)
   clear H
   have H := H1
   clear H1
   replace H := Option.bind_eq_some_iff.mp H
   obtain ⟨t354, A70, H⟩ := H
   replace H : (impl_IsLossless.j0 k l0 l1 a2 (!t354)) = some (r1, r2) := H
   have A7 := xm A70
   clear A70
   have H' := xm H
   clear H
   go_wp2_with (first | ((with_reducible refine gate_callee (f := 20) rfl ?_); refine goesL_ (some 11) rfl rfl Try.func20 (by kernel_rfl) rfl #[.slice A0 l0.length c0, .int .i64 a2] rfl mB ?_; (with_reducible refine (impl_GoodDepends.calls k _ _ l0 a2 true _ ?side1 ?side2 A5.out).mono ?_); (case side1 => exact cB (Kd.C_below HR0.out HB.out)); (case side2 => exact HC0.out); rintro e w8 ⟨rfl, hb⟩; refine ⟨_, rfl, ?_⟩; have n0_ := xm (below_step bB hb); revert n0_; clear HB; intro HB; (try clear hb)) | (go_at_call 21; (with_reducible refine (impl_GoodParts.calls k _ _ l1 a2 t354 _ ?side1 ?side2 A7.out).mono ?_); (case side1 => exact cB (Kd.C_below HR1.out HB.out)); (case side2 => exact HC1.out); rintro e w' ⟨rfl, ⟨nd, rfl⟩⟩))
   go_meet
   case rel => exact ⟨_, (!t354), sB, H', ⟨by first | omega | exact Nat.le_refl _⟩, ⟨bG⟩⟩
  ·replace c6 := Bool.eq_false_iff.mpr c6
   subst c6
   have H1 : (impl_IsLossless.j0 k l0 l1 a2 true) = some (r1, r2) := by first | (with_reducible rfl) | (rw [if_neg (show ¬ (false = true) by decide)] at H; exact H)
   clear H
   have H := H1
   clear H1
   have H' := xm H
   clear H
   go_wp2_with (first | ((with_reducible refine gate_callee (f := 20) rfl ?_); refine goesL_ (some 11) rfl rfl Try.func20 (by kernel_rfl) rfl #[.slice A0 l0.length c0, .int .i64 a2] rfl mB ?_; (with_reducible refine (impl_GoodDepends.calls k _ _ l0 a2 false _ ?side1 ?side2 A5.out).mono ?_); (case side1 => exact cB (Kd.C_below HR0.out HB.out)); (case side2 => exact HC0.out); rintro e w9 ⟨rfl, hb⟩; refine ⟨_, rfl, ?_⟩; have n0_ := xm (below_step bB hb); revert n0_; clear HB; intro HB; (try clear hb)))
   go_meet
   case rel => exact ⟨_, (true), sB, H', ⟨by first | omega | exact Nat.le_refl _⟩, ⟨bG⟩⟩
 case rest =>
  clear HC4
  try clear c1
  try clear c2
  try clear p2
  try clear c6
  try clear c9
  obtain ⟨kq, x18_3, rfl, HA, HJ3, HB⟩ := hcut
  cases kq with
  | zero => exact absurd HA.out (by simp [impl_IsLossless.j0])
  | succ kj3 =>
   have H := HA.out
   clear HA
   simp only [impl_IsLossless.j0] at H
   by_cases c10 : x18_3 = true
   ·subst c10
    have H1 : (some (false, false)) = some (r1, r2) := by first | (with_reducible rfl) | (rw [if_pos rfl] at H; exact H)
    clear H
    have H := H1
    clear H1
    simp only [Option.some.injEq, Prod.mk.injEq] at H
    obtain ⟨rfl, rfl⟩ := H
    go_wp2
    go_ret2
    exact ⟨eB, bG⟩
   ·replace c10 := Bool.eq_false_iff.mpr c10
    subst c10
    have H1 : ((impl_start.f kj3 l1 a2).bind fun bt355 => (impl_IsLossless.l0 kj3 l0 bt355.1 bt355.2)) = some (r1, r2) := by first | (with_reducible rfl) | (rw [if_neg (show ¬ (false = true) by decide)] at H; exact H)
    clear H
    have H := H1
    clear H1
    replace H := Option.bind_eq_some_iff.mp H
    obtain ⟨⟨t355, t356⟩, A110, H⟩ := H
    replace H : (impl_IsLossless.l0 kj3 l0 t355 t356) = some (r1, r2) := H
    have A11 := xm A110
    clear A110
    have H' := xm H
    clear H
    go_wp2_with (first | ((with_reducible refine gate_callee (f := 22) rfl ?_); refine goesL_ (some 21) rfl rfl Try.func22 (by kernel_rfl) rfl #[.slice A1 l1.length c1, .int .i64 a2] rfl mB ?_; (with_reducible refine (impl_start.calls kj3 _ _ l1 a2 t355 t356 _ ?side1 ?side2 A11.out).mono ?_); (case side1 => exact cB (Kd.C_below HR1.out HB.out)); (case side2 => exact HC1.out); rintro e w12 ⟨v357, rfl, ho0, hb⟩; refine ⟨_, rfl, ?_⟩; have n0_ := xm (Kd.S_lower ho0 (xz bB)); have n1_ := xm (below_step bB hb); revert n0_ n1_; clear HB; intro HO358 HB; (try clear hb); (try clear ho0)) | ((with_reducible refine gate_dst (N := 8) rfl ?_); refine box_event ?hg (N := 8) ?hd (cs := #[.int .i64 0, .slice none 0 0]) (t := 43) ?hr ?_; (case hd => rfl); (case hg => rfl); (case hr => exact zB); intro gb359 hg w13 hbox hb; have n0_ := xm (Kd.S_below (tB HO358) hb); have n1_ := xm (below_step bB hb); have n2_ := xm (hbox); have n3_ := xm ((by rw [hg]; exact (xz bB) : w.heap.size ≤ gb359)); have n4_ := xm ((by rw [hg]; exact (xz bB) : w.heap.size ≤ gb359)); revert n0_ n1_ n2_ n3_ n4_; clear HO358 HB; intro HO358 HB BK359 GW359 GE359; clear hb hbox hg; obtain ⟨hcz14_0, hcz14_1, hfz14_0, hfz14_1⟩ := cz2 BK359.out; obtain ⟨Ao15, co15, eo15⟩ := Kd.S_slice HO358.out; subst eo15))
    go_loopg [] kj3 (fun kq w' => ∃ ys : List (S48), Aside0 (impl_IsLossless.l0 kq l0 t355 ys = some (r1, r2)) ∧ Aside0 (kq ≤ kj3) ∧ Aside0 (Kd.S k48 48 w' w.heap.size (fun k_ => k_ ≠ gb359) (.slice Ao15 t356.length co15) ys) ∧ Aside0 (w'.heap[gb359]? = some (.cells #[.int .i64 t355, (.slice Ao15 t356.length co15)] 43 (0, 0))) ∧ Aside0 (Below w.heap.size w w'))
    case atStart => exact ⟨t356, H', ⟨Nat.le_refl _⟩, ⟨by (with_reducible repeat (first | apply Kd.S_alloc | apply Kd.S_drewN | apply Kd.S_drew)); exact Kd.S_mono (Kd.S_far (p := ⟨gb359, 1, none⟩) (Kd.S_far (p := ⟨gb359, 0, none⟩) (Kd.S_types HO358.out BK359.out (by decide)) (fun _ hk => hk.2) (.int .i64 t355)) (fun _ hk => hk.2) (.slice Ao15 t356.length co15)) (fun _ hk => hk.2)⟩, ⟨by (with_reducible repeat (first | refine xq ?_ _ | refine xr ?_ | refine xo ?_ _)); refine blk_put (cs := #[.int .i64 t355, .slice none 0 0]) ?_ 1 _ rfl; (with_reducible repeat (first | refine xq ?_ _ | refine xr ?_ | refine xo ?_ _)); refine blk_put (cs := #[.int .i64 0, .slice none 0 0]) ?_ 0 _ rfl; (with_reducible repeat (first | refine xq ?_ _ | refine xr ?_ | refine xo ?_ _)); exact BK359.out⟩, ⟨bG⟩⟩
    case round =>
     clear H'
     try clear c1
     try clear c2
     try clear p2
     try clear c6
     try clear c9
     try clear c10
     try clear hcz14_0 hcz14_1 hfz14_0 hfz14_1
     try clear p2
     obtain ⟨ys, HA, HK2, HO_360001, BK359, HB⟩ := hrel
     cases gk with
     | zero => exact absurd HA.out (by simp [impl_IsLossless.l0])
     | succ k2 =>
      have H := HA.out
      clear HA
      simp only [impl_IsLossless.l0] at H
      replace H := Option.bind_eq_some_iff.mp H
      obtain ⟨⟨t360, ys2⟩, A160, H⟩ := H
      replace H : (if t360 = true then (impl_IsLossless.l0 k2 l0 t355 ys2) else ((slices_ContainsFunc_Limpl_Row_impl_Row__impl_IsLossless_1.f ys2).bind fun t361 => (some (t361, true)))) = some (r1, r2) := H
      have A16 := xm A160
      clear A160
      by_cases c17 : t360 = true
      ·subst c17
       have H1 : (impl_IsLossless.l0 k2 l0 t355 ys2) = some (r1, r2) := by first | (with_reducible rfl) | (rw [if_pos rfl] at H; exact H)
       clear H
       have H := H1
       clear H1
       have H' := xm H
       clear H
       obtain ⟨hcz18_0, hcz18_1, hfz18_0, hfz18_1⟩ := cz2 BK359.out
       go_wp2_with (first | ((with_reducible refine gate_callee (f := 23) rfl ?_); refine goesL_ (some 24) rfl rfl Try.func23 (by kernel_rfl) rfl #[.agg #[.int .i64 t355, .slice Ao15 t356.length co15], .slice A0 l0.length c0] rfl mB ?_; (with_reducible refine (impl_Tableau_step.calls k2 t355 Ao15 t356.length co15 ys _ _ l0 true ys2 (fun k_ => k_ ≠ gb359) w _ bG (tB HO_360001) HR0.out HC0.out A16.out).mono ?_); rintro e w_s ⟨rfl, hs, hb, hk⟩; refine ⟨_, rfl, ?_⟩; have n0_ := xm hs; have n1_ := xm ((hk.2 gb359 (blk_lt (kB BK359)) (fun h_ => h_ rfl)).trans (kB BK359)); have n2_ := xm hb; revert n0_ n1_ n2_; clear HO_360001 BK359 HB; intro HO_360001 BK359 HB; clear hs hb hk))
       go_roundg k2
       case measure => have := HJ3.out; have := HK2.out; omega
       case rel => exact ⟨ys2, H', ⟨by have := HJ3.out; have := HK2.out; omega⟩, ⟨tB HO_360001⟩, ⟨kB BK359⟩, ⟨bG⟩⟩
      ·replace c17 := Bool.eq_false_iff.mpr c17
       subst c17
       have H1 : ((slices_ContainsFunc_Limpl_Row_impl_Row__impl_IsLossless_1.f ys2).bind fun t361 => (some (t361, true))) = some (r1, r2) := by first | (with_reducible rfl) | (rw [if_neg (show ¬ (false = true) by decide)] at H; exact H)
       clear H
       have H := H1
       clear H1
       replace H := Option.bind_eq_some_iff.mp H
       obtain ⟨t361, A200, H⟩ := H
       replace H : (some (t361, true)) = some (r1, r2) := H
       have A20 := xm A200
       clear A200
       simp only [Option.some.injEq, Prod.mk.injEq] at H
       obtain ⟨rfl, rfl⟩ := H
       obtain ⟨hcz21_0, hcz21_1, hfz21_0, hfz21_1⟩ := cz2 BK359.out
       go_wp2_with (first | ((with_reducible refine gate_callee (f := 23) rfl ?_); refine goesL_ (some 24) rfl rfl Try.func23 (by kernel_rfl) rfl #[.agg #[.int .i64 t355, .slice Ao15 t356.length co15], .slice A0 l0.length c0] rfl mB ?_; (with_reducible refine (impl_Tableau_step.calls k2 t355 Ao15 t356.length co15 ys _ _ l0 false ys2 (fun k_ => k_ ≠ gb359) w _ bG (tB HO_360001) HR0.out HC0.out A16.out).mono ?_); rintro e w_s ⟨rfl, hs, hb, hk⟩; refine ⟨_, rfl, ?_⟩; have n0_ := xm hs; have n1_ := xm ((hk.2 gb359 (blk_lt (kB BK359)) (fun h_ => h_ rfl)).trans (kB BK359)); have n2_ := xm hb; revert n0_ n1_ n2_; clear HO_360001 BK359 HB; intro HO_360001 BK359 HB; clear hs hb hk; obtain ⟨hcz23_0, hcz23_1, hfz23_0, hfz23_1⟩ := cz2 BK359.out) | ((with_reducible refine gate_callee (f := 24) rfl ?_); refine goesL_ (some 27) rfl rfl Try.func24 (by kernel_rfl) rfl #[.slice Ao15 t356.length co15, .func (.func 25) #[] #[]] rfl mB ?_; have hm_ : t356.length = ys2.length := (Kd.S_reads' HO_360001.out).1; rw [hm_]; (with_reducible refine (slices_ContainsFunc_Limpl_Row_impl_Row__impl_IsLossless_1.calls _ _ ys2 t361 _ ?side1 ?side2 A20.out).mono ?_); (case side1 => repeat (first | exact (Kd.S_reads' HO_360001.out).2.2 | (with_reducible refine Kd.C_alloc ?_ _) | (with_reducible refine Kd.C_drewN ?_ _) | (with_reducible refine Kd.C_drew ?_))); (case side2 => rw [← hm_]; exact (Kd.S_reads' HO_360001.out).2.1); rintro e w24 ⟨rfl, hb⟩; refine ⟨_, rfl, ?_⟩; have n0_ := xm (Kd.S_below (tB HO_360001) hb); have n1_ := xm (blk_below (kB BK359) hb); have n2_ := xm (below_step bG hb); revert n0_ n1_ n2_; clear HO_360001 BK359 HB; intro HO_360001 BK359 HB; (try clear hb)))
       go_ret2
       exact ⟨eB, bG⟩

end Go.Proofs.Ytmelechhnimlnad.G
