/- Written by a program of this claim's own, out of the translation: functions of the program as plain functions, and that the calls answer as these. No conditions. -/
import Derived.Test.YtfbomhedhfkcpaaG0
namespace Go.Proofs.Ytfbomhedhfkcpaa.G
open Go.RowKit Go.Proofs.Ytfbomhedhfkcpaa.X Go.Proofs.YtfbomhedhfkcpaaW.PrintWords Go.Proofs.YtfbomhedhfkcpaaW.PrintLast Go.Proofs.YtfbomhedhfkcpaaW.PrintMore
attribute [local go_sem] max2_int min2_int max_two min_two max_three min_three max_four min_four   -- for this text's walks alone
set_option linter.unusedVariables false
set_option linter.unusedSimpArgs false

/-! ### slices_IndexFunc_Limpl_Row_impl_Row: function 124 -/
set_option maxHeartbeats 8000000 in
set_option maxRecDepth 100000 in
theorem slices_IndexFunc_Limpl_Row_impl_Row.any (g : Nat) (lb : Array Value) (eg : ∀ args w, (callFunc g args).run Try.prog w = .ok (.enter g args) w) (pf : S99 → Option Bool)
    (A0 : Option Addr) (c0 : Nat) (l0 : List S99) (r : Int) (w : World) (hr0 : Kd.C k99 w A0 l0.length l0) (hc0 : l0.length ≤ c0) (hp : PB Try.prog g lb k99 encAgg pf w) (h : idxO pf l0 0 = some r) :
    Calls Try.prog 124 #[.slice A0 l0.length c0, .func (.func g) #[] lb] w fun e w' => e = .returned (.int .i64 r) ∧ Below w.heap.size w w' := by
  have HR0 := Aside0.mk hr0
  have HP := Aside0.mk hp
  have H' := Aside0.mk h
  have HB := Aside0.mk (Below.refl w.heap.size w)
  have hn : (l0.length : Int) ≤ 9223372036854775807 := by have := hr0.2.1; omega
  clear hr0 hp h hc0
  have hu99 := Try.underlying99
  go_enter Try.func124, Try.ntmps124
  go_wp2
  go_loopg [5, 8] l0.length (fun kq v5 v8 w' => ∃ kk : Nat, v8 = .int .i64 kk ∧ kk ≤ l0.length ∧ l0.length - kk ≤ kq ∧ Aside0 (idxO pf (l0.drop kk) kk = some r) ∧ Aside0 (Below w.heap.size w w'))
  case atStart => exact ⟨0, rfl, Nat.zero_le _, by omega, H', HB⟩
  case round =>
    clear H' HB
    obtain ⟨kk, rfl, hkk, hg, HA, HB⟩ := hrel
    by_cases hlt : kk < l0.length
    · have hlti : (kk : Int) < (l0.length : Int) := by omega
      obtain ⟨ad, A_0, c_0, e0, hx0, hl0, hi0⟩ := at_T99 HR0.out (kk : Int) (by omega) hlti
      cases e0
      replace hx0 := (HB.out.cell (World.block_lt_of_cell? w _ hx0)).trans hx0
      simp only [Int.toNat_natCast] at hx0
      have H := HA.out
      rw [List.drop_eq_getElem_cons hlt] at H
      unfold idxO at H
      have hrd : l0[kk] = rd_T99 l0 (kk : Int) := by simp [rd_T99, hlt]
      rw [hrd] at H
      obtain ⟨b, hb, H⟩ := Option.bind_eq_some_iff.mp H
      have hcall := HP.out _ (rd_T99 l0 (kk : Int)) [.slice A_0 ((rd_T99 l0 (kk : Int)).f0).length c_0] b HB.out (k99_mk wr (rd_T99 l0 (kk : Int)) hl0 (Kd.C_below hi0 HB.out)) hb
      have HL := Aside0.mk hcall
      have HI0 := Aside0.mk hi0
      clear hi0 hl0
      clear hcall hb HA
      clear hrd
      simp only [encOne, encAgg, List.headD_cons] at HL
      cases b with
      | true =>
        obtain rfl := Option.some.inj H
        go_wp2_with (go_at_fn g; refine HL.out.mono ?_; rintro e w' ⟨rfl, hb'⟩)
        go_ret
        exact ⟨rfl, below_step HB.out hb'⟩
      | false =>
        have H1 := Aside0.mk H
        clear H
        go_wp2_with (go_at_fn g; refine HL.out.mono ?_; rintro e w' ⟨rfl, hb'⟩)
        go_roundg (l0.length - (kk + 1))
        case measure => omega
        case rel => exact ⟨kk + 1, by go_num, by omega, by omega, ⟨by have := H1.out; simpa using this⟩, ⟨below_step HB.out hb'⟩⟩
    · have : kk = l0.length := by omega
      subst this
      have H := HA.out
      rw [List.drop_length] at H
      unfold idxO at H
      obtain rfl := Option.some.inj H
      clear H HA
      go_wp2
      go_ret
      exact ⟨rfl, HB.out⟩

/-! ### slices_ContainsFunc_Limpl_Row_impl_Row: function 69 -/
set_option maxHeartbeats 8000000 in
set_option maxRecDepth 100000 in
theorem slices_ContainsFunc_Limpl_Row_impl_Row.any (g : Nat) (lb : Array Value) (eg : ∀ args w, (callFunc g args).run Try.prog w = .ok (.enter g args) w) (pf : S99 → Option Bool)
    (A0 : Option Addr) (c0 : Nat) (l0 : List S99) (r : Bool) (w : World) (hr0 : Kd.C k99 w A0 l0.length l0) (hc0 : l0.length ≤ c0) (hp : PB Try.prog g lb k99 encAgg pf w) (h : anyO pf l0 = some r) :
    Calls Try.prog 69 #[.slice A0 l0.length c0, .func (.func g) #[] lb] w fun e w' => e = .returned (.bool r) ∧ Below w.heap.size w w' := by
  rw [← idxO_any pf l0 0 (Int.le_refl 0)] at h
  obtain ⟨i, hi, hri⟩ := Option.map_eq_some_iff.mp h
  have HC := Aside0.mk (slices_IndexFunc_Limpl_Row_impl_Row.any g lb eg pf A0 c0 l0 i w hr0 hc0 hp hi)
  have HR := Aside0.mk hri
  clear hr0 hc0 hp h hi hri eg
  go_enter Try.func69, Try.ntmps69
  go_wp2_with (go_at_call 124; refine HC.out.mono ?_; rintro e w' ⟨rfl, hb⟩)
  go_ret
  exact ⟨by first | rfl | (rw [HR.out]; rfl) | rw [HR.out], hb⟩

end Go.Proofs.Ytfbomhedhfkcpaa.G
