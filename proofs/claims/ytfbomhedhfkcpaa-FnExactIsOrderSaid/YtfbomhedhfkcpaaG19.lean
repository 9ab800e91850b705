/- Written by a program of this claim's own, out of the translation: functions of the program as plain functions, and that the calls answer as these. No conditions. -/
import Derived.Test.YtfbomhedhfkcpaaG0
namespace Go.Proofs.Ytfbomhedhfkcpaa.G
open Go.RowKit Go.Proofs.Ytfbomhedhfkcpaa.X Go.Proofs.YtfbomhedhfkcpaaW.PrintWords Go.Proofs.YtfbomhedhfkcpaaW.PrintLast Go.Proofs.YtfbomhedhfkcpaaW.PrintMore
attribute [local go_sem] max2_int min2_int max_two min_two max_three min_three max_four min_four   -- for this text's walks alone
set_option linter.unusedVariables false
set_option linter.unusedSimpArgs false

/-! ### slices_IndexFunc_Lint_int: function 159 -/
set_option maxHeartbeats 8000000 in
set_option maxRecDepth 100000 in
theorem slices_IndexFunc_Lint_int.any (g : Nat) (lb : Array Value) (eg : ∀ args w, (callFunc g args).run Try.prog w = .ok (.enter g args) w) (pf : Int → Option Bool)
    (A0 : Option Addr) (c0 : Nat) (l0 : List Int) (r : Int) (w : World) (hr0 : Kd.C (Kd.int .i64) w A0 l0.length l0) (hc0 : l0.length ≤ c0) (hp : PB Try.prog g lb (Kd.int .i64) encOne pf w) (h : idxO pf l0 0 = some r) :
    Calls Try.prog 159 #[.slice A0 l0.length c0, .func (.func g) #[] lb] w fun e w' => e = .returned (.int .i64 r) ∧ Below w.heap.size w w' := by
  have HR0 := Aside0.mk hr0
  have HP := Aside0.mk hp
  have H' := Aside0.mk h
  have HB := Aside0.mk (Below.refl w.heap.size w)
  have hn : (l0.length : Int) ≤ 9223372036854775807 := by have := hr0.2.1; omega
  clear hr0 hp h hc0
  go_enter Try.func159, Try.ntmps159
  go_wp2
  go_loopg [5, 8] l0.length (fun kq v5 v8 w' => ∃ kk : Nat, v8 = .int .i64 kk ∧ kk ≤ l0.length ∧ l0.length - kk ≤ kq ∧ Aside0 (idxO pf (l0.drop kk) kk = some r) ∧ Aside0 (Below w.heap.size w w'))
  case atStart => exact ⟨0, rfl, Nat.zero_le _, by omega, H', HB⟩
  case round =>
    clear H' HB
    obtain ⟨kk, rfl, hkk, hg, HA, HB⟩ := hrel
    by_cases hlt : kk < l0.length
    · have hlti : (kk : Int) < (l0.length : Int) := by omega
      obtain ⟨ad, e0, hx0⟩ := Kd.at_int HR0.out (kk : Int) (by omega) hlti
      cases e0
      replace hx0 := (HB.out.cell (World.block_lt_of_cell? w _ hx0)).trans hx0
      simp only [Int.toNat_natCast] at hx0
      have H := HA.out
      rw [List.drop_eq_getElem_cons hlt] at H
      unfold idxO at H
      have hrd : l0[kk] = rd l0 (kk : Int) := by simp [rd, hlt]
      rw [hrd] at H
      obtain ⟨b, hb, H⟩ := Option.bind_eq_some_iff.mp H
      have hcall := HP.out _ (rd l0 (kk : Int)) [.int .i64 (rd l0 (kk : Int))] b HB.out rfl hb
      have HL := Aside0.mk hcall
      clear hcall hb HA
      clear hrd
      simp only [encOne, encAgg, List.headD_cons] at HL
      cases b with
      | true =>
        obtain rfl := Option.some.inj H
        go_wp2_with (go_at_fn g; refine HL.out.mono ?_; rintro e w' ⟨rfl, hb'⟩)
        go_ret
        exact ⟨rfl, below_step HB.out hb'⟩
      | false =>
        have H1 := Aside0.mk H
        clear H
        go_wp2_with (go_at_fn g; refine HL.out.mono ?_; rintro e w' ⟨rfl, hb'⟩)
        go_roundg (l0.length - (kk + 1))
        case measure => omega
        case rel => exact ⟨kk + 1, by go_num, by omega, by omega, ⟨by have := H1.out; simpa using this⟩, ⟨below_step HB.out hb'⟩⟩
    · have : kk = l0.length := by omega
      subst this
      have H := HA.out
      rw [List.drop_length] at H
      unfold idxO at H
      obtain rfl := Option.some.inj H
      clear H HA
      go_wp2
      go_ret
      exact ⟨rfl, HB.out⟩

/-! ### slices_ContainsFunc_Lint_int: function 125 -/
set_option maxHeartbeats 8000000 in
set_option maxRecDepth 100000 in
theorem slices_ContainsFunc_Lint_int.any (g : Nat) (lb : Array Value) (eg : ∀ args w, (callFunc g args).run Try.prog w = .ok (.enter g args) w) (pf : Int → Option Bool)
    (A0 : Option Addr) (c0 : Nat) (l0 : List Int) (r : Bool) (w : World) (hr0 : Kd.C (Kd.int .i64) w A0 l0.length l0) (hc0 : l0.length ≤ c0) (hp : PB Try.prog g lb (Kd.int .i64) encOne pf w) (h : anyO pf l0 = some r) :
    Calls Try.prog 125 #[.slice A0 l0.length c0, .func (.func g) #[] lb] w fun e w' => e = .returned (.bool r) ∧ Below w.heap.size w w' := by
  rw [← idxO_any pf l0 0 (Int.le_refl 0)] at h
  obtain ⟨i, hi, hri⟩ := Option.map_eq_some_iff.mp h
  have HC := Aside0.mk (slices_IndexFunc_Lint_int.any g lb eg pf A0 c0 l0 i w hr0 hc0 hp hi)
  have HR := Aside0.mk hri
  clear hr0 hc0 hp h hi hri eg
  go_enter Try.func125, Try.ntmps125
  go_wp2_with (go_at_call 159; refine HC.out.mono ?_; rintro e w' ⟨rfl, hb⟩)
  go_ret
  exact ⟨by first | rfl | (rw [HR.out]; rfl) | rw [HR.out], hb⟩

/-! ### impl_areAll_int_1: function 126 -/
set_option maxHeartbeats 8000000 in
set_option maxRecDepth 100000 in
theorem impl_areAll_int_1.pb (g : Nat) (lb : Array Value) (eg : ∀ args w, (callFunc g args).run Try.prog w = .ok (.enter g args) w) (pf : Int → Option Bool) (w w1 : World) (b0 : Nat) (hw : Below w.heap.size w w1)
    (hbk : w1.heap[b0]? = some (.cells #[.func (.func g) #[] lb] 103 (0, 0))) (hp : PB Try.prog g lb (Kd.int .i64) encOne pf w) :
    PB Try.prog 126 #[.pointer (some ⟨b0, 0, none⟩)] (Kd.int .i64) encOne (fun x => (pf x).map (!·)) w1 := by
  intro W x cs b hW hK hb
  obtain ⟨b1, hb1, rfl⟩ := Option.map_eq_some_iff.mp hb
  have hWw := below_step hw hW
  have hbW := blk_below hW hbk
  have HL := Aside0.mk (hp W x cs b1 hWw hK hb1)
  obtain rfl : cs = [.int .i64 x] := hK
  have hcz : W.cell? ⟨b0, 0, none⟩ = some (.func (.func g) #[] lb) := (blk_cell hbW 0).trans rfl
  clear hp hb hb1 hWw hbW hW hbk hw
  simp only [encOne, encAgg, List.headD_cons] at HL ⊢
  go_enter Try.func126, Try.ntmps126
  go_wp2_with (go_at_fn g; refine HL.out.mono ?_; rintro e w' ⟨rfl, hb'⟩)
  go_ret
  exact ⟨rfl, hb'⟩

/-! ### impl_areAll_int: function 71 -/
theorem enters126 : ∀ args w, (callFunc 126 args).run Try.prog w = .ok (.enter 126 args) w := enters_of Try.func126 (by kernel_rfl) rfl
set_option maxHeartbeats 8000000 in
set_option maxRecDepth 100000 in
theorem impl_areAll_int.any (g : Nat) (lb : Array Value) (eg : ∀ args w, (callFunc g args).run Try.prog w = .ok (.enter g args) w) (pf : Int → Option Bool)
    (A0 : Option Addr) (c0 : Nat) (l0 : List Int) (r : Bool) (w : World) (hr0 : Kd.C (Kd.int .i64) w A0 l0.length l0) (hc0 : l0.length ≤ c0) (hp : PB Try.prog g lb (Kd.int .i64) encOne pf w) (h : allO pf l0 = some r) :
    Calls Try.prog 71 #[.slice A0 l0.length c0, .func (.func g) #[] lb] w fun e w' => e = .returned (.bool r) ∧ Below w.heap.size w w' := by
  rw [← any_all pf l0] at h
  obtain ⟨b, hb, rfl⟩ := Option.map_eq_some_iff.mp h
  have hB1 : Below w.heap.size w (w.alloc (.cells #[.func (.func g) #[] lb] 103)) := below_alloc (Below.refl _ _) _
  have HC := Aside0.mk (slices_ContainsFunc_Lint_int.any 126 #[.pointer (some ⟨w.heap.size, 0, none⟩)] enters126 _ A0 c0 l0 b _ (Kd.C_below hr0 hB1) hc0 (impl_areAll_int_1.pb g lb eg pf w _ w.heap.size hB1 (heap_new w _ _) hp) hb)
  have HB1 := Aside0.mk hB1
  clear hr0 hc0 hp h hb eg hB1
  go_enter Try.func71, Try.ntmps71
  go_wp2_with (go_at_call 125; refine HC.out.mono ?_; rintro e w' ⟨rfl, hb⟩)
  go_ret
  exact ⟨rfl, below_step HB1.out hb⟩

end Go.Proofs.Ytfbomhedhfkcpaa.G
