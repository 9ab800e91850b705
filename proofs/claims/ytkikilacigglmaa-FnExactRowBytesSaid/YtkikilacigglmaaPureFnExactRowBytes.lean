/- The plain law of RowBytes: both functions answer alike. No conditions. -/
import Derived.Test.YtkikilacigglmaaHFnExactRowBytes
import Derived.Test.YtkikilacigglmaaQRow
import Derived.Test.YtkikilacigglmaaQBytes
import Derived.Test.YtkikilacigglmaaG39
namespace Go.Proofs.Ytkikilacigglmaa.Pure
open Go.RowKit Go.Proofs.Ytkikilacigglmaa.G Go.Proofs.Ytkikilacigglmaa.X Go.Proofs.YtkikilacigglmaaW.PrintWords Go.Proofs.Ytkikilacigglmaa.HFnExactRowBytes
set_option linter.unusedVariables false

theorem specBytes_l : ∀ (k : Nat) (a b : List Int) (c d : Int), spec_RowBytes.l0 k a b c d = (impl_rowBytes.l0 k a b c d).map (fun s => (s, true))
  | 0, _, _, _, _ => rfl
  | k + 1, a, b, c, d => by
    simp only [spec_RowBytes.l0, impl_rowBytes.l0, specBytes_l k, Option.bind_some]
    repeat (split <;> try rfl)

theorem FnExactRowBytes : laws_FnExactRowBytes.Pure := law fun x0 h => by
  have hl : x0.f0.length ≤ 1048576 := h
  have hb := rowBytes_ev x0.f0 hl
  cases hg : goodRow x0.f0 with
  | true =>
    refine ⟨(strOfNums (rowNums x0.f0), true), ?_, ?_⟩
    · unfold spec_RowBytes.f
      refine Ev.bind (goodRow_spec x0.f0 (by omega)) ?_
      rw [hg]
      refine Ev.pos rfl ?_
      obtain ⟨K, hK⟩ := hb
      refine ⟨K, fun k hk => ?_⟩
      have h1 : impl_rowBytes.f k x0.f0 = _ := hK k hk
      unfold impl_rowBytes.f at h1
      show spec_RowBytes.l0 k _ _ _ _ = _
      rw [specBytes_l, h1]
      rfl
    · unfold impl_RowBytes.f
      refine Ev.cbind (goodRow_impl x0.f0) ?_
      rw [hg]
      exact Ev.pos rfl (Ev.bind hb (Ev.now _))
  | false =>
    refine ⟨(⟨#[]⟩, false), ?_, ?_⟩
    · unfold spec_RowBytes.f
      refine Ev.bind (goodRow_spec x0.f0 (by omega)) ?_
      rw [hg]
      exact Ev.neg (by simp) (Ev.now _)
    · unfold impl_RowBytes.f
      refine Ev.cbind (goodRow_impl x0.f0) ?_
      rw [hg]
      exact Ev.neg (by simp) (Ev.now _)

end Go.Proofs.Ytkikilacigglmaa.Pure
