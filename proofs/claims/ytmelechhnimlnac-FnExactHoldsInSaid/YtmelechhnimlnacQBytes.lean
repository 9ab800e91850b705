/- The bytes of a row: what the program's function makes. No conditions. -/
import Derived.Test.YtmelechhnimlnacG9
import Derived.Test.YtmelechhnimlnacQBase
namespace Go.Proofs.Ytmelechhnimlnac.Pure
open Go.RowKit Go.Proofs.Ytmelechhnimlnac.G Go.Proofs.Ytmelechhnimlnac.X Go.Proofs.YtmelechhnimlnacW.PrintWords
set_option linter.unusedVariables false

def enc3 (x : Int) : List Int := [(wrap64 (x + 100000) / 65536) % 256, (wrap64 (x + 100000) / 256) % 256, wrap64 (x + 100000) % 256]
def rowNums (l : List Int) : List Int := ((l.length : Int) % 256) :: l.flatMap enc3
theorem enc3_len (l : List Int) : (l.flatMap enc3).length = 3 * l.length := by
  induction l with
  | nil => rfl
  | cons x xs ih => rw [List.flatMap_cons, List.length_append, ih, List.length_cons]; simp [enc3]; omega

theorem rowBytes_l (l : List Int) (hl : l.length ≤ 1048576) (d : Nat) : ∀ (i : Nat) (z : List Int), i + d = l.length → z.length ≤ 1 + 3 * i →
    Ev (fun k => impl_rowBytes.l0 k z l (l.length : Int) (i : Int)) (strOfNums (z ++ (l.drop i).flatMap enc3)) := by
  induction d with
  | zero =>
    intro i z hi hz
    refine Ev.step (f := fun _ => some (strOfNums z)) (fun k => by simp only [impl_rowBytes.l0]; rw [if_neg (by omega)]) ?_
    rw [List.drop_of_length_le (by omega)]
    simpa using Ev.now (strOfNums z)
  | succ d ih =>
    intro i z hi hz
    have hlt : i < l.length := by omega
    have e3 : (enc3 l[i]).length = 3 := rfl
    refine Ev.step (f := fun k => impl_rowBytes.l0 k (z ++ enc3 l[i]) l (l.length : Int) ((i + 1 : Nat) : Int)) (fun k => ?_) (Ev.eq (ih (i + 1) (z ++ enc3 l[i]) (by omega) (by rw [List.length_append, e3]; omega)) ?_)
    · simp only [impl_rowBytes.l0]
      rw [if_pos (by omega), if_pos (by omega), if_pos (by omega), rd_lt hlt, Option.bind_some]
      refine (if_pos (show z.length + (enc3 l[i]).length < 140737488355328 by rw [e3]; omega)).trans ?_
      rw [w64 (x := (i : Int) + 1) (by omega) (by omega)]
      rfl
    · rw [drop_cons hlt, List.flatMap_cons, List.append_assoc]
theorem rowBytes_ev (l : List Int) (hl : l.length ≤ 1048576) : Ev (fun k => impl_rowBytes.f k l) (strOfNums (rowNums l)) := by
  unfold impl_rowBytes.f
  simpa [rowNums] using rowBytes_l l hl l.length 0 [(l.length : Int) % 256] (by omega) (by simp)

end Go.Proofs.Ytmelechhnimlnac.Pure
