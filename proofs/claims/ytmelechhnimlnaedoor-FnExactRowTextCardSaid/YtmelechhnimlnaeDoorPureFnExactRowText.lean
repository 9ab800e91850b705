/- The plain law of RowText: both functions answer alike. No conditions. -/
import Derived.Test.YtmelechhnimlnaeDoorHFnExactRowText
import Derived.Test.YtmelechhnimlnaeDoorQRow
import Derived.Lib.ItoaLen
import Derived.Lib.Join
import Derived.Test.YtmelechhnimlnaeDoorG2
import Derived.Test.YtmelechhnimlnaeDoorG3
import Derived.Test.YtmelechhnimlnaeDoorG1
namespace Go.Proofs.YtmelechhnimlnaeDoor.Pure
open Go.RowKit Go.Proofs.YtmelechhnimlnaeDoor.G Go.Proofs.YtmelechhnimlnaeDoor.X Go.Proofs.YtmelechhnimlnaeDoorW.PrintWords Go.Proofs.YtmelechhnimlnaeDoorW.PrintLast Go.Proofs.YtmelechhnimlnaeDoor.HFnExactRowText
set_option linter.unusedVariables false
set_option linter.unusedSimpArgs false

def ba (l : List UInt8) : ByteArray := ⟨l.toArray⟩
theorem ba_app (a b : List UInt8) : ba a ++ ba b = ba (a ++ b) := by
  apply ByteArray.ext
  simp [ba, ByteArray.data_append]
theorem ba_size (a : List UInt8) : (ba a).size = a.length := by simp [ba, ByteArray.size]
theorem ba_data (a : List UInt8) : (ba a).data.toList = a := by simp [ba]
def CB (c : Int) : Prop := -100000 ≤ c ∧ c ≤ 100000
theorem len_itoa {c : Int} (h : CB c) : (Lib.itoa c).length ≤ 21 := Lib.itoa_length_le c (by have := h.1; omega) (by have := h.2; omega)
theorem byte_of (m : Nat) (h : m < 10) : strOfNums [(wrap64 (48 + (m : Int))) % 256] = ba [UInt8.ofNat (48 + m)] := by
  rw [w64 (by omega) (by omega)]
  have e : (48 + (m : Int)) % 256 = ((48 + m : Nat) : Int) := by omega
  rw [e]
  rfl
theorem len_dec (n : Nat) (h : n ≤ 100000) : (Lib.decDigits n).length ≤ 21 := by
  have h1 := len_itoa (c := (n : Int)) ⟨by omega, by omega⟩
  unfold Lib.itoa at h1
  rw [if_neg (by omega), Int.toNat_natCast] at h1
  exact h1
theorem num_nat : ∀ n : Nat, n ≤ 100000 → Ev (fun k => spec_l1Num.f k (n : Int)) (ba (Lib.decDigits n)) := by
  intro n
  induction n using Nat.strongRecOn with
  | _ n ih =>
    intro h
    refine Ev.step (fun k => by rw [spec_l1Num.f]) (Ev.neg (by omega) ?_)
    by_cases c : n < 10
    · refine Ev.pos (by omega) (Ev.eq (Ev.now _) ?_)
      rw [Lib.decDigits_one c]
      exact byte_of n c
    · refine Ev.neg (by omega) ?_
      have e1 : wrap64 (Int.tdiv (n : Int) 10) = ((n / 10 : Nat) : Int) := by
        rw [show Int.tdiv (n : Int) 10 = ((n / 10 : Nat) : Int) from by rw [Int.tdiv_eq_ediv_of_nonneg (by omega)]; omega]
        exact w64 (by omega) (by omega)
      have e2 : Int.tmod (n : Int) 10 = ((n % 10 : Nat) : Int) := by rw [Int.tmod_eq_emod_of_nonneg (by omega)]; omega
      rw [e1, e2]
      refine Ev.bind (ih (n / 10) (by omega) (by omega)) (Ev.cbind rfl ?_)
      have l1 := len_dec (n / 10) (by omega)
      rw [byte_of (n % 10) (by omega), ba_size, ba_size, ba_app]
      refine Ev.pos (by simp; omega) (Ev.eq (Ev.now _) ?_)
      conv => rhs; rw [Lib.decDigits, dif_neg c]
theorem num (c : Int) (h : CB c) : Ev (fun k => spec_l1Num.f k c) (ba (Lib.itoa c)) := by
  have h1 := h.1
  have h2 := h.2
  unfold Lib.itoa
  by_cases n : c < 0
  · rw [if_pos n]
    have e : wrap64 (-c) = ((c.natAbs : Nat) : Int) := by rw [w64 (by omega) (by omega)]; omega
    refine Ev.step (fun k => by rw [spec_l1Num.f]) (Ev.pos n ?_)
    rw [e]
    have l1 := len_dec c.natAbs (by omega)
    refine Ev.bind (num_nat c.natAbs (by omega)) (Ev.pos (by rw [ba_size]; omega) (Ev.eq (Ev.now _) ?_))
    exact ba_app [45] _
  · rw [if_neg n]
    have h3 := num_nat c.toNat (by omega)
    rw [Int.toNat_of_nonneg (by omega)] at h3
    exact h3
theorem tail_snoc (y : Int) (ys : List Int) : Lib.joinTail [44] ((y :: ys).map Lib.itoa) = ([44] ++ Lib.itoa y) ++ Lib.joinTail [44] (ys.map Lib.itoa) := by simp [Lib.joinTail]
theorem text_l (l : List Int) (h6 : l.length ≤ 6) (hc : ∀ c ∈ l, CB c) (d : Nat) : ∀ (i : Nat) (a : List UInt8), i + d = l.length → 1 ≤ i → a.length ≤ 22 * i →
    Ev (fun k => spec_l1Text.l0 k (ba a) l (l.length : Int) (i : Int)) (ba (a ++ Lib.joinTail [44] ((l.drop i).map Lib.itoa))) := by
  induction d with
  | zero =>
    intro i a hi h1 ha
    refine Ev.step (fun k => by rw [spec_l1Text.l0]) (Ev.neg (by omega) (Ev.eq (Ev.now _) ?_))
    rw [List.drop_of_length_le (by omega)]
    simp [Lib.joinTail]
  | succ d ih =>
    intro i a hi h1 ha
    have hlt : i < l.length := by omega
    have hb := hc _ (List.getElem_mem hlt)
    have ln := len_itoa hb
    rw [drop_cons hlt, tail_snoc]
    refine Ev.step (fun k => by rw [spec_l1Text.l0]) (Ev.pos (by omega) (Ev.pos (by omega) (Ev.pos (by omega) (Ev.pos (by omega) (Ev.pos (by rw [ba_size]; omega) ?_)))))
    rw [rd_lt hlt, w64 (x := (i : Int) + 1) (by omega) (by omega)]
    have e : ba a ++ (⟨#[44]⟩ : ByteArray) = ba (a ++ [44]) := ba_app a [44]
    rw [e]
    refine Ev.bind (num _ hb) (Ev.pos (by rw [ba_size, ba_size]; simp; omega) ?_)
    rw [ba_app]
    refine Ev.eq (ih (i + 1) _ (by omega) (by omega) (by simp; omega)) ?_
    simp
theorem text (l : List Int) (h6 : l.length ≤ 6) (hc : ∀ c ∈ l, CB c) : Ev (fun k => spec_l1Text.f k l) (ba (Lib.join (l.map Lib.itoa) [44])) := by
  unfold spec_l1Text.f
  cases l with
  | nil =>
    refine Ev.step (fun k => by rw [spec_l1Text.l0]) (Ev.neg (by simp) ?_)
    exact Ev.now _
  | cons x r =>
    have hb := hc x List.mem_cons_self
    have ln := len_itoa hb
    rw [List.map_cons, Lib.join_cons]
    refine Ev.step (fun k => by rw [spec_l1Text.l0]) (Ev.pos (by rw [List.length_cons]; omega) (Ev.pos (by omega) (Ev.pos (by rw [List.length_cons]; omega) (Ev.neg (by omega) ?_))))
    have e0 : rd (x :: r) (0 : Int) = x := by simp [rd]
    rw [e0, w64 (x := (0 : Int) + 1) (by omega) (by omega)]
    have e : (⟨#[]⟩ : ByteArray) ++ ba (Lib.itoa x) = ba (Lib.itoa x) := ba_app [] _
    refine Ev.bind (num x hb) ?_
    rw [e]
    refine Ev.pos (by rw [ba_size]; show 0 + _ ≤ _; omega) ?_
    exact text_l (x :: r) h6 hc r.length 1 (Lib.itoa x) (by simp; omega) (Nat.le_refl 1) (by omega)
def ws (l : List Int) : List ByteArray := l.map fun c => ba (Lib.itoa c)
theorem ws_data (l : List Int) : (ws l).map (·.data.toList) = l.map Lib.itoa := by
  unfold ws
  rw [List.map_map]
  exact List.map_congr_left fun c _ => ba_data _
theorem lens_le : ∀ l : List Int, (∀ c ∈ l, CB c) → Lib.lens (l.map Lib.itoa) ≤ 21 * l.length
  | [], _ => Nat.le_refl _
  | x :: r, h => by
    have h1 := lens_le r (fun c hc => h c (List.mem_cons_of_mem _ hc))
    have h2 := len_itoa (h x List.mem_cons_self)
    unfold Lib.lens at h1 ⊢
    simp only [List.map_cons, List.sum_cons, List.length_cons]
    omega
theorem join_le (l : List Int) (h6 : l.length ≤ 6) (hc : ∀ c ∈ l, CB c) : (Lib.join (l.map Lib.itoa) [44]).length ≤ 1000 := by
  cases l with
  | nil => exact Nat.zero_le _
  | cons x r =>
    have h := lens_le (x :: r) hc
    have h7 : r.length ≤ 5 := by simpa using h6
    rw [List.map_cons] at h ⊢
    rw [Lib.join_length]
    simp only [List.length_cons, List.length_nil, List.length_map] at h ⊢
    omega
theorem join_ev (l : List Int) (h6 : l.length ≤ 6) (hc : ∀ c ∈ l, CB c) : strings_Join.f (ws l) (⟨#[44]⟩ : ByteArray) = some (ba (Lib.join (l.map Lib.itoa) [44])) := by
  unfold strings_Join.f
  have h := join_le l h6 hc
  rw [ws_data]
  rw [if_pos ⟨by unfold ws; rw [List.length_map]; omega, by show (Lib.join (l.map Lib.itoa) [44]).length ≤ _; omega⟩]
  rfl
theorem words_l (l : List Int) (h6 : l.length ≤ 6) (hc : ∀ c ∈ l, CB c) (d : Nat) : ∀ (i : Nat), i + d = l.length →
    Ev (fun k => impl_numbersText.l0 k (⟨#[44]⟩ : ByteArray) (ws (l.take i)) l (l.length : Int) (i : Int)) (ba (Lib.join (l.map Lib.itoa) [44])) := by
  induction d with
  | zero =>
    intro i hi
    refine Ev.step (fun k => by rw [impl_numbersText.l0]) (Ev.neg (by omega) (Ev.cbind ?_ (Ev.now _)))
    rw [List.take_of_length_le (by omega)]
    exact join_ev l h6 hc
  | succ d ih =>
    intro i hi
    have hlt : i < l.length := by omega
    have hb := hc _ (List.getElem_mem hlt)
    have hn := ih (i + 1) (by omega)
    rw [take_snoc hlt] at hn
    refine Ev.step (fun k => by rw [impl_numbersText.l0]) (Ev.pos (by omega) (Ev.pos (by omega) (Ev.pos (by omega) ?_)))
    rw [rd_lt hlt, w64 (x := (i : Int) + 1) (by omega) (by omega)]
    refine Ev.cbind (a := ba (Lib.itoa l[i])) ?_ (Ev.pos ?_ ?_)
    · unfold strconv_Itoa.f
      rw [if_pos ⟨by have := hb.1; omega, by have := hb.2; omega⟩]
      rfl
    · unfold ws
      rw [List.length_map, List.length_take]
      omega
    · unfold ws at hn ⊢
      rw [List.map_append] at hn
      exact hn
theorem words (l : List Int) (h6 : l.length ≤ 6) (hc : ∀ c ∈ l, CB c) : Ev (fun k => impl_numbersText.f k l (⟨#[44]⟩ : ByteArray)) (ba (Lib.join (l.map Lib.itoa) [44])) := by
  unfold impl_numbersText.f
  exact words_l l h6 hc l.length 0 (by omega)
theorem core : Core := by
  intro x0 h0
  have hl : x0.f0.length ≤ 1048576 := h0
  have gs := goodRow_spec x0.f0 (by omega)
  have gi := goodRow_impl x0.f0
  unfold spec_RowText.f impl_RowText.f
  by_cases g : goodRow x0.f0 = true
  · have h := g
    unfold goodRow at h
    rw [Bool.and_eq_true, decide_eq_true_eq, List.all_eq_true] at h
    have hc : ∀ c ∈ x0.f0, CB c := fun c q => of_decide_eq_true (p := -100000 ≤ c ∧ c ≤ 100000) (h.2 c q)
    exact ⟨(ba (Lib.join (x0.f0.map Lib.itoa) [44]), true), Ev.bind gs (Ev.pos g (Ev.bind (text _ h.1 hc) (Ev.now _))), Ev.cbind gi (Ev.pos g (Ev.bind (words _ h.1 hc) (Ev.now _)))⟩
  · exact ⟨((⟨#[]⟩ : ByteArray), false), Ev.bind gs (Ev.neg g (Ev.now _)), Ev.cbind gi (Ev.neg g (Ev.now _))⟩
theorem FnExactRowText : laws_FnExactRowText.Pure := law core

end Go.Proofs.YtmelechhnimlnaeDoor.Pure
