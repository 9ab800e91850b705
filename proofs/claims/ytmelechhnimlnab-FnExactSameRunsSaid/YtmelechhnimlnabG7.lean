/- Written by a program of this claim's own, out of the translation: functions of the program as plain functions, and that the calls answer as these. No conditions. -/
import Derived.Test.YtmelechhnimlnabG0
import Derived.Test.YtmelechhnimlnabXD
import Derived.Test.YtmelechhnimlnabG6
namespace Go.Proofs.Ytmelechhnimlnab.G
open Go.RowKit Go.Proofs.Ytmelechhnimlnab.X Go.Proofs.YtmelechhnimlnabW.PrintWords Go.Proofs.YtmelechhnimlnabW.PrintLast Go.Proofs.YtmelechhnimlnabW.PrintMore
attribute [local go_sem] max2_int min2_int max_two min_two max_three min_three max_four min_four   -- for this text's walks alone
set_option linter.unusedVariables false
set_option linter.unusedSimpArgs false

/-! ### slices_DeleteFunc_Limpl_Step_impl_Step: function 25 -/
-- cut
theorem slices_DeleteFunc_Limpl_Step_impl_Step.zero32 (w : World) : (zeroValue 32).run Try.prog w = .ok (.agg #[.int .i64 0, .int .i64 0, .int .i64 0]) w := by kernel_rfl
theorem slices_DeleteFunc_Limpl_Step_impl_Step.cells {w : World} (g : Nat) (hg : w.heap.size ≤ g) : ∀ (vs : List Value) (o : Nat) (W : World), Below w.heap.size w W → Below w.heap.size w (W.setCells g o vs)
  | [], _, _, h => h
  | v :: vs, o, W, h => slices_DeleteFunc_Limpl_Step_impl_Step.cells g hg vs (o + 1) _ (xt h hg)
theorem slices_DeleteFunc_Limpl_Step_impl_Step.keep {α : Type} (p : α → Bool) (d : α) (xs zs : List α) (i j : Nat) (hl : zs.length = xs.length) (hd : zs.drop j = xs.drop j) (ht : zs.take i = (xs.take j).filter (fun x => !p x)) (hij : i < j) (hj : j < xs.length) (hp : p (zs.getD j d) = false) :
    (zs.set i (zs.getD j d)).length = xs.length ∧ (zs.set i (zs.getD j d)).drop (j + 1) = xs.drop (j + 1) ∧ (zs.set i (zs.getD j d)).take (i + 1) = (xs.take (j + 1)).filter (fun x => !p x) := by
  have hjz : j < zs.length := by omega
  have e1 : zs.getD j d = zs[j] := by rw [List.getD_eq_getElem?_getD, List.getElem?_eq_getElem hjz]; rfl
  have e2 : zs[j] = xs[j] := by
    have := congrArg (fun l => l[0]?) hd
    simp only [List.getElem?_drop, Nat.add_zero, List.getElem?_eq_getElem hjz, List.getElem?_eq_getElem hj] at this
    exact Option.some.inj this
  refine ⟨by simp [hl], ?_, ?_⟩
  · rw [List.drop_set_of_lt (by omega), ← List.drop_drop, hd, List.drop_drop]
  · rw [List.take_set, List.take_succ_eq_append_getElem (by omega : i < zs.length), ht, List.take_succ_eq_append_getElem hj, List.filter_append]
    have hlen : ((xs.take j).filter (fun x => !p x)).length = i := by rw [← ht, List.length_take]; omega
    rw [List.set_append_right _ _ (by omega), hlen]
    rw [e1, e2] at hp ⊢
    simp [hp]
theorem slices_DeleteFunc_Limpl_Step_impl_Step.skip {α : Type} (p : α → Bool) (d : α) (xs zs : List α) (i j : Nat) (hl : zs.length = xs.length) (hd : zs.drop j = xs.drop j) (ht : zs.take i = (xs.take j).filter (fun x => !p x)) (hj : j < xs.length) (hp : p (zs.getD j d) = true) :
    zs.drop (j + 1) = xs.drop (j + 1) ∧ zs.take i = (xs.take (j + 1)).filter (fun x => !p x) := by
  have hjz : j < zs.length := by omega
  have e1 : zs.getD j d = zs[j] := by rw [List.getD_eq_getElem?_getD, List.getElem?_eq_getElem hjz]; rfl
  have e2 : zs[j] = xs[j] := by
    have := congrArg (fun l => l[0]?) hd
    simp only [List.getElem?_drop, Nat.add_zero, List.getElem?_eq_getElem hjz, List.getElem?_eq_getElem hj] at this
    exact Option.some.inj this
  refine ⟨by rw [← List.drop_drop, hd, List.drop_drop], ?_⟩
  rw [ht, List.take_succ_eq_append_getElem hj, List.filter_append]
  rw [e1, e2] at hp
  simp [hp]
theorem slices_DeleteFunc_Limpl_Step_impl_Step.idx {α : Type} (p : α → Bool) : ∀ (xs : List α) (i : Nat), (idxO (fun x => some (p x)) xs (i : Int) = some (-1) ∧ xs.filter (fun x => !p x) = xs) ∨
    ∃ k : Nat, k < xs.length ∧ idxO (fun x => some (p x)) xs (i : Int) = some ((i + k : Nat) : Int) ∧ xs.take k = (xs.take (k + 1)).filter (fun x => !p x)
  | [], i => .inl ⟨rfl, rfl⟩
  | x :: xs, i => by
    cases hp : p x with
    | true => exact .inr ⟨0, by simp, by simp [idxO, hp], by simp [hp]⟩
    | false =>
      rcases slices_DeleteFunc_Limpl_Step_impl_Step.idx p xs (i + 1) with ⟨h1, h2⟩ | ⟨k, h1, h2, h3⟩
      · refine .inl ⟨?_, by simp [hp, h2]⟩
        simp only [idxO, hp, Option.bind_some]
        exact h1
      · refine .inr ⟨k + 1, by simpa using h1, ?_, by simp [hp, ← h3]⟩
        simp only [idxO, hp, Option.bind_some]
        rw [show i + (k + 1) = i + 1 + k by omega]
        exact h2
set_option maxHeartbeats 8000000 in
set_option maxRecDepth 100000 in
theorem slices_DeleteFunc_Limpl_Step_impl_Step.own (g : Nat) (lb : Array Value) (eg : ∀ args w, (callFunc g args).run Try.prog w = .ok (.enter g args) w) (p : S32 → Bool) (ok : Nat → Prop) (w1 w : World) (v : Value) (xs : List S32)
    (hp : PB Try.prog g lb k32 encAgg (fun x => some (p x)) w1) (hB : Below w1.heap.size w1 w) (ho : Kd.R k32 32 w w1.heap.size ok v xs) (hn : xs.length ≤ 140737488355328) :
    Calls Try.prog 25 #[v, .func (.func g) #[] lb] w fun e w' => ∃ v' : Value, e = .returned v' ∧ Kd.R k32 32 w' w1.heap.size ok v' (xs.filter fun x => !p x) ∧ Below w1.heap.size w1 w' := by
  obtain ⟨A0, c0, rfl⟩ := Kd.R_slice ho
  have hr := Kd.R_reads' ho
  have hpw : PB Try.prog g lb k32 encAgg (fun x => some (p x)) w := fun W x cs b hW hK hb => hp W x cs b (below_step hB hW) hK hb
  have hu32 := Try.underlying32
  have hu26 := Try.underlying26
  have HO := xm ho
  have HB := xm hB
  have HP := xm hp
  have HN := xm hn
  rcases slices_DeleteFunc_Limpl_Step_impl_Step.idx p xs 0 with ⟨hi, hf⟩ | ⟨k, hk, hi, ht⟩
  · have HI := xm (slices_IndexFunc_Limpl_Step_impl_Step.any g lb eg (fun x => some (p x)) A0 c0 xs (-1) w hr.2.2 hr.2.1 hpw hi)
    clear ho hr hpw hp hB hi hn
    go_enter Try.func25, Try.ntmps25
    go_wp2_with (go_at_call 34; refine HI.out.mono ?_; rintro e w2 ⟨rfl, hb⟩)
    go_ret
    exact ⟨_, rfl, by rw [hf]; exact Kd.R_below HO.out hb, below_step HB.out hb⟩
  · have HI := xm (slices_IndexFunc_Limpl_Step_impl_Step.any g lb eg (fun x => some (p x)) A0 c0 xs ((0 + k : Nat) : Int) w hr.2.2 hr.2.1 hpw hi)
    rw [Nat.zero_add] at HI
    obtain ⟨g0, c1, e0, gb0, gl0, HG0⟩ := Kd.R_form ho (by omega)
    (injection e0 with ea_ en_ ec_; subst ea_; subst ec_; clear en_)
    have GB0 := xm gb0
    have HT := xm ht
    have HC0 := xm hr.2.1
    have HKN := xm hk
    have hne1 : ((k : Int) == -1) = false := beq_eq_false_iff_ne.2 (by omega)
    clear ho hr hpw hp hB hi hn gb0 gl0 HG0 ht
    go_enter Try.func25, Try.ntmps25
    go_wp2_with (go_at_call 34; refine HI.out.mono ?_; rintro e w2 ⟨rfl, hb⟩; have n0_ := xm (Kd.R_below HO.out hb); have n1_ := xm (below_step HB.out hb); clear HO HB hb; revert n0_ n1_; intro HO HB)
    go_loopg [5, 6] xs.length (fun kq v5 v6 w' => ∃ (i j : Nat) (zs : List S32), v5 = .int .i64 i ∧ v6 = .int .i64 j ∧ Aside0 (zs.length = xs.length ∧ zs.drop j = xs.drop j ∧ zs.take i = (xs.take j).filter (fun x => !p x) ∧ i < j ∧ j ≤ xs.length) ∧ Aside0 (xs.length - j ≤ kq) ∧ Aside0 (Kd.R k32 32 w' w1.heap.size ok (.slice (some ⟨g0, 0, none⟩) xs.length c0) zs) ∧ Aside0 (Below w1.heap.size w1 w'))
    case atStart => exact ⟨k, k + 1, xs, rfl, congrArg (Value.int .i64) (by have := HN.out; have := HKN.out; unfold wrap64; omega), ⟨rfl, rfl, HT.out, by omega, HKN.out⟩, ⟨by omega⟩, ⟨HO.out⟩, ⟨HB.out⟩⟩
    case round =>
      clear HO HB
      obtain ⟨i, j, zs, rfl, rfl, HR, HK, HO, HB⟩ := hrel
      by_cases hj : j < xs.length
      · have hjn : (j : Int) < (xs.length : Int) := by omega
        have hj0 : (0 : Int) ≤ (j : Int) := by omega
        have hin : (i : Int) < (xs.length : Int) := by have := HR.out; omega
        have hi0 : (0 : Int) ≤ (i : Int) := by omega
        have HIJ := xm (And.intro (And.intro hi0 hin) (And.intro hj0 hjn))
        have hzl : zs.length = xs.length := HR.out.1
        obtain ⟨ce, hcl, hM, hcc, _⟩ := Kd.R_elem HO.out z32 (j : Int) hj0 hjn
        obtain rfl := k32_openM hM
        have hx0 := hcc 0 _ rfl
        have hx1 := hcc 1 _ rfl
        have hx2 := hcc 2 _ rfl
        simp only [show (k32).sz = 3 from rfl, Nat.add_zero, Int.toNat_natCast] at hx0 hx1 hx2
        clear hcl hM hcc
        have hlt : decide ((j : Int) < (xs.length : Int)) = true := decide_eq_true hjn
        replace hj0 := eq_true hj0
        replace hjn := eq_true hjn
        replace hi0 := eq_true hi0
        replace hin := eq_true hin
        obtain ⟨y, hy⟩ : ∃ y, zs.getD j z32 = y := ⟨_, rfl⟩
        rw [hy] at hx0 hx1 hx2
        have HY := xm hy
        clear hy hj hzl
        obtain ⟨y0, y1, y2⟩ := y
        cases hpy : p ⟨y0, y1, y2⟩ with
        | true =>
          have HPY := xm hpy
          clear hpy
          go_wp2_with (first
            | ((with_reducible refine gate_dst (N := 7) rfl ?_); refine box_event ?hg (N := 7) ?hd (cs := #[.int .i64 0, .int .i64 0, .int .i64 0]) (t := 32) ?hr ?_; (case hd => rfl); (case hg => rfl); (case hr => exact zB); intro gb hg w2 hbox hb; obtain ⟨hc0, hc1, hc2, hf0, hf1, hf2⟩ := cz3 hbox; have HBX := xm hbox; have HBB := xm hb; have HG9 := xm hg; clear hbox hb hg)
            | ((with_reducible refine gate_store (t := 32) (p := 7) rfl ?_); refine store_event (t := 32) (p := 7) (v := ?vo) (w1 := (((w2.setCell ⟨gb, 0, none⟩ (.int .i64 y0)).setCell ⟨gb, 1, none⟩ (.int .i64 y1)).setCell ⟨gb, 2, none⟩ (.int .i64 y2))) ?hg ?ho ?hn ?hr ?_; (case ho => rfl); (case hg => rfl); (case hn => rfl); (case hr => exact zB); intro w3 hw; clear hc0 hc1 hc2 hf0 hf1 hf2; have hb3 : Below wr.heap.size wr w3 := (by rw [hw]; exact xt (xt (xt HBB.out (Nat.le_of_eq HG9.out.symm)) (Nat.le_of_eq HG9.out.symm)) (Nat.le_of_eq HG9.out.symm)); have HBK : Aside0 (w3.heap[gb]? = some (.cells #[.int .i64 y0, .int .i64 y1, .int .i64 y2] 32 (0, 0))) := ⟨(by rw [hw]; refine blk_put (cs := #[.int .i64 y0, .int .i64 y1, .int .i64 0]) ?_ 2 _ rfl; refine blk_put (cs := #[.int .i64 y0, .int .i64 0, .int .i64 0]) ?_ 1 _ rfl; refine blk_put (cs := #[.int .i64 0, .int .i64 0, .int .i64 0]) ?_ 0 _ rfl; exact HBX.out)⟩; obtain ⟨hc0, hc1, hc2, hf0, hf1, hf2⟩ := cz3 HBK.out; clear hf0 hf1 hf2; have n0_ := xm (Kd.R_below HO.out hb3); have n1_ := xm (below_step HB.out hb3); clear HO HB HBX HBB HG9 hw hx0 hx1 hx2 hb3; revert n0_ n1_; intro HO HB; have hcall := HP.out w3 ⟨y0, y1, y2⟩ [.int .i64 y0, .int .i64 y1, .int .i64 y2] true HB.out (k32_mk w3 ⟨y0, y1, y2⟩) (congrArg some HPY.out); simp only [encAgg] at hcall; have HL := xm hcall; clear hcall)
            | (go_at_fn g; refine HL.out.mono ?_; rintro e w4 ⟨rfl, hb⟩; have n0_ := xm (Kd.R_below HO.out hb); have n1_ := xm (below_step HB.out hb); clear HO HB HL HBK hc0 hc1 hc2; revert n0_ n1_; intro HO HB))
          go_roundg (xs.length - (j + 1))
          case measure => have := HK.out; have := HIJ.out; omega
          case rel =>
            have hs := HR.out
            have hij := HIJ.out
            have h3 := slices_DeleteFunc_Limpl_Step_impl_Step.skip p z32 xs zs i j hs.1 hs.2.1 hs.2.2.1 (by omega) (by rw [HY.out]; exact HPY.out)
            exact ⟨i, j + 1, zs, rfl, congrArg (Value.int .i64) (by have := HN.out; unfold wrap64; omega), ⟨hs.1, h3.1, h3.2, by omega, by omega⟩, ⟨Nat.le_refl _⟩, HO, HB⟩
        | false =>
          have HPY := xm hpy
          clear hpy
          go_wp2_with (first
            | ((with_reducible refine gate_dst (N := 7) rfl ?_); refine box_event ?hg (N := 7) ?hd (cs := #[.int .i64 0, .int .i64 0, .int .i64 0]) (t := 32) ?hr ?_; (case hd => rfl); (case hg => rfl); (case hr => exact zB); intro gb hg w2 hbox hb; obtain ⟨hc0, hc1, hc2, hf0, hf1, hf2⟩ := cz3 hbox; have HBX := xm hbox; have HBB := xm hb; have HG9 := xm hg; clear hbox hb hg)
            | ((with_reducible refine gate_store (t := 32) (p := 7) rfl ?_); refine store_event (t := 32) (p := 7) (v := ?vo) (w1 := (((w2.setCell ⟨gb, 0, none⟩ (.int .i64 y0)).setCell ⟨gb, 1, none⟩ (.int .i64 y1)).setCell ⟨gb, 2, none⟩ (.int .i64 y2))) ?hg ?ho ?hn ?hr ?_; (case ho => rfl); (case hg => rfl); (case hn => rfl); (case hr => exact zB); intro w3 hw; clear hc0 hc1 hc2 hf0 hf1 hf2; have hb3 : Below wr.heap.size wr w3 := (by rw [hw]; exact xt (xt (xt HBB.out (Nat.le_of_eq HG9.out.symm)) (Nat.le_of_eq HG9.out.symm)) (Nat.le_of_eq HG9.out.symm)); have HBK : Aside0 (w3.heap[gb]? = some (.cells #[.int .i64 y0, .int .i64 y1, .int .i64 y2] 32 (0, 0))) := ⟨(by rw [hw]; refine blk_put (cs := #[.int .i64 y0, .int .i64 y1, .int .i64 0]) ?_ 2 _ rfl; refine blk_put (cs := #[.int .i64 y0, .int .i64 0, .int .i64 0]) ?_ 1 _ rfl; refine blk_put (cs := #[.int .i64 0, .int .i64 0, .int .i64 0]) ?_ 0 _ rfl; exact HBX.out)⟩; obtain ⟨hc0, hc1, hc2, hf0, hf1, hf2⟩ := cz3 HBK.out; clear hf0 hf1 hf2; have n0_ := xm (Kd.R_below HO.out hb3); have n1_ := xm (below_step HB.out hb3); clear HO HB HBX HBB HG9 hw hx0 hx1 hx2 hb3; revert n0_ n1_; intro HO HB; have hcall := HP.out w3 ⟨y0, y1, y2⟩ [.int .i64 y0, .int .i64 y1, .int .i64 y2] false HB.out (k32_mk w3 ⟨y0, y1, y2⟩) (congrArg some HPY.out); simp only [encAgg] at hcall; have HL := xm hcall; clear hcall)
            | (go_at_fn g; refine HL.out.mono ?_; rintro e w4 ⟨rfl, hb⟩; have n0_ := xm (Kd.R_below HO.out hb); have n1_ := xm (below_step HB.out hb); have n2_ := xm (blk_below HBK.out hb); clear HO HB HL HBK hc0 hc1 hc2; revert n0_ n1_ n2_; intro HO HB HBK; obtain ⟨hc0, hc1, hc2, hf0, hf1, hf2⟩ := cz3 HBK.out; clear hf0 hf1 hf2; obtain ⟨ce, hcl, hM, hcc, hfr⟩ := Kd.R_elem HO.out z32 (i : Int) HIJ.out.1.1 HIJ.out.1.2; obtain rfl := k32_openM hM; have hx0 := hcc 0 _ rfl; have hx1 := hcc 1 _ rfl; have hx2 := hcc 2 _ rfl; have hz0 := hfr 0; have hz1 := hfr 1; have hz2 := hfr 2; have HP9 := xm (Kd.R_seg HO.out (i : Int) HIJ.out.1.1 HIJ.out.1.2 (seg := [.int .i64 y0, .int .i64 y1, .int .i64 y2]) (j := 0) hcl hcc (show 3 ≤ 3 from by decide) (x' := (⟨y0, y1, y2⟩ : S32)) (k32_mkM _ _ _ (⟨y0, y1, y2⟩ : S32)) (fun _ hk => hk)); simp only [show (k32).sz = 3 from rfl, Nat.add_zero, Int.toNat_natCast] at hx0 hx1 hx2 hz0 hz1 hz2; clear hcl hM hcc hfr)
            | ((with_reducible refine gate_store (t := 32) (p := 33) rfl ?_); refine store_event (t := 32) (p := 33) (v := ?vo2) (w1 := (((w4.setCell ⟨g0, i * 3, none⟩ (.int .i64 y0)).setCell ⟨g0, i * 3 + 1, none⟩ (.int .i64 y1)).setCell ⟨g0, i * 3 + 2, none⟩ (.int .i64 y2))) ?hg ?ho ?hn ?hr ?_; (case ho => rfl); (case hg => rfl); (case hn => rfl); (case hr => exact zB); intro w5 hw; have hp1 := HP9.out.1; simp only [show (k32).sz = 3 from rfl, Nat.add_zero, Int.toNat_natCast, World.setCells] at hp1; rw [← hw] at hp1; have n0_ := xm hp1; have n1_ : Aside0 (Below w1.heap.size w1 w5) := ⟨by rw [hw]; exact xt (xt (xt HB.out GB0.out) GB0.out) GB0.out⟩; clear HO HB HP9 hp1 hw hx0 hx1 hx2 hz0 hz1 hz2 hc0 hc1 hc2 HBK; revert n0_ n1_; intro HO HB))
          go_roundg (xs.length - (j + 1))
          case measure => have := HK.out; have := HIJ.out; omega
          case rel =>
            have hs := HR.out
            have hij := HIJ.out
            have h3 := slices_DeleteFunc_Limpl_Step_impl_Step.keep p z32 xs zs i j hs.1 hs.2.1 hs.2.2.1 (by omega) (by omega) (by rw [HY.out]; exact HPY.out)
            rw [HY.out] at h3
            exact ⟨i + 1, j + 1, zs.set i ⟨y0, y1, y2⟩, congrArg (Value.int .i64) (by have := HN.out; unfold wrap64; omega), congrArg (Value.int .i64) (by have := HN.out; unfold wrap64; omega), ⟨h3.1, h3.2.1, h3.2.2, by omega, by omega⟩, ⟨Nat.le_refl _⟩, HO, HB⟩
      · obtain rfl : j = xs.length := by have := HR.out; omega
        have hin : i < xs.length := by have := HR.out; omega
        have hzl : zs.length = xs.length := HR.out.1
        have hfin : zs.take i = xs.filter (fun x => !p x) := by have := HR.out.2.2.1; rw [List.take_length] at this; exact this
        have hltz : ¬ (xs.length : Int) < (xs.length : Int) := by omega
        have hi0 : (0 : Int) ≤ (i : Int) := by omega
        have hi1 : (i : Int) ≤ (xs.length : Int) := by omega
        have hcl : ∀ ty, (Builtin.clear_ #[26] ty #[.slice (some ⟨g0, i * 3, none⟩) (xs.length - i) (c0 - i)]).run Try.prog wr = .ok (.tuple #[]) (wr.setCells g0 (i * 3) (Builtin.zeroCells (Value.agg #[.int .i64 0, .int .i64 0, .int .i64 0]).cells (xs.length - i)).toList) := fun ty => by
          have hq : ∀ t, t < (xs.length - i) * 3 → ∃ u, wr.cell? ⟨g0, i * 3 + t, none⟩ = some u ∧ wr.frozen? ⟨g0, i * 3 + t, none⟩ = false := fun t ht => by
            have hb : ((t / 3 + i : Nat) : Int) < (xs.length : Int) := by omega
            obtain ⟨c, hcl, hM, hcc, hfr⟩ := Kd.R_elem HO.out z32 ((t / 3 + i : Nat) : Int) (by omega) hb
            have h3 : t % 3 < c.length := by rw [hcl]; show t % 3 < 3; omega
            have h4 := hcc (t % 3) _ (List.getElem?_eq_getElem h3)
            have h5 := hfr (t % 3)
            simp only [show (k32).sz = 3 from rfl, Int.toNat_natCast] at h4 h5
            have e : (t / 3 + i) * 3 + t % 3 = i * 3 + t := by omega
            rw [e] at h4 h5
            exact ⟨_, h4, h5⟩
          exact run_clear_cells wr 26 32 ty _ hu26 slices_DeleteFunc_Limpl_Step_impl_Step.zero32 (by decide) (by decide) g0 (i * 3) (xs.length - i) (c0 - i) (by omega) (fun t ht => by obtain ⟨u, h1, _⟩ := hq t ht; rw [h1]; rfl) (fun t ht => by obtain ⟨u, _, h1⟩ := hq t ht; exact h1)
        have HFI := xm hfin
        have hci : ¬ c0 = i := by have := HC0.out; omega
        have hci2 : ¬ i = c0 := by have := HC0.out; omega
        have hci3 : i < c0 := by have := HC0.out; omega
        have HIN := xm (And.intro hin hzl)
        clear hj hfin hin hzl HR
        go_wp2
        go_ret
        have hcut := R_cut HO.out (m := i) (by have := HIN.out; omega) (Builtin.zeroCells (Value.agg #[.int .i64 0, .int .i64 0, .int .i64 0]).cells (xs.length - i)).toList (fun ok' p c h => by obtain rfl := k32_openM h; exact k32_mkM _ _ _ p)
        rw [HFI.out] at hcut
        exact ⟨_, rfl, hcut, slices_DeleteFunc_Limpl_Step_impl_Step.cells g0 GB0.out _ _ _ HB.out⟩

/-! ### slices_Clone_Limpl_Step_impl_Step: function 26 -/
def slices_Clone_Limpl_Step_impl_Step.f (l0 : List S32) : Option (List S32) := if l0.length < 5864062014805 then some l0 else none
set_option maxHeartbeats 8000000 in
set_option maxRecDepth 100000 in
theorem slices_Clone_Limpl_Step_impl_Step.calls (A0 : Option Addr) (c0 : Nat) (l0 : List S32) (r : List S32) (w : World) (hr0 : Kd.C k32 w A0 l0.length l0) (hc0 : l0.length ≤ c0) (h : slices_Clone_Limpl_Step_impl_Step.f l0 = some r) :
    Calls Try.prog 26 #[.slice A0 l0.length c0] w fun e w' => ∃ v0_ : Value, e = .returned (v0_) ∧ Kd.R k32 32 w' w.heap.size (fun _ => True) v0_ r ∧ Below w.heap.size w w' := by
  have HR0 := xm hr0
  have hln := hr0.2.2
  have h : (if l0.length < 5864062014805 then some l0 else none) = some r := h
  by_cases c2 : l0.length < 5864062014805
  case neg => rw [if_neg c2] at h; cases h
  rw [if_pos c2] at h
  obtain rfl := Option.some.inj h
  have LM := xm c2
  have q4 : ∀ (w : World) (a : Option Addr) (n c : Nat), (binOp .eql 26 (.slice a n c) (.slice none 0 0)).run Try.prog w = .ok (.bool a.isNone) w := fun w a n c => eql_nil Try.underlying26 w a n c
  clear c2 h hr0 hc0
  cases A0 with
  | none =>
    obtain rfl : l0 = [] := by
      cases l0 with
      | nil => rfl
      | cons x xs => obtain ⟨ad, e, _⟩ := hln (Nat.succ_pos _); cases e
    clear hln
    go_enter Try.func26, Try.ntmps26
    go_wp2
    go_ret
    exact ⟨_, rfl, Kd.R_nil _ _ _ _ _, Below.refl _ _⟩
  | some a =>
    clear hln
    go_enter Try.func26, Try.ntmps26
    go_wp2_with (first | ((with_reducible refine gate_dst (N := 5) rfl ?_); refine Kd.R_lit k32 _ 32 ?hg (N := 5) ?hd (xs := ([] : List S32)) (inner := []) (ok := fun _ => True) (okp := fun _ => True) ?hr ?hp (fun _ hk => hk) trivial (Below.refl w.heap.size w) (Nat.le_refl _) (by simp) ?_; (case hd => rfl); (case hg => rfl); (case hr => exact zB); (case hp => exact (Reps.none _ _)); intro v5 w5 ho hb hg_ hnew_; clear hg_ hnew_; have HO := xm ho; have HB := xm hb; clear ho hb) | ((with_reducible refine gate_builtin (b := .append) (xs := #[.tmp 5, .tmp 6]) rfl ?_); at_builtin; refine Kd.R_append_rows k32 (w0 := w) w.heap.size rfl (.tmp 5) (.tmp 6) 26 32 (.agg #[(.int .i64 0), (.int .i64 0), (.int .i64 0)]) 24 rfl Try.underlying26 info32 rfl (by decide) (by omega) v5 [] l0 _ _ _ (fun _ => True) (fun _ => False) rfl rfl ?aO ?aR (fun _ _ h => h) (fun _ h => h.elim) ?aF ?aB ?aS ?aL ?_; (case aR => exact (Kd.C_below HR0.out HB.out)); (case aB => exact HB.out); (case aF => exact (fun _ _ => trivial)); (case aO => exact HO.out); (case aS => exact xz HB.out); (case aL => have := LM.out; simp; omega); intro v7 w9 ho hb hg hat; have n0_ := xm ho; have n1_ := xm hb; clear HO HB ho hb hg hat; revert n0_ n1_; intro HO HB))
    go_ret
    exact ⟨_, rfl, HO.out, HB.out⟩

/-! ### impl_stepsOf_1: function 27 -/
def impl_stepsOf_1.f (a0_0 : Int) (a0_1 : Int) (a0_2 : Int) (a1 : Int) : Option (Bool) := some (a0_0 != a1)
set_option maxHeartbeats 8000000 in
set_option maxRecDepth 100000 in
theorem impl_stepsOf_1.calls (a0_0 : Int) (a0_1 : Int) (a0_2 : Int) (gc1 : Nat) (a1 : Int) (r : Bool) (w : World) (hbk1 : w.heap[gc1]? = some (.cells #[.int .i64 a1] 3 (0, 0))) (h : impl_stepsOf_1.f a0_0 a0_1 a0_2 a1 = some r) :
    Calls Try.prog 27 #[.agg #[.int .i64 a0_0, .int .i64 a0_1, .int .i64 a0_2], .pointer (some ⟨gc1, 0, none⟩)] w fun e w' => e = .returned (.bool r) ∧ Below w.heap.size w w' := by
  have hu32 := Try.underlying32
  have BK150 := xm hbk1
  clear hbk1
  have HB := xm (Below.refl w.heap.size w)
  have H : (some (a0_0 != a1)) = some r := h
  clear h
  obtain rfl := Option.some.inj H
  go_enter Try.func27, Try.ntmps27
  go_wp2_with (first | ((with_reducible refine gate_dst (N := 2) rfl ?_); refine box_event ?hg (N := 2) ?hd (cs := #[.int .i64 a0_0, .int .i64 a0_1, .int .i64 a0_2]) (t := 32) ?hr ?_; (case hd => rfl); (case hg => rfl); (case hr => exact zB); intro gb151 hg w3 hbox hb; have n0_ := xm (blk_below (kB BK150) hb); have n1_ := xm (below_step bG hb); have n2_ := xm (hbox); have n3_ := xm ((by rw [hg]; exact (xz bG) : w.heap.size ≤ gb151)); have n4_ := xm ((by rw [hg]; exact (xz bG) : w.heap.size ≤ gb151)); have n5_ := xm ((by rw [hg]; exact Nat.ne_of_lt (blk_lt (kB BK150)) : gc1 ≠ gb151)); have n6_ := xm ((by rw [hg]; exact Nat.ne_of_gt (blk_lt (kB BK150)) : gb151 ≠ gc1)); revert n0_ n1_ n2_ n3_ n4_ n5_ n6_; clear BK150 HB; intro BK150 HB BK151 GW151 GE151 NB150_151 NB151_150; clear hb hbox hg; have hnb4 := NB151_150.out; have hnc4 := NB150_151.out; obtain ⟨hcz5_0, hcz5_1, hcz5_2, hfz5_0, hfz5_1, hfz5_2⟩ := cz3 BK151.out; obtain ⟨hcz6_0, hfz6_0⟩ := cz1 BK150.out))
  go_ret
  exact ⟨eB, bG⟩

/-! ### impl_stepsOf: function 15 -/
def impl_stepsOf.f (l0 : List S32) (a1 : Int) : Option (List S32) := if l0.length < 5864062014805 then some (l0.filter fun x => x.f0 == a1) else none
theorem impl_stepsOf.enters27 : ∀ args w, (callFunc 27 args).run Try.prog w = .ok (.enter 27 args) w := enters_of Try.func27 (by kernel_rfl) rfl
set_option maxHeartbeats 8000000 in
set_option maxRecDepth 100000 in
theorem impl_stepsOf.calls (A0 : Option Addr) (c0 : Nat) (l0 : List S32) (a1 : Int) (r : List S32) (w : World) (hr0 : Kd.C k32 w A0 l0.length l0) (hc0 : l0.length ≤ c0) (h : impl_stepsOf.f l0 a1 = some r) :
    Calls Try.prog 15 #[.slice A0 l0.length c0, .int .i64 a1] w fun e w' => ∃ v0_ : Value, e = .returned v0_ ∧ Kd.R k32 32 w' w.heap.size (fun _ => True) v0_ r ∧ Below w.heap.size w w' := by
  unfold impl_stepsOf.f at h
  by_cases hL : l0.length < 5864062014805
  case neg => rw [if_neg hL] at h; cases h
  rw [if_pos hL] at h
  obtain rfl := Option.some.inj h
  have HR0 := xm hr0
  have HC0 := xm hc0
  have HL := xm hL
  have HB := xm (Below.refl w.heap.size w)
  clear hr0 hc0 h hL
  go_enter Try.func15, Try.ntmps15
  go_wp2_with (first
    | ((with_reducible refine gate_dst (N := 3) rfl ?_); refine box_event ?hg (N := 3) ?hd (cs := #[.int .i64 a1]) (t := 3) ?hr ?_; (case hd => rfl); (case hg => rfl); (case hr => exact zB); intro gb hg w1 hbox hb; have n0_ := xm hbox; have n1_ := xm (below_step HB.out hb); clear HB hg hbox hb; revert n0_ n1_; intro HBK HB)
    | (go_at_call 26; (with_reducible refine (slices_Clone_Limpl_Step_impl_Step.calls _ _ l0 l0 _ (Kd.C_below HR0.out HB.out) HC0.out ?hcl).mono ?_); (case hcl => unfold slices_Clone_Limpl_Step_impl_Step.f; rw [if_pos HL.out]); rintro e w2 ⟨v2, rfl, ho, hb⟩; have HO := xm ho; have HB2 := xm hb; clear ho hb; have hpb : PB Try.prog 27 #[.pointer (some ⟨gb, 0, none⟩)] k32 encAgg (fun x => some (x.f0 != a1)) w1 := (fun W x cs b hW hK hb => by
         obtain rfl := k32_open hK
         exact impl_stepsOf_1.calls x.f0 x.f1 x.f2 gb a1 b W (blk_below HBK.out hW) hb); have HD := xm (slices_DeleteFunc_Limpl_Step_impl_Step.own 27 #[.pointer (some ⟨gb, 0, none⟩)] impl_stepsOf.enters27 (fun x => x.f0 != a1) (fun _ => True) w1 w2 v2 l0 hpb HB2.out HO.out (by have := HL.out; omega)); clear hpb HO HBK HR0 HC0)
    | (go_at_call 25; refine HD.out.mono ?_; rintro e w3 ⟨v3, rfl, ho, hb⟩))
  go_ret
  refine ⟨_, rfl, ?_, below_step HB.out hb⟩
  have ho2 := Kd.R_lower ho (xz HB.out)
  rw [show (fun x : S32 => !(x.f0 != a1)) = (fun x : S32 => x.f0 == a1) from funext fun x => by simp [bne]] at ho2
  exact ho2

/-! ### math_bits_Mul32: function 37 -/
def math_bits_Mul32.f (a0 : Int) (a1 : Int) : Option (Int × Int) := some (((IntKind.u64.wrap ((IntKind.u64.wrap (a0)) * (IntKind.u64.wrap (a1)))) / 4294967296) % 4294967296, (IntKind.u64.wrap ((IntKind.u64.wrap (a0)) * (IntKind.u64.wrap (a1)))) % 4294967296)
set_option maxHeartbeats 8000000 in
set_option maxRecDepth 100000 in
theorem math_bits_Mul32.calls (a0 : Int) (a1 : Int) (r1 : Int) (r2 : Int) (w : World) (h : math_bits_Mul32.f a0 a1 = some (r1, r2)) :
    Calls Try.prog 37 #[.int .u32 a0, .int .u32 a1] w fun e w' => e = .returned (.tuple #[.int .u32 r1, .int .u32 r2]) ∧ Drawn0 w w' := by
  have H : (some (((IntKind.u64.wrap ((IntKind.u64.wrap (a0)) * (IntKind.u64.wrap (a1)))) / 4294967296) % 4294967296, (IntKind.u64.wrap ((IntKind.u64.wrap (a0)) * (IntKind.u64.wrap (a1)))) % 4294967296)) = some (r1, r2) := h
  clear h
  simp only [Option.some.injEq, Prod.mk.injEq] at H
  obtain ⟨rfl, rfl⟩ := H
  go_enter Try.func37, Try.ntmps37
  go_wp2
  go_ret2
  exact ⟨sB, dB⟩

/-! ### math_bits_Mul64: function 38 -/
def math_bits_Mul64.f (a0 : Int) (a1 : Int) : Option (Int × Int) := some (IntKind.u64.wrap ((IntKind.u64.wrap ((IntKind.u64.wrap ((a0 / 4294967296) * (a1 / 4294967296))) + ((IntKind.u64.wrap ((IntKind.u64.wrap ((a0 / 4294967296) * (Go.bits .and .u64 a1 4294967295))) + ((IntKind.u64.wrap ((Go.bits .and .u64 a0 4294967295) * (Go.bits .and .u64 a1 4294967295))) / 4294967296))) / 4294967296))) + ((IntKind.u64.wrap ((Go.bits .and .u64 (IntKind.u64.wrap ((IntKind.u64.wrap ((a0 / 4294967296) * (Go.bits .and .u64 a1 4294967295))) + ((IntKind.u64.wrap ((Go.bits .and .u64 a0 4294967295) * (Go.bits .and .u64 a1 4294967295))) / 4294967296))) 4294967295) + (IntKind.u64.wrap ((Go.bits .and .u64 a0 4294967295) * (a1 / 4294967296))))) / 4294967296)), IntKind.u64.wrap (a0 * a1))
set_option maxHeartbeats 8000000 in
set_option maxRecDepth 100000 in
theorem math_bits_Mul64.calls (a0 : Int) (a1 : Int) (r1 : Int) (r2 : Int) (w : World) (h : math_bits_Mul64.f a0 a1 = some (r1, r2)) :
    Calls Try.prog 38 #[.int .u64 a0, .int .u64 a1] w fun e w' => e = .returned (.tuple #[.int .u64 r1, .int .u64 r2]) ∧ Drawn0 w w' := by
  have H : (some (IntKind.u64.wrap ((IntKind.u64.wrap ((IntKind.u64.wrap ((a0 / 4294967296) * (a1 / 4294967296))) + ((IntKind.u64.wrap ((IntKind.u64.wrap ((a0 / 4294967296) * (Go.bits .and .u64 a1 4294967295))) + ((IntKind.u64.wrap ((Go.bits .and .u64 a0 4294967295) * (Go.bits .and .u64 a1 4294967295))) / 4294967296))) / 4294967296))) + ((IntKind.u64.wrap ((Go.bits .and .u64 (IntKind.u64.wrap ((IntKind.u64.wrap ((a0 / 4294967296) * (Go.bits .and .u64 a1 4294967295))) + ((IntKind.u64.wrap ((Go.bits .and .u64 a0 4294967295) * (Go.bits .and .u64 a1 4294967295))) / 4294967296))) 4294967295) + (IntKind.u64.wrap ((Go.bits .and .u64 a0 4294967295) * (a1 / 4294967296))))) / 4294967296)), IntKind.u64.wrap (a0 * a1))) = some (r1, r2) := h
  clear h
  simp only [Option.some.injEq, Prod.mk.injEq] at H
  obtain ⟨rfl, rfl⟩ := H
  go_enter Try.func38, Try.ntmps38
  go_wp2
  go_ret2
  exact ⟨sB, dB⟩

/-! ### math_bits_Mul: function 36 -/
def math_bits_Mul.f (a0 : Int) (a1 : Int) : Option (Int × Int) := (math_bits_Mul64.f a0 a1).bind fun bt152 => (some (bt152.1, bt152.2))
set_option maxHeartbeats 8000000 in
set_option maxRecDepth 100000 in
theorem math_bits_Mul.calls (a0 : Int) (a1 : Int) (r1 : Int) (r2 : Int) (w : World) (h : math_bits_Mul.f a0 a1 = some (r1, r2)) :
    Calls Try.prog 36 #[.int .u64 a0, .int .u64 a1] w fun e w' => e = .returned (.tuple #[.int .u64 r1, .int .u64 r2]) ∧ Drawn0 w w' := by
  have H : ((math_bits_Mul64.f a0 a1).bind fun bt152 => (some (bt152.1, bt152.2))) = some (r1, r2) := h
  clear h
  replace H := Option.bind_eq_some_iff.mp H
  obtain ⟨⟨t152, t153⟩, A30, H⟩ := H
  replace H : (some (t152, t153)) = some (r1, r2) := H
  have A3 := xm A30
  clear A30
  simp only [Option.some.injEq, Prod.mk.injEq] at H
  obtain ⟨rfl, rfl⟩ := H
  go_enter Try.func36, Try.ntmps36
  go_wp2_with (first | ((with_reducible refine gate_callee (f := 38) rfl ?_); refine goesL_ (some 25) rfl rfl Try.func38 (by kernel_rfl) rfl #[.int .u64 a0, .int .u64 a1] rfl mB ?_; (with_reducible refine (math_bits_Mul64.calls a0 a1 t152 t153 _ A3.out).mono ?_); rintro e w' ⟨rfl, ⟨nd, rfl⟩⟩; refine ⟨_, rfl, ?_⟩))
  go_ret2
  exact ⟨sB, dB⟩

/-! ### slices_Repeat_Lint_int: function 35 -/
def slices_Repeat_Lint_int.f (l0 : List Int) (a1 : Int) : Option (List Int) := if l0.length = 1 then (if a1 = 4 then some [rd l0 0, rd l0 0, rd l0 0, rd l0 0] else none) else none
theorem slices_Repeat_Lint_int.int3 : (Try.prog.info? 3).map (·.size) = some 1 := by
  obtain ⟨i_, hi_, hz_⟩ := Option.map_eq_some_iff.1 info3
  simp only [Prod.mk.injEq] at hz_
  rw [hi_]; simp [hz_.2.1]
/-- A copy of some cells into a row that is known. -/
theorem slices_Repeat_Lint_int.cpy (w : World) (g o dLen dCap : Nat) (a : Addr) (sLen sCap : Nat) (cur : Array Value) (cs cur' : List Value) (hg : w.heap[g]? = some (.cells cur 3 (0, 0))) (hn : cs.length = Nat.min sLen dLen)
    (hsrc : ∀ j v, cs[j]? = some v → w.cell? (a.add j) = some v) (hfit : o + cs.length ≤ cur.size) (h1 : ∀ v ∈ cs, v.oneCell' = true) (hc : cur.toList.take o ++ cs ++ cur.toList.drop (o + cs.length) = cur') :
    ∃ w1 : World, (Builtin.copy_ #[54, 54] 3 #[.slice (some ⟨g, o, none⟩) dLen dCap, .slice (some a) sLen sCap]).run Try.prog w = .ok (.int .i64 (cs.length : Nat)) w1 ∧ w1.heap[g]? = some (.cells cur'.toArray 3 (0, 0)) ∧ w.grownBy w1 (some g) := by
  have h := run_copy_row Try.prog w 54 54 3 3 g o dLen dCap a sLen sCap cur 3 cs Try.underlying54 slices_Repeat_Lint_int.int3 hg hn hsrc hfit h1
  rw [hc] at h
  exact ⟨_, h, setRow_heap w g cur _ 3 _ hg, ⟨rfl, rfl, rfl, by simp [World.setRow], fun k hk hne => setRow_other w g k _ (fun e => hne (by rw [e]))⟩⟩
section
variable {P : Program} {ops : Array Oper} {rest : List Oper} {o : Oper} {a : Act} {Q : Exit → Act → World → Prop}
theorem slices_Repeat_Lint_int.make_event {W : World} (hgd : o.guard = none) {N : Tmp} (_hd : o.dst = some N) {cs : Array Value} {t : TypeId} {n : Nat}
    (hrun : (execOp a.eval o).run P W = .ok (.value (.slice (some ⟨W.heap.size, 0, none⟩) n n)) (W.alloc (.cells cs t (0, 0))))
    (h : ∀ g, g = W.heap.size → ∀ w1, w1.heap[g]? = some (.cells cs t (0, 0)) → Below W.heap.size W w1 → wpList P ops Q rest (a.put o.dst (.slice (some ⟨g, 0, none⟩) n n)) w1) : wpList P ops Q (o :: rest) a W :=
  Kd.event_run hgd hrun (h _ rfl _ (blk_new W _) (xa (Below.refl _ _) _))
end
theorem slices_Repeat_Lint_int.mk4 (w1 : World) : (Instr.makeSlice 54 (.int .i64 4) (.int .i64 4)).run Try.prog w1 = .ok (.slice (some ⟨w1.heap.size, 0, none⟩) 4 4) (w1.alloc (.cells #[.int .i64 0, .int .i64 0, .int .i64 0, .int .i64 0] 3)) := by
  obtain ⟨i_, hi_, hz_⟩ := Option.map_eq_some_iff.1 info3
  simp only [Prod.mk.injEq] at hz_
  have hm_ := run_makeSlice (P := Try.prog) w1 54 3 i_ (.int .i64 0) Try.underlying54 hi_ hz_.1 .i64 .i64 4 4 (by omega) (by omega) (by rw [hz_.2.1]; decide) (by rw [hz_.2.2]; omega) (by omega)
  rw [hz_.2.1] at hm_
  rw [hm_]
  have hc : madeCells (Value.int IntKind.i64 0).cells (Int.toNat 4 * 1) = #[.int .i64 0, .int .i64 0, .int .i64 0, .int .i64 0] := by
    unfold madeCells
    rw [show Array.range (Int.toNat 4 * 1) = #[0, 1, 2, 3] from by decide]
    simp [Value.cells, Nat.mod_one]
  rw [hc]
  rfl
theorem slices_Repeat_Lint_int.wr2 : wrap64 2 = 2 := by unfold wrap64; omega
theorem slices_Repeat_Lint_int.wr4 : wrap64 4 = 4 := by unfold wrap64; omega
theorem slices_Repeat_Lint_int.src_pre {w : World} {g t : Nat} {cur : Array Value} (h : w.heap[g]? = some (.cells cur t (0, 0))) (k : Nat) {cs : List Value} (hc : cur.toList.take k = cs) : ∀ j v, cs[j]? = some v → w.cell? ((⟨g, 0, none⟩ : Addr).add j) = some v := by
  subst hc
  intro j v hj
  rw [add_at, Nat.zero_add]
  refine (xc h j).trans ?_
  rw [List.getElem?_take] at hj
  split at hj
  · simpa using hj
  · cases hj
set_option maxHeartbeats 4000000 in
set_option maxRecDepth 100000 in
theorem slices_Repeat_Lint_int.one (x : Int) (ad : Addr) (c0 : Nat) (w : World) (hx : w.cell? ad = some (.int .i64 x)) (hMul : ∀ w, Calls Try.prog 36 #[.int .u64 1, .int .u64 4] w fun e w' => e = .returned (.tuple #[.int .u64 0, .int .u64 4]) ∧ Drawn0 w w') :
    Calls Try.prog 35 #[.slice (some ad) 1 c0, .int .i64 4] w fun e w' => ∃ v0_ : Value, e = .returned v0_ ∧ Kd.R (Kd.int .i64) 3 w' w.heap.size (fun _ => True) v0_ [x, x, x, x] ∧ Below w.heap.size w w' := by
  go_enter Try.func35, Try.ntmps35
  go_wp2_with (first
    | (go_at_call 36; refine (hMul _).mono ?_; rintro e w1 ⟨rfl, hd⟩; have hb := hd.below; have hx1 := pw_cell_below hb hx)
    | ((with_reducible refine gate_dst (N := 30) rfl ?_); refine slices_Repeat_Lint_int.make_event ?hg1 (N := 30) ?hd1 (cs := #[.int .i64 0, .int .i64 0, .int .i64 0, .int .i64 0]) (t := 3) (n := 4) ?hr1 ?_; (case hd1 => rfl); (case hg1 => rfl); (case hr1 => go_simp; rw [slices_Repeat_Lint_int.mk4]; rfl); intro g hg w2 hbk hb2; have HG := xm hg; clear hg; have hx2 := pw_cell_below hb2 hx1; obtain ⟨w3, hr3, hbk3, hg3⟩ := slices_Repeat_Lint_int.cpy w2 g 0 4 4 ad 1 c0 _ [.int .i64 x] [.int .i64 x, .int .i64 0, .int .i64 0, .int .i64 0] hbk rfl (fun j v hj => by cases j with | zero => (simp at hj; subst hj; simpa [Addr.add] using hx2) | succ j => simp at hj) (by simp) (by simp [Value.oneCell']) rfl)
    | ((with_reducible refine gate_builtin (b := .copy) (xs := #[.tmp 31, .tmp 32]) rfl ?_); refine Kd.event_run rfl (v := .int .i64 1) (w1 := w3) ?hr2 ?_; (case hr2 => go_simp; rw [hr3]; rfl)))
  refine wp_loop_rounds 3 ?_
  (try simp only [Exit.inBlock, Exit.then, if_true, if_false])
  rw [rounds_succ]
  go_wp2
  refine start_ (n := 10) (S := fun _ => True) (ds := []) #[Z,Z,Z,Z,Z,Z,Z,Z,Z,Z] (by kernel_rfl) rfl rfl trivial (fun hHeld => ?_)
  have hbk3' := xr hbk3
  generalize hwqw3 : w3.drew = w3q at hbk3' ⊢
  have HQw3 := xm hwqw3
  clear hwqw3
  refine pure_ (i := 0) (N := some 38) (v := ?_) (a' := ?_) #[Y,Z,Z,Z,Z,Z,Z,Z,Z,Z] rfl rfl (by kernel_rfl) (fun _ _ _ h => h) (Or.inl ⟨by rfl, ?_⟩) ?_ ?_
  rotate_left
  · intro w'
    go_simp
    with_reducible rfl
  rotate_left
  · simp only [Act.put, xi, xj, xk, i64_w, i32_w]
    rfl
  refine pure_ (i := 1) (N := some 39) (v := ?_) (a' := ?_) #[Y,Y,Z,Z,Z,Z,Z,Z,Z,Z] rfl rfl (by kernel_rfl) (fun _ _ _ h => h) (Or.inl ⟨by rfl, ?_⟩) ?_ ?_
  rotate_left
  · intro w'
    go_simp
    with_reducible rfl
  rotate_left
  · simp only [Act.put, xi, xj, xk, i64_w, i32_w]
    rfl
  refine pure_ (i := 2) (N := some 40) (v := ?_) (a' := ?_) #[Y,Y,Y,Z,Z,Z,Z,Z,Z,Z] rfl rfl (by kernel_rfl) (fun _ _ _ h => h) (Or.inl ⟨by rfl, ?_⟩) ?_ ?_
  rotate_left
  · intro w'
    go_simp
    with_reducible rfl
  rotate_left
  · simp only [Act.put, xi, xj, xk, i64_w, i32_w]
    rfl
  refine pure_ (i := 3) (N := some 41) (v := ?_) (a' := ?_) #[Y,Y,Y,Y,Z,Z,Z,Z,Z,Z] rfl rfl (by kernel_rfl) (fun _ _ _ h => h) (Or.inl ⟨by rfl, ?_⟩) ?_ ?_
  rotate_left
  · intro w'
    go_simp
    with_reducible rfl
  rotate_left
  · simp only [Act.put, xi, xj, xk, i64_w, i32_w]
    rfl
  refine pure_ (i := 4) (N := some 42) (v := ?_) (a' := ?_) #[Y,Y,Y,Y,Y,Z,Z,Z,Z,Z] rfl rfl (by kernel_rfl) (fun _ _ _ h => h) (Or.inl ⟨by rfl, ?_⟩) ?_ ?_
  rotate_left
  · intro w'
    go_simp
    with_reducible rfl
  rotate_left
  · simp only [Act.put, xi, xj, xk, i64_w, i32_w]
    rfl
  refine pure_ (i := 5) (N := some 43) (v := ?_) (a' := ?_) #[Y,Y,Y,Y,Y,Y,Z,Z,Z,Z] rfl rfl (by kernel_rfl) (fun _ _ _ h => h) (Or.inl ⟨by rfl, ?_⟩) ?_ ?_
  rotate_left
  · intro w'
    go_simp
    with_reducible rfl
  rotate_left
  · simp only [Act.put, xi, xj, xk, i64_w, i32_w]
    rfl
  refine pure_ (i := 6) (N := some 44) (v := ?_) (a' := ?_) #[Y,Y,Y,Y,Y,Y,Y,Z,Z,Z] rfl rfl (by kernel_rfl) (fun _ _ _ h => h) (Or.inl ⟨by rfl, ?_⟩) ?_ ?_
  rotate_left
  · intro w'
    go_simp
    with_reducible rfl
  rotate_left
  · simp only [Act.put, xi, xj, xk, i64_w, i32_w]
    rfl
  refine one_ (i := 7) (N := some 45) #[Y,Y,Y,Y,Y,Y,Y,Y,Z,Z] rfl rfl (by kernel_rfl) (by decide) (fun K hK => ?_)
  obtain ⟨w4, hrw4, hbkw4, hgw4⟩ := slices_Repeat_Lint_int.cpy w3q g 1 3 3 ⟨g, 0, none⟩ 1 4 _ [.int .i64 x] [.int .i64 x, .int .i64 x, .int .i64 0, .int .i64 0] hbk3' rfl (slices_Repeat_Lint_int.src_pre hbk3' 1 rfl) (by simp) (by simp [Value.oneCell']) rfl
  refine value_ (v := .int .i64 1) (w1 := w4) (by rfl) rfl (by first | (go_simp; done) | (go_simp; rw [hrw4, hrw4])) ?_
  refine hK.out _ _ trivial (fun hHeld => ?_)
  clear hK K
  refine norm_ (a' := ?_) ?_ ?_
  rotate_left
  · show Act.put _ (some 45) _ = _
    simp only [Act.put, xi, xj, xk, i64_w, i32_w]
    rfl
  refine pure_ (i := 8) (N := some 46) (v := ?_) (a' := ?_) #[Y,Y,Y,Y,Y,Y,Y,Y,Y,Z] rfl rfl (by kernel_rfl) (fun _ _ _ h => h) (Or.inl ⟨by rfl, ?_⟩) ?_ ?_
  rotate_left
  · intro w'
    go_simp
    with_reducible rfl
  rotate_left
  · simp only [Act.put, xi, xj, xk, i64_w, i32_w, slices_Repeat_Lint_int.wr2, slices_Repeat_Lint_int.wr4]
    rfl
  refine pure_ (i := 9) (N := some 8) (v := ?_) (a' := ?_) #[Y,Y,Y,Y,Y,Y,Y,Y,Y,Y] rfl rfl (by kernel_rfl) (fun _ _ _ h => h) (Or.inl ⟨by rfl, ?_⟩) ?_ ?_
  rotate_left
  · intro w'
    go_simp
    with_reducible rfl
  rotate_left
  · simp only [Act.put, xi, xj, xk, i64_w, i32_w]
    rfl
  refine done_ (by kernel_rfl) ?_
  (try simp only [Exit.inBlock, Exit.then, if_true, if_false])
  rw [rounds_succ]
  go_wp2
  refine start_ (n := 10) (S := fun _ => True) (ds := []) #[Z,Z,Z,Z,Z,Z,Z,Z,Z,Z] (by kernel_rfl) rfl rfl trivial (fun hHeld => ?_)
  have hbkw4' := xr hbkw4
  generalize hwqw4 : w4.drew = w4q at hbkw4' ⊢
  have HQw4 := xm hwqw4
  clear hwqw4
  refine pure_ (i := 0) (N := some 38) (v := ?_) (a' := ?_) #[Y,Z,Z,Z,Z,Z,Z,Z,Z,Z] rfl rfl (by kernel_rfl) (fun _ _ _ h => h) (Or.inl ⟨by rfl, ?_⟩) ?_ ?_
  rotate_left
  · intro w'
    go_simp
    with_reducible rfl
  rotate_left
  · simp only [Act.put, xi, xj, xk, i64_w, i32_w]
    rfl
  refine pure_ (i := 1) (N := some 39) (v := ?_) (a' := ?_) #[Y,Y,Z,Z,Z,Z,Z,Z,Z,Z] rfl rfl (by kernel_rfl) (fun _ _ _ h => h) (Or.inl ⟨by rfl, ?_⟩) ?_ ?_
  rotate_left
  · intro w'
    go_simp
    with_reducible rfl
  rotate_left
  · simp only [Act.put, xi, xj, xk, i64_w, i32_w]
    rfl
  refine pure_ (i := 2) (N := some 40) (v := ?_) (a' := ?_) #[Y,Y,Y,Z,Z,Z,Z,Z,Z,Z] rfl rfl (by kernel_rfl) (fun _ _ _ h => h) (Or.inl ⟨by rfl, ?_⟩) ?_ ?_
  rotate_left
  · intro w'
    go_simp
    with_reducible rfl
  rotate_left
  · simp only [Act.put, xi, xj, xk, i64_w, i32_w]
    rfl
  refine pure_ (i := 3) (N := some 41) (v := ?_) (a' := ?_) #[Y,Y,Y,Y,Z,Z,Z,Z,Z,Z] rfl rfl (by kernel_rfl) (fun _ _ _ h => h) (Or.inl ⟨by rfl, ?_⟩) ?_ ?_
  rotate_left
  · intro w'
    go_simp
    with_reducible rfl
  rotate_left
  · simp only [Act.put, xi, xj, xk, i64_w, i32_w]
    rfl
  refine pure_ (i := 4) (N := some 42) (v := ?_) (a' := ?_) #[Y,Y,Y,Y,Y,Z,Z,Z,Z,Z] rfl rfl (by kernel_rfl) (fun _ _ _ h => h) (Or.inl ⟨by rfl, ?_⟩) ?_ ?_
  rotate_left
  · intro w'
    go_simp
    with_reducible rfl
  rotate_left
  · simp only [Act.put, xi, xj, xk, i64_w, i32_w]
    rfl
  refine pure_ (i := 5) (N := some 43) (v := ?_) (a' := ?_) #[Y,Y,Y,Y,Y,Y,Z,Z,Z,Z] rfl rfl (by kernel_rfl) (fun _ _ _ h => h) (Or.inl ⟨by rfl, ?_⟩) ?_ ?_
  rotate_left
  · intro w'
    go_simp
    with_reducible rfl
  rotate_left
  · simp only [Act.put, xi, xj, xk, i64_w, i32_w]
    rfl
  refine pure_ (i := 6) (N := some 44) (v := ?_) (a' := ?_) #[Y,Y,Y,Y,Y,Y,Y,Z,Z,Z] rfl rfl (by kernel_rfl) (fun _ _ _ h => h) (Or.inl ⟨by rfl, ?_⟩) ?_ ?_
  rotate_left
  · intro w'
    go_simp
    with_reducible rfl
  rotate_left
  · simp only [Act.put, xi, xj, xk, i64_w, i32_w]
    rfl
  refine one_ (i := 7) (N := some 45) #[Y,Y,Y,Y,Y,Y,Y,Y,Z,Z] rfl rfl (by kernel_rfl) (by decide) (fun K hK => ?_)
  obtain ⟨w5, hrw5, hbkw5, hgw5⟩ := slices_Repeat_Lint_int.cpy w4q g 2 2 2 ⟨g, 0, none⟩ 2 4 _ [.int .i64 x, .int .i64 x] [.int .i64 x, .int .i64 x, .int .i64 x, .int .i64 x] hbkw4' rfl (slices_Repeat_Lint_int.src_pre hbkw4' 2 rfl) (by simp) (by simp [Value.oneCell']) rfl
  refine value_ (v := .int .i64 2) (w1 := w5) (by rfl) rfl (by first | (go_simp; done) | (go_simp; rw [hrw5, hrw5])) ?_
  refine hK.out _ _ trivial (fun hHeld => ?_)
  clear hK K
  refine norm_ (a' := ?_) ?_ ?_
  rotate_left
  · show Act.put _ (some 45) _ = _
    simp only [Act.put, xi, xj, xk, i64_w, i32_w]
    rfl
  refine pure_ (i := 8) (N := some 46) (v := ?_) (a' := ?_) #[Y,Y,Y,Y,Y,Y,Y,Y,Y,Z] rfl rfl (by kernel_rfl) (fun _ _ _ h => h) (Or.inl ⟨by rfl, ?_⟩) ?_ ?_
  rotate_left
  · intro w'
    go_simp
    with_reducible rfl
  rotate_left
  · simp only [Act.put, xi, xj, xk, i64_w, i32_w, slices_Repeat_Lint_int.wr2, slices_Repeat_Lint_int.wr4]
    rfl
  refine pure_ (i := 9) (N := some 8) (v := ?_) (a' := ?_) #[Y,Y,Y,Y,Y,Y,Y,Y,Y,Y] rfl rfl (by kernel_rfl) (fun _ _ _ h => h) (Or.inl ⟨by rfl, ?_⟩) ?_ ?_
  rotate_left
  · intro w'
    go_simp
    with_reducible rfl
  rotate_left
  · simp only [Act.put, xi, xj, xk, i64_w, i32_w]
    rfl
  refine done_ (by kernel_rfl) ?_
  (try simp only [Exit.inBlock, Exit.then, if_true, if_false])
  rw [rounds_succ]
  go_wp2
  go_ret
  refine ⟨.slice (some ⟨g, 0, none⟩) 4 4, rfl, ?_, ?_⟩
  · refine Kd.R_of_own (xs := [x, x, x, x]) ⟨rfl, .inr ⟨g, 4, _, rfl, ?_, hbkw5, by simp, by decide, rfl, rfl⟩⟩ (fun _ _ => trivial)
    rw [HG.out]; exact hb.size
  · have q3 : Below w.heap.size w w3 := (hb.trans (hb2.mono hb.size)).grown hg3 (Nat.le_trans hb.size hb2.size) (fun k hk => by cases hk; rw [HG.out]; exact hb.size)
    have q3' : Below w.heap.size w w3q := by rw [← HQw3.out]; exact below_drew q3
    have q4 : Below w.heap.size w w4 := q3'.grown hgw4 q3'.size (fun k hk => by cases hk; rw [HG.out]; exact hb.size)
    have q4' : Below w.heap.size w w4q := by rw [← HQw4.out]; exact below_drew q4
    exact q4'.grown hgw5 q4'.size (fun k hk => by cases hk; rw [HG.out]; exact hb.size)
theorem slices_Repeat_Lint_int.calls (A0 : Option Addr) (c0 : Nat) (l0 : List Int) (a1 : Int) (r : List Int) (w : World) (hr0 : Kd.C (Kd.int .i64) w A0 l0.length l0) (hc0 : l0.length ≤ c0) (h : slices_Repeat_Lint_int.f l0 a1 = some r) :
    Calls Try.prog 35 #[.slice A0 l0.length c0, .int .i64 a1] w fun e w' => ∃ v0_ : Value, e = .returned (v0_) ∧ Kd.R (Kd.int .i64) 3 w' w.heap.size (fun _ => True) v0_ r ∧ Below w.heap.size w w' := by
  have H : (if l0.length = 1 then (if a1 = 4 then some [rd l0 0, rd l0 0, rd l0 0, rd l0 0] else none) else none) = some r := h
  by_cases h1 : l0.length = 1
  · rw [if_pos h1] at H
    by_cases h2 : a1 = 4
    · rw [if_pos h2] at H
      subst h2
      obtain rfl := Option.some.inj H
      obtain ⟨ad, rfl, hx⟩ := Kd.at_int hr0 0 (by omega) (by omega)
      rw [h1]
      exact slices_Repeat_Lint_int.one (rd l0 0) ad c0 w (by simpa [Addr.add] using hx) (fun w2 => math_bits_Mul.calls 1 4 0 4 w2 (by decide +kernel))
    · rw [if_neg h2] at H; cases H
  · rw [if_neg h1] at H; cases H

end Go.Proofs.Ytmelechhnimlnab.G
