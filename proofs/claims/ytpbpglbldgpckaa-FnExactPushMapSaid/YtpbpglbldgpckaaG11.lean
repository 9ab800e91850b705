/- Written by a program of this claim's own, out of the translation: functions of the program as plain functions, and that the calls answer as these. No conditions. -/
import Derived.Test.YtpbpglbldgpckaaG0
import Derived.Test.YtpbpglbldgpckaaG9
namespace Go.Proofs.Ytpbpglbldgpckaa.G
open Go.RowKit Go.Proofs.Ytpbpglbldgpckaa.X Go.Proofs.YtpbpglbldgpckaaW.PrintWords Go.Proofs.YtpbpglbldgpckaaW.PrintLast Go.Proofs.YtpbpglbldgpckaaW.PrintMore
attribute [local go_sem] max2_int min2_int max_two min_two max_three min_three max_four min_four   -- for this text's walks alone
set_option linter.unusedVariables false
set_option linter.unusedSimpArgs false

/-! ### impl_Window_push: function 105 -/
section
variable {P : Program} {ops : Array Oper} {o : Oper} {a : Act} {Q : Exit → Act → World → Prop} {K : Act → World → Prop} {N : Option Tmp}
theorem win.build {W : World} (hw : Region.wanted o (yielded ops a.tmps) = true) (hN : o.dst = N) {cs : Array Value} {t : TypeId}
  (hrun : (execOp a.eval o).run P W = .ok (.value (.slice (some ⟨W.heap.size, 0, none⟩) 1 1)) (W.alloc (.cells cs t (0, 0))))
  (h : ∀ gs w1, gs = W.heap.size → w1.heap[gs]? = some (.cells cs t (0, 0)) → Below W.heap.size W w1 → K (a.put N (.slice (some ⟨gs, 0, none⟩) 1 1)) w1) :
  if Region.wanted o (yielded ops a.tmps) = true then Oper.wp P o a W K Q else K (a.put N undef) W :=
 value_ hw hN hrun (h _ _ rfl (blk_new W _) (xa (Below.refl _ _) _))
theorem win.append {α : Type} (d : Kd α) {W : World} (base : Nat) (hw : Region.wanted o (yielded ops a.tmps) = true) (hN : o.dst = N) (s x : Operand) (t e : TypeId) (z : Value) (bytes : Nat)
  (ho : o.op = .call { callee := .builtin .append, args := #[s, x], argTypes := #[t, t] })
  (ht : P.underlying t = some (.slice e)) (hinfo : (P.info? e).map (fun i => (i.zero, i.size, i.bytes)) = some (some z, d.sz, bytes)) (hz : z.cells.size = d.sz) (hs0 : 0 < d.sz) (hb0 : 0 < bytes)
  (v : Value) (xs : List α) (p : α) (cs : List Value) (ok okp : Nat → Prop) (gs : Nat) (hs : a.eval s = v) (hx : a.eval x = .slice (some ⟨gs, 0, none⟩) 1 1) (hgs : W.heap[gs]? = some (.cells cs.toArray e (0, 0)))
  (hp : d.M W base okp p cs) (hokp : ∀ k, okp k → ok k ∧ some k ≠ v.ownBlock) (hfresh : ∀ k, W.heap.size ≤ k → ok k)
  (HO : d.R e W base ok v xs) (hbase : base ≤ W.heap.size) (hl : (xs.length + 1) * bytes ≤ 140737488355328)
  (h : ∀ v1 w1, d.R e w1 base ok v1 (xs ++ [p]) → W.grownBy w1 v.ownBlock → (v1.ownBlock = v.ownBlock ∨ v1.ownBlock = some W.heap.size) → K (a.put N v1) w1) :
  if Region.wanted o (yielded ops a.tmps) = true then Oper.wp P o a W K Q else K (a.put N undef) W := by
 obtain ⟨i0, hi, hzz⟩ := Option.map_eq_some_iff.1 hinfo
 simp only [Prod.mk.injEq] at hzz
 obtain ⟨hz0, hz1, hz2⟩ := hzz
 obtain ⟨h0, inner, hown, hr⟩ := HO
 have hlen : xs.length + 1 ≤ 140737488355328 := Nat.le_trans (Nat.le_mul_of_pos_right _ hb0) hl
 obtain ⟨v1, w1, hrun, hown1, hg, _, hat⟩ := run_append_own_at (P := P) W base t o.type e i0 z d.sz bytes ht hi hz0 hz1 hz2 hz hs0 v xs.length inner hown ⟨gs, 0, none⟩ 1 1 cs (by rw [d.K_len (d.K_of_M hp)]; simp)
  (by simpa using World.news_of_block hgs) (d.K_one (d.K_of_M hp)) (by simp only [maxLen]; omega) hl hbase
 have hat' : v1.ownBlock = v.ownBlock ∨ ∃ b, v1.ownBlock = some b ∧ W.heap.size ≤ b := by
  rcases hat with hat | hat
  ·exact .inl hat
  ·exact .inr ⟨_, hat, Nat.le_refl _⟩
 refine value_ hw hN (v := v1) (w1 := w1) ?_ (h v1 w1 (Kd.R_appended h0 hr hp hokp hfresh hown1 hg hat') hg hat)
 unfold execOp
 simp only [ho, resolve, invoke, builtin, Sem.run_bind, Sem.run_pure, Result.andThen_ok, List.map_toArray, List.map_cons, List.map_nil, hs, hx, hrun]
end
/-- A window in memory: its block g, its three rows; all these blocks lie in Pw. -/
structure WinAt (W : World) (base g : Nat) (Pw : Nat → Prop) (F S B : List S51) (a b : Int) : Prop where
 ex : ∃ vf vs vb : Value, W.heap[g]? = some (.cells #[vf, vs, vb, .int .i64 a, .int .i64 b] 53 (0, 0)) ∧
  Kd.R k51 51 W base (fun k => some k = vf.ownBlock) vf F ∧ Kd.R k51 51 W base (fun k => some k = vs.ownBlock) vs S ∧ Kd.R k51 51 W base (fun k => some k = vb.ownBlock) vb B ∧
  (∀ k, some k = vf.ownBlock → some k ≠ vs.ownBlock ∧ some k ≠ vb.ownBlock ∧ k ≠ g ∧ Pw k) ∧ (∀ k, some k = vs.ownBlock → some k ≠ vb.ownBlock ∧ k ≠ g ∧ Pw k) ∧ (∀ k, some k = vb.ownBlock → k ≠ g ∧ Pw k)
 inn : Pw g ∧ base ≤ g
theorem Kd.R_own {w : World} {base : Nat} {ok : Nat → Prop} {v : Value} {xs : List S51} (h : Kd.R k51 51 w base ok v xs) : Kd.R k51 51 w base (fun k => some k = v.ownBlock) v xs :=
 Kd.R_mono (Kd.R_tight2 rfl h) (fun k hk => hk.1)
theorem own_or {v v0 : Value} {n : Nat} (h : v.ownBlock = v0.ownBlock ∨ ∃ q, v.ownBlock = some q ∧ n ≤ q) : ∀ k, some k = v.ownBlock → some k = v0.ownBlock ∨ n ≤ k := by
 intro k hk
 rcases h with h | ⟨q, h, hq⟩
 ·exact .inl (hk.trans h)
 ·rw [h] at hk; injection hk with hk; exact .inr (by omega)
theorem grown_kept {W w1 : World} {v : Value} (h : W.grownBy w1 v.ownBlock) : Kept W w1 (fun k => some k = v.ownBlock) := ⟨h.size, fun k hk hne => h.block k hk hne⟩
theorem blk_cells5 {w : World} {g t : Nat} {a0 a1 a2 a3 a4 : Value} (h : w.heap[g]? = some (.cells #[a0, a1, a2, a3, a4] t (0, 0))) :
  w.cell? ⟨g, 0, none⟩ = some a0 ∧ w.cell? ⟨g, 1, none⟩ = some a1 ∧ w.cell? ⟨g, 2, none⟩ = some a2 ∧ w.cell? ⟨g, 3, none⟩ = some a3 ∧ w.cell? ⟨g, 4, none⟩ = some a4 ∧ w.frozen? ⟨g, 2, none⟩ = false ∧ w.frozen? ⟨g, 3, none⟩ = false ∧ w.frozen? ⟨g, 4, none⟩ = false :=
 ⟨(xc h 0).trans rfl, (xc h 1).trans rfl, (xc h 2).trans rfl, (xc h 3).trans rfl, (xc h 4).trans rfl, xf h 2, xf h 3, xf h 4⟩
set_option maxHeartbeats 8000000 in
set_option maxRecDepth 100000 in
theorem impl_Window_push.calls (g base : Nat) (Pw : Nat → Prop) (F S B : List S51) (a b m0 m1 r0 r1 : Int) (w : World) (hW : WinAt w base g Pw F S B a b) (hl : B.length < 8796093022208) (h : impl_Map_then.f a b m0 m1 = some (r0, r1)) :
  Calls Try.prog 105 #[.pointer (some ⟨g, 0, none⟩), .agg #[.int .i64 m0, .int .i64 m1]] w fun e w' => e = .returned (.tuple #[]) ∧ Below base w w' ∧ Kept w w' Pw ∧ WinAt w' base g (fun k => Pw k ∨ w.heap.size ≤ k) F S (B ++ [⟨m0, m1⟩]) r0 r1 := by
 obtain ⟨⟨vf, vs, vb, hg, hf, hs, hb, dF, dS, dB⟩, hin, hbg⟩ := hW
 have hu53 := Try.underlying53
 have hu51 := Try.underlying51
 have HL := xm hl
 have HT := xm h
 have DF := xm dF
 have DS := xm dS
 have DB := xm dB
 have HIN := xm hin
 have HBG := xm hbg
 have hlt := blk_lt hg
 have HLT := xm hlt
 obtain ⟨Ab, cb, rfl⟩ := Kd.R_slice hb
 clear hl h dF dS dB hin hbg hlt
 have HG := xm hg
 have HF := xm hf
 have HS := xm hs
 have HV := xm hb
 clear hg hf hs hb
 go_enter Try.func105, Try.ntmps105
 go_wp2_with ((with_reducible refine gate_dst (N := 3) rfl ?_); refine box_event ?hg (N := 3) ?hd (cs := #[.int .i64 m0, .int .i64 m1]) (t := 51) ?hr ?_; (case hd => rfl); (case hg => rfl); (case hr => exact zB); intro gb hgb w1 hbox hbb; have HGB := xm hgb; have HM := xm hbox; have HK := xm hbb; clear hgb hbox hbb)
 have hG1 := xr (blk_below HG.out HK.out)
 have hM1 := xr HM.out
 have hB1 : Below w.heap.size w w1.drew := below_drew HK.out
 have zz : w1.drew.heap.size = w1.heap.size := rfl
 refine start_ (n := 21) (S := fun w' => (w'.cell? ⟨g, 0, none⟩ = some vf ∧ w'.cell? ⟨g, 1, none⟩ = some vs ∧ w'.cell? ⟨g, 2, none⟩ = some (.slice Ab B.length cb) ∧ w'.cell? ⟨g, 3, none⟩ = some (.int .i64 a) ∧ w'.cell? ⟨g, 4, none⟩ = some (.int .i64 b) ∧ w'.cell? ⟨gb, 0, none⟩ = some (.int .i64 m0) ∧ w'.cell? ⟨gb, 1, none⟩ = some (.int .i64 m1))) (ds := [17, 20]) #[Z,Z,Z,Z,Z,Z,Z,Z,Z,Z,Z,Z,Z,Z,Z,Z,Z,Z,Z,Z,Z] (by kernel_rfl) rfl rfl ⟨(xc hG1 0).trans rfl, (xc hG1 1).trans rfl, (xc hG1 2).trans rfl, (xc hG1 3).trans rfl, (xc hG1 4).trans rfl, (xc hM1 0).trans rfl, (xc hM1 1).trans rfl⟩ (fun hHeld => ?_)
 have HZ := xm zz
 clear zz
 have HG' := xm hG1
 have HM' := xm hM1
 have HB := xm hB1
 clear HG HM hG1 hM1 hB1 HK
 generalize w1.drew = w2 at HG' HM' HB HZ hHeld ⊢
 refine px 0 21 1 (by kernel_rfl) ?_
 refine px 1 21 3 (by kernel_rfl) ?_
 refine px 2 21 7 (by kernel_rfl) ?_
 refine px 3 21 15 (by kernel_rfl) ?_
 refine px 4 21 31 (by kernel_rfl) ?_
 refine tx 5 21 63 rfl rfl (by kernel_rfl) hHeld (by rintro w' ⟨s0, s1, s2, s3, s4, s5, s6⟩; go_simp; with_reducible rfl) ?_
 refine tx 6 21 127 rfl rfl (by kernel_rfl) hHeld (by rintro w' ⟨s0, s1, s2, s3, s4, s5, s6⟩; go_simp; with_reducible rfl) ?_
 refine px 9 21 639 (by kernel_rfl) ?_
 refine px 10 21 1663 (by kernel_rfl) ?_
 refine px 11 21 3711 (by kernel_rfl) ?_
 refine tx 12 21 7807 rfl rfl (by kernel_rfl) hHeld (by rintro w' ⟨s0, s1, s2, s3, s4, s5, s6⟩; go_simp; with_reducible rfl) ?_
 refine tx 13 21 15999 rfl rfl (by kernel_rfl) hHeld (by rintro w' ⟨s0, s1, s2, s3, s4, s5, s6⟩; go_simp; with_reducible rfl) ?_
 clear hHeld
 refine one_ (i := 7) (N := some 11) #[Y,Y,Y,Y,Y,Y,Y,Y,Z,Y,Y,Y,Y,Y,Z,Z,Z,Z,Z,Z,Z] rfl rfl (by kernel_rfl) (by decide) (fun K hK => ?_)
 refine win.build (by rfl) rfl (cs := #[.int .i64 m0, .int .i64 m1]) (t := 51) zB ?_
 intro gs w3 hgs hnw hbl
 have hG1 := blk_below HG'.out hbl
 have hM1 := blk_below HM'.out hbl
 have n0_ := xm hG1
 have n1_ := xm hM1
 have n2_ := xm (below_step HB.out hbl)
 have HN := xm hnw
 clear HG' HM' HB hgs hnw hbl
 have HG' := n0_
 have HM' := n1_
 have HB := n2_
 clear n0_ n1_ n2_
 refine hK.out _ _ ⟨(xc HG'.out 0).trans rfl, (xc HG'.out 1).trans rfl, (xc HG'.out 2).trans rfl, (xc HG'.out 3).trans rfl, (xc HG'.out 4).trans rfl, (xc HM'.out 0).trans rfl, (xc HM'.out 1).trans rfl⟩ (fun hHeld => ?_)
 clear hK K
 refine norm_ (a' := ?_) ?_ ?_
 rotate_left
 ·show Act.put _ (some 11) _ = _
  simp only [Act.put, xi, xj, xk, i64_w, i32_w]
  rfl
 refine one_ (i := 8) (N := some 12) #[Y,Y,Y,Y,Y,Y,Y,Y,Y,Y,Y,Y,Y,Y,Z,Z,Z,Z,Z,Z,Z] rfl rfl (by kernel_rfl) (by decide) (fun K hK => ?_)
 refine win.append k51 base (by rfl) rfl (.tmp 9) (.tmp 11) 50 51 (.agg #[(.int .i64 0), (.int .i64 0)]) 16 rfl Try.underlying50 info51 rfl (by decide) (by omega) (.slice Ab B.length cb) B ⟨m0, m1⟩ [.int .i64 m0, .int .i64 m1] (fun k => some k = (Value.slice Ab B.length cb).ownBlock ∨ w.heap.size ≤ k) (fun _ => False) gs rfl rfl HN.out (k51_mkM _ _ _ ⟨m0, m1⟩) (fun _ hk => hk.elim) (fun k hk => .inr (Nat.le_trans HB.out.size hk)) (Kd.R_mono (Kd.R_below HV.out HB.out) (fun _ hk => .inl hk)) (Nat.le_trans (Nat.le_of_lt (Nat.lt_of_le_of_lt HBG.out HLT.out)) HB.out.size) (by have := HL.out; omega) ?_
 intro v1 w4 hR1 hgr hat
 obtain ⟨A1, c1, rfl⟩ := Kd.R_slice hR1
 have hgne : some g ≠ (Value.slice Ab B.length cb).ownBlock := fun he => (DB.out g he).1 rfl
 have hmne : some gb ≠ (Value.slice Ab B.length cb).ownBlock := fun he => by have := Kd.R_lt HV.out gb he.symm; have := HGB.out; omega
 have n0_ := xm ((hgr.block g (blk_lt HG'.out) hgne).trans HG'.out)
 have n1_ := xm ((hgr.block gb (blk_lt HM'.out) hmne).trans HM'.out)
 have HA := xm hR1
 have HX := xm (Kept.of_grown hgr (Kept.of_below HB.out (fun k => some k = (Value.slice Ab B.length cb).ownBlock)) (fun k hk => .inl hk.symm))
 have HY := xm (Nat.le_trans HB.out.size hgr.size)
 have HO_ := xm (show Below base w w4 from (HB.out.mono (Nat.le_of_lt (Nat.lt_of_le_of_lt HBG.out HLT.out))).grown hgr (Nat.le_trans (Nat.le_of_lt (Nat.lt_of_le_of_lt HBG.out HLT.out)) HB.out.size) (fun k hk => Kd.R_base HV.out k hk))
 have HAT := xm (show (Value.slice A1 (B ++ [(⟨m0, m1⟩ : S51)]).length c1).ownBlock = (Value.slice Ab B.length cb).ownBlock ∨ ∃ q, (Value.slice A1 (B ++ [(⟨m0, m1⟩ : S51)]).length c1).ownBlock = some q ∧ w.heap.size ≤ q from hat.elim (fun h => .inl h) (fun h => .inr ⟨_, h, HB.out.size⟩))
 clear HG' HM' hR1 hgr hat hgne hmne HN
 have HG' := n0_
 have HM' := n1_
 clear n0_ n1_ HB
 refine hK.out _ _ ⟨(xc HG'.out 0).trans rfl, (xc HG'.out 1).trans rfl, (xc HG'.out 2).trans rfl, (xc HG'.out 3).trans rfl, (xc HG'.out 4).trans rfl, (xc HM'.out 0).trans rfl, (xc HM'.out 1).trans rfl⟩ (fun hHeld => ?_)
 clear hK K
 refine norm_ (a' := ?_) ?_ ?_
 rotate_left
 ·show Act.put _ (some 12) _ = _
  simp only [Act.put, xi, xj, xk, i64_w, i32_w]
  rfl
 refine one_ (i := 14) (N := some 18) #[Y,Y,Y,Y,Y,Y,Y,Y,Y,Y,Y,Y,Y,Y,Y,Z,Z,Z,Z,Z,Z] rfl rfl (by kernel_rfl) (by decide) (fun K hK => ?_)
 refine goes_ Try.func151 (by kernel_rfl) rfl #[.agg #[.int .i64 a, .int .i64 b], .agg #[.int .i64 m0, .int .i64 m1]] (by rfl) rfl rfl mB ?_
 refine (impl_Map_then.calls a b m0 m1 r0 r1 _ HT.out).mono ?_
 rintro e w5 ⟨rfl, hbl⟩
 refine ⟨_, rfl, ?_⟩
 have n0_ := xm (blk_below HG'.out hbl)
 have n1_ := xm (blk_below HM'.out hbl)
 have n2_ := xm (Kd.R_below HA.out hbl)
 have n3_ := xm (HX.out.below hbl)
 have n4_ := xm (Nat.le_trans HY.out hbl.size)
 have n5_ := xm (below_then HO_.out (Nat.le_trans (Nat.le_of_lt (Nat.lt_of_le_of_lt HBG.out HLT.out)) HY.out) hbl)
 clear HG' HM' HA HX HY HO_ hbl
 have HO_ := n5_
 have HG' := n0_
 have HM' := n1_
 have HA := n2_
 have HX := n3_
 have HY := n4_
 clear n0_ n1_ n2_ n3_ n4_ n5_
 refine hK.out _ _ ⟨(xc HG'.out 0).trans rfl, (xc HG'.out 1).trans rfl, (xc HG'.out 2).trans rfl, (xc HG'.out 3).trans rfl, (xc HG'.out 4).trans rfl, (xc HM'.out 0).trans rfl, (xc HM'.out 1).trans rfl⟩ (fun hHeld => ?_)
 clear hK K
 refine norm_ (a' := ?_) ?_ ?_
 rotate_left
 ·show Act.put _ (some 18) _ = _
  simp only [Act.put, xi, xj, xk, i64_w, i32_w]
  rfl
 have hc0 := blk_cells5 HG'.out
 obtain ⟨hc0, hc1, hc2, hc3, hc4, hf2, hf3, hf4⟩ := hc0
 refine px 15 21 65535 (by kernel_rfl) ?_
 refine px 16 21 131071 (by kernel_rfl) ?_
 refine last_ (i := 17) (N := none) #[Y,Y,Y,Y,Y,Y,Y,Y,Y,Y,Y,Y,Y,Y,Y,Y,Y,Y,Z,Z,Z] rfl rfl (by kernel_rfl) (by decide) (fun K hK => ?_)
 refine skip_ (by rfl) rfl (w1 := w5.setCell ⟨g, 2, none⟩ (.slice A1 (B ++ [(⟨m0, m1⟩ : S51)]).length c1)) zB ?_
 refine hK.out _ _ ?_
 clear hK K
 have hG2 := blk_set HG'.out 2 (.slice A1 (B ++ [(⟨m0, m1⟩ : S51)]).length c1)
 simp only [xi, xj, xk] at hG2
 have hc3' := (xc hG2 3).trans rfl
 have hc4' := (xc hG2 4).trans rfl
 have hf3' := xf hG2 3
 have hf4' := xf hG2 4
 refine px 18 21 524287 (by kernel_rfl) ?_
 refine px 19 21 1048575 (by kernel_rfl) ?_
 refine last_ (i := 20) (N := none) #[Y,Y,Y,Y,Y,Y,Y,Y,Y,Y,Y,Y,Y,Y,Y,Y,Y,Y,Y,Y,Y] rfl rfl (by kernel_rfl) (by decide) (fun K hK => ?_)
 refine skip_ (by rfl) rfl (w1 := ((w5.setCell ⟨g, 2, none⟩ (.slice A1 (B ++ [(⟨m0, m1⟩ : S51)]).length c1)).setCell ⟨g, 3, none⟩ (.int .i64 r0)).setCell ⟨g, 4, none⟩ (.int .i64 r1)) zB ?_
 refine hK.out _ _ ?_
 clear hK K
 refine done_ (by kernel_rfl) ?_
 clear hc0 hc1 hc2 hc3 hc4 hf2 hf3 hf4 hc3' hc4' hf3' hf4' hG2
 refine bodyPost_end (results_none rfl _ _ _) rfl ?_
 have hlt := HLT.out
 have hgB := HBG.out
 have far : ∀ {v : Value} {xs : List S51} {ok : Nat → Prop}, Kd.R k51 51 w5 base ok v xs → (∀ k, ok k → k ≠ g) → Kd.R k51 51 (((w5.setCell ⟨g, 2, none⟩ (.slice A1 (B ++ [(⟨m0, m1⟩ : S51)]).length c1 : Value)).setCell ⟨g, 3, none⟩ (.int .i64 r0)).setCell ⟨g, 4, none⟩ (.int .i64 r1)) base ok v xs := fun h hk => Kd.R_far (p := ⟨g, 4, none⟩) (Kd.R_far (p := ⟨g, 3, none⟩) (Kd.R_far (p := ⟨g, 2, none⟩) h hk _) hk _) hk _
 have own1 := own_or HAT.out
 refine ⟨rfl, ((HO_.out.setCell (p := ⟨g, 2, none⟩) hgB _).setCell (p := ⟨g, 3, none⟩) hgB _).setCell (p := ⟨g, 4, none⟩) hgB _, (((HX.out.mono (fun k hk => (DB.out k hk).2)).setCell (p := ⟨g, 2, none⟩) (.inl HIN.out) _).setCell (p := ⟨g, 3, none⟩) (.inl HIN.out) _).setCell (p := ⟨g, 4, none⟩) (.inl HIN.out) _, ⟨⟨vf, vs, _, ?_, far (Kd.R_kept HF.out HX.out (fun k hk => (DF.out k hk).2.1)) (fun k hk => (DF.out k hk).2.2.1), far (Kd.R_kept HS.out HX.out (fun k hk => (DS.out k hk).1)) (fun k hk => (DS.out k hk).2.1), far (Kd.R_own HA.out) ?_, ?_, ?_, ?_⟩, .inl HIN.out, hgB⟩⟩
 ·have h := blk_set (blk_set (blk_set HG'.out 2 (.slice A1 (B ++ [(⟨m0, m1⟩ : S51)]).length c1 : Value)) 3 (.int .i64 r0)) 4 (.int .i64 r1)
  simpa only [xi, xj, xk] using h
 ·exact fun k hk => (own1 k hk).elim (fun h => (DB.out k h).1) (fun h => by omega)
 ·exact fun k hk => ⟨(DF.out k hk).1, fun h => (own1 k h).elim (fun h => (DF.out k hk).2.1 h) (fun h => by have := Kd.R_lt HF.out k hk.symm; omega), (DF.out k hk).2.2.1, .inl (DF.out k hk).2.2.2⟩
 ·exact fun k hk => ⟨fun h => (own1 k h).elim (fun h => (DS.out k hk).1 h) (fun h => by have := Kd.R_lt HS.out k hk.symm; omega), (DS.out k hk).2.1, .inl (DS.out k hk).2.2⟩
 ·exact fun k hk => ⟨(own1 k hk).elim (fun h => (DB.out k h).1) (fun h => by omega), (own1 k hk).elim (fun h => .inl (DB.out k h).2) (fun h => .inr h)⟩
/-- The rows of a window, each with its value. -/
structure WinV (W : World) (base g : Nat) (Pw : Nat → Prop) (vf vs vb : Value) (F S B : List S51) (a b : Int) : Prop where
 blk : W.heap[g]? = some (.cells #[vf, vs, vb, .int .i64 a, .int .i64 b] 53 (0, 0))
 rf : Kd.R k51 51 W base (fun k => some k = vf.ownBlock) vf F
 rs : Kd.R k51 51 W base (fun k => some k = vs.ownBlock) vs S
 rb : Kd.R k51 51 W base (fun k => some k = vb.ownBlock) vb B
 df : ∀ k, some k = vf.ownBlock → some k ≠ vs.ownBlock ∧ some k ≠ vb.ownBlock ∧ k ≠ g ∧ Pw k
 ds : ∀ k, some k = vs.ownBlock → some k ≠ vb.ownBlock ∧ k ≠ g ∧ Pw k
 db : ∀ k, some k = vb.ownBlock → k ≠ g ∧ Pw k
 inn : Pw g
 ge : base ≤ g
theorem WinV.at {W : World} {base g : Nat} {Pw : Nat → Prop} {vf vs vb : Value} {F S B : List S51} {a b : Int} (h : WinV W base g Pw vf vs vb F S B a b) : WinAt W base g Pw F S B a b :=
 ⟨⟨vf, vs, vb, h.blk, h.rf, h.rs, h.rb, h.df, h.ds, h.db⟩, h.inn, h.ge⟩
theorem WinAt.v {W : World} {base g : Nat} {Pw : Nat → Prop} {F S B : List S51} {a b : Int} (h : WinAt W base g Pw F S B a b) : ∃ vf vs vb, WinV W base g Pw vf vs vb F S B a b := by
 obtain ⟨⟨vf, vs, vb, h1, h2, h3, h4, h5, h6, h7⟩, h8, h9⟩ := h
 exact ⟨vf, vs, vb, h1, h2, h3, h4, h5, h6, h7, h8, h9⟩
theorem WinV.below {W W2 : World} {base g : Nat} {Pw : Nat → Prop} {vf vs vb : Value} {F S B : List S51} {a b : Int} (h : WinV W base g Pw vf vs vb F S B a b) (hb : Below W.heap.size W W2) : WinV W2 base g Pw vf vs vb F S B a b :=
 ⟨blk_below h.blk hb, Kd.R_below h.rf hb, Kd.R_below h.rs hb, Kd.R_below h.rb hb, h.df, h.ds, h.db, h.inn, h.ge⟩
theorem WinV.mono {W : World} {base g : Nat} {Pw Pw' : Nat → Prop} {vf vs vb : Value} {F S B : List S51} {a b : Int} (h : WinV W base g Pw vf vs vb F S B a b) (hp : ∀ k, Pw k → Pw' k) : WinV W base g Pw' vf vs vb F S B a b :=
 ⟨h.blk, h.rf, h.rs, h.rb, fun k hk => ⟨(h.df k hk).1, (h.df k hk).2.1, (h.df k hk).2.2.1, hp k (h.df k hk).2.2.2⟩, fun k hk => ⟨(h.ds k hk).1, (h.ds k hk).2.1, hp k (h.ds k hk).2.2⟩, fun k hk => ⟨(h.db k hk).1, hp k (h.db k hk).2⟩, hp g h.inn, h.ge⟩
/-- The window's block takes other values: the rows are told anew. -/
theorem WinV.cells {W : World} {base g : Nat} {Pw : Nat → Prop} {vf vs vb : Value} {F S B : List S51} {a b : Int} (h : WinV W base g Pw vf vs vb F S B a b) :
  W.cell? ⟨g, 0, none⟩ = some vf ∧ W.cell? ⟨g, 1, none⟩ = some vs ∧ W.cell? ⟨g, 2, none⟩ = some vb ∧ W.cell? ⟨g, 3, none⟩ = some (.int .i64 a) ∧ W.cell? ⟨g, 4, none⟩ = some (.int .i64 b) :=
 ⟨(xc h.blk 0).trans rfl, (xc h.blk 1).trans rfl, (xc h.blk 2).trans rfl, (xc h.blk 3).trans rfl, (xc h.blk 4).trans rfl⟩
theorem WinV.free {W : World} {base g : Nat} {Pw : Nat → Prop} {vf vs vb : Value} {F S B : List S51} {a b : Int} (h : WinV W base g Pw vf vs vb F S B a b) :
  W.frozen? ⟨g, 0, none⟩ = false ∧ W.frozen? ⟨g, 1, none⟩ = false ∧ W.frozen? ⟨g, 2, none⟩ = false ∧ W.frozen? ⟨g, 3, none⟩ = false ∧ W.frozen? ⟨g, 4, none⟩ = false := ⟨xf h.blk 0, xf h.blk 1, xf h.blk 2, xf h.blk 3, xf h.blk 4⟩
theorem R_at51 {W : World} {base n c : Nat} {ok : Nat → Prop} {ad : Addr} {xs : List S51} (h : Kd.R k51 51 W base ok (.slice (some ad) n c) xs) (i : Int) (h0 : 0 ≤ i) (h1 : i < xs.length) :
  W.cell? (ad.add (i.toNat * 2)) = some (.int .i64 (rd_T51 xs i).f0) ∧ W.cell? ⟨(ad.add (i.toNat * 2)).block, (ad.add (i.toNat * 2)).off + 1, none⟩ = some (.int .i64 (rd_T51 xs i).f1) := by
 obtain ⟨ad', e, h2, h3⟩ := at_T51 (Kd.R_reads' h).2.2 i h0 h1
 cases e
 exact ⟨h2, h3⟩
theorem WinV.far {W : World} {base g : Nat} {Pw : Nat → Prop} {vf vs vb : Value} {F S B : List S51} {a b : Int} (h : WinV W base g Pw vf vs vb F S B a b) {g2 : Nat} (hg : g2 ≠ g)
  (hne : ∀ k, some k = vf.ownBlock ∨ some k = vs.ownBlock ∨ some k = vb.ownBlock → k ≠ g2) (i : Nat) (u : Value) : WinV (W.setCell ⟨g2, i, none⟩ u) base g Pw vf vs vb F S B a b :=
 ⟨blk_far (p := ⟨g2, i, none⟩) h.blk (Ne.symm hg) u, Kd.R_far (p := ⟨g2, i, none⟩) h.rf (fun k hk => hne k (.inl hk)) u, Kd.R_far (p := ⟨g2, i, none⟩) h.rs (fun k hk => hne k (.inr (.inl hk))) u, Kd.R_far (p := ⟨g2, i, none⟩) h.rb (fun k hk => hne k (.inr (.inr hk))) u, h.df, h.ds, h.db, h.inn, h.ge⟩

/-! ### slices_Clone_Limpl_Map_impl_Map: function 114 -/
def slices_Clone_Limpl_Map_impl_Map.f (l0 : List S51) : Option (List S51) := if l0.length < 8796093022208 then some l0 else none
set_option maxHeartbeats 8000000 in
set_option maxRecDepth 100000 in
theorem slices_Clone_Limpl_Map_impl_Map.calls (A0 : Option Addr) (c0 : Nat) (l0 : List S51) (r : List S51) (w : World) (hr0 : Kd.C k51 w A0 l0.length l0) (hc0 : l0.length ≤ c0) (h : slices_Clone_Limpl_Map_impl_Map.f l0 = some r) :
  Calls Try.prog 114 #[.slice A0 l0.length c0] w fun e w' => ∃ v0_ : Value, e = .returned (v0_) ∧ Kd.R k51 51 w' w.heap.size (fun _ => True) v0_ r ∧ Below w.heap.size w w' := by
 have HR0 := xm hr0
 have hln := hr0.2.2
 have h : (if l0.length < 8796093022208 then some l0 else none) = some r := h
 by_cases c2 : l0.length < 8796093022208
 case neg => rw [if_neg c2] at h; cases h
 rw [if_pos c2] at h
 obtain rfl := Option.some.inj h
 have LM := xm c2
 have q4 : ∀ (w : World) (a : Option Addr) (n c : Nat), (binOp .eql 50 (.slice a n c) (.slice none 0 0)).run Try.prog w = .ok (.bool a.isNone) w := fun w a n c => eql_nil Try.underlying50 w a n c
 clear c2 h hr0 hc0
 cases A0 with
 | none =>
  obtain rfl : l0 = [] := by
   cases l0 with
   | nil => rfl
   | cons x xs => obtain ⟨ad, e, _⟩ := hln (Nat.succ_pos _); cases e
  clear hln
  go_enter Try.func114, Try.ntmps114
  go_wp2
  go_ret
  exact ⟨_, rfl, Kd.R_nil _ _ _ _ _, Below.refl _ _⟩
 | some a =>
  clear hln
  go_enter Try.func114, Try.ntmps114
  go_wp2_with (first | ((with_reducible refine gate_dst (N := 5) rfl ?_); refine Kd.R_lit k51 _ 51 ?hg (N := 5) ?hd (xs := ([] : List S51)) (inner := []) (ok := fun _ => True) (okp := fun _ => True) ?hr ?hp (fun _ hk => hk) trivial (Below.refl w.heap.size w) (Nat.le_refl _) (by simp) ?_; (case hd => rfl); (case hg => rfl); (case hr => exact zB); (case hp => exact (Reps.none _ _)); intro v5 w5 ho hb hg_ hnew_; clear hg_ hnew_; have HO := xm ho; have HB := xm hb; clear ho hb) | ((with_reducible refine gate_builtin (b := .append) (xs := #[.tmp 5, .tmp 6]) rfl ?_); at_builtin; refine Kd.R_append_rows k51 (w0 := w) w.heap.size rfl (.tmp 5) (.tmp 6) 50 51 (.agg #[(.int .i64 0), (.int .i64 0)]) 16 rfl Try.underlying50 info51 rfl (by decide) (by omega) v5 [] l0 _ _ _ (fun _ => True) (fun _ => False) rfl rfl ?aO ?aR (fun _ _ h => h) (fun _ h => h.elim) ?aF ?aB ?aS ?aL ?_; (case aR => exact (Kd.C_below HR0.out HB.out)); (case aB => exact HB.out); (case aF => exact (fun _ _ => trivial)); (case aO => exact HO.out); (case aS => exact xz HB.out); (case aL => have := LM.out; simp; omega); intro v7 w9 ho hb hg hat; have n0_ := xm ho; have n1_ := xm hb; clear HO HB ho hb hg hat; have HO := n0_; have HB := n1_; clear n0_ n1_))
  go_ret
  exact ⟨_, rfl, HO.out, HB.out⟩

/-! ### impl_Window_own: function 130 -/
def impl_Window_own.f (l0_0 : List (S51)) (l0_1 : List (S51)) (l0_2 : List (S51)) (a0_3 : Int) (a0_4 : Int) : Option ((List (S51)) × (List (S51)) × (List (S51)) × Int × Int) := (slices_Clone_Limpl_Map_impl_Map.f l0_0).bind fun t267 => ((slices_Clone_Limpl_Map_impl_Map.f l0_1).bind fun t270 => ((slices_Clone_Limpl_Map_impl_Map.f l0_2).bind fun t273 => (some (t267, t270, t273, a0_3, a0_4))))
def impl_Window_own.T1 : Bool × List (List Nat × List Nat) := (true, [([], []), ([0], [0]), ([1], [1]), ([], []), ([3], [3]), ([4, 2], [4]), ([], []), ([6], [6]), ([7, 5], [7]), ([], []), ([9], [9]), ([2, 5, 8, 10], [2, 5, 8, 10]), ([11, 8, 0, 1, 2, 3, 4, 5, 6, 7, 8, 9, 10, 11], [11])])
def impl_Window_own.B1 : List Nat := [0, 1, 3, 0, 8, 31, 0, 64, 255, 0, 512, 2047, 4095]
theorem impl_Window_own.tab1 : rtab .any (opsOf Try.f130 1) = impl_Window_own.T1 := by kernel_rfl
theorem impl_Window_own.bits1 : waitsOk impl_Window_own.T1.2 impl_Window_own.B1 = true := by kernel_rfl
set_option maxHeartbeats 8000000 in
set_option maxRecDepth 100000 in
theorem impl_Window_own.calls (A0_0 : Option Addr) (c0_0 : Nat) (l0_0 : List (S51)) (A0_1 : Option Addr) (c0_1 : Nat) (l0_1 : List (S51)) (A0_2 : Option Addr) (c0_2 : Nat) (l0_2 : List (S51)) (a0_3 : Int) (a0_4 : Int) (r1 : List (S51)) (r2 : List (S51)) (r3 : List (S51)) (r4 : Int) (r5 : Int) (w : World) (hr0_0 : Kd.C k51 w A0_0 l0_0.length l0_0) (hc0_0 : l0_0.length ≤ c0_0) (hr0_1 : Kd.C k51 w A0_1 l0_1.length l0_1) (hc0_1 : l0_1.length ≤ c0_1) (hr0_2 : Kd.C k51 w A0_2 l0_2.length l0_2) (hc0_2 : l0_2.length ≤ c0_2) (h : impl_Window_own.f l0_0 l0_1 l0_2 a0_3 a0_4 = some (r1, r2, r3, r4, r5)) :
  Calls Try.prog 130 #[.agg #[.slice A0_0 l0_0.length c0_0, .slice A0_1 l0_1.length c0_1, .slice A0_2 l0_2.length c0_2, .int .i64 a0_3, .int .i64 a0_4]] w fun e w' => ∃ v0_ v1_ v2_ : Value, e = .returned (.agg #[v0_, v1_, v2_, .int .i64 r4, .int .i64 r5]) ∧ Kd.R k51 51 w' w.heap.size (fun k_ => some k_ ≠ (v1_ : Value).ownBlock ∧ some k_ ≠ (v2_ : Value).ownBlock) v0_ r1 ∧ Kd.R k51 51 w' w.heap.size (fun k_ => some k_ ≠ (v0_ : Value).ownBlock ∧ some k_ ≠ (v2_ : Value).ownBlock) v1_ r2 ∧ Kd.R k51 51 w' w.heap.size (fun k_ => some k_ ≠ (v0_ : Value).ownBlock ∧ some k_ ≠ (v1_ : Value).ownBlock) v2_ r3 ∧ Below w.heap.size w w' := by
 have hu53 := Try.underlying53
 have hu51 := Try.underlying51
 have HR0_0 := xm hr0_0
 have HC0_0 := xm hc0_0
 clear hr0_0 hc0_0
 have HR0_1 := xm hr0_1
 have HC0_1 := xm hc0_1
 clear hr0_1 hc0_1
 have HR0_2 := xm hr0_2
 have HC0_2 := xm hc0_2
 clear hr0_2 hc0_2
 have HB := xm (Below.refl w.heap.size w)
 have H : ((slices_Clone_Limpl_Map_impl_Map.f l0_0).bind fun t267 => ((slices_Clone_Limpl_Map_impl_Map.f l0_1).bind fun t270 => ((slices_Clone_Limpl_Map_impl_Map.f l0_2).bind fun t273 => (some (t267, t270, t273, a0_3, a0_4))))) = some (r1, r2, r3, r4, r5) := h
 clear h
 replace H := Option.bind_eq_some_iff.mp H
 obtain ⟨t267, A20, H⟩ := H
 replace H : ((slices_Clone_Limpl_Map_impl_Map.f l0_1).bind fun t270 => ((slices_Clone_Limpl_Map_impl_Map.f l0_2).bind fun t273 => (some (t267, t270, t273, a0_3, a0_4)))) = some (r1, r2, r3, r4, r5) := H
 have A2 := xm A20
 clear A20
 replace H := Option.bind_eq_some_iff.mp H
 obtain ⟨t270, A30, H⟩ := H
 replace H : ((slices_Clone_Limpl_Map_impl_Map.f l0_2).bind fun t273 => (some (t267, t270, t273, a0_3, a0_4))) = some (r1, r2, r3, r4, r5) := H
 have A3 := xm A30
 clear A30
 replace H := Option.bind_eq_some_iff.mp H
 obtain ⟨t273, A40, H⟩ := H
 replace H : (some (t267, t270, t273, a0_3, a0_4)) = some (r1, r2, r3, r4, r5) := H
 have A4 := xm A40
 clear A40
 simp only [Option.some.injEq, Prod.mk.injEq] at H
 obtain ⟨rfl, rfl, rfl, rfl, rfl⟩ := H
 go_enter Try.func130, Try.ntmps130
 try go_wp2_with (first | ((with_reducible refine gate_dst (N := 1) rfl ?_); refine box_event ?hg (N := 1) ?hd (cs := #[.slice A0_0 l0_0.length c0_0, .slice A0_1 l0_1.length c0_1, .slice A0_2 l0_2.length c0_2, .int .i64 a0_3, .int .i64 a0_4]) (t := 53) ?hr ?_; (case hd => rfl); (case hg => rfl); (case hr => exact zB); intro gb265 hg w5 hbox hb; have n0_ := xm (below_step bB hb); have n1_ := xm (hbox); have n2_ := xm ((by rw [hg]; exact (xz bB) : w.heap.size ≤ gb265)); have n3_ := xm ((by rw [hg]; exact (xz bB) : w.heap.size ≤ gb265)); clear HB; have HB := n0_; have BK265 := n1_; have GW265 := n2_; have GE265 := n3_; clear n0_ n1_ n2_ n3_; clear hb hbox hg) | ((with_reducible refine gate_dst (N := 2) rfl ?_); refine box_event ?hg (N := 2) ?hd (cs := #[.slice none 0 0, .slice none 0 0, .slice none 0 0, .int .i64 0, .int .i64 0]) (t := 53) ?hr ?_; (case hd => rfl); (case hg => rfl); (case hr => exact zB); intro gb266 hg w6 hbox hb; have n0_ := xm (blk_below (kB BK265) hb); have n1_ := xm (below_step bG hb); have n2_ := xm (hbox); have n3_ := xm ((by rw [hg]; exact (xz bG) : w.heap.size ≤ gb266)); have n4_ := xm ((by rw [hg]; exact (xz bG) : w.heap.size ≤ gb266)); have n5_ := xm ((by rw [hg]; exact Nat.ne_of_lt (blk_lt (kB BK265)) : gb265 ≠ gb266)); have n6_ := xm ((by rw [hg]; exact Nat.ne_of_gt (blk_lt (kB BK265)) : gb266 ≠ gb265)); clear BK265; clear HB; have BK265 := n0_; have HB := n1_; have BK266 := n2_; have GW266 := n3_; have GE266 := n4_; have NB265_266 := n5_; have NB266_265 := n6_; clear n0_ n1_ n2_ n3_ n4_ n5_ n6_; clear hb hbox hg))
 have n0_ := xm (xr BK265.out)
 have n1_ := xm (xr BK266.out)
 have n2_ := xm (xd HB.out)
 clear BK265
 clear BK266
 clear HB
 have BK265 := n0_
 have BK266 := n1_
 have HB := n2_
 clear n0_ n1_ n2_
 refine start_ (n := 13) (S := fun w' => w'.cell? ⟨gb265, 0, none⟩ = some (.slice A0_0 l0_0.length c0_0) ∧ w'.cell? ⟨gb265, 1, none⟩ = some (.slice A0_1 l0_1.length c0_1) ∧ w'.cell? ⟨gb265, 2, none⟩ = some (.slice A0_2 l0_2.length c0_2) ∧ w'.cell? ⟨gb265, 3, none⟩ = some (.int .i64 a0_3) ∧ w'.cell? ⟨gb265, 4, none⟩ = some (.int .i64 a0_4)) (ds := []) #[Z,Z,Z,Z,Z,Z,Z,Z,Z,Z,Z,Z,Z] (by kernel_rfl) rfl rfl ⟨(xc BK265.out 0).trans rfl, (xc BK265.out 1).trans rfl, (xc BK265.out 2).trans rfl, (xc BK265.out 3).trans rfl, (xc BK265.out 4).trans rfl⟩ (fun hHeld => ?_); refine with_tabW impl_Window_own.tab1 impl_Window_own.bits1 (fun HT_ HW_ => ?_)
 generalize w6.drew = w7 at BK265 BK266 HB hHeld ⊢
 refine px 0 13 1 (any_of HT_.out (by kernel_rfl)) ?_
 refine px 3 13 9 (any_of HT_.out (by kernel_rfl)) ?_
 refine px 6 13 73 (any_of HT_.out (by kernel_rfl)) ?_
 refine px 9 13 585 (any_of HT_.out (by kernel_rfl)) ?_
 refine tx 1 13 587 rfl rfl (take_ofW HT_.out HW_.out (by kernel_rfl)) hHeld (by rintro w' ⟨s0, s1, s2, s3, s4⟩; go_simp; with_reducible rfl) ?_
 refine tx 4 13 603 rfl rfl (take_ofW HT_.out HW_.out (by kernel_rfl)) hHeld (by rintro w' ⟨s0, s1, s2, s3, s4⟩; go_simp; with_reducible rfl) ?_
 refine tx 7 13 731 rfl rfl (take_ofW HT_.out HW_.out (by kernel_rfl)) hHeld (by rintro w' ⟨s0, s1, s2, s3, s4⟩; go_simp; with_reducible rfl) ?_
 refine tx 10 13 1755 rfl rfl (take_ofW HT_.out HW_.out (by kernel_rfl)) hHeld (by rintro w' ⟨s0, s1, s2, s3, s4⟩; go_simp; with_reducible rfl) ?_
 refine one_ (i := 2) (N := some 5) #[Y,Y,Y,Y,Y,Z,Y,Y,Z,Y,Y,Z,Z] rfl rfl (one_of HT_.out (by kernel_rfl)) (by decide) (fun K hK => ?_)
 refine goes_ Try.func114 (by kernel_rfl) rfl #[.slice A0_0 l0_0.length c0_0] (by rfl) rfl rfl mB ?_
 with_reducible refine (slices_Clone_Limpl_Map_impl_Map.calls _ _ l0_0 t267 _ ?side1 ?side2 A2.out).mono ?_
 (case side1 => exact cB (Kd.C_below HR0_0.out HB.out))
 (case side2 => exact HC0_0.out)
 rintro e w8 ⟨v268, rfl, ho0, hb⟩
 refine ⟨_, rfl, ?_⟩
 have n0_ := xm (Kd.R_lower ho0 (xz bG))
 have n1_ := xm (blk_below (kB BK265) hb)
 have n2_ := xm (blk_below (kB BK266) hb)
 have n3_ := xm (below_step bG hb)
 clear BK265
 clear BK266
 clear HB
 have HO269 := n0_
 have BK265 := n1_
 have BK266 := n2_
 have HB := n3_
 clear n0_ n1_ n2_ n3_
 (try clear hb)
 (try clear hb2)
 (try clear hk)
 (try clear hi)
 (try clear ho0)
 refine hK.out _ _ ⟨(xc BK265.out 0).trans rfl, (xc BK265.out 1).trans rfl, (xc BK265.out 2).trans rfl, (xc BK265.out 3).trans rfl, (xc BK265.out 4).trans rfl⟩ (fun hHeld => ?_)
 clear hK K
 refine norm_ (a' := ?_) ?_ ?_
 rotate_left
 ·show Act.put _ (some 5) _ = _
  simp only [Act.put, xi, xj, xk, i64_w, i32_w]
  rfl
 refine one_ (i := 5) (N := some 8) #[Y,Y,Y,Y,Y,Y,Y,Y,Z,Y,Y,Z,Z] rfl rfl (one_of HT_.out (by kernel_rfl)) (by decide) (fun K hK => ?_)
 refine goes_ Try.func114 (by kernel_rfl) rfl #[.slice A0_1 l0_1.length c0_1] (by rfl) rfl rfl mB ?_
 with_reducible refine (slices_Clone_Limpl_Map_impl_Map.calls _ _ l0_1 t270 _ ?side1 ?side2 A3.out).mono ?_
 (case side1 => exact cB (Kd.C_below HR0_1.out HB.out))
 (case side2 => exact HC0_1.out)
 rintro e w9 ⟨v271, rfl, ho0, hb⟩
 refine ⟨_, rfl, ?_⟩
 have n0_ := xm (Kd.R_elder' (rB HO269) (Kd.R_base ho0) hb)
 have n1_ := xm (Kd.R_lower (Kd.R_new' ho0 (Kd.R_lt (rB HO269))) (xz bG))
 have n2_ := xm (blk_below (kB BK265) hb)
 have n3_ := xm (blk_below (kB BK266) hb)
 have n4_ := xm (below_step bG hb)
 clear HO269
 clear BK265
 clear BK266
 clear HB
 have HO269 := n0_
 have HO272 := n1_
 have BK265 := n2_
 have BK266 := n3_
 have HB := n4_
 clear n0_ n1_ n2_ n3_ n4_
 (try clear hb)
 (try clear hb2)
 (try clear hk)
 (try clear hi)
 (try clear ho0)
 refine hK.out _ _ ⟨(xc BK265.out 0).trans rfl, (xc BK265.out 1).trans rfl, (xc BK265.out 2).trans rfl, (xc BK265.out 3).trans rfl, (xc BK265.out 4).trans rfl⟩ (fun hHeld => ?_)
 clear hK K
 refine norm_ (a' := ?_) ?_ ?_
 rotate_left
 ·show Act.put _ (some 8) _ = _
  simp only [Act.put, xi, xj, xk, i64_w, i32_w]
  rfl
 refine one_ (i := 8) (N := some 11) #[Y,Y,Y,Y,Y,Y,Y,Y,Y,Y,Y,Z,Z] rfl rfl (one_of HT_.out (by kernel_rfl)) (by decide) (fun K hK => ?_)
 refine goes_ Try.func114 (by kernel_rfl) rfl #[.slice A0_2 l0_2.length c0_2] (by rfl) rfl rfl mB ?_
 with_reducible refine (slices_Clone_Limpl_Map_impl_Map.calls _ _ l0_2 t273 _ ?side1 ?side2 A4.out).mono ?_
 (case side1 => exact cB (Kd.C_below HR0_2.out HB.out))
 (case side2 => exact HC0_2.out)
 rintro e w10 ⟨v274, rfl, ho0, hb⟩
 refine ⟨_, rfl, ?_⟩
 have n0_ := xm (Kd.R_elder' (rB HO269) (Kd.R_base ho0) hb)
 have n1_ := xm (Kd.R_elder' (rB HO272) (Kd.R_base ho0) hb)
 have n2_ := xm (Kd.R_lower (Kd.R_new' (Kd.R_new' ho0 (Kd.R_lt (rB HO269))) (Kd.R_lt (rB HO272))) (xz bG))
 have n3_ := xm (blk_below (kB BK265) hb)
 have n4_ := xm (blk_below (kB BK266) hb)
 have n5_ := xm (below_step bG hb)
 clear HO269
 clear HO272
 clear BK265
 clear BK266
 clear HB
 have HO269 := n0_
 have HO272 := n1_
 have HO275 := n2_
 have BK265 := n3_
 have BK266 := n4_
 have HB := n5_
 clear n0_ n1_ n2_ n3_ n4_ n5_
 (try clear hb)
 (try clear hb2)
 (try clear hk)
 (try clear hi)
 (try clear ho0)
 obtain ⟨Ao11, co11, eo11⟩ := Kd.R_slice HO275.out
 (first | subst eo11 | (injection eo11 with f1_ f2_ f3_; have f4_ := f1_.symm; have f5_ := f3_.symm; clear f1_ f2_ f3_; subst f4_; subst f5_))
 obtain ⟨Ao12, co12, eo12⟩ := Kd.R_slice HO272.out
 (first | subst eo12 | (injection eo12 with f1_ f2_ f3_; have f4_ := f1_.symm; have f5_ := f3_.symm; clear f1_ f2_ f3_; subst f4_; subst f5_))
 obtain ⟨Ao13, co13, eo13⟩ := Kd.R_slice HO269.out
 (first | subst eo13 | (injection eo13 with f1_ f2_ f3_; have f4_ := f1_.symm; have f5_ := f3_.symm; clear f1_ f2_ f3_; subst f4_; subst f5_))
 refine hK.out _ _ ⟨(xc BK265.out 0).trans rfl, (xc BK265.out 1).trans rfl, (xc BK265.out 2).trans rfl, (xc BK265.out 3).trans rfl, (xc BK265.out 4).trans rfl⟩ (fun hHeld => ?_)
 clear hK K
 refine norm_ (a' := ?_) ?_ ?_
 rotate_left
 ·show Act.put _ (some 11) _ = _
  simp only [Act.put, xi, xj, xk, i64_w, i32_w]
  rfl
 refine px 11 13 4095 (any_of HT_.out (by kernel_rfl)) ?_
 refine one_ (i := 12) (N := none) #[Y,Y,Y,Y,Y,Y,Y,Y,Y,Y,Y,Y,Y] rfl rfl (one_of HT_.out (by kernel_rfl)) (by decide) (fun K hK => ?_)
 have hs14 : w10.cell? ⟨gb266, 0, none⟩ = some (.slice none 0 0) := (xc BK266.out 0).trans rfl
 have hfs14 := xf BK266.out 0
 have hns14_0 := NB265_266.out
 have hms14_0 := NB266_265.out
 have hs15 : w10.cell? ⟨gb266, 1, none⟩ = some (.slice none 0 0) := (xc BK266.out 1).trans rfl
 have hfs15 := xf BK266.out 1
 have hns15_0 := NB265_266.out
 have hms15_0 := NB266_265.out
 have hs16 : w10.cell? ⟨gb266, 2, none⟩ = some (.slice none 0 0) := (xc BK266.out 2).trans rfl
 have hfs16 := xf BK266.out 2
 have hns16_0 := NB265_266.out
 have hms16_0 := NB266_265.out
 have hs17 : w10.cell? ⟨gb266, 3, none⟩ = some (.int .i64 0) := (xc BK266.out 3).trans rfl
 have hfs17 := xf BK266.out 3
 have hns17_0 := NB265_266.out
 have hms17_0 := NB266_265.out
 have hs18 : w10.cell? ⟨gb266, 4, none⟩ = some (.int .i64 0) := (xc BK266.out 4).trans rfl
 have hfs18 := xf BK266.out 4
 have hns18_0 := NB265_266.out
 have hms18_0 := NB266_265.out
 refine skip_ (w1 := ?_) (by rfl) rfl ?_ ?_
 rotate_left
 ·go_simp
  rfl
 refine hK.out _ _ ⟨((cell_far (p := ⟨gb266, _, none⟩) NB265_266.out _).trans (((cell_far (p := ⟨gb266, _, none⟩) NB265_266.out _).trans (((cell_far (p := ⟨gb266, _, none⟩) NB265_266.out _).trans (((cell_far (p := ⟨gb266, _, none⟩) NB265_266.out _).trans (((cell_far (p := ⟨gb266, _, none⟩) NB265_266.out _).trans (hHeld.1)))))))))), ((cell_far (p := ⟨gb266, _, none⟩) NB265_266.out _).trans (((cell_far (p := ⟨gb266, _, none⟩) NB265_266.out _).trans (((cell_far (p := ⟨gb266, _, none⟩) NB265_266.out _).trans (((cell_far (p := ⟨gb266, _, none⟩) NB265_266.out _).trans (((cell_far (p := ⟨gb266, _, none⟩) NB265_266.out _).trans (hHeld.2.1)))))))))), ((cell_far (p := ⟨gb266, _, none⟩) NB265_266.out _).trans (((cell_far (p := ⟨gb266, _, none⟩) NB265_266.out _).trans (((cell_far (p := ⟨gb266, _, none⟩) NB265_266.out _).trans (((cell_far (p := ⟨gb266, _, none⟩) NB265_266.out _).trans (((cell_far (p := ⟨gb266, _, none⟩) NB265_266.out _).trans (hHeld.2.2.1)))))))))), ((cell_far (p := ⟨gb266, _, none⟩) NB265_266.out _).trans (((cell_far (p := ⟨gb266, _, none⟩) NB265_266.out _).trans (((cell_far (p := ⟨gb266, _, none⟩) NB265_266.out _).trans (((cell_far (p := ⟨gb266, _, none⟩) NB265_266.out _).trans (((cell_far (p := ⟨gb266, _, none⟩) NB265_266.out _).trans (hHeld.2.2.2.1)))))))))), ((cell_far (p := ⟨gb266, _, none⟩) NB265_266.out _).trans (((cell_far (p := ⟨gb266, _, none⟩) NB265_266.out _).trans (((cell_far (p := ⟨gb266, _, none⟩) NB265_266.out _).trans (((cell_far (p := ⟨gb266, _, none⟩) NB265_266.out _).trans (((cell_far (p := ⟨gb266, _, none⟩) NB265_266.out _).trans (hHeld.2.2.2.2))))))))))⟩ (fun hHeld => ?_)
 clear hK K
 refine done_ (done_of HT_.out (by kernel_rfl)) ?_
 try go_wp2
 refine bodyPost_ret (results_cell_row rfl _ _ gb266 53 #[.slice Ao13 t267.length co13, .slice Ao12 t270.length co12, .slice Ao11 t273.length co11, .int .i64 a0_3, .int .i64 a0_4] (0, 0) _ rfl (by (with_reducible repeat (first | refine xq ?_ _ | refine xr ?_ | refine xo ?_ _)); refine blk_put (cs := #[.slice Ao13 t267.length co13, .slice Ao12 t270.length co12, .slice Ao11 t273.length co11, .int .i64 a0_3, .int .i64 0]) ?_ 4 _ rfl; (with_reducible repeat (first | refine xq ?_ _ | refine xr ?_ | refine xo ?_ _)); refine blk_put (cs := #[.slice Ao13 t267.length co13, .slice Ao12 t270.length co12, .slice Ao11 t273.length co11, .int .i64 0, .int .i64 0]) ?_ 3 _ rfl; (with_reducible repeat (first | refine xq ?_ _ | refine xr ?_ | refine xo ?_ _)); refine blk_put (cs := #[.slice Ao13 t267.length co13, .slice Ao12 t270.length co12, .slice none 0 0, .int .i64 0, .int .i64 0]) ?_ 2 _ rfl; (with_reducible repeat (first | refine xq ?_ _ | refine xr ?_ | refine xo ?_ _)); refine blk_put (cs := #[.slice Ao13 t267.length co13, .slice none 0 0, .slice none 0 0, .int .i64 0, .int .i64 0]) ?_ 1 _ rfl; (with_reducible repeat (first | refine xq ?_ _ | refine xr ?_ | refine xo ?_ _)); refine blk_put (cs := #[.slice none 0 0, .slice none 0 0, .slice none 0 0, .int .i64 0, .int .i64 0]) ?_ 0 _ rfl; (with_reducible repeat (first | refine xq ?_ _ | refine xr ?_ | refine xo ?_ _)); exact BK266.out) Try.underlying53 rfl (by kernel_rfl)) rfl ?_
 exact ⟨_, _, _, by first | rfl | (simp [errW_none, errW_some] <;> rfl) | (simp [*, errW_none, errW_some] <;> rfl), by (with_reducible repeat (first | apply Kd.R_alloc | apply Kd.R_drewN | apply Kd.R_drew)); exact Kd.R_mono (Kd.R_far (p := ⟨gb266, 4, none⟩) (Kd.R_far (p := ⟨gb266, 3, none⟩) (Kd.R_far (p := ⟨gb266, 2, none⟩) (Kd.R_far (p := ⟨gb266, 1, none⟩) (Kd.R_far (p := ⟨gb266, 0, none⟩) (Kd.R_types HO269.out BK266.out (by decide)) (fun _ hk => hk.2) (.slice Ao13 t267.length co13)) (fun _ hk => hk.2) (.slice Ao12 t270.length co12)) (fun _ hk => hk.2) (.slice Ao11 t273.length co11)) (fun _ hk => hk.2) (.int .i64 a0_3)) (fun _ hk => hk.2) (.int .i64 a0_4)) (fun _ hk => ⟨hk.1.1.2, hk.1.2⟩), by (with_reducible repeat (first | apply Kd.R_alloc | apply Kd.R_drewN | apply Kd.R_drew)); exact Kd.R_mono (Kd.R_far (p := ⟨gb266, 4, none⟩) (Kd.R_far (p := ⟨gb266, 3, none⟩) (Kd.R_far (p := ⟨gb266, 2, none⟩) (Kd.R_far (p := ⟨gb266, 1, none⟩) (Kd.R_far (p := ⟨gb266, 0, none⟩) (Kd.R_types HO272.out BK266.out (by decide)) (fun _ hk => hk.2) (.slice Ao13 t267.length co13)) (fun _ hk => hk.2) (.slice Ao12 t270.length co12)) (fun _ hk => hk.2) (.slice Ao11 t273.length co11)) (fun _ hk => hk.2) (.int .i64 a0_3)) (fun _ hk => hk.2) (.int .i64 a0_4)) (fun _ hk => ⟨hk.1.1.2, hk.1.2⟩), by (with_reducible repeat (first | apply Kd.R_alloc | apply Kd.R_drewN | apply Kd.R_drew)); exact Kd.R_mono (Kd.R_far (p := ⟨gb266, 4, none⟩) (Kd.R_far (p := ⟨gb266, 3, none⟩) (Kd.R_far (p := ⟨gb266, 2, none⟩) (Kd.R_far (p := ⟨gb266, 1, none⟩) (Kd.R_far (p := ⟨gb266, 0, none⟩) (Kd.R_types HO275.out BK266.out (by decide)) (fun _ hk => hk.2) (.slice Ao13 t267.length co13)) (fun _ hk => hk.2) (.slice Ao12 t270.length co12)) (fun _ hk => hk.2) (.slice Ao11 t273.length co11)) (fun _ hk => hk.2) (.int .i64 a0_3)) (fun _ hk => hk.2) (.int .i64 a0_4)) (fun _ hk => ⟨hk.1.1.2, hk.1.2⟩), by repeat (first | (with_reducible first | exact HB.out | apply xa | apply xn | apply xd | refine xt ?_ GE265.out | refine xt ?_ GE266.out) | exact HB.out)⟩

end Go.Proofs.Ytpbpglbldgpckaa.G
