/- Written by a program of this claim's own, out of the translation: functions of the program as plain functions, and that the calls answer as these. No conditions. -/
import Derived.Test.YtpbpglbldgpckaaG0
import Derived.Test.YtpbpglbldgpckaaG23
namespace Go.Proofs.Ytpbpglbldgpckaa.G
open Go.RowKit Go.Proofs.Ytpbpglbldgpckaa.X Go.Proofs.YtpbpglbldgpckaaW.PrintWords Go.Proofs.YtpbpglbldgpckaaW.PrintLast Go.Proofs.YtpbpglbldgpckaaW.PrintMore
attribute [local go_sem] max2_int min2_int max_two min_two max_three min_three max_four min_four   -- for this text's walks alone
set_option linter.unusedVariables false
set_option linter.unusedSimpArgs false

/-! ### impl_Window_push: function 105 -/
section
variable {P : Program} {ops : Array Oper} {o : Oper} {a : Act} {Q : Exit → Act → World → Prop} {K : Act → World → Prop} {N : Option Tmp}
theorem win.build {W : World} (hw : Region.wanted o (yielded ops a.tmps) = true) (hN : o.dst = N) {cs : Array Value} {t : TypeId}
  (hrun : (execOp a.eval o).run P W = .ok (.value (.slice (some ⟨W.heap.size, 0, none⟩) 1 1)) (W.alloc (.cells cs t (0, 0))))
  (h : ∀ gs w1, gs = W.heap.size → w1.heap[gs]? = some (.cells cs t (0, 0)) → Below W.heap.size W w1 → K (a.put N (.slice (some ⟨gs, 0, none⟩) 1 1)) w1) :
  if Region.wanted o (yielded ops a.tmps) = true then Oper.wp P o a W K Q else K (a.put N undef) W :=
 value_ hw hN hrun (h _ _ rfl (blk_new W _) (xa (Below.refl _ _) _))
theorem win.append {α : Type} (d : Kd α) {W : World} (base : Nat) (hw : Region.wanted o (yielded ops a.tmps) = true) (hN : o.dst = N) (s x : Operand) (t e : TypeId) (z : Value) (bytes : Nat)
  (ho : o.op = .call { callee := .builtin .append, args := #[s, x], argTypes := #[t, t] })
  (ht : P.underlying t = some (.slice e)) (hinfo : (P.info? e).map (fun i => (i.zero, i.size, i.bytes)) = some (some z, d.sz, bytes)) (hz : z.cells.size = d.sz) (hs0 : 0 < d.sz) (hb0 : 0 < bytes)
  (v : Value) (xs : List α) (p : α) (cs : List Value) (ok okp : Nat → Prop) (gs : Nat) (hs : a.eval s = v) (hx : a.eval x = .slice (some ⟨gs, 0, none⟩) 1 1) (hgs : W.heap[gs]? = some (.cells cs.toArray e (0, 0)))
  (hp : d.M W base okp p cs) (hokp : ∀ k, okp k → ok k ∧ some k ≠ v.ownBlock) (hfresh : ∀ k, W.heap.size ≤ k → ok k)
  (HO : d.R e W base ok v xs) (hbase : base ≤ W.heap.size) (hl : (xs.length + 1) * bytes ≤ 140737488355328)
  (h : ∀ v1 w1, d.R e w1 base ok v1 (xs ++ [p]) → W.grownBy w1 v.ownBlock → (v1.ownBlock = v.ownBlock ∨ v1.ownBlock = some W.heap.size) → K (a.put N v1) w1) :
  if Region.wanted o (yielded ops a.tmps) = true then Oper.wp P o a W K Q else K (a.put N undef) W := by
 obtain ⟨i0, hi, hzz⟩ := Option.map_eq_some_iff.1 hinfo
 simp only [Prod.mk.injEq] at hzz
 obtain ⟨hz0, hz1, hz2⟩ := hzz
 obtain ⟨h0, inner, hown, hr⟩ := HO
 have hlen : xs.length + 1 ≤ 140737488355328 := Nat.le_trans (Nat.le_mul_of_pos_right _ hb0) hl
 obtain ⟨v1, w1, hrun, hown1, hg, _, hat⟩ := run_append_own_at (P := P) W base t o.type e i0 z d.sz bytes ht hi hz0 hz1 hz2 hz hs0 v xs.length inner hown ⟨gs, 0, none⟩ 1 1 cs (by rw [d.K_len (d.K_of_M hp)]; simp)
  (by simpa using World.news_of_block hgs) (d.K_one (d.K_of_M hp)) (by simp only [maxLen]; omega) hl hbase
 have hat' : v1.ownBlock = v.ownBlock ∨ ∃ b, v1.ownBlock = some b ∧ W.heap.size ≤ b := by
  rcases hat with hat | hat
  ·exact .inl hat
  ·exact .inr ⟨_, hat, Nat.le_refl _⟩
 refine value_ hw hN (v := v1) (w1 := w1) ?_ (h v1 w1 (Kd.R_appended h0 hr hp hokp hfresh hown1 hg hat') hg hat)
 unfold execOp
 simp only [ho, resolve, invoke, builtin, Sem.run_bind, Sem.run_pure, Result.andThen_ok, List.map_toArray, List.map_cons, List.map_nil, hs, hx, hrun]
end
/-- A window in memory: its block g, its three rows; all these blocks lie in Pw. -/
structure WinAt (W : World) (base g : Nat) (Pw : Nat → Prop) (F S B : List S51) (a b : Int) : Prop where
 ex : ∃ vf vs vb : Value, W.heap[g]? = some (.cells #[vf, vs, vb, .int .i64 a, .int .i64 b] 53 (0, 0)) ∧
  Kd.R k51 51 W base (fun k => some k = vf.ownBlock) vf F ∧ Kd.R k51 51 W base (fun k => some k = vs.ownBlock) vs S ∧ Kd.R k51 51 W base (fun k => some k = vb.ownBlock) vb B ∧
  (∀ k, some k = vf.ownBlock → some k ≠ vs.ownBlock ∧ some k ≠ vb.ownBlock ∧ k ≠ g ∧ Pw k) ∧ (∀ k, some k = vs.ownBlock → some k ≠ vb.ownBlock ∧ k ≠ g ∧ Pw k) ∧ (∀ k, some k = vb.ownBlock → k ≠ g ∧ Pw k)
 inn : Pw g ∧ base ≤ g
theorem Kd.R_own {w : World} {base : Nat} {ok : Nat → Prop} {v : Value} {xs : List S51} (h : Kd.R k51 51 w base ok v xs) : Kd.R k51 51 w base (fun k => some k = v.ownBlock) v xs :=
 Kd.R_mono (Kd.R_tight2 rfl h) (fun k hk => hk.1)
theorem own_or {v v0 : Value} {n : Nat} (h : v.ownBlock = v0.ownBlock ∨ ∃ q, v.ownBlock = some q ∧ n ≤ q) : ∀ k, some k = v.ownBlock → some k = v0.ownBlock ∨ n ≤ k := by
 intro k hk
 rcases h with h | ⟨q, h, hq⟩
 ·exact .inl (hk.trans h)
 ·rw [h] at hk; injection hk with hk; exact .inr (by omega)
theorem grown_kept {W w1 : World} {v : Value} (h : W.grownBy w1 v.ownBlock) : Kept W w1 (fun k => some k = v.ownBlock) := ⟨h.size, fun k hk hne => h.block k hk hne⟩
theorem blk_cells5 {w : World} {g t : Nat} {a0 a1 a2 a3 a4 : Value} (h : w.heap[g]? = some (.cells #[a0, a1, a2, a3, a4] t (0, 0))) :
  w.cell? ⟨g, 0, none⟩ = some a0 ∧ w.cell? ⟨g, 1, none⟩ = some a1 ∧ w.cell? ⟨g, 2, none⟩ = some a2 ∧ w.cell? ⟨g, 3, none⟩ = some a3 ∧ w.cell? ⟨g, 4, none⟩ = some a4 ∧ w.frozen? ⟨g, 2, none⟩ = false ∧ w.frozen? ⟨g, 3, none⟩ = false ∧ w.frozen? ⟨g, 4, none⟩ = false :=
 ⟨(xc h 0).trans rfl, (xc h 1).trans rfl, (xc h 2).trans rfl, (xc h 3).trans rfl, (xc h 4).trans rfl, xf h 2, xf h 3, xf h 4⟩
set_option maxHeartbeats 8000000 in
set_option maxRecDepth 100000 in
theorem impl_Window_push.calls (g base : Nat) (Pw : Nat → Prop) (F S B : List S51) (a b m0 m1 r0 r1 : Int) (w : World) (hW : WinAt w base g Pw F S B a b) (hl : B.length < 8796093022208) (h : impl_Map_then.f a b m0 m1 = some (r0, r1)) :
  Calls Try.prog 105 #[.pointer (some ⟨g, 0, none⟩), .agg #[.int .i64 m0, .int .i64 m1]] w fun e w' => e = .returned (.tuple #[]) ∧ Below base w w' ∧ Kept w w' Pw ∧ WinAt w' base g (fun k => Pw k ∨ w.heap.size ≤ k) F S (B ++ [⟨m0, m1⟩]) r0 r1 := by
 obtain ⟨⟨vf, vs, vb, hg, hf, hs, hb, dF, dS, dB⟩, hin, hbg⟩ := hW
 have hu53 := Try.underlying53
 have hu51 := Try.underlying51
 have HL := xm hl
 have HT := xm h
 have DF := xm dF
 have DS := xm dS
 have DB := xm dB
 have HIN := xm hin
 have HBG := xm hbg
 have hlt := blk_lt hg
 have HLT := xm hlt
 obtain ⟨Ab, cb, rfl⟩ := Kd.R_slice hb
 clear hl h dF dS dB hin hbg hlt
 have HG := xm hg
 have HF := xm hf
 have HS := xm hs
 have HV := xm hb
 clear hg hf hs hb
 go_enter Try.func105, Try.ntmps105
 go_wp2_with ((with_reducible refine gate_dst (N := 3) rfl ?_); refine box_event ?hg (N := 3) ?hd (cs := #[.int .i64 m0, .int .i64 m1]) (t := 51) ?hr ?_; (case hd => rfl); (case hg => rfl); (case hr => first | (go_simp; done) | (go_simp; rfl)); intro gb hgb w1 hbox hbb; have HGB := xm hgb; have HM := xm hbox; have HK := xm hbb; clear hgb hbox hbb)
 have hG1 := xr (blk_below HG.out HK.out)
 have hM1 := xr HM.out
 have hB1 : Below w.heap.size w w1.drew := below_drew HK.out
 have zz : w1.drew.heap.size = w1.heap.size := rfl
 refine start_ (n := 21) (S := fun w' => (w'.cell? ⟨g, 0, none⟩ = some vf ∧ w'.cell? ⟨g, 1, none⟩ = some vs ∧ w'.cell? ⟨g, 2, none⟩ = some (.slice Ab B.length cb) ∧ w'.cell? ⟨g, 3, none⟩ = some (.int .i64 a) ∧ w'.cell? ⟨g, 4, none⟩ = some (.int .i64 b) ∧ w'.cell? ⟨gb, 0, none⟩ = some (.int .i64 m0) ∧ w'.cell? ⟨gb, 1, none⟩ = some (.int .i64 m1))) (ds := [17, 20]) #[Z,Z,Z,Z,Z,Z,Z,Z,Z,Z,Z,Z,Z,Z,Z,Z,Z,Z,Z,Z,Z] (by kernel_rfl) rfl rfl ⟨(xc hG1 0).trans rfl, (xc hG1 1).trans rfl, (xc hG1 2).trans rfl, (xc hG1 3).trans rfl, (xc hG1 4).trans rfl, (xc hM1 0).trans rfl, (xc hM1 1).trans rfl⟩ (fun hHeld => ?_)
 have HZ := xm zz
 clear zz
 have HG' := xm hG1
 have HM' := xm hM1
 have HB := xm hB1
 clear HG HM hG1 hM1 hB1 HK
 generalize w1.drew = w2 at HG' HM' HB HZ hHeld ⊢
 refine pure_ (i := 0) (N := some 4) (v := ?_) (a' := ?_) #[Y,Z,Z,Z,Z,Z,Z,Z,Z,Z,Z,Z,Z,Z,Z,Z,Z,Z,Z,Z,Z] rfl rfl (by kernel_rfl) (fun _ _ _ h => h) (Or.inl ⟨by rfl, ?_⟩) ?_ ?_
 rotate_left
 ·intro w'
  go_simp
  with_reducible rfl
 rotate_left
 ·simp only [Act.put, xi, xj, xk, i64_w, i32_w]
  rfl
 refine pure_ (i := 1) (N := some 5) (v := ?_) (a' := ?_) #[Y,Y,Z,Z,Z,Z,Z,Z,Z,Z,Z,Z,Z,Z,Z,Z,Z,Z,Z,Z,Z] rfl rfl (by kernel_rfl) (fun _ _ _ h => h) (Or.inl ⟨by rfl, ?_⟩) ?_ ?_
 rotate_left
 ·intro w'
  go_simp
  with_reducible rfl
 rotate_left
 ·simp only [Act.put, xi, xj, xk, i64_w, i32_w]
  rfl
 refine pure_ (i := 2) (N := some 6) (v := ?_) (a' := ?_) #[Y,Y,Y,Z,Z,Z,Z,Z,Z,Z,Z,Z,Z,Z,Z,Z,Z,Z,Z,Z,Z] rfl rfl (by kernel_rfl) (fun _ _ _ h => h) (Or.inl ⟨by rfl, ?_⟩) ?_ ?_
 rotate_left
 ·intro w'
  go_simp
  with_reducible rfl
 rotate_left
 ·simp only [Act.put, xi, xj, xk, i64_w, i32_w]
  rfl
 refine pure_ (i := 3) (N := some 7) (v := ?_) (a' := ?_) #[Y,Y,Y,Y,Z,Z,Z,Z,Z,Z,Z,Z,Z,Z,Z,Z,Z,Z,Z,Z,Z] rfl rfl (by kernel_rfl) (fun _ _ _ h => h) (Or.inl ⟨by rfl, ?_⟩) ?_ ?_
 rotate_left
 ·intro w'
  go_simp
  with_reducible rfl
 rotate_left
 ·simp only [Act.put, xi, xj, xk, i64_w, i32_w]
  rfl
 refine pure_ (i := 4) (N := some 8) (v := ?_) (a' := ?_) #[Y,Y,Y,Y,Y,Z,Z,Z,Z,Z,Z,Z,Z,Z,Z,Z,Z,Z,Z,Z,Z] rfl rfl (by kernel_rfl) (fun _ _ _ h => h) (Or.inl ⟨by rfl, ?_⟩) ?_ ?_
 rotate_left
 ·intro w'
  go_simp
  with_reducible rfl
 rotate_left
 ·simp only [Act.put, xi, xj, xk, i64_w, i32_w]
  rfl
 refine take_ (i := 5) (N := some 9) (v := ?_) (a' := ?_) #[Y,Y,Y,Y,Y,Y,Z,Z,Z,Z,Z,Z,Z,Z,Z,Z,Z,Z,Z,Z,Z] rfl rfl (by kernel_rfl) (fun _ _ _ h => h) (Or.inl ⟨by rfl, ?_⟩) hHeld ?_ ?_
 rotate_left
 ·rintro w' ⟨s0, s1, s2, s3, s4, s5, s6⟩
  go_simp
  with_reducible rfl
 rotate_left
 ·simp only [Act.put, xi, xj, xk, i64_w, i32_w]
  rfl
 refine take_ (i := 6) (N := some 10) (v := ?_) (a' := ?_) #[Y,Y,Y,Y,Y,Y,Y,Z,Z,Z,Z,Z,Z,Z,Z,Z,Z,Z,Z,Z,Z] rfl rfl (by kernel_rfl) (fun _ _ _ h => h) (Or.inl ⟨by rfl, ?_⟩) hHeld ?_ ?_
 rotate_left
 ·rintro w' ⟨s0, s1, s2, s3, s4, s5, s6⟩
  go_simp
  with_reducible rfl
 rotate_left
 ·simp only [Act.put, xi, xj, xk, i64_w, i32_w]
  rfl
 refine pure_ (i := 9) (N := some 13) (v := ?_) (a' := ?_) #[Y,Y,Y,Y,Y,Y,Y,Z,Z,Y,Z,Z,Z,Z,Z,Z,Z,Z,Z,Z,Z] rfl rfl (by kernel_rfl) (fun _ _ _ h => h) (Or.inl ⟨by rfl, ?_⟩) ?_ ?_
 rotate_left
 ·intro w'
  go_simp
  with_reducible rfl
 rotate_left
 ·simp only [Act.put, xi, xj, xk, i64_w, i32_w]
  rfl
 refine pure_ (i := 10) (N := some 14) (v := ?_) (a' := ?_) #[Y,Y,Y,Y,Y,Y,Y,Z,Z,Y,Y,Z,Z,Z,Z,Z,Z,Z,Z,Z,Z] rfl rfl (by kernel_rfl) (fun _ _ _ h => h) (Or.inl ⟨by rfl, ?_⟩) ?_ ?_
 rotate_left
 ·intro w'
  go_simp
  with_reducible rfl
 rotate_left
 ·simp only [Act.put, xi, xj, xk, i64_w, i32_w]
  rfl
 refine pure_ (i := 11) (N := some 15) (v := ?_) (a' := ?_) #[Y,Y,Y,Y,Y,Y,Y,Z,Z,Y,Y,Y,Z,Z,Z,Z,Z,Z,Z,Z,Z] rfl rfl (by kernel_rfl) (fun _ _ _ h => h) (Or.inl ⟨by rfl, ?_⟩) ?_ ?_
 rotate_left
 ·intro w'
  go_simp
  with_reducible rfl
 rotate_left
 ·simp only [Act.put, xi, xj, xk, i64_w, i32_w]
  rfl
 refine take_ (i := 12) (N := some 16) (v := ?_) (a' := ?_) #[Y,Y,Y,Y,Y,Y,Y,Z,Z,Y,Y,Y,Y,Z,Z,Z,Z,Z,Z,Z,Z] rfl rfl (by kernel_rfl) (fun _ _ _ h => h) (Or.inl ⟨by rfl, ?_⟩) hHeld ?_ ?_
 rotate_left
 ·rintro w' ⟨s0, s1, s2, s3, s4, s5, s6⟩
  go_simp
  with_reducible rfl
 rotate_left
 ·simp only [Act.put, xi, xj, xk, i64_w, i32_w]
  rfl
 refine take_ (i := 13) (N := some 17) (v := ?_) (a' := ?_) #[Y,Y,Y,Y,Y,Y,Y,Z,Z,Y,Y,Y,Y,Y,Z,Z,Z,Z,Z,Z,Z] rfl rfl (by kernel_rfl) (fun _ _ _ h => h) (Or.inl ⟨by rfl, ?_⟩) hHeld ?_ ?_
 rotate_left
 ·rintro w' ⟨s0, s1, s2, s3, s4, s5, s6⟩
  go_simp
  with_reducible rfl
 rotate_left
 ·simp only [Act.put, xi, xj, xk, i64_w, i32_w]
  rfl
 clear hHeld
 refine one_ (i := 7) (N := some 11) #[Y,Y,Y,Y,Y,Y,Y,Y,Z,Y,Y,Y,Y,Y,Z,Z,Z,Z,Z,Z,Z] rfl rfl (by kernel_rfl) (by decide) (fun K hK => ?_)
 refine win.build (by rfl) rfl (cs := #[.int .i64 m0, .int .i64 m1]) (t := 51) (by first | (go_simp; done) | (go_simp; rfl)) ?_
 intro gs w3 hgs hnw hbl
 have hG1 := blk_below HG'.out hbl
 have hM1 := blk_below HM'.out hbl
 have n0_ := xm hG1
 have n1_ := xm hM1
 have n2_ := xm (below_step HB.out hbl)
 have HN := xm hnw
 clear HG' HM' HB hgs hnw hbl
 have HG' := n0_
 have HM' := n1_
 have HB := n2_
 clear n0_ n1_ n2_
 refine hK.out _ _ ⟨(xc HG'.out 0).trans rfl, (xc HG'.out 1).trans rfl, (xc HG'.out 2).trans rfl, (xc HG'.out 3).trans rfl, (xc HG'.out 4).trans rfl, (xc HM'.out 0).trans rfl, (xc HM'.out 1).trans rfl⟩ (fun hHeld => ?_)
 clear hK K
 refine norm_ (a' := ?_) ?_ ?_
 rotate_left
 ·show Act.put _ (some 11) _ = _
  simp only [Act.put, xi, xj, xk, i64_w, i32_w]
  rfl
 refine one_ (i := 8) (N := some 12) #[Y,Y,Y,Y,Y,Y,Y,Y,Y,Y,Y,Y,Y,Y,Z,Z,Z,Z,Z,Z,Z] rfl rfl (by kernel_rfl) (by decide) (fun K hK => ?_)
 refine win.append k51 base (by rfl) rfl (.tmp 9) (.tmp 11) 50 51 (.agg #[(.int .i64 0), (.int .i64 0)]) 16 rfl Try.underlying50 info51 rfl (by decide) (by omega) (.slice Ab B.length cb) B ⟨m0, m1⟩ [.int .i64 m0, .int .i64 m1] (fun k => some k = (Value.slice Ab B.length cb).ownBlock ∨ w.heap.size ≤ k) (fun _ => False) gs rfl rfl HN.out (k51_mkM _ _ _ ⟨m0, m1⟩) (fun _ hk => hk.elim) (fun k hk => .inr (Nat.le_trans HB.out.size hk)) (Kd.R_mono (Kd.R_below HV.out HB.out) (fun _ hk => .inl hk)) (Nat.le_trans (Nat.le_of_lt (Nat.lt_of_le_of_lt HBG.out HLT.out)) HB.out.size) (by have := HL.out; omega) ?_
 intro v1 w4 hR1 hgr hat
 obtain ⟨A1, c1, rfl⟩ := Kd.R_slice hR1
 have hgne : some g ≠ (Value.slice Ab B.length cb).ownBlock := fun he => (DB.out g he).1 rfl
 have hmne : some gb ≠ (Value.slice Ab B.length cb).ownBlock := fun he => by have := Kd.R_lt HV.out gb he.symm; have := HGB.out; omega
 have n0_ := xm ((hgr.block g (blk_lt HG'.out) hgne).trans HG'.out)
 have n1_ := xm ((hgr.block gb (blk_lt HM'.out) hmne).trans HM'.out)
 have HA := xm hR1
 have HX := xm (Kept.of_grown hgr (Kept.of_below HB.out (fun k => some k = (Value.slice Ab B.length cb).ownBlock)) (fun k hk => .inl hk.symm))
 have HY := xm (Nat.le_trans HB.out.size hgr.size)
 have HO_ := xm (show Below base w w4 from (HB.out.mono (Nat.le_of_lt (Nat.lt_of_le_of_lt HBG.out HLT.out))).grown hgr (Nat.le_trans (Nat.le_of_lt (Nat.lt_of_le_of_lt HBG.out HLT.out)) HB.out.size) (fun k hk => Kd.R_base HV.out k hk))
 have HAT := xm (show (Value.slice A1 (B ++ [(⟨m0, m1⟩ : S51)]).length c1).ownBlock = (Value.slice Ab B.length cb).ownBlock ∨ ∃ q, (Value.slice A1 (B ++ [(⟨m0, m1⟩ : S51)]).length c1).ownBlock = some q ∧ w.heap.size ≤ q from hat.elim (fun h => .inl h) (fun h => .inr ⟨_, h, HB.out.size⟩))
 clear HG' HM' hR1 hgr hat hgne hmne HN
 have HG' := n0_
 have HM' := n1_
 clear n0_ n1_ HB
 refine hK.out _ _ ⟨(xc HG'.out 0).trans rfl, (xc HG'.out 1).trans rfl, (xc HG'.out 2).trans rfl, (xc HG'.out 3).trans rfl, (xc HG'.out 4).trans rfl, (xc HM'.out 0).trans rfl, (xc HM'.out 1).trans rfl⟩ (fun hHeld => ?_)
 clear hK K
 refine norm_ (a' := ?_) ?_ ?_
 rotate_left
 ·show Act.put _ (some 12) _ = _
  simp only [Act.put, xi, xj, xk, i64_w, i32_w]
  rfl
 refine one_ (i := 14) (N := some 18) #[Y,Y,Y,Y,Y,Y,Y,Y,Y,Y,Y,Y,Y,Y,Y,Z,Z,Z,Z,Z,Z] rfl rfl (by kernel_rfl) (by decide) (fun K hK => ?_)
 refine goes_ Try.func151 (by kernel_rfl) rfl #[.agg #[.int .i64 a, .int .i64 b], .agg #[.int .i64 m0, .int .i64 m1]] (by rfl) rfl rfl (by (try simp only [List.map_toArray, List.map_cons, List.map_nil]); first | done | rfl) ?_
 refine (impl_Map_then.calls a b m0 m1 r0 r1 _ HT.out).mono ?_
 rintro e w5 ⟨rfl, hbl⟩
 refine ⟨_, rfl, ?_⟩
 have n0_ := xm (blk_below HG'.out hbl)
 have n1_ := xm (blk_below HM'.out hbl)
 have n2_ := xm (Kd.R_below HA.out hbl)
 have n3_ := xm (HX.out.below hbl)
 have n4_ := xm (Nat.le_trans HY.out hbl.size)
 have n5_ := xm (below_then HO_.out (Nat.le_trans (Nat.le_of_lt (Nat.lt_of_le_of_lt HBG.out HLT.out)) HY.out) hbl)
 clear HG' HM' HA HX HY HO_ hbl
 have HO_ := n5_
 have HG' := n0_
 have HM' := n1_
 have HA := n2_
 have HX := n3_
 have HY := n4_
 clear n0_ n1_ n2_ n3_ n4_ n5_
 refine hK.out _ _ ⟨(xc HG'.out 0).trans rfl, (xc HG'.out 1).trans rfl, (xc HG'.out 2).trans rfl, (xc HG'.out 3).trans rfl, (xc HG'.out 4).trans rfl, (xc HM'.out 0).trans rfl, (xc HM'.out 1).trans rfl⟩ (fun hHeld => ?_)
 clear hK K
 refine norm_ (a' := ?_) ?_ ?_
 rotate_left
 ·show Act.put _ (some 18) _ = _
  simp only [Act.put, xi, xj, xk, i64_w, i32_w]
  rfl
 have hc0 := blk_cells5 HG'.out
 obtain ⟨hc0, hc1, hc2, hc3, hc4, hf2, hf3, hf4⟩ := hc0
 refine pure_ (i := 15) (N := some 19) (v := ?_) (a' := ?_) #[Y,Y,Y,Y,Y,Y,Y,Y,Y,Y,Y,Y,Y,Y,Y,Y,Z,Z,Z,Z,Z] rfl rfl (by kernel_rfl) (fun _ _ _ h => h) (Or.inl ⟨by rfl, ?_⟩) ?_ ?_
 rotate_left
 ·intro w'
  go_simp
  with_reducible rfl
 rotate_left
 ·simp only [Act.put, xi, xj, xk, i64_w, i32_w]
  rfl
 refine pure_ (i := 16) (N := some 20) (v := ?_) (a' := ?_) #[Y,Y,Y,Y,Y,Y,Y,Y,Y,Y,Y,Y,Y,Y,Y,Y,Y,Z,Z,Z,Z] rfl rfl (by kernel_rfl) (fun _ _ _ h => h) (Or.inl ⟨by rfl, ?_⟩) ?_ ?_
 rotate_left
 ·intro w'
  go_simp
  with_reducible rfl
 rotate_left
 ·simp only [Act.put, xi, xj, xk, i64_w, i32_w]
  rfl
 refine last_ (i := 17) (N := none) #[Y,Y,Y,Y,Y,Y,Y,Y,Y,Y,Y,Y,Y,Y,Y,Y,Y,Y,Z,Z,Z] rfl rfl (by kernel_rfl) (by decide) (fun K hK => ?_)
 refine skip_ (by rfl) rfl (w1 := w5.setCell ⟨g, 2, none⟩ (.slice A1 (B ++ [(⟨m0, m1⟩ : S51)]).length c1)) (by first | (go_simp; done) | (go_simp; rfl)) ?_
 refine hK.out _ _ ?_
 clear hK K
 have hG2 := blk_set HG'.out 2 (.slice A1 (B ++ [(⟨m0, m1⟩ : S51)]).length c1)
 simp only [xi, xj, xk] at hG2
 have hc3' := (xc hG2 3).trans rfl
 have hc4' := (xc hG2 4).trans rfl
 have hf3' := xf hG2 3
 have hf4' := xf hG2 4
 refine pure_ (i := 18) (N := some 21) (v := ?_) (a' := ?_) #[Y,Y,Y,Y,Y,Y,Y,Y,Y,Y,Y,Y,Y,Y,Y,Y,Y,Y,Y,Z,Z] rfl rfl (by kernel_rfl) (fun _ _ _ h => h) (Or.inl ⟨by rfl, ?_⟩) ?_ ?_
 rotate_left
 ·intro w'
  go_simp
  with_reducible rfl
 rotate_left
 ·simp only [Act.put, xi, xj, xk, i64_w, i32_w]
  rfl
 refine pure_ (i := 19) (N := some 22) (v := ?_) (a' := ?_) #[Y,Y,Y,Y,Y,Y,Y,Y,Y,Y,Y,Y,Y,Y,Y,Y,Y,Y,Y,Y,Z] rfl rfl (by kernel_rfl) (fun _ _ _ h => h) (Or.inl ⟨by rfl, ?_⟩) ?_ ?_
 rotate_left
 ·intro w'
  go_simp
  with_reducible rfl
 rotate_left
 ·simp only [Act.put, xi, xj, xk, i64_w, i32_w]
  rfl
 refine last_ (i := 20) (N := none) #[Y,Y,Y,Y,Y,Y,Y,Y,Y,Y,Y,Y,Y,Y,Y,Y,Y,Y,Y,Y,Y] rfl rfl (by kernel_rfl) (by decide) (fun K hK => ?_)
 refine skip_ (by rfl) rfl (w1 := ((w5.setCell ⟨g, 2, none⟩ (.slice A1 (B ++ [(⟨m0, m1⟩ : S51)]).length c1)).setCell ⟨g, 3, none⟩ (.int .i64 r0)).setCell ⟨g, 4, none⟩ (.int .i64 r1)) (by first | (go_simp; done) | (go_simp; rfl)) ?_
 refine hK.out _ _ ?_
 clear hK K
 refine done_ (by kernel_rfl) ?_
 clear hc0 hc1 hc2 hc3 hc4 hf2 hf3 hf4 hc3' hc4' hf3' hf4' hG2
 refine bodyPost_end (results_none rfl _ _ _) rfl ?_
 have hlt := HLT.out
 have hgB := HBG.out
 have far : ∀ {v : Value} {xs : List S51} {ok : Nat → Prop}, Kd.R k51 51 w5 base ok v xs → (∀ k, ok k → k ≠ g) → Kd.R k51 51 (((w5.setCell ⟨g, 2, none⟩ (.slice A1 (B ++ [(⟨m0, m1⟩ : S51)]).length c1 : Value)).setCell ⟨g, 3, none⟩ (.int .i64 r0)).setCell ⟨g, 4, none⟩ (.int .i64 r1)) base ok v xs := fun h hk => Kd.R_far (p := ⟨g, 4, none⟩) (Kd.R_far (p := ⟨g, 3, none⟩) (Kd.R_far (p := ⟨g, 2, none⟩) h hk _) hk _) hk _
 have own1 := own_or HAT.out
 refine ⟨rfl, ((HO_.out.setCell (p := ⟨g, 2, none⟩) hgB _).setCell (p := ⟨g, 3, none⟩) hgB _).setCell (p := ⟨g, 4, none⟩) hgB _, (((HX.out.mono (fun k hk => (DB.out k hk).2)).setCell (p := ⟨g, 2, none⟩) (.inl HIN.out) _).setCell (p := ⟨g, 3, none⟩) (.inl HIN.out) _).setCell (p := ⟨g, 4, none⟩) (.inl HIN.out) _, ⟨⟨vf, vs, _, ?_, far (Kd.R_kept HF.out HX.out (fun k hk => (DF.out k hk).2.1)) (fun k hk => (DF.out k hk).2.2.1), far (Kd.R_kept HS.out HX.out (fun k hk => (DS.out k hk).1)) (fun k hk => (DS.out k hk).2.1), far (Kd.R_own HA.out) ?_, ?_, ?_, ?_⟩, .inl HIN.out, hgB⟩⟩
 ·have h := blk_set (blk_set (blk_set HG'.out 2 (.slice A1 (B ++ [(⟨m0, m1⟩ : S51)]).length c1 : Value)) 3 (.int .i64 r0)) 4 (.int .i64 r1)
  simpa only [xi, xj, xk] using h
 ·exact fun k hk => (own1 k hk).elim (fun h => (DB.out k h).1) (fun h => by omega)
 ·exact fun k hk => ⟨(DF.out k hk).1, fun h => (own1 k h).elim (fun h => (DF.out k hk).2.1 h) (fun h => by have := Kd.R_lt HF.out k hk.symm; omega), (DF.out k hk).2.2.1, .inl (DF.out k hk).2.2.2⟩
 ·exact fun k hk => ⟨fun h => (own1 k h).elim (fun h => (DS.out k hk).1 h) (fun h => by have := Kd.R_lt HS.out k hk.symm; omega), (DS.out k hk).2.1, .inl (DS.out k hk).2.2⟩
 ·exact fun k hk => ⟨(own1 k hk).elim (fun h => (DB.out k h).1) (fun h => by omega), (own1 k hk).elim (fun h => .inl (DB.out k h).2) (fun h => .inr h)⟩

end Go.Proofs.Ytpbpglbldgpckaa.G
