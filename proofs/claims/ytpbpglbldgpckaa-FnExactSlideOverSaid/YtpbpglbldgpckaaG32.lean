/- Written by a program of this claim's own, out of the translation: functions of the program as plain functions, and that the calls answer as these. No conditions. -/
import Derived.Test.YtpbpglbldgpckaaG0
import Derived.Test.YtpbpglbldgpckaaG23
import Derived.Test.YtpbpglbldgpckaaG24
import Derived.Test.YtpbpglbldgpckaaG35
import Derived.Test.YtpbpglbldgpckaaG36
namespace Go.Proofs.Ytpbpglbldgpckaa.G
open Go.RowKit Go.Proofs.Ytpbpglbldgpckaa.X Go.Proofs.YtpbpglbldgpckaaW.PrintWords Go.Proofs.YtpbpglbldgpckaaW.PrintLast Go.Proofs.YtpbpglbldgpckaaW.PrintMore
attribute [local go_sem] max2_int min2_int max_two min_two max_three min_three max_four min_four   -- for this text's walks alone
set_option linter.unusedVariables false
set_option linter.unusedSimpArgs false

/-! ### impl_Window_pop: function 104 -/
/-- The rows of a window, each with its value. -/
structure WinV (W : World) (base g : Nat) (Pw : Nat → Prop) (vf vs vb : Value) (F S B : List S51) (a b : Int) : Prop where
 blk : W.heap[g]? = some (.cells #[vf, vs, vb, .int .i64 a, .int .i64 b] 53 (0, 0))
 rf : Kd.R k51 51 W base (fun k => some k = vf.ownBlock) vf F
 rs : Kd.R k51 51 W base (fun k => some k = vs.ownBlock) vs S
 rb : Kd.R k51 51 W base (fun k => some k = vb.ownBlock) vb B
 df : ∀ k, some k = vf.ownBlock → some k ≠ vs.ownBlock ∧ some k ≠ vb.ownBlock ∧ k ≠ g ∧ Pw k
 ds : ∀ k, some k = vs.ownBlock → some k ≠ vb.ownBlock ∧ k ≠ g ∧ Pw k
 db : ∀ k, some k = vb.ownBlock → k ≠ g ∧ Pw k
 inn : Pw g
 ge : base ≤ g
theorem WinV.at {W : World} {base g : Nat} {Pw : Nat → Prop} {vf vs vb : Value} {F S B : List S51} {a b : Int} (h : WinV W base g Pw vf vs vb F S B a b) : WinAt W base g Pw F S B a b :=
 ⟨⟨vf, vs, vb, h.blk, h.rf, h.rs, h.rb, h.df, h.ds, h.db⟩, h.inn, h.ge⟩
theorem WinAt.v {W : World} {base g : Nat} {Pw : Nat → Prop} {F S B : List S51} {a b : Int} (h : WinAt W base g Pw F S B a b) : ∃ vf vs vb, WinV W base g Pw vf vs vb F S B a b := by
 obtain ⟨⟨vf, vs, vb, h1, h2, h3, h4, h5, h6, h7⟩, h8, h9⟩ := h
 exact ⟨vf, vs, vb, h1, h2, h3, h4, h5, h6, h7, h8, h9⟩
theorem WinV.below {W W2 : World} {base g : Nat} {Pw : Nat → Prop} {vf vs vb : Value} {F S B : List S51} {a b : Int} (h : WinV W base g Pw vf vs vb F S B a b) (hb : Below W.heap.size W W2) : WinV W2 base g Pw vf vs vb F S B a b :=
 ⟨blk_below h.blk hb, Kd.R_below h.rf hb, Kd.R_below h.rs hb, Kd.R_below h.rb hb, h.df, h.ds, h.db, h.inn, h.ge⟩
theorem WinV.mono {W : World} {base g : Nat} {Pw Pw' : Nat → Prop} {vf vs vb : Value} {F S B : List S51} {a b : Int} (h : WinV W base g Pw vf vs vb F S B a b) (hp : ∀ k, Pw k → Pw' k) : WinV W base g Pw' vf vs vb F S B a b :=
 ⟨h.blk, h.rf, h.rs, h.rb, fun k hk => ⟨(h.df k hk).1, (h.df k hk).2.1, (h.df k hk).2.2.1, hp k (h.df k hk).2.2.2⟩, fun k hk => ⟨(h.ds k hk).1, (h.ds k hk).2.1, hp k (h.ds k hk).2.2⟩, fun k hk => ⟨(h.db k hk).1, hp k (h.db k hk).2⟩, hp g h.inn, h.ge⟩
/-- The window's block takes other values: the rows are told anew. -/
theorem WinV.cells {W : World} {base g : Nat} {Pw : Nat → Prop} {vf vs vb : Value} {F S B : List S51} {a b : Int} (h : WinV W base g Pw vf vs vb F S B a b) :
  W.cell? ⟨g, 0, none⟩ = some vf ∧ W.cell? ⟨g, 1, none⟩ = some vs ∧ W.cell? ⟨g, 2, none⟩ = some vb ∧ W.cell? ⟨g, 3, none⟩ = some (.int .i64 a) ∧ W.cell? ⟨g, 4, none⟩ = some (.int .i64 b) :=
 ⟨(xc h.blk 0).trans rfl, (xc h.blk 1).trans rfl, (xc h.blk 2).trans rfl, (xc h.blk 3).trans rfl, (xc h.blk 4).trans rfl⟩
theorem WinV.free {W : World} {base g : Nat} {Pw : Nat → Prop} {vf vs vb : Value} {F S B : List S51} {a b : Int} (h : WinV W base g Pw vf vs vb F S B a b) :
  W.frozen? ⟨g, 0, none⟩ = false ∧ W.frozen? ⟨g, 1, none⟩ = false ∧ W.frozen? ⟨g, 2, none⟩ = false ∧ W.frozen? ⟨g, 3, none⟩ = false ∧ W.frozen? ⟨g, 4, none⟩ = false := ⟨xf h.blk 0, xf h.blk 1, xf h.blk 2, xf h.blk 3, xf h.blk 4⟩
theorem R_at51 {W : World} {base n c : Nat} {ok : Nat → Prop} {ad : Addr} {xs : List S51} (h : Kd.R k51 51 W base ok (.slice (some ad) n c) xs) (i : Int) (h0 : 0 ≤ i) (h1 : i < xs.length) :
  W.cell? (ad.add (i.toNat * 2)) = some (.int .i64 (rd_T51 xs i).f0) ∧ W.cell? ⟨(ad.add (i.toNat * 2)).block, (ad.add (i.toNat * 2)).off + 1, none⟩ = some (.int .i64 (rd_T51 xs i).f1) := by
 obtain ⟨ad', e, h2, h3⟩ := at_T51 (Kd.R_reads' h).2.2 i h0 h1
 cases e
 exact ⟨h2, h3⟩
theorem WinV.far {W : World} {base g : Nat} {Pw : Nat → Prop} {vf vs vb : Value} {F S B : List S51} {a b : Int} (h : WinV W base g Pw vf vs vb F S B a b) {g2 : Nat} (hg : g2 ≠ g)
  (hne : ∀ k, some k = vf.ownBlock ∨ some k = vs.ownBlock ∨ some k = vb.ownBlock → k ≠ g2) (i : Nat) (u : Value) : WinV (W.setCell ⟨g2, i, none⟩ u) base g Pw vf vs vb F S B a b :=
 ⟨blk_far (p := ⟨g2, i, none⟩) h.blk (Ne.symm hg) u, Kd.R_far (p := ⟨g2, i, none⟩) h.rf (fun k hk => hne k (.inl hk)) u, Kd.R_far (p := ⟨g2, i, none⟩) h.rs (fun k hk => hne k (.inr (.inl hk))) u, Kd.R_far (p := ⟨g2, i, none⟩) h.rb (fun k hk => hne k (.inr (.inr hk))) u, h.df, h.ds, h.db, h.inn, h.ge⟩
/-- A pop's two stores. -/
theorem pop_left {W : World} {base g : Nat} {Pw : Nat → Prop} {ad ads : Addr} {n m cf cs : Nat} {vb : Value} {F S B : List S51} {a b : Int} (h : WinV W base g Pw (.slice (some ad) n cf) (.slice (some ads) m cs) vb F S B a b)
  (j : Int) (p0 : 0 ≤ j) (q0 : j < (F.length : Int)) (hS : S.length = F.length) :
  WinV ((W.setCell ⟨g, 0, none⟩ (.slice (some ad) j.toNat cf)).setCell ⟨g, 1, none⟩ (.slice (some ads) j.toNat cs)) base g Pw (.slice (some ad) j.toNat cf) (.slice (some ads) j.toNat cs) vb (F.take j.toNat) (S.take j.toNat) B a b := by
 have far : ∀ {v : Value} {xs : List S51} {ok : Nat → Prop}, Kd.R k51 51 W base ok v xs → (∀ k, ok k → k ≠ g) → Kd.R k51 51 ((W.setCell ⟨g, 0, none⟩ (.slice (some ad) j.toNat cf)).setCell ⟨g, 1, none⟩ (.slice (some ads) j.toNat cs)) base ok v xs := fun h hk => Kd.R_far (p := ⟨g, 1, none⟩) (Kd.R_far (p := ⟨g, 0, none⟩) h hk _) hk _
 refine ⟨?_, far (Kd.R_take h.rf (by omega)) (fun k hk => (h.df k hk).2.2.1), far (Kd.R_take h.rs (by omega)) (fun k hk => (h.ds k hk).2.1), far h.rb (fun k hk => (h.db k hk).1), h.df, h.ds, h.db, h.inn, h.ge⟩
 have h := blk_set (blk_set h.blk 0 (.slice (some ad) j.toNat cf)) 1 (.slice (some ads) j.toNat cs)
 simpa only [xi, xj, xk] using h
/-- What a pop leaves of the two rows in front, and of the numbers. -/
def tailOf (F : List S51) : List S51 := F.take (F.length - 1)
theorem blk_all5 {w : World} {g t : Nat} {a0 a1 a2 a3 a4 : Value} (h : w.heap[g]? = some (.cells #[a0, a1, a2, a3, a4] t (0, 0))) :
  w.cell? ⟨g, 0, none⟩ = some a0 ∧ w.cell? ⟨g, 1, none⟩ = some a1 ∧ w.cell? ⟨g, 2, none⟩ = some a2 ∧ w.cell? ⟨g, 3, none⟩ = some a3 ∧ w.cell? ⟨g, 4, none⟩ = some a4 ∧ w.frozen? ⟨g, 0, none⟩ = false ∧ w.frozen? ⟨g, 1, none⟩ = false ∧ w.frozen? ⟨g, 2, none⟩ = false ∧ w.frozen? ⟨g, 3, none⟩ = false ∧ w.frozen? ⟨g, 4, none⟩ = false :=
 ⟨(xc h 0).trans rfl, (xc h 1).trans rfl, (xc h 2).trans rfl, (xc h 3).trans rfl, (xc h 4).trans rfl, xf h 0, xf h 1, xf h 2, xf h 3, xf h 4⟩
theorem rev_below {B : Nat} {w0 w W3 : World} (h0 : Below B w0 w) (hb : Below B w0 W3) (hs : w.heap.size ≤ W3.heap.size) : Below B w W3 :=
 ⟨hb.os.trans h0.os.symm, hb.tape.trans h0.tape.symm, hb.output.trans h0.output.symm, hs, fun k hk => (hb.block k hk).trans (h0.block k hk).symm⟩
set_option maxHeartbeats 8000000 in
set_option maxRecDepth 100000 in
theorem impl_Window_pop.full (g base : Nat) (Pw : Nat → Prop) (F S B : List S51) (a b : Int) (w : World) (hW : WinAt w base g Pw F S B a b) (hF : 0 < F.length) (hS : S.length = F.length) :
  Calls Try.prog 104 #[.pointer (some ⟨g, 0, none⟩)] w fun e w' => (∃ v, e = .returned v) ∧ Below base w w' ∧ Kept w w' Pw ∧ WinAt w' base g (fun k => Pw k ∨ w.heap.size ≤ k) (tailOf F) (tailOf S) B a b := by
 obtain ⟨vf, vs, vb, hV⟩ := hW.v
 have hu53 := Try.underlying53
 have hu51 := Try.underlying51
 have hu50 := Try.underlying50
 obtain ⟨Af, cf, rfl⟩ := Kd.R_slice hV.rf
 obtain ⟨ad, rfl, hdrop⟩ := (Kd.R_reads' hV.rf).2.2.2.2 hF
 clear hdrop
 obtain ⟨As, cs, rfl⟩ := Kd.R_slice hV.rs
 obtain ⟨ads, rfl, hdrop⟩ := (Kd.R_reads' hV.rs).2.2.2.2 (by rw [hS]; exact hF)
 clear hdrop
 have hmx := Kd.C_max (Kd.R_reads' hV.rf).2.2
 have HS := xm hS
 have HF := xm hF
 have hlt := blk_lt hV.blk
 have HLT := xm hlt
 have HV := xm hV
 have HK := xm (Kept.refl w Pw)
 have HB := xm (Below.refl base w)
 clear hV hS hW hlt
 obtain ⟨n, hn⟩ : ∃ n : Nat, F.length = n + 1 := ⟨F.length - 1, by omega⟩
 have hz : ((F.length : Int) == 0) = false := by rw [beq_eq_false_iff_ne]; omega
 have hz2 : decide ((F.length : Int) = 0) = false := decide_eq_false (by omega)
 have HN := xm hn
 obtain ⟨j, hj⟩ : ∃ j : Int, (F.length : Int) - 1 = j := ⟨_, rfl⟩
 have hj' : j = (n : Int) := by omega
 have HJ := xm hj'
 have p0 : 0 ≤ j := by omega
 have q0 : j < (F.length : Int) := by omega
 clear hn hj'
 obtain ⟨hc0, hc1, hc2, hc3, hc4⟩ := HV.out.cells
 go_enter Try.func104, Try.ntmps104
 go_wp2_with (first
  | ((with_reducible refine gate_dst (N := 2) rfl ?_); refine box_event ?hga (N := 2) ?hda (cs := #[.int .i64 0, .int .i64 0]) (t := 51) ?hra ?_; (case hda => rfl); (case hga => rfl); (case hra => first | (go_simp; done) | (go_simp; rfl)); intro g2 hg2 w1 hbox hbb; have n0_ := xm (HV.out.below hbb); have n1_ := xm (HK.out.below hbb); have n2_ := xm (below_then HB.out (Nat.le_of_lt (Nat.lt_of_le_of_lt HV.out.ge HLT.out)) hbb); have HGG := xm (show g2 ≠ g from fun h => by have := blk_lt HV.out.blk; omega); have HGS := xm (Nat.le_of_eq hg2.symm); have HNE := xm (show ∀ k, some k = (Value.slice (some ad) F.length cf).ownBlock ∨ some k = (Value.slice (some ads) S.length cs).ownBlock ∨ some k = vb.ownBlock → k ≠ g2 from fun k hk => by rcases hk with hk | hk | hk; exact (by have := Kd.R_lt HV.out.rf k hk.symm; omega); exact (by have := Kd.R_lt HV.out.rs k hk.symm; omega); exact (by have := Kd.R_lt HV.out.rb k hk.symm; omega)); have HM := xm hbox; clear HV HK HB hg2 hbox hbb hc0 hc1 hc2 hc3 hc4; have HV := n0_; have HK := n1_; have HB := n2_; clear n0_ n1_ n2_; obtain ⟨hc0, hc1, hc2, hc3, hc4⟩ := HV.out.cells; obtain ⟨hx0, hx1⟩ := R_at51 HV.out.rf j p0 q0))
 have hal : Below w1.heap.size w1 (w1.alloc (Obj.cells #[Value.int IntKind.i64 (rd_T51 F j).f0, Value.int IntKind.i64 (rd_T51 F j).f1] 51)) := xa (Below.refl _ _) _
 have n0_ := xm (HV.out.below hal)
 have n1_ := xm (HK.out.below hal)
 have n2_ := xm (below_then HB.out (Nat.le_trans (Nat.le_of_lt (Nat.lt_of_le_of_lt HV.out.ge HLT.out)) HK.out.1) hal)
 have n3_ := xm (blk_below HM.out hal)
 have h6 := blk_new w1 (Obj.cells #[Value.int IntKind.i64 (rd_T51 F j).f0, Value.int IntKind.i64 (rd_T51 F j).f1] 51)
 obtain ⟨g6, hg6⟩ : ∃ q, w1.heap.size = q := ⟨_, rfl⟩
 rw [hg6] at h6 ⊢
 have n4_ := xm (show g6 ≠ g from fun h => by have := blk_lt HV.out.blk; omega)
 have n5_ := xm (show g6 ≠ g2 from fun h => by have := blk_lt HM.out; omega)
 clear HV HK HB HM hal hc0 hc1 hc2 hc3 hc4 hx0 hx1 hg6
 have HV := n0_
 have HK := n1_
 have HB := n2_
 have HM := n3_
 have H6 := xm h6
 clear n0_ n1_ n2_ n3_ h6
 generalize w1.alloc (Obj.cells #[Value.int IntKind.i64 (rd_T51 F j).f0, Value.int IntKind.i64 (rd_T51 F j).f1] 51) = wt at HV HK HB HM H6 ⊢
 have hV2 := HV.out.below (below_drew (Below.refl wt.heap.size wt))
 have n1_ := xm (HK.out.drew)
 have n2_ := xm (below_drew HB.out)
 have n3_ := xm (xr HM.out)
 have n6_ := xm (xr H6.out)
 obtain ⟨i5, hi5, hz5⟩ := Option.map_eq_some_iff.1 info51
 have hcutF := cut_to (P := Try.prog) 50 51 .i64 Try.underlying50 hi5 (some ad) F.length cf j p0 (Int.le_of_lt q0) (Kd.R_reads' HV.out.rf).2.1
 have HQ_ : j < (F.length : Int) := q0
 have hcutS := cut_to (P := Try.prog) 50 51 .i64 Try.underlying50 hi5 (some ads) S.length cs j p0 (by rw [HS.out]; exact Int.le_of_lt HQ_) (Kd.R_reads' HV.out.rs).2.1
 clear hi5 hz5 HQ_
 refine start_ (n := 20) (S := fun w' => (w'.cell? ⟨g, 0, none⟩ = some (.slice (some ad) F.length cf) ∧ w'.cell? ⟨g, 1, none⟩ = some (.slice (some ads) S.length cs))) (ds := [16, 19]) #[Z,Z,Z,Z,Z,Z,Z,Z,Z,Z,Z,Z,Z,Z,Z,Z,Z,Z,Z,Z] (by kernel_rfl) rfl rfl ⟨hV2.cells.1, hV2.cells.2.1⟩ (fun hHeld => ?_)
 clear HV HK HB HM H6
 have HV := xm hV2
 have HK := n1_
 have HB := n2_
 have HM := n3_
 have H6 := n6_
 clear hV2 n1_ n2_ n3_ n6_
 generalize wt.drew = wu at HV HK HB HM H6 hHeld ⊢
 refine pure_ (i := 0) (N := some 58) (v := ?_) (a' := ?_) #[Y,Z,Z,Z,Z,Z,Z,Z,Z,Z,Z,Z,Z,Z,Z,Z,Z,Z,Z,Z] rfl rfl (by kernel_rfl) (fun _ _ _ h => h) (Or.inl ⟨by rfl, ?_⟩) ?_ ?_
 rotate_left
 ·intro w'
  go_simp
  with_reducible rfl
 rotate_left
 ·simp only [Act.put, xi, xj, xk, i64_w, i32_w]
  rfl
 refine pure_ (i := 1) (N := some 59) (v := ?_) (a' := ?_) #[Y,Y,Z,Z,Z,Z,Z,Z,Z,Z,Z,Z,Z,Z,Z,Z,Z,Z,Z,Z] rfl rfl (by kernel_rfl) (fun _ _ _ h => h) (Or.inl ⟨by rfl, ?_⟩) ?_ ?_
 rotate_left
 ·intro w'
  go_simp
  with_reducible rfl
 rotate_left
 ·simp only [Act.put, xi, xj, xk, i64_w, i32_w]
  rfl
 refine pure_ (i := 2) (N := some 60) (v := ?_) (a' := ?_) #[Y,Y,Y,Z,Z,Z,Z,Z,Z,Z,Z,Z,Z,Z,Z,Z,Z,Z,Z,Z] rfl rfl (by kernel_rfl) (fun _ _ _ h => h) (Or.inl ⟨by rfl, ?_⟩) ?_ ?_
 rotate_left
 ·intro w'
  go_simp
  with_reducible rfl
 rotate_left
 ·simp only [Act.put, xi, xj, xk, i64_w, i32_w]
  rfl
 refine pure_ (i := 3) (N := some 61) (v := ?_) (a' := ?_) #[Y,Y,Y,Y,Z,Z,Z,Z,Z,Z,Z,Z,Z,Z,Z,Z,Z,Z,Z,Z] rfl rfl (by kernel_rfl) (fun _ _ _ h => h) (Or.inl ⟨by rfl, ?_⟩) ?_ ?_
 rotate_left
 ·intro w'
  go_simp
  with_reducible rfl
 rotate_left
 ·simp only [Act.put, xi, xj, xk, i64_w, i32_w]
  rfl
 refine pure_ (i := 4) (N := some 62) (v := ?_) (a' := ?_) #[Y,Y,Y,Y,Y,Z,Z,Z,Z,Z,Z,Z,Z,Z,Z,Z,Z,Z,Z,Z] rfl rfl (by kernel_rfl) (fun _ _ _ h => h) (Or.inl ⟨by rfl, ?_⟩) ?_ ?_
 rotate_left
 ·intro w'
  go_simp
  with_reducible rfl
 rotate_left
 ·simp only [Act.put, xi, xj, xk, i64_w, i32_w]
  rfl
 refine take_ (i := 5) (N := some 63) (v := ?_) (a' := ?_) #[Y,Y,Y,Y,Y,Y,Z,Z,Z,Z,Z,Z,Z,Z,Z,Z,Z,Z,Z,Z] rfl rfl (by kernel_rfl) (fun _ _ _ h => h) (Or.inl ⟨by rfl, ?_⟩) hHeld ?_ ?_
 rotate_left
 ·rintro w' ⟨s0, s1⟩
  go_simp
  with_reducible rfl
 rotate_left
 ·simp only [Act.put, xi, xj, xk, i64_w, i32_w]
  rfl
 refine pure_ (i := 6) (N := some 64) (v := ?_) (a' := ?_) #[Y,Y,Y,Y,Y,Y,Y,Z,Z,Z,Z,Z,Z,Z,Z,Z,Z,Z,Z,Z] rfl rfl (by kernel_rfl) (fun _ _ _ h => h) (Or.inl ⟨by rfl, ?_⟩) ?_ ?_
 rotate_left
 ·intro w'
  go_simp
  with_reducible rfl
 rotate_left
 ·simp only [Act.put, xi, xj, xk, i64_w, i32_w]
  rfl
 refine pure_ (i := 7) (N := some 65) (v := ?_) (a' := ?_) #[Y,Y,Y,Y,Y,Y,Y,Y,Z,Z,Z,Z,Z,Z,Z,Z,Z,Z,Z,Z] rfl rfl (by kernel_rfl) (fun _ _ _ h => h) (Or.inl ⟨by rfl, ?_⟩) ?_ ?_
 rotate_left
 ·intro w'
  go_simp
  with_reducible rfl
 rotate_left
 ·simp only [Act.put, xi, xj, xk, i64_w, i32_w]
  rfl
 refine pure_ (i := 8) (N := some 66) (v := ?_) (a' := ?_) #[Y,Y,Y,Y,Y,Y,Y,Y,Y,Z,Z,Z,Z,Z,Z,Z,Z,Z,Z,Z] rfl rfl (by kernel_rfl) (fun _ _ _ h => h) (Or.inl ⟨by rfl, ?_⟩) ?_ ?_
 rotate_left
 ·intro w'
  go_simp
  with_reducible rfl
 rotate_left
 ·simp only [Act.put, xi, xj, xk, i64_w, i32_w]
  rfl
 refine pure_ (i := 9) (N := some 67) (v := ?_) (a' := ?_) #[Y,Y,Y,Y,Y,Y,Y,Y,Y,Y,Z,Z,Z,Z,Z,Z,Z,Z,Z,Z] rfl rfl (by kernel_rfl) (fun _ _ _ h => h) (Or.inl ⟨by rfl, ?_⟩) ?_ ?_
 rotate_left
 ·intro w'
  go_simp
  with_reducible rfl
 rotate_left
 ·simp only [Act.put, xi, xj, xk, i64_w, i32_w]
  rfl
 refine pure_ (i := 10) (N := some 68) (v := ?_) (a' := ?_) #[Y,Y,Y,Y,Y,Y,Y,Y,Y,Y,Y,Z,Z,Z,Z,Z,Z,Z,Z,Z] rfl rfl (by kernel_rfl) (fun _ _ _ h => h) (Or.inl ⟨by rfl, ?_⟩) ?_ ?_
 rotate_left
 ·intro w'
  go_simp
  with_reducible rfl
 rotate_left
 ·simp only [Act.put, xi, xj, xk, i64_w, i32_w]
  rfl
 refine take_ (i := 11) (N := some 69) (v := ?_) (a' := ?_) #[Y,Y,Y,Y,Y,Y,Y,Y,Y,Y,Y,Y,Z,Z,Z,Z,Z,Z,Z,Z] rfl rfl (by kernel_rfl) (fun _ _ _ h => h) (Or.inl ⟨by rfl, ?_⟩) hHeld ?_ ?_
 rotate_left
 ·rintro w' ⟨s0, s1⟩
  go_simp
  with_reducible rfl
 rotate_left
 ·simp only [Act.put, xi, xj, xk, i64_w, i32_w]
  rfl
 refine pure_ (i := 12) (N := some 70) (v := ?_) (a' := ?_) #[Y,Y,Y,Y,Y,Y,Y,Y,Y,Y,Y,Y,Y,Z,Z,Z,Z,Z,Z,Z] rfl rfl (by kernel_rfl) (fun _ _ _ h => h) (Or.inl ⟨by rfl, ?_⟩) ?_ ?_
 rotate_left
 ·intro w'
  go_simp
  with_reducible rfl
 rotate_left
 ·simp only [Act.put, xi, xj, xk, i64_w, i32_w]
  rfl
 refine pure_ (i := 13) (N := some 71) (v := ?_) (a' := ?_) #[Y,Y,Y,Y,Y,Y,Y,Y,Y,Y,Y,Y,Y,Y,Z,Z,Z,Z,Z,Z] rfl rfl (by kernel_rfl) (fun _ _ _ h => h) (Or.inl ⟨by rfl, ?_⟩) ?_ ?_
 rotate_left
 ·intro w'
  go_simp
  with_reducible rfl
 rotate_left
 ·simp only [Act.put, xi, xj, xk, i64_w, i32_w]
  rfl
 refine pure_ (i := 14) (N := some 72) (v := ?_) (a' := ?_) #[Y,Y,Y,Y,Y,Y,Y,Y,Y,Y,Y,Y,Y,Y,Y,Z,Z,Z,Z,Z] rfl rfl (by kernel_rfl) (fun _ _ _ h => h) (Or.inl ⟨by rfl, ?_⟩) ?_ ?_
 rotate_left
 ·intro w'
  go_simp
  with_reducible rfl
 rotate_left
 ·simp only [Act.put, xi, xj, xk, i64_w, i32_w]
  rfl
 refine pure_ (i := 15) (N := some 73) (v := ?_) (a' := ?_) #[Y,Y,Y,Y,Y,Y,Y,Y,Y,Y,Y,Y,Y,Y,Y,Y,Z,Z,Z,Z] rfl rfl (by kernel_rfl) (fun _ _ _ h => h) (Or.inl ⟨by rfl, ?_⟩) ?_ ?_
 rotate_left
 ·intro w'
  go_simp
  with_reducible rfl
 rotate_left
 ·simp only [Act.put, xi, xj, xk, i64_w, i32_w]
  rfl
 clear hHeld hcutF hcutS
 obtain ⟨hc0, hc1, hc2, hc3, hc4⟩ := HV.out.cells
 obtain ⟨hf0, hf1, hf2, hf3, hf4⟩ := HV.out.free
 refine last_ (i := 16) (N := none) #[Y,Y,Y,Y,Y,Y,Y,Y,Y,Y,Y,Y,Y,Y,Y,Y,Y,Z,Z,Z] rfl rfl (by kernel_rfl) (by decide) (fun K hK => ?_)
 refine skip_ (by rfl) rfl (w1 := wu.setCell ⟨g, 0, none⟩ (.slice (some ad) j.toNat cf)) (by first | (go_simp; done) | (go_simp; rfl)) ?_
 refine hK.out _ _ ?_
 clear hK K
 refine pure_ (i := 17) (N := some 74) (v := ?_) (a' := ?_) #[Y,Y,Y,Y,Y,Y,Y,Y,Y,Y,Y,Y,Y,Y,Y,Y,Y,Y,Z,Z] rfl rfl (by kernel_rfl) (fun _ _ _ h => h) (Or.inl ⟨by rfl, ?_⟩) ?_ ?_
 rotate_left
 ·intro w'
  go_simp
  with_reducible rfl
 rotate_left
 ·simp only [Act.put, xi, xj, xk, i64_w, i32_w]
  rfl
 refine pure_ (i := 18) (N := some 75) (v := ?_) (a' := ?_) #[Y,Y,Y,Y,Y,Y,Y,Y,Y,Y,Y,Y,Y,Y,Y,Y,Y,Y,Y,Z] rfl rfl (by kernel_rfl) (fun _ _ _ h => h) (Or.inl ⟨by rfl, ?_⟩) ?_ ?_
 rotate_left
 ·intro w'
  go_simp
  with_reducible rfl
 rotate_left
 ·simp only [Act.put, xi, xj, xk, i64_w, i32_w]
  rfl
 refine last_ (i := 19) (N := none) #[Y,Y,Y,Y,Y,Y,Y,Y,Y,Y,Y,Y,Y,Y,Y,Y,Y,Y,Y,Y] rfl rfl (by kernel_rfl) (by decide) (fun K hK => ?_)
 refine skip_ (by rfl) rfl (w1 := (wu.setCell ⟨g, 0, none⟩ (.slice (some ad) j.toNat cf)).setCell ⟨g, 1, none⟩ (.slice (some ads) j.toNat cs)) (by first | (go_simp; done) | (go_simp; rfl)) ?_
 refine hK.out _ _ ?_
 clear hK K
 refine done_ (by kernel_rfl) ?_
 clear hc0 hc1 hc2 hc3 hc4 hf0 hf1 hf2 hf3 hf4
 have hg2 : g2 ≠ g := HGG.out
 have n0_ := xm (pop_left HV.out j p0 q0 HS.out)
 have n1_ := xm (((HK.out.setCell (p := ⟨g, 0, none⟩) (.inl HV.out.inn) (.slice (some ad) j.toNat cf)).setCell (p := ⟨g, 1, none⟩) (.inl HV.out.inn) (.slice (some ads) j.toNat cs)))
 have n2_ := xm ((HB.out.setCell (p := ⟨g, 0, none⟩) HV.out.ge (.slice (some ad) j.toNat cf)).setCell (p := ⟨g, 1, none⟩) HV.out.ge (.slice (some ads) j.toNat cs))
 have n3_ := xm (blk_far (p := ⟨g, 1, none⟩) (blk_far (p := ⟨g, 0, none⟩) HM.out hg2 (.slice (some ad) j.toNat cf)) hg2 (.slice (some ads) j.toNat cs))
 have n6_ := xm (blk_far (p := ⟨g, 1, none⟩) (blk_far (p := ⟨g, 0, none⟩) H6.out n4_.out (.slice (some ad) j.toNat cf)) n4_.out (.slice (some ads) j.toNat cs))
 clear HV HK HB HM H6 hg2
 have HV := n0_
 have HK := n1_
 have HB := n2_
 have HM := n3_
 have H6 := n6_
 clear n0_ n1_ n2_ n3_ n6_
 generalize (wu.setCell ⟨g, 0, none⟩ (.slice (some ad) j.toNat cf)).setCell ⟨g, 1, none⟩ (.slice (some ads) j.toNat cs) = wv at HV HK HB HM H6 ⊢
 have hm0 := (xc H6.out 0).trans rfl
 have hm1 := (xc H6.out 1).trans rfl
 have h20 := (xc HM.out 0).trans rfl
 have h21 := (xc HM.out 1).trans rfl
 have f20 := xf HM.out 0
 have f21 := xf HM.out 1
 go_wp2
 have h0 := blk_set (blk_set HM.out 0 (.int .i64 (rd_T51 F j).f0)) 1 (.int .i64 (rd_T51 F j).f1)
 simp only [xi, xj, xk] at h0
 refine bodyPost_ret (results_ct rfl _ _ g2 51 #[.int .i64 (rd_T51 F j).f0, .int .i64 (rd_T51 F j).f1] (0, 0) _ rfl h0 hu51 rfl rfl) rfl ?_
 have hge : base ≤ g2 := Nat.le_trans (Nat.le_of_lt (Nat.lt_of_le_of_lt HV.out.ge HLT.out)) HGS.out
 refine ⟨⟨_, rfl⟩, ((HB.out.setCell (p := ⟨g2, 0, none⟩) hge _).setCell (p := ⟨g2, 1, none⟩) hge _), ((HK.out.setCell (p := ⟨g2, 0, none⟩) (.inr HGS.out) _).setCell (p := ⟨g2, 1, none⟩) (.inr HGS.out) _), ?_⟩
 have hV := ((HV.out.far HGG.out HNE.out 0 (.int .i64 (rd_T51 F j).f0)).far HGG.out HNE.out 1 (.int .i64 (rd_T51 F j).f1)).mono (Pw' := fun k => Pw k ∨ w.heap.size ≤ k) (fun k hk => .inl hk)
 have e : j.toNat = F.length - 1 := by have := HJ.out; have := HN.out; omega
 have e2 : F.take j.toNat = tailOf F := by unfold tailOf; rw [e]
 have e3 : S.take j.toNat = tailOf S := by unfold tailOf; rw [HS.out, e]
 rw [e2, e3] at hV
 exact hV.at
set_option maxHeartbeats 8000000 in
set_option maxRecDepth 100000 in
theorem impl_Window_pop.clear_ (g : Nat) (Pw : Nat → Prop) (S B F1 S1 : List S51) (a b : Int) (k1 k2 : Nat) (w0 w : World) (hB0 : Below w0.heap.size w0 w) (hW : WinAt w w0.heap.size g Pw [] S B a b) (hBn : 0 < B.length)
  (hrev : slices_Reverse_Limpl_Map_impl_Map.f k1 B = some F1) (hsum : impl_sumsOf.f k2 F1 = some S1) (hS : S1.length = F1.length) :
  Calls Try.prog 104 #[.pointer (some ⟨g, 0, none⟩)] w fun e w' => (∃ v, e = .returned v) ∧ Below w0.heap.size w w' ∧ Kept w w' Pw ∧ WinAt w' w0.heap.size g (fun k => Pw k ∨ w.heap.size ≤ k) (tailOf F1) (tailOf S1) [] 1 0 := by
 obtain ⟨vf, vs, vb, hV⟩ := hW.v
 have hu53 := Try.underlying53
 have hu51 := Try.underlying51
 have hu50 := Try.underlying50
 obtain ⟨Af, cf, rfl⟩ := Kd.R_slice hV.rf
 obtain ⟨Ab, cb, rfl⟩ := Kd.R_slice hV.rb
 obtain ⟨adb, rfl, hdrop⟩ := (Kd.R_reads' hV.rb).2.2.2.2 hBn
 clear hdrop
 have hmx := Kd.C_max (Kd.R_reads' hV.rb).2.2
 have HS := xm hS
 have HREV := xm hrev
 have HSUM := xm hsum
 have HBN := xm hBn
 have hlt := blk_lt hV.blk
 have HLT := xm hlt
 have HGE := xm hV.ge
 have HIN := xm hV.inn
 have HDB := xm hV.db
 have HNG := xm (fun k hk => (hV.db k hk).1)
 have HG := xm hV.blk
 have HRB := xm hV.rb
 have HK := xm (Kept.refl w Pw)
 have HB := xm (Below.refl w0.heap.size w)
 have HB0 := xm hB0
 have HLB := xm (Kd.R_lt hV.rb)
 clear hV hS hW hlt hrev hsum hB0
 obtain ⟨j, hj⟩ : ∃ j : Int, (B.length : Int) - 1 = j := ⟨_, rfl⟩
 have HJ := xm hj
 have p0 : 0 ≤ j := by omega
 have q0 : j < (B.length : Int) := by omega
 clear hBn
 obtain ⟨hc0, hc1, hc2, hc3, hc4, hf0, hf1, hf2, hf3, hf4⟩ := blk_all5 HG.out
 go_enter Try.func104, Try.ntmps104
 go_wp2_with (first
  | ((with_reducible refine gate_dst (N := 2) rfl ?_); refine box_event ?hga (N := 2) ?hda (cs := #[.int .i64 0, .int .i64 0]) (t := 51) ?hra ?_; (case hda => rfl); (case hga => rfl); (case hra => first | (go_simp; done) | (go_simp; rfl)); intro g2 hg2 w1 hbox hbb; have HGG := xm (show g2 ≠ g from fun h => by have := blk_lt HG.out; omega); have HGS := xm (Nat.le_of_eq hg2.symm); have HNB := xm (show ∀ k, some k = (Value.slice (some adb) B.length cb).ownBlock → k ≠ g2 from fun k hk => by have := Kd.R_lt HRB.out k hk.symm; omega); have HM := xm hbox; have n0_ := xm (blk_below HG.out hbb); have n1_ := xm (Kd.R_below HRB.out hbb); have n2_ := xm (HK.out.below hbb); have n3_ := xm (below_then HB.out (Nat.le_trans (Nat.le_of_lt (Nat.lt_of_le_of_lt HGE.out HLT.out)) HK.out.1) hbb); clear HG HRB HK HB; have HG := n0_; have HRB := n1_; have HK := n2_; have HB := n3_; clear n0_ n1_ n2_ n3_; have HZ := xm (blk_lt HM.out); clear hg2 hbox hbb; clear hc0 hc1 hc2 hc3 hc4 hf0 hf1 hf2 hf3 hf4; obtain ⟨hc0, hc1, hc2, hc3, hc4, hf0, hf1, hf2, hf3, hf4⟩ := blk_all5 HG.out)
  | ((with_reducible refine gate_store (t := 50) (p := 24) rfl ?_); refine store_event (t := 50) (p := 24) (v := ?voza) (w1 := (w1.setCell ⟨g, 0, none⟩ (.slice (some adb) B.length cb))) ?hgza ?hoza ?hnza ?hrza ?_; (case hoza => rfl); (case hgza => rfl); (case hnza => rfl); (case hrza => first | (go_simp; done) | (go_simp; rfl)); intro w2 hw; have n0_ := xm ((by rw [hw]; refine blk_put (cs := #[(.slice Af ([] : List S51).length cf), vs, (.slice (some adb) B.length cb), (.int .i64 a), (.int .i64 b)]) ?_ 0 _ rfl; exact HG.out : w2.heap[g]? = some (.cells #[(.slice (some adb) B.length cb), vs, (.slice (some adb) B.length cb), (.int .i64 a), (.int .i64 b)] 53 (0, 0)))); have n1_ := xm ((by rw [hw]; exact Kd.R_far (p := ⟨g, 0, none⟩) (HRB.out) (fun k hk => HNG.out k hk) _ : Kd.R k51 51 w2 w0.heap.size _ _ _)); have n2_ := xm ((by rw [hw]; exact (Kept.setCell HK.out (p := ⟨g, 0, none⟩) (.inl HIN.out) _) : Kept w w2 Pw)); have n3_ := xm ((by rw [hw]; exact (Below.setCell HB.out (p := ⟨g, 0, none⟩) HGE.out _) : Below w0.heap.size w w2)); have n4_ := xm ((by rw [hw]; exact (blk_far (p := ⟨g, 0, none⟩) HM.out HGG.out _) : w2.heap[g2]? = some (.cells #[.int .i64 0, .int .i64 0] 51 (0, 0)))); clear HG HRB HK HB HM; have HG := n0_; have HRB := n1_; have HK := n2_; have HB := n3_; have HM := n4_; clear n0_ n1_ n2_ n3_ n4_; clear hw; clear hc0 hc1 hc2 hc3 hc4 hf0 hf1 hf2 hf3 hf4; obtain ⟨hc0, hc1, hc2, hc3, hc4, hf0, hf1, hf2, hf3, hf4⟩ := blk_all5 HG.out)
  | (go_at_call 115; refine (slices_Reverse_Limpl_Map_impl_Map.calls k1 _ _ B F1 w0 _ (HB0.out.trans HB.out) HRB.out HREV.out).mono ?_; rintro e w3 ⟨rfl, hr, hb, hk⟩; have n0_ := xm ((hk.2 g (blk_lt HG.out) (fun h => HNG.out g h rfl)).trans HG.out); have n1_ := xm (Kd.R_own hr); have n2_ := xm (HK.out.then_ hk (fun k h => .inl (HDB.out k h).2)); have n3_ := xm ((hk.2 g2 (blk_lt HM.out) (fun h => HNB.out g2 h rfl)).trans HM.out); have n4_ := xm (rev_below HB0.out hb (Nat.le_trans HK.out.1 hk.1)); clear HG HRB HK HM HB; have HG := n0_; have HRB := n1_; have HK := n2_; have HM := n3_; have HB := n4_; clear n0_ n1_ n2_ n3_ n4_; have LE := xm (Kd.R_reads' HRB.out).1; clear hr hb hk; clear hc0 hc1 hc2 hc3 hc4 hf0 hf1 hf2 hf3 hf4; obtain ⟨hc0, hc1, hc2, hc3, hc4, hf0, hf1, hf2, hf3, hf4⟩ := blk_all5 HG.out)
  | (go_at_call 100; refine calls_of_args (args' := #[.slice (some adb) F1.length cb]) (by simp only [LE.out]) ?_; refine (impl_sumsOf.calls k2 _ _ F1 S1 _ (Kd.R_reads' HRB.out).2.2 (by have h1 := (Kd.R_reads' HRB.out).2.1; have h2 := LE.out; omega) HSUM.out).mono ?_; rintro e w4 ⟨v0, rfl, hr, hb⟩; obtain ⟨As, cs, rfl⟩ := Kd.R_slice hr; obtain ⟨ads, rfl, hdrop⟩ := (Kd.R_reads' hr).2.2.2.2 (by have := HS.out; have := LE.out; have := HBN.out; omega); clear hdrop; have HSG := xm (show ∀ k, some k = (Value.slice (some ads) S1.length cs).ownBlock → (k ≠ g ∧ k ≠ g2 ∧ some k ≠ (Value.slice (some adb) B.length cb).ownBlock ∧ w.heap.size ≤ k) from fun k hk => by have h1 := Kd.R_base hr k hk.symm; have h2 := blk_lt HG.out; have h3 := blk_lt HM.out; have h4 := HK.out.1; exact ⟨by omega, by omega, fun h => by have := Kd.R_lt HRB.out k h.symm; omega, by omega⟩); have HRS := xm (Kd.R_own (Kd.R_lower hr (Nat.le_trans HB0.out.size HK.out.1))); have n0_ := xm (blk_below HG.out hb); have n1_ := xm (Kd.R_below HRB.out hb); have n2_ := xm (HK.out.below hb); have n3_ := xm (below_then HB.out (Nat.le_trans (Nat.le_of_lt (Nat.lt_of_le_of_lt HGE.out HLT.out)) HK.out.1) hb); have n4_ := xm (blk_below HM.out hb); clear HG HRB HK HB HM; have HG := n0_; have HRB := n1_; have HK := n2_; have HB := n3_; have HM := n4_; clear n0_ n1_ n2_ n3_ n4_; clear hr hb; clear hc0 hc1 hc2 hc3 hc4 hf0 hf1 hf2 hf3 hf4; obtain ⟨hc0, hc1, hc2, hc3, hc4, hf0, hf1, hf2, hf3, hf4⟩ := blk_all5 HG.out)
  | ((with_reducible refine gate_store (t := 50) (p := 37) rfl ?_); refine store_event (t := 50) (p := 37) (v := ?vozb) (w1 := (w4.setCell ⟨g, 1, none⟩ (.slice (some ads) S1.length cs))) ?hgzb ?hozb ?hnzb ?hrzb ?_; (case hozb => rfl); (case hgzb => rfl); (case hnzb => rfl); (case hrzb => first | (go_simp; done) | (go_simp; rfl)); intro w5 hw; have n0_ := xm ((by rw [hw]; refine blk_put (cs := #[(.slice (some adb) B.length cb), vs, (.slice (some adb) B.length cb), (.int .i64 a), (.int .i64 b)]) ?_ 1 _ rfl; exact HG.out : w5.heap[g]? = some (.cells #[(.slice (some adb) B.length cb), (.slice (some ads) S1.length cs), (.slice (some adb) B.length cb), (.int .i64 a), (.int .i64 b)] 53 (0, 0)))); have n1_ := xm ((by rw [hw]; exact Kd.R_far (p := ⟨g, 1, none⟩) (HRB.out) (fun k hk => HNG.out k hk) _ : Kd.R k51 51 w5 w0.heap.size _ _ _)); have n2_ := xm ((by rw [hw]; exact (Kept.setCell HK.out (p := ⟨g, 1, none⟩) (.inl HIN.out) _) : Kept w w5 Pw)); have n3_ := xm ((by rw [hw]; exact (Below.setCell HB.out (p := ⟨g, 1, none⟩) HGE.out _) : Below w0.heap.size w w5)); have n4_ := xm ((by rw [hw]; exact (blk_far (p := ⟨g, 1, none⟩) HM.out HGG.out _) : w5.heap[g2]? = some (.cells #[.int .i64 0, .int .i64 0] 51 (0, 0)))); have n5_ := xm ((by rw [hw]; exact Kd.R_far (p := ⟨g, 1, none⟩) (HRS.out) (fun k hk => (HSG.out k hk).1) _ : Kd.R k51 51 w5 w0.heap.size _ _ _)); clear HG HRB HK HB HM HRS; have HG := n0_; have HRB := n1_; have HK := n2_; have HB := n3_; have HM := n4_; have HRS := n5_; clear n0_ n1_ n2_ n3_ n4_ n5_; clear hw; clear hc0 hc1 hc2 hc3 hc4 hf0 hf1 hf2 hf3 hf4; obtain ⟨hc0, hc1, hc2, hc3, hc4, hf0, hf1, hf2, hf3, hf4⟩ := blk_all5 HG.out)
  | (go_at_call 150; refine (impl_same.calls 1 0 _ rfl).mono ?_; rintro e w6 ⟨rfl, hb⟩; have n0_ := xm (blk_below HG.out hb); have n1_ := xm (Kd.R_below HRB.out hb); have n2_ := xm (HK.out.below hb); have n3_ := xm (below_then HB.out (Nat.le_trans (Nat.le_of_lt (Nat.lt_of_le_of_lt HGE.out HLT.out)) HK.out.1) hb); have n4_ := xm (blk_below HM.out hb); have n5_ := xm (Kd.R_below HRS.out hb); clear HG HRB HK HB HM HRS; have HG := n0_; have HRB := n1_; have HK := n2_; have HB := n3_; have HM := n4_; have HRS := n5_; clear n0_ n1_ n2_ n3_ n4_ n5_; clear hb; clear hc0 hc1 hc2 hc3 hc4 hf0 hf1 hf2 hf3 hf4; obtain ⟨hc0, hc1, hc2, hc3, hc4, hf0, hf1, hf2, hf3, hf4⟩ := blk_all5 HG.out)
  | ((with_reducible refine gate_store (t := 50) (p := 42) rfl ?_); refine store_event (t := 50) (p := 42) (v := ?vozc) (w1 := (w6.setCell ⟨g, 2, none⟩ (.slice none 0 0))) ?hgzc ?hozc ?hnzc ?hrzc ?_; (case hozc => rfl); (case hgzc => rfl); (case hnzc => rfl); (case hrzc => first | (go_simp; done) | (go_simp; rfl)); intro w7 hw; have n0_ := xm ((by rw [hw]; refine blk_put (cs := #[(.slice (some adb) B.length cb), (.slice (some ads) S1.length cs), (.slice (some adb) B.length cb), (.int .i64 a), (.int .i64 b)]) ?_ 2 _ rfl; exact HG.out : w7.heap[g]? = some (.cells #[(.slice (some adb) B.length cb), (.slice (some ads) S1.length cs), (.slice none 0 0), (.int .i64 a), (.int .i64 b)] 53 (0, 0)))); have n1_ := xm ((by rw [hw]; exact Kd.R_far (p := ⟨g, 2, none⟩) (HRB.out) (fun k hk => HNG.out k hk) _ : Kd.R k51 51 w7 w0.heap.size _ _ _)); have n2_ := xm ((by rw [hw]; exact (Kept.setCell HK.out (p := ⟨g, 2, none⟩) (.inl HIN.out) _) : Kept w w7 Pw)); have n3_ := xm ((by rw [hw]; exact (Below.setCell HB.out (p := ⟨g, 2, none⟩) HGE.out _) : Below w0.heap.size w w7)); have n4_ := xm ((by rw [hw]; exact (blk_far (p := ⟨g, 2, none⟩) HM.out HGG.out _) : w7.heap[g2]? = some (.cells #[.int .i64 0, .int .i64 0] 51 (0, 0)))); have n5_ := xm ((by rw [hw]; exact Kd.R_far (p := ⟨g, 2, none⟩) (HRS.out) (fun k hk => (HSG.out k hk).1) _ : Kd.R k51 51 w7 w0.heap.size _ _ _)); clear HG HRB HK HB HM HRS; have HG := n0_; have HRB := n1_; have HK := n2_; have HB := n3_; have HM := n4_; have HRS := n5_; clear n0_ n1_ n2_ n3_ n4_ n5_; clear hw; clear hc0 hc1 hc2 hc3 hc4 hf0 hf1 hf2 hf3 hf4; obtain ⟨hc0, hc1, hc2, hc3, hc4, hf0, hf1, hf2, hf3, hf4⟩ := blk_all5 HG.out)
  | ((with_reducible refine gate_store (t := 51) (p := 44) rfl ?_); refine store_event (t := 51) (p := 44) (v := ?vozd) (w1 := ((w7.setCell ⟨g, 3, none⟩ (.int .i64 1)).setCell ⟨g, 4, none⟩ (.int .i64 0))) ?hgzd ?hozd ?hnzd ?hrzd ?_; (case hozd => rfl); (case hgzd => rfl); (case hnzd => rfl); (case hrzd => first | (go_simp; done) | (go_simp; rfl)); intro w8 hw; have n0_ := xm ((by rw [hw]; refine blk_put (cs := #[(.slice (some adb) B.length cb), (.slice (some ads) S1.length cs), (.slice none 0 0), (.int .i64 1), (.int .i64 b)]) ?_ 4 _ rfl; refine blk_put (cs := #[(.slice (some adb) B.length cb), (.slice (some ads) S1.length cs), (.slice none 0 0), (.int .i64 a), (.int .i64 b)]) ?_ 3 _ rfl; exact HG.out : w8.heap[g]? = some (.cells #[(.slice (some adb) B.length cb), (.slice (some ads) S1.length cs), (.slice none 0 0), (.int .i64 1), (.int .i64 0)] 53 (0, 0)))); have n1_ := xm ((by rw [hw]; exact Kd.R_far (p := ⟨g, 4, none⟩) (Kd.R_far (p := ⟨g, 3, none⟩) (HRB.out) (fun k hk => HNG.out k hk) _) (fun k hk => HNG.out k hk) _ : Kd.R k51 51 w8 w0.heap.size _ _ _)); have n2_ := xm ((by rw [hw]; exact (Kept.setCell (Kept.setCell HK.out (p := ⟨g, 3, none⟩) (.inl HIN.out) _) (p := ⟨g, 4, none⟩) (.inl HIN.out) _) : Kept w w8 Pw)); have n3_ := xm ((by rw [hw]; exact (Below.setCell (Below.setCell HB.out (p := ⟨g, 3, none⟩) HGE.out _) (p := ⟨g, 4, none⟩) HGE.out _) : Below w0.heap.size w w8)); have n4_ := xm ((by rw [hw]; exact (blk_far (p := ⟨g, 4, none⟩) (blk_far (p := ⟨g, 3, none⟩) HM.out HGG.out _) HGG.out _) : w8.heap[g2]? = some (.cells #[.int .i64 0, .int .i64 0] 51 (0, 0)))); have n5_ := xm ((by rw [hw]; exact Kd.R_far (p := ⟨g, 4, none⟩) (Kd.R_far (p := ⟨g, 3, none⟩) (HRS.out) (fun k hk => (HSG.out k hk).1) _) (fun k hk => (HSG.out k hk).1) _ : Kd.R k51 51 w8 w0.heap.size _ _ _)); clear HG HRB HK HB HM HRS; have HG := n0_; have HRB := n1_; have HK := n2_; have HB := n3_; have HM := n4_; have HRS := n5_; clear n0_ n1_ n2_ n3_ n4_ n5_; clear hw; clear hc0 hc1 hc2 hc3 hc4 hf0 hf1 hf2 hf3 hf4; have HV := xm (WinV.mk HG.out HRB.out HRS.out (Kd.R_mono (Kd.R_nil k51 51 w8 w0.heap.size (fun _ => False)) (fun _ h => h.elim)) (fun k hk => ⟨fun h => (HSG.out k h).2.2.1 hk, by simp [Value.ownBlock], HNG.out k hk, .inl (HDB.out k hk).2⟩) (fun k hk => ⟨by simp [Value.ownBlock], (HSG.out k hk).1, .inr (HSG.out k hk).2.2.2⟩) (fun k hk => by simp [Value.ownBlock] at hk) (.inl HIN.out) HGE.out : WinV w8 w0.heap.size g (fun k => Pw k ∨ w.heap.size ≤ k) (.slice (some adb) B.length cb) (.slice (some ads) S1.length cs) (.slice none 0 0) F1 S1 [] 1 0); have HNE := xm (show ∀ k, some k = (Value.slice (some adb) B.length cb).ownBlock ∨ some k = (Value.slice (some ads) S1.length cs).ownBlock ∨ some k = (Value.slice none 0 0).ownBlock → k ≠ g2 from fun k hk => by rcases hk with hk | hk | hk; exact HNB.out k hk; exact (HSG.out k hk).2.1; simp [Value.ownBlock] at hk); have HN := LE; have HQ := xm (show j < (F1.length : Int) from by rw [← LE.out]; exact q0); clear HG HRB HRS; obtain ⟨hc0, hc1, hc2, hc3, hc4⟩ := HV.out.cells; obtain ⟨hx0, hx1⟩ := R_at51 HV.out.rf j p0 HQ.out))
 have hal : Below w8.heap.size w8 (w8.alloc (Obj.cells #[Value.int IntKind.i64 (rd_T51 F1 j).f0, Value.int IntKind.i64 (rd_T51 F1 j).f1] 51)) := xa (Below.refl _ _) _
 have n0_ := xm (HV.out.below hal)
 have n1_ := xm (HK.out.below hal)
 have n2_ := xm (below_then HB.out (Nat.le_trans (Nat.le_of_lt (Nat.lt_of_le_of_lt HV.out.ge HLT.out)) HK.out.1) hal)
 have n3_ := xm (blk_below HM.out hal)
 have h6 := blk_new w8 (Obj.cells #[Value.int IntKind.i64 (rd_T51 F1 j).f0, Value.int IntKind.i64 (rd_T51 F1 j).f1] 51)
 obtain ⟨g6, hg6⟩ : ∃ q, w8.heap.size = q := ⟨_, rfl⟩
 rw [hg6] at h6 ⊢
 have n4_ := xm (show g6 ≠ g from fun h => by have := blk_lt HV.out.blk; omega)
 have n5_ := xm (show g6 ≠ g2 from fun h => by have := blk_lt HM.out; omega)
 clear HV HK HB HM hal hc0 hc1 hc2 hc3 hc4 hx0 hx1 hg6
 have HV := n0_
 have HK := n1_
 have HB := n2_
 have HM := n3_
 have H6 := xm h6
 clear n0_ n1_ n2_ n3_ h6
 generalize w8.alloc (Obj.cells #[Value.int IntKind.i64 (rd_T51 F1 j).f0, Value.int IntKind.i64 (rd_T51 F1 j).f1] 51) = wt at HV HK HB HM H6 ⊢
 have hV2 := HV.out.below (below_drew (Below.refl wt.heap.size wt))
 have n1_ := xm (HK.out.drew)
 have n2_ := xm (below_drew HB.out)
 have n3_ := xm (xr HM.out)
 have n6_ := xm (xr H6.out)
 obtain ⟨i5, hi5, hz5⟩ := Option.map_eq_some_iff.1 info51
 have hcutF := cut_to (P := Try.prog) 50 51 .i64 Try.underlying50 hi5 (some adb) B.length cb j p0 (Int.le_of_lt q0) (Kd.R_reads' HV.out.rf).2.1
 have HQ_ : j < (F1.length : Int) := HQ.out
 have hcutS := cut_to (P := Try.prog) 50 51 .i64 Try.underlying50 hi5 (some ads) S1.length cs j p0 (by rw [HS.out]; exact Int.le_of_lt HQ_) (Kd.R_reads' HV.out.rs).2.1
 clear hi5 hz5 HQ_
 refine start_ (n := 20) (S := fun w' => (w'.cell? ⟨g, 0, none⟩ = some (.slice (some adb) B.length cb) ∧ w'.cell? ⟨g, 1, none⟩ = some (.slice (some ads) S1.length cs))) (ds := [16, 19]) #[Z,Z,Z,Z,Z,Z,Z,Z,Z,Z,Z,Z,Z,Z,Z,Z,Z,Z,Z,Z] (by kernel_rfl) rfl rfl ⟨hV2.cells.1, hV2.cells.2.1⟩ (fun hHeld => ?_)
 clear HV HK HB HM H6
 have HV := xm hV2
 have HK := n1_
 have HB := n2_
 have HM := n3_
 have H6 := n6_
 clear hV2 n1_ n2_ n3_ n6_
 generalize wt.drew = wu at HV HK HB HM H6 hHeld ⊢
 refine pure_ (i := 0) (N := some 58) (v := ?_) (a' := ?_) #[Y,Z,Z,Z,Z,Z,Z,Z,Z,Z,Z,Z,Z,Z,Z,Z,Z,Z,Z,Z] rfl rfl (by kernel_rfl) (fun _ _ _ h => h) (Or.inl ⟨by rfl, ?_⟩) ?_ ?_
 rotate_left
 ·intro w'
  go_simp
  with_reducible rfl
 rotate_left
 ·simp only [Act.put, xi, xj, xk, i64_w, i32_w]
  rfl
 refine pure_ (i := 1) (N := some 59) (v := ?_) (a' := ?_) #[Y,Y,Z,Z,Z,Z,Z,Z,Z,Z,Z,Z,Z,Z,Z,Z,Z,Z,Z,Z] rfl rfl (by kernel_rfl) (fun _ _ _ h => h) (Or.inl ⟨by rfl, ?_⟩) ?_ ?_
 rotate_left
 ·intro w'
  go_simp
  with_reducible rfl
 rotate_left
 ·simp only [Act.put, xi, xj, xk, i64_w, i32_w]
  rfl
 refine pure_ (i := 2) (N := some 60) (v := ?_) (a' := ?_) #[Y,Y,Y,Z,Z,Z,Z,Z,Z,Z,Z,Z,Z,Z,Z,Z,Z,Z,Z,Z] rfl rfl (by kernel_rfl) (fun _ _ _ h => h) (Or.inl ⟨by rfl, ?_⟩) ?_ ?_
 rotate_left
 ·intro w'
  go_simp
  with_reducible rfl
 rotate_left
 ·simp only [Act.put, xi, xj, xk, i64_w, i32_w]
  rfl
 refine pure_ (i := 3) (N := some 61) (v := ?_) (a' := ?_) #[Y,Y,Y,Y,Z,Z,Z,Z,Z,Z,Z,Z,Z,Z,Z,Z,Z,Z,Z,Z] rfl rfl (by kernel_rfl) (fun _ _ _ h => h) (Or.inl ⟨by rfl, ?_⟩) ?_ ?_
 rotate_left
 ·intro w'
  go_simp
  with_reducible rfl
 rotate_left
 ·simp only [Act.put, xi, xj, xk, i64_w, i32_w]
  rfl
 refine pure_ (i := 4) (N := some 62) (v := ?_) (a' := ?_) #[Y,Y,Y,Y,Y,Z,Z,Z,Z,Z,Z,Z,Z,Z,Z,Z,Z,Z,Z,Z] rfl rfl (by kernel_rfl) (fun _ _ _ h => h) (Or.inl ⟨by rfl, ?_⟩) ?_ ?_
 rotate_left
 ·intro w'
  go_simp
  with_reducible rfl
 rotate_left
 ·simp only [Act.put, xi, xj, xk, i64_w, i32_w]
  rfl
 refine take_ (i := 5) (N := some 63) (v := ?_) (a' := ?_) #[Y,Y,Y,Y,Y,Y,Z,Z,Z,Z,Z,Z,Z,Z,Z,Z,Z,Z,Z,Z] rfl rfl (by kernel_rfl) (fun _ _ _ h => h) (Or.inl ⟨by rfl, ?_⟩) hHeld ?_ ?_
 rotate_left
 ·rintro w' ⟨s0, s1⟩
  go_simp
  with_reducible rfl
 rotate_left
 ·simp only [Act.put, xi, xj, xk, i64_w, i32_w]
  rfl
 refine pure_ (i := 6) (N := some 64) (v := ?_) (a' := ?_) #[Y,Y,Y,Y,Y,Y,Y,Z,Z,Z,Z,Z,Z,Z,Z,Z,Z,Z,Z,Z] rfl rfl (by kernel_rfl) (fun _ _ _ h => h) (Or.inl ⟨by rfl, ?_⟩) ?_ ?_
 rotate_left
 ·intro w'
  go_simp
  with_reducible rfl
 rotate_left
 ·simp only [Act.put, xi, xj, xk, i64_w, i32_w]
  rfl
 refine pure_ (i := 7) (N := some 65) (v := ?_) (a' := ?_) #[Y,Y,Y,Y,Y,Y,Y,Y,Z,Z,Z,Z,Z,Z,Z,Z,Z,Z,Z,Z] rfl rfl (by kernel_rfl) (fun _ _ _ h => h) (Or.inl ⟨by rfl, ?_⟩) ?_ ?_
 rotate_left
 ·intro w'
  go_simp
  with_reducible rfl
 rotate_left
 ·simp only [Act.put, xi, xj, xk, i64_w, i32_w]
  rfl
 refine pure_ (i := 8) (N := some 66) (v := ?_) (a' := ?_) #[Y,Y,Y,Y,Y,Y,Y,Y,Y,Z,Z,Z,Z,Z,Z,Z,Z,Z,Z,Z] rfl rfl (by kernel_rfl) (fun _ _ _ h => h) (Or.inl ⟨by rfl, ?_⟩) ?_ ?_
 rotate_left
 ·intro w'
  go_simp
  with_reducible rfl
 rotate_left
 ·simp only [Act.put, xi, xj, xk, i64_w, i32_w]
  rfl
 refine pure_ (i := 9) (N := some 67) (v := ?_) (a' := ?_) #[Y,Y,Y,Y,Y,Y,Y,Y,Y,Y,Z,Z,Z,Z,Z,Z,Z,Z,Z,Z] rfl rfl (by kernel_rfl) (fun _ _ _ h => h) (Or.inl ⟨by rfl, ?_⟩) ?_ ?_
 rotate_left
 ·intro w'
  go_simp
  with_reducible rfl
 rotate_left
 ·simp only [Act.put, xi, xj, xk, i64_w, i32_w]
  rfl
 refine pure_ (i := 10) (N := some 68) (v := ?_) (a' := ?_) #[Y,Y,Y,Y,Y,Y,Y,Y,Y,Y,Y,Z,Z,Z,Z,Z,Z,Z,Z,Z] rfl rfl (by kernel_rfl) (fun _ _ _ h => h) (Or.inl ⟨by rfl, ?_⟩) ?_ ?_
 rotate_left
 ·intro w'
  go_simp
  with_reducible rfl
 rotate_left
 ·simp only [Act.put, xi, xj, xk, i64_w, i32_w]
  rfl
 refine take_ (i := 11) (N := some 69) (v := ?_) (a' := ?_) #[Y,Y,Y,Y,Y,Y,Y,Y,Y,Y,Y,Y,Z,Z,Z,Z,Z,Z,Z,Z] rfl rfl (by kernel_rfl) (fun _ _ _ h => h) (Or.inl ⟨by rfl, ?_⟩) hHeld ?_ ?_
 rotate_left
 ·rintro w' ⟨s0, s1⟩
  go_simp
  with_reducible rfl
 rotate_left
 ·simp only [Act.put, xi, xj, xk, i64_w, i32_w]
  rfl
 refine pure_ (i := 12) (N := some 70) (v := ?_) (a' := ?_) #[Y,Y,Y,Y,Y,Y,Y,Y,Y,Y,Y,Y,Y,Z,Z,Z,Z,Z,Z,Z] rfl rfl (by kernel_rfl) (fun _ _ _ h => h) (Or.inl ⟨by rfl, ?_⟩) ?_ ?_
 rotate_left
 ·intro w'
  go_simp
  with_reducible rfl
 rotate_left
 ·simp only [Act.put, xi, xj, xk, i64_w, i32_w]
  rfl
 refine pure_ (i := 13) (N := some 71) (v := ?_) (a' := ?_) #[Y,Y,Y,Y,Y,Y,Y,Y,Y,Y,Y,Y,Y,Y,Z,Z,Z,Z,Z,Z] rfl rfl (by kernel_rfl) (fun _ _ _ h => h) (Or.inl ⟨by rfl, ?_⟩) ?_ ?_
 rotate_left
 ·intro w'
  go_simp
  with_reducible rfl
 rotate_left
 ·simp only [Act.put, xi, xj, xk, i64_w, i32_w]
  rfl
 refine pure_ (i := 14) (N := some 72) (v := ?_) (a' := ?_) #[Y,Y,Y,Y,Y,Y,Y,Y,Y,Y,Y,Y,Y,Y,Y,Z,Z,Z,Z,Z] rfl rfl (by kernel_rfl) (fun _ _ _ h => h) (Or.inl ⟨by rfl, ?_⟩) ?_ ?_
 rotate_left
 ·intro w'
  go_simp
  with_reducible rfl
 rotate_left
 ·simp only [Act.put, xi, xj, xk, i64_w, i32_w]
  rfl
 refine pure_ (i := 15) (N := some 73) (v := ?_) (a' := ?_) #[Y,Y,Y,Y,Y,Y,Y,Y,Y,Y,Y,Y,Y,Y,Y,Y,Z,Z,Z,Z] rfl rfl (by kernel_rfl) (fun _ _ _ h => h) (Or.inl ⟨by rfl, ?_⟩) ?_ ?_
 rotate_left
 ·intro w'
  go_simp
  with_reducible rfl
 rotate_left
 ·simp only [Act.put, xi, xj, xk, i64_w, i32_w]
  rfl
 clear hHeld hcutF hcutS
 obtain ⟨hc0, hc1, hc2, hc3, hc4⟩ := HV.out.cells
 obtain ⟨hf0, hf1, hf2, hf3, hf4⟩ := HV.out.free
 refine last_ (i := 16) (N := none) #[Y,Y,Y,Y,Y,Y,Y,Y,Y,Y,Y,Y,Y,Y,Y,Y,Y,Z,Z,Z] rfl rfl (by kernel_rfl) (by decide) (fun K hK => ?_)
 refine skip_ (by rfl) rfl (w1 := wu.setCell ⟨g, 0, none⟩ (.slice (some adb) j.toNat cb)) (by first | (go_simp; done) | (go_simp; rfl)) ?_
 refine hK.out _ _ ?_
 clear hK K
 refine pure_ (i := 17) (N := some 74) (v := ?_) (a' := ?_) #[Y,Y,Y,Y,Y,Y,Y,Y,Y,Y,Y,Y,Y,Y,Y,Y,Y,Y,Z,Z] rfl rfl (by kernel_rfl) (fun _ _ _ h => h) (Or.inl ⟨by rfl, ?_⟩) ?_ ?_
 rotate_left
 ·intro w'
  go_simp
  with_reducible rfl
 rotate_left
 ·simp only [Act.put, xi, xj, xk, i64_w, i32_w]
  rfl
 refine pure_ (i := 18) (N := some 75) (v := ?_) (a' := ?_) #[Y,Y,Y,Y,Y,Y,Y,Y,Y,Y,Y,Y,Y,Y,Y,Y,Y,Y,Y,Z] rfl rfl (by kernel_rfl) (fun _ _ _ h => h) (Or.inl ⟨by rfl, ?_⟩) ?_ ?_
 rotate_left
 ·intro w'
  go_simp
  with_reducible rfl
 rotate_left
 ·simp only [Act.put, xi, xj, xk, i64_w, i32_w]
  rfl
 refine last_ (i := 19) (N := none) #[Y,Y,Y,Y,Y,Y,Y,Y,Y,Y,Y,Y,Y,Y,Y,Y,Y,Y,Y,Y] rfl rfl (by kernel_rfl) (by decide) (fun K hK => ?_)
 refine skip_ (by rfl) rfl (w1 := (wu.setCell ⟨g, 0, none⟩ (.slice (some adb) j.toNat cb)).setCell ⟨g, 1, none⟩ (.slice (some ads) j.toNat cs)) (by first | (go_simp; done) | (go_simp; rfl)) ?_
 refine hK.out _ _ ?_
 clear hK K
 refine done_ (by kernel_rfl) ?_
 clear hc0 hc1 hc2 hc3 hc4 hf0 hf1 hf2 hf3 hf4
 have hg2 : g2 ≠ g := HGG.out
 have n0_ := xm (pop_left HV.out j p0 HQ.out HS.out)
 have n1_ := xm (((HK.out.setCell (p := ⟨g, 0, none⟩) (.inl HIN.out) (.slice (some adb) j.toNat cb)).setCell (p := ⟨g, 1, none⟩) (.inl HIN.out) (.slice (some ads) j.toNat cs)))
 have n2_ := xm ((HB.out.setCell (p := ⟨g, 0, none⟩) HV.out.ge (.slice (some adb) j.toNat cb)).setCell (p := ⟨g, 1, none⟩) HV.out.ge (.slice (some ads) j.toNat cs))
 have n3_ := xm (blk_far (p := ⟨g, 1, none⟩) (blk_far (p := ⟨g, 0, none⟩) HM.out hg2 (.slice (some adb) j.toNat cb)) hg2 (.slice (some ads) j.toNat cs))
 have n6_ := xm (blk_far (p := ⟨g, 1, none⟩) (blk_far (p := ⟨g, 0, none⟩) H6.out n4_.out (.slice (some adb) j.toNat cb)) n4_.out (.slice (some ads) j.toNat cs))
 clear HV HK HB HM H6 hg2
 have HV := n0_
 have HK := n1_
 have HB := n2_
 have HM := n3_
 have H6 := n6_
 clear n0_ n1_ n2_ n3_ n6_
 generalize (wu.setCell ⟨g, 0, none⟩ (.slice (some adb) j.toNat cb)).setCell ⟨g, 1, none⟩ (.slice (some ads) j.toNat cs) = wv at HV HK HB HM H6 ⊢
 have hm0 := (xc H6.out 0).trans rfl
 have hm1 := (xc H6.out 1).trans rfl
 have h20 := (xc HM.out 0).trans rfl
 have h21 := (xc HM.out 1).trans rfl
 have f20 := xf HM.out 0
 have f21 := xf HM.out 1
 go_wp2
 have h0 := blk_set (blk_set HM.out 0 (.int .i64 (rd_T51 F1 j).f0)) 1 (.int .i64 (rd_T51 F1 j).f1)
 simp only [xi, xj, xk] at h0
 refine bodyPost_ret (results_ct rfl _ _ g2 51 #[.int .i64 (rd_T51 F1 j).f0, .int .i64 (rd_T51 F1 j).f1] (0, 0) _ rfl h0 hu51 rfl rfl) rfl ?_
 have hge : w0.heap.size ≤ g2 := Nat.le_trans (Nat.le_of_lt (Nat.lt_of_le_of_lt HV.out.ge HLT.out)) HGS.out
 refine ⟨⟨_, rfl⟩, ((HB.out.setCell (p := ⟨g2, 0, none⟩) hge _).setCell (p := ⟨g2, 1, none⟩) hge _), ((HK.out.setCell (p := ⟨g2, 0, none⟩) (.inr HGS.out) _).setCell (p := ⟨g2, 1, none⟩) (.inr HGS.out) _), ?_⟩
 have hV := ((HV.out.far HGG.out HNE.out 0 (.int .i64 (rd_T51 F1 j).f0)).far HGG.out HNE.out 1 (.int .i64 (rd_T51 F1 j).f1)).mono (Pw' := fun k => Pw k ∨ w.heap.size ≤ k) (fun k hk => hk)
 have e : j.toNat = F1.length - 1 := by have := HJ.out; have := HN.out; omega
 have e2 : F1.take j.toNat = tailOf F1 := by unfold tailOf; rw [e]
 have e3 : S1.take j.toNat = tailOf S1 := by unfold tailOf; rw [HS.out, e]
 rw [e2, e3] at hV
 exact hV.at

end Go.Proofs.Ytpbpglbldgpckaa.G
