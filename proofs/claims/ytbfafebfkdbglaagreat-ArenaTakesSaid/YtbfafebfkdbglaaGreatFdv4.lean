import Derived.Test.YtbfafebfkdbglaaGreatFdv3
import Derived.Test.YtbfafebfkdbglaaGreatFlist
/- The device: what it does. -/
namespace Go.Proofs.YtbfafebfkdbglaaGreat
open Go.RowKit
set_option linter.unusedVariables false
attribute [local irreducible] K.KW K.RW K.DW K.OW K.QR K.KC
theorem SetsG.same {z z' : K.Cs} {vs vs' : List Value} {Bs Bs' : List (List Bool)} (h : SetsG z vs Bs) (h1 : z = z') (h2 : vs = vs') (h3 : Bs = Bs') : SetsG z' vs' Bs' := by subst h1 h2 h3; exact h
theorem set_getD {α : Type} {l : List α} {k : Nat} {d : α} (h : k < l.length) : l.set k (l.getD k d) = l := by
 apply List.ext_getElem (by simp)
 intro j h1 h2
 rw [List.getElem_set]; split
 ·rename_i e; subst e; simp [h]
 ·rfl
set_option maxHeartbeats 1000000 in
set_option maxRecDepth 100000 in
theorem dvStore_ok (w0 : World) (p n t : Nat) (D : DevM) (l : K.Cs) (x : DevAt l p n t D) (i : Int) (hi : isInt i) (y : Int) :
  K.GC Tryz.prog w0 184 #[K.pa p, K.iv i, .int .u64 y] [l] (fun v post => (v = K.iv 0 ∧ (0 ≤ i ∧ i < n * 8) ∧ ∃ l', post = [l'] ∧ DevAt l' p n t (D.store i.toNat y)) ∨ (v = K.iv 5 ∧ ¬(0 ≤ i ∧ i < n * 8) ∧ post = [l])) := by
 refine K.GC.mk (n := 25) Tryz.func184 rfl rfl [K.pa p, K.iv i, .int .u64 y] rfl rfl ?_
 intro fr w hS
 replace hS : K.Sat w0 [l, fr] w := hS
 refine K.s (K.g (K.q [K.iv 0] (K.z (K.t (K.s (K.s (K.g (K.q [K.pa p, K.iv i] ?_))))))))
 refine K.l (K.OW.gcall hS [0] [1] [K.pa p, K.iv i] (dvWord_ok _ _ _ _ _ _ x i (by omega)) ?_)
 clear hS; rintro _ _ w ⟨rfl, (⟨rfl, h_1⟩ | ⟨rfl, h_2⟩)⟩ hS
 ·
  replace hS : K.Sat w0 [l, fr] w := hS
  refine K.q [K.iv 0] (K.z (K.t (K.s (K.g (K.q [K.iv 0, .bool false] (K.z (K.t (K.f (K.k (K.t (K.s ?_)))))))))))
  obtain ⟨g, gk, gs, gw, gf, gz, vs, ka, sa, wa, fa, ck, cs, cw, cf, rfl, hg, ok, os, ow, of, lv, oz, dk⟩ := x
  have dk2 := dk; obtain ⟨lk, ls, lw, lf, lB, n0, n1, t0, t1⟩ := dk2
  replace hS : K.Sat w0 [g, gk, gs, gw, gf, gz, fr] w := hS.of
  refine K.g (K.q [K.pa p, K.pa p, .pointer (some ⟨p, 1, none⟩)] ?_)
  refine K.d (.slice sa n cs) ((hS.blk 0 rfl hg).cell rfl) ?_
  refine K.q [K.iv i] ?_
  refine K.a (K.QR.turn (v := K.iv ((i : Int) / 8)) (K.QR.quoi64 (i : Int) 8 ((i : Int) / 8) (by kernel_rfl) (by omega) (by omega)) (congrArg (Value.int .i64) (show ((i : Int) / 8 : Int) = (((i.toNat / 8 : Nat) : Int) : Int) from by omega))) ?_
  refine K.q [K.iv i] ?_
  refine K.a (K.QR.turn (v := K.iv ((i : Int) % 8)) (K.QR.remi64 (i : Int) 8 ((i : Int) % 8) (by kernel_rfl) (by omega) (by omega)) (congrArg (Value.int .i64) (show ((i : Int) % 8 : Int) = (((i.toNat % 8 : Nat) : Int) : Int) from by omega))) ?_
  refine K.q [.int .u64 y] ?_
  obtain ⟨b_3, rfl⟩ := os.some_ (by have := os.le; omega)
  refine K.a (K.QR.ix (0 + (i.toNat / 8) * 8) 8 rfl rfl rfl Tryz.underlying177 (by kernel_rfl) (by omega) (by first | (simp; done) | omega | (simp; omega))) ?_
  refine K.a (K.QR.ixA (0 + (i.toNat / 8) * 8 + (i.toNat % 8)) 1 rfl rfl rfl Tryz.underlying206 (by kernel_rfl) (by omega) (by first | (simp; done) | omega | (simp; omega))) ?_
  refine K.l (K.OW.grst 2 (0 + (i.toNat / 8) * 8 + (i.toNat % 8)) [.int .u64 y] (((D.seen.set (0 + (i.toNat / 8) * 8 + (i.toNat % 8)) y)).flatMap cU64) hS os ?_ (by show _ + 1 ≤ _; omega) (K.set1 (c := cU64) D.seen (0 + (i.toNat / 8) * 8 + (i.toNat % 8)) y (by have := ls; omega)))
  clear hS; intro w l_5 o_6 hS
  have ln_7 : ((D.seen.set (0 + (i.toNat / 8) * 8 + (i.toNat % 8)) y)).length = _ := (List.length_set).trans ls
  replace hS : K.Sat w0 [g, gk, l_5, gw, gf, gz, fr] w := hS
  refine K.z (K.t (K.s (K.g (K.q [K.iv 0] (K.z (K.t (K.r ?_)))))))
  rw [show 0 + i.toNat / 8 * 8 + i.toNat % 8 = i.toNat by omega] at o_6
  replace hS : K.Sat w0 [[g, gk, l_5, gw, gf, gz].flatten, fr] w := (hS.pick [0, 1, 2, 3, 4, 5, 6]).of
  refine ⟨.inr rfl, rfl, (K.iv 0), K.res1 rfl rfl, [[g, gk, l_5, gw, gf, gz].flatten], ?_, hS.pick [0, 1]⟩
  exact .inl ⟨rfl, by omega, _, rfl, ⟨_, _, _, _, _, _, _, _, _, _, _, _, _, _, _, rfl, hg, ok, o_6, ow, of, lv, oz, dk.store⟩⟩
 ·
  replace hS : K.Sat w0 [l, fr] w := hS
  refine K.q [K.iv 5] (K.z (K.t (K.s (K.g (K.q [K.iv 5, .bool true] (K.z (K.t (K.h (K.s (K.g (K.q [K.iv 5, K.iv 5] (K.z (K.t (K.r ?_))))))))))))))
  refine K.u ?_
  refine ⟨.inr rfl, rfl, (K.iv 5), K.res1 rfl rfl, [l], ?_, hS.pick [0, 1]⟩
  exact .inr ⟨rfl, by omega, rfl⟩
set_option maxHeartbeats 1000000 in
set_option maxRecDepth 100000 in
theorem dvFlush_ok (w0 : World) (p n t : Nat) (D : DevM) (l : K.Cs) (x : DevAt l p n t D) (i : Int) (hi : isInt i) (j : Int) (hj : isInt j) :
  K.GC Tryz.prog w0 131 #[K.pa p, K.iv i, K.iv j] [l] (fun v post => (v = K.iv 0 ∧ (0 ≤ i ∧ i < t ∧ 0 ≤ j ∧ j < n) ∧ ∃ l', post = [l'] ∧ DevAt l' p n t (D.mark i.toNat j.toNat)) ∨ (v = K.iv 1 ∧ ¬(0 ≤ i ∧ i < t) ∧ post = [l]) ∨ (v = K.iv 5 ∧ (0 ≤ i ∧ i < t ∧ ¬(0 ≤ j ∧ j < n)) ∧ post = [l])) := by
 refine K.GC.mk (n := 29) Tryz.func131 rfl rfl [K.pa p, K.iv i, K.iv j] rfl rfl ?_
 intro fr w hS
 replace hS : K.Sat w0 [l, fr] w := hS
 refine K.s (K.g (K.q [K.iv 0] (K.z (K.t (K.s (K.s (K.g (K.q [K.pa p, K.iv i] ?_))))))))
 refine K.l (K.OW.gcall hS [0] [1] [K.pa p, K.iv i] (dvThread_ok _ _ _ _ _ _ x i (by omega)) ?_)
 clear hS; rintro _ _ w ⟨rfl, (⟨rfl, h_1⟩ | ⟨rfl, h_2⟩)⟩ hS
 ·
  replace hS : K.Sat w0 [l, fr] w := hS
  refine K.q [K.iv 0] (K.z (K.t (K.s (K.g (K.q [K.iv 0, .bool false] (K.z (K.t (K.f (K.k (K.t (K.s (K.s (K.g (K.q [K.pa p, K.iv j] ?_))))))))))))))
  refine K.l (K.OW.gcall hS [0] [1] [K.pa p, K.iv j] (dvLine_ok _ _ _ _ _ _ x j (by omega)) ?_)
  clear hS; rintro _ _ w ⟨rfl, (⟨rfl, h_3⟩ | ⟨rfl, h_4⟩)⟩ hS
  ·
   replace hS : K.Sat w0 [l, fr] w := hS
   refine K.q [K.iv 0] (K.z (K.t (K.s (K.g (K.q [K.iv 0, .bool false] (K.z (K.t (K.f (K.k (K.t (K.s ?_)))))))))))
   obtain ⟨g, gk, gs, gw, gf, gz, vs, ka, sa, wa, fa, ck, cs, cw, cf, rfl, hg, ok, os, ow, of, lv, oz, dk⟩ := x
   have dk2 := dk; obtain ⟨lk, ls, lw, lf, lB, n0, n1, t0, t1⟩ := dk2
   replace hS : K.Sat w0 [g, gk, gs, gw, gf, gz, fr] w := hS.of
   obtain ⟨gA, gi, gC, ia, ic, rfl, hvk, oi, hset⟩ := oz.at i.toNat (by omega)
   have hBl := trues_len (D.flush.getD i.toNat []); have hBn := dk.getB (q := i.toNat) (by omega)
   replace hS : K.Sat w0 [g, gk, gs, gw, gf, gA, gi, gC, fr] w := hS.of
   refine K.g (K.q [K.pa p, K.pa p, .pointer (some ⟨p, 3, none⟩)] ?_)
   refine K.d (.slice fa t cf) ((hS.blk 0 rfl hg).cell rfl) ?_
   refine K.q [K.iv i] ?_
   obtain ⟨b_5, rfl⟩ := of.some_ (by have := of.le; omega)
   refine K.a (K.QR.ix i.toNat 1 rfl rfl rfl Tryz.underlying178 (by kernel_rfl) (by omega) (by first | (simp; done) | omega | (simp; omega))) ?_
   refine K.q [K.iv j] ?_
   refine K.l (K.OW.gcall hS [4, 6] [0, 1, 2, 3, 5, 7, 8] [.pointer (some ⟨b_5, i.toNat, none⟩), K.iv j] (setPut_okI _ _ i.toNat _ _ vs _ of lv ia ic _ hvk j (by omega) (by omega) _ oi) ?_)
   clear hS; rintro _ _ w ⟨gf_7, gi_8, a_9, cc_10, rfl, of_11, oi_12⟩ hS
   replace hS : K.Sat w0 [gf_7, gi_8, g, gk, gs, gw, gA, gC, fr] w := hS
   refine K.z (K.t (K.s (K.g (K.q [K.iv 0] (K.z (K.t (K.r ?_)))))))
   replace hS : K.Sat w0 [[gA, gi_8, gC].flatten, gf_7, g, gk, gs, gw, fr] w := (hS.pick [6, 1, 7, 0, 2, 3, 4, 5, 8]).of
   replace hS : K.Sat w0 [[g, gk, gs, gw, gf_7, [gA, gi_8, gC].flatten].flatten, fr] w := (hS.pick [2, 3, 4, 5, 1, 0, 6]).of
   refine ⟨.inr rfl, rfl, (K.iv 0), K.res1 rfl rfl, [[g, gk, gs, gw, gf_7, [gA, gi_8, gC].flatten].flatten], ?_, hS.pick [0, 1]⟩
   exact .inl ⟨rfl, by omega, _, rfl, ⟨_, _, _, _, _, _, _, _, _, _, _, _, _, _, _, rfl, hg, ok, os, ow, of_11, (List.length_set.trans lv), (hset _ _ _ _ oi_12), (dk.set (by rw [List.length_set]; exact hBn))⟩⟩
  ·
   replace hS : K.Sat w0 [l, fr] w := hS
   refine K.q [K.iv 5] (K.z (K.t (K.s (K.g (K.q [K.iv 5, .bool true] (K.z (K.t (K.h (K.s (K.g (K.q [K.iv 5, K.iv 5] (K.z (K.t (K.r ?_))))))))))))))
   refine K.u ?_
   refine ⟨.inr rfl, rfl, (K.iv 5), K.res1 rfl rfl, [l], ?_, hS.pick [0, 1]⟩
   exact .inr (.inr ⟨rfl, by omega, rfl⟩)
 ·
  replace hS : K.Sat w0 [l, fr] w := hS
  refine K.q [K.iv 1] (K.z (K.t (K.s (K.g (K.q [K.iv 1, .bool true] (K.z (K.t (K.h (K.s (K.g (K.q [K.iv 1, K.iv 1] (K.z (K.t (K.r ?_))))))))))))))
  refine K.u ?_
  refine ⟨.inr rfl, rfl, (K.iv 1), K.res1 rfl rfl, [l], ?_, hS.pick [0, 1]⟩
  exact .inr (.inl ⟨rfl, by omega, rfl⟩)
set_option maxHeartbeats 1000000 in
set_option maxRecDepth 100000 in
theorem dvBack_ok (w0 : World) (p n t : Nat) (D : DevM) (l : K.Cs) (x : DevAt l p n t D) (i : Int) (hi : isInt i) (hin : 0 ≤ i ∧ i < n) :
  K.GC Tryz.prog w0 134 #[K.pa p, K.iv i] [l] (fun v post => ∃ l', post = [l'] ∧ DevAt l' p n t (D.back i.toNat)) := by
 refine K.GC.mk (n := 26) Tryz.func134 rfl rfl [K.pa p, K.iv i] rfl rfl ?_
 intro fr w hS
 replace hS : K.Sat w0 [l, fr] w := hS
 refine K.s ?_
 obtain ⟨g, gk, gs, gw, gf, gz, vs, ka, sa, wa, fa, ck, cs, cw, cf, rfl, hg, ok, os, ow, of, lv, oz, dk⟩ := x
 have dk2 := dk; obtain ⟨lk, ls, lw, lf, lB, n0, n1, t0, t1⟩ := dk2
 replace hS : K.Sat w0 [g, gk, gs, gw, gf, gz, fr] w := hS.of
 refine K.KW.gdrawn [0] hS (by kernel_rfl) ?_
 clear hS; intro w hS
 refine K.p 0 rfl (K.pa p) (hS.pick [0]) ?_
 refine K.p 1 rfl (K.pa p) (hS.pick [0]) ?_
 refine K.p 2 rfl (K.pa p) (hS.pick [0]) ?_
 refine K.o_ 3 rfl (.slice ka n ck) (fun w hS => ((hS.blk 0 rfl hg).cell rfl)) (hS.pick [0]) ?_
 refine K.p 4 rfl (K.iv i) (hS.pick [0]) ?_
 refine K.p 5 rfl (K.pa p) (hS.pick [0]) ?_
 refine K.p 6 rfl (K.pa p) (hS.pick [0]) ?_
 refine K.p 7 rfl (.pointer (some ⟨p, 1, none⟩)) (hS.pick [0]) ?_
 refine K.o_ 8 rfl (.slice sa n cs) (fun w hS => ((hS.blk 0 rfl hg).cell rfl)) (hS.pick [0]) ?_
 refine K.b 9 rfl (K.iv i) (hS.pick [0]) ?_
 obtain ⟨b_1, rfl⟩ := os.some_ (by have := os.le; omega)
 refine K.c 10 rfl (K.QR.ix (0 + i.toNat * 8) 8 rfl rfl rfl Tryz.underlying177 (by kernel_rfl) (by omega) (by first | (simp; done) | omega | (simp; omega))) (hS.pick [0]) ?_
 refine K.c 11 rfl (K.QR.ldN [.int .u64 (D.seen.getD (0 + i.toNat * 8 + 0) 0), .int .u64 (D.seen.getD (0 + i.toNat * 8 + 1) 0), .int .u64 (D.seen.getD (0 + i.toNat * 8 + 2) 0), .int .u64 (D.seen.getD (0 + i.toNat * 8 + 3) 0), .int .u64 (D.seen.getD (0 + i.toNat * 8 + 4) 0), .int .u64 (D.seen.getD (0 + i.toNat * 8 + 5) 0), .int .u64 (D.seen.getD (0 + i.toNat * 8 + 6) 0), .int .u64 (D.seen.getD (0 + i.toNat * 8 + 7) 0)] rfl rfl (by kernel_rfl) (by kernel_rfl) (K.cells (K.cl (K.Own.at1 (c := cU64) (d := 0) (fun _ => rfl) (hS.ownr 2 rfl os) ls (0 + i.toNat * 8 + 0) (by omega)) (K.cl (K.Own.at1 (c := cU64) (d := 0) (fun _ => rfl) (hS.ownr 2 rfl os) ls (0 + i.toNat * 8 + 1) (by omega)) (K.cl (K.Own.at1 (c := cU64) (d := 0) (fun _ => rfl) (hS.ownr 2 rfl os) ls (0 + i.toNat * 8 + 2) (by omega)) (K.cl (K.Own.at1 (c := cU64) (d := 0) (fun _ => rfl) (hS.ownr 2 rfl os) ls (0 + i.toNat * 8 + 3) (by omega)) (K.cl (K.Own.at1 (c := cU64) (d := 0) (fun _ => rfl) (hS.ownr 2 rfl os) ls (0 + i.toNat * 8 + 4) (by omega)) (K.cl (K.Own.at1 (c := cU64) (d := 0) (fun _ => rfl) (hS.ownr 2 rfl os) ls (0 + i.toNat * 8 + 5) (by omega)) (K.cl (K.Own.at1 (c := cU64) (d := 0) (fun _ => rfl) (hS.ownr 2 rfl os) ls (0 + i.toNat * 8 + 6) (by omega)) (K.cl (K.Own.at1 (c := cU64) (d := 0) (fun _ => rfl) (hS.ownr 2 rfl os) ls (0 + i.toNat * 8 + 7) (by omega)) K.cl0)))))))))) (hS.pick [0]) ?_
 obtain ⟨b_3, rfl⟩ := ok.some_ (by have := ok.le; omega)
 refine K.c 12 rfl (K.QR.ix (0 + i.toNat * 8) 8 rfl rfl rfl Tryz.underlying177 (by kernel_rfl) (by omega) (by first | (simp; done) | omega | (simp; omega))) (hS.pick [0]) ?_
 refine K.DW.l 13 rfl (by kernel_rfl) rfl (K.OW.grst 1 (0 + i.toNat * 8) [.int .u64 (D.seen.getD (0 + i.toNat * 8 + 0) 0), .int .u64 (D.seen.getD (0 + i.toNat * 8 + 1) 0), .int .u64 (D.seen.getD (0 + i.toNat * 8 + 2) 0), .int .u64 (D.seen.getD (0 + i.toNat * 8 + 3) 0), .int .u64 (D.seen.getD (0 + i.toNat * 8 + 4) 0), .int .u64 (D.seen.getD (0 + i.toNat * 8 + 5) 0), .int .u64 (D.seen.getD (0 + i.toNat * 8 + 6) 0), .int .u64 (D.seen.getD (0 + i.toNat * 8 + 7) 0)] ((copyL D.kept D.seen i.toNat).flatMap cU64) hS ok ?_ (by show _ + 8 ≤ _; omega) (copyL_cells lk ls (by omega)))
 clear hS; intro w l_5 o_6 hS
 replace hS : K.Sat w0 [g, l_5, gs, gw, gf, gz, fr] w := hS
 refine ⟨.inr (by kernel_rfl), ?_⟩
 refine K.DW.done (by kernel_rfl) ?_
 refine K.t (K.g (K.q [K.pa p, K.pa p, .pointer (some ⟨p, 2, none⟩)] ?_))
 refine K.d (.slice wa n cw) ((hS.blk 0 rfl hg).cell rfl) ?_
 refine K.q [K.iv i] ?_
 obtain ⟨b_7, rfl⟩ := ow.some_ (by have := ow.le; omega)
 refine K.a (K.QR.ix i.toNat 1 rfl rfl rfl Tryz.underlying44 (by kernel_rfl) (by omega) (by first | (simp; done) | omega | (simp; omega))) ?_
 refine K.d (K.iv (D.writes.getD i.toNat 0)) (K.Own.atS (c := cI64) (d := 0) (fun _ => rfl) (hS.ownr 3 rfl ow) lw i.toNat (by omega)) ?_
 refine K.q [K.iv (IntKind.i64.wrap ((D.writes.getD i.toNat 0 : Int) + (1 : Int)))] ?_
 refine K.a (K.QR.ix i.toNat 1 rfl rfl rfl Tryz.underlying44 (by kernel_rfl) (by omega) (by first | (simp; done) | omega | (simp; omega))) ?_
 refine K.l (K.OW.grst 3 i.toNat [K.iv (IntKind.i64.wrap ((D.writes.getD i.toNat 0 : Int) + (1 : Int)))] (((D.writes.set i.toNat (IntKind.i64.wrap ((D.writes.getD i.toNat 0 : Int) + (1 : Int))))).flatMap cI64) hS ow ?_ (by show _ + 1 ≤ _; omega) (K.set1 (c := cI64) D.writes i.toNat (IntKind.i64.wrap ((D.writes.getD i.toNat 0 : Int) + (1 : Int))) (by have := lw; omega)))
 clear hS; intro w l_9 o_10 hS
 have ln_11 : ((D.writes.set i.toNat (IntKind.i64.wrap ((D.writes.getD i.toNat 0 : Int) + (1 : Int))))).length = _ := (List.length_set).trans lw
 replace hS : K.Sat w0 [g, l_5, gs, l_9, gf, gz, fr] w := hS
 refine K.z ?_
 replace hS : K.Sat w0 [[g, l_5, gs, l_9, gf, gz].flatten, fr] w := (hS.pick [0, 1, 2, 3, 4, 5, 6]).of
 refine ⟨.inl rfl, rfl, (.tuple #[]), K.res0 rfl, [[g, l_5, gs, l_9, gf, gz].flatten], ?_, hS.pick [0, 1]⟩
 exact ⟨_, rfl, ⟨_, _, _, _, _, _, _, _, _, _, _, _, _, _, _, rfl, hg, o_6, os, o_10, of, lv, oz, (dk.back (by omega))⟩⟩
set_option maxHeartbeats 1000000 in
set_option maxRecDepth 100000 in
theorem dvEvict_ok (w0 : World) (p n t : Nat) (D : DevM) (l : K.Cs) (x : DevAt l p n t D) (i : Int) (hi : isInt i) :
  K.GC Tryz.prog w0 83 #[K.pa p, K.iv i] [l] (fun v post => (v = K.iv 0 ∧ (0 ≤ i ∧ i < n) ∧ ∃ l', post = [l'] ∧ DevAt l' p n t (D.back i.toNat)) ∨ (v = K.iv 5 ∧ ¬(0 ≤ i ∧ i < n) ∧ post = [l])) := by
 refine K.GC.mk (n := 15) Tryz.func83 rfl rfl [K.pa p, K.iv i] rfl rfl ?_
 intro fr w hS
 replace hS : K.Sat w0 [l, fr] w := hS
 refine K.s (K.g (K.q [K.iv 0] (K.z (K.t (K.s (K.s (K.g (K.q [K.pa p, K.iv i] ?_))))))))
 refine K.l (K.OW.gcall hS [0] [1] [K.pa p, K.iv i] (dvLine_ok _ _ _ _ _ _ x i (by omega)) ?_)
 clear hS; rintro _ _ w ⟨rfl, (⟨rfl, h_1⟩ | ⟨rfl, h_2⟩)⟩ hS
 ·
  replace hS : K.Sat w0 [l, fr] w := hS
  refine K.q [K.iv 0] (K.z (K.t (K.s (K.g (K.q [K.iv 0, .bool false] (K.z (K.t (K.f (K.k (K.t (K.s (K.g (K.q [K.pa p, K.iv i] ?_)))))))))))))
  refine K.l (K.OW.gcall hS [0] [1] [K.pa p, K.iv i] (dvBack_ok _ _ _ _ _ _ x i (by omega) (by omega)) ?_)
  clear hS; rintro _ _ w ⟨l_3, rfl, x_4⟩ hS
  replace hS : K.Sat w0 [l_3, fr] w := hS
  refine K.z (K.t (K.s (K.g (K.q [K.iv 0] (K.z (K.t (K.r ?_)))))))
  refine ⟨.inr rfl, rfl, (K.iv 0), K.res1 rfl rfl, [l_3], ?_, hS.pick [0, 1]⟩
  exact .inl ⟨rfl, by omega, _, rfl, x_4⟩
 ·
  replace hS : K.Sat w0 [l, fr] w := hS
  refine K.q [K.iv 5] (K.z (K.t (K.s (K.g (K.q [K.iv 5, .bool true] (K.z (K.t (K.h (K.s (K.g (K.q [K.iv 5, K.iv 5] (K.z (K.t (K.r ?_))))))))))))))
  refine K.u ?_
  refine ⟨.inr rfl, rfl, (K.iv 5), K.res1 rfl rfl, [l], ?_, hS.pick [0, 1]⟩
  exact .inr ⟨rfl, by omega, rfl⟩
theorem fenceTo_succ {D : DevM} {t j : Nat} (h : j < (trues (D.flush.getD t [])).length) : D.fenceTo t (j + 1) = (D.fenceTo t j).back ((trues (D.flush.getD t [])).getD j 0).toNat := by
 unfold DevM.fenceTo
 have e : (trues (D.flush.getD t [])).getD j 0 = (trues (D.flush.getD t []))[j] := by rw [List.getD_eq_getElem?_getD, List.getElem?_eq_getElem h]; rfl
 rw [List.take_succ_eq_append_getElem h, List.foldl_append, e]
 rfl
theorem fenceTo_all {D : DevM} {t j : Nat} (h : (trues (D.flush.getD t [])).length ≤ j) : D.fenceTo t j = D.fence t := by
 unfold DevM.fenceTo DevM.fence
 rw [List.take_of_length_le h]
theorem crashTo_succ {D : DevM} {j : Nat} (h : j < D.flush.length) : (D.crashTo j).clear j = D.crashTo (j + 1) := by
 unfold DevM.crashTo DevM.clear DevM.set
 simp only [DevM.mk.injEq, true_and]
 have hl : ((D.flush.take j).map clr).length = j := by rw [List.length_map, List.length_take]; omega
 have hg : ((D.flush.take j).map clr ++ D.flush.drop j).getD j [] = D.flush.getD j [] := by
  rw [List.getD_eq_getElem?_getD, List.getElem?_append_right (by omega), hl, Nat.sub_self, List.getElem?_drop, Nat.add_zero, List.getD_eq_getElem?_getD]
 rw [hg, List.set_append_right _ _ (by omega), hl, Nat.sub_self, List.drop_eq_getElem_cons h, List.set_cons_zero, List.take_succ_eq_append_getElem h, List.map_append, List.append_assoc]
 simp [clr, h]
theorem crashTo_all {D : DevM} {j : Nat} (h : D.flush.length ≤ j) : D.crashTo j = D.crash := by
 unfold DevM.crashTo DevM.crash
 rw [List.take_of_length_le h, List.drop_of_length_le h, List.append_nil]
theorem crashTo_len {D : DevM} {j : Nat} : (D.crashTo j).flush.length = D.flush.length := by
 unfold DevM.crashTo; simp; omega
theorem one64 (W : List Int) : ∀ v ∈ W.flatMap cU64, v.oneCell' = true := fun v hv => by obtain ⟨y, _, hy⟩ := List.mem_flatMap.1 hv; exact K.one_cells (vs := cU64 y) (by rfl) v hy
set_option maxHeartbeats 1000000 in
set_option maxRecDepth 100000 in
theorem dvFence_ok (w0 : World) (p n t : Nat) (D : DevM) (l : K.Cs) (x : DevAt l p n t D) (i : Int) (hi : isInt i) :
  K.GC Tryz.prog w0 132 #[K.pa p, K.iv i] [l] (fun v post => (v = K.iv 0 ∧ (0 ≤ i ∧ i < t) ∧ ∃ l', post = [l'] ∧ DevAt l' p n t (D.fence i.toNat)) ∨ (v = K.iv 1 ∧ ¬(0 ≤ i ∧ i < t) ∧ post = [l])) := by
 refine K.GC.mk (n := 30) Tryz.func132 rfl rfl [K.pa p, K.iv i] rfl rfl ?_
 intro fr w hS
 replace hS : K.Sat w0 [l, fr] w := hS
 refine K.s (K.g (K.q [K.iv 0] (K.z (K.t (K.s (K.s (K.g (K.q [K.pa p, K.iv i] ?_))))))))
 refine K.l (K.OW.gcall hS [0] [1] [K.pa p, K.iv i] (dvThread_ok _ _ _ _ _ _ x i (by omega)) ?_)
 clear hS; rintro _ _ w ⟨rfl, (⟨rfl, h_1⟩ | ⟨rfl, h_2⟩)⟩ hS
 ·
  replace hS : K.Sat w0 [l, fr] w := hS
  refine K.q [K.iv 0] (K.z (K.t (K.s (K.g (K.q [K.iv 0, .bool false] (K.z (K.t (K.f (K.k (K.t (K.s (K.s ?_))))))))))))
  obtain ⟨g, gk, gs, gw, gf, gz, vs, ka, sa, wa, fa, ck, cs, cw, cf, rfl, hg, ok, os, ow, of, lv, oz, dk⟩ := x
  have dk2 := dk; obtain ⟨lk, ls, lw, lf, lB, n0, n1, t0, t1⟩ := dk2
  replace hS : K.Sat w0 [g, gk, gs, gw, gf, gz, fr] w := hS.of
  obtain ⟨gA, gi, gC, ia, ic, rfl, hvk, oi, hset⟩ := oz.at i.toNat (by omega)
  have hBl := trues_len (D.flush.getD i.toNat []); have hBn := dk.getB (q := i.toNat) (by omega)
  replace hS : K.Sat w0 [g, gk, gs, gw, gf, gA, gi, gC, fr] w := hS.of
  refine K.g (K.q [K.pa p, K.pa p, .pointer (some ⟨p, 3, none⟩)] ?_)
  refine K.d (.slice fa t cf) ((hS.blk 0 rfl hg).cell rfl) ?_
  refine K.q [K.iv i] ?_
  obtain ⟨b_3, rfl⟩ := of.some_ (by have := of.le; omega)
  refine K.a (K.QR.ix i.toNat 1 rfl rfl rfl Tryz.underlying178 (by kernel_rfl) (by omega) (by first | (simp; done) | omega | (simp; omega))) ?_
  refine K.l (K.OW.gcall hS [4] [0, 1, 2, 3, 5, 6, 7, 8] [.pointer (some ⟨b_3, i.toNat, none⟩)] (setTake_ok _ _ i.toNat _ _ vs _ of lv _ _ _ hvk) ?_)
  clear hS; rintro _ _ w ⟨gf_5, rfl, rfl, of_6⟩ hS
  replace hS : K.Sat w0 [gf_5, g, gk, gs, gw, gA, gi, gC, fr] w := hS
  refine K.a (K.QR.len (P := Tryz.prog) rfl rfl Tryz.underlying44) ?_
  refine K.q [K.iv 0] (K.z (K.t ?_))
  refine K.KW.block ?_
  replace hS : K.Sat w0 [[gA, gC].flatten, gf_5, g, gk, gs, gw, gi, fr] w := (hS.pick [5, 7, 0, 1, 2, 3, 4, 6, 8]).of
  have hz := (hset [] none 0 (List.replicate (D.flush.getD i.toNat []).length false) (by rw [trues_rep]; exact K.OwnG.nil _ _)).same (z' := [gA, gC].flatten) (vs' := vs.set i.toNat (.slice none 0 0)) (by simp) (by rw [trues_rep]; rfl) rfl
  replace hS : K.Sat w0 [[g, gk, gs, gw, gf_5, [gA, gC].flatten].flatten, gi, fr] w := (hS.pick [2, 3, 4, 5, 1, 0, 6, 7]).of
  have x2 : DevAt ([g, gk, gs, gw, gf_5, [gA, gC].flatten].flatten) p n t (D.clear i.toNat) := ⟨_, _, _, _, _, _, _, _, _, _, _, _, _, _, _, rfl, hg, ok, os, ow, of_6, (List.length_set.trans lv), hz, (dk.set (by rw [List.length_replicate]; exact hBn))⟩
  generalize [g, gk, gs, gw, gf_5, [gA, gC].flatten].flatten = l2 at hS x2
  refine K.KW.loop (fun m_ F_ w_ => ∃ (j : Nat) (l3 : K.Cs), m_ = (trues (D.flush.getD i.toNat [])).length - j ∧ K.Sl F_ [(0, K.pa p), (1, K.iv i), (4, K.iv 0), (20, .slice ia ((trues (D.flush.getD i.toNat [])).length) ic), (21, K.iv (((trues (D.flush.getD i.toNat [])).length : Nat) : Int)), (22, K.iv ((j : Nat) : Int)), (30, undef)] ∧ j ≤ (trues (D.flush.getD i.toNat [])).length ∧ DevAt l3 p n t (D.fenceTo i.toNat j) ∧ K.Sat w0 [l3, gi, fr] w_) ((fun (j : Nat) => (trues (D.flush.getD i.toNat [])).length - j) 0) ?_ ?_
  ·
   exact ⟨0, l2, rfl, ⟨by rfl, by rfl, by rfl, by rfl, by rfl, by rfl, by rfl, trivial⟩, (by omega), x2, hS.pick [0, 1, 2]⟩
  ·
   clear hS
   intro m_7 F_8 w hI
   obtain ⟨j, l3, rfl, sl_9, p_10, x_11, hS⟩ := hI
   rw [← K.Sl.puts sl_9]; clear sl_9
   refine K.s (K.g ?_)
   by_cases h_12 : (((j : Nat) : Int) : Int) < ((((trues (D.flush.getD i.toNat [])).length : Nat) : Int) : Int)
   ·
    refine K.y ((((j : Nat) : Int) : Int) < ((((trues (D.flush.getD i.toNat [])).length : Nat) : Int) : Int)) h_12 ?_
    refine K.z (K.t (K.s (K.h (K.k (K.t (K.s ?_))))))
    refine K.KW.block ?_
    refine K.s (K.g ?_)
    obtain ⟨b_13, rfl⟩ := oi.some_ (by have := oi.le; omega)
    refine K.a (K.QR.ix j 1 rfl rfl rfl Tryz.underlying44 (by kernel_rfl) (by omega) (by first | (simp; done) | omega | (simp; omega))) ?_
    refine K.d (K.iv ((trues (D.flush.getD i.toNat [])).getD j 0)) (K.Own.atS (c := cI64) (d := 0) (fun _ => rfl) (hS.ownr 1 rfl oi) rfl j (by omega)) ?_
    refine K.q [K.iv ((trues (D.flush.getD i.toNat [])).getD j 0)] (K.z (K.t ?_))
    have hg := trues_get (B := D.flush.getD i.toNat []) (j := j) (by omega)
    refine K.g (K.q [K.pa p, K.iv ((trues (D.flush.getD i.toNat [])).getD j 0)] ?_)
    refine K.l (K.OW.gcall hS [0] [1, 2] [K.pa p, K.iv ((trues (D.flush.getD i.toNat [])).getD j 0)] (dvBack_ok _ _ _ _ _ _ x_11 ((trues (D.flush.getD i.toNat [])).getD j 0) (by omega) (by omega)) ?_)
    clear hS; rintro _ _ w ⟨l_15, rfl, x_16⟩ hS
    replace hS : K.Sat w0 [l_15, gi, fr] w := hS
    refine K.z ?_
    refine K.blk_normal ?_
    refine K.t (K.g ?_)
    refine K.a (K.QR.n64 ((((j : Nat) : Int) : Int) + (1 : Int)) ((j + 1 : Nat) : Int) (by kernel_rfl) (by omega)) ?_
    refine K.q [K.iv ((j + 1 : Nat) : Int)] (K.z (K.t ?_))
    refine ⟨_, ?_, j + 1, l_15, rfl, ⟨by rfl, by rfl, by rfl, by rfl, by rfl, by rfl, by rfl, trivial⟩, (by omega), (by rw [fenceTo_succ (by omega)]; exact x_16), hS.pick [0, 1, 2]⟩
    omega
   ·
    refine K.x ((((j : Nat) : Int) : Int) < ((((trues (D.flush.getD i.toNat [])).length : Nat) : Int) : Int)) h_12 ?_
    refine K.z (K.t (K.s (K.f ?_)))
    refine K.KW.exit ?_
    refine K.thn_exit ?_
    refine K.thn_exit ?_
    refine K.blk_hit ?_
    refine K.t (K.s (K.g (K.q [K.iv 0] (K.z (K.t (K.r ?_))))))
    refine ⟨.inr rfl, rfl, (K.iv 0), K.res1 rfl rfl, [l3], ?_, hS.pick [0, 2]⟩
    exact .inl ⟨rfl, by omega, _, rfl, by rw [← fenceTo_all (j := j) (by omega)]; exact x_11⟩
 ·
  replace hS : K.Sat w0 [l, fr] w := hS
  refine K.q [K.iv 1] (K.z (K.t (K.s (K.g (K.q [K.iv 1, .bool true] (K.z (K.t (K.h (K.s (K.g (K.q [K.iv 1, K.iv 1] (K.z (K.t (K.r ?_))))))))))))))
  refine K.u ?_
  refine ⟨.inr rfl, rfl, (K.iv 1), K.res1 rfl rfl, [l], ?_, hS.pick [0, 1]⟩
  exact .inr ⟨rfl, by omega, rfl⟩
set_option maxHeartbeats 1000000 in
set_option maxRecDepth 100000 in
theorem dvCrash_ok (w0 : World) (p n t : Nat) (D : DevM) (l : K.Cs) (x : DevAt l p n t D) :
  K.GC Tryz.prog w0 135 #[K.pa p] [l] (fun v post => ∃ l', v = .tuple #[] ∧ post = [l'] ∧ DevAt l' p n t D.crash) := by
 have hft : D.flush.length = t := by obtain ⟨_, _, _, _, _, _, _, _, _, _, _, _, _, _, _, _, _, _, _, _, _, _, _, hd⟩ := x; exact hd.2.2.2.1
 refine K.GC.mk (n := 30) Tryz.func135 rfl rfl [K.pa p] rfl rfl ?_
 intro fr w hS
 replace hS : K.Sat w0 [l, fr] w := hS
 refine K.s (K.s (K.g (K.q [K.pa p, .bool false] (K.z (K.t (K.f (K.k (K.t (K.s ?_)))))))))
 obtain ⟨g, gk, gs, gw, gf, gz, vs, ka, sa, wa, fa, ck, cs, cw, cf, rfl, hg, ok, os, ow, of, lv, oz, dk⟩ := x
 have dk2 := dk; obtain ⟨lk, ls, lw, lf, lB, n0, n1, t0, t1⟩ := dk2
 replace hS : K.Sat w0 [g, gk, gs, gw, gf, gz, fr] w := hS.of
 obtain ⟨b_1, rfl⟩ := ok.some_ (by have := ok.le; omega)
 obtain ⟨b_3, rfl⟩ := os.some_ (by have := os.le; omega)
 refine K.KW.gdrawn [0] hS (by kernel_rfl) ?_
 clear hS; intro w hS
 refine K.p 0 rfl (K.pa p) (hS.pick [0]) ?_
 refine K.p 1 rfl (K.pa p) (hS.pick [0]) ?_
 refine K.p 2 rfl (.pointer (some ⟨p, 1, none⟩)) (hS.pick [0]) ?_
 refine K.o_ 3 rfl (.slice (some ⟨b_3, 0, none⟩) n cs) (fun w hS => ((hS.blk 0 rfl hg).cell rfl)) (hS.pick [0]) ?_
 refine K.b 4 rfl (K.pa p) (hS.pick [0]) ?_
 refine K.b 5 rfl (K.pa p) (hS.pick [0]) ?_
 refine K.b 6 rfl (K.pa p) (hS.pick [0]) ?_
 refine K.c 7 rfl (K.QR.ld1 (v := .slice (some ⟨b_1, 0, none⟩) n ck) rfl rfl (by kernel_rfl) ((hS.blk 0 rfl hg).cell rfl)) (hS.pick [0]) ?_
 refine K.DW.l 8 rfl (by kernel_rfl) rfl (K.OW.gcpAll (N := n) (cs := D.kept.flatMap cU64) 2 hS os ?_ ⟨_, rfl, K.Own.cells (hS.ownr 1 rfl ok)⟩ (by rw [K.fl_len (size := 1) (fun _ => rfl), lk, Nat.mul_one]) (one64 _) (by omega) Tryz.underlying177 (by kernel_rfl))
 clear hS; intro w l_5 o_6 hS
 replace hS : K.Sat w0 [g, gk, l_5, gw, gf, gz, fr] w := hS
 refine ⟨.inl (hS.pick [0]), ?_⟩
 refine K.DW.done (by kernel_rfl) ?_
 refine K.t (K.s (K.g (K.q [K.pa p, K.pa p, .pointer (some ⟨p, 3, none⟩)] ?_)))
 refine K.d (.slice fa t cf) ((hS.blk 0 rfl hg).cell rfl) ?_
 refine K.a (K.QR.len (P := Tryz.prog) rfl rfl Tryz.underlying178) ?_
 refine K.q [K.iv 0] (K.z (K.t ?_))
 refine K.KW.block ?_
 replace hS : K.Sat w0 [[g, gk, l_5, gw, gf, gz].flatten, fr] w := (hS.pick [0, 1, 2, 3, 4, 5, 6]).of
 have x2 : DevAt ([g, gk, l_5, gw, gf, gz].flatten) p n t (D.crashTo 0) := ⟨_, _, _, _, _, _, _, _, _, _, _, _, _, _, _, rfl, hg, ok, o_6, ow, of, lv, oz, ⟨lk, lk, lw, lf, lB, n0, n1, t0, t1⟩⟩
 generalize [g, gk, l_5, gw, gf, gz].flatten = l2 at hS x2
 refine K.KW.loop (fun m_ F_ w_ => ∃ (j : Nat) (l3 : K.Cs), m_ = t - j ∧ K.Sl F_ [(0, K.pa p), (18, K.iv ((t : Nat) : Int)), (19, K.iv ((j : Nat) : Int)), (30, undef)] ∧ j ≤ t ∧ DevAt l3 p n t (D.crashTo j) ∧ K.Sat w0 [l3, fr] w_) ((fun (j : Nat) => t - j) 0) ?_ ?_
 ·
  exact ⟨0, l2, rfl, ⟨by rfl, by rfl, by rfl, by rfl, trivial⟩, (by omega), x2, hS.pick [0, 1]⟩
 ·
  clear hS
  intro m_7 F_8 w hI
  obtain ⟨j, l3, rfl, sl_9, p_10, x_11, hS⟩ := hI
  rw [← K.Sl.puts sl_9]; clear sl_9
  refine K.s (K.g ?_)
  by_cases h_12 : (((j : Nat) : Int) : Int) < (((t : Nat) : Int) : Int)
  ·
   refine K.y ((((j : Nat) : Int) : Int) < (((t : Nat) : Int) : Int)) h_12 ?_
   refine K.z (K.t (K.s (K.h (K.k (K.t (K.s ?_))))))
   refine K.KW.block ?_
   refine K.s (K.g (K.q [K.iv ((j : Nat) : Int), K.iv ((j : Nat) : Int)] (K.z (K.t ?_))))
   have hlen := crashTo_len (D := D) (j := j)
   obtain ⟨g, gk, gs, gw, gf, gz, vs, ka, sa, wa, fa, ck, cs, cw, cf, rfl, hg, ok, os, ow, of, lv, oz, dk⟩ := x_11
   have dk2 := dk; obtain ⟨lk, ls, lw, lf, lB, n0, n1, t0, t1⟩ := dk2
   replace hS : K.Sat w0 [g, gk, gs, gw, gf, gz, fr] w := hS.of
   obtain ⟨gA, gi, gC, ia, ic, rfl, hvk, oi, hset⟩ := oz.at j (by omega)
   have hBl := trues_len ((D.crashTo j).flush.getD j []); have hBn := dk.getB (q := j) (by omega)
   replace hS : K.Sat w0 [g, gk, gs, gw, gf, gA, gi, gC, fr] w := hS.of
   refine K.g (K.q [K.pa p, K.pa p, .pointer (some ⟨p, 3, none⟩)] ?_)
   refine K.d (.slice fa t cf) ((hS.blk 0 rfl hg).cell rfl) ?_
   refine K.q [K.iv ((j : Nat) : Int)] ?_
   obtain ⟨b_13, rfl⟩ := of.some_ (by have := of.le; omega)
   refine K.a (K.QR.ix j 1 rfl rfl rfl Tryz.underlying178 (by kernel_rfl) (by omega) (by first | (simp; done) | omega | (simp; omega))) ?_
   refine K.l (K.OW.gcall hS [4] [0, 1, 2, 3, 5, 6, 7, 8] [.pointer (some ⟨b_13, j, none⟩)] (setTake_ok _ _ j _ _ vs _ of lv _ _ _ hvk) ?_)
   clear hS; rintro _ _ w ⟨gf_15, rfl, rfl, of_16⟩ hS
   replace hS : K.Sat w0 [gf_15, g, gk, gs, gw, gA, gi, gC, fr] w := hS
   refine K.z ?_
   refine K.blk_normal ?_
   refine K.t (K.g ?_)
   refine K.a (K.QR.n64 ((((j : Nat) : Int) : Int) + (1 : Int)) ((j + 1 : Nat) : Int) (by kernel_rfl) (by omega)) ?_
   refine K.q [K.iv ((j + 1 : Nat) : Int)] (K.z (K.t ?_))
   replace hS : K.Sat w0 [[gA, gC].flatten, gf_15, g, gk, gs, gw, gi, fr] w := (hS.pick [5, 7, 0, 1, 2, 3, 4, 6, 8]).of
   have hz := (hset [] none 0 (List.replicate ((D.crashTo j).flush.getD j []).length false) (by rw [trues_rep]; exact K.OwnG.nil _ _)).same (z' := [gA, gC].flatten) (vs' := vs.set j (.slice none 0 0)) (by simp) (by rw [trues_rep]; rfl) rfl
   replace hS : K.Sat w0 [[g, gk, gs, gw, gf_15, [gA, gC].flatten].flatten, gi, fr] w := (hS.pick [2, 3, 4, 5, 1, 0, 6, 7]).of
   have x2 : DevAt ([g, gk, gs, gw, gf_15, [gA, gC].flatten].flatten) p n t ((D.crashTo j).clear j) := ⟨_, _, _, _, _, _, _, _, _, _, _, _, _, _, _, rfl, hg, ok, os, ow, of_16, (List.length_set.trans lv), hz, (dk.set (by rw [List.length_replicate]; exact hBn))⟩
   generalize [g, gk, gs, gw, gf_15, [gA, gC].flatten].flatten = l2 at hS x2
   refine ⟨_, ?_, j + 1, l2, rfl, ⟨by rfl, by rfl, by rfl, by rfl, trivial⟩, (by omega), (by rw [← crashTo_succ (by omega)]; exact x2), hS.pick [0, 2]⟩
   omega
  ·
   refine K.x ((((j : Nat) : Int) : Int) < (((t : Nat) : Int) : Int)) h_12 ?_
   refine K.z (K.t (K.s (K.f ?_)))
   refine K.KW.exit ?_
   refine K.thn_exit ?_
   refine K.thn_exit ?_
   refine K.blk_hit ?_
   refine ⟨.inl rfl, rfl, (.tuple #[]), K.res0 rfl, [l3], ?_, hS.pick [0, 1]⟩
   exact ⟨_, rfl, rfl, by rw [← crashTo_all (j := j) (by omega)]; exact x_11⟩
end Go.Proofs.YtbfafebfkdbglaaGreat
