import Derived.Test.YtbfafebfkdbglaaGreatFdv2
import Derived.Test.YtbfafebfkdbglaaGreatFlist
/- The device: its methods. -/
namespace Go.Proofs.YtbfafebfkdbglaaGreat
open Go.RowKit
set_option linter.unusedVariables false
attribute [local irreducible] K.KW K.RW K.DW K.OW K.QR K.KC
theorem dv_ld {w : World} {base e b m cap k : Nat} {vs : List Value} {v : Value} (h : K.Own w base e 1 (some ⟨b, 0, none⟩) m cap (vs.flatMap cV)) (lv : vs.length = m) (hv : vs[k]? = some v) : w.cell? ⟨b, k, none⟩ = some v := by
 have hk : k < vs.length := (List.getElem?_eq_some_iff.1 hv).1
 rw [K.Own.atS (c := cV) (d := undef) (fun _ => rfl) h lv k (by omega), List.getD_eq_getElem?_getD, hv]; rfl
theorem set_self {α : Type} {l : List α} {k : Nat} {v : α} (h : l[k]? = some v) : l.set k v = l := by
 obtain ⟨hk, rfl⟩ := List.getElem?_eq_some_iff.1 h
 simp
set_option maxHeartbeats 1000000 in
set_option maxRecDepth 100000 in
theorem dvLoad_ok (w0 : World) (p n t : Nat) (D : DevM) (l : K.Cs) (x : DevAt l p n t D) (i : Int) (hi : isInt i) :
  K.GC Tryz.prog w0 92 #[K.pa p, K.iv i] [l] (fun v post => post = [l] ∧ ((v = .tuple #[.int .u64 (D.seen.getD i.toNat 0), K.iv 0] ∧ 0 ≤ i ∧ i < n * 8) ∨ (v = .tuple #[.int .u64 0, K.iv 5] ∧ ¬(0 ≤ i ∧ i < n * 8)))) := by
 refine K.GC.mk (n := 24) Tryz.func92 rfl rfl [K.pa p, K.iv i] rfl rfl ?_
 intro fr w hS
 replace hS : K.Sat w0 [l, fr] w := hS
 refine K.s (K.g (K.q [.int .u64 0, K.iv 0] (K.z (K.t (K.s (K.s (K.g (K.q [K.pa p, K.iv i] ?_))))))))
 refine K.l (K.OW.gcall hS [0] [1] [K.pa p, K.iv i] (dvWord_ok _ _ _ _ _ _ x i (by omega)) ?_)
 clear hS; rintro _ _ w ⟨rfl, (⟨rfl, h_1⟩ | ⟨rfl, h_2⟩)⟩ hS
 ·
  replace hS : K.Sat w0 [l, fr] w := hS
  refine K.q [K.iv 0] (K.z (K.t (K.s (K.g (K.q [K.iv 0, .bool false] (K.z (K.t (K.f (K.k (K.t (K.s ?_)))))))))))
  obtain ⟨g, gk, gs, gw, gf, gz, vs, ka, sa, wa, fa, ck, cs, cw, cf, rfl, hg, ok, os, ow, of, lv, oz, dk⟩ := x
  have dk2 := dk; obtain ⟨lk, ls, lw, lf, lB, n0, n1, t0, t1⟩ := dk2
  replace hS : K.Sat w0 [g, gk, gs, gw, gf, gz, fr] w := hS.of
  refine K.g (K.q [K.pa p, K.pa p, .pointer (some ⟨p, 1, none⟩)] ?_)
  refine K.d (.slice sa n cs) ((hS.blk 0 rfl hg).cell rfl) ?_
  refine K.q [K.iv i] ?_
  refine K.a (K.QR.turn (v := K.iv ((i : Int) / 8)) (K.QR.quoi64 (i : Int) 8 ((i : Int) / 8) (by kernel_rfl) (by omega) (by omega)) (congrArg (Value.int .i64) (show ((i : Int) / 8 : Int) = (((i.toNat / 8 : Nat) : Int) : Int) from by omega))) ?_
  refine K.q [K.iv i] ?_
  refine K.a (K.QR.turn (v := K.iv ((i : Int) % 8)) (K.QR.remi64 (i : Int) 8 ((i : Int) % 8) (by kernel_rfl) (by omega) (by omega)) (congrArg (Value.int .i64) (show ((i : Int) % 8 : Int) = (((i.toNat % 8 : Nat) : Int) : Int) from by omega))) ?_
  obtain ⟨b_3, rfl⟩ := os.some_ (by have := os.le; omega)
  refine K.a (K.QR.ix (0 + (i.toNat / 8) * 8) 8 rfl rfl rfl Tryz.underlying177 (by kernel_rfl) (by omega) (by first | (simp; done) | omega | (simp; omega))) ?_
  refine K.a (K.QR.ixA (0 + (i.toNat / 8) * 8 + (i.toNat % 8)) 1 rfl rfl rfl Tryz.underlying206 (by kernel_rfl) (by omega) (by first | (simp; done) | omega | (simp; omega))) ?_
  refine K.d (.int .u64 (D.seen.getD (0 + (i.toNat / 8) * 8 + (i.toNat % 8)) 0)) (K.Own.at1 (c := cU64) (d := 0) (fun _ => rfl) (hS.ownr 2 rfl os) ls (0 + (i.toNat / 8) * 8 + (i.toNat % 8)) (by omega)) ?_
  refine K.q [.int .u64 (D.seen.getD (0 + (i.toNat / 8) * 8 + (i.toNat % 8)) 0), K.iv 0] (K.z (K.t (K.r ?_)))
  replace hS : K.Sat w0 [[g, gk, gs, gw, gf, gz].flatten, fr] w := (hS.pick [0, 1, 2, 3, 4, 5, 6]).of
  refine ⟨.inr rfl, rfl, (.tuple #[.int .u64 (D.seen.getD (0 + (i.toNat / 8) * 8 + (i.toNat % 8)) 0), K.iv 0]), K.res2 rfl rfl rfl, [[g, gk, gs, gw, gf, gz].flatten], ?_, hS.pick [0, 1]⟩
  exact ⟨rfl, .inl ⟨by rw [show 0 + i.toNat / 8 * 8 + i.toNat % 8 = i.toNat by omega], by omega⟩⟩
 ·
  replace hS : K.Sat w0 [l, fr] w := hS
  refine K.q [K.iv 5] (K.z (K.t (K.s (K.g (K.q [K.iv 5, .bool true] (K.z (K.t (K.h (K.s (K.g (K.q [K.iv 5, .int .u64 0, K.iv 5] (K.z (K.t (K.r ?_))))))))))))))
  refine K.u ?_
  refine ⟨.inr rfl, rfl, (.tuple #[.int .u64 0, K.iv 5]), K.res2 rfl rfl rfl, [l], ?_, hS.pick [0, 1]⟩
  exact ⟨rfl, .inr ⟨rfl, by omega⟩⟩
set_option maxHeartbeats 1000000 in
set_option maxRecDepth 100000 in
theorem dvKept_ok (w0 : World) (p n t : Nat) (D : DevM) (l : K.Cs) (x : DevAt l p n t D) :
  K.GC Tryz.prog w0 39 #[K.pa p] [l] (fun v post => ∃ r c l2, v = .slice r D.kept.length c ∧ post = [l, l2] ∧ K.OwnG l2 57 1 r D.kept.length c (D.kept.flatMap cU64)) := by
 refine K.GC.mk (n := 10) Tryz.func39 rfl rfl [K.pa p] rfl rfl ?_
 intro fr w hS
 replace hS : K.Sat w0 [l, fr] w := hS
 refine K.s (K.g (K.q [.slice none 0 0] (K.z (K.t (K.s (K.s (K.g (K.q [K.pa p, .bool false] (K.z (K.t (K.f (K.k (K.t (K.s ?_))))))))))))))
 obtain ⟨g, gk, gs, gw, gf, gz, vs, ka, sa, wa, fa, ck, cs, cw, cf, rfl, hg, ok, os, ow, of, lv, oz, dk⟩ := x
 have dk2 := dk; obtain ⟨lk, ls, lw, lf, lB, n0, n1, t0, t1⟩ := dk2
 replace hS : K.Sat w0 [g, gk, gs, gw, gf, gz, fr] w := hS.of
 refine K.g (K.q [K.pa p, K.pa p, K.pa p] ?_)
 refine K.d (.slice ka n ck) ((hS.blk 0 rfl hg).cell rfl) ?_
 refine K.l (K.OW.kcall hS [.slice ka n ck] (wordsW_ok _ _ _ _ D.kept _ (by omega) lk (hS.ownr 1 rfl ok)) ?_)
 rintro _ w ⟨r_1, cc_2, rfl, c_3, o_4⟩
 obtain ⟨l_5, o_6, hS⟩ := hS.rnew c_3 o_4 (by omega)
 refine K.q [.slice r_1 D.kept.length cc_2] (K.z (K.t (K.r ?_)))
 replace hS : K.Sat w0 [[g, gk, gs, gw, gf, gz].flatten, l_5, fr] w := (hS.pick [1, 2, 3, 4, 5, 6, 0, 7]).of
 refine ⟨.inr rfl, rfl, (.slice r_1 D.kept.length cc_2), K.res1 rfl rfl, [[g, gk, gs, gw, gf, gz].flatten, l_5], ?_, hS.pick [0, 1, 2]⟩
 exact ⟨_, _, _, rfl, rfl, o_6⟩
set_option maxHeartbeats 1000000 in
set_option maxRecDepth 100000 in
theorem dvSeen_ok (w0 : World) (p n t : Nat) (D : DevM) (l : K.Cs) (x : DevAt l p n t D) :
  K.GC Tryz.prog w0 68 #[K.pa p] [l] (fun v post => ∃ r c l2, v = .slice r D.seen.length c ∧ post = [l, l2] ∧ K.OwnG l2 57 1 r D.seen.length c (D.seen.flatMap cU64)) := by
 refine K.GC.mk (n := 10) Tryz.func68 rfl rfl [K.pa p] rfl rfl ?_
 intro fr w hS
 replace hS : K.Sat w0 [l, fr] w := hS
 refine K.s (K.g (K.q [.slice none 0 0] (K.z (K.t (K.s (K.s (K.g (K.q [K.pa p, .bool false] (K.z (K.t (K.f (K.k (K.t (K.s ?_))))))))))))))
 obtain ⟨g, gk, gs, gw, gf, gz, vs, ka, sa, wa, fa, ck, cs, cw, cf, rfl, hg, ok, os, ow, of, lv, oz, dk⟩ := x
 have dk2 := dk; obtain ⟨lk, ls, lw, lf, lB, n0, n1, t0, t1⟩ := dk2
 replace hS : K.Sat w0 [g, gk, gs, gw, gf, gz, fr] w := hS.of
 refine K.g (K.q [K.pa p, K.pa p, .pointer (some ⟨p, 1, none⟩)] ?_)
 refine K.d (.slice sa n cs) ((hS.blk 0 rfl hg).cell rfl) ?_
 refine K.l (K.OW.kcall hS [.slice sa n cs] (wordsW_ok _ _ _ _ D.seen _ (by omega) ls (hS.ownr 2 rfl os)) ?_)
 rintro _ w ⟨r_1, cc_2, rfl, c_3, o_4⟩
 obtain ⟨l_5, o_6, hS⟩ := hS.rnew c_3 o_4 (by omega)
 refine K.q [.slice r_1 D.seen.length cc_2] (K.z (K.t (K.r ?_)))
 replace hS : K.Sat w0 [[g, gk, gs, gw, gf, gz].flatten, l_5, fr] w := (hS.pick [1, 2, 3, 4, 5, 6, 0, 7]).of
 refine ⟨.inr rfl, rfl, (.slice r_1 D.seen.length cc_2), K.res1 rfl rfl, [[g, gk, gs, gw, gf, gz].flatten, l_5], ?_, hS.pick [0, 1, 2]⟩
 exact ⟨_, _, _, rfl, rfl, o_6⟩
set_option maxHeartbeats 1000000 in
set_option maxRecDepth 100000 in
theorem setPut_ok (w0 : World) (b k t cf : Nat) (vs : List Value) (gf : K.Cs) (of : K.OwnG gf 234 1 (some ⟨b, 0, none⟩) t cf (vs.flatMap cV)) (lv : vs.length = t) (ia : Option Addr) (ic : Nat) (Bk : List Bool) (hvk : vs[k]? = some (.slice ia (trues Bk).length ic)) (x : Nat) (hx : x < Bk.length) (hn : Bk.length ≤ 262144) (gi : K.Cs) (oi : K.OwnG gi 3 1 ia (trues Bk).length ic ((trues Bk).flatMap cI64)) :
  K.GC Tryz.prog w0 172 #[.pointer (some ⟨b, k, none⟩), K.iv ((x : Nat) : Int)] [gf, gi] (fun v post => ∃ gf' gi' a' c', post = [gf', gi'] ∧ K.OwnG gf' 234 1 (some ⟨b, 0, none⟩) t cf ((vs.set k (.slice a' (trues (Bk.set x true)).length c')).flatMap cV) ∧ K.OwnG gi' 3 1 a' (trues (Bk.set x true)).length c' ((trues (Bk.set x true)).flatMap cI64)) := by
 have hBl := trues_len Bk
 have hkk : k < t := by rw [← lv]; exact (List.getElem?_eq_some_iff.1 hvk).1
 refine K.GC.mk (n := 28) Tryz.func172 rfl rfl [.pointer (some ⟨b, k, none⟩), K.iv ((x : Nat) : Int)] rfl rfl ?_
 intro fr w hS
 replace hS : K.Sat w0 [gf, gi, fr] w := hS
 refine K.s (K.g (K.q [.pointer (some ⟨b, k, none⟩), .pointer (some ⟨b, k, none⟩), .pointer (some ⟨b, k, none⟩)] ?_))
 refine K.d (.slice ia ((trues Bk).length) ic) (dv_ld (hS.ownr 0 rfl of) lv hvk) ?_
 refine K.q [K.iv ((x : Nat) : Int)] ?_
 refine K.l (K.OW.kcall hS [.slice ia ((trues Bk).length) ic, K.iv ((x : Nat) : Int)] (bsI_ok _ _ (trues Bk) ((x : Nat) : Int) _ (by omega) (trues_rising _) (K.Own.rowE 0 (hS.ownr 1 rfl oi) rfl (fun _ => rfl))) ?_)
 rintro _ w ⟨rfl, c_1⟩
 replace hS := hS.no c_1
 cases hb_2 : (hasT (trues Bk) ((x : Nat) : Int))
 ·
  refine K.q [.tuple #[K.iv (((posT (trues Bk) ((x : Nat) : Int)) : Nat) : Int), .bool false], K.iv (((posT (trues Bk) ((x : Nat) : Int)) : Nat) : Int), .bool false, K.iv (((posT (trues Bk) ((x : Nat) : Int)) : Nat) : Int), .bool false] (K.z (K.t (K.s (K.g (K.q [.bool false, .bool true] (K.z (K.t (K.h (K.g (K.q [.pointer (some ⟨b, k, none⟩), .pointer (some ⟨b, k, none⟩), .pointer (some ⟨b, k, none⟩), .pointer (some ⟨b, k, none⟩)] ?_))))))))))
  refine K.d (.slice ia ((trues Bk).length) ic) (dv_ld (hS.ownr 0 rfl of) lv hvk) ?_
  refine K.q [K.iv (((posT (trues Bk) ((x : Nat) : Int)) : Nat) : Int), K.iv ((x : Nat) : Int)] ?_
  refine K.l (K.OW.gbs [(0, K.iv ((x : Nat) : Int))] [K.iv ((x : Nat) : Int)] hS (fun w => K.bs_run (P := Tryz.prog) w 44 3 1 _ _ Tryz.underlying44 (by kernel_rfl)) ?_)
  clear hS; intro w r_3 g_4 hg_5 hS
  refine K.l (K.OW.gcall hS [2, 0] [1, 3] [.slice ia ((trues Bk).length) ic, K.iv (((posT (trues Bk) ((x : Nat) : Int)) : Nat) : Int), .slice (some ⟨r_3, 0, none⟩) 1 1] (insI_gc _ _ _ _ _ _ _ (trues Bk) ((x : Nat) : Int) (by omega) (posT_le _ _) oi hg_5) ?_)
  clear hS; rintro _ _ w ⟨a_6, cc_7, l_8, rfl, rfl, o_9⟩ hS
  replace hS : K.Sat w0 [l_8, gf, fr] w := hS
  refine K.q [.pointer (some ⟨b, k, none⟩), .pointer (some ⟨b, k, none⟩)] ?_
  refine K.l (K.OW.grst 1 k [.slice a_6 ((trues Bk).length + 1) cc_7] (((vs.set k (.slice a_6 ((trues Bk).length + 1) cc_7))).flatMap cV) hS of ?_ (by show _ + 1 ≤ _; omega) (K.set1 (c := cV) vs k (.slice a_6 ((trues Bk).length + 1) cc_7) (by have := lv; omega)))
  clear hS; intro w l_10 o_11 hS
  have ln_12 : ((vs.set k (.slice a_6 ((trues Bk).length + 1) cc_7))).length = _ := (List.length_set).trans lv
  replace hS : K.Sat w0 [l_8, l_10, fr] w := hS
  refine K.z ?_
  have e0 := trues_set hx; rw [hb_2] at e0; simp only [Bool.false_eq_true, if_false] at e0; have e1 : (trues (Bk.set x true)).length = (trues Bk).length + 1 := by rw [e0]; exact insT_len (posT_le _ _)
  refine ⟨.inl rfl, rfl, (.tuple #[]), K.res0 rfl, [l_10, l_8], ?_, hS.pick [1, 0, 2]⟩
  exact ⟨_, _, a_6, cc_7, rfl, by rw [e1]; exact o_11, by rw [e1, e0]; exact o_9⟩
 ·
  refine K.q [.tuple #[K.iv (((posT (trues Bk) ((x : Nat) : Int)) : Nat) : Int), .bool true], K.iv (((posT (trues Bk) ((x : Nat) : Int)) : Nat) : Int), .bool true, K.iv (((posT (trues Bk) ((x : Nat) : Int)) : Nat) : Int), .bool true] (K.z (K.t (K.s (K.g (K.q [.bool true, .bool false] (K.z (K.t (K.f (K.k ?_)))))))))
  refine ⟨.inl rfl, rfl, (.tuple #[]), K.res0 rfl, [gf, gi], ?_, hS.pick [0, 1, 2]⟩
  exact ⟨gf, gi, ia, ic, rfl, by rw [set_true hx hb_2, set_self hvk]; exact of, by rw [set_true hx hb_2]; exact oi⟩
set_option maxHeartbeats 1000000 in
set_option maxRecDepth 100000 in
theorem setTake_ok (w0 : World) (b k t cf : Nat) (vs : List Value) (gf : K.Cs) (of : K.OwnG gf 234 1 (some ⟨b, 0, none⟩) t cf (vs.flatMap cV)) (lv : vs.length = t) (ia : Option Addr) (ic : Nat) (Bk : List Bool) (hvk : vs[k]? = some (.slice ia (trues Bk).length ic)) :
  K.GC Tryz.prog w0 173 #[.pointer (some ⟨b, k, none⟩)] [gf] (fun v post => ∃ gf', v = .slice ia (trues Bk).length ic ∧ post = [gf'] ∧ K.OwnG gf' 234 1 (some ⟨b, 0, none⟩) t cf ((vs.set k (.slice none 0 0)).flatMap cV)) := by
 have hkk : k < t := by rw [← lv]; exact (List.getElem?_eq_some_iff.1 hvk).1
 refine K.GC.mk (n := 12) Tryz.func173 rfl rfl [.pointer (some ⟨b, k, none⟩)] rfl rfl ?_
 intro fr w hS
 replace hS : K.Sat w0 [gf, fr] w := hS
 refine K.s (K.g (K.q [.slice none 0 0] (K.z (K.t (K.s (K.g (K.q [.pointer (some ⟨b, k, none⟩), .pointer (some ⟨b, k, none⟩), .pointer (some ⟨b, k, none⟩)] ?_)))))))
 refine K.d (.slice ia ((trues Bk).length) ic) (dv_ld (hS.ownr 0 rfl of) lv hvk) ?_
 refine K.q [.slice ia ((trues Bk).length) ic] (K.z (K.t (K.s (K.g (K.q [.pointer (some ⟨b, k, none⟩), .pointer (some ⟨b, k, none⟩), .pointer (some ⟨b, k, none⟩)] ?_)))))
 refine K.l (K.OW.grst 0 k [.slice none 0 0] (((vs.set k (.slice none 0 0))).flatMap cV) hS of ?_ (by show _ + 1 ≤ _; omega) (K.set1 (c := cV) vs k (.slice none 0 0) (by have := lv; omega)))
 clear hS; intro w l_1 o_2 hS
 have ln_3 : ((vs.set k (.slice none 0 0))).length = _ := (List.length_set).trans lv
 replace hS : K.Sat w0 [l_1, fr] w := hS
 refine K.z (K.t (K.s (K.g (K.q [.slice ia ((trues Bk).length) ic, .slice ia ((trues Bk).length) ic] (K.z (K.t (K.r ?_)))))))
 refine ⟨.inr rfl, rfl, (.slice ia ((trues Bk).length) ic), K.res1 rfl rfl, [l_1], ?_, hS.pick [0, 1]⟩
 exact ⟨_, rfl, rfl, o_2⟩
theorem setPut_okI (w0 : World) (b k t cf : Nat) (vs : List Value) (gf : K.Cs) (of : K.OwnG gf 234 1 (some ⟨b, 0, none⟩) t cf (vs.flatMap cV)) (lv : vs.length = t) (ia : Option Addr) (ic : Nat) (Bk : List Bool) (hvk : vs[k]? = some (.slice ia (trues Bk).length ic)) (x : Int) (hx : 0 ≤ x ∧ x < Bk.length) (hn : Bk.length ≤ 262144) (gi : K.Cs) (oi : K.OwnG gi 3 1 ia (trues Bk).length ic ((trues Bk).flatMap cI64)) :
  K.GC Tryz.prog w0 172 #[.pointer (some ⟨b, k, none⟩), K.iv x] [gf, gi] (fun v post => ∃ gf' gi' a' c', post = [gf', gi'] ∧ K.OwnG gf' 234 1 (some ⟨b, 0, none⟩) t cf ((vs.set k (.slice a' (trues (Bk.set x.toNat true)).length c')).flatMap cV) ∧ K.OwnG gi' 3 1 a' (trues (Bk.set x.toNat true)).length c' ((trues (Bk.set x.toNat true)).flatMap cI64)) := by
 obtain ⟨q, rfl⟩ := Int.eq_ofNat_of_zero_le hx.1
 exact setPut_ok w0 b k t cf vs gf of lv ia ic Bk hvk q (by omega) hn gi oi
end Go.Proofs.YtbfafebfkdbglaaGreat
