/- Layer 13: what the statements call. -/
import Derived.Test.YtkmndplicmaahaaFlk
import Derived.Test.YtkmndplicmaahaaKn
namespace Go.Proofs.Ytkmndplicmaahaa
open Go.RowKit
set_option linter.unusedVariables false
attribute [local irreducible] K.KW K.RW K.DW K.OW K.QR K.KC
theorem i64s_int (x : Int) : isInt (i64s x) := by
 have : i64s x = (x + 1 + 9223372036854775808) % 18446744073709551616 - 9223372036854775808 := by
  unfold i64s; simp [IntKind.wrap, IntKind.bits, IntKind.signed]; omega
 rw [this]; omega
theorem isL00 : isL 0 := by unfold isL; omega
theorem rdStep_good2 {n nt : Nat} {S : RdS} {M : MemM} (hS : S.good) (hM : M.good) : (rdStep n nt S M).1.good ∧ (rdStep n nt S M).2.good := rdStep_good hS hM (i64s_int _)
theorem rdInit {a b : Int} (ha : isInt a) (hb : isInt b) : RdS.good ⟨a, b, 0, 0, -1⟩ := ⟨ha, hb, (by decide : (0 : Int) ≤ 0 ∧ (0 : Int) ≤ 4), isL00, (by omega : isInt (-1))⟩
theorem seInit {a b o w : Int} (ha : isInt a) (hb : isInt b) : SeS.good ⟨a, b, 0, cleanI w, -1, cleanI o, false, 0⟩ := ⟨ha, hb, (by decide : (0 : Int) ≤ 0 ∧ (0 : Int) ≤ 4), cleanI_l _, cleanI_l _, fun _ => ⟨rfl, rfl, rfl⟩⟩
theorem rdWord_w {S : RdS} (h : S.good) : isW (rdWord S) := by
 unfold rdWord
 split
 ·exact h.2.2.2.1.w
 ·exact isW0
set_option maxHeartbeats 1000000 in
set_option maxRecDepth 100000 in
theorem newrd_ok (w0 : World) (tt : Int) (htt : isInt tt) (ii : Int) (hii : isInt ii) :
  K.GC Try.prog w0 16 #[.int .i64 tt, .int .i64 ii] [] (fun v post => ∃ p g, v = .pointer (some ⟨p, 0, none⟩) ∧ post = [g] ∧ g = rdPt p ⟨tt, ii, 0, 0, -1⟩) := by
 refine K.GC.mk (n := 10) Try.func16 rfl rfl [.int .i64 tt, .int .i64 ii] rfl rfl ?_
 intro fr w hS
 replace hS : K.Sat w0 [fr] w := hS
 refine K.s (K.g (K.q [.pointer none] (K.z (K.t (K.s (K.g (K.q [.int .i64 tt, .int .i64 ii] ?_)))))))
 refine K.a (K.QR.bd [(0, .int .i64 tt), (1, .int .i64 ii), (4, .int .i64 (-1))] [.int .i64 tt, .int .i64 ii, .int .i64 0, .int .u64 0, .int .i64 (-1)] rfl rfl (by kernel_rfl)) ?_
 refine K.a (K.QR.bd [(0, .agg #[.int .i64 tt, .int .i64 ii, .int .i64 0, .int .u64 0, .int .i64 (-1)])] [.int .i64 tt, .int .i64 ii, .int .i64 0, .int .u64 0, .int .i64 (-1)] rfl rfl (by kernel_rfl)) ?_
 refine K.l (K.OW.gnew 124 [.int .i64 tt, .int .i64 ii, .int .i64 0, .int .u64 0, .int .i64 (-1)] hS ?_)
 clear hS; intro w r_1 g_2 hg_3 hS
 refine K.q [.pointer (some ⟨r_1, 0, none⟩)] (K.z (K.t (K.r ?_)))
 refine ⟨.inr rfl, rfl, (.pointer (some ⟨r_1, 0, none⟩)), K.res1 rfl rfl, [g_2], ?_, hS.pick [0, 1]⟩
 exact ⟨_, _, rfl, rfl, hg_3⟩
set_option maxHeartbeats 1000000 in
set_option maxRecDepth 100000 in
theorem newse_ok (w0 : World) (tt : Int) (htt : isInt tt) (ii : Int) (hii : isInt ii) (oo : Int) (hoo : isW oo) (ww : Int) (hww : isW ww) :
  K.GC Try.prog w0 22 #[.int .i64 tt, .int .i64 ii, .int .u64 oo, .int .u64 ww] [] (fun v post => ∃ p g, v = .pointer (some ⟨p, 0, none⟩) ∧ post = [g] ∧ g = sePt p ⟨tt, ii, 0, (cleanI ww), -1, (cleanI oo), false, 0⟩) := by
 refine K.GC.mk (n := 18) Try.func22 rfl rfl [.int .i64 tt, .int .i64 ii, .int .u64 oo, .int .u64 ww] rfl rfl ?_
 intro fr w hS
 replace hS : K.Sat w0 [fr] w := hS
 refine K.s (K.g (K.q [.pointer none] (K.z (K.t (K.s (K.g (K.q [.int .i64 tt, .int .i64 ii, .int .u64 ww] ?_)))))))
 refine K.l (K.OW.gcall hS [] [0] [.int .u64 ww] (clean_ok _ ww (by first | assumption | exact isL.w (by assumption) | exact soilI_w _ | (unfold isW; omega))) ?_)
 clear hS; rintro _ _ w ⟨rfl, rfl⟩ hS
 replace hS : K.Sat w0 [fr] w := hS
 have hw_1 : isL (cleanI ww) := cleanI_l _
 refine K.a (K.QR.bd [(0, .int .i64 tt), (1, .int .i64 ii), (3, .int .u64 (cleanI ww)), (4, .int .i64 (-1))] [.int .i64 tt, .int .i64 ii, .int .i64 0, .int .u64 (cleanI ww), .int .i64 (-1)] rfl rfl (by kernel_rfl)) ?_
 refine K.q [.int .u64 oo] ?_
 refine K.l (K.OW.gcall hS [] [0] [.int .u64 oo] (clean_ok _ oo (by first | assumption | exact isL.w (by assumption) | exact soilI_w _ | (unfold isW; omega))) ?_)
 clear hS; rintro _ _ w ⟨rfl, rfl⟩ hS
 replace hS : K.Sat w0 [fr] w := hS
 have hw_2 : isL (cleanI oo) := cleanI_l _
 refine K.a (K.QR.bd [(0, .agg #[.int .i64 tt, .int .i64 ii, .int .i64 0, .int .u64 (cleanI ww), .int .i64 (-1)]), (1, .int .u64 (cleanI oo))] [.int .i64 tt, .int .i64 ii, .int .i64 0, .int .u64 (cleanI ww), .int .i64 (-1), .int .u64 (cleanI oo), .bool false, .int .i64 0] rfl rfl (by kernel_rfl)) ?_
 refine K.l (K.OW.gnew 132 [.int .i64 tt, .int .i64 ii, .int .i64 0, .int .u64 (cleanI ww), .int .i64 (-1), .int .u64 (cleanI oo), .bool false, .int .i64 0] hS ?_)
 clear hS; intro w r_3 g_4 hg_5 hS
 refine K.q [.pointer (some ⟨r_3, 0, none⟩)] (K.z (K.t (K.r ?_)))
 refine ⟨.inr rfl, rfl, (.pointer (some ⟨r_3, 0, none⟩)), K.res1 rfl rfl, [g_4], ?_, hS.pick [0, 1]⟩
 exact ⟨_, _, rfl, rfl, hg_5⟩
set_option maxHeartbeats 1000000 in
set_option maxRecDepth 100000 in
theorem rdWord_ok (w0 : World) (p : Nat) (S : RdS) (gp : K.Cs) (hgp : gp = rdPt p S) :
  K.GC Try.prog w0 18 #[.pointer (some ⟨p, 0, none⟩)] [gp] (fun v post => v = .int .u64 (rdWord S) ∧ post = [gp]) := by
 refine K.GC.mk (n := 18) Try.func18 rfl rfl [.pointer (some ⟨p, 0, none⟩)] rfl rfl ?_
 intro fr w hS
 replace hS : K.Sat w0 [gp, fr] w := hS
 refine K.s (K.g (K.q [.int .u64 0] (K.z (K.t (K.s (K.s (K.g (K.q [.pointer (some ⟨p, 0, none⟩), .bool false, .bool false, .pointer (some ⟨p, 0, none⟩), .pointer (some ⟨p, 0, none⟩), .pointer (some ⟨p, 0, none⟩), .pointer (some ⟨p, 2, none⟩)] ?_))))))))
 refine K.d (.int .i64 S.pc) ((hS.blk 0 rfl hgp).cell rfl) ?_
 by_cases h_1 : (S.pc : Int) = (4 : Int)
 ·
  refine K.xn (S.pc : Int) (4 : Int) h_1 ?_
  refine K.q [.bool false] (K.z (K.t (K.f (K.k (K.t (K.s (K.g (K.q [.pointer (some ⟨p, 0, none⟩), .pointer (some ⟨p, 0, none⟩), .pointer (some ⟨p, 0, none⟩), .pointer (some ⟨p, 3, none⟩)] ?_))))))))
  refine K.d (.int .u64 S.word) ((hS.blk 0 rfl hgp).cell rfl) ?_
  refine K.q [.int .u64 S.word] (K.z (K.t (K.r ?_)))
  refine ⟨.inr rfl, rfl, (.int .u64 S.word), K.res1 rfl rfl, [gp], ?_, hS.pick [0, 1]⟩
  exact ⟨congrArg (Value.int .u64) (if_pos (by omega)).symm, rfl⟩
 ·
  refine K.yn (S.pc : Int) (4 : Int) h_1 ?_
  refine K.q [.bool true] (K.z (K.t (K.h (K.s (K.g (K.q [.int .u64 0] (K.z (K.t (K.r (K.u ?_))))))))))
  refine ⟨.inr rfl, rfl, (.int .u64 0), K.res1 rfl rfl, [gp], ?_, hS.pick [0, 1]⟩
  exact ⟨congrArg (Value.int .u64) (if_neg (by omega)).symm, rfl⟩
set_option maxHeartbeats 1000000 in
set_option maxRecDepth 100000 in
theorem sePut_ok (w0 : World) (p : Nat) (S : SeS) (gp : K.Cs) (hgp : gp = sePt p S) :
  K.GC Try.prog w0 24 #[.pointer (some ⟨p, 0, none⟩)] [gp] (fun v post => v = .bool S.put ∧ post = [gp]) := by
 refine K.GC.mk (n := 11) Try.func24 rfl rfl [.pointer (some ⟨p, 0, none⟩)] rfl rfl ?_
 intro fr w hS
 replace hS : K.Sat w0 [gp, fr] w := hS
 refine K.s (K.g (K.q [.bool false] (K.z (K.t (K.s (K.g (K.q [.pointer (some ⟨p, 0, none⟩), .bool true, .bool true, .pointer (some ⟨p, 0, none⟩), .pointer (some ⟨p, 0, none⟩), .pointer (some ⟨p, 6, none⟩)] ?_)))))))
 refine K.d (.bool S.put) ((hS.blk 0 rfl hgp).cell rfl) ?_
 refine K.q [.bool S.put, .bool S.put] (K.z (K.t (K.r ?_)))
 refine ⟨.inr rfl, rfl, (.bool S.put), K.res1 rfl rfl, [gp], ?_, hS.pick [0, 1]⟩
 exact ⟨rfl, rfl⟩
theorem rdDoneB_ok (w0 : World) (p : Nat) (S : RdS) (gp : K.Cs) (hgp : gp = rdPt p S) : K.GC Try.prog w0 48 #[.pointer (some ⟨p, 0, none⟩)] [gp] (fun v post => v = .bool S.done ∧ post = [gp]) := by
 refine (rdDone_ok w0 p S gp hgp).mono ?_
 rintro v post ⟨rfl, ⟨rfl, h⟩ | ⟨rfl, h⟩⟩
 ·exact ⟨congrArg Value.bool (decide_eq_true h).symm, rfl⟩
 ·exact ⟨congrArg Value.bool (decide_eq_false h).symm, rfl⟩
theorem seDoneB_ok (w0 : World) (p : Nat) (S : SeS) (gp : K.Cs) (hgp : gp = sePt p S) : K.GC Try.prog w0 26 #[.pointer (some ⟨p, 0, none⟩)] [gp] (fun v post => v = .bool S.done ∧ post = [gp]) := by
 refine (seDone_ok w0 p S gp hgp).mono ?_
 rintro v post ⟨rfl, ⟨rfl, h⟩ | ⟨rfl, h⟩⟩
 ·exact ⟨congrArg Value.bool (decide_eq_true h).symm, rfl⟩
 ·exact ⟨congrArg Value.bool (decide_eq_false h).symm, rfl⟩
def ayC : Cfg := ⟨1, 1, 1, 1⟩
def ay0 : MemM := groundM (lns ayC).toNat ayC.th.toNat (2 + ayC.th + ayC.sl).toNat []
def ay1 := seStep (lns ayC).toNat ayC.th.toNat ⟨0, 16, 0, cleanI 5, -1, cleanI 0, false, 0⟩ ay0
def ay2 := seStep (lns ayC).toNat ayC.th.toNat ay1.1 ay1.2
def ay3 := seStep (lns ayC).toNat ayC.th.toNat ay2.1 ay2.2
def ay4 := seStep (lns ayC).toNat ayC.th.toNat ay3.1 ay3.2
def ay5 := rdStep (lns ayC).toNat ayC.th.toNat ⟨0, 16, 0, 0, -1⟩ ay4.2
set_option maxHeartbeats 4000000 in
set_option maxRecDepth 100000 in
theorem awake13_ok (w0 : World)  :
  K.GC Try.prog w0 12 #[] [] (fun v post => v = .bool true ∧ post = []) := by
 refine K.GC.mk (n := 76) Try.func12 rfl rfl [] rfl rfl ?_
 intro fr w hS
 replace hS : K.Sat w0 [fr] w := hS
 refine K.s (K.g (K.q [.bool false] (K.z (K.t (K.s (K.g ?_))))))
 refine K.a (K.QR.bd [(0, .int .i64 1), (1, .int .i64 1), (2, .int .i64 1), (3, .int .i64 1)] [.int .i64 1, .int .i64 1, .int .i64 1, .int .i64 1] rfl rfl (by kernel_rfl)) ?_
 refine K.a (K.QR.bd [(0, .agg #[.int .i64 1, .int .i64 1, .int .i64 1, .int .i64 1])] [.int .i64 1, .int .i64 1, .int .i64 1, .int .i64 1, .slice none 0 0] rfl rfl (by kernel_rfl)) ?_
 refine K.l (K.OW.gcall hS [51] [0] [.agg #[.int .i64 1, .int .i64 1, .int .i64 1, .int .i64 1, .slice none 0 0]] (layS_ok _ (⟨1, 1, 1, 1⟩ : Cfg) _ _ [] (fun j hj => absurd hj (by simp)) (⟨by unfold fewC cfgOk; decide, by decide⟩) _ (fun _ _ => K.RowE.zero _ _ _ _)) ?_)
 clear hS; rintro _ _ w ⟨b_1, p_2, q_3, r_4, u_5, _, _, gl_6, l_7, m_8, rfl, rfl, hl_9, x_10, y_11, rfl, rfl, hf_12, hp_13⟩ hS
 replace hS : K.Sat w0 [gl_6, l_7, m_8, fr] w := hS.of (by simp [K.pick, K.nth])
 replace x_10 : MemAt l_7 p_2 q_3 ((lns (⟨1, 1, 1, 1⟩ : Cfg)).toNat) ((⟨1, 1, 1, 1⟩ : Cfg).th.toNat) ay0 := x_10
 have hM_14 : ay0.good := ground_good (fun j hj => absurd hj (by simp))
 refine K.q [.tuple #[.pointer (some ⟨b_1, 0, none⟩), .pointer (some ⟨p_2, 0, none⟩), .pointer (some ⟨r_4, 0, none⟩), .bool true], .pointer (some ⟨b_1, 0, none⟩), .pointer (some ⟨p_2, 0, none⟩), .pointer (some ⟨r_4, 0, none⟩), .bool true, .pointer (some ⟨b_1, 0, none⟩), .pointer (some ⟨p_2, 0, none⟩), .pointer (some ⟨r_4, 0, none⟩), .bool true] (K.z (K.t (K.s (K.g ?_))))
 refine K.l (K.OW.gcall hS [] [0, 1, 2, 3] [.int .i64 0, .int .i64 16, .int .u64 0, .int .u64 5] (newse_ok _ (0 : Int) (by first | omega | assumption) (16 : Int) (by first | omega | assumption) (0 : Int) (by first | assumption | exact isL.w (by assumption) | (unfold isW; omega) | exact rdWord_w (by assumption)) (5 : Int) (by first | assumption | exact isL.w (by assumption) | (unfold isW; omega) | exact rdWord_w (by assumption))) ?_)
 clear hS; rintro _ _ w ⟨p_15, g_16, rfl, rfl, h_17⟩ hS
 replace hS : K.Sat w0 [g_16, gl_6, l_7, m_8, fr] w := hS
 have hS_18 : SeS.good (⟨(0 : Int), (16 : Int), 0, (cleanI (5 : Int)), -1, (cleanI (0 : Int)), false, 0⟩ : SeS) := seInit (by omega) (by omega)
 refine K.q [.pointer (some ⟨p_15, 0, none⟩)] (K.z (K.t (K.s (K.g (K.q [.pointer (some ⟨p_15, 0, none⟩), .pointer (some ⟨p_2, 0, none⟩)] ?_)))))
 refine K.l (K.OW.gcall hS [0, 2] [1, 3, 4] [.pointer (some ⟨p_15, 0, none⟩), .pointer (some ⟨p_2, 0, none⟩)] (seStep_ok _ _ _ _ _ _ (⟨(0 : Int), (16 : Int), 0, (cleanI (5 : Int)), -1, (cleanI (0 : Int)), false, 0⟩ : SeS) ay0 _ _ h_17 x_10 (by assumption) (by assumption)) ?_)
 clear hS; rintro _ _ w ⟨g_19, l_20, rfl, rfl, h_21, x_22⟩ hS
 replace hS : K.Sat w0 [g_19, l_20, gl_6, m_8, fr] w := hS
 obtain ⟨hS_23, hM_24⟩ := (seStep_good (by assumption) (by assumption) : (seStep ((lns (⟨1, 1, 1, 1⟩ : Cfg)).toNat) ((⟨1, 1, 1, 1⟩ : Cfg).th.toNat) (⟨(0 : Int), (16 : Int), 0, (cleanI (5 : Int)), -1, (cleanI (0 : Int)), false, 0⟩ : SeS) ay0).1.good ∧ (seStep ((lns (⟨1, 1, 1, 1⟩ : Cfg)).toNat) ((⟨1, 1, 1, 1⟩ : Cfg).th.toNat) (⟨(0 : Int), (16 : Int), 0, (cleanI (5 : Int)), -1, (cleanI (0 : Int)), false, 0⟩ : SeS) ay0).2.good)
 replace h_21 : g_19 = sePt p_15 ay1.1 := h_21
 replace x_22 : MemAt l_20 p_2 q_3 ((lns (⟨1, 1, 1, 1⟩ : Cfg)).toNat) ((⟨1, 1, 1, 1⟩ : Cfg).th.toNat) ay1.2 := x_22
 have hS_25 : ay1.1.good := hS_23
 have hM_26 : ay1.2.good := hM_24
 refine K.q [.bool ay1.1.done] (K.z (K.t (K.s (K.g (K.q [.pointer (some ⟨p_2, 0, none⟩)] ?_)))))
 refine K.l (K.OW.gcall hS [1] [0, 2, 3, 4] [.pointer (some ⟨p_2, 0, none⟩), .int .i64 16] (pkS_ok _ _ _ _ _ _ _ x_22 (16 : Int) (by first | omega | assumption | exact aft_int (by assumption) _ | exact ann_int (by assumption) _ (by first | omega | assumption)) 9223372036854775813 (by kernel_rfl)) ?_)
 clear hS; rintro _ _ w ⟨rfl, rfl⟩ hS
 replace hS : K.Sat w0 [l_20, g_19, gl_6, m_8, fr] w := hS
 refine K.q [.tuple #[.int .u64 9223372036854775813, .bool true], .int .u64 9223372036854775813, .bool true, .int .u64 9223372036854775813, .bool true] (K.z (K.t (K.s (K.s (K.g (K.q [.int .i64 0] (K.z (K.t ?_))))))))
 refine K.KW.block ?_
 refine K.KW.unr 3 ?_
 refine K.Unr.succ ?_
 refine K.s (K.s (K.g (K.q [.int .i64 0, .bool true] (K.z (K.t (K.h (K.k (K.t (K.s ?_)))))))))
 refine K.KW.block ?_
 refine K.g (K.q [.pointer (some ⟨p_15, 0, none⟩), .pointer (some ⟨p_2, 0, none⟩)] ?_)
 refine K.l (K.OW.gcall hS [1, 0] [2, 3, 4] [.pointer (some ⟨p_15, 0, none⟩), .pointer (some ⟨p_2, 0, none⟩)] (seStep_ok _ _ _ _ _ _ ay1.1 ay1.2 _ _ h_21 x_22 (by assumption) (by assumption)) ?_)
 clear hS; rintro _ _ w ⟨g_27, l_28, rfl, rfl, h_29, x_30⟩ hS
 replace hS : K.Sat w0 [g_27, l_28, gl_6, m_8, fr] w := hS
 obtain ⟨hS_31, hM_32⟩ := (seStep_good (by assumption) (by assumption) : (seStep ((lns (⟨1, 1, 1, 1⟩ : Cfg)).toNat) ((⟨1, 1, 1, 1⟩ : Cfg).th.toNat) ay1.1 ay1.2).1.good ∧ (seStep ((lns (⟨1, 1, 1, 1⟩ : Cfg)).toNat) ((⟨1, 1, 1, 1⟩ : Cfg).th.toNat) ay1.1 ay1.2).2.good)
 replace h_29 : g_27 = sePt p_15 ay2.1 := h_29
 replace x_30 : MemAt l_28 p_2 q_3 ((lns (⟨1, 1, 1, 1⟩ : Cfg)).toNat) ((⟨1, 1, 1, 1⟩ : Cfg).th.toNat) ay2.2 := x_30
 have hS_33 : ay2.1.good := hS_31
 have hM_34 : ay2.2.good := hM_32
 refine K.z ?_
 refine K.blk_normal ?_
 refine K.t (K.g (K.q [.int .i64 0, .int .i64 1, .int .i64 1] (K.z (K.t ?_))))
 refine K.Unr.succ ?_
 refine K.s (K.s (K.g (K.q [.int .i64 1, .bool true] (K.z (K.t (K.h (K.k (K.t (K.s ?_)))))))))
 refine K.KW.block ?_
 refine K.g (K.q [.pointer (some ⟨p_15, 0, none⟩), .pointer (some ⟨p_2, 0, none⟩)] ?_)
 refine K.l (K.OW.gcall hS [0, 1] [2, 3, 4] [.pointer (some ⟨p_15, 0, none⟩), .pointer (some ⟨p_2, 0, none⟩)] (seStep_ok _ _ _ _ _ _ ay2.1 ay2.2 _ _ h_29 x_30 (by assumption) (by assumption)) ?_)
 clear hS; rintro _ _ w ⟨g_35, l_36, rfl, rfl, h_37, x_38⟩ hS
 replace hS : K.Sat w0 [g_35, l_36, gl_6, m_8, fr] w := hS
 obtain ⟨hS_39, hM_40⟩ := (seStep_good (by assumption) (by assumption) : (seStep ((lns (⟨1, 1, 1, 1⟩ : Cfg)).toNat) ((⟨1, 1, 1, 1⟩ : Cfg).th.toNat) ay2.1 ay2.2).1.good ∧ (seStep ((lns (⟨1, 1, 1, 1⟩ : Cfg)).toNat) ((⟨1, 1, 1, 1⟩ : Cfg).th.toNat) ay2.1 ay2.2).2.good)
 replace h_37 : g_35 = sePt p_15 ay3.1 := h_37
 replace x_38 : MemAt l_36 p_2 q_3 ((lns (⟨1, 1, 1, 1⟩ : Cfg)).toNat) ((⟨1, 1, 1, 1⟩ : Cfg).th.toNat) ay3.2 := x_38
 have hS_41 : ay3.1.good := hS_39
 have hM_42 : ay3.2.good := hM_40
 refine K.z ?_
 refine K.blk_normal ?_
 refine K.t (K.g (K.q [.int .i64 1, .int .i64 2, .int .i64 2] (K.z (K.t ?_))))
 refine K.Unr.succ ?_
 refine K.s (K.s (K.g (K.q [.int .i64 2, .bool true] (K.z (K.t (K.h (K.k (K.t (K.s ?_)))))))))
 refine K.KW.block ?_
 refine K.g (K.q [.pointer (some ⟨p_15, 0, none⟩), .pointer (some ⟨p_2, 0, none⟩)] ?_)
 refine K.l (K.OW.gcall hS [0, 1] [2, 3, 4] [.pointer (some ⟨p_15, 0, none⟩), .pointer (some ⟨p_2, 0, none⟩)] (seStep_ok _ _ _ _ _ _ ay3.1 ay3.2 _ _ h_37 x_38 (by assumption) (by assumption)) ?_)
 clear hS; rintro _ _ w ⟨g_43, l_44, rfl, rfl, h_45, x_46⟩ hS
 replace hS : K.Sat w0 [g_43, l_44, gl_6, m_8, fr] w := hS
 obtain ⟨hS_47, hM_48⟩ := (seStep_good (by assumption) (by assumption) : (seStep ((lns (⟨1, 1, 1, 1⟩ : Cfg)).toNat) ((⟨1, 1, 1, 1⟩ : Cfg).th.toNat) ay3.1 ay3.2).1.good ∧ (seStep ((lns (⟨1, 1, 1, 1⟩ : Cfg)).toNat) ((⟨1, 1, 1, 1⟩ : Cfg).th.toNat) ay3.1 ay3.2).2.good)
 replace h_45 : g_43 = sePt p_15 ay4.1 := h_45
 replace x_46 : MemAt l_44 p_2 q_3 ((lns (⟨1, 1, 1, 1⟩ : Cfg)).toNat) ((⟨1, 1, 1, 1⟩ : Cfg).th.toNat) ay4.2 := x_46
 have hS_49 : ay4.1.good := hS_47
 have hM_50 : ay4.2.good := hM_48
 refine K.z ?_
 refine K.blk_normal ?_
 refine K.t (K.g (K.q [.int .i64 2, .int .i64 3, .int .i64 3] (K.z (K.t ?_))))
 refine K.Unr.zero ?_
 refine K.s (K.s (K.g (K.q [.int .i64 3, .bool false] (K.z (K.t (K.f ?_))))))
 refine K.KW.exit ?_
 refine K.thn_exit ?_
 refine K.thn_exit ?_
 refine K.blk_hit ?_
 refine K.t (K.s (K.g (K.q [.pointer (some ⟨p_2, 0, none⟩)] ?_)))
 refine K.l (K.OW.gcall hS [1] [0, 2, 3, 4] [.pointer (some ⟨p_2, 0, none⟩), .int .i64 16] (pkS_ok _ _ _ _ _ _ _ x_46 (16 : Int) (by first | omega | assumption | exact aft_int (by assumption) _ | exact ann_int (by assumption) _ (by first | omega | assumption)) 5 (by kernel_rfl)) ?_)
 clear hS; rintro _ _ w ⟨rfl, rfl⟩ hS
 replace hS : K.Sat w0 [l_44, g_43, gl_6, m_8, fr] w := hS
 refine K.q [.tuple #[.int .u64 5, .bool true], .int .u64 5, .bool true, .int .u64 5, .bool true] (K.z (K.t (K.s (K.g ?_))))
 refine K.l (K.OW.gcall hS [] [0, 1, 2, 3, 4] [.int .i64 0, .int .i64 16] (newrd_ok _ (0 : Int) (by first | omega | assumption) (16 : Int) (by first | omega | assumption)) ?_)
 clear hS; rintro _ _ w ⟨p_51, g_52, rfl, rfl, h_53⟩ hS
 replace hS : K.Sat w0 [g_52, l_44, g_43, gl_6, m_8, fr] w := hS
 have hS_54 : RdS.good (⟨(0 : Int), (16 : Int), 0, 0, -1⟩ : RdS) := rdInit (by omega) (by omega)
 refine K.q [.pointer (some ⟨p_51, 0, none⟩)] (K.z (K.t (K.s (K.g (K.q [.pointer (some ⟨p_51, 0, none⟩), .pointer (some ⟨p_2, 0, none⟩)] ?_)))))
 refine K.l (K.OW.gcall hS [0, 1] [2, 3, 4, 5] [.pointer (some ⟨p_51, 0, none⟩), .pointer (some ⟨p_2, 0, none⟩)] (rdStep_ok _ _ _ _ _ _ (⟨(0 : Int), (16 : Int), 0, 0, -1⟩ : RdS) ay4.2 _ _ h_53 x_46 (by assumption) (by assumption)) ?_)
 clear hS; rintro _ _ w ⟨g_55, l_56, rfl, rfl, h_57, x_58⟩ hS
 replace hS : K.Sat w0 [g_55, l_56, g_43, gl_6, m_8, fr] w := hS
 obtain ⟨hS_59, hM_60⟩ := (rdStep_good2 (by assumption) (by assumption) : (rdStep ((lns (⟨1, 1, 1, 1⟩ : Cfg)).toNat) ((⟨1, 1, 1, 1⟩ : Cfg).th.toNat) (⟨(0 : Int), (16 : Int), 0, 0, -1⟩ : RdS) ay4.2).1.good ∧ (rdStep ((lns (⟨1, 1, 1, 1⟩ : Cfg)).toNat) ((⟨1, 1, 1, 1⟩ : Cfg).th.toNat) (⟨(0 : Int), (16 : Int), 0, 0, -1⟩ : RdS) ay4.2).2.good)
 replace h_57 : g_55 = rdPt p_51 ay5.1 := h_57
 replace x_58 : MemAt l_56 p_2 q_3 ((lns (⟨1, 1, 1, 1⟩ : Cfg)).toNat) ((⟨1, 1, 1, 1⟩ : Cfg).th.toNat) ay5.2 := x_58
 have hS_61 : ay5.1.good := hS_59
 have hM_62 : ay5.2.good := hM_60
 refine K.z (K.t (K.s (K.g (K.q [.bool true, .bool true, .bool ay1.1.done] ?_))))
 cases hb_63 : ay1.1.done
 ·
  refine K.q [.bool true, .bool true, .bool true, .int .u64 9223372036854775813] ?_
  refine K.ye (9223372036854775813 : Int) (9223372036854775813 : Int) (rfl) ?_
  refine K.q [.bool true, .bool true, .pointer (some ⟨p_15, 0, none⟩)] ?_
  refine K.l (K.OW.gcall hS [2] [0, 1, 3, 4, 5] [.pointer (some ⟨p_15, 0, none⟩)] (seDoneB_ok _ _ ay4.1 _ h_45) ?_)
  clear hS; rintro _ _ w ⟨rfl, rfl⟩ hS
  replace hS : K.Sat w0 [g_43, g_55, l_56, gl_6, m_8, fr] w := hS
  cases hb_64 : ay4.1.done
  ·cases (hb_64.symm.trans (show ay4.1.done = true from by kernel_rfl))
  ·
   refine K.q [.bool true, .bool true, .pointer (some ⟨p_15, 0, none⟩)] ?_
   refine K.l (K.OW.gcall hS [0] [1, 2, 3, 4, 5] [.pointer (some ⟨p_15, 0, none⟩)] (sePut_ok _ _ ay4.1 _ h_45) ?_)
   clear hS; rintro _ _ w ⟨rfl, rfl⟩ hS
   replace hS : K.Sat w0 [g_43, g_55, l_56, gl_6, m_8, fr] w := hS
   cases hb_65 : ay4.1.put
   ·cases (hb_65.symm.trans (show ay4.1.put = true from by kernel_rfl))
   ·
    refine K.q [.bool true, .bool true, .int .u64 5] ?_
    refine K.ye (5 : Int) (5 : Int) (rfl) ?_
    refine K.q [.bool true, .bool true, .pointer (some ⟨p_51, 0, none⟩)] ?_
    refine K.l (K.OW.gcall hS [1] [0, 2, 3, 4, 5] [.pointer (some ⟨p_51, 0, none⟩)] (rdDoneB_ok _ _ ay5.1 _ h_57) ?_)
    clear hS; rintro _ _ w ⟨rfl, rfl⟩ hS
    replace hS : K.Sat w0 [g_55, g_43, l_56, gl_6, m_8, fr] w := hS
    cases hb_66 : ay5.1.done
    ·cases (hb_66.symm.trans (show ay5.1.done = true from by kernel_rfl))
    ·
     refine K.q [.bool true, .bool true, .pointer (some ⟨p_51, 0, none⟩)] ?_
     refine K.l (K.OW.gcall hS [0] [1, 2, 3, 4, 5] [.pointer (some ⟨p_51, 0, none⟩)] (rdWord_ok _ _ ay5.1 _ h_57) ?_)
     clear hS; rintro _ _ w ⟨rfl, rfl⟩ hS
     replace hS : K.Sat w0 [g_55, g_43, l_56, gl_6, m_8, fr] w := hS
     refine K.ye ((rdWord ay5.1) : Int) (5 : Int) (by kernel_rfl) ?_
     refine K.q [.bool true, .bool true] (K.z (K.t (K.r ?_)))
     refine ⟨.inr rfl, rfl, (.bool true), K.res1 rfl rfl, [], ?_, hS.pick [5]⟩
     exact ⟨rfl, rfl⟩
 ·cases (hb_63.symm.trans (show ay1.1.done = false from by kernel_rfl))
end Go.Proofs.Ytkmndplicmaahaa
