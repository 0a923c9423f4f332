/- Layer 13: what a hand does. -/
import Derived.Test.YtkmndplicmaahaaFlkp
import Derived.Test.YtkmndplicmaahaaKn
namespace Go.Proofs.Ytkmndplicmaahaa
open Go.RowKit
set_option linter.unusedVariables false
attribute [local irreducible] K.KW K.RW K.DW K.OW K.QR K.KC
def handEl : HandK → List Value → K.Cs → Prop
 | .no, c, g => c = [.pointer none, .pointer none] ∧ g = []
 | .rd S, c, g => ∃ p, c = [.pointer (some ⟨p, 0, none⟩), .pointer none] ∧ g = rdPt p S
 | .se S, c, g => ∃ p, c = [.pointer none, .pointer (some ⟨p, 0, none⟩)] ∧ g = sePt p S
set_option maxHeartbeats 1000000 in
set_option maxRecDepth 100000 in
theorem hand_no (w0 : World) (rb tk N pm q n t i : Nat) (cs : List (List Value)) (hcs : cs.length = N) (hall : ∀ c ∈ cs, c.length = 2) (htl : tk < N) (htk : N ≤ 64) (hi : i ≤ 1000) (at_ y : Int) (ha : in8 at_) (reads : Bool) (M : MemM) (row l : K.Cs) (how : K.OwnG row 68 2 (some ⟨rb, 0, none⟩) N N (cs.set tk [.pointer none, .pointer none]).flatten) (x : MemAt l pm q n t M) (hM : M.good) (hpk : M.peek n at_ = some y) :
  K.GC Try.prog w0 33 #[.pointer (some ⟨rb, 0 + tk * 2, none⟩), .pointer (some ⟨pm, 0, none⟩), .int .i64 ((tk : Nat) : Int), .int .i64 at_, .int .i64 ((i : Nat) : Int), .bool reads] [row, l] (fun v post => ∃ row' g' l' c', v = .tuple #[] ∧ post = [row', g', l'] ∧ c'.length = 2 ∧ handEl (goH n t M (nextH n i reads at_ tk M HandK.no)).1 c' g' ∧ K.OwnG row' 68 2 (some ⟨rb, 0, none⟩) N N (cs.set tk c').flatten ∧ MemAt l' pm q n t (goH n t M (nextH n i reads at_ tk M HandK.no)).2) := by
 have ha2 := ha
 unfold in8 at ha2
 have hyw : isW y := peek_W hM hpk
 have hy0 : (M.peek n at_).getD 0 = y := by rw [hpk]; rfl
 refine K.GC.mk (n := 71) Try.func33 rfl rfl [.pointer (some ⟨rb, 0 + tk * 2, none⟩), .pointer (some ⟨pm, 0, none⟩), .int .i64 ((tk : Nat) : Int), .int .i64 at_, .int .i64 ((i : Nat) : Int), .bool reads] rfl rfl ?_
 intro fr w hS
 replace hS : K.Sat w0 [row, l, fr] w := hS
 refine K.s (K.s (K.g (K.q [.pointer (some ⟨rb, 0 + tk * 2, none⟩), .pointer (some ⟨rb, 0 + tk * 2, none⟩), .pointer (some ⟨rb, 0 + tk * 2, none⟩)] ?_)))
 refine K.d (.pointer none) (K.row_at0 (j := 0) (hS.ownr 0 rfl how) hcs hall rfl htl rfl) ?_
 refine K.l (K.OW.gcall hS [] [0, 1, 2] [.pointer none] (rdDone_nil _ ) ?_)
 clear hS; rintro _ _ w ⟨rfl, rfl⟩ hS
 replace hS : K.Sat w0 [row, l, fr] w := hS
 refine K.q [.bool true, .pointer (some ⟨rb, 0 + tk * 2, none⟩), .pointer (some ⟨rb, 0 + tk * 2, none⟩), .pointer (some ⟨rb, 0 + tk * 2 + 1, none⟩)] ?_
 refine K.d (.pointer none) (K.row_at0 (j := 1) (hS.ownr 0 rfl how) hcs hall rfl htl rfl) ?_
 refine K.l (K.OW.gcall hS [] [0, 1, 2] [.pointer none] (seDone_nil _ ) ?_)
 clear hS; rintro _ _ w ⟨rfl, rfl⟩ hS
 replace hS : K.Sat w0 [row, l, fr] w := hS
 refine K.q [.bool true] (K.z (K.t (K.h (K.s (K.g (K.q [.pointer (some ⟨pm, 0, none⟩), .int .i64 at_] ?_))))))
 refine K.l (K.OW.gcall hS [1] [0, 2] [.pointer (some ⟨pm, 0, none⟩), .int .i64 at_] (pkS_ok _ _ _ _ _ _ _ x at_ (by first | omega | assumption | exact aft_int (by assumption) _ | exact ann_int (by assumption) _ (by first | omega | assumption)) y (hpk)) ?_)
 clear hS; rintro _ _ w ⟨rfl, rfl⟩ hS
 replace hS : K.Sat w0 [l, row, fr] w := hS
 refine K.q [.tuple #[.int .u64 y, .bool true], .int .u64 y, .bool true, .int .u64 y, .bool true] (K.z (K.t (K.s (K.g (K.q [.pointer (some ⟨rb, 0 + tk * 2, none⟩), .pointer (some ⟨rb, 0 + tk * 2, none⟩), .pointer (some ⟨rb, 0 + tk * 2, none⟩)] ?_)))))
 refine K.l (K.OW.grst 1 (0 + tk * 2 + 0) [.pointer none] ((cs.set tk [.pointer none, .pointer none]).flatten) hS how ?_ (by show _ + 1 ≤ _; omega) (K.set_at0 (j := 0) hcs hall rfl htl (Nat.le_of_ble_eq_true rfl) rfl))
 clear hS; intro w l_1 o_2 hS
 replace hS : K.Sat w0 [l, l_1, fr] w := hS
 refine K.z (K.t (K.s (K.g (K.q [.pointer (some ⟨rb, 0 + tk * 2, none⟩), .pointer (some ⟨rb, 0 + tk * 2, none⟩), .pointer (some ⟨rb, 0 + tk * 2 + 1, none⟩)] ?_))))
 refine K.l (K.OW.grst 1 (0 + tk * 2 + 1) [.pointer none] ((cs.set tk [.pointer none, .pointer none]).flatten) hS o_2 ?_ (by show _ + 1 ≤ _; omega) (K.set_at0 (j := 1) hcs hall rfl htl (Nat.le_of_ble_eq_true rfl) rfl))
 clear hS; intro w l_3 o_4 hS
 replace hS : K.Sat w0 [l, l_3, fr] w := hS
 refine K.z (K.t (K.s (K.g (K.q [.bool reads] ?_))))
 cases hb_5 : reads
 ·
  refine K.z (K.t (K.f (K.g (K.q [.pointer (some ⟨rb, 0 + tk * 2, none⟩), .int .i64 ((tk : Nat) : Int), .int .i64 at_, .int .u64 y, .int .i64 ((i : Nat) : Int)] ?_))))
  refine K.l (K.OW.gcall hS [] [0, 1, 2] [.int .i64 ((i : Nat) : Int), .int .i64 (-1)] (link_ok _ ((i : Nat) : Int) ((-1) : Int) (by omega) (by omega)) ?_)
  clear hS; rintro _ _ w ⟨rfl, rfl⟩ hS
  replace hS : K.Sat w0 [l, l_3, fr] w := hS
  have hw_6 : isW (linkI ((i : Nat) : Int) ((-1) : Int)) := linkI_w _ _
  refine K.l (K.OW.gcall hS [] [0, 1, 2] [.int .i64 ((tk : Nat) : Int), .int .i64 at_, .int .u64 y, .int .u64 (linkI ((i : Nat) : Int) ((-1) : Int))] (newse_ok _ ((tk : Nat) : Int) (by first | omega | assumption) at_ (by first | omega | assumption) y (by first | assumption | exact isL.w (by assumption) | (unfold isW; omega) | exact rdWord_w (by assumption)) (linkI ((i : Nat) : Int) ((-1) : Int)) (by first | assumption | exact isL.w (by assumption) | (unfold isW; omega) | exact rdWord_w (by assumption))) ?_)
  clear hS; rintro _ _ w ⟨p_7, g_8, rfl, rfl, h_9⟩ hS
  replace hS : K.Sat w0 [g_8, l, l_3, fr] w := hS
  have hS_10 : SeS.good (⟨((tk : Nat) : Int), at_, 0, (cleanI (linkI ((i : Nat) : Int) ((-1) : Int))), -1, (cleanI y), false, 0⟩ : SeS) := seInit (by omega) (by omega)
  refine K.q [.pointer (some ⟨rb, 0 + tk * 2, none⟩), .pointer (some ⟨rb, 0 + tk * 2 + 1, none⟩)] ?_
  refine K.l (K.OW.grst 2 (0 + tk * 2 + 1) [.pointer (some ⟨p_7, 0, none⟩)] ((cs.set tk [.pointer none, .pointer (some ⟨p_7, 0, none⟩)]).flatten) hS o_4 ?_ (by show _ + 1 ≤ _; omega) (K.set_at0 (j := 1) hcs hall rfl htl (Nat.le_of_ble_eq_true rfl) rfl))
  clear hS; intro w l_11 o_12 hS
  replace hS : K.Sat w0 [g_8, l, l_11, fr] w := hS
  refine K.z (K.t (K.s (K.s (K.g (K.q [.pointer (some ⟨rb, 0 + tk * 2, none⟩), .pointer (some ⟨rb, 0 + tk * 2, none⟩), .pointer (some ⟨rb, 0 + tk * 2, none⟩)] ?_)))))
  refine K.d (.pointer none) (K.row_at0 (j := 0) (hS.ownr 2 rfl o_12) hcs hall rfl htl rfl) ?_
  refine K.q [.bool false] (K.z (K.t (K.f (K.k (K.t (K.g (K.q [.pointer (some ⟨rb, 0 + tk * 2, none⟩), .pointer (some ⟨rb, 0 + tk * 2, none⟩), .pointer (some ⟨rb, 0 + tk * 2 + 1, none⟩)] ?_)))))))
  refine K.d (.pointer (some ⟨p_7, 0, none⟩)) (K.row_at0 (j := 1) (hS.ownr 2 rfl o_12) hcs hall rfl htl rfl) ?_
  refine K.q [.pointer (some ⟨pm, 0, none⟩)] ?_
  refine K.l (K.OW.gcall hS [0, 1] [2, 3] [.pointer (some ⟨p_7, 0, none⟩), .pointer (some ⟨pm, 0, none⟩)] (seStep_ok _ _ _ _ _ _ (⟨((tk : Nat) : Int), at_, 0, (cleanI (linkI ((i : Nat) : Int) ((-1) : Int))), -1, (cleanI y), false, 0⟩ : SeS) M _ _ h_9 x (by assumption) (by assumption)) ?_)
  clear hS; rintro _ _ w ⟨g_13, l_14, rfl, rfl, h_15, x_16⟩ hS
  replace hS : K.Sat w0 [g_13, l_14, l_11, fr] w := hS
  obtain ⟨hS_17, hM_18⟩ := (seStep_good (by assumption) (by assumption) : (seStep n t (⟨((tk : Nat) : Int), at_, 0, (cleanI (linkI ((i : Nat) : Int) ((-1) : Int))), -1, (cleanI y), false, 0⟩ : SeS) M).1.good ∧ (seStep n t (⟨((tk : Nat) : Int), at_, 0, (cleanI (linkI ((i : Nat) : Int) ((-1) : Int))), -1, (cleanI y), false, 0⟩ : SeS) M).2.good)
  refine K.z ?_
  have e : nextH n i false at_ tk M HandK.no = .se ⟨((tk : Nat) : Int), at_, 0, cleanI (linkI ((i : Nat) : Int) (-1)), -1, cleanI y, false, 0⟩ := by unfold nextH; rw [if_pos (show (HandK.no).done = true from rfl), if_neg (by decide), hy0]
  refine ⟨.inl rfl, rfl, (.tuple #[]), K.res0 rfl, [l_11, g_13, l_14], ?_, hS.pick [2, 0, 1, 3]⟩
  exact ⟨_, _, _, [.pointer none, .pointer (some ⟨p_7, 0, none⟩)], rfl, rfl, rfl, by rw [e]; exact ⟨_, rfl, h_15⟩, o_12, by rw [e]; exact x_16⟩
 ·
  refine K.z (K.t (K.h (K.g (K.q [.pointer (some ⟨rb, 0 + tk * 2, none⟩), .int .i64 ((tk : Nat) : Int), .int .i64 at_] ?_))))
  refine K.l (K.OW.gcall hS [] [0, 1, 2] [.int .i64 ((tk : Nat) : Int), .int .i64 at_] (newrd_ok _ ((tk : Nat) : Int) (by first | omega | assumption) at_ (by first | omega | assumption)) ?_)
  clear hS; rintro _ _ w ⟨p_19, g_20, rfl, rfl, h_21⟩ hS
  replace hS : K.Sat w0 [g_20, l, l_3, fr] w := hS
  have hS_22 : RdS.good (⟨((tk : Nat) : Int), at_, 0, 0, -1⟩ : RdS) := rdInit (by omega) (by omega)
  refine K.q [.pointer (some ⟨rb, 0 + tk * 2, none⟩), .pointer (some ⟨rb, 0 + tk * 2, none⟩)] ?_
  refine K.l (K.OW.grst 2 (0 + tk * 2 + 0) [.pointer (some ⟨p_19, 0, none⟩)] ((cs.set tk [.pointer (some ⟨p_19, 0, none⟩), .pointer none]).flatten) hS o_4 ?_ (by show _ + 1 ≤ _; omega) (K.set_at0 (j := 0) hcs hall rfl htl (Nat.le_of_ble_eq_true rfl) rfl))
  clear hS; intro w l_23 o_24 hS
  replace hS : K.Sat w0 [g_20, l, l_23, fr] w := hS
  refine K.z (K.t (K.s (K.s (K.g (K.q [.pointer (some ⟨rb, 0 + tk * 2, none⟩), .pointer (some ⟨rb, 0 + tk * 2, none⟩), .pointer (some ⟨rb, 0 + tk * 2, none⟩)] ?_)))))
  refine K.d (.pointer (some ⟨p_19, 0, none⟩)) (K.row_at0 (j := 0) (hS.ownr 2 rfl o_24) hcs hall rfl htl rfl) ?_
  refine K.q [.bool true] (K.z (K.t (K.h (K.s (K.g (K.q [.pointer (some ⟨rb, 0 + tk * 2, none⟩), .pointer (some ⟨rb, 0 + tk * 2, none⟩), .pointer (some ⟨rb, 0 + tk * 2, none⟩)] ?_))))))
  refine K.d (.pointer (some ⟨p_19, 0, none⟩)) (K.row_at0 (j := 0) (hS.ownr 2 rfl o_24) hcs hall rfl htl rfl) ?_
  refine K.q [.pointer (some ⟨pm, 0, none⟩)] ?_
  refine K.l (K.OW.gcall hS [0, 1] [2, 3] [.pointer (some ⟨p_19, 0, none⟩), .pointer (some ⟨pm, 0, none⟩)] (rdStep_ok _ _ _ _ _ _ (⟨((tk : Nat) : Int), at_, 0, 0, -1⟩ : RdS) M _ _ h_21 x (by assumption) (by assumption)) ?_)
  clear hS; rintro _ _ w ⟨g_25, l_26, rfl, rfl, h_27, x_28⟩ hS
  replace hS : K.Sat w0 [g_25, l_26, l_23, fr] w := hS
  obtain ⟨hS_29, hM_30⟩ := (rdStep_good2 (by assumption) (by assumption) : (rdStep n t (⟨((tk : Nat) : Int), at_, 0, 0, -1⟩ : RdS) M).1.good ∧ (rdStep n t (⟨((tk : Nat) : Int), at_, 0, 0, -1⟩ : RdS) M).2.good)
  refine K.z (K.t (K.r (K.u ?_)))
  have e : nextH n i true at_ tk M HandK.no = .rd ⟨((tk : Nat) : Int), at_, 0, 0, -1⟩ := by unfold nextH; rw [if_pos (show (HandK.no).done = true from rfl), if_pos rfl]
  refine ⟨.inr rfl, rfl, (.tuple #[]), K.res0 rfl, [l_23, g_25, l_26], ?_, hS.pick [2, 0, 1, 3]⟩
  exact ⟨_, _, _, [.pointer (some ⟨p_19, 0, none⟩), .pointer none], rfl, rfl, rfl, by rw [e]; exact ⟨_, rfl, h_27⟩, o_24, by rw [e]; exact x_28⟩
set_option maxHeartbeats 1000000 in
set_option maxRecDepth 100000 in
theorem hand_rd (w0 : World) (p : Nat) (S : RdS) (rb tk N pm q n t i : Nat) (cs : List (List Value)) (hcs : cs.length = N) (hall : ∀ c ∈ cs, c.length = 2) (htl : tk < N) (htk : N ≤ 64) (hi : i ≤ 1000) (at_ y : Int) (ha : in8 at_) (reads : Bool) (M : MemM) (row l : K.Cs) (how : K.OwnG row 68 2 (some ⟨rb, 0, none⟩) N N (cs.set tk [.pointer (some ⟨p, 0, none⟩), .pointer none]).flatten) (x : MemAt l pm q n t M) (hM : M.good) (hpk : M.peek n at_ = some y) (gp : K.Cs) (hgp : gp = rdPt p S) (hS : S.good) :
  K.GC Try.prog w0 33 #[.pointer (some ⟨rb, 0 + tk * 2, none⟩), .pointer (some ⟨pm, 0, none⟩), .int .i64 ((tk : Nat) : Int), .int .i64 at_, .int .i64 ((i : Nat) : Int), .bool reads] [row, gp, l] (fun v post => ∃ row' g' l' c', v = .tuple #[] ∧ post = [row', g', l'] ∧ c'.length = 2 ∧ handEl (goH n t M (nextH n i reads at_ tk M (HandK.rd S))).1 c' g' ∧ K.OwnG row' 68 2 (some ⟨rb, 0, none⟩) N N (cs.set tk c').flatten ∧ MemAt l' pm q n t (goH n t M (nextH n i reads at_ tk M (HandK.rd S))).2) := by
 have ha2 := ha
 unfold in8 at ha2
 have hyw : isW y := peek_W hM hpk
 have hy0 : (M.peek n at_).getD 0 = y := by rw [hpk]; rfl
 refine K.GC.mk (n := 71) Try.func33 rfl rfl [.pointer (some ⟨rb, 0 + tk * 2, none⟩), .pointer (some ⟨pm, 0, none⟩), .int .i64 ((tk : Nat) : Int), .int .i64 at_, .int .i64 ((i : Nat) : Int), .bool reads] rfl rfl ?_
 intro fr w hS
 replace hS : K.Sat w0 [row, gp, l, fr] w := hS
 refine K.s (K.s (K.g (K.q [.pointer (some ⟨rb, 0 + tk * 2, none⟩), .pointer (some ⟨rb, 0 + tk * 2, none⟩), .pointer (some ⟨rb, 0 + tk * 2, none⟩)] ?_)))
 refine K.d (.pointer (some ⟨p, 0, none⟩)) (K.row_at0 (j := 0) (hS.ownr 0 rfl how) hcs hall rfl htl rfl) ?_
 refine K.l (K.OW.gcall hS [1] [0, 2, 3] [.pointer (some ⟨p, 0, none⟩)] (rdDoneB_ok _ _ S _ hgp) ?_)
 clear hS; rintro _ _ w ⟨rfl, rfl⟩ hS
 replace hS : K.Sat w0 [gp, row, l, fr] w := hS
 cases hb_1 : S.done
 ·
  refine K.q [.bool false] (K.n_ (K.n_ (K.n_ (K.n_ (K.n_ (K.q [.bool false] (K.z (K.t (K.f (K.k (K.t (K.s (K.s (K.g ?_))))))))))))))
  refine K.q [.pointer (some ⟨rb, 0 + tk * 2, none⟩), .pointer (some ⟨rb, 0 + tk * 2, none⟩), .pointer (some ⟨rb, 0 + tk * 2, none⟩)] ?_
  refine K.d (.pointer (some ⟨p, 0, none⟩)) (K.row_at0 (j := 0) (hS.ownr 1 rfl how) hcs hall rfl htl rfl) ?_
  refine K.q [.bool true] (K.z (K.t (K.h (K.s (K.g (K.q [.pointer (some ⟨rb, 0 + tk * 2, none⟩), .pointer (some ⟨rb, 0 + tk * 2, none⟩), .pointer (some ⟨rb, 0 + tk * 2, none⟩)] ?_))))))
  refine K.d (.pointer (some ⟨p, 0, none⟩)) (K.row_at0 (j := 0) (hS.ownr 1 rfl how) hcs hall rfl htl rfl) ?_
  refine K.q [.pointer (some ⟨pm, 0, none⟩)] ?_
  refine K.l (K.OW.gcall hS [0, 2] [1, 3] [.pointer (some ⟨p, 0, none⟩), .pointer (some ⟨pm, 0, none⟩)] (rdStep_ok _ _ _ _ _ _ S M _ _ hgp x (by assumption) (by assumption)) ?_)
  clear hS; rintro _ _ w ⟨g_2, l_3, rfl, rfl, h_4, x_5⟩ hS
  replace hS : K.Sat w0 [g_2, l_3, row, fr] w := hS
  obtain ⟨hS_6, hM_7⟩ := (rdStep_good2 (by assumption) (by assumption) : (rdStep n t S M).1.good ∧ (rdStep n t S M).2.good)
  refine K.z (K.t (K.r (K.u ?_)))
  have e : nextH n i reads at_ tk M (HandK.rd S) = (HandK.rd S) := if_neg (by show ¬ S.done = true; rw [hb_1]; decide)
  refine ⟨.inr rfl, rfl, (.tuple #[]), K.res0 rfl, [row, g_2, l_3], ?_, hS.pick [2, 0, 1, 3]⟩
  exact ⟨_, _, _, [.pointer (some ⟨p, 0, none⟩), .pointer none], rfl, rfl, rfl, by rw [e]; exact ⟨_, rfl, h_4⟩, how, by rw [e]; exact x_5⟩
 ·
  refine K.q [.bool true, .pointer (some ⟨rb, 0 + tk * 2, none⟩), .pointer (some ⟨rb, 0 + tk * 2, none⟩), .pointer (some ⟨rb, 0 + tk * 2 + 1, none⟩)] ?_
  refine K.d (.pointer none) (K.row_at0 (j := 1) (hS.ownr 1 rfl how) hcs hall rfl htl rfl) ?_
  refine K.l (K.OW.gcall hS [] [0, 1, 2, 3] [.pointer none] (seDone_nil _ ) ?_)
  clear hS; rintro _ _ w ⟨rfl, rfl⟩ hS
  replace hS : K.Sat w0 [gp, row, l, fr] w := hS
  refine K.q [.bool true] (K.z (K.t (K.h (K.s (K.g (K.q [.pointer (some ⟨pm, 0, none⟩), .int .i64 at_] ?_))))))
  refine K.l (K.OW.gcall hS [2] [0, 1, 3] [.pointer (some ⟨pm, 0, none⟩), .int .i64 at_] (pkS_ok _ _ _ _ _ _ _ x at_ (by first | omega | assumption | exact aft_int (by assumption) _ | exact ann_int (by assumption) _ (by first | omega | assumption)) y (hpk)) ?_)
  clear hS; rintro _ _ w ⟨rfl, rfl⟩ hS
  replace hS : K.Sat w0 [l, gp, row, fr] w := hS
  refine K.q [.tuple #[.int .u64 y, .bool true], .int .u64 y, .bool true, .int .u64 y, .bool true] (K.z (K.t (K.s (K.g (K.q [.pointer (some ⟨rb, 0 + tk * 2, none⟩), .pointer (some ⟨rb, 0 + tk * 2, none⟩), .pointer (some ⟨rb, 0 + tk * 2, none⟩)] ?_)))))
  refine K.l (K.OW.grst 2 (0 + tk * 2 + 0) [.pointer none] ((cs.set tk [.pointer none, .pointer none]).flatten) hS how ?_ (by show _ + 1 ≤ _; omega) (K.set_at0 (j := 0) hcs hall rfl htl (Nat.le_of_ble_eq_true rfl) rfl))
  clear hS; intro w l_8 o_9 hS
  replace hS : K.Sat w0 [l, gp, l_8, fr] w := hS
  refine K.z (K.t (K.s (K.g (K.q [.pointer (some ⟨rb, 0 + tk * 2, none⟩), .pointer (some ⟨rb, 0 + tk * 2, none⟩), .pointer (some ⟨rb, 0 + tk * 2 + 1, none⟩)] ?_))))
  refine K.l (K.OW.grst 2 (0 + tk * 2 + 1) [.pointer none] ((cs.set tk [.pointer none, .pointer none]).flatten) hS o_9 ?_ (by show _ + 1 ≤ _; omega) (K.set_at0 (j := 1) hcs hall rfl htl (Nat.le_of_ble_eq_true rfl) rfl))
  clear hS; intro w l_10 o_11 hS
  replace hS : K.Sat w0 [l, gp, l_10, fr] w := hS
  refine K.z (K.t (K.s (K.g (K.q [.bool reads] ?_))))
  cases hb_12 : reads
  ·
   refine K.z (K.t (K.f (K.g (K.q [.pointer (some ⟨rb, 0 + tk * 2, none⟩), .int .i64 ((tk : Nat) : Int), .int .i64 at_, .int .u64 y, .int .i64 ((i : Nat) : Int)] ?_))))
   refine K.l (K.OW.gcall hS [] [0, 1, 2, 3] [.int .i64 ((i : Nat) : Int), .int .i64 (-1)] (link_ok _ ((i : Nat) : Int) ((-1) : Int) (by omega) (by omega)) ?_)
   clear hS; rintro _ _ w ⟨rfl, rfl⟩ hS
   replace hS : K.Sat w0 [l, gp, l_10, fr] w := hS
   have hw_13 : isW (linkI ((i : Nat) : Int) ((-1) : Int)) := linkI_w _ _
   refine K.l (K.OW.gcall hS [] [0, 1, 2, 3] [.int .i64 ((tk : Nat) : Int), .int .i64 at_, .int .u64 y, .int .u64 (linkI ((i : Nat) : Int) ((-1) : Int))] (newse_ok _ ((tk : Nat) : Int) (by first | omega | assumption) at_ (by first | omega | assumption) y (by first | assumption | exact isL.w (by assumption) | (unfold isW; omega) | exact rdWord_w (by assumption)) (linkI ((i : Nat) : Int) ((-1) : Int)) (by first | assumption | exact isL.w (by assumption) | (unfold isW; omega) | exact rdWord_w (by assumption))) ?_)
   clear hS; rintro _ _ w ⟨p_14, g_15, rfl, rfl, h_16⟩ hS
   replace hS : K.Sat w0 [g_15, l, gp, l_10, fr] w := hS
   have hS_17 : SeS.good (⟨((tk : Nat) : Int), at_, 0, (cleanI (linkI ((i : Nat) : Int) ((-1) : Int))), -1, (cleanI y), false, 0⟩ : SeS) := seInit (by omega) (by omega)
   refine K.q [.pointer (some ⟨rb, 0 + tk * 2, none⟩), .pointer (some ⟨rb, 0 + tk * 2 + 1, none⟩)] ?_
   refine K.l (K.OW.grst 3 (0 + tk * 2 + 1) [.pointer (some ⟨p_14, 0, none⟩)] ((cs.set tk [.pointer none, .pointer (some ⟨p_14, 0, none⟩)]).flatten) hS o_11 ?_ (by show _ + 1 ≤ _; omega) (K.set_at0 (j := 1) hcs hall rfl htl (Nat.le_of_ble_eq_true rfl) rfl))
   clear hS; intro w l_18 o_19 hS
   replace hS : K.Sat w0 [g_15, l, gp, l_18, fr] w := hS
   refine K.z (K.t (K.s (K.s (K.g (K.q [.pointer (some ⟨rb, 0 + tk * 2, none⟩), .pointer (some ⟨rb, 0 + tk * 2, none⟩), .pointer (some ⟨rb, 0 + tk * 2, none⟩)] ?_)))))
   refine K.d (.pointer none) (K.row_at0 (j := 0) (hS.ownr 3 rfl o_19) hcs hall rfl htl rfl) ?_
   refine K.q [.bool false] (K.z (K.t (K.f (K.k (K.t (K.g (K.q [.pointer (some ⟨rb, 0 + tk * 2, none⟩), .pointer (some ⟨rb, 0 + tk * 2, none⟩), .pointer (some ⟨rb, 0 + tk * 2 + 1, none⟩)] ?_)))))))
   refine K.d (.pointer (some ⟨p_14, 0, none⟩)) (K.row_at0 (j := 1) (hS.ownr 3 rfl o_19) hcs hall rfl htl rfl) ?_
   refine K.q [.pointer (some ⟨pm, 0, none⟩)] ?_
   refine K.l (K.OW.gcall hS [0, 1] [2, 3, 4] [.pointer (some ⟨p_14, 0, none⟩), .pointer (some ⟨pm, 0, none⟩)] (seStep_ok _ _ _ _ _ _ (⟨((tk : Nat) : Int), at_, 0, (cleanI (linkI ((i : Nat) : Int) ((-1) : Int))), -1, (cleanI y), false, 0⟩ : SeS) M _ _ h_16 x (by assumption) (by assumption)) ?_)
   clear hS; rintro _ _ w ⟨g_20, l_21, rfl, rfl, h_22, x_23⟩ hS
   replace hS : K.Sat w0 [g_20, l_21, gp, l_18, fr] w := hS
   obtain ⟨hS_24, hM_25⟩ := (seStep_good (by assumption) (by assumption) : (seStep n t (⟨((tk : Nat) : Int), at_, 0, (cleanI (linkI ((i : Nat) : Int) ((-1) : Int))), -1, (cleanI y), false, 0⟩ : SeS) M).1.good ∧ (seStep n t (⟨((tk : Nat) : Int), at_, 0, (cleanI (linkI ((i : Nat) : Int) ((-1) : Int))), -1, (cleanI y), false, 0⟩ : SeS) M).2.good)
   refine K.z ?_
   have e : nextH n i false at_ tk M (HandK.rd S) = .se ⟨((tk : Nat) : Int), at_, 0, cleanI (linkI ((i : Nat) : Int) (-1)), -1, cleanI y, false, 0⟩ := by unfold nextH; rw [if_pos (show ((HandK.rd S)).done = true from hb_1), if_neg (by decide), hy0]
   refine ⟨.inl rfl, rfl, (.tuple #[]), K.res0 rfl, [l_18, g_20, l_21], ?_, hS.pick [3, 0, 1, 4]⟩
   exact ⟨_, _, _, [.pointer none, .pointer (some ⟨p_14, 0, none⟩)], rfl, rfl, rfl, by rw [e]; exact ⟨_, rfl, h_22⟩, o_19, by rw [e]; exact x_23⟩
  ·
   refine K.z (K.t (K.h (K.g (K.q [.pointer (some ⟨rb, 0 + tk * 2, none⟩), .int .i64 ((tk : Nat) : Int), .int .i64 at_] ?_))))
   refine K.l (K.OW.gcall hS [] [0, 1, 2, 3] [.int .i64 ((tk : Nat) : Int), .int .i64 at_] (newrd_ok _ ((tk : Nat) : Int) (by first | omega | assumption) at_ (by first | omega | assumption)) ?_)
   clear hS; rintro _ _ w ⟨p_26, g_27, rfl, rfl, h_28⟩ hS
   replace hS : K.Sat w0 [g_27, l, gp, l_10, fr] w := hS
   have hS_29 : RdS.good (⟨((tk : Nat) : Int), at_, 0, 0, -1⟩ : RdS) := rdInit (by omega) (by omega)
   refine K.q [.pointer (some ⟨rb, 0 + tk * 2, none⟩), .pointer (some ⟨rb, 0 + tk * 2, none⟩)] ?_
   refine K.l (K.OW.grst 3 (0 + tk * 2 + 0) [.pointer (some ⟨p_26, 0, none⟩)] ((cs.set tk [.pointer (some ⟨p_26, 0, none⟩), .pointer none]).flatten) hS o_11 ?_ (by show _ + 1 ≤ _; omega) (K.set_at0 (j := 0) hcs hall rfl htl (Nat.le_of_ble_eq_true rfl) rfl))
   clear hS; intro w l_30 o_31 hS
   replace hS : K.Sat w0 [g_27, l, gp, l_30, fr] w := hS
   refine K.z (K.t (K.s (K.s (K.g (K.q [.pointer (some ⟨rb, 0 + tk * 2, none⟩), .pointer (some ⟨rb, 0 + tk * 2, none⟩), .pointer (some ⟨rb, 0 + tk * 2, none⟩)] ?_)))))
   refine K.d (.pointer (some ⟨p_26, 0, none⟩)) (K.row_at0 (j := 0) (hS.ownr 3 rfl o_31) hcs hall rfl htl rfl) ?_
   refine K.q [.bool true] (K.z (K.t (K.h (K.s (K.g (K.q [.pointer (some ⟨rb, 0 + tk * 2, none⟩), .pointer (some ⟨rb, 0 + tk * 2, none⟩), .pointer (some ⟨rb, 0 + tk * 2, none⟩)] ?_))))))
   refine K.d (.pointer (some ⟨p_26, 0, none⟩)) (K.row_at0 (j := 0) (hS.ownr 3 rfl o_31) hcs hall rfl htl rfl) ?_
   refine K.q [.pointer (some ⟨pm, 0, none⟩)] ?_
   refine K.l (K.OW.gcall hS [0, 1] [2, 3, 4] [.pointer (some ⟨p_26, 0, none⟩), .pointer (some ⟨pm, 0, none⟩)] (rdStep_ok _ _ _ _ _ _ (⟨((tk : Nat) : Int), at_, 0, 0, -1⟩ : RdS) M _ _ h_28 x (by assumption) (by assumption)) ?_)
   clear hS; rintro _ _ w ⟨g_32, l_33, rfl, rfl, h_34, x_35⟩ hS
   replace hS : K.Sat w0 [g_32, l_33, gp, l_30, fr] w := hS
   obtain ⟨hS_36, hM_37⟩ := (rdStep_good2 (by assumption) (by assumption) : (rdStep n t (⟨((tk : Nat) : Int), at_, 0, 0, -1⟩ : RdS) M).1.good ∧ (rdStep n t (⟨((tk : Nat) : Int), at_, 0, 0, -1⟩ : RdS) M).2.good)
   refine K.z (K.t (K.r (K.u ?_)))
   have e : nextH n i true at_ tk M (HandK.rd S) = .rd ⟨((tk : Nat) : Int), at_, 0, 0, -1⟩ := by unfold nextH; rw [if_pos (show ((HandK.rd S)).done = true from hb_1), if_pos rfl]
   refine ⟨.inr rfl, rfl, (.tuple #[]), K.res0 rfl, [l_30, g_32, l_33], ?_, hS.pick [3, 0, 1, 4]⟩
   exact ⟨_, _, _, [.pointer (some ⟨p_26, 0, none⟩), .pointer none], rfl, rfl, rfl, by rw [e]; exact ⟨_, rfl, h_34⟩, o_31, by rw [e]; exact x_35⟩
set_option maxHeartbeats 1000000 in
set_option maxRecDepth 100000 in
theorem hand_se (w0 : World) (p : Nat) (S : SeS) (rb tk N pm q n t i : Nat) (cs : List (List Value)) (hcs : cs.length = N) (hall : ∀ c ∈ cs, c.length = 2) (htl : tk < N) (htk : N ≤ 64) (hi : i ≤ 1000) (at_ y : Int) (ha : in8 at_) (reads : Bool) (M : MemM) (row l : K.Cs) (how : K.OwnG row 68 2 (some ⟨rb, 0, none⟩) N N (cs.set tk [.pointer none, .pointer (some ⟨p, 0, none⟩)]).flatten) (x : MemAt l pm q n t M) (hM : M.good) (hpk : M.peek n at_ = some y) (gp : K.Cs) (hgp : gp = sePt p S) (hS : S.good) :
  K.GC Try.prog w0 33 #[.pointer (some ⟨rb, 0 + tk * 2, none⟩), .pointer (some ⟨pm, 0, none⟩), .int .i64 ((tk : Nat) : Int), .int .i64 at_, .int .i64 ((i : Nat) : Int), .bool reads] [row, gp, l] (fun v post => ∃ row' g' l' c', v = .tuple #[] ∧ post = [row', g', l'] ∧ c'.length = 2 ∧ handEl (goH n t M (nextH n i reads at_ tk M (HandK.se S))).1 c' g' ∧ K.OwnG row' 68 2 (some ⟨rb, 0, none⟩) N N (cs.set tk c').flatten ∧ MemAt l' pm q n t (goH n t M (nextH n i reads at_ tk M (HandK.se S))).2) := by
 have ha2 := ha
 unfold in8 at ha2
 have hyw : isW y := peek_W hM hpk
 have hy0 : (M.peek n at_).getD 0 = y := by rw [hpk]; rfl
 refine K.GC.mk (n := 71) Try.func33 rfl rfl [.pointer (some ⟨rb, 0 + tk * 2, none⟩), .pointer (some ⟨pm, 0, none⟩), .int .i64 ((tk : Nat) : Int), .int .i64 at_, .int .i64 ((i : Nat) : Int), .bool reads] rfl rfl ?_
 intro fr w hS
 replace hS : K.Sat w0 [row, gp, l, fr] w := hS
 refine K.s (K.s (K.g (K.q [.pointer (some ⟨rb, 0 + tk * 2, none⟩), .pointer (some ⟨rb, 0 + tk * 2, none⟩), .pointer (some ⟨rb, 0 + tk * 2, none⟩)] ?_)))
 refine K.d (.pointer none) (K.row_at0 (j := 0) (hS.ownr 0 rfl how) hcs hall rfl htl rfl) ?_
 refine K.l (K.OW.gcall hS [] [0, 1, 2, 3] [.pointer none] (rdDone_nil _ ) ?_)
 clear hS; rintro _ _ w ⟨rfl, rfl⟩ hS
 replace hS : K.Sat w0 [row, gp, l, fr] w := hS
 refine K.q [.bool true, .pointer (some ⟨rb, 0 + tk * 2, none⟩), .pointer (some ⟨rb, 0 + tk * 2, none⟩), .pointer (some ⟨rb, 0 + tk * 2 + 1, none⟩)] ?_
 refine K.d (.pointer (some ⟨p, 0, none⟩)) (K.row_at0 (j := 1) (hS.ownr 0 rfl how) hcs hall rfl htl rfl) ?_
 refine K.l (K.OW.gcall hS [1] [0, 2, 3] [.pointer (some ⟨p, 0, none⟩)] (seDoneB_ok _ _ S _ hgp) ?_)
 clear hS; rintro _ _ w ⟨rfl, rfl⟩ hS
 replace hS : K.Sat w0 [gp, row, l, fr] w := hS
 cases hb_1 : S.done
 ·
  refine K.q [.bool false] (K.z (K.t (K.f (K.k (K.t (K.s (K.s (K.g (K.q [.pointer (some ⟨rb, 0 + tk * 2, none⟩), .pointer (some ⟨rb, 0 + tk * 2, none⟩), .pointer (some ⟨rb, 0 + tk * 2, none⟩)] ?_)))))))))
  refine K.d (.pointer none) (K.row_at0 (j := 0) (hS.ownr 1 rfl how) hcs hall rfl htl rfl) ?_
  refine K.q [.bool false] (K.z (K.t (K.f (K.k (K.t (K.g (K.q [.pointer (some ⟨rb, 0 + tk * 2, none⟩), .pointer (some ⟨rb, 0 + tk * 2, none⟩), .pointer (some ⟨rb, 0 + tk * 2 + 1, none⟩)] ?_)))))))
  refine K.d (.pointer (some ⟨p, 0, none⟩)) (K.row_at0 (j := 1) (hS.ownr 1 rfl how) hcs hall rfl htl rfl) ?_
  refine K.q [.pointer (some ⟨pm, 0, none⟩)] ?_
  refine K.l (K.OW.gcall hS [0, 2] [1, 3] [.pointer (some ⟨p, 0, none⟩), .pointer (some ⟨pm, 0, none⟩)] (seStep_ok _ _ _ _ _ _ S M _ _ hgp x (by assumption) (by assumption)) ?_)
  clear hS; rintro _ _ w ⟨g_2, l_3, rfl, rfl, h_4, x_5⟩ hS
  replace hS : K.Sat w0 [g_2, l_3, row, fr] w := hS
  obtain ⟨hS_6, hM_7⟩ := (seStep_good (by assumption) (by assumption) : (seStep n t S M).1.good ∧ (seStep n t S M).2.good)
  refine K.z ?_
  have e : nextH n i reads at_ tk M (HandK.se S) = (HandK.se S) := if_neg (by show ¬ S.done = true; rw [hb_1]; decide)
  refine ⟨.inl rfl, rfl, (.tuple #[]), K.res0 rfl, [row, g_2, l_3], ?_, hS.pick [2, 0, 1, 3]⟩
  exact ⟨_, _, _, [.pointer none, .pointer (some ⟨p, 0, none⟩)], rfl, rfl, rfl, by rw [e]; exact ⟨_, rfl, h_4⟩, how, by rw [e]; exact x_5⟩
 ·
  refine K.q [.bool true] (K.z (K.t (K.h (K.s (K.g (K.q [.pointer (some ⟨pm, 0, none⟩), .int .i64 at_] ?_))))))
  refine K.l (K.OW.gcall hS [2] [0, 1, 3] [.pointer (some ⟨pm, 0, none⟩), .int .i64 at_] (pkS_ok _ _ _ _ _ _ _ x at_ (by first | omega | assumption | exact aft_int (by assumption) _ | exact ann_int (by assumption) _ (by first | omega | assumption)) y (hpk)) ?_)
  clear hS; rintro _ _ w ⟨rfl, rfl⟩ hS
  replace hS : K.Sat w0 [l, gp, row, fr] w := hS
  refine K.q [.tuple #[.int .u64 y, .bool true], .int .u64 y, .bool true, .int .u64 y, .bool true] (K.z (K.t (K.s (K.g (K.q [.pointer (some ⟨rb, 0 + tk * 2, none⟩), .pointer (some ⟨rb, 0 + tk * 2, none⟩), .pointer (some ⟨rb, 0 + tk * 2, none⟩)] ?_)))))
  refine K.l (K.OW.grst 2 (0 + tk * 2 + 0) [.pointer none] ((cs.set tk [.pointer none, .pointer (some ⟨p, 0, none⟩)]).flatten) hS how ?_ (by show _ + 1 ≤ _; omega) (K.set_at0 (j := 0) hcs hall rfl htl (Nat.le_of_ble_eq_true rfl) rfl))
  clear hS; intro w l_8 o_9 hS
  replace hS : K.Sat w0 [l, gp, l_8, fr] w := hS
  refine K.z (K.t (K.s (K.g (K.q [.pointer (some ⟨rb, 0 + tk * 2, none⟩), .pointer (some ⟨rb, 0 + tk * 2, none⟩), .pointer (some ⟨rb, 0 + tk * 2 + 1, none⟩)] ?_))))
  refine K.l (K.OW.grst 2 (0 + tk * 2 + 1) [.pointer none] ((cs.set tk [.pointer none, .pointer none]).flatten) hS o_9 ?_ (by show _ + 1 ≤ _; omega) (K.set_at0 (j := 1) hcs hall rfl htl (Nat.le_of_ble_eq_true rfl) rfl))
  clear hS; intro w l_10 o_11 hS
  replace hS : K.Sat w0 [l, gp, l_10, fr] w := hS
  refine K.z (K.t (K.s (K.g (K.q [.bool reads] ?_))))
  cases hb_12 : reads
  ·
   refine K.z (K.t (K.f (K.g (K.q [.pointer (some ⟨rb, 0 + tk * 2, none⟩), .int .i64 ((tk : Nat) : Int), .int .i64 at_, .int .u64 y, .int .i64 ((i : Nat) : Int)] ?_))))
   refine K.l (K.OW.gcall hS [] [0, 1, 2, 3] [.int .i64 ((i : Nat) : Int), .int .i64 (-1)] (link_ok _ ((i : Nat) : Int) ((-1) : Int) (by omega) (by omega)) ?_)
   clear hS; rintro _ _ w ⟨rfl, rfl⟩ hS
   replace hS : K.Sat w0 [l, gp, l_10, fr] w := hS
   have hw_13 : isW (linkI ((i : Nat) : Int) ((-1) : Int)) := linkI_w _ _
   refine K.l (K.OW.gcall hS [] [0, 1, 2, 3] [.int .i64 ((tk : Nat) : Int), .int .i64 at_, .int .u64 y, .int .u64 (linkI ((i : Nat) : Int) ((-1) : Int))] (newse_ok _ ((tk : Nat) : Int) (by first | omega | assumption) at_ (by first | omega | assumption) y (by first | assumption | exact isL.w (by assumption) | (unfold isW; omega) | exact rdWord_w (by assumption)) (linkI ((i : Nat) : Int) ((-1) : Int)) (by first | assumption | exact isL.w (by assumption) | (unfold isW; omega) | exact rdWord_w (by assumption))) ?_)
   clear hS; rintro _ _ w ⟨p_14, g_15, rfl, rfl, h_16⟩ hS
   replace hS : K.Sat w0 [g_15, l, gp, l_10, fr] w := hS
   have hS_17 : SeS.good (⟨((tk : Nat) : Int), at_, 0, (cleanI (linkI ((i : Nat) : Int) ((-1) : Int))), -1, (cleanI y), false, 0⟩ : SeS) := seInit (by omega) (by omega)
   refine K.q [.pointer (some ⟨rb, 0 + tk * 2, none⟩), .pointer (some ⟨rb, 0 + tk * 2 + 1, none⟩)] ?_
   refine K.l (K.OW.grst 3 (0 + tk * 2 + 1) [.pointer (some ⟨p_14, 0, none⟩)] ((cs.set tk [.pointer none, .pointer (some ⟨p_14, 0, none⟩)]).flatten) hS o_11 ?_ (by show _ + 1 ≤ _; omega) (K.set_at0 (j := 1) hcs hall rfl htl (Nat.le_of_ble_eq_true rfl) rfl))
   clear hS; intro w l_18 o_19 hS
   replace hS : K.Sat w0 [g_15, l, gp, l_18, fr] w := hS
   refine K.z (K.t (K.s (K.s (K.g (K.q [.pointer (some ⟨rb, 0 + tk * 2, none⟩), .pointer (some ⟨rb, 0 + tk * 2, none⟩), .pointer (some ⟨rb, 0 + tk * 2, none⟩)] ?_)))))
   refine K.d (.pointer none) (K.row_at0 (j := 0) (hS.ownr 3 rfl o_19) hcs hall rfl htl rfl) ?_
   refine K.q [.bool false] (K.z (K.t (K.f (K.k (K.t (K.g (K.q [.pointer (some ⟨rb, 0 + tk * 2, none⟩), .pointer (some ⟨rb, 0 + tk * 2, none⟩), .pointer (some ⟨rb, 0 + tk * 2 + 1, none⟩)] ?_)))))))
   refine K.d (.pointer (some ⟨p_14, 0, none⟩)) (K.row_at0 (j := 1) (hS.ownr 3 rfl o_19) hcs hall rfl htl rfl) ?_
   refine K.q [.pointer (some ⟨pm, 0, none⟩)] ?_
   refine K.l (K.OW.gcall hS [0, 1] [2, 3, 4] [.pointer (some ⟨p_14, 0, none⟩), .pointer (some ⟨pm, 0, none⟩)] (seStep_ok _ _ _ _ _ _ (⟨((tk : Nat) : Int), at_, 0, (cleanI (linkI ((i : Nat) : Int) ((-1) : Int))), -1, (cleanI y), false, 0⟩ : SeS) M _ _ h_16 x (by assumption) (by assumption)) ?_)
   clear hS; rintro _ _ w ⟨g_20, l_21, rfl, rfl, h_22, x_23⟩ hS
   replace hS : K.Sat w0 [g_20, l_21, gp, l_18, fr] w := hS
   obtain ⟨hS_24, hM_25⟩ := (seStep_good (by assumption) (by assumption) : (seStep n t (⟨((tk : Nat) : Int), at_, 0, (cleanI (linkI ((i : Nat) : Int) ((-1) : Int))), -1, (cleanI y), false, 0⟩ : SeS) M).1.good ∧ (seStep n t (⟨((tk : Nat) : Int), at_, 0, (cleanI (linkI ((i : Nat) : Int) ((-1) : Int))), -1, (cleanI y), false, 0⟩ : SeS) M).2.good)
   refine K.z ?_
   have e : nextH n i false at_ tk M (HandK.se S) = .se ⟨((tk : Nat) : Int), at_, 0, cleanI (linkI ((i : Nat) : Int) (-1)), -1, cleanI y, false, 0⟩ := by unfold nextH; rw [if_pos (show ((HandK.se S)).done = true from hb_1), if_neg (by decide), hy0]
   refine ⟨.inl rfl, rfl, (.tuple #[]), K.res0 rfl, [l_18, g_20, l_21], ?_, hS.pick [3, 0, 1, 4]⟩
   exact ⟨_, _, _, [.pointer none, .pointer (some ⟨p_14, 0, none⟩)], rfl, rfl, rfl, by rw [e]; exact ⟨_, rfl, h_22⟩, o_19, by rw [e]; exact x_23⟩
  ·
   refine K.z (K.t (K.h (K.g (K.q [.pointer (some ⟨rb, 0 + tk * 2, none⟩), .int .i64 ((tk : Nat) : Int), .int .i64 at_] ?_))))
   refine K.l (K.OW.gcall hS [] [0, 1, 2, 3] [.int .i64 ((tk : Nat) : Int), .int .i64 at_] (newrd_ok _ ((tk : Nat) : Int) (by first | omega | assumption) at_ (by first | omega | assumption)) ?_)
   clear hS; rintro _ _ w ⟨p_26, g_27, rfl, rfl, h_28⟩ hS
   replace hS : K.Sat w0 [g_27, l, gp, l_10, fr] w := hS
   have hS_29 : RdS.good (⟨((tk : Nat) : Int), at_, 0, 0, -1⟩ : RdS) := rdInit (by omega) (by omega)
   refine K.q [.pointer (some ⟨rb, 0 + tk * 2, none⟩), .pointer (some ⟨rb, 0 + tk * 2, none⟩)] ?_
   refine K.l (K.OW.grst 3 (0 + tk * 2 + 0) [.pointer (some ⟨p_26, 0, none⟩)] ((cs.set tk [.pointer (some ⟨p_26, 0, none⟩), .pointer none]).flatten) hS o_11 ?_ (by show _ + 1 ≤ _; omega) (K.set_at0 (j := 0) hcs hall rfl htl (Nat.le_of_ble_eq_true rfl) rfl))
   clear hS; intro w l_30 o_31 hS
   replace hS : K.Sat w0 [g_27, l, gp, l_30, fr] w := hS
   refine K.z (K.t (K.s (K.s (K.g (K.q [.pointer (some ⟨rb, 0 + tk * 2, none⟩), .pointer (some ⟨rb, 0 + tk * 2, none⟩), .pointer (some ⟨rb, 0 + tk * 2, none⟩)] ?_)))))
   refine K.d (.pointer (some ⟨p_26, 0, none⟩)) (K.row_at0 (j := 0) (hS.ownr 3 rfl o_31) hcs hall rfl htl rfl) ?_
   refine K.q [.bool true] (K.z (K.t (K.h (K.s (K.g (K.q [.pointer (some ⟨rb, 0 + tk * 2, none⟩), .pointer (some ⟨rb, 0 + tk * 2, none⟩), .pointer (some ⟨rb, 0 + tk * 2, none⟩)] ?_))))))
   refine K.d (.pointer (some ⟨p_26, 0, none⟩)) (K.row_at0 (j := 0) (hS.ownr 3 rfl o_31) hcs hall rfl htl rfl) ?_
   refine K.q [.pointer (some ⟨pm, 0, none⟩)] ?_
   refine K.l (K.OW.gcall hS [0, 1] [2, 3, 4] [.pointer (some ⟨p_26, 0, none⟩), .pointer (some ⟨pm, 0, none⟩)] (rdStep_ok _ _ _ _ _ _ (⟨((tk : Nat) : Int), at_, 0, 0, -1⟩ : RdS) M _ _ h_28 x (by assumption) (by assumption)) ?_)
   clear hS; rintro _ _ w ⟨g_32, l_33, rfl, rfl, h_34, x_35⟩ hS
   replace hS : K.Sat w0 [g_32, l_33, gp, l_30, fr] w := hS
   obtain ⟨hS_36, hM_37⟩ := (rdStep_good2 (by assumption) (by assumption) : (rdStep n t (⟨((tk : Nat) : Int), at_, 0, 0, -1⟩ : RdS) M).1.good ∧ (rdStep n t (⟨((tk : Nat) : Int), at_, 0, 0, -1⟩ : RdS) M).2.good)
   refine K.z (K.t (K.r (K.u ?_)))
   have e : nextH n i true at_ tk M (HandK.se S) = .rd ⟨((tk : Nat) : Int), at_, 0, 0, -1⟩ := by unfold nextH; rw [if_pos (show ((HandK.se S)).done = true from hb_1), if_pos rfl]
   refine ⟨.inr rfl, rfl, (.tuple #[]), K.res0 rfl, [l_30, g_32, l_33], ?_, hS.pick [3, 0, 1, 4]⟩
   exact ⟨_, _, _, [.pointer (some ⟨p_26, 0, none⟩), .pointer none], rfl, rfl, rfl, by rw [e]; exact ⟨_, rfl, h_34⟩, o_31, by rw [e]; exact x_35⟩
def HandK.good : HandK → Prop
 | .no => True
 | .rd S => S.good
 | .se S => S.good
theorem goH_good {n nt : Nat} {M : MemM} (hM : M.good) : ∀ {x : HandK}, x.good → (goH n nt M x).2.good
 | .no, _ => hM
 | .rd _, h => (rdStep_good2 h hM).2
 | .se _, h => (seStep_good h hM).2
structure KInv (n nt m i : Nat) (hs : List HandK) (M : MemM) : Prop where
 len : hs.length = m
 mem : KMem n nt i M
 each : ∀ t x, hs[t]? = some x → KH i M t x
section
variable {n nt m i t : Nat} {hs : List HandK} {M : MemM}
theorem KH.good {x : HandK} (h : KH i M t x) : x.good := by
 cases x with
 | no => trivial
 | rd S => exact h.1
 | se S => exact h.1
theorem nextH_good {x : HandK} {reads : Bool} {at_ : Int} (h : x.good) (ha : in8 at_) (ht : t < 64) : (nextH n i reads at_ t M x).good := by
 unfold in8 at ha
 unfold nextH
 split
 ·split
  ·exact rdInit (by omega) (by omega)
  ·exact seInit (by omega) (by omega)
 ·exact h
theorem KInv.hand (I : KInv n nt m i hs M) {x : HandK} (hS : hs[t]? = some x) (hn : 8 ≤ n) (hi : i ≤ 1000) {at_ : Int} (ha : in8 at_) (hm : m ≤ nt) (h64 : nt ≤ 64) (reads : Bool) :
  KInv n nt m (i + 1) (hs.set t (goH n nt M (nextH n i reads at_ t M x)).1) (goH n nt M (nextH n i reads at_ t M x)).2 := by
 have ht : t < hs.length := (List.getElem?_eq_some_iff.1 hS).1
 have hl := I.len
 have H := I.each t x hS
 obtain ⟨h1, h2, h3⟩ := hand_go (at_ := at_) (reads := reads) hn hi I.mem ha (by omega) h64 H
 have hg := goH_good (n := n) (nt := nt) I.mem.good (nextH_good (n := n) (i := i) (M := M) (reads := reads) H.good ha (show t < 64 by omega))
 refine ⟨by rw [List.length_set]; exact hl, h1.mem I.mem hi h2 hg, ?_⟩
 intro t' X hX
 rw [List.getElem?_set] at hX
 by_cases htt : t = t'
 ·subst htt
  rw [if_pos rfl, if_pos ht] at hX
  cases hX; exact h3
 ·rw [if_neg htt] at hX
  exact KH.other h1 (fun e => htt e.symm) hi (I.each t' X hX)
theorem KInv.move (I : KInv n nt m i hs M) {M' : MemM} (h : Mv i m M M') (hi : i ≤ 1000) (hok : M'.dev.ok n nt) (hg : M'.good) : KInv n nt m (i + 1) hs M' := by
 refine ⟨I.len, h.mem I.mem hi hok hg, fun t x hS => KH.other h ?_ hi (I.each t x hS)⟩
 have := (List.getElem?_eq_some_iff.1 hS).1
 have := I.len
 omega
theorem KInv.skip (I : KInv n nt m i hs M) (hi : i ≤ 1000) : KInv n nt m (i + 1) hs M := I.move (Mv.same rfl) hi I.mem.ok I.mem.good
theorem KInv.evict (I : KInv n nt m i hs M) (hi : i ≤ 1000) {k : Nat} (hk : k < n) (hn : 8 ≤ n) : KInv n nt m (i + 1) hs ({ M with dev := M.dev.back k } : MemM) := by
 have hb := back_words (k := k) (D := M.dev) ⟨I.mem.good.2.1, I.mem.good.2.2⟩
 refine I.move ⟨fun t' q _ h => h, fun j hj => .inl ⟨rfl, ?_⟩⟩ hi (I.mem.ok.back hk) ⟨I.mem.good.1, hb.1, hb.2⟩
 unfold in8 at hj
 show (copyL M.dev.kept M.dev.seen k).getD j.toNat 0 = M.dev.kept.getD j.toNat 0 ∨ (copyL M.dev.kept M.dev.seen k).getD j.toNat 0 = M.dev.seen.getD j.toNat 0
 rw [List.getD_eq_getElem?_getD, copyL_get I.mem.ok.1 I.mem.ok.2.1 hk]
 split
 ·exact .inr (by rw [List.getD_eq_getElem?_getD])
 ·exact .inl (by rw [List.getD_eq_getElem?_getD])
theorem rep0 {N j : Nat} : (List.replicate N (0 : Int)).getD j 0 = 0 := by
 rw [List.getD_eq_getElem?_getD, List.getElem?_replicate]; split <;> rfl
theorem KInv.start {k : Nat} (hok : (groundM n nt k []).dev.ok n nt) : KInv n nt m 0 (List.replicate m .no) (groundM n nt k []) := by
 refine ⟨List.length_replicate, ⟨hok, ground_good (fun j hj => absurd hj (by simp)), fun j _ _ => ?_, fun j _ => ?_⟩, fun t x hS => ?_⟩
 ·show cleanI ((List.replicate (n * 8) (0 : Int)).getD j.toNat 0) = (List.replicate (n * 8) (0 : Int)).getD j.toNat 0
  rw [rep0]; rfl
 ·show 0 ≤ (List.replicate (n * 8) (0 : Int)).getD j.toNat 0 ∧ cleanI ((List.replicate (n * 8) (0 : Int)).getD j.toNat 0) ≤ ((0 : Nat) : Int)
  rw [rep0]; decide
 ·rw [List.getElem?_replicate] at hS
  split at hS
  ·cases hS; trivial
  ·cases hS
end
end Go.Proofs.Ytkmndplicmaahaa
