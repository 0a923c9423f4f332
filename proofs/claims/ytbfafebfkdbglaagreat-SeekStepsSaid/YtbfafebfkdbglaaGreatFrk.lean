/- The document's machines of layer 13. -/
import Derived.Test.YtbfafebfkdbglaaGreatFlk
import Derived.Test.YtbfafebfkdbglaaGreatKn
namespace Go.Proofs.YtbfafebfkdbglaaGreat
open Go.RowKit
set_option linter.unusedVariables false
attribute [local irreducible] K.KW K.RW K.DW K.OW K.QR K.KC
def lineL (pc : Int) : Int := if pc = 4 then 0 else pc + 1
def gtOk (S : RdS) (gt : Int) : Prop := isW gt ∧ (1 ≤ S.pc → S.pc ≤ 3 → gt = soilI S.word)
abbrev rrdPt (r : Nat) (S : RdS) (gt : Int) : K.Cs := [K.pt r 143 [.int .i64 S.t, .int .i64 S.at_, .int .i64 (lineL S.pc), .int .u64 gt, .int .u64 (rdWord S), .int .i64 (rdWhen S)]]
abbrev rsePt (r : Nat) (S : SeS) : K.Cs := [K.pt r 147 [.int .i64 S.t, .int .i64 S.at_, .int .i64 (lineL S.pc), .int .u64 S.old, .int .u64 S.word, .bool S.put, .int .i64 S.when_, .int .i64 S.writes]]
set_option maxHeartbeats 1000000 in
set_option maxRecDepth 100000 in
theorem r13rd_4 (w0 : World) (p pm q n t : Nat) (S : RdS) (M : MemM) (gt : Int) (gp l : K.Cs) (hp : S.pc = 4) (hgp : gp = [K.pt p 143 [.int .i64 S.t, .int .i64 S.at_, .int .i64 0, .int .u64 gt, .int .u64 S.word, .int .i64 S.when_]]) (x : RMemAt l pm q n t M) (hM : M.good) (hS : S.good) (hgt : gtOk S gt) :
  K.GC Tryz.prog w0 74 #[.pointer (some ⟨p, 0, none⟩), .pointer (some ⟨pm, 0, none⟩)] [gp, l] (fun v post => ∃ gp' l' gt', v = .tuple #[] ∧ post = [gp', l'] ∧ gp' = rrdPt p (rdStep n t S M).1 gt' ∧ gtOk (rdStep n t S M).1 gt' ∧ RMemAt l' pm q n t (rdStep n t S M).2) := by
 have hwl : isW (M.accL n S.t S.at_).2.old := (accL_good hM).2
 have hS0 := hS
 obtain ⟨hSt, hSa, hSp, hSw, hSn⟩ := hS
 have hSw2 := hSw
 unfold isL at hSw2
 have hgw := hgt.1
 have hgw2 := hgw
 unfold isW at hgw2
 refine K.GC.mk (n := 108) Tryz.func74 rfl rfl [.pointer (some ⟨p, 0, none⟩), .pointer (some ⟨pm, 0, none⟩)] rfl rfl ?_
 intro fr w hS
 replace hS : K.Sat w0 [gp, l, fr] w := hS
 refine K.s (K.s (K.g (K.q [.pointer (some ⟨p, 0, none⟩), .pointer (some ⟨p, 0, none⟩), .pointer (some ⟨p, 2, none⟩)] ?_)))
 refine K.d (.int .i64 0) ((hS.blk 0 rfl hgp).cell rfl) ?_
 refine K.q [.bool false] (K.z (K.t (K.f (K.k (K.t (K.s (K.s (K.g (K.q [.pointer (some ⟨p, 0, none⟩), .pointer (some ⟨p, 0, none⟩), .pointer (some ⟨p, 2, none⟩)] ?_)))))))))
 refine K.d (.int .i64 0) ((hS.blk 0 rfl hgp).cell rfl) ?_
 refine K.q [.bool false] (K.z (K.t (K.f (K.k (K.t (K.s (K.s (K.g (K.q [.pointer (some ⟨p, 0, none⟩), .pointer (some ⟨p, 0, none⟩), .pointer (some ⟨p, 2, none⟩)] ?_)))))))))
 refine K.d (.int .i64 0) ((hS.blk 0 rfl hgp).cell rfl) ?_
 refine K.q [.bool false] (K.z (K.t (K.f (K.k (K.t (K.s (K.g (K.q [.pointer (some ⟨p, 0, none⟩), .pointer (some ⟨p, 0, none⟩), .pointer (some ⟨p, 2, none⟩)] ?_))))))))
 refine K.d (.int .i64 0) ((hS.blk 0 rfl hgp).cell rfl) ?_
 refine K.q [.bool false] (K.z (K.t (K.f (K.k ?_))))
 have e : rdStep n t S M = (S, M) := if_pos hp
 refine ⟨.inl rfl, rfl, (.tuple #[]), K.res0 rfl, [gp, l], ?_, hS.pick [0, 1, 2]⟩
 exact ⟨_, _, gt, rfl, rfl, by rw [e]; show gp = rrdPt p S gt; unfold rrdPt lineL rdWord rdWhen; rw [if_pos hp, if_pos hp, if_pos hp]; exact hgp, by rw [e]; exact hgt, by rw [e]; exact x⟩
set_option maxHeartbeats 1000000 in
set_option maxRecDepth 100000 in
theorem r13rd_n (w0 : World) (p pm q n t : Nat) (S : RdS) (M : MemM) (gt : Int) (gp l : K.Cs) (hp : 0 ≤ S.pc ∧ S.pc ≤ 3) (hgp : gp = [K.pt p 143 [.int .i64 S.t, .int .i64 S.at_, .int .i64 (S.pc + 1), .int .u64 gt, .int .u64 0, .int .i64 (-1)]]) (x : RMemAt l pm q n t M) (hM : M.good) (hS : S.good) (hgt : gtOk S gt) :
  K.GC Tryz.prog w0 74 #[.pointer (some ⟨p, 0, none⟩), .pointer (some ⟨pm, 0, none⟩)] [gp, l] (fun v post => ∃ gp' l' gt', v = .tuple #[] ∧ post = [gp', l'] ∧ gp' = rrdPt p (rdStep n t S M).1 gt' ∧ gtOk (rdStep n t S M).1 gt' ∧ RMemAt l' pm q n t (rdStep n t S M).2) := by
 have hwl : isW (M.accL n S.t S.at_).2.old := (accL_good hM).2
 have hS0 := hS
 obtain ⟨hSt, hSa, hSp, hSw, hSn⟩ := hS
 have hSw2 := hSw
 unfold isL at hSw2
 have hgw := hgt.1
 have hgw2 := hgw
 unfold isW at hgw2
 refine K.GC.mk (n := 108) Tryz.func74 rfl rfl [.pointer (some ⟨p, 0, none⟩), .pointer (some ⟨pm, 0, none⟩)] rfl rfl ?_
 intro fr w hS
 replace hS : K.Sat w0 [gp, l, fr] w := hS
 refine K.s (K.s (K.g (K.q [.pointer (some ⟨p, 0, none⟩), .pointer (some ⟨p, 0, none⟩), .pointer (some ⟨p, 2, none⟩)] ?_)))
 refine K.d (.int .i64 (S.pc + 1)) ((hS.blk 0 rfl hgp).cell rfl) ?_
 by_cases h_1 : ((S.pc + 1) : Int) = (1 : Int)
 ·
  refine K.ye ((S.pc + 1) : Int) (1 : Int) h_1 ?_
  refine K.z (K.t (K.h (K.s ?_)))
  refine K.KW.gdrawn [0] hS (by kernel_rfl) ?_
  clear hS; intro w hS
  refine K.p 0 rfl (.pointer (some ⟨p, 0, none⟩)) (hS.pick [0]) ?_
  refine K.p 1 rfl (.pointer (some ⟨pm, 0, none⟩)) (hS.pick [0]) ?_
  refine K.p 2 rfl (.pointer (some ⟨p, 0, none⟩)) (hS.pick [0]) ?_
  refine K.p 3 rfl (.pointer (some ⟨p, 0, none⟩)) (hS.pick [0]) ?_
  refine K.p 4 rfl (.pointer (some ⟨p, 0, none⟩)) (hS.pick [0]) ?_
  refine K.o_ 5 rfl (.int .i64 S.t) (fun w hS => ((hS.blk 0 rfl hgp).cell rfl)) (hS.pick [0]) ?_
  refine K.b 6 rfl (.pointer (some ⟨p, 0, none⟩)) (hS.pick [0]) ?_
  refine K.b 7 rfl (.pointer (some ⟨p, 0, none⟩)) (hS.pick [0]) ?_
  refine K.b 8 rfl (.pointer (some ⟨p, 1, none⟩)) (hS.pick [0]) ?_
  refine K.c 9 rfl (K.QR.ld1 (v := .int .i64 S.at_) rfl rfl (by kernel_rfl) ((hS.blk 0 rfl hgp).cell rfl)) (hS.pick [0]) ?_
  refine K.DW.l 10 rfl (by kernel_rfl) rfl (K.OW.gcall hS [1] [0, 2] [.pointer (some ⟨pm, 0, none⟩), .int .i64 1, .int .i64 S.t, .int .i64 S.at_, .int .u64 0, .int .u64 0] (rmDo1_ok _ _ _ _ _ _ _ x S.t S.at_ 0 0 (by omega) (by omega)) ?_)
  clear hS; rintro _ _ w ⟨l_2, rfl, rfl, x_3⟩ hS
  replace hS : K.Sat w0 [l_2, gp, fr] w := hS
  refine ⟨.inl (hS.pick [1]), ?_⟩
  refine K.b 11 rfl (.int .u64 ((M.accL n S.t S.at_).2.old)) (hS.pick [1]) ?_
  refine K.b 12 rfl (.pointer (some ⟨p, 0, none⟩)) (hS.pick [1]) ?_
  refine K.b 13 rfl (.pointer (some ⟨p, 3, none⟩)) (hS.pick [1]) ?_
  refine K.DW.l 14 rfl (by kernel_rfl) rfl (K.OW.gst 1 [.int .u64 ((M.accL n S.t S.at_).2.old)] _ hS hgp ?_)
  clear hS; intro w g_4 hg_5 hS
  replace hS : K.Sat w0 [l_2, g_4, fr] w := hS
  refine ⟨.inr (by kernel_rfl), ?_⟩
  refine K.DW.done (by kernel_rfl) ?_
  refine K.t (K.s (K.g (K.q [.pointer (some ⟨p, 0, none⟩), .pointer (some ⟨p, 0, none⟩), .pointer (some ⟨p, 2, none⟩)] ?_)))
  refine K.l (K.OW.gst 1 [.int .i64 2] _ hS hg_5 ?_)
  clear hS; intro w g_6 hg_7 hS
  replace hS : K.Sat w0 [l_2, g_6, fr] w := hS
  refine K.z (K.t (K.s (K.s (K.g (K.q [.pointer (some ⟨p, 0, none⟩), .pointer (some ⟨p, 0, none⟩), .pointer (some ⟨p, 3, none⟩)] ?_)))))
  refine K.d (.int .u64 ((M.accL n S.t S.at_).2.old)) ((hS.blk 1 rfl hg_7).cell rfl) ?_
  refine K.l (K.OW.gcall hS [] [0, 1, 2] [.int .u64 ((M.accL n S.t S.at_).2.old)] (rdirty_ok _ ((M.accL n S.t S.at_).2.old) hwl) ?_)
  clear hS; rintro _ _ w ⟨rfl, (⟨rfl, h_8⟩ | ⟨rfl, h_9⟩)⟩ hS
  ·
   replace hS : K.Sat w0 [l_2, g_6, fr] w := hS
   refine K.q [.bool false] (K.z (K.t (K.f (K.k (K.t (K.r (K.u ?_)))))))
   have e : rdStep n t S M = (⟨S.t, S.at_, 1, cleanI (M.accL n S.t S.at_).2.old, (M.accL n S.t S.at_).1.clock⟩, (M.accL n S.t S.at_).1) := by unfold rdStep; rw [if_neg (by omega), if_pos (by omega), if_neg (Int.not_lt.mpr h_8)]
   have ec : cleanI (M.accL n S.t S.at_).2.old = cleanI (M.accL n S.t S.at_).2.old := rfl
   refine ⟨.inr rfl, rfl, (.tuple #[]), K.res0 rfl, [g_6, l_2], ?_, hS.pick [1, 0, 2]⟩
   exact ⟨_, _, ((M.accL n S.t S.at_).2.old), rfl, rfl, by rw [e]; exact hg_7, by rw [e]; exact ⟨hwl, fun _ _ => (soil_dirty hwl h_8).symm.trans (soil_clean _).symm⟩, by rw [e]; exact x_3⟩
  ·
   replace hS : K.Sat w0 [l_2, g_6, fr] w := hS
   refine K.q [.bool true] (K.z (K.t (K.h (K.s (K.g (K.q [.pointer (some ⟨p, 0, none⟩), .pointer (some ⟨p, 0, none⟩), .pointer (some ⟨p, 0, none⟩), .pointer (some ⟨p, 3, none⟩)] ?_))))))
   refine K.d (.int .u64 ((M.accL n S.t S.at_).2.old)) ((hS.blk 1 rfl hg_7).cell rfl) ?_
   refine K.q [.pointer (some ⟨p, 0, none⟩), .pointer (some ⟨p, 4, none⟩)] ?_
   refine K.l (K.OW.gst 1 [.int .u64 ((M.accL n S.t S.at_).2.old)] _ hS hg_7 ?_)
   clear hS; intro w g_10 hg_11 hS
   replace hS : K.Sat w0 [l_2, g_10, fr] w := hS
   refine K.z (K.t (K.s ?_))
   obtain ⟨rg, rp, rd, ra, rnp, rcp, rfl, hrg, hrp, hrd, hrnp, hrn18⟩ := x_3
   replace hS : K.Sat w0 [rg, rp, rd, g_10, fr] w := hS.of
   refine K.g (K.q [.pointer (some ⟨p, 0, none⟩), .pointer (some ⟨pm, 0, none⟩), .pointer (some ⟨pm, 0, none⟩), .pointer (some ⟨pm, 2, none⟩)] ?_)
   refine K.d (.int .i64 (((M.accL n S.t S.at_).1).clock)) ((hS.blk 0 rfl hrg).cell rfl) ?_
   refine K.q [.pointer (some ⟨p, 0, none⟩), .pointer (some ⟨p, 5, none⟩)] ?_
   refine K.l (K.OW.gst 3 [.int .i64 (((M.accL n S.t S.at_).1).clock)] _ hS hg_11 ?_)
   clear hS; intro w g_12 hg_13 hS
   replace hS : K.Sat w0 [rg, rp, rd, g_12, fr] w := hS
   refine K.z (K.t (K.g (K.q [.pointer (some ⟨p, 0, none⟩), .pointer (some ⟨p, 0, none⟩), .pointer (some ⟨p, 2, none⟩)] ?_)))
   refine K.l (K.OW.gst 3 [.int .i64 0] _ hS hg_13 ?_)
   clear hS; intro w g_14 hg_15 hS
   replace hS : K.Sat w0 [rg, rp, rd, g_14, fr] w := hS
   refine K.z (K.t (K.r (K.u ?_)))
   replace hS : K.Sat w0 [[rg, rp, rd].flatten, g_14, fr] w := (hS.pick [0, 1, 2, 3, 4]).of
   have e : rdStep n t S M = (⟨S.t, S.at_, 4, cleanI (M.accL n S.t S.at_).2.old, (M.accL n S.t S.at_).1.clock⟩, (M.accL n S.t S.at_).1) := by unfold rdStep; rw [if_neg (by omega), if_pos (by omega), if_pos h_9]
   have ec : cleanI (M.accL n S.t S.at_).2.old = (M.accL n S.t S.at_).2.old := clean_nd hwl h_9
   refine ⟨.inr rfl, rfl, (.tuple #[]), K.res0 rfl, [g_14, [rg, rp, rd].flatten], ?_, hS.pick [1, 0, 2]⟩
   exact ⟨_, _, ((M.accL n S.t S.at_).2.old), rfl, rfl, by rw [e, ec]; exact hg_15, by rw [e]; exact ⟨hwl, fun _ h => absurd h (by decide : ¬ (4 : Int) ≤ 3)⟩, by rw [e]; exact ⟨_, _, _, _, _, _, rfl, hrg, hrp, hrd, hrnp, hrn18⟩⟩
 ·
  refine K.xe ((S.pc + 1) : Int) (1 : Int) h_1 ?_
  refine K.z (K.t (K.f (K.k (K.t (K.s (K.s (K.g (K.q [.pointer (some ⟨p, 0, none⟩), .pointer (some ⟨p, 0, none⟩), .pointer (some ⟨p, 2, none⟩)] ?_))))))))
  refine K.d (.int .i64 (S.pc + 1)) ((hS.blk 0 rfl hgp).cell rfl) ?_
  by_cases h_16 : ((S.pc + 1) : Int) = (2 : Int)
  ·
   refine K.ye ((S.pc + 1) : Int) (2 : Int) h_16 ?_
   refine K.z (K.t (K.h (K.s ?_)))
   refine K.KW.gdrawn [0] hS (by kernel_rfl) ?_
   clear hS; intro w hS
   refine K.p 0 rfl (.pointer (some ⟨pm, 0, none⟩)) (hS.pick [0]) ?_
   refine K.p 1 rfl (.pointer (some ⟨p, 0, none⟩)) (hS.pick [0]) ?_
   refine K.p 2 rfl (.pointer (some ⟨p, 0, none⟩)) (hS.pick [0]) ?_
   refine K.p 3 rfl (.pointer (some ⟨p, 0, none⟩)) (hS.pick [0]) ?_
   refine K.o_ 4 rfl (.int .i64 S.t) (fun w hS => ((hS.blk 0 rfl hgp).cell rfl)) (hS.pick [0]) ?_
   refine K.b 5 rfl (.pointer (some ⟨p, 0, none⟩)) (hS.pick [0]) ?_
   refine K.b 6 rfl (.pointer (some ⟨p, 0, none⟩)) (hS.pick [0]) ?_
   refine K.b 7 rfl (.pointer (some ⟨p, 1, none⟩)) (hS.pick [0]) ?_
   refine K.c 8 rfl (K.QR.ld1 (v := .int .i64 S.at_) rfl rfl (by kernel_rfl) ((hS.blk 0 rfl hgp).cell rfl)) (hS.pick [0]) ?_
   refine K.DW.l 9 rfl (by kernel_rfl) rfl (K.OW.gcall hS [1] [0, 2] [.pointer (some ⟨pm, 0, none⟩), .int .i64 4, .int .i64 S.t, .int .i64 S.at_, .int .u64 0, .int .u64 0] (rmDo4_ok _ _ _ _ _ _ _ x S.t S.at_ 0 0 (by omega) (by omega)) ?_)
   clear hS; rintro _ _ w ⟨l_17, rfl, rfl, x_18⟩ hS
   replace hS : K.Sat w0 [l_17, gp, fr] w := hS
   refine ⟨.inl (hS.pick [1]), ?_⟩
   refine K.DW.done (by kernel_rfl) ?_
   refine K.t (K.s (K.g (K.q [.pointer (some ⟨p, 0, none⟩), .pointer (some ⟨p, 0, none⟩), .pointer (some ⟨p, 2, none⟩)] ?_)))
   refine K.l (K.OW.gst 1 [.int .i64 3] _ hS hgp ?_)
   clear hS; intro w g_19 hg_20 hS
   replace hS : K.Sat w0 [l_17, g_19, fr] w := hS
   refine K.z (K.t (K.r (K.u ?_)))
   have e : rdStep n t S M = (⟨S.t, S.at_, 2, S.word, S.when_⟩, ((M.accF n t S.t S.at_).1)) := by unfold rdStep lastM; rw [if_neg (by omega), if_neg (by omega), if_neg (by omega), if_pos (by omega), show S.pc + 1 = 2 by omega]
   refine ⟨.inr rfl, rfl, (.tuple #[]), K.res0 rfl, [g_19, l_17], ?_, hS.pick [1, 0, 2]⟩
   exact ⟨_, _, gt, rfl, rfl, by rw [e]; exact hg_20, by rw [e]; exact ⟨hgt.1, fun _ _ => hgt.2 (by omega) (by omega)⟩, by rw [e]; exact x_18⟩
  ·
   refine K.xe ((S.pc + 1) : Int) (2 : Int) h_16 ?_
   refine K.z (K.t (K.f (K.k (K.t (K.s (K.s (K.g (K.q [.pointer (some ⟨p, 0, none⟩), .pointer (some ⟨p, 0, none⟩), .pointer (some ⟨p, 2, none⟩)] ?_))))))))
   refine K.d (.int .i64 (S.pc + 1)) ((hS.blk 0 rfl hgp).cell rfl) ?_
   by_cases h_21 : ((S.pc + 1) : Int) = (3 : Int)
   ·
    refine K.ye ((S.pc + 1) : Int) (3 : Int) h_21 ?_
    refine K.z (K.t (K.h (K.s (K.g (K.q [.pointer (some ⟨pm, 0, none⟩), .pointer (some ⟨p, 0, none⟩), .pointer (some ⟨p, 0, none⟩), .pointer (some ⟨p, 0, none⟩)] ?_)))))
    refine K.d (.int .i64 S.t) ((hS.blk 0 rfl hgp).cell rfl) ?_
    refine K.l (K.OW.gcall hS [1] [0, 2] [.pointer (some ⟨pm, 0, none⟩), .int .i64 5, .int .i64 S.t, .int .i64 0, .int .u64 0, .int .u64 0] (rmDo5_ok _ _ _ _ _ _ _ x S.t 0 0 0 (by omega) (by omega)) ?_)
    clear hS; rintro _ _ w ⟨l_22, rfl, rfl, x_23⟩ hS
    replace hS : K.Sat w0 [l_22, gp, fr] w := hS
    refine K.z (K.t (K.s (K.g (K.q [.pointer (some ⟨p, 0, none⟩), .pointer (some ⟨p, 0, none⟩), .pointer (some ⟨p, 2, none⟩)] ?_))))
    refine K.l (K.OW.gst 1 [.int .i64 4] _ hS hgp ?_)
    clear hS; intro w g_24 hg_25 hS
    replace hS : K.Sat w0 [l_22, g_24, fr] w := hS
    refine K.z (K.t (K.r (K.u ?_)))
    have e : rdStep n t S M = (⟨S.t, S.at_, 3, S.word, S.when_⟩, ((M.accE t S.t).1)) := by unfold rdStep lastM; rw [if_neg (by omega), if_neg (by omega), if_neg (by omega), if_neg (by omega), if_pos (by omega), show S.pc + 1 = 3 by omega]
    refine ⟨.inr rfl, rfl, (.tuple #[]), K.res0 rfl, [g_24, l_22], ?_, hS.pick [1, 0, 2]⟩
    exact ⟨_, _, gt, rfl, rfl, by rw [e]; exact hg_25, by rw [e]; exact ⟨hgt.1, fun _ _ => hgt.2 (by omega) (by omega)⟩, by rw [e]; exact x_23⟩
   ·
    refine K.xe ((S.pc + 1) : Int) (3 : Int) h_21 ?_
    refine K.z (K.t (K.f (K.k (K.t (K.s (K.g (K.q [.pointer (some ⟨p, 0, none⟩), .pointer (some ⟨p, 0, none⟩), .pointer (some ⟨p, 2, none⟩)] ?_)))))))
    refine K.d (.int .i64 (S.pc + 1)) ((hS.blk 0 rfl hgp).cell rfl) ?_
    refine K.ye ((S.pc + 1) : Int) (4 : Int) (by omega) ?_
    refine K.z (K.t (K.h (K.s ?_)))
    refine K.KW.gdrawn [0] hS (by kernel_rfl) ?_
    clear hS; intro w hS
    refine K.p 0 rfl (.pointer (some ⟨pm, 0, none⟩)) (hS.pick [0]) ?_
    refine K.p 1 rfl (.pointer (some ⟨p, 0, none⟩)) (hS.pick [0]) ?_
    refine K.p 2 rfl (.pointer (some ⟨p, 0, none⟩)) (hS.pick [0]) ?_
    refine K.p 3 rfl (.pointer (some ⟨p, 0, none⟩)) (hS.pick [0]) ?_
    refine K.o_ 4 rfl (.int .i64 S.t) (fun w hS => ((hS.blk 0 rfl hgp).cell rfl)) (hS.pick [0]) ?_
    refine K.p 5 rfl (.pointer (some ⟨p, 0, none⟩)) (hS.pick [0]) ?_
    refine K.p 6 rfl (.pointer (some ⟨p, 0, none⟩)) (hS.pick [0]) ?_
    refine K.p 7 rfl (.pointer (some ⟨p, 1, none⟩)) (hS.pick [0]) ?_
    refine K.o_ 8 rfl (.int .i64 S.at_) (fun w hS => ((hS.blk 0 rfl hgp).cell rfl)) (hS.pick [0]) ?_
    refine K.p 9 rfl (.pointer (some ⟨p, 0, none⟩)) (hS.pick [0]) ?_
    refine K.p 10 rfl (.pointer (some ⟨p, 0, none⟩)) (hS.pick [0]) ?_
    refine K.p 11 rfl (.pointer (some ⟨p, 3, none⟩)) (hS.pick [0]) ?_
    refine K.o_ 12 rfl (.int .u64 gt) (fun w hS => ((hS.blk 0 rfl hgp).cell rfl)) (hS.pick [0]) ?_
    refine K.b 13 rfl (.pointer (some ⟨p, 0, none⟩)) (hS.pick [0]) ?_
    refine K.b 14 rfl (.pointer (some ⟨p, 0, none⟩)) (hS.pick [0]) ?_
    refine K.b 15 rfl (.pointer (some ⟨p, 3, none⟩)) (hS.pick [0]) ?_
    refine K.c 16 rfl (K.QR.ld1 (v := .int .u64 gt) rfl rfl (by kernel_rfl) ((hS.blk 0 rfl hgp).cell rfl)) (hS.pick [0]) ?_
    refine K.DW.l 17 rfl (by kernel_rfl) rfl (K.OW.gcall hS [] [0, 1, 2] [.int .u64 gt] (rclean_ok _ gt (by first | assumption | exact isL.w (by assumption) | exact soilI_w _ | (unfold isW; omega))) ?_)
    clear hS; rintro _ _ w ⟨rfl, rfl⟩ hS
    replace hS : K.Sat w0 [gp, l, fr] w := hS
    have hw_26 : isL (cleanI gt) := cleanI_l _
    refine ⟨.inl (hS.pick [0]), ?_⟩
    refine K.DW.l 18 rfl (by kernel_rfl) rfl (K.OW.gcall hS [1] [0, 2] [.pointer (some ⟨pm, 0, none⟩), .int .i64 3, .int .i64 S.t, .int .i64 S.at_, .int .u64 gt, .int .u64 (cleanI gt)] (rmDo3_ok _ _ _ _ _ _ _ x S.t S.at_ gt (cleanI gt) (by omega) (by omega)) ?_)
    clear hS; rintro _ _ w ⟨l_27, rfl, rfl, x_28⟩ hS
    replace hS : K.Sat w0 [l_27, gp, fr] w := hS
    refine ⟨.inl (hS.pick [1]), ?_⟩
    refine K.DW.done (by kernel_rfl) ?_
    refine K.t (K.g (K.q [.pointer (some ⟨p, 0, none⟩), .pointer (some ⟨p, 0, none⟩), .pointer (some ⟨p, 2, none⟩)] ?_))
    refine K.l (K.OW.gst 1 [.int .i64 1] _ hS hgp ?_)
    clear hS; intro w g_29 hg_30 hS
    replace hS : K.Sat w0 [l_27, g_29, fr] w := hS
    refine K.z ?_
    have hm1 : ((M.accW n S.t S.at_ gt (cleanI gt)).1) = (M.accW n S.t S.at_ (soilI S.word) S.word).1 := by rw [hgt.2 (by omega) (by omega), clean_soil hSw]
    have e : rdStep n t S M = (⟨S.t, S.at_, 0, S.word, S.when_⟩, (M.accW n S.t S.at_ (soilI S.word) S.word).1) := by unfold rdStep lastM; rw [if_neg (by omega), if_neg (by omega), if_pos (by omega), if_neg (by omega), if_neg (by omega)]
    refine ⟨.inl rfl, rfl, (.tuple #[]), K.res0 rfl, [g_29, l_27], ?_, hS.pick [1, 0, 2]⟩
    exact ⟨_, _, gt, rfl, rfl, by rw [e]; exact hg_30, by rw [e]; exact ⟨hgt.1, fun h => absurd h (by decide : ¬ (1 : Int) ≤ 0)⟩, by rw [e, ← hm1]; exact x_28⟩
set_option maxHeartbeats 1000000 in
set_option maxRecDepth 100000 in
theorem r13se_4 (w0 : World) (p pm q n t : Nat) (S : SeS) (M : MemM) (gp l : K.Cs) (hp : S.pc = 4) (hgp : gp = [K.pt p 147 [.int .i64 S.t, .int .i64 S.at_, .int .i64 0, .int .u64 S.old, .int .u64 S.word, .bool S.put, .int .i64 S.when_, .int .i64 S.writes]]) (x : RMemAt l pm q n t M) (hM : M.good) (hS : S.good) :
  K.GC Tryz.prog w0 78 #[.pointer (some ⟨p, 0, none⟩), .pointer (some ⟨pm, 0, none⟩)] [gp, l] (fun v post => ∃ gp' l', v = .tuple #[] ∧ post = [gp', l'] ∧ gp' = rsePt p (seStep n t S M).1 ∧ RMemAt l' pm q n t (seStep n t S M).2) := by
 have hS0 := hS
 obtain ⟨hSt, hSa, hSp, hSw, hSo, hSi⟩ := hS
 have hSw2 := hSw
 unfold isL at hSw2
 have hSo2 := hSo
 unfold isL at hSo2
 refine K.GC.mk (n := 126) Tryz.func78 rfl rfl [.pointer (some ⟨p, 0, none⟩), .pointer (some ⟨pm, 0, none⟩)] rfl rfl ?_
 intro fr w hS
 replace hS : K.Sat w0 [gp, l, fr] w := hS
 refine K.s (K.s (K.g (K.q [.pointer (some ⟨p, 0, none⟩), .pointer (some ⟨p, 0, none⟩), .pointer (some ⟨p, 2, none⟩)] ?_)))
 refine K.d (.int .i64 0) ((hS.blk 0 rfl hgp).cell rfl) ?_
 refine K.q [.bool false] (K.z (K.t (K.f (K.k (K.t (K.s (K.s (K.g (K.q [.pointer (some ⟨p, 0, none⟩), .pointer (some ⟨p, 0, none⟩), .pointer (some ⟨p, 2, none⟩)] ?_)))))))))
 refine K.d (.int .i64 0) ((hS.blk 0 rfl hgp).cell rfl) ?_
 refine K.q [.bool false] (K.z (K.t (K.f (K.k (K.t (K.s (K.s (K.g (K.q [.pointer (some ⟨p, 0, none⟩), .pointer (some ⟨p, 0, none⟩), .pointer (some ⟨p, 2, none⟩)] ?_)))))))))
 refine K.d (.int .i64 0) ((hS.blk 0 rfl hgp).cell rfl) ?_
 refine K.q [.bool false] (K.z (K.t (K.f (K.k (K.t (K.s (K.g (K.q [.pointer (some ⟨p, 0, none⟩), .pointer (some ⟨p, 0, none⟩), .pointer (some ⟨p, 2, none⟩)] ?_))))))))
 refine K.d (.int .i64 0) ((hS.blk 0 rfl hgp).cell rfl) ?_
 refine K.q [.bool false] (K.z (K.t (K.f (K.k ?_))))
 have e : seStep n t S M = (S, M) := if_pos hp
 refine ⟨.inl rfl, rfl, (.tuple #[]), K.res0 rfl, [gp, l], ?_, hS.pick [0, 1, 2]⟩
 exact ⟨_, _, rfl, rfl, by rw [e]; show gp = rsePt p S; unfold rsePt lineL; rw [if_pos hp]; exact hgp, by rw [e]; exact x⟩
set_option maxHeartbeats 1000000 in
set_option maxRecDepth 100000 in
theorem r13se_n (w0 : World) (p pm q n t : Nat) (S : SeS) (M : MemM) (gp l : K.Cs) (hp : 0 ≤ S.pc ∧ S.pc ≤ 3) (hgp : gp = [K.pt p 147 [.int .i64 S.t, .int .i64 S.at_, .int .i64 (S.pc + 1), .int .u64 S.old, .int .u64 S.word, .bool S.put, .int .i64 S.when_, .int .i64 S.writes]]) (x : RMemAt l pm q n t M) (hM : M.good) (hS : S.good) :
  K.GC Tryz.prog w0 78 #[.pointer (some ⟨p, 0, none⟩), .pointer (some ⟨pm, 0, none⟩)] [gp, l] (fun v post => ∃ gp' l', v = .tuple #[] ∧ post = [gp', l'] ∧ gp' = rsePt p (seStep n t S M).1 ∧ RMemAt l' pm q n t (seStep n t S M).2) := by
 have hS0 := hS
 obtain ⟨hSt, hSa, hSp, hSw, hSo, hSi⟩ := hS
 have hSw2 := hSw
 unfold isL at hSw2
 have hSo2 := hSo
 unfold isL at hSo2
 refine K.GC.mk (n := 126) Tryz.func78 rfl rfl [.pointer (some ⟨p, 0, none⟩), .pointer (some ⟨pm, 0, none⟩)] rfl rfl ?_
 intro fr w hS
 replace hS : K.Sat w0 [gp, l, fr] w := hS
 refine K.s (K.s (K.g (K.q [.pointer (some ⟨p, 0, none⟩), .pointer (some ⟨p, 0, none⟩), .pointer (some ⟨p, 2, none⟩)] ?_)))
 refine K.d (.int .i64 (S.pc + 1)) ((hS.blk 0 rfl hgp).cell rfl) ?_
 by_cases h_1 : ((S.pc + 1) : Int) = (1 : Int)
 ·
  refine K.ye ((S.pc + 1) : Int) (1 : Int) h_1 ?_
  refine K.z (K.t (K.h (K.s (K.g (K.q [.pointer (some ⟨p, 0, none⟩), .pointer (some ⟨p, 0, none⟩), .pointer (some ⟨p, 2, none⟩)] ?_)))))
  refine K.l (K.OW.gst 0 [.int .i64 0] _ hS hgp ?_)
  clear hS; intro w g_2 hg_3 hS
  replace hS : K.Sat w0 [g_2, l, fr] w := hS
  refine K.z (K.t (K.s (K.s ?_)))
  refine K.KW.gdrawn [0] hS (by kernel_rfl) ?_
  clear hS; intro w hS
  refine K.p 0 rfl (.pointer (some ⟨pm, 0, none⟩)) (hS.pick [0]) ?_
  refine K.p 1 rfl (.pointer (some ⟨p, 0, none⟩)) (hS.pick [0]) ?_
  refine K.p 2 rfl (.pointer (some ⟨p, 0, none⟩)) (hS.pick [0]) ?_
  refine K.p 3 rfl (.pointer (some ⟨p, 0, none⟩)) (hS.pick [0]) ?_
  refine K.o_ 4 rfl (.int .i64 S.t) (fun w hS => ((hS.blk 0 rfl hg_3).cell rfl)) (hS.pick [0]) ?_
  refine K.p 5 rfl (.pointer (some ⟨p, 0, none⟩)) (hS.pick [0]) ?_
  refine K.p 6 rfl (.pointer (some ⟨p, 0, none⟩)) (hS.pick [0]) ?_
  refine K.p 7 rfl (.pointer (some ⟨p, 1, none⟩)) (hS.pick [0]) ?_
  refine K.o_ 8 rfl (.int .i64 S.at_) (fun w hS => ((hS.blk 0 rfl hg_3).cell rfl)) (hS.pick [0]) ?_
  refine K.p 9 rfl (.pointer (some ⟨p, 0, none⟩)) (hS.pick [0]) ?_
  refine K.p 10 rfl (.pointer (some ⟨p, 0, none⟩)) (hS.pick [0]) ?_
  refine K.p 11 rfl (.pointer (some ⟨p, 3, none⟩)) (hS.pick [0]) ?_
  refine K.o_ 12 rfl (.int .u64 S.old) (fun w hS => ((hS.blk 0 rfl hg_3).cell rfl)) (hS.pick [0]) ?_
  refine K.b 13 rfl (.pointer (some ⟨p, 0, none⟩)) (hS.pick [0]) ?_
  refine K.b 14 rfl (.pointer (some ⟨p, 0, none⟩)) (hS.pick [0]) ?_
  refine K.b 15 rfl (.pointer (some ⟨p, 4, none⟩)) (hS.pick [0]) ?_
  refine K.c 16 rfl (K.QR.ld1 (v := .int .u64 S.word) rfl rfl (by kernel_rfl) ((hS.blk 0 rfl hg_3).cell rfl)) (hS.pick [0]) ?_
  refine K.DW.l 17 rfl (by kernel_rfl) rfl (K.OW.gcall hS [] [0, 1, 2] [.int .u64 S.word] (rsoil_ok _ S.word (by first | assumption | exact isL.w (by assumption) | exact soilI_w _ | (unfold isW; omega))) ?_)
  clear hS; rintro _ _ w ⟨rfl, rfl⟩ hS
  replace hS : K.Sat w0 [g_2, l, fr] w := hS
  have hw_4 : isW (soilI S.word) := soilI_w _
  refine ⟨.inl (hS.pick [0]), ?_⟩
  refine K.DW.l 18 rfl (by kernel_rfl) rfl (K.OW.gcall hS [1] [0, 2] [.pointer (some ⟨pm, 0, none⟩), .int .i64 3, .int .i64 S.t, .int .i64 S.at_, .int .u64 S.old, .int .u64 (soilI S.word)] (rmDo3_ok _ _ _ _ _ _ _ x S.t S.at_ S.old (soilI S.word) (by omega) (by omega)) ?_)
  clear hS; rintro _ _ w ⟨l_5, rfl, rfl, x_6⟩ hS
  replace hS : K.Sat w0 [l_5, g_2, fr] w := hS
  refine ⟨.inl (hS.pick [1]), ?_⟩
  refine K.b 19 rfl (.bool ((M.accW n S.t S.at_ S.old (soilI S.word)).2.done)) (hS.pick [1]) ?_
  cases hb_7 : (M.accW n S.t S.at_ S.old (soilI S.word)).2.done
  ·
   refine K.DW.done (by kernel_rfl) ?_
   refine K.t (K.f (K.k (K.t (K.r (K.u ?_)))))
   have e : seStep n t S M = (⟨S.t, S.at_, 4, S.word, S.when_, S.old, S.put, S.writes⟩, (M.accW n S.t S.at_ S.old (soilI S.word)).1) := by unfold seStep seA; rw [if_neg (by omega), if_pos (by omega), if_neg (by rw [hb_7]; decide)]
   refine ⟨.inr rfl, rfl, (.tuple #[]), K.res0 rfl, [g_2, l_5], ?_, hS.pick [1, 0, 2]⟩
   exact ⟨_, _, rfl, rfl, by rw [e]; exact hg_3, by rw [e]; exact x_6⟩
  ·
   refine K.DW.done (by kernel_rfl) ?_
   refine K.t (K.h (K.s (K.g (K.q [.pointer (some ⟨p, 0, none⟩), .pointer (some ⟨p, 0, none⟩), .pointer (some ⟨p, 5, none⟩)] ?_))))
   refine K.l (K.OW.gst 1 [.bool true] _ hS hg_3 ?_)
   clear hS; intro w g_8 hg_9 hS
   replace hS : K.Sat w0 [l_5, g_8, fr] w := hS
   refine K.z (K.t (K.s ?_))
   obtain ⟨rg, rp, rd, ra, rnp, rcp, rfl, hrg, hrp, hrd, hrnp, hrn18⟩ := x_6
   replace hS : K.Sat w0 [rg, rp, rd, g_8, fr] w := hS.of
   refine K.g (K.q [.pointer (some ⟨p, 0, none⟩), .pointer (some ⟨pm, 0, none⟩), .pointer (some ⟨pm, 0, none⟩), .pointer (some ⟨pm, 2, none⟩)] ?_)
   refine K.d (.int .i64 (((M.accW n S.t S.at_ S.old (soilI S.word)).1).clock)) ((hS.blk 0 rfl hrg).cell rfl) ?_
   refine K.q [.pointer (some ⟨p, 0, none⟩), .pointer (some ⟨p, 6, none⟩)] ?_
   refine K.l (K.OW.gst 3 [.int .i64 (((M.accW n S.t S.at_ S.old (soilI S.word)).1).clock)] _ hS hg_9 ?_)
   clear hS; intro w g_10 hg_11 hS
   replace hS : K.Sat w0 [rg, rp, rd, g_10, fr] w := hS
   refine K.z (K.t (K.s (K.s (K.g (K.q [.pointer (some ⟨p, 0, none⟩), .pointer (some ⟨p, 0, none⟩), .pointer (some ⟨p, 1, none⟩)] ?_)))))
   refine K.d (.int .i64 S.at_) ((hS.blk 3 rfl hg_11).cell rfl) ?_
   by_cases h_12 : (S.at_ : Int) ≥ (0 : Int)
   ·
    refine K.y ((S.at_ : Int) ≥ (0 : Int)) h_12 ?_
    refine K.z (K.t (K.h ?_))
    have hin0 := accW_in hb_7
    obtain ⟨g, gk, gs, gw, gf, gz, vs, ka, sa, wa, fa, ck, cs, cw, cf, rfl, hg, ok, os, ow, of, lv, oz, dk⟩ := hrd
    have dk2 := dk; obtain ⟨lk, ls, lw, lf, lB, n0, n1, t0, t1⟩ := dk2
    replace hS : K.Sat w0 [rg, rp, g, gk, gs, gw, gf, gz, g_10, fr] w := hS.of
    refine K.KW.gdrawn [0, 2] hS (by kernel_rfl) ?_
    clear hS; intro w hS
    refine K.p 0 rfl (.pointer (some ⟨p, 0, none⟩)) (hS.pick [0, 2]) ?_
    refine K.p 1 rfl (.pointer (some ⟨pm, 0, none⟩)) (hS.pick [0, 2]) ?_
    refine K.p 2 rfl (.pointer (some ⟨pm, 0, none⟩)) (hS.pick [0, 2]) ?_
    refine K.p 3 rfl (.pointer (some ⟨pm, 0, none⟩)) (hS.pick [0, 2]) ?_
    refine K.o_ 4 rfl (.pointer (some ⟨q, 0, none⟩)) (fun w hS => ((hS.blk 0 rfl hrg).cell rfl)) (hS.pick [0, 2]) ?_
    refine K.p 5 rfl (.pointer (some ⟨q, 0, none⟩)) (hS.pick [0, 2]) ?_
    refine K.p 6 rfl (.pointer (some ⟨q, 2, none⟩)) (hS.pick [0, 2]) ?_
    refine K.o_ 7 rfl (.slice wa n cw) (fun w hS => ((hS.blk 1 rfl hg).cell rfl)) (hS.pick [0, 2]) ?_
    refine K.b 8 rfl (.pointer (some ⟨p, 0, none⟩)) (hS.pick [0, 2]) ?_
    refine K.b 9 rfl (.pointer (some ⟨p, 0, none⟩)) (hS.pick [0, 2]) ?_
    refine K.b 10 rfl (.pointer (some ⟨p, 1, none⟩)) (hS.pick [0, 2]) ?_
    refine K.c 11 rfl (K.QR.ld1 (v := .int .i64 S.at_) rfl rfl (by kernel_rfl) ((hS.blk 8 rfl hg_11).cell rfl)) (hS.pick [0, 2]) ?_
    refine K.c 12 rfl (K.QR.quoi64 (S.at_ : Int) 8 ((S.at_ : Int) / 8) (by kernel_rfl) (by omega) (by omega)) (hS.pick [0, 2]) ?_
    obtain ⟨b_13, rfl⟩ := ow.some_ (by have := ow.le; omega)
    refine K.c 13 rfl (K.QR.ix (((S.at_ : Int) / 8).toNat) 1 rfl rfl rfl Tryz.underlying44 (by kernel_rfl) (by omega) (by first | (simp; done) | omega | (simp; omega))) (hS.pick [0, 2]) ?_
    refine K.c 14 rfl (K.QR.ld1 (v := .int .i64 (((((M.accW n S.t S.at_ S.old (soilI S.word)).1).dev).writes).getD (((S.at_ : Int) / 8).toNat) 0)) rfl rfl (by kernel_rfl) (K.Own.atS (c := cI64) (d := 0) (fun _ => rfl) (hS.ownr 5 rfl ow) lw (((S.at_ : Int) / 8).toNat) (by omega))) (hS.pick [0, 2]) ?_
    refine K.b 15 rfl (.pointer (some ⟨p, 0, none⟩)) (hS.pick [0, 2]) ?_
    refine K.b 16 rfl (.pointer (some ⟨p, 7, none⟩)) (hS.pick [0, 2]) ?_
    refine K.DW.l 17 rfl (by kernel_rfl) rfl (K.OW.gst 8 [.int .i64 (((((M.accW n S.t S.at_ S.old (soilI S.word)).1).dev).writes).getD (((S.at_ : Int) / 8).toNat) 0)] _ hS hg_11 ?_)
    clear hS; intro w g_15 hg_16 hS
    replace hS : K.Sat w0 [rg, rp, g, gk, gs, gw, gf, gz, g_15, fr] w := hS
    refine ⟨.inr (by kernel_rfl), ?_⟩
    refine K.DW.done (by kernel_rfl) ?_
    refine K.t (K.g (K.q [.pointer (some ⟨p, 0, none⟩), .pointer (some ⟨p, 0, none⟩), .pointer (some ⟨p, 2, none⟩)] ?_))
    refine K.l (K.OW.gst 8 [.int .i64 2] _ hS hg_16 ?_)
    clear hS; intro w g_17 hg_18 hS
    replace hS : K.Sat w0 [rg, rp, g, gk, gs, gw, gf, gz, g_17, fr] w := hS
    refine K.z (K.t (K.r (K.u ?_)))
    replace hS : K.Sat w0 [[g, gk, gs, gw, gf, gz].flatten, rg, rp, g_17, fr] w := (hS.pick [2, 3, 4, 5, 6, 7, 0, 1, 8, 9]).of
    have xd_19 : RDevAt ([g, gk, gs, gw, gf, gz].flatten) q n t (((M.accW n S.t S.at_ S.old (soilI S.word)).1).dev) := ⟨_, _, _, _, _, _, _, _, _, _, _, _, _, _, _, rfl, hg, ok, os, ow, of, lv, oz, dk⟩
    generalize [g, gk, gs, gw, gf, gz].flatten = ld_20 at hS xd_19
    replace hS : K.Sat w0 [[rg, rp, ld_20].flatten, g_17, fr] w := (hS.pick [1, 2, 0, 3, 4]).of
    have hin := accW_in hb_7
    have hwr : wrM (M.accW n S.t S.at_ S.old (soilI S.word)).1 S.at_ = (((((M.accW n S.t S.at_ S.old (soilI S.word)).1).dev).writes).getD (((S.at_ : Int) / 8).toNat) 0) := if_pos (by omega)
    have e : seStep n t S M = (⟨S.t, S.at_, 1, S.word, (M.accW n S.t S.at_ S.old (soilI S.word)).1.clock, S.old, true, (((((M.accW n S.t S.at_ S.old (soilI S.word)).1).dev).writes).getD (((S.at_ : Int) / 8).toNat) 0)⟩, (M.accW n S.t S.at_ S.old (soilI S.word)).1) := by unfold seStep seA; rw [if_neg (by omega), if_pos (by omega), if_pos hb_7, hwr]
    refine ⟨.inr rfl, rfl, (.tuple #[]), K.res0 rfl, [g_17, [rg, rp, ld_20].flatten], ?_, hS.pick [1, 0, 2]⟩
    exact ⟨_, _, rfl, rfl, by rw [e]; exact hg_18, by rw [e]; exact ⟨_, _, _, _, _, _, rfl, hrg, hrp, xd_19, hrnp, hrn18⟩⟩
   ·
    refine K.x ((S.at_ : Int) ≥ (0 : Int)) h_12 ?_
    refine K.z (K.t (K.f (K.k (K.t (K.g (K.q [.pointer (some ⟨p, 0, none⟩), .pointer (some ⟨p, 0, none⟩), .pointer (some ⟨p, 2, none⟩)] ?_))))))
    refine K.l (K.OW.gst 3 [.int .i64 2] _ hS hg_11 ?_)
    clear hS; intro w g_21 hg_22 hS
    replace hS : K.Sat w0 [rg, rp, rd, g_21, fr] w := hS
    refine K.z (K.t (K.r (K.u ?_)))
    replace hS : K.Sat w0 [[rg, rp, rd].flatten, g_21, fr] w := (hS.pick [0, 1, 2, 3, 4]).of
    have hin := accW_in hb_7
    have hwr : wrM (M.accW n S.t S.at_ S.old (soilI S.word)).1 S.at_ = S.writes := (if_neg (by omega)).trans (hSi (by omega)).2.2.symm
    have e : seStep n t S M = (⟨S.t, S.at_, 1, S.word, (M.accW n S.t S.at_ S.old (soilI S.word)).1.clock, S.old, true, S.writes⟩, (M.accW n S.t S.at_ S.old (soilI S.word)).1) := by unfold seStep seA; rw [if_neg (by omega), if_pos (by omega), if_pos hb_7, hwr]
    refine ⟨.inr rfl, rfl, (.tuple #[]), K.res0 rfl, [g_21, [rg, rp, rd].flatten], ?_, hS.pick [1, 0, 2]⟩
    exact ⟨_, _, rfl, rfl, by rw [e]; exact hg_22, by rw [e]; exact ⟨_, _, _, _, _, _, rfl, hrg, hrp, hrd, hrnp, hrn18⟩⟩
 ·
  refine K.xe ((S.pc + 1) : Int) (1 : Int) h_1 ?_
  refine K.z (K.t (K.f (K.k (K.t (K.s (K.s (K.g (K.q [.pointer (some ⟨p, 0, none⟩), .pointer (some ⟨p, 0, none⟩), .pointer (some ⟨p, 2, none⟩)] ?_))))))))
  refine K.d (.int .i64 (S.pc + 1)) ((hS.blk 0 rfl hgp).cell rfl) ?_
  by_cases h_23 : ((S.pc + 1) : Int) = (2 : Int)
  ·
   refine K.ye ((S.pc + 1) : Int) (2 : Int) h_23 ?_
   refine K.z (K.t (K.h (K.s ?_)))
   refine K.KW.gdrawn [0] hS (by kernel_rfl) ?_
   clear hS; intro w hS
   refine K.p 0 rfl (.pointer (some ⟨pm, 0, none⟩)) (hS.pick [0]) ?_
   refine K.p 1 rfl (.pointer (some ⟨p, 0, none⟩)) (hS.pick [0]) ?_
   refine K.p 2 rfl (.pointer (some ⟨p, 0, none⟩)) (hS.pick [0]) ?_
   refine K.p 3 rfl (.pointer (some ⟨p, 0, none⟩)) (hS.pick [0]) ?_
   refine K.o_ 4 rfl (.int .i64 S.t) (fun w hS => ((hS.blk 0 rfl hgp).cell rfl)) (hS.pick [0]) ?_
   refine K.b 5 rfl (.pointer (some ⟨p, 0, none⟩)) (hS.pick [0]) ?_
   refine K.b 6 rfl (.pointer (some ⟨p, 0, none⟩)) (hS.pick [0]) ?_
   refine K.b 7 rfl (.pointer (some ⟨p, 1, none⟩)) (hS.pick [0]) ?_
   refine K.c 8 rfl (K.QR.ld1 (v := .int .i64 S.at_) rfl rfl (by kernel_rfl) ((hS.blk 0 rfl hgp).cell rfl)) (hS.pick [0]) ?_
   refine K.DW.l 9 rfl (by kernel_rfl) rfl (K.OW.gcall hS [1] [0, 2] [.pointer (some ⟨pm, 0, none⟩), .int .i64 4, .int .i64 S.t, .int .i64 S.at_, .int .u64 0, .int .u64 0] (rmDo4_ok _ _ _ _ _ _ _ x S.t S.at_ 0 0 (by omega) (by omega)) ?_)
   clear hS; rintro _ _ w ⟨l_24, rfl, rfl, x_25⟩ hS
   replace hS : K.Sat w0 [l_24, gp, fr] w := hS
   refine ⟨.inl (hS.pick [1]), ?_⟩
   refine K.DW.done (by kernel_rfl) ?_
   refine K.t (K.s (K.g (K.q [.pointer (some ⟨p, 0, none⟩), .pointer (some ⟨p, 0, none⟩), .pointer (some ⟨p, 2, none⟩)] ?_)))
   refine K.l (K.OW.gst 1 [.int .i64 3] _ hS hgp ?_)
   clear hS; intro w g_26 hg_27 hS
   replace hS : K.Sat w0 [l_24, g_26, fr] w := hS
   refine K.z (K.t (K.r (K.u ?_)))
   have e : seStep n t S M = (⟨S.t, S.at_, 2, S.word, S.when_, S.old, S.put, S.writes⟩, ((M.accF n t S.t S.at_).1)) := by unfold seStep lastM; rw [if_neg (by omega), if_neg (by omega), if_pos (by omega), show S.pc + 1 = 2 by omega]
   refine ⟨.inr rfl, rfl, (.tuple #[]), K.res0 rfl, [g_26, l_24], ?_, hS.pick [1, 0, 2]⟩
   exact ⟨_, _, rfl, rfl, by rw [e]; exact hg_27, by rw [e]; exact x_25⟩
  ·
   refine K.xe ((S.pc + 1) : Int) (2 : Int) h_23 ?_
   refine K.z (K.t (K.f (K.k (K.t (K.s (K.s (K.g (K.q [.pointer (some ⟨p, 0, none⟩), .pointer (some ⟨p, 0, none⟩), .pointer (some ⟨p, 2, none⟩)] ?_))))))))
   refine K.d (.int .i64 (S.pc + 1)) ((hS.blk 0 rfl hgp).cell rfl) ?_
   by_cases h_28 : ((S.pc + 1) : Int) = (3 : Int)
   ·
    refine K.ye ((S.pc + 1) : Int) (3 : Int) h_28 ?_
    refine K.z (K.t (K.h (K.s (K.g (K.q [.pointer (some ⟨pm, 0, none⟩), .pointer (some ⟨p, 0, none⟩), .pointer (some ⟨p, 0, none⟩), .pointer (some ⟨p, 0, none⟩)] ?_)))))
    refine K.d (.int .i64 S.t) ((hS.blk 0 rfl hgp).cell rfl) ?_
    refine K.l (K.OW.gcall hS [1] [0, 2] [.pointer (some ⟨pm, 0, none⟩), .int .i64 5, .int .i64 S.t, .int .i64 0, .int .u64 0, .int .u64 0] (rmDo5_ok _ _ _ _ _ _ _ x S.t 0 0 0 (by omega) (by omega)) ?_)
    clear hS; rintro _ _ w ⟨l_29, rfl, rfl, x_30⟩ hS
    replace hS : K.Sat w0 [l_29, gp, fr] w := hS
    refine K.z (K.t (K.s (K.g (K.q [.pointer (some ⟨p, 0, none⟩), .pointer (some ⟨p, 0, none⟩), .pointer (some ⟨p, 2, none⟩)] ?_))))
    refine K.l (K.OW.gst 1 [.int .i64 4] _ hS hgp ?_)
    clear hS; intro w g_31 hg_32 hS
    replace hS : K.Sat w0 [l_29, g_31, fr] w := hS
    refine K.z (K.t (K.r (K.u ?_)))
    have e : seStep n t S M = (⟨S.t, S.at_, 3, S.word, S.when_, S.old, S.put, S.writes⟩, ((M.accE t S.t).1)) := by unfold seStep lastM; rw [if_neg (by omega), if_neg (by omega), if_neg (by omega), if_pos (by omega), show S.pc + 1 = 3 by omega]
    refine ⟨.inr rfl, rfl, (.tuple #[]), K.res0 rfl, [g_31, l_29], ?_, hS.pick [1, 0, 2]⟩
    exact ⟨_, _, rfl, rfl, by rw [e]; exact hg_32, by rw [e]; exact x_30⟩
   ·
    refine K.xe ((S.pc + 1) : Int) (3 : Int) h_28 ?_
    refine K.z (K.t (K.f (K.k (K.t (K.s (K.g (K.q [.pointer (some ⟨p, 0, none⟩), .pointer (some ⟨p, 0, none⟩), .pointer (some ⟨p, 2, none⟩)] ?_)))))))
    refine K.d (.int .i64 (S.pc + 1)) ((hS.blk 0 rfl hgp).cell rfl) ?_
    refine K.ye ((S.pc + 1) : Int) (4 : Int) (by omega) ?_
    refine K.z (K.t (K.h (K.s ?_)))
    refine K.KW.gdrawn [0] hS (by kernel_rfl) ?_
    clear hS; intro w hS
    refine K.p 0 rfl (.pointer (some ⟨pm, 0, none⟩)) (hS.pick [0]) ?_
    refine K.p 1 rfl (.pointer (some ⟨p, 0, none⟩)) (hS.pick [0]) ?_
    refine K.p 2 rfl (.pointer (some ⟨p, 0, none⟩)) (hS.pick [0]) ?_
    refine K.p 3 rfl (.pointer (some ⟨p, 0, none⟩)) (hS.pick [0]) ?_
    refine K.o_ 4 rfl (.int .i64 S.t) (fun w hS => ((hS.blk 0 rfl hgp).cell rfl)) (hS.pick [0]) ?_
    refine K.p 5 rfl (.pointer (some ⟨p, 0, none⟩)) (hS.pick [0]) ?_
    refine K.p 6 rfl (.pointer (some ⟨p, 0, none⟩)) (hS.pick [0]) ?_
    refine K.p 7 rfl (.pointer (some ⟨p, 1, none⟩)) (hS.pick [0]) ?_
    refine K.o_ 8 rfl (.int .i64 S.at_) (fun w hS => ((hS.blk 0 rfl hgp).cell rfl)) (hS.pick [0]) ?_
    refine K.p 9 rfl (.pointer (some ⟨p, 0, none⟩)) (hS.pick [0]) ?_
    refine K.p 10 rfl (.pointer (some ⟨p, 0, none⟩)) (hS.pick [0]) ?_
    refine K.p 11 rfl (.pointer (some ⟨p, 4, none⟩)) (hS.pick [0]) ?_
    refine K.o_ 12 rfl (.int .u64 S.word) (fun w hS => ((hS.blk 0 rfl hgp).cell rfl)) (hS.pick [0]) ?_
    refine K.p 14 rfl (.pointer (some ⟨p, 0, none⟩)) (hS.pick [0]) ?_
    refine K.p 15 rfl (.pointer (some ⟨p, 0, none⟩)) (hS.pick [0]) ?_
    refine K.p 16 rfl (.pointer (some ⟨p, 4, none⟩)) (hS.pick [0]) ?_
    refine K.o_ 17 rfl (.int .u64 S.word) (fun w hS => ((hS.blk 0 rfl hgp).cell rfl)) (hS.pick [0]) ?_
    refine K.DW.l 13 rfl (by kernel_rfl) rfl (K.OW.gcall hS [] [0, 1, 2] [.int .u64 S.word] (rsoil_ok _ S.word (by first | assumption | exact isL.w (by assumption) | exact soilI_w _ | (unfold isW; omega))) ?_)
    clear hS; rintro _ _ w ⟨rfl, rfl⟩ hS
    replace hS : K.Sat w0 [gp, l, fr] w := hS
    have hw_33 : isW (soilI S.word) := soilI_w _
    refine ⟨.inl (hS.pick [0]), ?_⟩
    refine K.DW.l 18 rfl (by kernel_rfl) rfl (K.OW.gcall hS [1] [0, 2] [.pointer (some ⟨pm, 0, none⟩), .int .i64 3, .int .i64 S.t, .int .i64 S.at_, .int .u64 (soilI S.word), .int .u64 S.word] (rmDo3_ok _ _ _ _ _ _ _ x S.t S.at_ (soilI S.word) S.word (by omega) (by omega)) ?_)
    clear hS; rintro _ _ w ⟨l_34, rfl, rfl, x_35⟩ hS
    replace hS : K.Sat w0 [l_34, gp, fr] w := hS
    refine ⟨.inl (hS.pick [1]), ?_⟩
    refine K.DW.done (by kernel_rfl) ?_
    refine K.t (K.g (K.q [.pointer (some ⟨p, 0, none⟩), .pointer (some ⟨p, 0, none⟩), .pointer (some ⟨p, 2, none⟩)] ?_))
    refine K.l (K.OW.gst 1 [.int .i64 0] _ hS hgp ?_)
    clear hS; intro w g_36 hg_37 hS
    replace hS : K.Sat w0 [l_34, g_36, fr] w := hS
    refine K.z ?_
    have e : seStep n t S M = (⟨S.t, S.at_, 4, S.word, S.when_, S.old, S.put, S.writes⟩, ((M.accW n S.t S.at_ (soilI S.word) S.word).1)) := by unfold seStep lastM; rw [if_neg (by omega), if_neg (by omega), if_neg (by omega), if_neg (by omega), show S.pc + 1 = 4 by omega]
    refine ⟨.inl rfl, rfl, (.tuple #[]), K.res0 rfl, [g_36, l_34], ?_, hS.pick [1, 0, 2]⟩
    exact ⟨_, _, rfl, rfl, by rw [e]; exact hg_37, by rw [e]; exact x_35⟩
theorem rrdStep_ok (w0 : World) (p pm q n t : Nat) (S : RdS) (M : MemM) (gt : Int) (gp l : K.Cs) (hgp : gp = rrdPt p S gt) (x : RMemAt l pm q n t M) (hM : M.good) (hS : S.good) (hgt : gtOk S gt) :
  K.GC Tryz.prog w0 74 #[.pointer (some ⟨p, 0, none⟩), .pointer (some ⟨pm, 0, none⟩)] [gp, l] (fun v post => ∃ gp' l' gt', v = .tuple #[] ∧ post = [gp', l'] ∧ gp' = rrdPt p (rdStep n t S M).1 gt' ∧ gtOk (rdStep n t S M).1 gt' ∧ RMemAt l' pm q n t (rdStep n t S M).2) := by
 by_cases hp : S.pc = 4
 ·exact r13rd_4 w0 p pm q n t S M gt gp l hp (by rw [hgp]; unfold rrdPt lineL rdWord rdWhen; rw [if_pos hp, if_pos hp, if_pos hp]) x hM hS hgt
 ·exact r13rd_n w0 p pm q n t S M gt gp l (by have := hS.2.2.1; omega) (by rw [hgp]; unfold rrdPt lineL rdWord rdWhen; rw [if_neg hp, if_neg hp, if_neg hp]) x hM hS hgt
theorem rseStep_ok (w0 : World) (p pm q n t : Nat) (S : SeS) (M : MemM) (gp l : K.Cs) (hgp : gp = rsePt p S) (x : RMemAt l pm q n t M) (hM : M.good) (hS : S.good) :
  K.GC Tryz.prog w0 78 #[.pointer (some ⟨p, 0, none⟩), .pointer (some ⟨pm, 0, none⟩)] [gp, l] (fun v post => ∃ gp' l', v = .tuple #[] ∧ post = [gp', l'] ∧ gp' = rsePt p (seStep n t S M).1 ∧ RMemAt l' pm q n t (seStep n t S M).2) := by
 by_cases hp : S.pc = 4
 ·exact r13se_4 w0 p pm q n t S M gp l hp (by rw [hgp]; unfold rsePt lineL; rw [if_pos hp]) x hM hS
 ·exact r13se_n w0 p pm q n t S M gp l (by have := hS.2.2.1; omega) (by rw [hgp]; unfold rsePt lineL; rw [if_neg hp]) x hM hS
theorem line_t {pc : Int} (h : decide (pc = 4) = true) : lineL pc = 0 := if_pos (of_decide_eq_true h)
theorem line_f {pc : Int} (h : decide (pc = 4) = false) (hp : 0 ≤ pc ∧ pc ≤ 4) : ¬ lineL pc = 0 := by unfold lineL; rw [if_neg (of_decide_eq_false h)]; omega
end Go.Proofs.YtbfafebfkdbglaaGreat
