import Derived.Test.YtbfafebfkdbglaaGreatFr12
import Derived.Test.YtbfafebfkdbglaaGreatFlist
/- Layer 12: the document's Take. -/
namespace Go.Proofs.YtbfafebfkdbglaaGreat
open Go.RowKit
set_option linter.unusedVariables false
attribute [local irreducible] K.KW K.RW K.DW K.OW K.QR K.KC
def lineAd (done : Bool) (pc next : Int) : Int := if done = true then 0 else if pc = 0 then 1 else 2 + next
def rtkL (r : Nat) (c : Cfg) (S : TkS) (D : DM) (l : Int) : K.Cs := [K.pt r 95 [K.iv c.th, K.iv c.sl, K.iv c.lo, K.iv c.bu, K.iv S.t, K.iv S.part, K.iv S.slot, .int .u64 S.gen, K.iv S.empty, K.iv c.th, K.iv c.sl, K.iv c.lo, K.iv c.bu, K.iv S.pop.t, K.iv (lineOf S.pop.pc), .int .u64 S.pop.top, .int .u64 S.pop.next, K.iv S.pop.slot, K.iv c.th, K.iv c.sl, K.iv c.lo, K.iv c.bu, K.iv S.adv.t, K.iv 2, K.iv l, .int .u64 S.adv.now, .bool S.adv.moved, K.iv c.th, K.iv c.sl, K.iv c.lo, K.iv c.bu, K.iv D.t, K.iv D.kind, K.iv D.line, K.iv D.n, K.iv D.slot, K.iv D.place, .int .u64 D.now, K.iv D.holds, K.iv D.count, K.iv D.pc.th, K.iv D.pc.sl, K.iv D.pc.lo, K.iv D.pc.bu, K.iv D.push.t, K.iv D.push.line, .int .u64 D.push.top, K.iv D.push.slot]]
def rtkPt (r : Nat) (c : Cfg) (S : TkS) (D : DM) : K.Cs := rtkL r c S D (lineAd S.adv.done S.adv.pc S.adv.next)
def tkSetPop (S : TkS) (P : PopS) : TkS := ⟨S.t, S.part, S.again, S.slot, S.gen, S.empty, P, S.adv, S.rc⟩
def tkSetAdv (S : TkS) (A : AdvS) : TkS := ⟨S.t, S.part, S.again, S.slot, S.gen, S.empty, S.pop, A, S.rc⟩
theorem tkTo_self {S : TkS} {k : Int} (h : S.part = k) : tkTo S k = S := by subst h; rfl
set_option maxHeartbeats 1000000 in
set_option maxRecDepth 100000 in
theorem rtPop_ok (w0 : World) (r pm q n t : Nat) (c : Cfg) (hc : cfgOk c) (S : TkS) (D : DM) (M : MemM) (gp l : K.Cs) (hgp : gp = rtkPt r c S D) (x : RMemAt l pm q n t M) (hM : M.good) (hS : S.pop.good) (hpc : pcOk S.pop.pc) :
  K.GC Tryz.prog w0 141 #[.pointer (some ⟨r, 9, none⟩), K.pa pm] [gp, l] (fun v post => ∃ gp' l', v = .tuple #[] ∧ post = [gp', l'] ∧ gp' = rtkPt r c (tkSetPop S (popStep c n S.pop M).1) D ∧ RMemAt l' pm q n t (popStep c n S.pop M).2) := by
 obtain ⟨hSt, hS1, hS2⟩ := hS
 have hS12 := hS1; unfold isW at hS12
 have hln : (S.pop.pc = 3 ∧ lineOf S.pop.pc = 0) ∨ (S.pop.pc = 0 ∧ lineOf S.pop.pc = 1) ∨ (S.pop.pc = 1 ∧ lineOf S.pop.pc = 2) ∨ (S.pop.pc = 2 ∧ lineOf S.pop.pc = 3) := by rcases hpc with h | h | h | h <;> rw [h] <;> decide
 refine K.GC.mk (n := 103) Tryz.func141 rfl rfl [.pointer (some ⟨r, 9, none⟩), K.pa pm] rfl rfl ?_
 intro fr w hS
 replace hS : K.Sat w0 [gp, l, fr] w := hS
 refine K.s (K.s (K.g (K.q [.pointer (some ⟨r, 9, none⟩), .pointer (some ⟨r, 9, none⟩), .pointer (some ⟨r, 14, none⟩)] ?_)))
 refine K.d (K.iv (lineOf S.pop.pc)) ((hS.blk 0 rfl hgp).cell rfl) ?_
 by_cases h_1 : ((lineOf S.pop.pc) : Int) = (1 : Int)
 ·
  refine K.ye ((lineOf S.pop.pc) : Int) (1 : Int) h_1 ?_
  refine K.z (K.t (K.h (K.s (K.g (K.q [.pointer (some ⟨r, 9, none⟩), K.pa pm, .pointer (some ⟨r, 9, none⟩), .pointer (some ⟨r, 9, none⟩), .pointer (some ⟨r, 13, none⟩)] ?_)))))
  refine K.d (K.iv S.pop.t) ((hS.blk 0 rfl hgp).cell rfl) ?_
  refine K.l (K.OW.gcall hS [1] [0, 2] [K.pa pm, K.iv 1, K.iv S.pop.t, K.iv (-2), .int .u64 0, .int .u64 0] (rmDo1_ok _ _ _ _ _ _ _ x S.pop.t ((-2) : Int) (0 : Int) (0 : Int) (by omega) (by first | omega | assumption | exact int_int (by assumption) _ | exact gen_int (by assumption) _ | exact aft_int (by assumption) _ | exact ann_int (by assumption) _ (by omega))) ?_)
  clear hS; rintro _ _ w ⟨l_2, rfl, rfl, x_3⟩ hS
  replace hS : K.Sat w0 [l_2, gp, fr] w := hS
  have hw_4 : isW (M.accL n S.pop.t ((-2) : Int)).2.old := (accL_good (by assumption)).2
  refine K.q [.int .u64 ((M.accL n S.pop.t ((-2) : Int)).2.old), .pointer (some ⟨r, 9, none⟩), .pointer (some ⟨r, 15, none⟩)] ?_
  refine K.l (K.OW.gst 1 [.int .u64 ((M.accL n S.pop.t ((-2) : Int)).2.old)] _ hS hgp ?_)
  clear hS; intro w g_5 hg_6 hS
  replace hS : K.Sat w0 [l_2, g_5, fr] w := hS
  refine K.z (K.t (K.s (K.g (K.q [.pointer (some ⟨r, 9, none⟩), .pointer (some ⟨r, 9, none⟩), .pointer (some ⟨r, 14, none⟩)] ?_))))
  refine K.l (K.OW.gst 1 [K.iv 2] _ hS hg_6 ?_)
  clear hS; intro w g_7 hg_8 hS
  replace hS : K.Sat w0 [l_2, g_7, fr] w := hS
  refine K.z (K.t (K.s (K.s (K.g (K.q [.pointer (some ⟨r, 9, none⟩), .pointer (some ⟨r, 9, none⟩), .pointer (some ⟨r, 15, none⟩)] ?_)))))
  refine K.d (.int .u64 ((M.accL n S.pop.t ((-2) : Int)).2.old)) ((hS.blk 1 rfl hg_8).cell rfl) ?_
  refine K.l (K.OW.gcall hS [] [0, 1, 2] [.int .u64 ((M.accL n S.pop.t ((-2) : Int)).2.old)] (rto_ok _ ((M.accL n S.pop.t ((-2) : Int)).2.old) (by first | assumption | (unfold isW; omega))) ?_)
  clear hS; rintro _ _ w ⟨rfl, rfl⟩ hS
  replace hS : K.Sat w0 [l_2, g_7, fr] w := hS
  by_cases h_9 : ((toI ((M.accL n S.pop.t ((-2) : Int)).2.old)) : Int) < (0 : Int)
  ·
   refine K.y (((toI ((M.accL n S.pop.t ((-2) : Int)).2.old)) : Int) < (0 : Int)) h_9 ?_
   refine K.z (K.t (K.h (K.g (K.q [.pointer (some ⟨r, 9, none⟩), .pointer (some ⟨r, 9, none⟩), .pointer (some ⟨r, 14, none⟩)] ?_))))
   refine K.l (K.OW.gst 1 [K.iv 0] _ hS hg_8 ?_)
   clear hS; intro w g_10 hg_11 hS
   replace hS : K.Sat w0 [l_2, g_10, fr] w := hS
   refine K.z (K.t (K.r (K.u ?_)))
   have hge := toI_ge ((M.accL n S.pop.t ((-2) : Int)).2.old)
   have e : popStep c n S.pop M = (⟨S.pop.t, 3, (M.accL n S.pop.t ((-2) : Int)).2.old, S.pop.next, S.pop.slot⟩, ((M.accL n S.pop.t ((-2) : Int)).1)) := by unfold popStep; rw [if_neg (by omega), if_pos (by omega), if_pos (by omega)]
   refine ⟨.inr rfl, rfl, (.tuple #[]), K.res0 rfl, [g_10, l_2], ?_, hS.pick [1, 0, 2]⟩
   exact ⟨_, _, rfl, rfl, by rw [e]; exact hg_11, by rw [e]; exact x_3⟩
  ·
   refine K.x (((toI ((M.accL n S.pop.t ((-2) : Int)).2.old)) : Int) < (0 : Int)) h_9 ?_
   refine K.z (K.t (K.f (K.k (K.t (K.r (K.u ?_))))))
   have hge := toI_ge ((M.accL n S.pop.t ((-2) : Int)).2.old)
   have e : popStep c n S.pop M = (⟨S.pop.t, 1, (M.accL n S.pop.t ((-2) : Int)).2.old, S.pop.next, S.pop.slot⟩, ((M.accL n S.pop.t ((-2) : Int)).1)) := by unfold popStep; rw [if_neg (by omega), if_pos (by omega), if_neg (by omega)]
   refine ⟨.inr rfl, rfl, (.tuple #[]), K.res0 rfl, [g_7, l_2], ?_, hS.pick [1, 0, 2]⟩
   exact ⟨_, _, rfl, rfl, by rw [e]; exact hg_8, by rw [e]; exact x_3⟩
 ·
  refine K.xe ((lineOf S.pop.pc) : Int) (1 : Int) h_1 ?_
  refine K.z (K.t (K.f (K.k (K.t (K.s (K.s (K.g (K.q [.pointer (some ⟨r, 9, none⟩), .pointer (some ⟨r, 9, none⟩), .pointer (some ⟨r, 14, none⟩)] ?_))))))))
  refine K.d (K.iv (lineOf S.pop.pc)) ((hS.blk 0 rfl hgp).cell rfl) ?_
  by_cases h_12 : ((lineOf S.pop.pc) : Int) = (2 : Int)
  ·
   refine K.ye ((lineOf S.pop.pc) : Int) (2 : Int) h_12 ?_
   refine K.z (K.t (K.h (K.s ?_)))
   refine K.KW.gdrawn [0] hS (by kernel_rfl) ?_
   clear hS; intro w hS
   refine K.p 0 rfl (.pointer (some ⟨r, 9, none⟩)) (hS.pick [0]) ?_
   refine K.p 1 rfl (K.pa pm) (hS.pick [0]) ?_
   refine K.p 2 rfl (.pointer (some ⟨r, 9, none⟩)) (hS.pick [0]) ?_
   refine K.p 3 rfl (.pointer (some ⟨r, 9, none⟩)) (hS.pick [0]) ?_
   refine K.p 4 rfl (.pointer (some ⟨r, 13, none⟩)) (hS.pick [0]) ?_
   refine K.o_ 5 rfl (K.iv S.pop.t) (fun w hS => ((hS.blk 0 rfl hgp).cell rfl)) (hS.pick [0]) ?_
   refine K.p 6 rfl (.pointer (some ⟨r, 9, none⟩)) (hS.pick [0]) ?_
   refine K.p 7 rfl (.pointer (some ⟨r, 9, none⟩)) (hS.pick [0]) ?_
   refine K.p 8 rfl (.pointer (some ⟨r, 9, none⟩)) (hS.pick [0]) ?_
   refine K.m 9 rfl (fun w hS => K.QR.ldN [K.iv c.th, K.iv c.sl, K.iv c.lo, K.iv c.bu] rfl rfl (by kernel_rfl) (by kernel_rfl) (K.cells (K.cl ((hS.blk 0 rfl hgp).cell rfl) (K.cl ((hS.blk 0 rfl hgp).cell rfl) (K.cl ((hS.blk 0 rfl hgp).cell rfl) (K.cl ((hS.blk 0 rfl hgp).cell rfl) K.cl0)))))) (hS.pick [0]) ?_
   refine K.b 10 rfl (.pointer (some ⟨r, 9, none⟩)) (hS.pick [0]) ?_
   refine K.b 11 rfl (.pointer (some ⟨r, 9, none⟩)) (hS.pick [0]) ?_
   refine K.b 12 rfl (.pointer (some ⟨r, 15, none⟩)) (hS.pick [0]) ?_
   refine K.c 13 rfl (K.QR.ld1 (v := .int .u64 S.pop.top) rfl rfl (by kernel_rfl) ((hS.blk 0 rfl hgp).cell rfl)) (hS.pick [0]) ?_
   refine K.DW.l 14 rfl (by kernel_rfl) rfl (K.OW.gcall hS [] [0, 1, 2] [.int .u64 S.pop.top] (rto_ok _ S.pop.top (by first | assumption | (unfold isW; omega))) ?_)
   clear hS; rintro _ _ w ⟨rfl, rfl⟩ hS
   replace hS : K.Sat w0 [gp, l, fr] w := hS
   refine ⟨.inl (hS.pick [0]), ?_⟩
   refine K.DW.l 15 rfl (by kernel_rfl) rfl (K.OW.gcall hS [] [0, 1, 2] [.agg #[K.iv c.th, K.iv c.sl, K.iv c.lo, K.iv c.bu], K.iv (toI S.pop.top)] (rafter_ok _ c (by assumption) (toI S.pop.top)) ?_)
   clear hS; rintro _ _ w ⟨rfl, rfl⟩ hS
   replace hS : K.Sat w0 [gp, l, fr] w := hS
   refine ⟨.inl (hS.pick [0]), ?_⟩
   refine K.DW.l 16 rfl (by kernel_rfl) rfl (K.OW.gcall hS [1] [0, 2] [K.pa pm, K.iv 1, K.iv S.pop.t, K.iv (aftS c (toI S.pop.top)), .int .u64 0, .int .u64 0] (rmDo1_ok _ _ _ _ _ _ _ x S.pop.t (aftS c (toI S.pop.top)) (0 : Int) (0 : Int) (by omega) (by first | omega | assumption | exact int_int (by assumption) _ | exact gen_int (by assumption) _ | exact aft_int (by assumption) _ | exact ann_int (by assumption) _ (by omega))) ?_)
   clear hS; rintro _ _ w ⟨l_13, rfl, rfl, x_14⟩ hS
   replace hS : K.Sat w0 [l_13, gp, fr] w := hS
   have hw_15 : isW (M.accL n S.pop.t (aftS c (toI S.pop.top))).2.old := (accL_good (by assumption)).2
   refine ⟨.inl (hS.pick [1]), ?_⟩
   refine K.b 17 rfl (.int .u64 ((M.accL n S.pop.t (aftS c (toI S.pop.top))).2.old)) (hS.pick [1]) ?_
   refine K.b 18 rfl (.pointer (some ⟨r, 9, none⟩)) (hS.pick [1]) ?_
   refine K.b 19 rfl (.pointer (some ⟨r, 16, none⟩)) (hS.pick [1]) ?_
   refine K.DW.l 20 rfl (by kernel_rfl) rfl (K.OW.gst 1 [.int .u64 ((M.accL n S.pop.t (aftS c (toI S.pop.top))).2.old)] _ hS hgp ?_)
   clear hS; intro w g_16 hg_17 hS
   replace hS : K.Sat w0 [l_13, g_16, fr] w := hS
   refine ⟨.inr (by kernel_rfl), ?_⟩
   refine K.DW.done (by kernel_rfl) ?_
   refine K.t (K.s (K.g (K.q [.pointer (some ⟨r, 9, none⟩), .pointer (some ⟨r, 9, none⟩), .pointer (some ⟨r, 14, none⟩)] ?_)))
   refine K.l (K.OW.gst 1 [K.iv 3] _ hS hg_17 ?_)
   clear hS; intro w g_18 hg_19 hS
   replace hS : K.Sat w0 [l_13, g_18, fr] w := hS
   refine K.z (K.t (K.r (K.u ?_)))
   have e : popStep c n S.pop M = (⟨S.pop.t, 2, S.pop.top, (M.accL n S.pop.t (aftS c (toI S.pop.top))).2.old, S.pop.slot⟩, ((M.accL n S.pop.t (aftS c (toI S.pop.top))).1)) := by unfold popStep; rw [if_neg (by omega), if_neg (by omega), if_pos (by omega)]
   refine ⟨.inr rfl, rfl, (.tuple #[]), K.res0 rfl, [g_18, l_13], ?_, hS.pick [1, 0, 2]⟩
   exact ⟨_, _, rfl, rfl, by rw [e]; exact hg_19, by rw [e]; exact x_14⟩
  ·
   refine K.xe ((lineOf S.pop.pc) : Int) (2 : Int) h_12 ?_
   refine K.z (K.t (K.f (K.k (K.t (K.s (K.g (K.q [.pointer (some ⟨r, 9, none⟩), .pointer (some ⟨r, 9, none⟩), .pointer (some ⟨r, 14, none⟩)] ?_)))))))
   refine K.d (K.iv (lineOf S.pop.pc)) ((hS.blk 0 rfl hgp).cell rfl) ?_
   by_cases h_20 : ((lineOf S.pop.pc) : Int) = (3 : Int)
   ·
    refine K.ye ((lineOf S.pop.pc) : Int) (3 : Int) h_20 ?_
    refine K.z (K.t (K.h (K.s ?_)))
    refine K.KW.gdrawn [0] hS (by kernel_rfl) ?_
    clear hS; intro w hS
    refine K.p 0 rfl (.pointer (some ⟨r, 9, none⟩)) (hS.pick [0]) ?_
    refine K.p 1 rfl (.pointer (some ⟨r, 9, none⟩)) (hS.pick [0]) ?_
    refine K.p 2 rfl (.pointer (some ⟨r, 16, none⟩)) (hS.pick [0]) ?_
    refine K.o_ 3 rfl (.int .u64 S.pop.next) (fun w hS => ((hS.blk 0 rfl hgp).cell rfl)) (hS.pick [0]) ?_
    refine K.p 5 rfl (.pointer (some ⟨r, 9, none⟩)) (hS.pick [0]) ?_
    refine K.p 6 rfl (.pointer (some ⟨r, 9, none⟩)) (hS.pick [0]) ?_
    refine K.p 7 rfl (.pointer (some ⟨r, 15, none⟩)) (hS.pick [0]) ?_
    refine K.o_ 8 rfl (.int .u64 S.pop.top) (fun w hS => ((hS.blk 0 rfl hgp).cell rfl)) (hS.pick [0]) ?_
    refine K.DW.l 4 rfl (by kernel_rfl) rfl (K.OW.gcall hS [] [0, 1, 2] [.int .u64 S.pop.next] (rto_ok _ S.pop.next (by first | assumption | (unfold isW; omega))) ?_)
    clear hS; rintro _ _ w ⟨rfl, rfl⟩ hS
    replace hS : K.Sat w0 [gp, l, fr] w := hS
    refine ⟨.inl (hS.pick [0]), ?_⟩
    refine K.DW.l 9 rfl (by kernel_rfl) rfl (K.OW.gcall hS [] [0, 1, 2] [.int .u64 S.pop.top] (rver_ok _ S.pop.top (by first | assumption | (unfold isW; omega))) ?_)
    clear hS; rintro _ _ w ⟨rfl, rfl⟩ hS
    replace hS : K.Sat w0 [gp, l, fr] w := hS
    refine ⟨.inl (hS.pick [0]), ?_⟩
    refine K.c 10 rfl (K.QR.turn (v := .int .u32 (IntKind.u32.wrap (((verI S.pop.top) : Int) + (1 : Int)))) (K.QR.k (v := .int .u32 (IntKind.u32.wrap (((verI S.pop.top) : Int) + (1 : Int)))) (by kernel_rfl)) (congrArg (Value.int .u32) (show (IntKind.u32.wrap (((verI S.pop.top) : Int) + (1 : Int)) : Int) = ((((verI S.pop.top)) + (1)) % 4294967296 : Int) from wrapU32 _))) (hS.pick [0]) ?_
    refine K.DW.l 11 rfl (by kernel_rfl) rfl (K.OW.gcall hS [] [0, 1, 2] [K.iv (toI S.pop.next), .int .u32 ((((verI S.pop.top)) + (1)) % 4294967296)] (rtop_ok _ (toI S.pop.next) ((((verI S.pop.top)) + (1)) % 4294967296) (by first | omega | (unfold toI; omega)) (by first | omega | decide)) ?_)
    clear hS; rintro _ _ w ⟨rfl, rfl⟩ hS
    replace hS : K.Sat w0 [gp, l, fr] w := hS
    refine ⟨.inl (hS.pick [0]), ?_⟩
    refine K.b 12 rfl (.int .u64 (topI (toI S.pop.next) ((((verI S.pop.top)) + (1)) % 4294967296))) (hS.pick [0]) ?_
    refine K.DW.done (by kernel_rfl) ?_
    refine K.t (K.s (K.g (K.q [.pointer (some ⟨r, 9, none⟩), .pointer (some ⟨r, 9, none⟩), .pointer (some ⟨r, 14, none⟩)] ?_)))
    refine K.l (K.OW.gst 0 [K.iv 1] _ hS hgp ?_)
    clear hS; intro w g_21 hg_22 hS
    replace hS : K.Sat w0 [g_21, l, fr] w := hS
    refine K.z (K.t (K.s ?_))
    refine K.KW.gdrawn [0] hS (by kernel_rfl) ?_
    clear hS; intro w hS
    refine K.p 0 rfl (K.pa pm) (hS.pick [0]) ?_
    refine K.p 1 rfl (.pointer (some ⟨r, 9, none⟩)) (hS.pick [0]) ?_
    refine K.p 2 rfl (.pointer (some ⟨r, 9, none⟩)) (hS.pick [0]) ?_
    refine K.p 3 rfl (.pointer (some ⟨r, 13, none⟩)) (hS.pick [0]) ?_
    refine K.o_ 4 rfl (K.iv S.pop.t) (fun w hS => ((hS.blk 0 rfl hg_22).cell rfl)) (hS.pick [0]) ?_
    refine K.p 5 rfl (.pointer (some ⟨r, 9, none⟩)) (hS.pick [0]) ?_
    refine K.p 6 rfl (.pointer (some ⟨r, 9, none⟩)) (hS.pick [0]) ?_
    refine K.p 7 rfl (.pointer (some ⟨r, 15, none⟩)) (hS.pick [0]) ?_
    refine K.o_ 8 rfl (.int .u64 S.pop.top) (fun w hS => ((hS.blk 0 rfl hg_22).cell rfl)) (hS.pick [0]) ?_
    refine K.b 9 rfl (.int .u64 (topI (toI S.pop.next) ((((verI S.pop.top)) + (1)) % 4294967296))) (hS.pick [0]) ?_
    refine K.DW.l 10 rfl (by kernel_rfl) rfl (K.OW.gcall hS [1] [0, 2] [K.pa pm, K.iv 3, K.iv S.pop.t, K.iv (-2), .int .u64 S.pop.top, .int .u64 (topI (toI S.pop.next) ((((verI S.pop.top)) + (1)) % 4294967296))] (rmDo3_ok _ _ _ _ _ _ _ x S.pop.t ((-2) : Int) S.pop.top (topI (toI S.pop.next) ((((verI S.pop.top)) + (1)) % 4294967296)) (by omega) (by first | omega | assumption | exact int_int (by assumption) _ | exact gen_int (by assumption) _ | exact aft_int (by assumption) _ | exact ann_int (by assumption) _ (by omega))) ?_)
    clear hS; rintro _ _ w ⟨l_23, rfl, rfl, x_24⟩ hS
    replace hS : K.Sat w0 [l_23, g_21, fr] w := hS
    refine ⟨.inl (hS.pick [1]), ?_⟩
    refine K.b 11 rfl (.bool ((M.accW n S.pop.t ((-2) : Int) S.pop.top (topI (toI S.pop.next) ((((verI S.pop.top)) + (1)) % 4294967296))).2.done)) (hS.pick [1]) ?_
    cases hb_25 : (M.accW n S.pop.t ((-2) : Int) S.pop.top (topI (toI S.pop.next) ((((verI S.pop.top)) + (1)) % 4294967296))).2.done
    ·
     refine K.DW.done (by kernel_rfl) ?_
     refine K.t (K.f (K.k ?_))
     have e : popStep c n S.pop M = (⟨S.pop.t, 0, S.pop.top, S.pop.next, S.pop.slot⟩, ((M.accW n S.pop.t ((-2) : Int) S.pop.top (topI (toI S.pop.next) ((((verI S.pop.top)) + (1)) % 4294967296))).1)) := by unfold popStep newerI; rw [if_neg (by omega), if_neg (by omega), if_neg (by omega), if_neg (by rw [hb_25]; decide)]
     refine ⟨.inl rfl, rfl, (.tuple #[]), K.res0 rfl, [g_21, l_23], ?_, hS.pick [1, 0, 2]⟩
     exact ⟨_, _, rfl, rfl, by rw [e]; exact hg_22, by rw [e]; exact x_24⟩
    ·
     refine K.DW.done (by kernel_rfl) ?_
     refine K.t (K.h (K.s (K.g (K.q [.pointer (some ⟨r, 9, none⟩), .pointer (some ⟨r, 9, none⟩), .pointer (some ⟨r, 9, none⟩), .pointer (some ⟨r, 15, none⟩)] ?_))))
     refine K.d (.int .u64 S.pop.top) ((hS.blk 1 rfl hg_22).cell rfl) ?_
     refine K.l (K.OW.gcall hS [] [0, 1, 2] [.int .u64 S.pop.top] (rto_ok _ S.pop.top (by first | assumption | (unfold isW; omega))) ?_)
     clear hS; rintro _ _ w ⟨rfl, rfl⟩ hS
     replace hS : K.Sat w0 [l_23, g_21, fr] w := hS
     refine K.q [.pointer (some ⟨r, 9, none⟩), .pointer (some ⟨r, 17, none⟩)] ?_
     refine K.l (K.OW.gst 1 [K.iv (toI S.pop.top)] _ hS hg_22 ?_)
     clear hS; intro w g_26 hg_27 hS
     replace hS : K.Sat w0 [l_23, g_26, fr] w := hS
     refine K.z (K.t (K.g (K.q [.pointer (some ⟨r, 9, none⟩), .pointer (some ⟨r, 9, none⟩), .pointer (some ⟨r, 14, none⟩)] ?_)))
     refine K.l (K.OW.gst 1 [K.iv 0] _ hS hg_27 ?_)
     clear hS; intro w g_28 hg_29 hS
     replace hS : K.Sat w0 [l_23, g_28, fr] w := hS
     refine K.z ?_
     have e : popStep c n S.pop M = (⟨S.pop.t, 3, S.pop.top, S.pop.next, (toI S.pop.top)⟩, ((M.accW n S.pop.t ((-2) : Int) S.pop.top (topI (toI S.pop.next) ((((verI S.pop.top)) + (1)) % 4294967296))).1)) := by unfold popStep newerI; rw [if_neg (by omega), if_neg (by omega), if_neg (by omega), if_pos hb_25]
     refine ⟨.inl rfl, rfl, (.tuple #[]), K.res0 rfl, [g_28, l_23], ?_, hS.pick [1, 0, 2]⟩
     exact ⟨_, _, rfl, rfl, by rw [e]; exact hg_29, by rw [e]; exact x_24⟩
   ·
    refine K.xe ((lineOf S.pop.pc) : Int) (3 : Int) h_20 ?_
    refine K.z (K.t (K.f (K.k ?_)))
    have e : popStep c n S.pop M = (S.pop, M) := if_pos (by omega)
    refine ⟨.inl rfl, rfl, (.tuple #[]), K.res0 rfl, [gp, l], ?_, hS.pick [0, 1, 2]⟩
    exact ⟨_, _, rfl, rfl, by rw [e]; exact hgp, by rw [e]; exact x⟩
set_option maxHeartbeats 1000000 in
set_option maxRecDepth 100000 in
theorem rannounce_ok (w0 : World) (c : Cfg) (hc : cfgOk c) (s : Int) :
  K.GC Tryz.prog w0 142 #[.agg #[K.iv c.th, K.iv c.sl, K.iv c.lo, K.iv c.bu], K.iv s] [] (fun v post => v = K.iv (annS c s) ∧ post = []) := by
 refine K.GC.mk (n := 9) Tryz.func142 rfl rfl [.agg #[K.iv c.th, K.iv c.sl, K.iv c.lo, K.iv c.bu], K.iv s] rfl rfl ?_
 intro fr w hS
 replace hS : K.Sat w0 [fr] w := hS
 refine K.s (K.g ?_)
 refine K.l (K.OW.gnew 23 [K.iv c.th, K.iv c.sl, K.iv c.lo, K.iv c.bu] hS ?_)
 clear hS; intro w r_1 g_2 hg_3 hS
 refine K.q [K.iv 0] (K.z (K.t (K.s (K.g ?_))))
 refine K.a (K.QR.ldN [K.iv c.th, K.iv c.sl, K.iv c.lo, K.iv c.bu] rfl rfl (by kernel_rfl) (by kernel_rfl) (K.cells (K.cl ((hS.blk 0 rfl hg_3).cell rfl) (K.cl ((hS.blk 0 rfl hg_3).cell rfl) (K.cl ((hS.blk 0 rfl hg_3).cell rfl) (K.cl ((hS.blk 0 rfl hg_3).cell rfl) K.cl0)))))) ?_
 refine K.q [K.iv s] ?_
 refine K.a (K.QR.bd [(0, K.iv 16), (1, K.iv s)] [K.iv 16, K.iv s, K.iv 0] rfl rfl (by kernel_rfl)) ?_
 refine K.l (K.OW.gcall hS [] [0, 1] [.agg #[K.iv c.th, K.iv c.sl, K.iv c.lo, K.iv c.bu], .agg #[K.iv 16, K.iv s, K.iv 0]] (at_ok _ c (⟨16, s, 0⟩ : Nm) (by assumption)) ?_)
 clear hS; rintro _ _ w ⟨rfl, rfl⟩ hS
 replace hS : K.Sat w0 [g_2, fr] w := hS
 refine K.q [K.iv (atT (lasting c) (passing c) (⟨16, s, 0⟩ : Nm))] (K.z (K.t (K.r ?_)))
 refine ⟨.inr rfl, rfl, (K.iv (atT (lasting c) (passing c) (⟨16, s, 0⟩ : Nm))), K.res1 rfl rfl, [], ?_, hS.pick [1]⟩
 exact ⟨congrArg (Value.int .i64) (at_ann hc s), rfl⟩
set_option maxHeartbeats 1000000 in
set_option maxRecDepth 100000 in
theorem rtAd1_ok (w0 : World) (r pm q n t : Nat) (c : Cfg) (hc : cfgOk c) (S : TkS) (D : DM) (M : MemM) (gp l : K.Cs) (hgp : gp = rtkPt r c S D) (x : RMemAt l pm q n t M) (hM : M.good) (hS : S.adv.good) (hd : S.adv.done = false) (hp : S.adv.pc = 0) :
  K.GC Tryz.prog w0 97 #[.pointer (some ⟨r, 18, none⟩), K.pa pm] [gp, l] (fun v post => ∃ gp' l', v = .tuple #[] ∧ post = [gp', l'] ∧ gp' = rtkPt r c (tkSetAdv S (advStep c n S.adv M).1) D ∧ RMemAt l' pm q n t (advStep c n S.adv M).2) := by
 obtain ⟨hSt, hSn, hSx, hSp⟩ := hS
 have hcc := hc
 unfold cfgOk at hcc
 have hgp2 : gp = rtkL r c S D 1 := by rw [hgp]; unfold rtkPt lineAd; rw [if_neg (by rw [hd]; decide), if_pos hp]
 have hnx : S.adv.next = 0 := by
  rcases hSp with h | h | h
  ·rw [hd] at h; cases h
  ·exact h.2
  ·omega
 refine K.GC.mk (n := 151) Tryz.func97 rfl rfl [.pointer (some ⟨r, 18, none⟩), K.pa pm] rfl rfl ?_
 intro fr w hS
 replace hS : K.Sat w0 [gp, l, fr] w := hS
 refine K.s (K.s (K.g (K.q [.pointer (some ⟨r, 18, none⟩), .pointer (some ⟨r, 18, none⟩), .pointer (some ⟨r, 24, none⟩)] ?_)))
 refine K.d (K.iv 1) ((hS.blk 0 rfl hgp2).cell rfl) ?_
 refine K.q [.bool false] (K.z (K.t (K.f (K.k (K.t (K.s (K.s (K.g (K.q [.pointer (some ⟨r, 18, none⟩), .pointer (some ⟨r, 18, none⟩), .pointer (some ⟨r, 23, none⟩)] ?_)))))))))
 refine K.d (K.iv 2) ((hS.blk 0 rfl hgp2).cell rfl) ?_
 refine K.q [.bool false] (K.z (K.t (K.f (K.k (K.t (K.s (K.s (K.g (K.q [.pointer (some ⟨r, 18, none⟩), .pointer (some ⟨r, 18, none⟩), .pointer (some ⟨r, 24, none⟩)] ?_)))))))))
 refine K.d (K.iv 1) ((hS.blk 0 rfl hgp2).cell rfl) ?_
 refine K.q [.bool true] (K.z (K.t (K.h (K.s (K.g (K.q [.pointer (some ⟨r, 18, none⟩), K.pa pm, .pointer (some ⟨r, 18, none⟩), .pointer (some ⟨r, 18, none⟩), .pointer (some ⟨r, 22, none⟩)] ?_))))))
 refine K.d (K.iv S.adv.t) ((hS.blk 0 rfl hgp2).cell rfl) ?_
 refine K.l (K.OW.gcall hS [1] [0, 2] [K.pa pm, K.iv 1, K.iv S.adv.t, K.iv (-1), .int .u64 0, .int .u64 0] (rmDo1_ok _ _ _ _ _ _ _ x S.adv.t ((-1) : Int) (0 : Int) (0 : Int) (by omega) (by first | omega | assumption | exact int_int (by assumption) _ | exact gen_int (by assumption) _ | exact aft_int (by assumption) _ | exact ann_int (by assumption) _ (by omega))) ?_)
 clear hS; rintro _ _ w ⟨l_1, rfl, rfl, x_2⟩ hS
 replace hS : K.Sat w0 [l_1, gp, fr] w := hS
 have hw_3 : isW (M.accL n S.adv.t ((-1) : Int)).2.old := (accL_good (by assumption)).2
 refine K.q [.int .u64 ((M.accL n S.adv.t ((-1) : Int)).2.old), .pointer (some ⟨r, 18, none⟩), .pointer (some ⟨r, 25, none⟩)] ?_
 refine K.l (K.OW.gst 1 [.int .u64 ((M.accL n S.adv.t ((-1) : Int)).2.old)] _ hS hgp2 ?_)
 clear hS; intro w g_4 hg_5 hS
 replace hS : K.Sat w0 [l_1, g_4, fr] w := hS
 refine K.z (K.t (K.s (K.g (K.q [.pointer (some ⟨r, 18, none⟩), .pointer (some ⟨r, 18, none⟩), .pointer (some ⟨r, 24, none⟩)] ?_))))
 refine K.l (K.OW.gst 1 [K.iv 2] _ hS hg_5 ?_)
 clear hS; intro w g_6 hg_7 hS
 replace hS : K.Sat w0 [l_1, g_6, fr] w := hS
 refine K.z (K.t (K.r (K.u ?_)))
 have e : advStep c n S.adv M = (⟨S.adv.t, S.adv.done, 1, (M.accL n S.adv.t (-1)).2.old, S.adv.next, S.adv.moved⟩, (M.accL n S.adv.t (-1)).1) := by unfold advStep; rw [if_neg (by rw [hd]; decide), if_pos hp]
 have el : lineAd S.adv.done (1) (S.adv.next) = 2 := by unfold lineAd; rw [if_neg (by rw [hd]; decide), if_neg (by omega)]; omega
 refine ⟨.inr rfl, rfl, (.tuple #[]), K.res0 rfl, [g_6, l_1], ?_, hS.pick [1, 0, 2]⟩
 exact ⟨_, _, rfl, rfl, by rw [e]; show _ = rtkL r c (tkSetAdv S ⟨S.adv.t, S.adv.done, 1, (M.accL n S.adv.t (-1)).2.old, S.adv.next, S.adv.moved⟩) D (lineAd S.adv.done (1) (S.adv.next)); rw [el]; exact hg_7, by rw [e]; exact x_2⟩
set_option maxHeartbeats 1000000 in
set_option maxRecDepth 100000 in
theorem rtAd2_ok (w0 : World) (r pm q n t : Nat) (c : Cfg) (hc : cfgOk c) (S : TkS) (D : DM) (M : MemM) (gp l : K.Cs) (hgp : gp = rtkPt r c S D) (x : RMemAt l pm q n t M) (hM : M.good) (hS : S.adv.good) (hd : S.adv.done = false) (hp : S.adv.pc = 1) :
  K.GC Tryz.prog w0 97 #[.pointer (some ⟨r, 18, none⟩), K.pa pm] [gp, l] (fun v post => ∃ gp' l', v = .tuple #[] ∧ post = [gp', l'] ∧ gp' = rtkPt r c (tkSetAdv S (advStep c n S.adv M).1) D ∧ RMemAt l' pm q n t (advStep c n S.adv M).2) := by
 obtain ⟨hSt, hSn, hSx, hSp⟩ := hS
 have hcc := hc
 unfold cfgOk at hcc
 have hgp2 : gp = rtkL r c S D (2 + S.adv.next) := by rw [hgp]; unfold rtkPt lineAd; rw [if_neg (by rw [hd]; decide), if_neg (by omega)]
 refine K.GC.mk (n := 151) Tryz.func97 rfl rfl [.pointer (some ⟨r, 18, none⟩), K.pa pm] rfl rfl ?_
 intro fr w hS
 replace hS : K.Sat w0 [gp, l, fr] w := hS
 refine K.s (K.s (K.g (K.q [.pointer (some ⟨r, 18, none⟩), .pointer (some ⟨r, 18, none⟩), .pointer (some ⟨r, 24, none⟩)] ?_)))
 refine K.d (K.iv (2 + S.adv.next)) ((hS.blk 0 rfl hgp2).cell rfl) ?_
 refine K.xe ((2 + S.adv.next) : Int) (0 : Int) (by omega) ?_
 refine K.z (K.t (K.f (K.k (K.t (K.s (K.s (K.g (K.q [.pointer (some ⟨r, 18, none⟩), .pointer (some ⟨r, 18, none⟩), .pointer (some ⟨r, 23, none⟩)] ?_))))))))
 refine K.d (K.iv 2) ((hS.blk 0 rfl hgp2).cell rfl) ?_
 refine K.q [.bool false] (K.z (K.t (K.f (K.k (K.t (K.s (K.s (K.g (K.q [.pointer (some ⟨r, 18, none⟩), .pointer (some ⟨r, 18, none⟩), .pointer (some ⟨r, 24, none⟩)] ?_)))))))))
 refine K.d (K.iv (2 + S.adv.next)) ((hS.blk 0 rfl hgp2).cell rfl) ?_
 refine K.xe ((2 + S.adv.next) : Int) (1 : Int) (by omega) ?_
 refine K.z (K.t (K.f (K.k (K.t (K.s (K.s (K.g (K.q [.pointer (some ⟨r, 18, none⟩), .pointer (some ⟨r, 18, none⟩), .pointer (some ⟨r, 23, none⟩)] ?_))))))))
 refine K.d (K.iv 2) ((hS.blk 0 rfl hgp2).cell rfl) ?_
 refine K.q [.bool false] (K.z (K.t (K.f (K.k (K.t (K.s (K.s ?_)))))))
 refine K.KW.gdrawn [0] hS (by kernel_rfl) ?_
 clear hS; intro w hS
 refine K.p 0 rfl (.pointer (some ⟨r, 18, none⟩)) (hS.pick [0]) ?_
 refine K.p 1 rfl (.pointer (some ⟨r, 18, none⟩)) (hS.pick [0]) ?_
 refine K.p 2 rfl (.pointer (some ⟨r, 24, none⟩)) (hS.pick [0]) ?_
 refine K.o_ 3 rfl (K.iv (2 + S.adv.next)) (fun w hS => ((hS.blk 0 rfl hgp2).cell rfl)) (hS.pick [0]) ?_
 refine K.m 4 rfl (fun w hS => K.QR.turn (v := K.iv (((2 + S.adv.next) : Int) - (2 : Int))) (K.QR.n64 (((2 + S.adv.next) : Int) - (2 : Int)) (((2 + S.adv.next) : Int) - (2 : Int)) (by kernel_rfl) (by omega)) (congrArg (Value.int .i64) (show (((2 + S.adv.next) : Int) - (2 : Int) : Int) = (S.adv.next : Int) from by omega))) (hS.pick [0]) ?_
 refine K.b 5 rfl (.pointer (some ⟨r, 18, none⟩)) (hS.pick [0]) ?_
 refine K.b 6 rfl (.pointer (some ⟨r, 18, none⟩)) (hS.pick [0]) ?_
 refine K.b 7 rfl (.pointer (some ⟨r, 18, none⟩)) (hS.pick [0]) ?_
 refine K.b 8 rfl (.pointer (some ⟨r, 18, none⟩)) (hS.pick [0]) ?_
 refine K.c 9 rfl (K.QR.ld1 (v := K.iv c.th) rfl rfl (by kernel_rfl) ((hS.blk 0 rfl hgp2).cell rfl)) (hS.pick [0]) ?_
 by_cases h_1 : (S.adv.next : Int) < (c.th : Int)
 ·
  refine K.c 10 rfl (K.QR.nice (v := .bool (decide ((S.adv.next : Int) < (c.th : Int)))) (by kernel_rfl) (congrArg Value.bool (decide_eq_true h_1))) (hS.pick [0]) ?_
  refine K.DW.done (by kernel_rfl) ?_
  refine K.t (K.h (K.s ?_))
  refine K.KW.gdrawn [0] hS (by kernel_rfl) ?_
  clear hS; intro w hS
  refine K.p 0 rfl (K.pa pm) (hS.pick [0]) ?_
  refine K.p 1 rfl (.pointer (some ⟨r, 18, none⟩)) (hS.pick [0]) ?_
  refine K.p 2 rfl (.pointer (some ⟨r, 18, none⟩)) (hS.pick [0]) ?_
  refine K.p 3 rfl (.pointer (some ⟨r, 22, none⟩)) (hS.pick [0]) ?_
  refine K.o_ 4 rfl (K.iv S.adv.t) (fun w hS => ((hS.blk 0 rfl hgp2).cell rfl)) (hS.pick [0]) ?_
  refine K.p 5 rfl (.pointer (some ⟨r, 18, none⟩)) (hS.pick [0]) ?_
  refine K.p 6 rfl (.pointer (some ⟨r, 18, none⟩)) (hS.pick [0]) ?_
  refine K.p 7 rfl (.pointer (some ⟨r, 18, none⟩)) (hS.pick [0]) ?_
  refine K.m 8 rfl (fun w hS => K.QR.ldN [K.iv c.th, K.iv c.sl, K.iv c.lo, K.iv c.bu] rfl rfl (by kernel_rfl) (by kernel_rfl) (K.cells (K.cl ((hS.blk 0 rfl hgp2).cell rfl) (K.cl ((hS.blk 0 rfl hgp2).cell rfl) (K.cl ((hS.blk 0 rfl hgp2).cell rfl) (K.cl ((hS.blk 0 rfl hgp2).cell rfl) K.cl0)))))) (hS.pick [0]) ?_
  refine K.b 9 rfl (.pointer (some ⟨r, 18, none⟩)) (hS.pick [0]) ?_
  refine K.b 10 rfl (.pointer (some ⟨r, 18, none⟩)) (hS.pick [0]) ?_
  refine K.b 11 rfl (.pointer (some ⟨r, 24, none⟩)) (hS.pick [0]) ?_
  refine K.c 12 rfl (K.QR.ld1 (v := K.iv (2 + S.adv.next)) rfl rfl (by kernel_rfl) ((hS.blk 0 rfl hgp2).cell rfl)) (hS.pick [0]) ?_
  refine K.c 13 rfl (K.QR.turn (v := K.iv (((2 + S.adv.next) : Int) - (2 : Int))) (K.QR.n64 (((2 + S.adv.next) : Int) - (2 : Int)) (((2 + S.adv.next) : Int) - (2 : Int)) (by kernel_rfl) (by omega)) (congrArg (Value.int .i64) (show (((2 + S.adv.next) : Int) - (2 : Int) : Int) = (S.adv.next : Int) from by omega))) (hS.pick [0]) ?_
  refine K.DW.l 14 rfl (by kernel_rfl) rfl (K.OW.gcall hS [] [0, 1, 2] [.agg #[K.iv c.th, K.iv c.sl, K.iv c.lo, K.iv c.bu], K.iv S.adv.next] (rannounce_ok _ c (by first | assumption | (unfold cfgOk; decide)) S.adv.next) ?_)
  clear hS; rintro _ _ w ⟨rfl, rfl⟩ hS
  replace hS : K.Sat w0 [gp, l, fr] w := hS
  refine ⟨.inl (hS.pick [0]), ?_⟩
  refine K.DW.l 15 rfl (by kernel_rfl) rfl (K.OW.gcall hS [1] [0, 2] [K.pa pm, K.iv 1, K.iv S.adv.t, K.iv (annS c S.adv.next), .int .u64 0, .int .u64 0] (rmDo1_ok _ _ _ _ _ _ _ x S.adv.t (annS c S.adv.next) (0 : Int) (0 : Int) (by omega) (by first | omega | assumption | exact int_int (by assumption) _ | exact gen_int (by assumption) _ | exact aft_int (by assumption) _ | exact ann_int (by assumption) _ (by omega))) ?_)
  clear hS; rintro _ _ w ⟨l_2, rfl, rfl, x_3⟩ hS
  replace hS : K.Sat w0 [l_2, gp, fr] w := hS
  have hw_4 : isW (M.accL n S.adv.t (annS c S.adv.next)).2.old := (accL_good (by assumption)).2
  refine ⟨.inl (hS.pick [1]), ?_⟩
  refine K.b 16 rfl (.int .u64 ((M.accL n S.adv.t (annS c S.adv.next)).2.old)) (hS.pick [1]) ?_
  refine K.b 17 rfl (.int .u64 ((M.accL n S.adv.t (annS c S.adv.next)).2.old)) (hS.pick [1]) ?_
  refine K.DW.done (by kernel_rfl) ?_
  refine K.t (K.s (K.g (K.q [.pointer (some ⟨r, 18, none⟩), .pointer (some ⟨r, 18, none⟩), .pointer (some ⟨r, 18, none⟩), .pointer (some ⟨r, 24, none⟩)] ?_)))
  refine K.d (K.iv (2 + S.adv.next)) ((hS.blk 1 rfl hgp2).cell rfl) ?_
  refine K.a (K.QR.turn (v := K.iv (((2 + S.adv.next) : Int) + (1 : Int))) (K.QR.n64 (((2 + S.adv.next) : Int) + (1 : Int)) (((2 + S.adv.next) : Int) + (1 : Int)) (by kernel_rfl) (by omega)) (congrArg (Value.int .i64) (show (((2 + S.adv.next) : Int) + (1 : Int) : Int) = (2 + (S.adv.next + 1) : Int) from by omega))) ?_
  refine K.q [.pointer (some ⟨r, 18, none⟩), .pointer (some ⟨r, 24, none⟩)] ?_
  refine K.l (K.OW.gst 1 [K.iv (2 + (S.adv.next + 1))] _ hS hgp2 ?_)
  clear hS; intro w g_5 hg_6 hS
  replace hS : K.Sat w0 [l_2, g_5, fr] w := hS
  refine K.z (K.t (K.s (K.s (K.g (K.q [.int .u64 ((M.accL n S.adv.t (annS c S.adv.next)).2.old)] ?_)))))
  by_cases h_7 : ((M.accL n S.adv.t (annS c S.adv.next)).2.old : Int) = (0 : Int)
  ·
   refine K.xn ((M.accL n S.adv.t (annS c S.adv.next)).2.old : Int) (0 : Int) h_7 ?_
   refine K.q [.bool false] (K.n_ (K.n_ (K.n_ (K.n_ (K.n_ (K.n_ (K.n_ (K.q [.bool false] (K.z (K.t (K.f (K.k (K.t (K.r ?_))))))))))))))
   refine K.u ?_
   have hdc : decide (askW c n S.adv M ≠ 0 ∧ askW c n S.adv M ≠ inc64 S.adv.now) = false := decide_eq_false (by unfold askW; omega)
   have e : advStep c n S.adv M = (⟨S.adv.t, false, S.adv.pc, S.adv.now, S.adv.next + 1, S.adv.moved⟩, (M.accL n S.adv.t (annS c S.adv.next)).1) := by unfold advStep; rw [if_neg (by rw [hd]; decide), if_neg (by omega), if_pos (by omega)]; unfold askS; rw [hdc]
   have el : lineAd false (S.adv.pc) (S.adv.next + 1) = 2 + (S.adv.next + 1) := by unfold lineAd; rw [if_neg (by decide), if_neg (by omega)]
   refine ⟨.inr rfl, rfl, (.tuple #[]), K.res0 rfl, [g_5, l_2], ?_, hS.pick [1, 0, 2]⟩
   exact ⟨_, _, rfl, rfl, by rw [e]; show _ = rtkL r c (tkSetAdv S ⟨S.adv.t, false, S.adv.pc, S.adv.now, S.adv.next + 1, S.adv.moved⟩) D (lineAd false (S.adv.pc) (S.adv.next + 1)); rw [el]; exact hg_6, by rw [e]; exact x_3⟩
  ·
   refine K.yn ((M.accL n S.adv.t (annS c S.adv.next)).2.old : Int) (0 : Int) h_7 ?_
   refine K.q [.bool true, .int .u64 ((M.accL n S.adv.t (annS c S.adv.next)).2.old), .pointer (some ⟨r, 18, none⟩), .pointer (some ⟨r, 18, none⟩), .pointer (some ⟨r, 25, none⟩)] ?_
   refine K.d (.int .u64 S.adv.now) ((hS.blk 1 rfl hg_6).cell rfl) ?_
   refine K.a (K.QR.turn (v := .int .u64 (IntKind.u64.wrap ((S.adv.now : Int) + (1 : Int)))) (K.QR.k (v := .int .u64 (IntKind.u64.wrap ((S.adv.now : Int) + (1 : Int)))) (by kernel_rfl)) (congrArg (Value.int .u64) (show (IntKind.u64.wrap ((S.adv.now : Int) + (1 : Int)) : Int) = (inc64 S.adv.now : Int) from wrapU _))) ?_
   by_cases h_8 : ((M.accL n S.adv.t (annS c S.adv.next)).2.old : Int) = (inc64 S.adv.now : Int)
   ·
    refine K.xn ((M.accL n S.adv.t (annS c S.adv.next)).2.old : Int) (inc64 S.adv.now : Int) h_8 ?_
    refine K.q [.bool false] (K.z (K.t (K.f (K.k (K.t (K.r (K.u ?_)))))))
    have hdc : decide (askW c n S.adv M ≠ 0 ∧ askW c n S.adv M ≠ inc64 S.adv.now) = false := decide_eq_false (by unfold askW; omega)
    have e : advStep c n S.adv M = (⟨S.adv.t, false, S.adv.pc, S.adv.now, S.adv.next + 1, S.adv.moved⟩, (M.accL n S.adv.t (annS c S.adv.next)).1) := by unfold advStep; rw [if_neg (by rw [hd]; decide), if_neg (by omega), if_pos (by omega)]; unfold askS; rw [hdc]
    have el : lineAd false (S.adv.pc) (S.adv.next + 1) = 2 + (S.adv.next + 1) := by unfold lineAd; rw [if_neg (by decide), if_neg (by omega)]
    refine ⟨.inr rfl, rfl, (.tuple #[]), K.res0 rfl, [g_5, l_2], ?_, hS.pick [1, 0, 2]⟩
    exact ⟨_, _, rfl, rfl, by rw [e]; show _ = rtkL r c (tkSetAdv S ⟨S.adv.t, false, S.adv.pc, S.adv.now, S.adv.next + 1, S.adv.moved⟩) D (lineAd false (S.adv.pc) (S.adv.next + 1)); rw [el]; exact hg_6, by rw [e]; exact x_3⟩
   ·
    refine K.yn ((M.accL n S.adv.t (annS c S.adv.next)).2.old : Int) (inc64 S.adv.now : Int) h_8 ?_
    refine K.q [.bool true] (K.z (K.t (K.h (K.g (K.q [.pointer (some ⟨r, 18, none⟩), .pointer (some ⟨r, 18, none⟩), .pointer (some ⟨r, 24, none⟩)] ?_)))))
    refine K.l (K.OW.gst 1 [K.iv 0] _ hS hg_6 ?_)
    clear hS; intro w g_9 hg_10 hS
    replace hS : K.Sat w0 [l_2, g_9, fr] w := hS
    refine K.z (K.t (K.r (K.u ?_)))
    have hdc : decide (askW c n S.adv M ≠ 0 ∧ askW c n S.adv M ≠ inc64 S.adv.now) = true := decide_eq_true (by unfold askW; omega)
    have e : advStep c n S.adv M = (⟨S.adv.t, true, S.adv.pc, S.adv.now, S.adv.next + 1, S.adv.moved⟩, (M.accL n S.adv.t (annS c S.adv.next)).1) := by unfold advStep; rw [if_neg (by rw [hd]; decide), if_neg (by omega), if_pos (by omega)]; unfold askS; rw [hdc]
    have el : lineAd true (S.adv.pc) (S.adv.next + 1) = 0 := by unfold lineAd; rw [if_pos rfl]
    refine ⟨.inr rfl, rfl, (.tuple #[]), K.res0 rfl, [g_9, l_2], ?_, hS.pick [1, 0, 2]⟩
    exact ⟨_, _, rfl, rfl, by rw [e]; show _ = rtkL r c (tkSetAdv S ⟨S.adv.t, true, S.adv.pc, S.adv.now, S.adv.next + 1, S.adv.moved⟩) D (lineAd true (S.adv.pc) (S.adv.next + 1)); rw [el]; exact hg_10, by rw [e]; exact x_3⟩
 ·
  refine K.c 10 rfl (K.QR.nice (v := .bool (decide ((S.adv.next : Int) < (c.th : Int)))) (by kernel_rfl) (congrArg Value.bool (decide_eq_false h_1))) (hS.pick [0]) ?_
  refine K.DW.done (by kernel_rfl) ?_
  refine K.t (K.f (K.k (K.t (K.s ?_))))
  refine K.KW.gdrawn [0] hS (by kernel_rfl) ?_
  clear hS; intro w hS
  refine K.p 0 rfl (.pointer (some ⟨r, 18, none⟩)) (hS.pick [0]) ?_
  refine K.p 1 rfl (K.pa pm) (hS.pick [0]) ?_
  refine K.p 2 rfl (.pointer (some ⟨r, 18, none⟩)) (hS.pick [0]) ?_
  refine K.p 3 rfl (.pointer (some ⟨r, 18, none⟩)) (hS.pick [0]) ?_
  refine K.p 4 rfl (.pointer (some ⟨r, 22, none⟩)) (hS.pick [0]) ?_
  refine K.o_ 5 rfl (K.iv S.adv.t) (fun w hS => ((hS.blk 0 rfl hgp2).cell rfl)) (hS.pick [0]) ?_
  refine K.p 6 rfl (.pointer (some ⟨r, 18, none⟩)) (hS.pick [0]) ?_
  refine K.p 7 rfl (.pointer (some ⟨r, 18, none⟩)) (hS.pick [0]) ?_
  refine K.p 8 rfl (.pointer (some ⟨r, 25, none⟩)) (hS.pick [0]) ?_
  refine K.o_ 9 rfl (.int .u64 S.adv.now) (fun w hS => ((hS.blk 0 rfl hgp2).cell rfl)) (hS.pick [0]) ?_
  refine K.b 10 rfl (.pointer (some ⟨r, 18, none⟩)) (hS.pick [0]) ?_
  refine K.b 11 rfl (.pointer (some ⟨r, 18, none⟩)) (hS.pick [0]) ?_
  refine K.b 12 rfl (.pointer (some ⟨r, 25, none⟩)) (hS.pick [0]) ?_
  refine K.c 13 rfl (K.QR.ld1 (v := .int .u64 S.adv.now) rfl rfl (by kernel_rfl) ((hS.blk 0 rfl hgp2).cell rfl)) (hS.pick [0]) ?_
  refine K.c 14 rfl (K.QR.turn (v := .int .u64 (IntKind.u64.wrap ((S.adv.now : Int) + (1 : Int)))) (K.QR.k (v := .int .u64 (IntKind.u64.wrap ((S.adv.now : Int) + (1 : Int)))) (by kernel_rfl)) (congrArg (Value.int .u64) (show (IntKind.u64.wrap ((S.adv.now : Int) + (1 : Int)) : Int) = (inc64 S.adv.now : Int) from wrapU _))) (hS.pick [0]) ?_
  refine K.DW.l 15 rfl (by kernel_rfl) rfl (K.OW.gcall hS [1] [0, 2] [K.pa pm, K.iv 3, K.iv S.adv.t, K.iv (-1), .int .u64 S.adv.now, .int .u64 (inc64 S.adv.now)] (rmDo3_ok _ _ _ _ _ _ _ x S.adv.t ((-1) : Int) S.adv.now (inc64 S.adv.now) (by omega) (by first | omega | assumption | exact int_int (by assumption) _ | exact gen_int (by assumption) _ | exact aft_int (by assumption) _ | exact ann_int (by assumption) _ (by omega))) ?_)
  clear hS; rintro _ _ w ⟨l_11, rfl, rfl, x_12⟩ hS
  replace hS : K.Sat w0 [l_11, gp, fr] w := hS
  refine ⟨.inl (hS.pick [1]), ?_⟩
  refine K.b 16 rfl (.bool ((M.accW n S.adv.t ((-1) : Int) S.adv.now (inc64 S.adv.now)).2.done)) (hS.pick [1]) ?_
  refine K.b 17 rfl (.pointer (some ⟨r, 18, none⟩)) (hS.pick [1]) ?_
  refine K.b 18 rfl (.pointer (some ⟨r, 26, none⟩)) (hS.pick [1]) ?_
  refine K.DW.l 19 rfl (by kernel_rfl) rfl (K.OW.gst 1 [.bool ((M.accW n S.adv.t ((-1) : Int) S.adv.now (inc64 S.adv.now)).2.done)] _ hS hgp2 ?_)
  clear hS; intro w g_13 hg_14 hS
  replace hS : K.Sat w0 [l_11, g_13, fr] w := hS
  refine ⟨.inr (by kernel_rfl), ?_⟩
  refine K.DW.done (by kernel_rfl) ?_
  refine K.t (K.g (K.q [.pointer (some ⟨r, 18, none⟩), .pointer (some ⟨r, 18, none⟩), .pointer (some ⟨r, 24, none⟩)] ?_))
  refine K.l (K.OW.gst 1 [K.iv 0] _ hS hg_14 ?_)
  clear hS; intro w g_15 hg_16 hS
  replace hS : K.Sat w0 [l_11, g_15, fr] w := hS
  refine K.z ?_
  have e : advStep c n S.adv M = (⟨S.adv.t, true, 2, S.adv.now, S.adv.next, (advA n S.adv M).2.done⟩, (advA n S.adv M).1) := by unfold advStep; rw [if_neg (by rw [hd]; decide), if_neg (by omega), if_neg (by omega)]
  have el : lineAd true (2) (S.adv.next) = 0 := by unfold lineAd; rw [if_pos rfl]
  refine ⟨.inl rfl, rfl, (.tuple #[]), K.res0 rfl, [g_15, l_11], ?_, hS.pick [1, 0, 2]⟩
  exact ⟨_, _, rfl, rfl, by rw [e]; show _ = rtkL r c (tkSetAdv S ⟨S.adv.t, true, 2, S.adv.now, S.adv.next, (advA n S.adv M).2.done⟩) D (lineAd true (2) (S.adv.next)); rw [el]; exact hg_16, by rw [e]; exact x_12⟩
end Go.Proofs.YtbfafebfkdbglaaGreat
