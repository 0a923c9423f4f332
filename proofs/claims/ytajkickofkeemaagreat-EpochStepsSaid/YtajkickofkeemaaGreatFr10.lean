/- The document's machines of layer 10. -/
import Derived.Test.YtajkickofkeemaaGreatFl10c
import Derived.Test.YtajkickofkeemaaGreatFl9c
import Derived.Test.YtajkickofkeemaaGreatKn
namespace Go.Proofs.YtajkickofkeemaaGreat
open Go.RowKit
set_option linter.unusedVariables false
attribute [local irreducible] K.KW K.RW K.DW K.OW K.QR K.KC
def lineEn (done told : Bool) : Int := if done = true then 0 else if told = true then 2 else 1
def lineLe (done : Bool) : Int := if done = true then 0 else 1
def lineAd (done : Bool) (pc next : Int) : Int := if done = true then 0 else if pc = 0 then 1 else 2 + next
def tE : MachE → Int | .no => 0 | .en S => S.t | .le S => S.t | .ad S => S.t
def kindE : MachE → Int | .no => 0 | .en _ => 0 | .le _ => 1 | .ad _ => 2
def lineE : MachE → Int | .no => 0 | .en S => lineEn S.done S.told | .le S => lineLe S.done | .ad S => lineAd S.done S.pc S.next
def nowE : MachE → Int | .no => 0 | .en S => S.now | .le _ => 0 | .ad S => S.now
abbrev rmachPt (r : Nat) (c : Cfg) (x : MachE) : K.Cs := [K.pt r 51 [.int .i64 c.th, .int .i64 c.sl, .int .i64 c.lo, .int .i64 c.bu, .int .i64 (tE x), .int .i64 (kindE x), .int .i64 (lineE x), .int .u64 (nowE x), .bool x.moved]]
theorem lineE_t {x : MachE} (h : x.done = true) : lineE x = 0 := by
 cases x with
 | no => rfl
 | en S => have h : S.done = true := h; show lineEn S.done S.told = 0; rw [h]; rfl
 | le S => have h : S.done = true := h; show lineLe S.done = 0; rw [h]; rfl
 | ad S => have h : S.done = true := h; show lineAd S.done S.pc S.next = 0; rw [h]; rfl
theorem lineE_f {x : MachE} (h : x.done = false) (hg : x.good) : ¬ lineE x = 0 := by
 cases x with
 | no => cases h
 | en S => have h : S.done = false := h; show ¬ lineEn S.done S.told = 0; rw [h]; cases S.told <;> decide
 | le S => have h : S.done = false := h; show ¬ lineLe S.done = 0; rw [h]; decide
 | ad S =>
  have h : S.done = false := h
  have hx : 0 ≤ S.next := hg.2.2.1.1
  show ¬ lineAd S.done S.pc S.next = 0
  rw [h]; unfold lineAd; rw [if_neg (by decide)]; split <;> omega
set_option maxHeartbeats 1000000 in
set_option maxRecDepth 100000 in
theorem r10_en0 (w0 : World) (p pm q n t : Nat) (c : Cfg) (hc : cfgOk c) (S : EntS) (M : MemM) (gp l : K.Cs) (hd : S.done = true) (hgp : gp = [K.pt p 51 [.int .i64 c.th, .int .i64 c.sl, .int .i64 c.lo, .int .i64 c.bu, .int .i64 S.t, .int .i64 0, .int .i64 0, .int .u64 S.now, .bool false]]) (x : RMemAt l pm q n t M) (hM : M.good) (hS : S.good) :
  K.GC Tryz.prog w0 10 #[.pointer (some ⟨p, 0, none⟩), .pointer (some ⟨pm, 0, none⟩)] [gp, l] (fun v post => ∃ gp' l', v = .tuple #[] ∧ post = [gp', l'] ∧ gp' = rmachPt p c (stepE c n (.en S) M).1 ∧ RMemAt l' pm q n t (stepE c n (.en S) M).2) := by
 obtain ⟨hSt, hSn⟩ := hS
 refine K.GC.mk (n := 151) Tryz.func10 rfl rfl [.pointer (some ⟨p, 0, none⟩), .pointer (some ⟨pm, 0, none⟩)] rfl rfl ?_
 intro fr w hS
 replace hS : K.Sat w0 [gp, l, fr] w := hS
 refine K.s (K.s (K.g (K.q [.pointer (some ⟨p, 0, none⟩), .pointer (some ⟨p, 0, none⟩), .pointer (some ⟨p, 6, none⟩)] ?_)))
 refine K.d (.int .i64 0) ((hS.blk 0 rfl hgp).cell rfl) ?_
 refine K.q [.bool true] (K.z (K.t (K.h (K.r (K.u ?_)))))
 have e : stepE c n (.en S) M = (.en S, M) := by
  show (MachE.en (entStep c n S M).1, (entStep c n S M).2) = _
  have : entStep c n S M = (S, M) := by unfold entStep; rw [if_pos hd]
  rw [this]
 refine ⟨.inr rfl, rfl, (.tuple #[]), K.res0 rfl, [gp, l], ?_, hS.pick [0, 1, 2]⟩
 exact ⟨_, _, rfl, rfl, by rw [e]; simp only [rmachPt, tE, kindE, lineE, nowE, MachE.moved, hd]; exact hgp, by rw [e]; exact x⟩
set_option maxHeartbeats 1000000 in
set_option maxRecDepth 100000 in
theorem r10_en1 (w0 : World) (p pm q n t : Nat) (c : Cfg) (hc : cfgOk c) (S : EntS) (M : MemM) (gp l : K.Cs) (hd : S.done = false) (ht : S.told = false) (hgp : gp = [K.pt p 51 [.int .i64 c.th, .int .i64 c.sl, .int .i64 c.lo, .int .i64 c.bu, .int .i64 S.t, .int .i64 0, .int .i64 1, .int .u64 S.now, .bool false]]) (x : RMemAt l pm q n t M) (hM : M.good) (hS : S.good) :
  K.GC Tryz.prog w0 10 #[.pointer (some ⟨p, 0, none⟩), .pointer (some ⟨pm, 0, none⟩)] [gp, l] (fun v post => ∃ gp' l', v = .tuple #[] ∧ post = [gp', l'] ∧ gp' = rmachPt p c (stepE c n (.en S) M).1 ∧ RMemAt l' pm q n t (stepE c n (.en S) M).2) := by
 obtain ⟨hSt, hSn⟩ := hS
 refine K.GC.mk (n := 151) Tryz.func10 rfl rfl [.pointer (some ⟨p, 0, none⟩), .pointer (some ⟨pm, 0, none⟩)] rfl rfl ?_
 intro fr w hS
 replace hS : K.Sat w0 [gp, l, fr] w := hS
 refine K.s (K.s (K.g (K.q [.pointer (some ⟨p, 0, none⟩), .pointer (some ⟨p, 0, none⟩), .pointer (some ⟨p, 6, none⟩)] ?_)))
 refine K.d (.int .i64 1) ((hS.blk 0 rfl hgp).cell rfl) ?_
 refine K.q [.bool false] (K.z (K.t (K.f (K.k (K.t (K.s (K.s (K.g (K.q [.pointer (some ⟨p, 0, none⟩), .pointer (some ⟨p, 0, none⟩), .pointer (some ⟨p, 5, none⟩)] ?_)))))))))
 refine K.d (.int .i64 0) ((hS.blk 0 rfl hgp).cell rfl) ?_
 refine K.q [.bool false] (K.z (K.t (K.f (K.k (K.t (K.s (K.s (K.g (K.q [.pointer (some ⟨p, 0, none⟩), .pointer (some ⟨p, 0, none⟩), .pointer (some ⟨p, 6, none⟩)] ?_)))))))))
 refine K.d (.int .i64 1) ((hS.blk 0 rfl hgp).cell rfl) ?_
 refine K.q [.bool true] (K.z (K.t (K.h (K.s (K.g (K.q [.pointer (some ⟨p, 0, none⟩), .pointer (some ⟨pm, 0, none⟩), .pointer (some ⟨p, 0, none⟩), .pointer (some ⟨p, 0, none⟩), .pointer (some ⟨p, 4, none⟩)] ?_))))))
 refine K.d (.int .i64 S.t) ((hS.blk 0 rfl hgp).cell rfl) ?_
 refine K.l (K.OW.gcall hS [1] [0, 2] [.pointer (some ⟨pm, 0, none⟩), .int .i64 1, .int .i64 S.t, .int .i64 (-1), .int .u64 0, .int .u64 0] (rmDo1_ok _ _ _ _ _ _ _ x S.t ((-1) : Int) (0 : Int) (0 : Int) (by omega) (by first | omega | exact aft_int (by assumption) _ | exact ann_int (by assumption) _ (by omega))) ?_)
 clear hS; rintro _ _ w ⟨l_1, rfl, rfl, x_2⟩ hS
 replace hS : K.Sat w0 [l_1, gp, fr] w := hS
 have hw_3 : isW (M.accL n S.t ((-1) : Int)).2.old := (accL_good (by assumption)).2
 refine K.q [.int .u64 ((M.accL n S.t ((-1) : Int)).2.old), .pointer (some ⟨p, 0, none⟩), .pointer (some ⟨p, 7, none⟩)] ?_
 refine K.l (K.OW.gst 1 [.int .u64 ((M.accL n S.t ((-1) : Int)).2.old)] [.int .i64 c.th, .int .i64 c.sl, .int .i64 c.lo, .int .i64 c.bu, .int .i64 S.t, .int .i64 0, .int .i64 1, .int .u64 ((M.accL n S.t ((-1) : Int)).2.old), .bool false] hS hgp ?_)
 clear hS; intro w g_4 hg_5 hS
 replace hS : K.Sat w0 [l_1, g_4, fr] w := hS
 refine K.z (K.t (K.s (K.g (K.q [.pointer (some ⟨p, 0, none⟩), .pointer (some ⟨p, 0, none⟩), .pointer (some ⟨p, 6, none⟩)] ?_))))
 refine K.l (K.OW.gst 1 [.int .i64 2] [.int .i64 c.th, .int .i64 c.sl, .int .i64 c.lo, .int .i64 c.bu, .int .i64 S.t, .int .i64 0, .int .i64 2, .int .u64 ((M.accL n S.t ((-1) : Int)).2.old), .bool false] hS hg_5 ?_)
 clear hS; intro w g_6 hg_7 hS
 replace hS : K.Sat w0 [l_1, g_6, fr] w := hS
 refine K.z (K.t (K.r (K.u ?_)))
 have e : stepE c n (.en S) M = (.en ⟨S.t, S.done, (M.accL n S.t (-1)).2.old, true⟩, (M.accL n S.t (-1)).1) := by
  show (MachE.en (entStep c n S M).1, (entStep c n S M).2) = _
  have : entStep c n S M = (⟨S.t, S.done, (M.accL n S.t (-1)).2.old, true⟩, (M.accL n S.t (-1)).1) := by unfold entStep; rw [if_neg (by rw [hd]; decide), if_neg (by rw [ht]; decide)]
  rw [this]
 refine ⟨.inr rfl, rfl, (.tuple #[]), K.res0 rfl, [g_6, l_1], ?_, hS.pick [1, 0, 2]⟩
 exact ⟨_, _, rfl, rfl, by rw [e]; simp only [rmachPt, tE, kindE, lineE, nowE, MachE.moved, hd]; exact hg_7, by rw [e]; exact x_2⟩
set_option maxHeartbeats 1000000 in
set_option maxRecDepth 100000 in
theorem r10_en2 (w0 : World) (p pm q n t : Nat) (c : Cfg) (hc : cfgOk c) (S : EntS) (M : MemM) (gp l : K.Cs) (hd : S.done = false) (ht : S.told = true) (hgp : gp = [K.pt p 51 [.int .i64 c.th, .int .i64 c.sl, .int .i64 c.lo, .int .i64 c.bu, .int .i64 S.t, .int .i64 0, .int .i64 2, .int .u64 S.now, .bool false]]) (x : RMemAt l pm q n t M) (hM : M.good) (hS : S.good) :
  K.GC Tryz.prog w0 10 #[.pointer (some ⟨p, 0, none⟩), .pointer (some ⟨pm, 0, none⟩)] [gp, l] (fun v post => ∃ gp' l', v = .tuple #[] ∧ post = [gp', l'] ∧ gp' = rmachPt p c (stepE c n (.en S) M).1 ∧ RMemAt l' pm q n t (stepE c n (.en S) M).2) := by
 obtain ⟨hSt, hSn⟩ := hS
 refine K.GC.mk (n := 151) Tryz.func10 rfl rfl [.pointer (some ⟨p, 0, none⟩), .pointer (some ⟨pm, 0, none⟩)] rfl rfl ?_
 intro fr w hS
 replace hS : K.Sat w0 [gp, l, fr] w := hS
 refine K.s (K.s (K.g (K.q [.pointer (some ⟨p, 0, none⟩), .pointer (some ⟨p, 0, none⟩), .pointer (some ⟨p, 6, none⟩)] ?_)))
 refine K.d (.int .i64 2) ((hS.blk 0 rfl hgp).cell rfl) ?_
 refine K.q [.bool false] (K.z (K.t (K.f (K.k (K.t (K.s (K.s (K.g (K.q [.pointer (some ⟨p, 0, none⟩), .pointer (some ⟨p, 0, none⟩), .pointer (some ⟨p, 5, none⟩)] ?_)))))))))
 refine K.d (.int .i64 0) ((hS.blk 0 rfl hgp).cell rfl) ?_
 refine K.q [.bool false] (K.z (K.t (K.f (K.k (K.t (K.s (K.s (K.g (K.q [.pointer (some ⟨p, 0, none⟩), .pointer (some ⟨p, 0, none⟩), .pointer (some ⟨p, 6, none⟩)] ?_)))))))))
 refine K.d (.int .i64 2) ((hS.blk 0 rfl hgp).cell rfl) ?_
 refine K.q [.bool false] (K.z (K.t (K.f (K.k (K.t (K.s (K.s (K.g (K.q [.pointer (some ⟨p, 0, none⟩), .pointer (some ⟨p, 0, none⟩), .pointer (some ⟨p, 5, none⟩)] ?_)))))))))
 refine K.d (.int .i64 0) ((hS.blk 0 rfl hgp).cell rfl) ?_
 refine K.q [.bool true] (K.z (K.t (K.h (K.s ?_))))
 refine K.KW.gdrawn [0] hS (by kernel_rfl) ?_
 clear hS; intro w hS
 refine K.DW.q 0 (by kernel_rfl) rfl rfl (by kernel_rfl) rfl (fun w hS => K.QR.k (v := .pointer (some ⟨pm, 0, none⟩)) (by kernel_rfl)) (hS.pick [0]) ?_
 refine K.DW.q 1 (by kernel_rfl) rfl rfl (by kernel_rfl) rfl (fun w hS => K.QR.k (v := .pointer (some ⟨p, 0, none⟩)) (by kernel_rfl)) (hS.pick [0]) ?_
 refine K.DW.q 2 (by kernel_rfl) rfl rfl (by kernel_rfl) rfl (fun w hS => K.QR.k (v := .pointer (some ⟨p, 0, none⟩)) (by kernel_rfl)) (hS.pick [0]) ?_
 refine K.DW.q 3 (by kernel_rfl) rfl rfl (by kernel_rfl) rfl (fun w hS => K.QR.k (v := .pointer (some ⟨p, 4, none⟩)) (by kernel_rfl)) (hS.pick [0]) ?_
 refine K.DW.q 4 (by kernel_rfl) rfl rfl (by kernel_rfl) rfl (fun w hS => K.QR.ld1 (v := .int .i64 S.t) rfl rfl (by kernel_rfl) ((hS.blk 0 rfl hgp).cell rfl)) (hS.pick [0]) ?_
 refine K.DW.q 5 (by kernel_rfl) rfl rfl (by kernel_rfl) rfl (fun w hS => K.QR.k (v := .pointer (some ⟨p, 0, none⟩)) (by kernel_rfl)) (hS.pick [0]) ?_
 refine K.DW.q 6 (by kernel_rfl) rfl rfl (by kernel_rfl) rfl (fun w hS => K.QR.k (v := .pointer (some ⟨p, 0, none⟩)) (by kernel_rfl)) (hS.pick [0]) ?_
 refine K.DW.q 7 (by kernel_rfl) rfl rfl (by kernel_rfl) rfl (fun w hS => K.QR.k (v := .pointer (some ⟨p, 0, none⟩)) (by kernel_rfl)) (hS.pick [0]) ?_
 refine K.DW.q 8 (by kernel_rfl) rfl rfl (by kernel_rfl) rfl (fun w hS => K.QR.ldN [.int .i64 c.th, .int .i64 c.sl, .int .i64 c.lo, .int .i64 c.bu] rfl rfl (by kernel_rfl) (by kernel_rfl) (K.cells (K.cl ((hS.blk 0 rfl hgp).cell rfl) (K.cl ((hS.blk 0 rfl hgp).cell rfl) (K.cl ((hS.blk 0 rfl hgp).cell rfl) (K.cl ((hS.blk 0 rfl hgp).cell rfl) K.cl0)))))) (hS.pick [0]) ?_
 refine K.DW.q 9 (by kernel_rfl) rfl rfl (by kernel_rfl) rfl (fun w hS => K.QR.k (v := .pointer (some ⟨p, 0, none⟩)) (by kernel_rfl)) (hS.pick [0]) ?_
 refine K.DW.q 10 (by kernel_rfl) rfl rfl (by kernel_rfl) rfl (fun w hS => K.QR.k (v := .pointer (some ⟨p, 0, none⟩)) (by kernel_rfl)) (hS.pick [0]) ?_
 refine K.DW.q 11 (by kernel_rfl) rfl rfl (by kernel_rfl) rfl (fun w hS => K.QR.k (v := .pointer (some ⟨p, 4, none⟩)) (by kernel_rfl)) (hS.pick [0]) ?_
 refine K.DW.q 12 (by kernel_rfl) rfl rfl (by kernel_rfl) rfl (fun w hS => K.QR.ld1 (v := .int .i64 S.t) rfl rfl (by kernel_rfl) ((hS.blk 0 rfl hgp).cell rfl)) (hS.pick [0]) ?_
 refine K.DW.q 14 (by kernel_rfl) rfl rfl (by kernel_rfl) rfl (fun w hS => K.QR.k (v := .pointer (some ⟨p, 0, none⟩)) (by kernel_rfl)) (hS.pick [0]) ?_
 refine K.DW.q 15 (by kernel_rfl) rfl rfl (by kernel_rfl) rfl (fun w hS => K.QR.k (v := .pointer (some ⟨p, 0, none⟩)) (by kernel_rfl)) (hS.pick [0]) ?_
 refine K.DW.q 16 (by kernel_rfl) rfl rfl (by kernel_rfl) rfl (fun w hS => K.QR.k (v := .pointer (some ⟨p, 7, none⟩)) (by kernel_rfl)) (hS.pick [0]) ?_
 refine K.DW.q 17 (by kernel_rfl) rfl rfl (by kernel_rfl) rfl (fun w hS => K.QR.ld1 (v := .int .u64 S.now) rfl rfl (by kernel_rfl) ((hS.blk 0 rfl hgp).cell rfl)) (hS.pick [0]) ?_
 refine K.DW.q 18 (by kernel_rfl) rfl rfl (by kernel_rfl) rfl (fun w hS => K.QR.turn (v := .int .u64 (IntKind.u64.wrap ((S.now : Int) + (1 : Int)))) (K.QR.k (v := .int .u64 (IntKind.u64.wrap ((S.now : Int) + (1 : Int)))) (by kernel_rfl)) (congrArg (Value.int .u64) (show (IntKind.u64.wrap ((S.now : Int) + (1 : Int)) : Int) = (inc64 S.now : Int) from wrapU _))) (hS.pick [0]) ?_
 refine K.DW.l 13 rfl (by kernel_rfl) rfl (K.OW.gcall hS [] [0, 1, 2] [.agg #[.int .i64 c.th, .int .i64 c.sl, .int .i64 c.lo, .int .i64 c.bu], .int .i64 S.t] (rannounce_ok _ c (by first | assumption | (unfold cfgOk; decide)) S.t) ?_)
 clear hS; rintro _ _ w ⟨rfl, rfl⟩ hS
 replace hS : K.Sat w0 [gp, l, fr] w := hS
 refine ⟨.inl (hS.pick [0]), ?_⟩
 refine K.DW.l 19 rfl (by kernel_rfl) rfl (K.OW.gcall hS [1] [0, 2] [.pointer (some ⟨pm, 0, none⟩), .int .i64 2, .int .i64 S.t, .int .i64 (annS c S.t), .int .u64 0, .int .u64 (inc64 S.now)] (rmDo2_ok _ _ _ _ _ _ _ x S.t (annS c S.t) (0 : Int) (inc64 S.now) (by omega) (by first | omega | exact aft_int (by assumption) _ | exact ann_int (by assumption) _ (by omega))) ?_)
 clear hS; rintro _ _ w ⟨l_1, rfl, rfl, x_2⟩ hS
 replace hS : K.Sat w0 [l_1, gp, fr] w := hS
 refine ⟨.inl (hS.pick [1]), ?_⟩
 refine K.DW.done (by kernel_rfl) ?_
 refine K.t (K.s (K.g (K.q [.pointer (some ⟨p, 0, none⟩), .pointer (some ⟨p, 0, none⟩), .pointer (some ⟨p, 6, none⟩)] ?_)))
 refine K.l (K.OW.gst 1 [.int .i64 0] [.int .i64 c.th, .int .i64 c.sl, .int .i64 c.lo, .int .i64 c.bu, .int .i64 S.t, .int .i64 0, .int .i64 0, .int .u64 S.now, .bool false] hS hgp ?_)
 clear hS; intro w g_3 hg_4 hS
 replace hS : K.Sat w0 [l_1, g_3, fr] w := hS
 refine K.z (K.t (K.r (K.u ?_)))
 have e : stepE c n (.en S) M = (.en ⟨S.t, true, S.now, S.told⟩, (M.accS n S.t (annS c S.t) (inc64 S.now)).1) := by
  show (MachE.en (entStep c n S M).1, (entStep c n S M).2) = _
  have : entStep c n S M = (⟨S.t, true, S.now, S.told⟩, (M.accS n S.t (annS c S.t) (inc64 S.now)).1) := by unfold entStep; rw [if_neg (by rw [hd]; decide), if_pos ht]
  rw [this]
 refine ⟨.inr rfl, rfl, (.tuple #[]), K.res0 rfl, [g_3, l_1], ?_, hS.pick [1, 0, 2]⟩
 exact ⟨_, _, rfl, rfl, by rw [e]; exact hg_4, by rw [e]; exact x_2⟩
set_option maxHeartbeats 1000000 in
set_option maxRecDepth 100000 in
theorem r10_le0 (w0 : World) (p pm q n t : Nat) (c : Cfg) (hc : cfgOk c) (S : LeaS) (M : MemM) (gp l : K.Cs) (hd : S.done = true) (hgp : gp = [K.pt p 51 [.int .i64 c.th, .int .i64 c.sl, .int .i64 c.lo, .int .i64 c.bu, .int .i64 S.t, .int .i64 1, .int .i64 0, .int .u64 0, .bool false]]) (x : RMemAt l pm q n t M) (hM : M.good) (hS : S.good) :
  K.GC Tryz.prog w0 10 #[.pointer (some ⟨p, 0, none⟩), .pointer (some ⟨pm, 0, none⟩)] [gp, l] (fun v post => ∃ gp' l', v = .tuple #[] ∧ post = [gp', l'] ∧ gp' = rmachPt p c (stepE c n (.le S) M).1 ∧ RMemAt l' pm q n t (stepE c n (.le S) M).2) := by
 have hSt : isInt S.t := hS
 refine K.GC.mk (n := 151) Tryz.func10 rfl rfl [.pointer (some ⟨p, 0, none⟩), .pointer (some ⟨pm, 0, none⟩)] rfl rfl ?_
 intro fr w hS
 replace hS : K.Sat w0 [gp, l, fr] w := hS
 refine K.s (K.s (K.g (K.q [.pointer (some ⟨p, 0, none⟩), .pointer (some ⟨p, 0, none⟩), .pointer (some ⟨p, 6, none⟩)] ?_)))
 refine K.d (.int .i64 0) ((hS.blk 0 rfl hgp).cell rfl) ?_
 refine K.q [.bool true] (K.z (K.t (K.h (K.r (K.u ?_)))))
 have e : stepE c n (.le S) M = (.le S, M) := by
  show (MachE.le (leaStep c n S M).1, (leaStep c n S M).2) = _
  have : leaStep c n S M = (S, M) := by unfold leaStep; rw [if_pos hd]
  rw [this]
 refine ⟨.inr rfl, rfl, (.tuple #[]), K.res0 rfl, [gp, l], ?_, hS.pick [0, 1, 2]⟩
 exact ⟨_, _, rfl, rfl, by rw [e]; simp only [rmachPt, tE, kindE, lineE, nowE, MachE.moved, hd]; exact hgp, by rw [e]; exact x⟩
set_option maxHeartbeats 1000000 in
set_option maxRecDepth 100000 in
theorem r10_le1 (w0 : World) (p pm q n t : Nat) (c : Cfg) (hc : cfgOk c) (S : LeaS) (M : MemM) (gp l : K.Cs) (hd : S.done = false) (hgp : gp = [K.pt p 51 [.int .i64 c.th, .int .i64 c.sl, .int .i64 c.lo, .int .i64 c.bu, .int .i64 S.t, .int .i64 1, .int .i64 1, .int .u64 0, .bool false]]) (x : RMemAt l pm q n t M) (hM : M.good) (hS : S.good) :
  K.GC Tryz.prog w0 10 #[.pointer (some ⟨p, 0, none⟩), .pointer (some ⟨pm, 0, none⟩)] [gp, l] (fun v post => ∃ gp' l', v = .tuple #[] ∧ post = [gp', l'] ∧ gp' = rmachPt p c (stepE c n (.le S) M).1 ∧ RMemAt l' pm q n t (stepE c n (.le S) M).2) := by
 have hSt : isInt S.t := hS
 refine K.GC.mk (n := 151) Tryz.func10 rfl rfl [.pointer (some ⟨p, 0, none⟩), .pointer (some ⟨pm, 0, none⟩)] rfl rfl ?_
 intro fr w hS
 replace hS : K.Sat w0 [gp, l, fr] w := hS
 refine K.s (K.s (K.g (K.q [.pointer (some ⟨p, 0, none⟩), .pointer (some ⟨p, 0, none⟩), .pointer (some ⟨p, 6, none⟩)] ?_)))
 refine K.d (.int .i64 1) ((hS.blk 0 rfl hgp).cell rfl) ?_
 refine K.q [.bool false] (K.z (K.t (K.f (K.k (K.t (K.s (K.s (K.g (K.q [.pointer (some ⟨p, 0, none⟩), .pointer (some ⟨p, 0, none⟩), .pointer (some ⟨p, 5, none⟩)] ?_)))))))))
 refine K.d (.int .i64 1) ((hS.blk 0 rfl hgp).cell rfl) ?_
 refine K.q [.bool true] (K.z (K.t (K.h (K.s ?_))))
 refine K.KW.gdrawn [0] hS (by kernel_rfl) ?_
 clear hS; intro w hS
 refine K.DW.q 0 (by kernel_rfl) rfl rfl (by kernel_rfl) rfl (fun w hS => K.QR.k (v := .pointer (some ⟨pm, 0, none⟩)) (by kernel_rfl)) (hS.pick [0]) ?_
 refine K.DW.q 1 (by kernel_rfl) rfl rfl (by kernel_rfl) rfl (fun w hS => K.QR.k (v := .pointer (some ⟨p, 0, none⟩)) (by kernel_rfl)) (hS.pick [0]) ?_
 refine K.DW.q 2 (by kernel_rfl) rfl rfl (by kernel_rfl) rfl (fun w hS => K.QR.k (v := .pointer (some ⟨p, 0, none⟩)) (by kernel_rfl)) (hS.pick [0]) ?_
 refine K.DW.q 3 (by kernel_rfl) rfl rfl (by kernel_rfl) rfl (fun w hS => K.QR.k (v := .pointer (some ⟨p, 4, none⟩)) (by kernel_rfl)) (hS.pick [0]) ?_
 refine K.DW.q 4 (by kernel_rfl) rfl rfl (by kernel_rfl) rfl (fun w hS => K.QR.ld1 (v := .int .i64 S.t) rfl rfl (by kernel_rfl) ((hS.blk 0 rfl hgp).cell rfl)) (hS.pick [0]) ?_
 refine K.DW.q 5 (by kernel_rfl) rfl rfl (by kernel_rfl) rfl (fun w hS => K.QR.k (v := .pointer (some ⟨p, 0, none⟩)) (by kernel_rfl)) (hS.pick [0]) ?_
 refine K.DW.q 6 (by kernel_rfl) rfl rfl (by kernel_rfl) rfl (fun w hS => K.QR.k (v := .pointer (some ⟨p, 0, none⟩)) (by kernel_rfl)) (hS.pick [0]) ?_
 refine K.DW.q 7 (by kernel_rfl) rfl rfl (by kernel_rfl) rfl (fun w hS => K.QR.k (v := .pointer (some ⟨p, 0, none⟩)) (by kernel_rfl)) (hS.pick [0]) ?_
 refine K.DW.q 8 (by kernel_rfl) rfl rfl (by kernel_rfl) rfl (fun w hS => K.QR.ldN [.int .i64 c.th, .int .i64 c.sl, .int .i64 c.lo, .int .i64 c.bu] rfl rfl (by kernel_rfl) (by kernel_rfl) (K.cells (K.cl ((hS.blk 0 rfl hgp).cell rfl) (K.cl ((hS.blk 0 rfl hgp).cell rfl) (K.cl ((hS.blk 0 rfl hgp).cell rfl) (K.cl ((hS.blk 0 rfl hgp).cell rfl) K.cl0)))))) (hS.pick [0]) ?_
 refine K.DW.l 9 rfl (by kernel_rfl) rfl (K.OW.q rfl (K.QR.k (v := .pointer (some ⟨p, 0, none⟩)) (by kernel_rfl)) ?_)
 refine ⟨.inl (hS.pick [0]), ?_⟩
 refine K.DW.l 10 rfl (by kernel_rfl) rfl (K.OW.q rfl (K.QR.k (v := .pointer (some ⟨p, 0, none⟩)) (by kernel_rfl)) ?_)
 refine ⟨.inl (hS.pick [0]), ?_⟩
 refine K.DW.l 11 rfl (by kernel_rfl) rfl (K.OW.q rfl (K.QR.k (v := .pointer (some ⟨p, 4, none⟩)) (by kernel_rfl)) ?_)
 refine ⟨.inl (hS.pick [0]), ?_⟩
 refine K.DW.l 12 rfl (by kernel_rfl) rfl (K.OW.q rfl (K.QR.ld1 (v := .int .i64 S.t) rfl rfl (by kernel_rfl) ((hS.blk 0 rfl hgp).cell rfl)) ?_)
 refine ⟨.inl (hS.pick [0]), ?_⟩
 refine K.DW.l 13 rfl (by kernel_rfl) rfl (K.OW.gcall hS [] [0, 1, 2] [.agg #[.int .i64 c.th, .int .i64 c.sl, .int .i64 c.lo, .int .i64 c.bu], .int .i64 S.t] (rannounce_ok _ c (by first | assumption | (unfold cfgOk; decide)) S.t) ?_)
 clear hS; rintro _ _ w ⟨rfl, rfl⟩ hS
 replace hS : K.Sat w0 [gp, l, fr] w := hS
 refine ⟨.inl (hS.pick [0]), ?_⟩
 refine K.DW.l 14 rfl (by kernel_rfl) rfl (K.OW.gcall hS [1] [0, 2] [.pointer (some ⟨pm, 0, none⟩), .int .i64 2, .int .i64 S.t, .int .i64 (annS c S.t), .int .u64 0, .int .u64 0] (rmDo2_ok _ _ _ _ _ _ _ x S.t (annS c S.t) (0 : Int) (0 : Int) (by omega) (by first | omega | exact aft_int (by assumption) _ | exact ann_int (by assumption) _ (by omega))) ?_)
 clear hS; rintro _ _ w ⟨l_1, rfl, rfl, x_2⟩ hS
 replace hS : K.Sat w0 [l_1, gp, fr] w := hS
 refine ⟨.inl (hS.pick [1]), ?_⟩
 refine K.DW.done (by kernel_rfl) ?_
 refine K.t (K.s (K.g (K.q [.pointer (some ⟨p, 0, none⟩), .pointer (some ⟨p, 0, none⟩), .pointer (some ⟨p, 6, none⟩)] ?_)))
 refine K.l (K.OW.gst 1 [.int .i64 0] [.int .i64 c.th, .int .i64 c.sl, .int .i64 c.lo, .int .i64 c.bu, .int .i64 S.t, .int .i64 1, .int .i64 0, .int .u64 0, .bool false] hS hgp ?_)
 clear hS; intro w g_3 hg_4 hS
 replace hS : K.Sat w0 [l_1, g_3, fr] w := hS
 refine K.z (K.t (K.r (K.u ?_)))
 have e : stepE c n (.le S) M = (.le ⟨S.t, true⟩, (M.accS n S.t (annS c S.t) 0).1) := by
  show (MachE.le (leaStep c n S M).1, (leaStep c n S M).2) = _
  have : leaStep c n S M = (⟨S.t, true⟩, (M.accS n S.t (annS c S.t) 0).1) := by unfold leaStep; rw [if_neg (by rw [hd]; decide)]
  rw [this]
 refine ⟨.inr rfl, rfl, (.tuple #[]), K.res0 rfl, [g_3, l_1], ?_, hS.pick [1, 0, 2]⟩
 exact ⟨_, _, rfl, rfl, by rw [e]; exact hg_4, by rw [e]; exact x_2⟩
set_option maxHeartbeats 1000000 in
set_option maxRecDepth 100000 in
theorem r10_ad0 (w0 : World) (p pm q n t : Nat) (c : Cfg) (hc : cfgOk c) (S : AdvS) (M : MemM) (gp l : K.Cs) (hd : S.done = true) (hgp : gp = [K.pt p 51 [.int .i64 c.th, .int .i64 c.sl, .int .i64 c.lo, .int .i64 c.bu, .int .i64 S.t, .int .i64 2, .int .i64 0, .int .u64 S.now, .bool S.moved]]) (x : RMemAt l pm q n t M) (hM : M.good) (hS : S.good) :
  K.GC Tryz.prog w0 10 #[.pointer (some ⟨p, 0, none⟩), .pointer (some ⟨pm, 0, none⟩)] [gp, l] (fun v post => ∃ gp' l', v = .tuple #[] ∧ post = [gp', l'] ∧ gp' = rmachPt p c (stepE c n (.ad S) M).1 ∧ RMemAt l' pm q n t (stepE c n (.ad S) M).2) := by
 obtain ⟨hSt, hSn, hSx, hSp⟩ := hS
 have hcc := hc
 unfold cfgOk at hcc
 refine K.GC.mk (n := 151) Tryz.func10 rfl rfl [.pointer (some ⟨p, 0, none⟩), .pointer (some ⟨pm, 0, none⟩)] rfl rfl ?_
 intro fr w hS
 replace hS : K.Sat w0 [gp, l, fr] w := hS
 refine K.s (K.s (K.g (K.q [.pointer (some ⟨p, 0, none⟩), .pointer (some ⟨p, 0, none⟩), .pointer (some ⟨p, 6, none⟩)] ?_)))
 refine K.d (.int .i64 0) ((hS.blk 0 rfl hgp).cell rfl) ?_
 refine K.q [.bool true] (K.z (K.t (K.h (K.r (K.u ?_)))))
 have e : stepE c n (.ad S) M = (.ad S, M) := by
  show (MachE.ad (advStep c n S M).1, (advStep c n S M).2) = _
  have : advStep c n S M = (S, M) := by unfold advStep; rw [if_pos hd]
  rw [this]
 refine ⟨.inr rfl, rfl, (.tuple #[]), K.res0 rfl, [gp, l], ?_, hS.pick [0, 1, 2]⟩
 exact ⟨_, _, rfl, rfl, by rw [e]; simp only [rmachPt, tE, kindE, lineE, nowE, MachE.moved, hd]; exact hgp, by rw [e]; exact x⟩
set_option maxHeartbeats 1000000 in
set_option maxRecDepth 100000 in
theorem r10_ad1 (w0 : World) (p pm q n t : Nat) (c : Cfg) (hc : cfgOk c) (S : AdvS) (M : MemM) (gp l : K.Cs) (hd : S.done = false) (hp : S.pc = 0) (hgp : gp = [K.pt p 51 [.int .i64 c.th, .int .i64 c.sl, .int .i64 c.lo, .int .i64 c.bu, .int .i64 S.t, .int .i64 2, .int .i64 1, .int .u64 S.now, .bool S.moved]]) (x : RMemAt l pm q n t M) (hM : M.good) (hS : S.good) :
  K.GC Tryz.prog w0 10 #[.pointer (some ⟨p, 0, none⟩), .pointer (some ⟨pm, 0, none⟩)] [gp, l] (fun v post => ∃ gp' l', v = .tuple #[] ∧ post = [gp', l'] ∧ gp' = rmachPt p c (stepE c n (.ad S) M).1 ∧ RMemAt l' pm q n t (stepE c n (.ad S) M).2) := by
 obtain ⟨hSt, hSn, hSx, hSp⟩ := hS
 have hcc := hc
 unfold cfgOk at hcc
 refine K.GC.mk (n := 151) Tryz.func10 rfl rfl [.pointer (some ⟨p, 0, none⟩), .pointer (some ⟨pm, 0, none⟩)] rfl rfl ?_
 intro fr w hS
 replace hS : K.Sat w0 [gp, l, fr] w := hS
 refine K.s (K.s (K.g (K.q [.pointer (some ⟨p, 0, none⟩), .pointer (some ⟨p, 0, none⟩), .pointer (some ⟨p, 6, none⟩)] ?_)))
 refine K.d (.int .i64 1) ((hS.blk 0 rfl hgp).cell rfl) ?_
 refine K.q [.bool false] (K.z (K.t (K.f (K.k (K.t (K.s (K.s (K.g (K.q [.pointer (some ⟨p, 0, none⟩), .pointer (some ⟨p, 0, none⟩), .pointer (some ⟨p, 5, none⟩)] ?_)))))))))
 refine K.d (.int .i64 2) ((hS.blk 0 rfl hgp).cell rfl) ?_
 refine K.q [.bool false] (K.z (K.t (K.f (K.k (K.t (K.s (K.s (K.g (K.q [.pointer (some ⟨p, 0, none⟩), .pointer (some ⟨p, 0, none⟩), .pointer (some ⟨p, 6, none⟩)] ?_)))))))))
 refine K.d (.int .i64 1) ((hS.blk 0 rfl hgp).cell rfl) ?_
 refine K.q [.bool true] (K.z (K.t (K.h (K.s (K.g (K.q [.pointer (some ⟨p, 0, none⟩), .pointer (some ⟨pm, 0, none⟩), .pointer (some ⟨p, 0, none⟩), .pointer (some ⟨p, 0, none⟩), .pointer (some ⟨p, 4, none⟩)] ?_))))))
 refine K.d (.int .i64 S.t) ((hS.blk 0 rfl hgp).cell rfl) ?_
 refine K.l (K.OW.gcall hS [1] [0, 2] [.pointer (some ⟨pm, 0, none⟩), .int .i64 1, .int .i64 S.t, .int .i64 (-1), .int .u64 0, .int .u64 0] (rmDo1_ok _ _ _ _ _ _ _ x S.t ((-1) : Int) (0 : Int) (0 : Int) (by omega) (by first | omega | exact aft_int (by assumption) _ | exact ann_int (by assumption) _ (by omega))) ?_)
 clear hS; rintro _ _ w ⟨l_1, rfl, rfl, x_2⟩ hS
 replace hS : K.Sat w0 [l_1, gp, fr] w := hS
 have hw_3 : isW (M.accL n S.t ((-1) : Int)).2.old := (accL_good (by assumption)).2
 refine K.q [.int .u64 ((M.accL n S.t ((-1) : Int)).2.old), .pointer (some ⟨p, 0, none⟩), .pointer (some ⟨p, 7, none⟩)] ?_
 refine K.l (K.OW.gst 1 [.int .u64 ((M.accL n S.t ((-1) : Int)).2.old)] [.int .i64 c.th, .int .i64 c.sl, .int .i64 c.lo, .int .i64 c.bu, .int .i64 S.t, .int .i64 2, .int .i64 1, .int .u64 ((M.accL n S.t ((-1) : Int)).2.old), .bool S.moved] hS hgp ?_)
 clear hS; intro w g_4 hg_5 hS
 replace hS : K.Sat w0 [l_1, g_4, fr] w := hS
 refine K.z (K.t (K.s (K.g (K.q [.pointer (some ⟨p, 0, none⟩), .pointer (some ⟨p, 0, none⟩), .pointer (some ⟨p, 6, none⟩)] ?_))))
 refine K.l (K.OW.gst 1 [.int .i64 2] [.int .i64 c.th, .int .i64 c.sl, .int .i64 c.lo, .int .i64 c.bu, .int .i64 S.t, .int .i64 2, .int .i64 2, .int .u64 ((M.accL n S.t ((-1) : Int)).2.old), .bool S.moved] hS hg_5 ?_)
 clear hS; intro w g_6 hg_7 hS
 replace hS : K.Sat w0 [l_1, g_6, fr] w := hS
 refine K.z (K.t (K.r (K.u ?_)))
 have hnx : S.next = 0 := by
  rcases hSp with h | h | h
  ·rw [hd] at h; cases h
  ·exact h.2
  ·omega
 have e : stepE c n (.ad S) M = (.ad ⟨S.t, S.done, 1, (M.accL n S.t (-1)).2.old, S.next, S.moved⟩, (M.accL n S.t (-1)).1) := by
  show (MachE.ad (advStep c n S M).1, (advStep c n S M).2) = _
  have : advStep c n S M = (⟨S.t, S.done, 1, (M.accL n S.t (-1)).2.old, S.next, S.moved⟩, (M.accL n S.t (-1)).1) := by unfold advStep; rw [if_neg (by rw [hd]; decide), if_pos hp]
  rw [this]
 refine ⟨.inr rfl, rfl, (.tuple #[]), K.res0 rfl, [g_6, l_1], ?_, hS.pick [1, 0, 2]⟩
 exact ⟨_, _, rfl, rfl, by rw [e]; simp only [rmachPt, tE, kindE, lineE, nowE, MachE.moved, hd, hnx]; exact hg_7, by rw [e]; exact x_2⟩
set_option maxHeartbeats 1000000 in
set_option maxRecDepth 100000 in
theorem r10_ad2 (w0 : World) (p pm q n t : Nat) (c : Cfg) (hc : cfgOk c) (S : AdvS) (M : MemM) (gp l : K.Cs) (hd : S.done = false) (hp : S.pc = 1) (hgp : gp = [K.pt p 51 [.int .i64 c.th, .int .i64 c.sl, .int .i64 c.lo, .int .i64 c.bu, .int .i64 S.t, .int .i64 2, .int .i64 (2 + S.next), .int .u64 S.now, .bool S.moved]]) (x : RMemAt l pm q n t M) (hM : M.good) (hS : S.good) :
  K.GC Tryz.prog w0 10 #[.pointer (some ⟨p, 0, none⟩), .pointer (some ⟨pm, 0, none⟩)] [gp, l] (fun v post => ∃ gp' l', v = .tuple #[] ∧ post = [gp', l'] ∧ gp' = rmachPt p c (stepE c n (.ad S) M).1 ∧ RMemAt l' pm q n t (stepE c n (.ad S) M).2) := by
 obtain ⟨hSt, hSn, hSx, hSp⟩ := hS
 have hcc := hc
 unfold cfgOk at hcc
 refine K.GC.mk (n := 151) Tryz.func10 rfl rfl [.pointer (some ⟨p, 0, none⟩), .pointer (some ⟨pm, 0, none⟩)] rfl rfl ?_
 intro fr w hS
 replace hS : K.Sat w0 [gp, l, fr] w := hS
 refine K.s (K.s (K.g (K.q [.pointer (some ⟨p, 0, none⟩), .pointer (some ⟨p, 0, none⟩), .pointer (some ⟨p, 6, none⟩)] ?_)))
 refine K.d (.int .i64 (2 + S.next)) ((hS.blk 0 rfl hgp).cell rfl) ?_
 refine K.xe ((2 + S.next) : Int) (0 : Int) (by omega) ?_
 refine K.z (K.t (K.f (K.k (K.t (K.s (K.s (K.g (K.q [.pointer (some ⟨p, 0, none⟩), .pointer (some ⟨p, 0, none⟩), .pointer (some ⟨p, 5, none⟩)] ?_))))))))
 refine K.d (.int .i64 2) ((hS.blk 0 rfl hgp).cell rfl) ?_
 refine K.q [.bool false] (K.z (K.t (K.f (K.k (K.t (K.s (K.s (K.g (K.q [.pointer (some ⟨p, 0, none⟩), .pointer (some ⟨p, 0, none⟩), .pointer (some ⟨p, 6, none⟩)] ?_)))))))))
 refine K.d (.int .i64 (2 + S.next)) ((hS.blk 0 rfl hgp).cell rfl) ?_
 refine K.xe ((2 + S.next) : Int) (1 : Int) (by omega) ?_
 refine K.z (K.t (K.f (K.k (K.t (K.s (K.s (K.g (K.q [.pointer (some ⟨p, 0, none⟩), .pointer (some ⟨p, 0, none⟩), .pointer (some ⟨p, 5, none⟩)] ?_))))))))
 refine K.d (.int .i64 2) ((hS.blk 0 rfl hgp).cell rfl) ?_
 refine K.q [.bool false] (K.z (K.t (K.f (K.k (K.t (K.s (K.s ?_)))))))
 refine K.KW.gdrawn [0] hS (by kernel_rfl) ?_
 clear hS; intro w hS
 refine K.DW.q 0 (by kernel_rfl) rfl rfl (by kernel_rfl) rfl (fun w hS => K.QR.k (v := .pointer (some ⟨p, 0, none⟩)) (by kernel_rfl)) (hS.pick [0]) ?_
 refine K.DW.q 1 (by kernel_rfl) rfl rfl (by kernel_rfl) rfl (fun w hS => K.QR.k (v := .pointer (some ⟨p, 0, none⟩)) (by kernel_rfl)) (hS.pick [0]) ?_
 refine K.DW.q 2 (by kernel_rfl) rfl rfl (by kernel_rfl) rfl (fun w hS => K.QR.k (v := .pointer (some ⟨p, 6, none⟩)) (by kernel_rfl)) (hS.pick [0]) ?_
 refine K.DW.q 3 (by kernel_rfl) rfl rfl (by kernel_rfl) rfl (fun w hS => K.QR.ld1 (v := .int .i64 (2 + S.next)) rfl rfl (by kernel_rfl) ((hS.blk 0 rfl hgp).cell rfl)) (hS.pick [0]) ?_
 refine K.DW.q 4 (by kernel_rfl) rfl rfl (by kernel_rfl) rfl (fun w hS => K.QR.turn (v := .int .i64 (((2 + S.next) : Int) - (2 : Int))) (K.QR.n64 (((2 + S.next) : Int) - (2 : Int)) (((2 + S.next) : Int) - (2 : Int)) (by kernel_rfl) (by omega)) (congrArg (Value.int .i64) (show (((2 + S.next) : Int) - (2 : Int) : Int) = (S.next : Int) from by omega))) (hS.pick [0]) ?_
 refine K.DW.l 5 rfl (by kernel_rfl) rfl (K.OW.q rfl (K.QR.k (v := .pointer (some ⟨p, 0, none⟩)) (by kernel_rfl)) ?_)
 refine ⟨.inl (hS.pick [0]), ?_⟩
 refine K.DW.l 6 rfl (by kernel_rfl) rfl (K.OW.q rfl (K.QR.k (v := .pointer (some ⟨p, 0, none⟩)) (by kernel_rfl)) ?_)
 refine ⟨.inl (hS.pick [0]), ?_⟩
 refine K.DW.l 7 rfl (by kernel_rfl) rfl (K.OW.q rfl (K.QR.k (v := .pointer (some ⟨p, 0, none⟩)) (by kernel_rfl)) ?_)
 refine ⟨.inl (hS.pick [0]), ?_⟩
 refine K.DW.l 8 rfl (by kernel_rfl) rfl (K.OW.q rfl (K.QR.k (v := .pointer (some ⟨p, 0, none⟩)) (by kernel_rfl)) ?_)
 refine ⟨.inl (hS.pick [0]), ?_⟩
 refine K.DW.l 9 rfl (by kernel_rfl) rfl (K.OW.q rfl (K.QR.ld1 (v := .int .i64 c.th) rfl rfl (by kernel_rfl) ((hS.blk 0 rfl hgp).cell rfl)) ?_)
 refine ⟨.inl (hS.pick [0]), ?_⟩
 by_cases h_1 : (S.next : Int) < (c.th : Int)
 ·
  refine K.DW.l 10 rfl (by kernel_rfl) rfl (K.OW.q rfl (K.QR.nice (v := .bool (decide ((S.next : Int) < (c.th : Int)))) (by kernel_rfl) (congrArg Value.bool (decide_eq_true h_1))) ?_)
  refine ⟨.inl (hS.pick [0]), ?_⟩
  refine K.DW.done (by kernel_rfl) ?_
  refine K.t (K.h (K.s ?_))
  refine K.KW.gdrawn [0] hS (by kernel_rfl) ?_
  clear hS; intro w hS
  refine K.DW.q 0 (by kernel_rfl) rfl rfl (by kernel_rfl) rfl (fun w hS => K.QR.k (v := .pointer (some ⟨pm, 0, none⟩)) (by kernel_rfl)) (hS.pick [0]) ?_
  refine K.DW.q 1 (by kernel_rfl) rfl rfl (by kernel_rfl) rfl (fun w hS => K.QR.k (v := .pointer (some ⟨p, 0, none⟩)) (by kernel_rfl)) (hS.pick [0]) ?_
  refine K.DW.q 2 (by kernel_rfl) rfl rfl (by kernel_rfl) rfl (fun w hS => K.QR.k (v := .pointer (some ⟨p, 0, none⟩)) (by kernel_rfl)) (hS.pick [0]) ?_
  refine K.DW.q 3 (by kernel_rfl) rfl rfl (by kernel_rfl) rfl (fun w hS => K.QR.k (v := .pointer (some ⟨p, 4, none⟩)) (by kernel_rfl)) (hS.pick [0]) ?_
  refine K.DW.q 4 (by kernel_rfl) rfl rfl (by kernel_rfl) rfl (fun w hS => K.QR.ld1 (v := .int .i64 S.t) rfl rfl (by kernel_rfl) ((hS.blk 0 rfl hgp).cell rfl)) (hS.pick [0]) ?_
  refine K.DW.q 5 (by kernel_rfl) rfl rfl (by kernel_rfl) rfl (fun w hS => K.QR.k (v := .pointer (some ⟨p, 0, none⟩)) (by kernel_rfl)) (hS.pick [0]) ?_
  refine K.DW.q 6 (by kernel_rfl) rfl rfl (by kernel_rfl) rfl (fun w hS => K.QR.k (v := .pointer (some ⟨p, 0, none⟩)) (by kernel_rfl)) (hS.pick [0]) ?_
  refine K.DW.q 7 (by kernel_rfl) rfl rfl (by kernel_rfl) rfl (fun w hS => K.QR.k (v := .pointer (some ⟨p, 0, none⟩)) (by kernel_rfl)) (hS.pick [0]) ?_
  refine K.DW.q 8 (by kernel_rfl) rfl rfl (by kernel_rfl) rfl (fun w hS => K.QR.ldN [.int .i64 c.th, .int .i64 c.sl, .int .i64 c.lo, .int .i64 c.bu] rfl rfl (by kernel_rfl) (by kernel_rfl) (K.cells (K.cl ((hS.blk 0 rfl hgp).cell rfl) (K.cl ((hS.blk 0 rfl hgp).cell rfl) (K.cl ((hS.blk 0 rfl hgp).cell rfl) (K.cl ((hS.blk 0 rfl hgp).cell rfl) K.cl0)))))) (hS.pick [0]) ?_
  refine K.DW.l 9 rfl (by kernel_rfl) rfl (K.OW.q rfl (K.QR.k (v := .pointer (some ⟨p, 0, none⟩)) (by kernel_rfl)) ?_)
  refine ⟨.inl (hS.pick [0]), ?_⟩
  refine K.DW.l 10 rfl (by kernel_rfl) rfl (K.OW.q rfl (K.QR.k (v := .pointer (some ⟨p, 0, none⟩)) (by kernel_rfl)) ?_)
  refine ⟨.inl (hS.pick [0]), ?_⟩
  refine K.DW.l 11 rfl (by kernel_rfl) rfl (K.OW.q rfl (K.QR.k (v := .pointer (some ⟨p, 6, none⟩)) (by kernel_rfl)) ?_)
  refine ⟨.inl (hS.pick [0]), ?_⟩
  refine K.DW.l 12 rfl (by kernel_rfl) rfl (K.OW.q rfl (K.QR.ld1 (v := .int .i64 (2 + S.next)) rfl rfl (by kernel_rfl) ((hS.blk 0 rfl hgp).cell rfl)) ?_)
  refine ⟨.inl (hS.pick [0]), ?_⟩
  refine K.DW.l 13 rfl (by kernel_rfl) rfl (K.OW.q rfl (K.QR.turn (v := .int .i64 (((2 + S.next) : Int) - (2 : Int))) (K.QR.n64 (((2 + S.next) : Int) - (2 : Int)) (((2 + S.next) : Int) - (2 : Int)) (by kernel_rfl) (by omega)) (congrArg (Value.int .i64) (show (((2 + S.next) : Int) - (2 : Int) : Int) = (S.next : Int) from by omega))) ?_)
  refine ⟨.inl (hS.pick [0]), ?_⟩
  refine K.DW.l 14 rfl (by kernel_rfl) rfl (K.OW.gcall hS [] [0, 1, 2] [.agg #[.int .i64 c.th, .int .i64 c.sl, .int .i64 c.lo, .int .i64 c.bu], .int .i64 S.next] (rannounce_ok _ c (by first | assumption | (unfold cfgOk; decide)) S.next) ?_)
  clear hS; rintro _ _ w ⟨rfl, rfl⟩ hS
  replace hS : K.Sat w0 [gp, l, fr] w := hS
  refine ⟨.inl (hS.pick [0]), ?_⟩
  refine K.DW.l 15 rfl (by kernel_rfl) rfl (K.OW.gcall hS [1] [0, 2] [.pointer (some ⟨pm, 0, none⟩), .int .i64 1, .int .i64 S.t, .int .i64 (annS c S.next), .int .u64 0, .int .u64 0] (rmDo1_ok _ _ _ _ _ _ _ x S.t (annS c S.next) (0 : Int) (0 : Int) (by omega) (by first | omega | exact aft_int (by assumption) _ | exact ann_int (by assumption) _ (by omega))) ?_)
  clear hS; rintro _ _ w ⟨l_2, rfl, rfl, x_3⟩ hS
  replace hS : K.Sat w0 [l_2, gp, fr] w := hS
  have hw_4 : isW (M.accL n S.t (annS c S.next)).2.old := (accL_good (by assumption)).2
  refine ⟨.inl (hS.pick [1]), ?_⟩
  refine K.DW.l 16 rfl (by kernel_rfl) rfl (K.OW.q rfl (K.QR.k (v := .int .u64 ((M.accL n S.t (annS c S.next)).2.old)) (by kernel_rfl)) ?_)
  refine ⟨.inl (hS.pick [1]), ?_⟩
  refine K.DW.l 17 rfl (by kernel_rfl) rfl (K.OW.q rfl (K.QR.k (v := .int .u64 ((M.accL n S.t (annS c S.next)).2.old)) (by kernel_rfl)) ?_)
  refine ⟨.inl (hS.pick [1]), ?_⟩
  refine K.DW.done (by kernel_rfl) ?_
  refine K.t (K.s (K.g (K.q [.pointer (some ⟨p, 0, none⟩), .pointer (some ⟨p, 0, none⟩), .pointer (some ⟨p, 0, none⟩), .pointer (some ⟨p, 6, none⟩)] ?_)))
  refine K.d (.int .i64 (2 + S.next)) ((hS.blk 1 rfl hgp).cell rfl) ?_
  refine K.a (K.QR.turn (v := .int .i64 (((2 + S.next) : Int) + (1 : Int))) (K.QR.n64 (((2 + S.next) : Int) + (1 : Int)) (((2 + S.next) : Int) + (1 : Int)) (by kernel_rfl) (by omega)) (congrArg (Value.int .i64) (show (((2 + S.next) : Int) + (1 : Int) : Int) = (2 + (S.next + 1) : Int) from by omega))) ?_
  refine K.q [.pointer (some ⟨p, 0, none⟩), .pointer (some ⟨p, 6, none⟩)] ?_
  refine K.l (K.OW.gst 1 [.int .i64 (2 + (S.next + 1))] [.int .i64 c.th, .int .i64 c.sl, .int .i64 c.lo, .int .i64 c.bu, .int .i64 S.t, .int .i64 2, .int .i64 (2 + (S.next + 1)), .int .u64 S.now, .bool S.moved] hS hgp ?_)
  clear hS; intro w g_5 hg_6 hS
  replace hS : K.Sat w0 [l_2, g_5, fr] w := hS
  refine K.z (K.t (K.s (K.s (K.g (K.q [.int .u64 ((M.accL n S.t (annS c S.next)).2.old)] ?_)))))
  by_cases h_7 : ((M.accL n S.t (annS c S.next)).2.old : Int) = (0 : Int)
  ·
   refine K.xn ((M.accL n S.t (annS c S.next)).2.old : Int) (0 : Int) h_7 ?_
   refine K.q [.bool false] ?_
   refine K.RW.skip rfl (by kernel_rfl) ?_
   refine K.RW.skip rfl (by kernel_rfl) ?_
   refine K.RW.skip rfl (by kernel_rfl) ?_
   refine K.RW.skip rfl (by kernel_rfl) ?_
   refine K.RW.skip rfl (by kernel_rfl) ?_
   refine K.RW.skip rfl (by kernel_rfl) ?_
   refine K.RW.skip rfl (by kernel_rfl) ?_
   refine K.q [.bool false] (K.z (K.t (K.f (K.k (K.t (K.r (K.u ?_)))))))
   have hdc : decide (askW c n S M ≠ 0 ∧ askW c n S M ≠ inc64 S.now) = false := decide_eq_false (by unfold askW; omega)
   have e : stepE c n (.ad S) M = (.ad ⟨S.t, false, S.pc, S.now, S.next + 1, S.moved⟩, (M.accL n S.t (annS c S.next)).1) := by
    show (MachE.ad (advStep c n S M).1, (advStep c n S M).2) = _
    have : advStep c n S M = askS c n S M := by unfold advStep; rw [if_neg (by rw [hd]; decide), if_neg (by omega), if_pos (by omega)]
    rw [this]; unfold askS; rw [hdc]
   refine ⟨.inr rfl, rfl, (.tuple #[]), K.res0 rfl, [g_5, l_2], ?_, hS.pick [1, 0, 2]⟩
   exact ⟨_, _, rfl, rfl, by rw [e]; simp only [rmachPt, tE, kindE, lineE, nowE, MachE.moved, hp]; exact hg_6, by rw [e]; exact x_3⟩
  ·
   refine K.yn ((M.accL n S.t (annS c S.next)).2.old : Int) (0 : Int) h_7 ?_
   refine K.q [.bool true, .int .u64 ((M.accL n S.t (annS c S.next)).2.old), .pointer (some ⟨p, 0, none⟩), .pointer (some ⟨p, 0, none⟩), .pointer (some ⟨p, 7, none⟩)] ?_
   refine K.d (.int .u64 S.now) ((hS.blk 1 rfl hg_6).cell rfl) ?_
   refine K.a (K.QR.turn (v := .int .u64 (IntKind.u64.wrap ((S.now : Int) + (1 : Int)))) (K.QR.k (v := .int .u64 (IntKind.u64.wrap ((S.now : Int) + (1 : Int)))) (by kernel_rfl)) (congrArg (Value.int .u64) (show (IntKind.u64.wrap ((S.now : Int) + (1 : Int)) : Int) = (inc64 S.now : Int) from wrapU _))) ?_
   by_cases h_8 : ((M.accL n S.t (annS c S.next)).2.old : Int) = (inc64 S.now : Int)
   ·
    refine K.xn ((M.accL n S.t (annS c S.next)).2.old : Int) (inc64 S.now : Int) h_8 ?_
    refine K.q [.bool false] (K.z (K.t (K.f (K.k (K.t (K.r (K.u ?_)))))))
    have hdc : decide (askW c n S M ≠ 0 ∧ askW c n S M ≠ inc64 S.now) = false := decide_eq_false (by unfold askW; omega)
    have e : stepE c n (.ad S) M = (.ad ⟨S.t, false, S.pc, S.now, S.next + 1, S.moved⟩, (M.accL n S.t (annS c S.next)).1) := by
     show (MachE.ad (advStep c n S M).1, (advStep c n S M).2) = _
     have : advStep c n S M = askS c n S M := by unfold advStep; rw [if_neg (by rw [hd]; decide), if_neg (by omega), if_pos (by omega)]
     rw [this]; unfold askS; rw [hdc]
    refine ⟨.inr rfl, rfl, (.tuple #[]), K.res0 rfl, [g_5, l_2], ?_, hS.pick [1, 0, 2]⟩
    exact ⟨_, _, rfl, rfl, by rw [e]; simp only [rmachPt, tE, kindE, lineE, nowE, MachE.moved, hp]; exact hg_6, by rw [e]; exact x_3⟩
   ·
    refine K.yn ((M.accL n S.t (annS c S.next)).2.old : Int) (inc64 S.now : Int) h_8 ?_
    refine K.q [.bool true] (K.z (K.t (K.h (K.g (K.q [.pointer (some ⟨p, 0, none⟩), .pointer (some ⟨p, 0, none⟩), .pointer (some ⟨p, 6, none⟩)] ?_)))))
    refine K.l (K.OW.gst 1 [.int .i64 0] [.int .i64 c.th, .int .i64 c.sl, .int .i64 c.lo, .int .i64 c.bu, .int .i64 S.t, .int .i64 2, .int .i64 0, .int .u64 S.now, .bool S.moved] hS hg_6 ?_)
    clear hS; intro w g_9 hg_10 hS
    replace hS : K.Sat w0 [l_2, g_9, fr] w := hS
    refine K.z (K.t (K.r (K.u ?_)))
    have hdc : decide (askW c n S M ≠ 0 ∧ askW c n S M ≠ inc64 S.now) = true := decide_eq_true (by unfold askW; omega)
    have e : stepE c n (.ad S) M = (.ad ⟨S.t, true, S.pc, S.now, S.next + 1, S.moved⟩, (M.accL n S.t (annS c S.next)).1) := by
     show (MachE.ad (advStep c n S M).1, (advStep c n S M).2) = _
     have : advStep c n S M = askS c n S M := by unfold advStep; rw [if_neg (by rw [hd]; decide), if_neg (by omega), if_pos (by omega)]
     rw [this]; unfold askS; rw [hdc]
    refine ⟨.inr rfl, rfl, (.tuple #[]), K.res0 rfl, [g_9, l_2], ?_, hS.pick [1, 0, 2]⟩
    exact ⟨_, _, rfl, rfl, by rw [e]; simp only [rmachPt, tE, kindE, lineE, nowE, MachE.moved, hp]; exact hg_10, by rw [e]; exact x_3⟩
 ·
  refine K.DW.l 10 rfl (by kernel_rfl) rfl (K.OW.q rfl (K.QR.nice (v := .bool (decide ((S.next : Int) < (c.th : Int)))) (by kernel_rfl) (congrArg Value.bool (decide_eq_false h_1))) ?_)
  refine ⟨.inl (hS.pick [0]), ?_⟩
  refine K.DW.done (by kernel_rfl) ?_
  refine K.t (K.f (K.k (K.t (K.s ?_))))
  refine K.KW.gdrawn [0] hS (by kernel_rfl) ?_
  clear hS; intro w hS
  refine K.DW.q 0 (by kernel_rfl) rfl rfl (by kernel_rfl) rfl (fun w hS => K.QR.k (v := .pointer (some ⟨p, 0, none⟩)) (by kernel_rfl)) (hS.pick [0]) ?_
  refine K.DW.q 1 (by kernel_rfl) rfl rfl (by kernel_rfl) rfl (fun w hS => K.QR.k (v := .pointer (some ⟨pm, 0, none⟩)) (by kernel_rfl)) (hS.pick [0]) ?_
  refine K.DW.q 2 (by kernel_rfl) rfl rfl (by kernel_rfl) rfl (fun w hS => K.QR.k (v := .pointer (some ⟨p, 0, none⟩)) (by kernel_rfl)) (hS.pick [0]) ?_
  refine K.DW.q 3 (by kernel_rfl) rfl rfl (by kernel_rfl) rfl (fun w hS => K.QR.k (v := .pointer (some ⟨p, 0, none⟩)) (by kernel_rfl)) (hS.pick [0]) ?_
  refine K.DW.q 4 (by kernel_rfl) rfl rfl (by kernel_rfl) rfl (fun w hS => K.QR.k (v := .pointer (some ⟨p, 4, none⟩)) (by kernel_rfl)) (hS.pick [0]) ?_
  refine K.DW.q 5 (by kernel_rfl) rfl rfl (by kernel_rfl) rfl (fun w hS => K.QR.ld1 (v := .int .i64 S.t) rfl rfl (by kernel_rfl) ((hS.blk 0 rfl hgp).cell rfl)) (hS.pick [0]) ?_
  refine K.DW.q 6 (by kernel_rfl) rfl rfl (by kernel_rfl) rfl (fun w hS => K.QR.k (v := .pointer (some ⟨p, 0, none⟩)) (by kernel_rfl)) (hS.pick [0]) ?_
  refine K.DW.q 7 (by kernel_rfl) rfl rfl (by kernel_rfl) rfl (fun w hS => K.QR.k (v := .pointer (some ⟨p, 0, none⟩)) (by kernel_rfl)) (hS.pick [0]) ?_
  refine K.DW.q 8 (by kernel_rfl) rfl rfl (by kernel_rfl) rfl (fun w hS => K.QR.k (v := .pointer (some ⟨p, 7, none⟩)) (by kernel_rfl)) (hS.pick [0]) ?_
  refine K.DW.q 9 (by kernel_rfl) rfl rfl (by kernel_rfl) rfl (fun w hS => K.QR.ld1 (v := .int .u64 S.now) rfl rfl (by kernel_rfl) ((hS.blk 0 rfl hgp).cell rfl)) (hS.pick [0]) ?_
  refine K.DW.l 10 rfl (by kernel_rfl) rfl (K.OW.q rfl (K.QR.k (v := .pointer (some ⟨p, 0, none⟩)) (by kernel_rfl)) ?_)
  refine ⟨.inl (hS.pick [0]), ?_⟩
  refine K.DW.l 11 rfl (by kernel_rfl) rfl (K.OW.q rfl (K.QR.k (v := .pointer (some ⟨p, 0, none⟩)) (by kernel_rfl)) ?_)
  refine ⟨.inl (hS.pick [0]), ?_⟩
  refine K.DW.l 12 rfl (by kernel_rfl) rfl (K.OW.q rfl (K.QR.k (v := .pointer (some ⟨p, 7, none⟩)) (by kernel_rfl)) ?_)
  refine ⟨.inl (hS.pick [0]), ?_⟩
  refine K.DW.l 13 rfl (by kernel_rfl) rfl (K.OW.q rfl (K.QR.ld1 (v := .int .u64 S.now) rfl rfl (by kernel_rfl) ((hS.blk 0 rfl hgp).cell rfl)) ?_)
  refine ⟨.inl (hS.pick [0]), ?_⟩
  refine K.DW.l 14 rfl (by kernel_rfl) rfl (K.OW.q rfl (K.QR.turn (v := .int .u64 (IntKind.u64.wrap ((S.now : Int) + (1 : Int)))) (K.QR.k (v := .int .u64 (IntKind.u64.wrap ((S.now : Int) + (1 : Int)))) (by kernel_rfl)) (congrArg (Value.int .u64) (show (IntKind.u64.wrap ((S.now : Int) + (1 : Int)) : Int) = (inc64 S.now : Int) from wrapU _))) ?_)
  refine ⟨.inl (hS.pick [0]), ?_⟩
  refine K.DW.l 15 rfl (by kernel_rfl) rfl (K.OW.gcall hS [1] [0, 2] [.pointer (some ⟨pm, 0, none⟩), .int .i64 3, .int .i64 S.t, .int .i64 (-1), .int .u64 S.now, .int .u64 (inc64 S.now)] (rmDo3_ok _ _ _ _ _ _ _ x S.t ((-1) : Int) S.now (inc64 S.now) (by omega) (by first | omega | exact aft_int (by assumption) _ | exact ann_int (by assumption) _ (by omega))) ?_)
  clear hS; rintro _ _ w ⟨l_11, rfl, rfl, x_12⟩ hS
  replace hS : K.Sat w0 [l_11, gp, fr] w := hS
  refine ⟨.inl (hS.pick [1]), ?_⟩
  refine K.DW.l 16 rfl (by kernel_rfl) rfl (K.OW.q rfl (K.QR.k (v := .bool ((M.accW n S.t ((-1) : Int) S.now (inc64 S.now)).2.done)) (by kernel_rfl)) ?_)
  refine ⟨.inl (hS.pick [1]), ?_⟩
  refine K.DW.l 17 rfl (by kernel_rfl) rfl (K.OW.q rfl (K.QR.k (v := .pointer (some ⟨p, 0, none⟩)) (by kernel_rfl)) ?_)
  refine ⟨.inl (hS.pick [1]), ?_⟩
  refine K.DW.l 18 rfl (by kernel_rfl) rfl (K.OW.q rfl (K.QR.k (v := .pointer (some ⟨p, 8, none⟩)) (by kernel_rfl)) ?_)
  refine ⟨.inl (hS.pick [1]), ?_⟩
  refine K.DW.l 19 rfl (by kernel_rfl) rfl (K.OW.gst 1 [.bool ((M.accW n S.t ((-1) : Int) S.now (inc64 S.now)).2.done)] [.int .i64 c.th, .int .i64 c.sl, .int .i64 c.lo, .int .i64 c.bu, .int .i64 S.t, .int .i64 2, .int .i64 (2 + S.next), .int .u64 S.now, .bool ((M.accW n S.t ((-1) : Int) S.now (inc64 S.now)).2.done)] hS hgp ?_)
  clear hS; intro w g_13 hg_14 hS
  replace hS : K.Sat w0 [l_11, g_13, fr] w := hS
  refine ⟨.inr (by kernel_rfl), ?_⟩
  refine K.DW.done (by kernel_rfl) ?_
  refine K.t (K.g (K.q [.pointer (some ⟨p, 0, none⟩), .pointer (some ⟨p, 0, none⟩), .pointer (some ⟨p, 6, none⟩)] ?_))
  refine K.l (K.OW.gst 1 [.int .i64 0] [.int .i64 c.th, .int .i64 c.sl, .int .i64 c.lo, .int .i64 c.bu, .int .i64 S.t, .int .i64 2, .int .i64 0, .int .u64 S.now, .bool ((M.accW n S.t ((-1) : Int) S.now (inc64 S.now)).2.done)] hS hg_14 ?_)
  clear hS; intro w g_15 hg_16 hS
  replace hS : K.Sat w0 [l_11, g_15, fr] w := hS
  refine K.z ?_
  have e : stepE c n (.ad S) M = (.ad ⟨S.t, true, 2, S.now, S.next, (advA n S M).2.done⟩, (advA n S M).1) := by
   show (MachE.ad (advStep c n S M).1, (advStep c n S M).2) = _
   have : advStep c n S M = (⟨S.t, true, 2, S.now, S.next, (advA n S M).2.done⟩, (advA n S M).1) := by unfold advStep; rw [if_neg (by rw [hd]; decide), if_neg (by omega), if_neg (by omega)]
   rw [this]
  refine ⟨.inl rfl, rfl, (.tuple #[]), K.res0 rfl, [g_15, l_11], ?_, hS.pick [1, 0, 2]⟩
  exact ⟨_, _, rfl, rfl, by rw [e]; exact hg_16, by rw [e]; exact x_12⟩
theorem rmachStep_ok (w0 : World) (p pm q n t : Nat) (c : Cfg) (hc : cfgOk c) (x : MachE) (M : MemM) (gp l : K.Cs) (hn : x ≠ .no) (hgp : gp = rmachPt p c x) (y : RMemAt l pm q n t M) (hM : M.good) (hx : x.good) :
  K.GC Tryz.prog w0 10 #[.pointer (some ⟨p, 0, none⟩), .pointer (some ⟨pm, 0, none⟩)] [gp, l] (fun v post => ∃ gp' l', v = .tuple #[] ∧ post = [gp', l'] ∧ gp' = rmachPt p c (stepE c n x M).1 ∧ RMemAt l' pm q n t (stepE c n x M).2) := by
 cases x with
 | no => exact absurd rfl hn
 | en S =>
  by_cases hd : S.done = true
  ·exact r10_en0 w0 p pm q n t c hc S M gp l hd (by rw [hgp]; simp only [rmachPt, tE, kindE, lineE, nowE, MachE.moved, hd]; rfl) y hM hx
  have hd : S.done = false := by simpa using hd
  by_cases ht : S.told = true
  ·exact r10_en2 w0 p pm q n t c hc S M gp l hd ht (by rw [hgp]; simp only [rmachPt, tE, kindE, lineE, nowE, MachE.moved, hd, ht]; rfl) y hM hx
  have ht : S.told = false := by simpa using ht
  exact r10_en1 w0 p pm q n t c hc S M gp l hd ht (by rw [hgp]; simp only [rmachPt, tE, kindE, lineE, nowE, MachE.moved, hd, ht]; rfl) y hM hx
 | le S =>
  by_cases hd : S.done = true
  ·exact r10_le0 w0 p pm q n t c hc S M gp l hd (by rw [hgp]; simp only [rmachPt, tE, kindE, lineE, nowE, MachE.moved, hd]; rfl) y hM hx
  have hd : S.done = false := by simpa using hd
  exact r10_le1 w0 p pm q n t c hc S M gp l hd (by rw [hgp]; simp only [rmachPt, tE, kindE, lineE, nowE, MachE.moved, hd]; rfl) y hM hx
 | ad S =>
  by_cases hd : S.done = true
  ·exact r10_ad0 w0 p pm q n t c hc S M gp l hd (by rw [hgp]; simp only [rmachPt, tE, kindE, lineE, nowE, MachE.moved, hd]; rfl) y hM hx
  have hd : S.done = false := by simpa using hd
  have hg : S.good := hx
  rcases hg.2.2.2 with h | h | h
  ·rw [hd] at h; cases h
  ·exact r10_ad1 w0 p pm q n t c hc S M gp l hd h.1 (by rw [hgp]; simp only [rmachPt, tE, kindE, lineE, nowE, MachE.moved, hd, h.1]; rfl) y hM hx
  ·exact r10_ad2 w0 p pm q n t c hc S M gp l hd h (by rw [hgp]; simp only [rmachPt, tE, kindE, lineE, nowE, MachE.moved, hd, h]; rfl) y hM hx
theorem machMoved_ok (w0 : World) (b : Nat) (x : MachE) (u v w : Option Addr) (g : K.Cs) (h : MachEl b x u v w g) : K.GC Tryz.prog w0 15 #[.pointer w] [g] (fun r post => r = .bool x.moved ∧ post = [g]) := by
 have nil : ∀ g : K.Cs, K.GC Tryz.prog w0 15 #[.pointer none] [g] (fun r post => r = .bool false ∧ post = [g]) := fun g fr w hS => by
  refine K.KC.mono (advMoved_nil w0 [g, fr].flatten w (hS.of (by simp))) ?_
  rintro v w' ⟨post, ⟨rfl, rfl⟩, hS⟩
  exact ⟨[g], ⟨rfl, rfl⟩, hS.of (by simp)⟩
 cases x with
 | no => obtain ⟨rfl, rfl, rfl, rfl⟩ := h; exact nil _
 | en S => obtain ⟨p, rfl, rfl, rfl, hg⟩ := h; exact nil _
 | le S => obtain ⟨p, rfl, rfl, rfl, hg⟩ := h; exact nil _
 | ad S => obtain ⟨p, rfl, rfl, rfl, hg⟩ := h; exact advMoved_ok w0 p b S g hg
end Go.Proofs.YtajkickofkeemaaGreat
