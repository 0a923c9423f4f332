/- The document's machines of layer 9. -/
import Derived.Test.YtajkickofkeemaaGreatFfr3
import Derived.Test.YtajkickofkeemaaGreatKn
namespace Go.Proofs.YtajkickofkeemaaGreat
open Go.RowKit
set_option linter.unusedVariables false
attribute [local irreducible] K.KW K.RW K.DW K.OW K.QR K.KC

def lineOf (pc : Int) : Int := if pc = 3 then 0 else pc + 1
def pcOk (pc : Int) : Prop := pc = 0 ∨ pc = 1 ∨ pc = 2 ∨ pc = 3
theorem line_t {pc : Int} (h : pc = 3) : lineOf pc = 0 := by subst h; rfl
theorem line_f {pc : Int} (h : ¬ pc = 3) (hp : pcOk pc) : ¬ lineOf pc = 0 := by unfold lineOf; rw [if_neg h]; unfold pcOk at hp; omega
abbrev rpopPt (p : Nat) (c : Cfg) (S : PopS) : K.Cs := [K.pt p 60 [.int .i64 c.th, .int .i64 c.sl, .int .i64 c.lo, .int .i64 c.bu, .int .i64 S.t, .int .i64 (lineOf S.pc), .int .u64 S.top, .int .u64 S.next, .int .i64 S.slot]]
abbrev rpushPt (p : Nat) (c : Cfg) (S : PushS) : K.Cs := [K.pt p 67 [.int .i64 c.th, .int .i64 c.sl, .int .i64 c.lo, .int .i64 c.bu, .int .i64 S.t, .int .i64 (lineOf S.pc), .int .u64 S.top, .int .i64 S.slot]]
theorem popStep_pc {c : Cfg} {n : Nat} {S : PopS} {M : MemM} (h : pcOk S.pc) : pcOk (popStep c n S M).1.pc := by
 unfold popStep
 (repeat' split) <;> first | exact h | (unfold pcOk; simp; done) | (unfold pcOk; simp; split <;> simp)
theorem pushStep_pc {c : Cfg} {n : Nat} {S : PushS} {M : MemM} (h : pcOk S.pc) : pcOk (pushStep c n S M).1.pc := by
 unfold pushStep
 (repeat' split) <;> first | exact h | (unfold pcOk; simp; done) | (unfold pcOk; simp; split <;> simp)
theorem tmod32 (x : Int) : Int.tmod x 4294967296 = if 0 ≤ x then x % 4294967296 else -((-x) % 4294967296) := by
 split
 ·rename_i h; exact Int.tmod_eq_emod_of_nonneg h
 ·rename_i h
  obtain ⟨y, rfl⟩ : ∃ y, x = -y := ⟨-x, by omega⟩
  rw [Int.neg_tmod, Int.tmod_eq_emod_of_nonneg (by omega), Int.neg_neg]
theorem wrapU32 (x : Int) : IntKind.u32.wrap x = x % 4294967296 := by simp [IntKind.wrap, IntKind.bits, IntKind.signed]
theorem top_low (w : Int) : w % 4294967296 = topI (toI w) 0 := by unfold topI toI; omega

set_option maxHeartbeats 1000000 in
set_option maxRecDepth 100000 in
theorem rcut_ok (w0 : World) (x : Int) (hx : isInt x) :
  K.GC Tryz.prog w0 106 #[.int .i64 x, .int .i64 4294967296] [] (fun v post => v = .int .i64 ((x + 1) % 4294967296) ∧ post = []) := by
 have ht := tmod32 x
 have hb : -4294967296 < Int.tmod x 4294967296 ∧ Int.tmod x 4294967296 < 4294967296 := by rw [ht]; split <;> omega
 refine K.GC.mk (n := 18) Tryz.func106 rfl rfl [.int .i64 x, .int .i64 4294967296] rfl rfl ?_
 intro fr w hS
 replace hS : K.Sat w0 [fr] w := hS
 refine K.s (K.g (K.q [.int .i64 0] (K.z (K.t (K.s (K.g (K.q [.int .i64 x, .int .i64 4294967296, .int .i64 (Int.tmod x 4294967296), .int .i64 (Int.tmod x 4294967296)] (K.z (K.t (K.s (K.s (K.g (K.q [.int .i64 (Int.tmod x 4294967296)] ?_)))))))))))))
 by_cases h_1 : ((Int.tmod x 4294967296) : Int) < (0 : Int)
 ·
  refine K.y (((Int.tmod x 4294967296) : Int) < (0 : Int)) h_1 ?_
  refine K.z (K.t (K.h (K.g (K.q [.int .i64 (Int.tmod x 4294967296), .int .i64 4294967296] ?_))))
  refine K.a (K.QR.n64 (((Int.tmod x 4294967296) : Int) + (4294967296 : Int)) (((Int.tmod x 4294967296) : Int) + (4294967296 : Int)) (by kernel_rfl) (by omega)) ?_
  refine K.q [.int .i64 (((Int.tmod x 4294967296) : Int) + (4294967296 : Int))] (K.z (K.t (K.s (K.g (K.q [.int .i64 (((Int.tmod x 4294967296) : Int) + (4294967296 : Int))] ?_)))))
  refine K.a (K.QR.n64 ((((Int.tmod x 4294967296) : Int) + (4294967296 : Int) : Int) + (1 : Int)) ((((Int.tmod x 4294967296) : Int) + (4294967296 : Int) : Int) + (1 : Int)) (by kernel_rfl) (by omega)) ?_
  refine K.q [.int .i64 4294967296] ?_
  refine K.a (K.QR.remi64 ((((Int.tmod x 4294967296) : Int) + (4294967296 : Int) : Int) + (1 : Int) : Int) 4294967296 (((((Int.tmod x 4294967296) : Int) + (4294967296 : Int) : Int) + (1 : Int) : Int) % 4294967296) (by kernel_rfl) (by omega) (by omega)) ?_
  refine K.q [.int .i64 (((((Int.tmod x 4294967296) : Int) + (4294967296 : Int) : Int) + (1 : Int) : Int) % 4294967296)] (K.z (K.t (K.r ?_)))
  refine ⟨.inr rfl, rfl, (.int .i64 (((((Int.tmod x 4294967296) : Int) + (4294967296 : Int) : Int) + (1 : Int) : Int) % 4294967296)), K.res1 rfl rfl, [], ?_, hS.pick [0]⟩
  exact ⟨congrArg (Value.int .i64) (by split at ht <;> omega), rfl⟩
 ·
  refine K.x (((Int.tmod x 4294967296) : Int) < (0 : Int)) h_1 ?_
  refine K.z (K.t (K.f (K.k (K.t (K.s (K.g (K.q [.int .i64 (Int.tmod x 4294967296)] ?_)))))))
  refine K.a (K.QR.n64 (((Int.tmod x 4294967296) : Int) + (1 : Int)) (((Int.tmod x 4294967296) : Int) + (1 : Int)) (by kernel_rfl) (by omega)) ?_
  refine K.q [.int .i64 4294967296] ?_
  refine K.a (K.QR.remi64 (((Int.tmod x 4294967296) : Int) + (1 : Int) : Int) 4294967296 ((((Int.tmod x 4294967296) : Int) + (1 : Int) : Int) % 4294967296) (by kernel_rfl) (by omega) (by omega)) ?_
  refine K.q [.int .i64 ((((Int.tmod x 4294967296) : Int) + (1 : Int) : Int) % 4294967296)] (K.z (K.t (K.r ?_)))
  refine ⟨.inr rfl, rfl, (.int .i64 ((((Int.tmod x 4294967296) : Int) + (1 : Int) : Int) % 4294967296)), K.res1 rfl rfl, [], ?_, hS.pick [0]⟩
  exact ⟨congrArg (Value.int .i64) (by split at ht <;> omega), rfl⟩

set_option maxHeartbeats 1000000 in
set_option maxRecDepth 100000 in
theorem rtop_ok (w0 : World) (x v : Int) (hx : isInt x) (hv : 0 ≤ v ∧ v < 4294967296) :
  K.GC Tryz.prog w0 69 #[.int .i64 x, .int .u32 v] [] (fun v_ post => v_ = .int .u64 (topI x v) ∧ post = []) := by
 refine K.GC.mk (n := 12) Tryz.func69 rfl rfl [.int .i64 x, .int .u32 v] rfl rfl ?_
 intro fr w hS
 replace hS : K.Sat w0 [fr] w := hS
 refine K.s (K.g (K.q [.int .u64 0] (K.z (K.t (K.s (K.g (K.q [.int .i64 x] ?_)))))))
 refine K.l (K.OW.gcall hS [] [0] [.int .i64 x, .int .i64 4294967296] (rcut_ok _ x (by first | omega | (unfold toI; omega))) ?_)
 clear hS; rintro _ _ w ⟨rfl, rfl⟩ hS
 replace hS : K.Sat w0 [fr] w := hS
 refine K.a (K.QR.nice (v := .int .u64 (IntKind.u64.wrap ((x + 1) % 4294967296))) (by kernel_rfl) (congrArg (Value.int .u64) (IntWalk.u64_in _ (by omega)))) ?_
 refine K.q [.int .u32 v] ?_
 refine K.a (K.QR.nice (v := .int .u64 (IntKind.u64.wrap v)) (by kernel_rfl) (congrArg (Value.int .u64) (IntWalk.u64_in _ (by omega)))) ?_
 refine K.a (K.QR.nu64 ((4294967296 : Int) * (v : Int)) ((4294967296 : Int) * (v : Int)) (by kernel_rfl) (by omega)) ?_
 refine K.a (K.QR.nu64 ((((x + 1) % 4294967296) : Int) + ((4294967296 : Int) * (v : Int) : Int)) ((((x + 1) % 4294967296) : Int) + ((4294967296 : Int) * (v : Int) : Int)) (by kernel_rfl) (by omega)) ?_
 refine K.q [.int .u64 ((((x + 1) % 4294967296) : Int) + ((4294967296 : Int) * (v : Int) : Int))] (K.z (K.t (K.r ?_)))
 refine ⟨.inr rfl, rfl, (.int .u64 ((((x + 1) % 4294967296) : Int) + ((4294967296 : Int) * (v : Int) : Int))), K.res1 rfl rfl, [], ?_, hS.pick [0]⟩
 exact ⟨congrArg (Value.int .u64) (by unfold topI; omega), rfl⟩

set_option maxHeartbeats 1000000 in
set_option maxRecDepth 100000 in
theorem rver_ok (w0 : World) (x : Int) (hx : isW x) :
  K.GC Tryz.prog w0 70 #[.int .u64 x] [] (fun v post => v = .int .u32 (verI x) ∧ post = []) := by
 have hx2 := hx
 unfold isW at hx2
 refine K.GC.mk (n := 6) Tryz.func70 rfl rfl [.int .u64 x] rfl rfl ?_
 intro fr w hS
 replace hS : K.Sat w0 [fr] w := hS
 refine K.s (K.g (K.q [.int .u32 0] (K.z (K.t (K.s (K.g (K.q [.int .u64 x] ?_)))))))
 refine K.a (K.QR.quou64 (x : Int) 4294967296 ((x : Int) / 4294967296) (by kernel_rfl) (by omega) (by omega)) ?_
 refine K.q [.int .u32 (IntKind.u32.wrap ((x : Int) / 4294967296)), .int .u32 (IntKind.u32.wrap ((x : Int) / 4294967296))] (K.z (K.t (K.r ?_)))
 refine ⟨.inr rfl, rfl, (.int .u32 (IntKind.u32.wrap ((x : Int) / 4294967296))), K.res1 rfl rfl, [], ?_, hS.pick [0]⟩
 exact ⟨congrArg (Value.int .u32) (by unfold verI; simp [IntKind.wrap, IntKind.bits, IntKind.signed]), rfl⟩

set_option maxHeartbeats 1000000 in
set_option maxRecDepth 100000 in
theorem rpopStep0 (w0 : World) (p pm q n t : Nat) (c : Cfg) (hc : cfgOk c) (S : PopS) (M : MemM) (gp l : K.Cs) (e0 : S.pc = 0) (hgp : gp = [K.pt p 60 [.int .i64 c.th, .int .i64 c.sl, .int .i64 c.lo, .int .i64 c.bu, .int .i64 S.t, .int .i64 1, .int .u64 S.top, .int .u64 S.next, .int .i64 S.slot]]) (x : RMemAt l pm q n t M) (hM : M.good) (hS : S.good) :
  K.GC Tryz.prog w0 19 #[.pointer (some ⟨p, 0, none⟩), .pointer (some ⟨pm, 0, none⟩)] [gp, l] (fun v post => ∃ gp' l', v = .tuple #[] ∧ post = [gp', l'] ∧ gp' = rpopPt p c (popStep c n S M).1 ∧ RMemAt l' pm q n t (popStep c n S M).2) := by
 obtain ⟨hSt, hS1, hS2⟩ := hS
 have hS12 := hS1; unfold isW at hS12
 refine K.GC.mk (n := 103) Tryz.func19 rfl rfl [.pointer (some ⟨p, 0, none⟩), .pointer (some ⟨pm, 0, none⟩)] rfl rfl ?_
 intro fr w hS
 replace hS : K.Sat w0 [gp, l, fr] w := hS
 refine K.s (K.s (K.g (K.q [.pointer (some ⟨p, 0, none⟩), .pointer (some ⟨p, 0, none⟩), .pointer (some ⟨p, 5, none⟩)] ?_)))
 refine K.d (.int .i64 1) ((hS.blk 0 rfl hgp).cell rfl) ?_
 refine K.q [.bool true] (K.z (K.t (K.h (K.s (K.g (K.q [.pointer (some ⟨p, 0, none⟩), .pointer (some ⟨pm, 0, none⟩), .pointer (some ⟨p, 0, none⟩), .pointer (some ⟨p, 0, none⟩), .pointer (some ⟨p, 4, none⟩)] ?_))))))
 refine K.d (.int .i64 S.t) ((hS.blk 0 rfl hgp).cell rfl) ?_
 refine K.l (K.OW.gcall hS [1] [0, 2] [.pointer (some ⟨pm, 0, none⟩), .int .i64 1, .int .i64 S.t, .int .i64 (-2), .int .u64 0, .int .u64 0] (rmDo1_ok _ _ _ _ _ _ _ x S.t ((-2) : Int) (0 : Int) (0 : Int) (by omega) (by first | omega | exact aft_int (by assumption) _ | exact ann_int (by assumption) _ (by omega))) ?_)
 clear hS; rintro _ _ w ⟨l_1, rfl, rfl, x_2⟩ hS
 replace hS : K.Sat w0 [l_1, gp, fr] w := hS
 have hw_3 : isW (M.accL n S.t ((-2) : Int)).2.old := (accL_good (by assumption)).2
 refine K.q [.int .u64 ((M.accL n S.t ((-2) : Int)).2.old), .pointer (some ⟨p, 0, none⟩), .pointer (some ⟨p, 6, none⟩)] ?_
 refine K.l (K.OW.gst 1 [.int .u64 ((M.accL n S.t ((-2) : Int)).2.old)] [.int .i64 c.th, .int .i64 c.sl, .int .i64 c.lo, .int .i64 c.bu, .int .i64 S.t, .int .i64 1, .int .u64 ((M.accL n S.t ((-2) : Int)).2.old), .int .u64 S.next, .int .i64 S.slot] hS hgp ?_)
 clear hS; intro w g_4 hg_5 hS
 replace hS : K.Sat w0 [l_1, g_4, fr] w := hS
 refine K.z (K.t (K.s (K.g (K.q [.pointer (some ⟨p, 0, none⟩), .pointer (some ⟨p, 0, none⟩), .pointer (some ⟨p, 5, none⟩)] ?_))))
 refine K.l (K.OW.gst 1 [.int .i64 2] [.int .i64 c.th, .int .i64 c.sl, .int .i64 c.lo, .int .i64 c.bu, .int .i64 S.t, .int .i64 2, .int .u64 ((M.accL n S.t ((-2) : Int)).2.old), .int .u64 S.next, .int .i64 S.slot] hS hg_5 ?_)
 clear hS; intro w g_6 hg_7 hS
 replace hS : K.Sat w0 [l_1, g_6, fr] w := hS
 refine K.z (K.t (K.s (K.s (K.g (K.q [.pointer (some ⟨p, 0, none⟩), .pointer (some ⟨p, 0, none⟩), .pointer (some ⟨p, 6, none⟩)] ?_)))))
 refine K.d (.int .u64 ((M.accL n S.t ((-2) : Int)).2.old)) ((hS.blk 1 rfl hg_7).cell rfl) ?_
 refine K.l (K.OW.gcall hS [] [0, 1, 2] [.int .u64 ((M.accL n S.t ((-2) : Int)).2.old)] (rto_ok _ ((M.accL n S.t ((-2) : Int)).2.old) (by first | assumption | (unfold isW; omega))) ?_)
 clear hS; rintro _ _ w ⟨rfl, rfl⟩ hS
 replace hS : K.Sat w0 [l_1, g_6, fr] w := hS
 by_cases h_8 : ((toI ((M.accL n S.t ((-2) : Int)).2.old)) : Int) < (0 : Int)
 ·
  refine K.y (((toI ((M.accL n S.t ((-2) : Int)).2.old)) : Int) < (0 : Int)) h_8 ?_
  refine K.z (K.t (K.h (K.g (K.q [.pointer (some ⟨p, 0, none⟩), .pointer (some ⟨p, 0, none⟩), .pointer (some ⟨p, 5, none⟩)] ?_))))
  refine K.l (K.OW.gst 1 [.int .i64 0] [.int .i64 c.th, .int .i64 c.sl, .int .i64 c.lo, .int .i64 c.bu, .int .i64 S.t, .int .i64 0, .int .u64 ((M.accL n S.t ((-2) : Int)).2.old), .int .u64 S.next, .int .i64 S.slot] hS hg_7 ?_)
  clear hS; intro w g_9 hg_10 hS
  replace hS : K.Sat w0 [l_1, g_9, fr] w := hS
  refine K.z (K.t (K.r (K.u ?_)))
  have hge := toI_ge ((M.accL n S.t ((-2) : Int)).2.old)
  have e : popStep c n S M = (⟨S.t, 3, (M.accL n S.t ((-2) : Int)).2.old, S.next, S.slot⟩, ((M.accL n S.t ((-2) : Int)).1)) := by unfold popStep; rw [if_neg (by omega), if_pos e0, if_pos (by omega)]
  refine ⟨.inr rfl, rfl, (.tuple #[]), K.res0 rfl, [g_9, l_1], ?_, hS.pick [1, 0, 2]⟩
  exact ⟨_, _, rfl, rfl, by rw [e]; exact hg_10, by rw [e]; exact x_2⟩
 ·
  refine K.x (((toI ((M.accL n S.t ((-2) : Int)).2.old)) : Int) < (0 : Int)) h_8 ?_
  refine K.z (K.t (K.f (K.k (K.t (K.r (K.u ?_))))))
  have hge := toI_ge ((M.accL n S.t ((-2) : Int)).2.old)
  have e : popStep c n S M = (⟨S.t, 1, (M.accL n S.t ((-2) : Int)).2.old, S.next, S.slot⟩, ((M.accL n S.t ((-2) : Int)).1)) := by unfold popStep; rw [if_neg (by omega), if_pos e0, if_neg (by omega)]
  refine ⟨.inr rfl, rfl, (.tuple #[]), K.res0 rfl, [g_6, l_1], ?_, hS.pick [1, 0, 2]⟩
  exact ⟨_, _, rfl, rfl, by rw [e]; exact hg_7, by rw [e]; exact x_2⟩

set_option maxHeartbeats 1000000 in
set_option maxRecDepth 100000 in
theorem rpopStep1 (w0 : World) (p pm q n t : Nat) (c : Cfg) (hc : cfgOk c) (S : PopS) (M : MemM) (gp l : K.Cs) (e0 : S.pc = 1) (hgp : gp = [K.pt p 60 [.int .i64 c.th, .int .i64 c.sl, .int .i64 c.lo, .int .i64 c.bu, .int .i64 S.t, .int .i64 2, .int .u64 S.top, .int .u64 S.next, .int .i64 S.slot]]) (x : RMemAt l pm q n t M) (hM : M.good) (hS : S.good) :
  K.GC Tryz.prog w0 19 #[.pointer (some ⟨p, 0, none⟩), .pointer (some ⟨pm, 0, none⟩)] [gp, l] (fun v post => ∃ gp' l', v = .tuple #[] ∧ post = [gp', l'] ∧ gp' = rpopPt p c (popStep c n S M).1 ∧ RMemAt l' pm q n t (popStep c n S M).2) := by
 obtain ⟨hSt, hS1, hS2⟩ := hS
 have hS12 := hS1; unfold isW at hS12
 refine K.GC.mk (n := 103) Tryz.func19 rfl rfl [.pointer (some ⟨p, 0, none⟩), .pointer (some ⟨pm, 0, none⟩)] rfl rfl ?_
 intro fr w hS
 replace hS : K.Sat w0 [gp, l, fr] w := hS
 refine K.s (K.s (K.g (K.q [.pointer (some ⟨p, 0, none⟩), .pointer (some ⟨p, 0, none⟩), .pointer (some ⟨p, 5, none⟩)] ?_)))
 refine K.d (.int .i64 2) ((hS.blk 0 rfl hgp).cell rfl) ?_
 refine K.q [.bool false] (K.z (K.t (K.f (K.k (K.t (K.s (K.s (K.g (K.q [.pointer (some ⟨p, 0, none⟩), .pointer (some ⟨p, 0, none⟩), .pointer (some ⟨p, 5, none⟩)] ?_)))))))))
 refine K.d (.int .i64 2) ((hS.blk 0 rfl hgp).cell rfl) ?_
 refine K.q [.bool true] (K.z (K.t (K.h (K.s ?_))))
 refine K.KW.gdrawn [0] hS (by kernel_rfl) ?_
 clear hS; intro w hS
 refine K.DW.q 0 (by kernel_rfl) rfl rfl (by kernel_rfl) rfl (fun w hS => K.QR.k (v := .pointer (some ⟨p, 0, none⟩)) (by kernel_rfl)) (hS.pick [0]) ?_
 refine K.DW.q 1 (by kernel_rfl) rfl rfl (by kernel_rfl) rfl (fun w hS => K.QR.k (v := .pointer (some ⟨pm, 0, none⟩)) (by kernel_rfl)) (hS.pick [0]) ?_
 refine K.DW.q 2 (by kernel_rfl) rfl rfl (by kernel_rfl) rfl (fun w hS => K.QR.k (v := .pointer (some ⟨p, 0, none⟩)) (by kernel_rfl)) (hS.pick [0]) ?_
 refine K.DW.q 3 (by kernel_rfl) rfl rfl (by kernel_rfl) rfl (fun w hS => K.QR.k (v := .pointer (some ⟨p, 0, none⟩)) (by kernel_rfl)) (hS.pick [0]) ?_
 refine K.DW.q 4 (by kernel_rfl) rfl rfl (by kernel_rfl) rfl (fun w hS => K.QR.k (v := .pointer (some ⟨p, 4, none⟩)) (by kernel_rfl)) (hS.pick [0]) ?_
 refine K.DW.q 5 (by kernel_rfl) rfl rfl (by kernel_rfl) rfl (fun w hS => K.QR.ld1 (v := .int .i64 S.t) rfl rfl (by kernel_rfl) ((hS.blk 0 rfl hgp).cell rfl)) (hS.pick [0]) ?_
 refine K.DW.q 6 (by kernel_rfl) rfl rfl (by kernel_rfl) rfl (fun w hS => K.QR.k (v := .pointer (some ⟨p, 0, none⟩)) (by kernel_rfl)) (hS.pick [0]) ?_
 refine K.DW.q 7 (by kernel_rfl) rfl rfl (by kernel_rfl) rfl (fun w hS => K.QR.k (v := .pointer (some ⟨p, 0, none⟩)) (by kernel_rfl)) (hS.pick [0]) ?_
 refine K.DW.q 8 (by kernel_rfl) rfl rfl (by kernel_rfl) rfl (fun w hS => K.QR.k (v := .pointer (some ⟨p, 0, none⟩)) (by kernel_rfl)) (hS.pick [0]) ?_
 refine K.DW.q 9 (by kernel_rfl) rfl rfl (by kernel_rfl) rfl (fun w hS => K.QR.ldN [.int .i64 c.th, .int .i64 c.sl, .int .i64 c.lo, .int .i64 c.bu] rfl rfl (by kernel_rfl) (by kernel_rfl) (K.cells (K.cl ((hS.blk 0 rfl hgp).cell rfl) (K.cl ((hS.blk 0 rfl hgp).cell rfl) (K.cl ((hS.blk 0 rfl hgp).cell rfl) (K.cl ((hS.blk 0 rfl hgp).cell rfl) K.cl0)))))) (hS.pick [0]) ?_
 refine K.DW.l 10 rfl (by kernel_rfl) rfl (K.OW.q rfl (K.QR.k (v := .pointer (some ⟨p, 0, none⟩)) (by kernel_rfl)) ?_)
 refine ⟨.inl (hS.pick [0]), ?_⟩
 refine K.DW.l 11 rfl (by kernel_rfl) rfl (K.OW.q rfl (K.QR.k (v := .pointer (some ⟨p, 0, none⟩)) (by kernel_rfl)) ?_)
 refine ⟨.inl (hS.pick [0]), ?_⟩
 refine K.DW.l 12 rfl (by kernel_rfl) rfl (K.OW.q rfl (K.QR.k (v := .pointer (some ⟨p, 6, none⟩)) (by kernel_rfl)) ?_)
 refine ⟨.inl (hS.pick [0]), ?_⟩
 refine K.DW.l 13 rfl (by kernel_rfl) rfl (K.OW.q rfl (K.QR.ld1 (v := .int .u64 S.top) rfl rfl (by kernel_rfl) ((hS.blk 0 rfl hgp).cell rfl)) ?_)
 refine ⟨.inl (hS.pick [0]), ?_⟩
 refine K.DW.l 14 rfl (by kernel_rfl) rfl (K.OW.gcall hS [] [0, 1, 2] [.int .u64 S.top] (rto_ok _ S.top (by first | assumption | (unfold isW; omega))) ?_)
 clear hS; rintro _ _ w ⟨rfl, rfl⟩ hS
 replace hS : K.Sat w0 [gp, l, fr] w := hS
 refine ⟨.inl (hS.pick [0]), ?_⟩
 refine K.DW.l 15 rfl (by kernel_rfl) rfl (K.OW.gcall hS [] [0, 1, 2] [.agg #[.int .i64 c.th, .int .i64 c.sl, .int .i64 c.lo, .int .i64 c.bu], .int .i64 (toI S.top)] (rafter_ok _ c (by assumption) (toI S.top)) ?_)
 clear hS; rintro _ _ w ⟨rfl, rfl⟩ hS
 replace hS : K.Sat w0 [gp, l, fr] w := hS
 refine ⟨.inl (hS.pick [0]), ?_⟩
 refine K.DW.l 16 rfl (by kernel_rfl) rfl (K.OW.gcall hS [1] [0, 2] [.pointer (some ⟨pm, 0, none⟩), .int .i64 1, .int .i64 S.t, .int .i64 (aftS c (toI S.top)), .int .u64 0, .int .u64 0] (rmDo1_ok _ _ _ _ _ _ _ x S.t (aftS c (toI S.top)) (0 : Int) (0 : Int) (by omega) (by first | omega | exact aft_int (by assumption) _ | exact ann_int (by assumption) _ (by omega))) ?_)
 clear hS; rintro _ _ w ⟨l_1, rfl, rfl, x_2⟩ hS
 replace hS : K.Sat w0 [l_1, gp, fr] w := hS
 have hw_3 : isW (M.accL n S.t (aftS c (toI S.top))).2.old := (accL_good (by assumption)).2
 refine ⟨.inl (hS.pick [1]), ?_⟩
 refine K.DW.l 17 rfl (by kernel_rfl) rfl (K.OW.q rfl (K.QR.k (v := .int .u64 ((M.accL n S.t (aftS c (toI S.top))).2.old)) (by kernel_rfl)) ?_)
 refine ⟨.inl (hS.pick [1]), ?_⟩
 refine K.DW.l 18 rfl (by kernel_rfl) rfl (K.OW.q rfl (K.QR.k (v := .pointer (some ⟨p, 0, none⟩)) (by kernel_rfl)) ?_)
 refine ⟨.inl (hS.pick [1]), ?_⟩
 refine K.DW.l 19 rfl (by kernel_rfl) rfl (K.OW.q rfl (K.QR.k (v := .pointer (some ⟨p, 7, none⟩)) (by kernel_rfl)) ?_)
 refine ⟨.inl (hS.pick [1]), ?_⟩
 refine K.DW.l 20 rfl (by kernel_rfl) rfl (K.OW.gst 1 [.int .u64 ((M.accL n S.t (aftS c (toI S.top))).2.old)] [.int .i64 c.th, .int .i64 c.sl, .int .i64 c.lo, .int .i64 c.bu, .int .i64 S.t, .int .i64 2, .int .u64 S.top, .int .u64 ((M.accL n S.t (aftS c (toI S.top))).2.old), .int .i64 S.slot] hS hgp ?_)
 clear hS; intro w g_4 hg_5 hS
 replace hS : K.Sat w0 [l_1, g_4, fr] w := hS
 refine ⟨.inr (by kernel_rfl), ?_⟩
 refine K.DW.done (by kernel_rfl) ?_
 refine K.t (K.s (K.g (K.q [.pointer (some ⟨p, 0, none⟩), .pointer (some ⟨p, 0, none⟩), .pointer (some ⟨p, 5, none⟩)] ?_)))
 refine K.l (K.OW.gst 1 [.int .i64 3] [.int .i64 c.th, .int .i64 c.sl, .int .i64 c.lo, .int .i64 c.bu, .int .i64 S.t, .int .i64 3, .int .u64 S.top, .int .u64 ((M.accL n S.t (aftS c (toI S.top))).2.old), .int .i64 S.slot] hS hg_5 ?_)
 clear hS; intro w g_6 hg_7 hS
 replace hS : K.Sat w0 [l_1, g_6, fr] w := hS
 refine K.z (K.t (K.r (K.u ?_)))
 have e : popStep c n S M = (⟨S.t, 2, S.top, (M.accL n S.t (aftS c (toI S.top))).2.old, S.slot⟩, ((M.accL n S.t (aftS c (toI S.top))).1)) := by unfold popStep; rw [if_neg (by omega), if_neg (by omega), if_pos e0]
 refine ⟨.inr rfl, rfl, (.tuple #[]), K.res0 rfl, [g_6, l_1], ?_, hS.pick [1, 0, 2]⟩
 exact ⟨_, _, rfl, rfl, by rw [e]; exact hg_7, by rw [e]; exact x_2⟩

set_option maxHeartbeats 1000000 in
set_option maxRecDepth 100000 in
theorem rpopStep2 (w0 : World) (p pm q n t : Nat) (c : Cfg) (hc : cfgOk c) (S : PopS) (M : MemM) (gp l : K.Cs) (e0 : S.pc = 2) (hgp : gp = [K.pt p 60 [.int .i64 c.th, .int .i64 c.sl, .int .i64 c.lo, .int .i64 c.bu, .int .i64 S.t, .int .i64 3, .int .u64 S.top, .int .u64 S.next, .int .i64 S.slot]]) (x : RMemAt l pm q n t M) (hM : M.good) (hS : S.good) :
  K.GC Tryz.prog w0 19 #[.pointer (some ⟨p, 0, none⟩), .pointer (some ⟨pm, 0, none⟩)] [gp, l] (fun v post => ∃ gp' l', v = .tuple #[] ∧ post = [gp', l'] ∧ gp' = rpopPt p c (popStep c n S M).1 ∧ RMemAt l' pm q n t (popStep c n S M).2) := by
 obtain ⟨hSt, hS1, hS2⟩ := hS
 have hS12 := hS1; unfold isW at hS12
 refine K.GC.mk (n := 103) Tryz.func19 rfl rfl [.pointer (some ⟨p, 0, none⟩), .pointer (some ⟨pm, 0, none⟩)] rfl rfl ?_
 intro fr w hS
 replace hS : K.Sat w0 [gp, l, fr] w := hS
 refine K.s (K.s (K.g (K.q [.pointer (some ⟨p, 0, none⟩), .pointer (some ⟨p, 0, none⟩), .pointer (some ⟨p, 5, none⟩)] ?_)))
 refine K.d (.int .i64 3) ((hS.blk 0 rfl hgp).cell rfl) ?_
 refine K.q [.bool false] (K.z (K.t (K.f (K.k (K.t (K.s (K.s (K.g (K.q [.pointer (some ⟨p, 0, none⟩), .pointer (some ⟨p, 0, none⟩), .pointer (some ⟨p, 5, none⟩)] ?_)))))))))
 refine K.d (.int .i64 3) ((hS.blk 0 rfl hgp).cell rfl) ?_
 refine K.q [.bool false] (K.z (K.t (K.f (K.k (K.t (K.s (K.g (K.q [.pointer (some ⟨p, 0, none⟩), .pointer (some ⟨p, 0, none⟩), .pointer (some ⟨p, 5, none⟩)] ?_))))))))
 refine K.d (.int .i64 3) ((hS.blk 0 rfl hgp).cell rfl) ?_
 refine K.q [.bool true] (K.z (K.t (K.h (K.s ?_))))
 refine K.KW.gdrawn [0] hS (by kernel_rfl) ?_
 clear hS; intro w hS
 refine K.DW.q 0 (by kernel_rfl) rfl rfl (by kernel_rfl) rfl (fun w hS => K.QR.k (v := .pointer (some ⟨p, 0, none⟩)) (by kernel_rfl)) (hS.pick [0]) ?_
 refine K.DW.q 1 (by kernel_rfl) rfl rfl (by kernel_rfl) rfl (fun w hS => K.QR.k (v := .pointer (some ⟨p, 0, none⟩)) (by kernel_rfl)) (hS.pick [0]) ?_
 refine K.DW.q 2 (by kernel_rfl) rfl rfl (by kernel_rfl) rfl (fun w hS => K.QR.k (v := .pointer (some ⟨p, 7, none⟩)) (by kernel_rfl)) (hS.pick [0]) ?_
 refine K.DW.q 3 (by kernel_rfl) rfl rfl (by kernel_rfl) rfl (fun w hS => K.QR.ld1 (v := .int .u64 S.next) rfl rfl (by kernel_rfl) ((hS.blk 0 rfl hgp).cell rfl)) (hS.pick [0]) ?_
 refine K.DW.q 5 (by kernel_rfl) rfl rfl (by kernel_rfl) rfl (fun w hS => K.QR.k (v := .pointer (some ⟨p, 0, none⟩)) (by kernel_rfl)) (hS.pick [0]) ?_
 refine K.DW.q 6 (by kernel_rfl) rfl rfl (by kernel_rfl) rfl (fun w hS => K.QR.k (v := .pointer (some ⟨p, 0, none⟩)) (by kernel_rfl)) (hS.pick [0]) ?_
 refine K.DW.q 7 (by kernel_rfl) rfl rfl (by kernel_rfl) rfl (fun w hS => K.QR.k (v := .pointer (some ⟨p, 6, none⟩)) (by kernel_rfl)) (hS.pick [0]) ?_
 refine K.DW.q 8 (by kernel_rfl) rfl rfl (by kernel_rfl) rfl (fun w hS => K.QR.ld1 (v := .int .u64 S.top) rfl rfl (by kernel_rfl) ((hS.blk 0 rfl hgp).cell rfl)) (hS.pick [0]) ?_
 refine K.DW.l 4 rfl (by kernel_rfl) rfl (K.OW.gcall hS [] [0, 1, 2] [.int .u64 S.next] (rto_ok _ S.next (by first | assumption | (unfold isW; omega))) ?_)
 clear hS; rintro _ _ w ⟨rfl, rfl⟩ hS
 replace hS : K.Sat w0 [gp, l, fr] w := hS
 refine ⟨.inl (hS.pick [0]), ?_⟩
 refine K.DW.l 9 rfl (by kernel_rfl) rfl (K.OW.gcall hS [] [0, 1, 2] [.int .u64 S.top] (rver_ok _ S.top (by first | assumption | (unfold isW; omega))) ?_)
 clear hS; rintro _ _ w ⟨rfl, rfl⟩ hS
 replace hS : K.Sat w0 [gp, l, fr] w := hS
 refine ⟨.inl (hS.pick [0]), ?_⟩
 refine K.DW.l 10 rfl (by kernel_rfl) rfl (K.OW.q rfl (K.QR.turn (v := .int .u32 (IntKind.u32.wrap (((verI S.top) : Int) + (1 : Int)))) (K.QR.k (v := .int .u32 (IntKind.u32.wrap (((verI S.top) : Int) + (1 : Int)))) (by kernel_rfl)) (congrArg (Value.int .u32) (show (IntKind.u32.wrap (((verI S.top) : Int) + (1 : Int)) : Int) = ((((verI S.top)) + (1)) % 4294967296 : Int) from wrapU32 _))) ?_)
 refine ⟨.inl (hS.pick [0]), ?_⟩
 refine K.DW.l 11 rfl (by kernel_rfl) rfl (K.OW.gcall hS [] [0, 1, 2] [.int .i64 (toI S.next), .int .u32 ((((verI S.top)) + (1)) % 4294967296)] (rtop_ok _ (toI S.next) ((((verI S.top)) + (1)) % 4294967296) (by first | omega | (unfold toI; omega)) (by first | omega | decide)) ?_)
 clear hS; rintro _ _ w ⟨rfl, rfl⟩ hS
 replace hS : K.Sat w0 [gp, l, fr] w := hS
 refine ⟨.inl (hS.pick [0]), ?_⟩
 refine K.DW.l 12 rfl (by kernel_rfl) rfl (K.OW.q rfl (K.QR.k (v := .int .u64 (topI (toI S.next) ((((verI S.top)) + (1)) % 4294967296))) (by kernel_rfl)) ?_)
 refine ⟨.inl (hS.pick [0]), ?_⟩
 refine K.DW.done (by kernel_rfl) ?_
 refine K.t (K.s (K.g (K.q [.pointer (some ⟨p, 0, none⟩), .pointer (some ⟨p, 0, none⟩), .pointer (some ⟨p, 5, none⟩)] ?_)))
 refine K.l (K.OW.gst 0 [.int .i64 1] [.int .i64 c.th, .int .i64 c.sl, .int .i64 c.lo, .int .i64 c.bu, .int .i64 S.t, .int .i64 1, .int .u64 S.top, .int .u64 S.next, .int .i64 S.slot] hS hgp ?_)
 clear hS; intro w g_1 hg_2 hS
 replace hS : K.Sat w0 [g_1, l, fr] w := hS
 refine K.z (K.t (K.s ?_))
 refine K.KW.gdrawn [0] hS (by kernel_rfl) ?_
 clear hS; intro w hS
 refine K.DW.q 0 (by kernel_rfl) rfl rfl (by kernel_rfl) rfl (fun w hS => K.QR.k (v := .pointer (some ⟨pm, 0, none⟩)) (by kernel_rfl)) (hS.pick [0]) ?_
 refine K.DW.q 1 (by kernel_rfl) rfl rfl (by kernel_rfl) rfl (fun w hS => K.QR.k (v := .pointer (some ⟨p, 0, none⟩)) (by kernel_rfl)) (hS.pick [0]) ?_
 refine K.DW.q 2 (by kernel_rfl) rfl rfl (by kernel_rfl) rfl (fun w hS => K.QR.k (v := .pointer (some ⟨p, 0, none⟩)) (by kernel_rfl)) (hS.pick [0]) ?_
 refine K.DW.q 3 (by kernel_rfl) rfl rfl (by kernel_rfl) rfl (fun w hS => K.QR.k (v := .pointer (some ⟨p, 4, none⟩)) (by kernel_rfl)) (hS.pick [0]) ?_
 refine K.DW.q 4 (by kernel_rfl) rfl rfl (by kernel_rfl) rfl (fun w hS => K.QR.ld1 (v := .int .i64 S.t) rfl rfl (by kernel_rfl) ((hS.blk 0 rfl hg_2).cell rfl)) (hS.pick [0]) ?_
 refine K.DW.q 5 (by kernel_rfl) rfl rfl (by kernel_rfl) rfl (fun w hS => K.QR.k (v := .pointer (some ⟨p, 0, none⟩)) (by kernel_rfl)) (hS.pick [0]) ?_
 refine K.DW.q 6 (by kernel_rfl) rfl rfl (by kernel_rfl) rfl (fun w hS => K.QR.k (v := .pointer (some ⟨p, 0, none⟩)) (by kernel_rfl)) (hS.pick [0]) ?_
 refine K.DW.q 7 (by kernel_rfl) rfl rfl (by kernel_rfl) rfl (fun w hS => K.QR.k (v := .pointer (some ⟨p, 6, none⟩)) (by kernel_rfl)) (hS.pick [0]) ?_
 refine K.DW.q 8 (by kernel_rfl) rfl rfl (by kernel_rfl) rfl (fun w hS => K.QR.ld1 (v := .int .u64 S.top) rfl rfl (by kernel_rfl) ((hS.blk 0 rfl hg_2).cell rfl)) (hS.pick [0]) ?_
 refine K.DW.l 9 rfl (by kernel_rfl) rfl (K.OW.q rfl (K.QR.k (v := .int .u64 (topI (toI S.next) ((((verI S.top)) + (1)) % 4294967296))) (by kernel_rfl)) ?_)
 refine ⟨.inl (hS.pick [0]), ?_⟩
 refine K.DW.l 10 rfl (by kernel_rfl) rfl (K.OW.gcall hS [1] [0, 2] [.pointer (some ⟨pm, 0, none⟩), .int .i64 3, .int .i64 S.t, .int .i64 (-2), .int .u64 S.top, .int .u64 (topI (toI S.next) ((((verI S.top)) + (1)) % 4294967296))] (rmDo3_ok _ _ _ _ _ _ _ x S.t ((-2) : Int) S.top (topI (toI S.next) ((((verI S.top)) + (1)) % 4294967296)) (by omega) (by first | omega | exact aft_int (by assumption) _ | exact ann_int (by assumption) _ (by omega))) ?_)
 clear hS; rintro _ _ w ⟨l_3, rfl, rfl, x_4⟩ hS
 replace hS : K.Sat w0 [l_3, g_1, fr] w := hS
 refine ⟨.inl (hS.pick [1]), ?_⟩
 refine K.DW.l 11 rfl (by kernel_rfl) rfl (K.OW.q rfl (K.QR.k (v := .bool ((M.accW n S.t ((-2) : Int) S.top (topI (toI S.next) ((((verI S.top)) + (1)) % 4294967296))).2.done)) (by kernel_rfl)) ?_)
 refine ⟨.inl (hS.pick [1]), ?_⟩
 cases hb_5 : (M.accW n S.t ((-2) : Int) S.top (topI (toI S.next) ((((verI S.top)) + (1)) % 4294967296))).2.done
 ·
  refine K.DW.done (by kernel_rfl) ?_
  refine K.t (K.f (K.k ?_))
  have e : popStep c n S M = (⟨S.t, 0, S.top, S.next, S.slot⟩, ((M.accW n S.t ((-2) : Int) S.top (topI (toI S.next) ((((verI S.top)) + (1)) % 4294967296))).1)) := by unfold popStep newerI; rw [if_neg (by omega), if_neg (by omega), if_neg (by omega), if_neg (by rw [hb_5]; decide)]
  refine ⟨.inl rfl, rfl, (.tuple #[]), K.res0 rfl, [g_1, l_3], ?_, hS.pick [1, 0, 2]⟩
  exact ⟨_, _, rfl, rfl, by rw [e]; exact hg_2, by rw [e]; exact x_4⟩
 ·
  refine K.DW.done (by kernel_rfl) ?_
  refine K.t (K.h (K.s (K.g (K.q [.pointer (some ⟨p, 0, none⟩), .pointer (some ⟨p, 0, none⟩), .pointer (some ⟨p, 0, none⟩), .pointer (some ⟨p, 6, none⟩)] ?_))))
  refine K.d (.int .u64 S.top) ((hS.blk 1 rfl hg_2).cell rfl) ?_
  refine K.l (K.OW.gcall hS [] [0, 1, 2] [.int .u64 S.top] (rto_ok _ S.top (by first | assumption | (unfold isW; omega))) ?_)
  clear hS; rintro _ _ w ⟨rfl, rfl⟩ hS
  replace hS : K.Sat w0 [l_3, g_1, fr] w := hS
  refine K.q [.pointer (some ⟨p, 0, none⟩), .pointer (some ⟨p, 8, none⟩)] ?_
  refine K.l (K.OW.gst 1 [.int .i64 (toI S.top)] [.int .i64 c.th, .int .i64 c.sl, .int .i64 c.lo, .int .i64 c.bu, .int .i64 S.t, .int .i64 1, .int .u64 S.top, .int .u64 S.next, .int .i64 (toI S.top)] hS hg_2 ?_)
  clear hS; intro w g_6 hg_7 hS
  replace hS : K.Sat w0 [l_3, g_6, fr] w := hS
  refine K.z (K.t (K.g (K.q [.pointer (some ⟨p, 0, none⟩), .pointer (some ⟨p, 0, none⟩), .pointer (some ⟨p, 5, none⟩)] ?_)))
  refine K.l (K.OW.gst 1 [.int .i64 0] [.int .i64 c.th, .int .i64 c.sl, .int .i64 c.lo, .int .i64 c.bu, .int .i64 S.t, .int .i64 0, .int .u64 S.top, .int .u64 S.next, .int .i64 (toI S.top)] hS hg_7 ?_)
  clear hS; intro w g_8 hg_9 hS
  replace hS : K.Sat w0 [l_3, g_8, fr] w := hS
  refine K.z ?_
  have e : popStep c n S M = (⟨S.t, 3, S.top, S.next, (toI S.top)⟩, ((M.accW n S.t ((-2) : Int) S.top (topI (toI S.next) ((((verI S.top)) + (1)) % 4294967296))).1)) := by unfold popStep newerI; rw [if_neg (by omega), if_neg (by omega), if_neg (by omega), if_pos hb_5]
  refine ⟨.inl rfl, rfl, (.tuple #[]), K.res0 rfl, [g_8, l_3], ?_, hS.pick [1, 0, 2]⟩
  exact ⟨_, _, rfl, rfl, by rw [e]; exact hg_9, by rw [e]; exact x_4⟩

set_option maxHeartbeats 1000000 in
set_option maxRecDepth 100000 in
theorem rpopStep3 (w0 : World) (p pm q n t : Nat) (c : Cfg) (hc : cfgOk c) (S : PopS) (M : MemM) (gp l : K.Cs) (e0 : S.pc = 3) (hgp : gp = [K.pt p 60 [.int .i64 c.th, .int .i64 c.sl, .int .i64 c.lo, .int .i64 c.bu, .int .i64 S.t, .int .i64 0, .int .u64 S.top, .int .u64 S.next, .int .i64 S.slot]]) (x : RMemAt l pm q n t M) (hM : M.good) (hS : S.good) :
  K.GC Tryz.prog w0 19 #[.pointer (some ⟨p, 0, none⟩), .pointer (some ⟨pm, 0, none⟩)] [gp, l] (fun v post => ∃ gp' l', v = .tuple #[] ∧ post = [gp', l'] ∧ gp' = rpopPt p c (popStep c n S M).1 ∧ RMemAt l' pm q n t (popStep c n S M).2) := by
 obtain ⟨hSt, hS1, hS2⟩ := hS
 have hS12 := hS1; unfold isW at hS12
 refine K.GC.mk (n := 103) Tryz.func19 rfl rfl [.pointer (some ⟨p, 0, none⟩), .pointer (some ⟨pm, 0, none⟩)] rfl rfl ?_
 intro fr w hS
 replace hS : K.Sat w0 [gp, l, fr] w := hS
 refine K.s (K.s (K.g (K.q [.pointer (some ⟨p, 0, none⟩), .pointer (some ⟨p, 0, none⟩), .pointer (some ⟨p, 5, none⟩)] ?_)))
 refine K.d (.int .i64 0) ((hS.blk 0 rfl hgp).cell rfl) ?_
 refine K.q [.bool false] (K.z (K.t (K.f (K.k (K.t (K.s (K.s (K.g (K.q [.pointer (some ⟨p, 0, none⟩), .pointer (some ⟨p, 0, none⟩), .pointer (some ⟨p, 5, none⟩)] ?_)))))))))
 refine K.d (.int .i64 0) ((hS.blk 0 rfl hgp).cell rfl) ?_
 refine K.q [.bool false] (K.z (K.t (K.f (K.k (K.t (K.s (K.g (K.q [.pointer (some ⟨p, 0, none⟩), .pointer (some ⟨p, 0, none⟩), .pointer (some ⟨p, 5, none⟩)] ?_))))))))
 refine K.d (.int .i64 0) ((hS.blk 0 rfl hgp).cell rfl) ?_
 refine K.q [.bool false] (K.z (K.t (K.f (K.k ?_))))
 have e : popStep c n S M = (⟨S.t, 3, S.top, S.next, S.slot⟩, M) := by unfold popStep; rw [if_pos (by omega), ← e0]
 refine ⟨.inl rfl, rfl, (.tuple #[]), K.res0 rfl, [gp, l], ?_, hS.pick [0, 1, 2]⟩
 exact ⟨_, _, rfl, rfl, by rw [e]; exact hgp, by rw [e]; exact x⟩

theorem rpopStep_ok (w0 : World) (p pm q n t : Nat) (c : Cfg) (hc : cfgOk c) (S : PopS) (M : MemM) (gp l : K.Cs) (hp : pcOk S.pc) (hgp : gp = rpopPt p c S) (x : RMemAt l pm q n t M) (hM : M.good) (hS : S.good) :
  K.GC Tryz.prog w0 19 #[.pointer (some ⟨p, 0, none⟩), .pointer (some ⟨pm, 0, none⟩)] [gp, l] (fun v post => ∃ gp' l', v = .tuple #[] ∧ post = [gp', l'] ∧ gp' = rpopPt p c (popStep c n S M).1 ∧ RMemAt l' pm q n t (popStep c n S M).2) := by
 rcases hp with e | e | e | e
 ·exact rpopStep0 w0 p pm q n t c hc S M gp l e (by rw [hgp]; unfold rpopPt; rw [e]; rfl) x hM hS
 ·exact rpopStep1 w0 p pm q n t c hc S M gp l e (by rw [hgp]; unfold rpopPt; rw [e]; rfl) x hM hS
 ·exact rpopStep2 w0 p pm q n t c hc S M gp l e (by rw [hgp]; unfold rpopPt; rw [e]; rfl) x hM hS
 ·exact rpopStep3 w0 p pm q n t c hc S M gp l e (by rw [hgp]; unfold rpopPt; rw [e]; rfl) x hM hS

set_option maxHeartbeats 1000000 in
set_option maxRecDepth 100000 in
theorem rpushStep0 (w0 : World) (p pm q n t : Nat) (c : Cfg) (hc : cfgOk c) (S : PushS) (M : MemM) (gp l : K.Cs) (e0 : S.pc = 0) (hgp : gp = [K.pt p 67 [.int .i64 c.th, .int .i64 c.sl, .int .i64 c.lo, .int .i64 c.bu, .int .i64 S.t, .int .i64 1, .int .u64 S.top, .int .i64 S.slot]]) (x : RMemAt l pm q n t M) (hM : M.good) (hS : S.good) :
  K.GC Tryz.prog w0 24 #[.pointer (some ⟨p, 0, none⟩), .pointer (some ⟨pm, 0, none⟩)] [gp, l] (fun v post => ∃ gp' l', v = .tuple #[] ∧ post = [gp', l'] ∧ gp' = rpushPt p c (pushStep c n S M).1 ∧ RMemAt l' pm q n t (pushStep c n S M).2) := by
 obtain ⟨hSt, hS1, hS2⟩ := hS
 have hS12 := hS1; unfold isW at hS12
 refine K.GC.mk (n := 83) Tryz.func24 rfl rfl [.pointer (some ⟨p, 0, none⟩), .pointer (some ⟨pm, 0, none⟩)] rfl rfl ?_
 intro fr w hS
 replace hS : K.Sat w0 [gp, l, fr] w := hS
 refine K.s (K.s (K.g (K.q [.pointer (some ⟨p, 0, none⟩), .pointer (some ⟨p, 0, none⟩), .pointer (some ⟨p, 5, none⟩)] ?_)))
 refine K.d (.int .i64 1) ((hS.blk 0 rfl hgp).cell rfl) ?_
 refine K.q [.bool true] (K.z (K.t (K.h (K.s (K.g (K.q [.pointer (some ⟨p, 0, none⟩), .pointer (some ⟨pm, 0, none⟩), .pointer (some ⟨p, 0, none⟩), .pointer (some ⟨p, 0, none⟩), .pointer (some ⟨p, 4, none⟩)] ?_))))))
 refine K.d (.int .i64 S.t) ((hS.blk 0 rfl hgp).cell rfl) ?_
 refine K.l (K.OW.gcall hS [1] [0, 2] [.pointer (some ⟨pm, 0, none⟩), .int .i64 1, .int .i64 S.t, .int .i64 (-2), .int .u64 0, .int .u64 0] (rmDo1_ok _ _ _ _ _ _ _ x S.t ((-2) : Int) (0 : Int) (0 : Int) (by omega) (by first | omega | exact aft_int (by assumption) _ | exact ann_int (by assumption) _ (by omega))) ?_)
 clear hS; rintro _ _ w ⟨l_1, rfl, rfl, x_2⟩ hS
 replace hS : K.Sat w0 [l_1, gp, fr] w := hS
 have hw_3 : isW (M.accL n S.t ((-2) : Int)).2.old := (accL_good (by assumption)).2
 refine K.q [.int .u64 ((M.accL n S.t ((-2) : Int)).2.old), .pointer (some ⟨p, 0, none⟩), .pointer (some ⟨p, 6, none⟩)] ?_
 refine K.l (K.OW.gst 1 [.int .u64 ((M.accL n S.t ((-2) : Int)).2.old)] [.int .i64 c.th, .int .i64 c.sl, .int .i64 c.lo, .int .i64 c.bu, .int .i64 S.t, .int .i64 1, .int .u64 ((M.accL n S.t ((-2) : Int)).2.old), .int .i64 S.slot] hS hgp ?_)
 clear hS; intro w g_4 hg_5 hS
 replace hS : K.Sat w0 [l_1, g_4, fr] w := hS
 refine K.z (K.t (K.s (K.g (K.q [.pointer (some ⟨p, 0, none⟩), .pointer (some ⟨p, 0, none⟩), .pointer (some ⟨p, 5, none⟩)] ?_))))
 refine K.l (K.OW.gst 1 [.int .i64 2] [.int .i64 c.th, .int .i64 c.sl, .int .i64 c.lo, .int .i64 c.bu, .int .i64 S.t, .int .i64 2, .int .u64 ((M.accL n S.t ((-2) : Int)).2.old), .int .i64 S.slot] hS hg_5 ?_)
 clear hS; intro w g_6 hg_7 hS
 replace hS : K.Sat w0 [l_1, g_6, fr] w := hS
 refine K.z (K.t (K.r (K.u ?_)))
 have e : pushStep c n S M = (⟨S.t, 1, (M.accL n S.t ((-2) : Int)).2.old, S.slot⟩, ((M.accL n S.t ((-2) : Int)).1)) := by unfold pushStep; rw [if_neg (by omega), if_pos e0]
 refine ⟨.inr rfl, rfl, (.tuple #[]), K.res0 rfl, [g_6, l_1], ?_, hS.pick [1, 0, 2]⟩
 exact ⟨_, _, rfl, rfl, by rw [e]; exact hg_7, by rw [e]; exact x_2⟩

set_option maxHeartbeats 1000000 in
set_option maxRecDepth 100000 in
theorem rpushStep1 (w0 : World) (p pm q n t : Nat) (c : Cfg) (hc : cfgOk c) (S : PushS) (M : MemM) (gp l : K.Cs) (e0 : S.pc = 1) (hgp : gp = [K.pt p 67 [.int .i64 c.th, .int .i64 c.sl, .int .i64 c.lo, .int .i64 c.bu, .int .i64 S.t, .int .i64 2, .int .u64 S.top, .int .i64 S.slot]]) (x : RMemAt l pm q n t M) (hM : M.good) (hS : S.good) :
  K.GC Tryz.prog w0 24 #[.pointer (some ⟨p, 0, none⟩), .pointer (some ⟨pm, 0, none⟩)] [gp, l] (fun v post => ∃ gp' l', v = .tuple #[] ∧ post = [gp', l'] ∧ gp' = rpushPt p c (pushStep c n S M).1 ∧ RMemAt l' pm q n t (pushStep c n S M).2) := by
 obtain ⟨hSt, hS1, hS2⟩ := hS
 have hS12 := hS1; unfold isW at hS12
 refine K.GC.mk (n := 83) Tryz.func24 rfl rfl [.pointer (some ⟨p, 0, none⟩), .pointer (some ⟨pm, 0, none⟩)] rfl rfl ?_
 intro fr w hS
 replace hS : K.Sat w0 [gp, l, fr] w := hS
 refine K.s (K.s (K.g (K.q [.pointer (some ⟨p, 0, none⟩), .pointer (some ⟨p, 0, none⟩), .pointer (some ⟨p, 5, none⟩)] ?_)))
 refine K.d (.int .i64 2) ((hS.blk 0 rfl hgp).cell rfl) ?_
 refine K.q [.bool false] (K.z (K.t (K.f (K.k (K.t (K.s (K.s (K.g (K.q [.pointer (some ⟨p, 0, none⟩), .pointer (some ⟨p, 0, none⟩), .pointer (some ⟨p, 5, none⟩)] ?_)))))))))
 refine K.d (.int .i64 2) ((hS.blk 0 rfl hgp).cell rfl) ?_
 refine K.q [.bool true] (K.z (K.t (K.h (K.s ?_))))
 refine K.KW.gdrawn [0] hS (by kernel_rfl) ?_
 clear hS; intro w hS
 refine K.DW.q 0 (by kernel_rfl) rfl rfl (by kernel_rfl) rfl (fun w hS => K.QR.k (v := .pointer (some ⟨pm, 0, none⟩)) (by kernel_rfl)) (hS.pick [0]) ?_
 refine K.DW.q 1 (by kernel_rfl) rfl rfl (by kernel_rfl) rfl (fun w hS => K.QR.k (v := .pointer (some ⟨p, 0, none⟩)) (by kernel_rfl)) (hS.pick [0]) ?_
 refine K.DW.q 2 (by kernel_rfl) rfl rfl (by kernel_rfl) rfl (fun w hS => K.QR.k (v := .pointer (some ⟨p, 0, none⟩)) (by kernel_rfl)) (hS.pick [0]) ?_
 refine K.DW.q 3 (by kernel_rfl) rfl rfl (by kernel_rfl) rfl (fun w hS => K.QR.k (v := .pointer (some ⟨p, 4, none⟩)) (by kernel_rfl)) (hS.pick [0]) ?_
 refine K.DW.q 4 (by kernel_rfl) rfl rfl (by kernel_rfl) rfl (fun w hS => K.QR.ld1 (v := .int .i64 S.t) rfl rfl (by kernel_rfl) ((hS.blk 0 rfl hgp).cell rfl)) (hS.pick [0]) ?_
 refine K.DW.q 5 (by kernel_rfl) rfl rfl (by kernel_rfl) rfl (fun w hS => K.QR.k (v := .pointer (some ⟨p, 0, none⟩)) (by kernel_rfl)) (hS.pick [0]) ?_
 refine K.DW.q 6 (by kernel_rfl) rfl rfl (by kernel_rfl) rfl (fun w hS => K.QR.k (v := .pointer (some ⟨p, 0, none⟩)) (by kernel_rfl)) (hS.pick [0]) ?_
 refine K.DW.q 7 (by kernel_rfl) rfl rfl (by kernel_rfl) rfl (fun w hS => K.QR.k (v := .pointer (some ⟨p, 0, none⟩)) (by kernel_rfl)) (hS.pick [0]) ?_
 refine K.DW.q 8 (by kernel_rfl) rfl rfl (by kernel_rfl) rfl (fun w hS => K.QR.ldN [.int .i64 c.th, .int .i64 c.sl, .int .i64 c.lo, .int .i64 c.bu] rfl rfl (by kernel_rfl) (by kernel_rfl) (K.cells (K.cl ((hS.blk 0 rfl hgp).cell rfl) (K.cl ((hS.blk 0 rfl hgp).cell rfl) (K.cl ((hS.blk 0 rfl hgp).cell rfl) (K.cl ((hS.blk 0 rfl hgp).cell rfl) K.cl0)))))) (hS.pick [0]) ?_
 refine K.DW.q 9 (by kernel_rfl) rfl rfl (by kernel_rfl) rfl (fun w hS => K.QR.k (v := .pointer (some ⟨p, 0, none⟩)) (by kernel_rfl)) (hS.pick [0]) ?_
 refine K.DW.q 10 (by kernel_rfl) rfl rfl (by kernel_rfl) rfl (fun w hS => K.QR.k (v := .pointer (some ⟨p, 0, none⟩)) (by kernel_rfl)) (hS.pick [0]) ?_
 refine K.DW.q 11 (by kernel_rfl) rfl rfl (by kernel_rfl) rfl (fun w hS => K.QR.k (v := .pointer (some ⟨p, 7, none⟩)) (by kernel_rfl)) (hS.pick [0]) ?_
 refine K.DW.q 12 (by kernel_rfl) rfl rfl (by kernel_rfl) rfl (fun w hS => K.QR.ld1 (v := .int .i64 S.slot) rfl rfl (by kernel_rfl) ((hS.blk 0 rfl hgp).cell rfl)) (hS.pick [0]) ?_
 refine K.DW.q 14 (by kernel_rfl) rfl rfl (by kernel_rfl) rfl (fun w hS => K.QR.k (v := .pointer (some ⟨p, 0, none⟩)) (by kernel_rfl)) (hS.pick [0]) ?_
 refine K.DW.q 15 (by kernel_rfl) rfl rfl (by kernel_rfl) rfl (fun w hS => K.QR.k (v := .pointer (some ⟨p, 0, none⟩)) (by kernel_rfl)) (hS.pick [0]) ?_
 refine K.DW.q 16 (by kernel_rfl) rfl rfl (by kernel_rfl) rfl (fun w hS => K.QR.k (v := .pointer (some ⟨p, 6, none⟩)) (by kernel_rfl)) (hS.pick [0]) ?_
 refine K.DW.q 17 (by kernel_rfl) rfl rfl (by kernel_rfl) rfl (fun w hS => K.QR.ld1 (v := .int .u64 S.top) rfl rfl (by kernel_rfl) ((hS.blk 0 rfl hgp).cell rfl)) (hS.pick [0]) ?_
 refine K.DW.q 18 (by kernel_rfl) rfl rfl (by kernel_rfl) rfl (fun w hS => K.QR.remu64 (S.top : Int) 4294967296 ((S.top : Int) % 4294967296) (by kernel_rfl) (by omega) (by omega)) (hS.pick [0]) ?_
 refine K.DW.l 13 rfl (by kernel_rfl) rfl (K.OW.gcall hS [] [0, 1, 2] [.agg #[.int .i64 c.th, .int .i64 c.sl, .int .i64 c.lo, .int .i64 c.bu], .int .i64 S.slot] (rafter_ok _ c (by assumption) S.slot) ?_)
 clear hS; rintro _ _ w ⟨rfl, rfl⟩ hS
 replace hS : K.Sat w0 [gp, l, fr] w := hS
 refine ⟨.inl (hS.pick [0]), ?_⟩
 refine K.DW.l 19 rfl (by kernel_rfl) rfl (K.OW.gcall hS [1] [0, 2] [.pointer (some ⟨pm, 0, none⟩), .int .i64 2, .int .i64 S.t, .int .i64 (aftS c S.slot), .int .u64 0, .int .u64 ((S.top : Int) % 4294967296)] (rmDo2_ok _ _ _ _ _ _ _ x S.t (aftS c S.slot) (0 : Int) ((S.top : Int) % 4294967296) (by omega) (by first | omega | exact aft_int (by assumption) _ | exact ann_int (by assumption) _ (by omega))) ?_)
 clear hS; rintro _ _ w ⟨l_1, rfl, rfl, x_2⟩ hS
 replace hS : K.Sat w0 [l_1, gp, fr] w := hS
 refine ⟨.inl (hS.pick [1]), ?_⟩
 refine K.DW.done (by kernel_rfl) ?_
 refine K.t (K.s (K.g (K.q [.pointer (some ⟨p, 0, none⟩), .pointer (some ⟨p, 0, none⟩), .pointer (some ⟨p, 5, none⟩)] ?_)))
 refine K.l (K.OW.gst 1 [.int .i64 3] [.int .i64 c.th, .int .i64 c.sl, .int .i64 c.lo, .int .i64 c.bu, .int .i64 S.t, .int .i64 3, .int .u64 S.top, .int .i64 S.slot] hS hgp ?_)
 clear hS; intro w g_3 hg_4 hS
 replace hS : K.Sat w0 [l_1, g_3, fr] w := hS
 refine K.z (K.t (K.r (K.u ?_)))
 have e : pushStep c n S M = (⟨S.t, 2, S.top, S.slot⟩, ((M.accS n S.t (aftS c S.slot) ((S.top : Int) % 4294967296)).1)) := by unfold pushStep; rw [if_neg (by omega), if_neg (by omega), if_pos e0]; rw [top_low]
 refine ⟨.inr rfl, rfl, (.tuple #[]), K.res0 rfl, [g_3, l_1], ?_, hS.pick [1, 0, 2]⟩
 exact ⟨_, _, rfl, rfl, by rw [e]; exact hg_4, by rw [e]; exact x_2⟩

set_option maxHeartbeats 1000000 in
set_option maxRecDepth 100000 in
theorem rpushStep2 (w0 : World) (p pm q n t : Nat) (c : Cfg) (hc : cfgOk c) (S : PushS) (M : MemM) (gp l : K.Cs) (e0 : S.pc = 2) (hgp : gp = [K.pt p 67 [.int .i64 c.th, .int .i64 c.sl, .int .i64 c.lo, .int .i64 c.bu, .int .i64 S.t, .int .i64 3, .int .u64 S.top, .int .i64 S.slot]]) (x : RMemAt l pm q n t M) (hM : M.good) (hS : S.good) :
  K.GC Tryz.prog w0 24 #[.pointer (some ⟨p, 0, none⟩), .pointer (some ⟨pm, 0, none⟩)] [gp, l] (fun v post => ∃ gp' l', v = .tuple #[] ∧ post = [gp', l'] ∧ gp' = rpushPt p c (pushStep c n S M).1 ∧ RMemAt l' pm q n t (pushStep c n S M).2) := by
 obtain ⟨hSt, hS1, hS2⟩ := hS
 have hS12 := hS1; unfold isW at hS12
 refine K.GC.mk (n := 83) Tryz.func24 rfl rfl [.pointer (some ⟨p, 0, none⟩), .pointer (some ⟨pm, 0, none⟩)] rfl rfl ?_
 intro fr w hS
 replace hS : K.Sat w0 [gp, l, fr] w := hS
 refine K.s (K.s (K.g (K.q [.pointer (some ⟨p, 0, none⟩), .pointer (some ⟨p, 0, none⟩), .pointer (some ⟨p, 5, none⟩)] ?_)))
 refine K.d (.int .i64 3) ((hS.blk 0 rfl hgp).cell rfl) ?_
 refine K.q [.bool false] (K.z (K.t (K.f (K.k (K.t (K.s (K.s (K.g (K.q [.pointer (some ⟨p, 0, none⟩), .pointer (some ⟨p, 0, none⟩), .pointer (some ⟨p, 5, none⟩)] ?_)))))))))
 refine K.d (.int .i64 3) ((hS.blk 0 rfl hgp).cell rfl) ?_
 refine K.q [.bool false] (K.z (K.t (K.f (K.k (K.t (K.s (K.g (K.q [.pointer (some ⟨p, 0, none⟩), .pointer (some ⟨p, 0, none⟩), .pointer (some ⟨p, 5, none⟩)] ?_))))))))
 refine K.d (.int .i64 3) ((hS.blk 0 rfl hgp).cell rfl) ?_
 refine K.q [.bool true] (K.z (K.t (K.h (K.s (K.g (K.q [.pointer (some ⟨p, 0, none⟩), .pointer (some ⟨p, 0, none⟩), .pointer (some ⟨p, 5, none⟩)] ?_))))))
 refine K.l (K.OW.gst 0 [.int .i64 1] [.int .i64 c.th, .int .i64 c.sl, .int .i64 c.lo, .int .i64 c.bu, .int .i64 S.t, .int .i64 1, .int .u64 S.top, .int .i64 S.slot] hS hgp ?_)
 clear hS; intro w g_1 hg_2 hS
 replace hS : K.Sat w0 [g_1, l, fr] w := hS
 refine K.z (K.t (K.s ?_))
 refine K.KW.gdrawn [0] hS (by kernel_rfl) ?_
 clear hS; intro w hS
 refine K.DW.q 0 (by kernel_rfl) rfl rfl (by kernel_rfl) rfl (fun w hS => K.QR.k (v := .pointer (some ⟨pm, 0, none⟩)) (by kernel_rfl)) (hS.pick [0]) ?_
 refine K.DW.q 1 (by kernel_rfl) rfl rfl (by kernel_rfl) rfl (fun w hS => K.QR.k (v := .pointer (some ⟨p, 0, none⟩)) (by kernel_rfl)) (hS.pick [0]) ?_
 refine K.DW.q 2 (by kernel_rfl) rfl rfl (by kernel_rfl) rfl (fun w hS => K.QR.k (v := .pointer (some ⟨p, 0, none⟩)) (by kernel_rfl)) (hS.pick [0]) ?_
 refine K.DW.q 3 (by kernel_rfl) rfl rfl (by kernel_rfl) rfl (fun w hS => K.QR.k (v := .pointer (some ⟨p, 4, none⟩)) (by kernel_rfl)) (hS.pick [0]) ?_
 refine K.DW.q 4 (by kernel_rfl) rfl rfl (by kernel_rfl) rfl (fun w hS => K.QR.ld1 (v := .int .i64 S.t) rfl rfl (by kernel_rfl) ((hS.blk 0 rfl hg_2).cell rfl)) (hS.pick [0]) ?_
 refine K.DW.q 5 (by kernel_rfl) rfl rfl (by kernel_rfl) rfl (fun w hS => K.QR.k (v := .pointer (some ⟨p, 0, none⟩)) (by kernel_rfl)) (hS.pick [0]) ?_
 refine K.DW.q 6 (by kernel_rfl) rfl rfl (by kernel_rfl) rfl (fun w hS => K.QR.k (v := .pointer (some ⟨p, 0, none⟩)) (by kernel_rfl)) (hS.pick [0]) ?_
 refine K.DW.q 7 (by kernel_rfl) rfl rfl (by kernel_rfl) rfl (fun w hS => K.QR.k (v := .pointer (some ⟨p, 6, none⟩)) (by kernel_rfl)) (hS.pick [0]) ?_
 refine K.DW.q 8 (by kernel_rfl) rfl rfl (by kernel_rfl) rfl (fun w hS => K.QR.ld1 (v := .int .u64 S.top) rfl rfl (by kernel_rfl) ((hS.blk 0 rfl hg_2).cell rfl)) (hS.pick [0]) ?_
 refine K.DW.q 9 (by kernel_rfl) rfl rfl (by kernel_rfl) rfl (fun w hS => K.QR.k (v := .pointer (some ⟨p, 0, none⟩)) (by kernel_rfl)) (hS.pick [0]) ?_
 refine K.DW.q 10 (by kernel_rfl) rfl rfl (by kernel_rfl) rfl (fun w hS => K.QR.k (v := .pointer (some ⟨p, 0, none⟩)) (by kernel_rfl)) (hS.pick [0]) ?_
 refine K.DW.q 11 (by kernel_rfl) rfl rfl (by kernel_rfl) rfl (fun w hS => K.QR.k (v := .pointer (some ⟨p, 7, none⟩)) (by kernel_rfl)) (hS.pick [0]) ?_
 refine K.DW.q 12 (by kernel_rfl) rfl rfl (by kernel_rfl) rfl (fun w hS => K.QR.ld1 (v := .int .i64 S.slot) rfl rfl (by kernel_rfl) ((hS.blk 0 rfl hg_2).cell rfl)) (hS.pick [0]) ?_
 refine K.DW.l 13 rfl (by kernel_rfl) rfl (K.OW.q rfl (K.QR.k (v := .pointer (some ⟨p, 0, none⟩)) (by kernel_rfl)) ?_)
 refine ⟨.inl (hS.pick [0]), ?_⟩
 refine K.DW.l 14 rfl (by kernel_rfl) rfl (K.OW.q rfl (K.QR.k (v := .pointer (some ⟨p, 0, none⟩)) (by kernel_rfl)) ?_)
 refine ⟨.inl (hS.pick [0]), ?_⟩
 refine K.DW.l 15 rfl (by kernel_rfl) rfl (K.OW.q rfl (K.QR.k (v := .pointer (some ⟨p, 6, none⟩)) (by kernel_rfl)) ?_)
 refine ⟨.inl (hS.pick [0]), ?_⟩
 refine K.DW.l 16 rfl (by kernel_rfl) rfl (K.OW.q rfl (K.QR.ld1 (v := .int .u64 S.top) rfl rfl (by kernel_rfl) ((hS.blk 0 rfl hg_2).cell rfl)) ?_)
 refine ⟨.inl (hS.pick [0]), ?_⟩
 refine K.DW.l 17 rfl (by kernel_rfl) rfl (K.OW.gcall hS [] [0, 1, 2] [.int .u64 S.top] (rver_ok _ S.top (by first | assumption | (unfold isW; omega))) ?_)
 clear hS; rintro _ _ w ⟨rfl, rfl⟩ hS
 replace hS : K.Sat w0 [g_1, l, fr] w := hS
 refine ⟨.inl (hS.pick [0]), ?_⟩
 refine K.DW.l 18 rfl (by kernel_rfl) rfl (K.OW.q rfl (K.QR.turn (v := .int .u32 (IntKind.u32.wrap (((verI S.top) : Int) + (1 : Int)))) (K.QR.k (v := .int .u32 (IntKind.u32.wrap (((verI S.top) : Int) + (1 : Int)))) (by kernel_rfl)) (congrArg (Value.int .u32) (show (IntKind.u32.wrap (((verI S.top) : Int) + (1 : Int)) : Int) = ((((verI S.top)) + (1)) % 4294967296 : Int) from wrapU32 _))) ?_)
 refine ⟨.inl (hS.pick [0]), ?_⟩
 refine K.DW.l 19 rfl (by kernel_rfl) rfl (K.OW.gcall hS [] [0, 1, 2] [.int .i64 S.slot, .int .u32 ((((verI S.top)) + (1)) % 4294967296)] (rtop_ok _ S.slot ((((verI S.top)) + (1)) % 4294967296) (by first | omega | (unfold toI; omega)) (by first | omega | decide)) ?_)
 clear hS; rintro _ _ w ⟨rfl, rfl⟩ hS
 replace hS : K.Sat w0 [g_1, l, fr] w := hS
 refine ⟨.inl (hS.pick [0]), ?_⟩
 refine K.DW.l 20 rfl (by kernel_rfl) rfl (K.OW.gcall hS [1] [0, 2] [.pointer (some ⟨pm, 0, none⟩), .int .i64 3, .int .i64 S.t, .int .i64 (-2), .int .u64 S.top, .int .u64 (topI S.slot ((((verI S.top)) + (1)) % 4294967296))] (rmDo3_ok _ _ _ _ _ _ _ x S.t ((-2) : Int) S.top (topI S.slot ((((verI S.top)) + (1)) % 4294967296)) (by omega) (by first | omega | exact aft_int (by assumption) _ | exact ann_int (by assumption) _ (by omega))) ?_)
 clear hS; rintro _ _ w ⟨l_3, rfl, rfl, x_4⟩ hS
 replace hS : K.Sat w0 [l_3, g_1, fr] w := hS
 refine ⟨.inl (hS.pick [1]), ?_⟩
 refine K.DW.l 21 rfl (by kernel_rfl) rfl (K.OW.q rfl (K.QR.k (v := .bool ((M.accW n S.t ((-2) : Int) S.top (topI S.slot ((((verI S.top)) + (1)) % 4294967296))).2.done)) (by kernel_rfl)) ?_)
 refine ⟨.inl (hS.pick [1]), ?_⟩
 cases hb_5 : (M.accW n S.t ((-2) : Int) S.top (topI S.slot ((((verI S.top)) + (1)) % 4294967296))).2.done
 ·
  refine K.DW.done (by kernel_rfl) ?_
  refine K.t (K.f (K.k ?_))
  have e : pushStep c n S M = (⟨S.t, 0, S.top, S.slot⟩, ((M.accW n S.t ((-2) : Int) S.top (topI S.slot ((((verI S.top)) + (1)) % 4294967296))).1)) := by unfold pushStep newerI; rw [if_neg (by omega), if_neg (by omega), if_neg (by omega), if_neg (by rw [hb_5]; decide)]
  refine ⟨.inl rfl, rfl, (.tuple #[]), K.res0 rfl, [g_1, l_3], ?_, hS.pick [1, 0, 2]⟩
  exact ⟨_, _, rfl, rfl, by rw [e]; exact hg_2, by rw [e]; exact x_4⟩
 ·
  refine K.DW.done (by kernel_rfl) ?_
  refine K.t (K.h (K.g (K.q [.pointer (some ⟨p, 0, none⟩), .pointer (some ⟨p, 0, none⟩), .pointer (some ⟨p, 5, none⟩)] ?_)))
  refine K.l (K.OW.gst 1 [.int .i64 0] [.int .i64 c.th, .int .i64 c.sl, .int .i64 c.lo, .int .i64 c.bu, .int .i64 S.t, .int .i64 0, .int .u64 S.top, .int .i64 S.slot] hS hg_2 ?_)
  clear hS; intro w g_6 hg_7 hS
  replace hS : K.Sat w0 [l_3, g_6, fr] w := hS
  refine K.z ?_
  have e : pushStep c n S M = (⟨S.t, 3, S.top, S.slot⟩, ((M.accW n S.t ((-2) : Int) S.top (topI S.slot ((((verI S.top)) + (1)) % 4294967296))).1)) := by unfold pushStep newerI; rw [if_neg (by omega), if_neg (by omega), if_neg (by omega), if_pos hb_5]
  refine ⟨.inl rfl, rfl, (.tuple #[]), K.res0 rfl, [g_6, l_3], ?_, hS.pick [1, 0, 2]⟩
  exact ⟨_, _, rfl, rfl, by rw [e]; exact hg_7, by rw [e]; exact x_4⟩

set_option maxHeartbeats 1000000 in
set_option maxRecDepth 100000 in
theorem rpushStep3 (w0 : World) (p pm q n t : Nat) (c : Cfg) (hc : cfgOk c) (S : PushS) (M : MemM) (gp l : K.Cs) (e0 : S.pc = 3) (hgp : gp = [K.pt p 67 [.int .i64 c.th, .int .i64 c.sl, .int .i64 c.lo, .int .i64 c.bu, .int .i64 S.t, .int .i64 0, .int .u64 S.top, .int .i64 S.slot]]) (x : RMemAt l pm q n t M) (hM : M.good) (hS : S.good) :
  K.GC Tryz.prog w0 24 #[.pointer (some ⟨p, 0, none⟩), .pointer (some ⟨pm, 0, none⟩)] [gp, l] (fun v post => ∃ gp' l', v = .tuple #[] ∧ post = [gp', l'] ∧ gp' = rpushPt p c (pushStep c n S M).1 ∧ RMemAt l' pm q n t (pushStep c n S M).2) := by
 obtain ⟨hSt, hS1, hS2⟩ := hS
 have hS12 := hS1; unfold isW at hS12
 refine K.GC.mk (n := 83) Tryz.func24 rfl rfl [.pointer (some ⟨p, 0, none⟩), .pointer (some ⟨pm, 0, none⟩)] rfl rfl ?_
 intro fr w hS
 replace hS : K.Sat w0 [gp, l, fr] w := hS
 refine K.s (K.s (K.g (K.q [.pointer (some ⟨p, 0, none⟩), .pointer (some ⟨p, 0, none⟩), .pointer (some ⟨p, 5, none⟩)] ?_)))
 refine K.d (.int .i64 0) ((hS.blk 0 rfl hgp).cell rfl) ?_
 refine K.q [.bool false] (K.z (K.t (K.f (K.k (K.t (K.s (K.s (K.g (K.q [.pointer (some ⟨p, 0, none⟩), .pointer (some ⟨p, 0, none⟩), .pointer (some ⟨p, 5, none⟩)] ?_)))))))))
 refine K.d (.int .i64 0) ((hS.blk 0 rfl hgp).cell rfl) ?_
 refine K.q [.bool false] (K.z (K.t (K.f (K.k (K.t (K.s (K.g (K.q [.pointer (some ⟨p, 0, none⟩), .pointer (some ⟨p, 0, none⟩), .pointer (some ⟨p, 5, none⟩)] ?_))))))))
 refine K.d (.int .i64 0) ((hS.blk 0 rfl hgp).cell rfl) ?_
 refine K.q [.bool false] (K.z (K.t (K.f (K.k ?_))))
 have e : pushStep c n S M = (⟨S.t, 3, S.top, S.slot⟩, M) := by unfold pushStep; rw [if_pos (by omega), ← e0]
 refine ⟨.inl rfl, rfl, (.tuple #[]), K.res0 rfl, [gp, l], ?_, hS.pick [0, 1, 2]⟩
 exact ⟨_, _, rfl, rfl, by rw [e]; exact hgp, by rw [e]; exact x⟩

theorem rpushStep_ok (w0 : World) (p pm q n t : Nat) (c : Cfg) (hc : cfgOk c) (S : PushS) (M : MemM) (gp l : K.Cs) (hp : pcOk S.pc) (hgp : gp = rpushPt p c S) (x : RMemAt l pm q n t M) (hM : M.good) (hS : S.good) :
  K.GC Tryz.prog w0 24 #[.pointer (some ⟨p, 0, none⟩), .pointer (some ⟨pm, 0, none⟩)] [gp, l] (fun v post => ∃ gp' l', v = .tuple #[] ∧ post = [gp', l'] ∧ gp' = rpushPt p c (pushStep c n S M).1 ∧ RMemAt l' pm q n t (pushStep c n S M).2) := by
 rcases hp with e | e | e | e
 ·exact rpushStep0 w0 p pm q n t c hc S M gp l e (by rw [hgp]; unfold rpushPt; rw [e]; rfl) x hM hS
 ·exact rpushStep1 w0 p pm q n t c hc S M gp l e (by rw [hgp]; unfold rpushPt; rw [e]; rfl) x hM hS
 ·exact rpushStep2 w0 p pm q n t c hc S M gp l e (by rw [hgp]; unfold rpushPt; rw [e]; rfl) x hM hS
 ·exact rpushStep3 w0 p pm q n t c hc S M gp l e (by rw [hgp]; unfold rpushPt; rw [e]; rfl) x hM hS

end Go.Proofs.YtajkickofkeemaaGreat
