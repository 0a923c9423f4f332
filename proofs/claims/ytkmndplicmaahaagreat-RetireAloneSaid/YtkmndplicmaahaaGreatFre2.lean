/- Logs: Cancel and Stamp. -/
import Derived.Test.YtkmndplicmaahaaGreatFpu
import Derived.Test.YtkmndplicmaahaaGreatKn
namespace Go.Proofs.YtkmndplicmaahaaGreat
open Go.RowKit
set_option linter.unusedVariables false
attribute [local irreducible] K.KW K.RW K.DW K.OW K.QR K.KC
structure CanS where
 t : Int
 pc : Int
 place : Int
def CanS.good (S : CanS) : Prop := isInt S.t ∧ isInt S.place ∧ 0 ≤ S.pc ∧ S.pc ≤ 5
def CanS.done (S : CanS) : Bool := decide (S.pc = 5)
structure StaS where
 t : Int
 pc : Int
 place : Int
 slot : Int
 now : Int
abbrev staPt (p b : Nat) (S : StaS) : K.Cs := [K.pt p 102 [.pointer (some ⟨b, 0, none⟩), .int .i64 S.t, .int .i64 S.pc, .int .i64 S.place, .int .i64 S.slot, .int .u64 S.now]]
def StaS.good (S : StaS) : Prop := isInt S.t ∧ (0 ≤ S.pc ∧ S.pc ≤ 5 ∧ ¬ S.pc = 4) ∧ isInt S.place ∧ isInt S.slot ∧ isW S.now
def StaS.done (S : StaS) : Bool := decide (S.pc = 5)
def staStep (c : Cfg) (n nt : Nat) (S : StaS) (M : MemM) : StaS × MemM :=
 if S.pc = 5 then (S, M)
 else if S.pc = 0 then (⟨S.t, 1, S.place, S.slot, (M.accL n S.t (-1)).2.old⟩, (M.accL n S.t (-1)).1)
 else if S.pc = 1 then (⟨S.t, 2, S.place, S.slot, S.now⟩, (M.accS n S.t (logS c S.t S.place) (entryI S.slot S.now)).1)
 else (⟨S.t, if S.pc = 2 then 3 else 5, S.place, S.slot, S.now⟩, elast c n nt S.t S.pc S.place M)
def cv64 (x : Int) : Int := IntKind.i64.wrap x
theorem cv64_int (x : Int) : isInt (cv64 x) := by
 unfold cv64 IntKind.wrap IntKind.bits IntKind.signed
 simp
 split <;> omega
theorem cv64_mod (x : Int) : (cv64 x + 1) % 4294967296 = (x + 1) % 4294967296 := by
 unfold cv64 IntKind.wrap IntKind.bits IntKind.signed
 simp
 split <;> omega
theorem entry_cv (a b : Int) : entryI a (cv64 b) = entryI a b := by unfold entryI; rw [cv64_mod]
theorem elast_good {c : Cfg} {n nt : Nat} {th pc pl : Int} {M : MemM} (h : M.good) : (elast c n nt th pc pl M).good := by
 unfold elast; split
 ·exact accF_good' h
 ·exact accE_good' h
theorem staStep_good {c : Cfg} {n nt : Nat} {S : StaS} {M : MemM} (hS : S.good) (hM : M.good) : (staStep c n nt S M).1.good ∧ (staStep c n nt S M).2.good := by
 have hS0 := hS
 obtain ⟨h1, h2, h3, h4, h5⟩ := hS
 unfold staStep
 split
 ·exact ⟨hS0, hM⟩
 split
 ·exact ⟨⟨h1, (by decide : (0 : Int) ≤ 1 ∧ (1 : Int) ≤ 5 ∧ ¬ (1 : Int) = 4), h3, h4, (accL_good (n := n) (th := S.t) (i := -1) hM).2⟩, (accL_good hM).1⟩
 split
 ·exact ⟨⟨h1, (by decide : (0 : Int) ≤ 2 ∧ (2 : Int) ≤ 5 ∧ ¬ (2 : Int) = 4), h3, h4, h5⟩, accS_good hM (entryI_w _ _)⟩
 ·refine ⟨⟨h1, ?_, h3, h4, h5⟩, elast_good hM⟩
  show 0 ≤ (if S.pc = 2 then (3 : Int) else 5) ∧ (if S.pc = 2 then (3 : Int) else 5) ≤ 5 ∧ ¬ (if S.pc = 2 then (3 : Int) else 5) = 4
  split <;> decide
set_option maxHeartbeats 1000000 in
set_option maxRecDepth 100000 in
theorem staDone_ok (w0 : World) (p b : Nat) (S : StaS) (gp : K.Cs) (hgp : gp = staPt p b S) :
  K.GC Tryz.prog w0 19 #[.pointer (some ⟨p, 0, none⟩)] [gp] (fun v post => post = [gp] ∧ ((v = .bool true ∧ S.pc = 5) ∨ (v = .bool false ∧ ¬ S.pc = 5))) := by
 refine K.GC.mk (n := 13) Tryz.func19 rfl rfl [.pointer (some ⟨p, 0, none⟩)] rfl rfl ?_
 intro fr w hS
 replace hS : K.Sat w0 [gp, fr] w := hS
 refine K.s (K.g (K.q [.bool false] (K.z (K.t (K.s (K.g (K.q [.pointer (some ⟨p, 0, none⟩), .bool false, .bool false, .pointer (some ⟨p, 0, none⟩), .pointer (some ⟨p, 0, none⟩), .pointer (some ⟨p, 0, none⟩), .pointer (some ⟨p, 2, none⟩)] ?_)))))))
 refine K.d (.int .i64 S.pc) ((hS.blk 0 rfl hgp).cell rfl) ?_
 by_cases h_1 : (S.pc : Int) = (5 : Int)
 ·
  refine K.ye (S.pc : Int) (5 : Int) h_1 ?_
  refine K.q [.bool true, .bool true] (K.z (K.t (K.r ?_)))
  refine ⟨.inr rfl, rfl, (.bool true), K.res1 rfl rfl, [gp], ?_, hS.pick [0, 1]⟩
  exact ⟨rfl, .inl ⟨rfl, by omega⟩⟩
 ·
  refine K.xe (S.pc : Int) (5 : Int) h_1 ?_
  refine K.q [.bool false, .bool false] (K.z (K.t (K.r ?_)))
  refine ⟨.inr rfl, rfl, (.bool false), K.res1 rfl rfl, [gp], ?_, hS.pick [0, 1]⟩
  exact ⟨rfl, .inr ⟨rfl, by omega⟩⟩
set_option maxHeartbeats 1000000 in
set_option maxRecDepth 100000 in
theorem staLast_ok (w0 : World) (p b pm q n t : Nat) (c : Cfg) (hc : cfgOk c) (S : StaS) (M : MemM) (gp gl l : K.Cs) (hgp : gp = staPt p b S) (hgl : gl = layPt b c) (x : MemAt l pm q n t M) (hM : M.good) (hS : S.good) (pl : Int) (hp : S.pc = 2 ∨ S.pc = 3) :
  K.GC Tryz.prog w0 42 #[.pointer (some ⟨p, 0, none⟩), .pointer (some ⟨pm, 0, none⟩), .int .i64 pl] [gp, gl, l] (fun v post => ∃ gp' l', v = .tuple #[] ∧ post = [gp', gl, l'] ∧ gp' = staPt p b ⟨S.t, if S.pc = 2 then 3 else 5, S.place, S.slot, S.now⟩ ∧ MemAt l' pm q n t (elast c n t S.t S.pc pl M)) := by
 have hSt := hS.1
 have hli := log_int hc S.t pl
 refine K.GC.mk (n := 39) Tryz.func42 rfl rfl [.pointer (some ⟨p, 0, none⟩), .pointer (some ⟨pm, 0, none⟩), .int .i64 pl] rfl rfl ?_
 intro fr w hS
 replace hS : K.Sat w0 [gp, gl, l, fr] w := hS
 refine K.s (K.s (K.g (K.q [.pointer (some ⟨p, 0, none⟩), .pointer (some ⟨p, 0, none⟩), .pointer (some ⟨p, 2, none⟩)] ?_)))
 refine K.d (.int .i64 S.pc) ((hS.blk 0 rfl hgp).cell rfl) ?_
 by_cases h_1 : (S.pc : Int) = (2 : Int)
 ·
  refine K.ye (S.pc : Int) (2 : Int) h_1 ?_
  refine K.z (K.t (K.h (K.s ?_)))
  refine K.KW.gdrawn [0] hS (by kernel_rfl) ?_
  clear hS; intro w hS
  refine K.p 0 rfl (.pointer (some ⟨pm, 0, none⟩)) (hS.pick [0]) ?_
  refine K.p 1 rfl (.pointer (some ⟨p, 0, none⟩)) (hS.pick [0]) ?_
  refine K.p 2 rfl (.pointer (some ⟨p, 0, none⟩)) (hS.pick [0]) ?_
  refine K.p 3 rfl (.pointer (some ⟨p, 1, none⟩)) (hS.pick [0]) ?_
  refine K.o_ 4 rfl (.int .i64 S.t) (fun w hS => ((hS.blk 0 rfl hgp).cell rfl)) (hS.pick [0]) ?_
  refine K.p 5 rfl (.pointer (some ⟨p, 0, none⟩)) (hS.pick [0]) ?_
  refine K.p 6 rfl (.pointer (some ⟨p, 0, none⟩)) (hS.pick [0]) ?_
  refine K.p 7 rfl (.pointer (some ⟨p, 0, none⟩)) (hS.pick [0]) ?_
  refine K.o_ 8 rfl (.pointer (some ⟨b, 0, none⟩)) (fun w hS => ((hS.blk 0 rfl hgp).cell rfl)) (hS.pick [0]) ?_
  refine K.p 9 rfl (.pointer (some ⟨p, 0, none⟩)) (hS.pick [0]) ?_
  refine K.p 10 rfl (.pointer (some ⟨p, 0, none⟩)) (hS.pick [0]) ?_
  refine K.p 11 rfl (.pointer (some ⟨p, 1, none⟩)) (hS.pick [0]) ?_
  refine K.o_ 12 rfl (.int .i64 S.t) (fun w hS => ((hS.blk 0 rfl hgp).cell rfl)) (hS.pick [0]) ?_
  refine K.b 13 rfl (.int .i64 pl) (hS.pick [0]) ?_
  refine K.DW.l 14 rfl (by kernel_rfl) rfl (K.OW.kcall hS [.pointer (some ⟨b, 0, none⟩), .int .i64 S.t, .int .i64 pl] (lLog _ c S.t pl _ (by assumption) (hS.blk 1 rfl hgl)) ?_)
  rintro _ w ⟨rfl, c_2⟩
  replace hS := hS.no c_2
  refine ⟨.inl (hS.pick [0]), ?_⟩
  refine K.DW.l 15 rfl (by kernel_rfl) rfl (K.OW.gcall hS [2] [0, 1, 3] [.pointer (some ⟨pm, 0, none⟩), .int .i64 S.t, .int .i64 (logS c S.t pl)] (mFlush_ok _ _ _ _ _ _ _ x S.t (by omega) (logS c S.t pl) (by omega)) ?_)
  clear hS; rintro _ _ w ⟨l_3, rfl, rfl, x_4⟩ hS
  replace hS : K.Sat w0 [l_3, gp, gl, fr] w := hS
  refine ⟨.inl (hS.pick [1]), ?_⟩
  refine K.DW.done (by kernel_rfl) ?_
  refine K.t (K.s (K.g (K.q [.pointer (some ⟨p, 0, none⟩), .pointer (some ⟨p, 0, none⟩), .pointer (some ⟨p, 2, none⟩)] ?_)))
  refine K.l (K.OW.gst 1 [.int .i64 3] _ hS hgp ?_)
  clear hS; intro w g_5 hg_6 hS
  replace hS : K.Sat w0 [l_3, g_5, gl, fr] w := hS
  refine K.z (K.t (K.r (K.u ?_)))
  have e : elast c n t S.t S.pc pl M = ((M.accF n t S.t (logS c S.t pl)).1) := if_pos (by omega)
  refine ⟨.inr rfl, rfl, (.tuple #[]), K.res0 rfl, [g_5, gl, l_3], ?_, hS.pick [1, 2, 0, 3]⟩
  exact ⟨_, _, rfl, rfl, by rw [if_pos (by omega)]; exact hg_6, by rw [e]; exact x_4⟩
 ·
  refine K.xe (S.pc : Int) (2 : Int) h_1 ?_
  refine K.z (K.t (K.f (K.k (K.t (K.s (K.g (K.q [.pointer (some ⟨pm, 0, none⟩), .pointer (some ⟨p, 0, none⟩), .pointer (some ⟨p, 0, none⟩), .pointer (some ⟨p, 1, none⟩)] ?_)))))))
  refine K.d (.int .i64 S.t) ((hS.blk 0 rfl hgp).cell rfl) ?_
  refine K.l (K.OW.gcall hS [2] [0, 1, 3] [.pointer (some ⟨pm, 0, none⟩), .int .i64 S.t] (mFence_ok _ _ _ _ _ _ _ x S.t (by omega)) ?_)
  clear hS; rintro _ _ w ⟨l_7, rfl, rfl, x_8⟩ hS
  replace hS : K.Sat w0 [l_7, gp, gl, fr] w := hS
  refine K.z (K.t (K.g (K.q [.pointer (some ⟨p, 0, none⟩), .pointer (some ⟨p, 0, none⟩), .pointer (some ⟨p, 2, none⟩)] ?_)))
  refine K.l (K.OW.gst 1 [.int .i64 5] _ hS hgp ?_)
  clear hS; intro w g_9 hg_10 hS
  replace hS : K.Sat w0 [l_7, g_9, gl, fr] w := hS
  refine K.z ?_
  have e : elast c n t S.t S.pc pl M = ((M.accE t S.t).1) := if_neg (by omega)
  refine ⟨.inl rfl, rfl, (.tuple #[]), K.res0 rfl, [g_9, gl, l_7], ?_, hS.pick [1, 2, 0, 3]⟩
  exact ⟨_, _, rfl, rfl, by rw [if_neg (by omega)]; exact hg_10, by rw [e]; exact x_8⟩
set_option maxHeartbeats 1000000 in
set_option maxRecDepth 100000 in
theorem staStep_ok (w0 : World) (p b pm q n t : Nat) (c : Cfg) (hc : cfgOk c) (S : StaS) (M : MemM) (gp gl l : K.Cs) (hgp : gp = staPt p b S) (hgl : gl = layPt b c) (x : MemAt l pm q n t M) (hM : M.good) (hS : S.good) :
  K.GC Tryz.prog w0 12 #[.pointer (some ⟨p, 0, none⟩), .pointer (some ⟨pm, 0, none⟩)] [gp, gl, l] (fun v post => ∃ gp' l', v = .bool (staStep c n t S M).1.done ∧ post = [gp', gl, l'] ∧ gp' = staPt p b (staStep c n t S M).1 ∧ MemAt l' pm q n t (staStep c n t S M).2) := by
 have hS0 := hS
 obtain ⟨hSt, hSp, hSl, hSs, hSn⟩ := hS
 have hcv := cv64_int S.now
 refine K.GC.mk (n := 87) Tryz.func12 rfl rfl [.pointer (some ⟨p, 0, none⟩), .pointer (some ⟨pm, 0, none⟩)] rfl rfl ?_
 intro fr w hS
 replace hS : K.Sat w0 [gp, gl, l, fr] w := hS
 refine K.s (K.g (K.q [.bool false] (K.z (K.t (K.s (K.s (K.g (K.q [.pointer (some ⟨p, 0, none⟩)] ?_))))))))
 refine K.l (K.OW.gcall hS [0] [1, 2, 3] [.pointer (some ⟨p, 0, none⟩)] (staDone_ok _ _ _ ⟨S.t, S.pc, S.place, S.slot, S.now⟩ _ hgp) ?_)
 clear hS; rintro _ _ w ⟨rfl, (⟨rfl, h_1⟩ | ⟨rfl, h_2⟩)⟩ hS
 ·
  replace hS : K.Sat w0 [gp, gl, l, fr] w := hS
  replace h_1 : S.pc = 5 := h_1
  refine K.z (K.t (K.h (K.s (K.g (K.q [.bool true] (K.z (K.t (K.r (K.u ?_)))))))))
  have e : staStep c n t S M = (S, M) := by unfold staStep; rw [if_pos (by omega)]
  refine ⟨.inr rfl, rfl, (.bool true), K.res1 rfl rfl, [gp, gl, l], ?_, hS.pick [0, 1, 2, 3]⟩
  exact ⟨_, _, by rw [e]; exact congrArg Value.bool (decide_eq_true (by show S.pc = (5 : Int); omega)).symm, rfl, by rw [e]; exact hgp, by rw [e]; exact x⟩
 ·
  replace hS : K.Sat w0 [gp, gl, l, fr] w := hS
  replace h_2 : ¬ S.pc = 5 := h_2
  refine K.z (K.t (K.f (K.k (K.t (K.s (K.s (K.g (K.q [.pointer (some ⟨p, 0, none⟩), .pointer (some ⟨p, 0, none⟩), .pointer (some ⟨p, 0, none⟩), .pointer (some ⟨p, 2, none⟩)] ?_))))))))
  refine K.d (.int .i64 S.pc) ((hS.blk 0 rfl hgp).cell rfl) ?_
  refine K.z (K.t ?_)
  refine K.KW.block ?_
  refine K.s (K.g ?_)
  by_cases h_3 : (S.pc : Int) = (0 : Int)
  ·
   refine K.ye (S.pc : Int) (0 : Int) h_3 ?_
   refine K.q [.bool true] (K.z (K.t (K.h ?_)))
   refine K.KW.gdrawnC [] (fun w => w.cell? ⟨p, 1, none⟩ = some (.int .i64 S.t)) hS (by kernel_rfl) ?_
   clear hS; intro w hS
   refine K.p 0 rfl (.pointer (some ⟨p, 0, none⟩)) ⟨hS.pick [], (hS.blk 0 rfl hgp).cell rfl⟩ ?_
   refine K.p 1 rfl (.pointer (some ⟨p, 0, none⟩)) ⟨hS.pick [], (hS.blk 0 rfl hgp).cell rfl⟩ ?_
   refine K.p 2 rfl (.pointer (some ⟨pm, 0, none⟩)) ⟨hS.pick [], (hS.blk 0 rfl hgp).cell rfl⟩ ?_
   refine K.p 3 rfl (.pointer (some ⟨p, 0, none⟩)) ⟨hS.pick [], (hS.blk 0 rfl hgp).cell rfl⟩ ?_
   refine K.p 4 rfl (.pointer (some ⟨p, 0, none⟩)) ⟨hS.pick [], (hS.blk 0 rfl hgp).cell rfl⟩ ?_
   refine K.p 5 rfl (.pointer (some ⟨p, 0, none⟩)) ⟨hS.pick [], (hS.blk 0 rfl hgp).cell rfl⟩ ?_
   refine K.p 6 rfl (.pointer (some ⟨p, 1, none⟩)) ⟨hS.pick [], (hS.blk 0 rfl hgp).cell rfl⟩ ?_
   refine K.o_ 7 rfl (.int .i64 S.t) (fun w ⟨hS, hC⟩ => hC) ⟨hS.pick [], (hS.blk 0 rfl hgp).cell rfl⟩ ?_
   refine K.b 8 rfl (.pointer (some ⟨p, 0, none⟩)) ⟨hS.pick [], (hS.blk 0 rfl hgp).cell rfl⟩ ?_
   refine K.b 9 rfl (.pointer (some ⟨p, 0, none⟩)) ⟨hS.pick [], (hS.blk 0 rfl hgp).cell rfl⟩ ?_
   refine K.b 10 rfl (.pointer (some ⟨p, 0, none⟩)) ⟨hS.pick [], (hS.blk 0 rfl hgp).cell rfl⟩ ?_
   refine K.b 11 rfl (.pointer (some ⟨p, 0, none⟩)) ⟨hS.pick [], (hS.blk 0 rfl hgp).cell rfl⟩ ?_
   refine K.c 12 rfl (K.QR.ld1 (v := .pointer (some ⟨b, 0, none⟩)) rfl rfl (by kernel_rfl) ((hS.blk 0 rfl hgp).cell rfl)) ⟨hS.pick [], (hS.blk 0 rfl hgp).cell rfl⟩ ?_
   refine K.DW.l 13 rfl (by kernel_rfl) rfl (K.OW.kcall hS [.pointer (some ⟨b, 0, none⟩)] (lEpoch _ c  _ (by assumption) (hS.blk 1 rfl hgl)) ?_)
   rintro _ w ⟨rfl, c_4⟩
   replace hS := hS.no c_4
   refine ⟨.inl ⟨hS.pick [], (hS.blk 0 rfl hgp).cell rfl⟩, ?_⟩
   refine K.DW.l 14 rfl (by kernel_rfl) rfl (K.OW.gcall hS [2] [0, 1, 3] [.pointer (some ⟨pm, 0, none⟩), .int .i64 S.t, .int .i64 (-1)] (mLoad_ok _ _ _ _ _ _ _ x S.t ((-1) : Int) (by first | omega | assumption | exact log_int (by assumption) _ _ | exact aft_int (by assumption) _ | exact ann_int (by assumption) _ (by omega)) ) ?_)
   clear hS; rintro _ _ w ⟨l_5, rfl, rfl, x_6⟩ hS
   replace hS : K.Sat w0 [l_5, gp, gl, fr] w := hS
   have hw_7 : isW (M.accL n S.t ((-1) : Int)).2.old := (accL_good (by assumption)).2
   refine ⟨.inl ⟨hS.pick [], (hS.blk 1 rfl hgp).cell rfl⟩, ?_⟩
   refine K.b 15 rfl (.pointer (some ⟨p, 0, none⟩)) ⟨hS.pick [], (hS.blk 1 rfl hgp).cell rfl⟩ ?_
   refine K.b 16 rfl (.pointer (some ⟨p, 5, none⟩)) ⟨hS.pick [], (hS.blk 1 rfl hgp).cell rfl⟩ ?_
   refine K.DW.l 17 rfl (by kernel_rfl) rfl (K.OW.gst 1 [.int .u64 ((M.accL n S.t ((-1) : Int)).2.old)] _ hS hgp ?_)
   clear hS; intro w g_8 hg_9 hS
   replace hS : K.Sat w0 [l_5, g_8, gl, fr] w := hS
   refine ⟨.inl ⟨hS.pick [], (hS.blk 1 rfl hg_9).cell rfl⟩, ?_⟩
   refine K.b 18 rfl (.pointer (some ⟨p, 0, none⟩)) ⟨hS.pick [], (hS.blk 1 rfl hg_9).cell rfl⟩ ?_
   refine K.b 19 rfl (.pointer (some ⟨p, 0, none⟩)) ⟨hS.pick [], (hS.blk 1 rfl hg_9).cell rfl⟩ ?_
   refine K.b 20 rfl (.pointer (some ⟨p, 2, none⟩)) ⟨hS.pick [], (hS.blk 1 rfl hg_9).cell rfl⟩ ?_
   refine K.DW.l 21 rfl (by kernel_rfl) rfl (K.OW.gst 1 [.int .i64 1] _ hS hg_9 ?_)
   clear hS; intro w g_10 hg_11 hS
   replace hS : K.Sat w0 [l_5, g_10, gl, fr] w := hS
   refine ⟨.inl ⟨hS.pick [], (hS.blk 1 rfl hg_11).cell rfl⟩, ?_⟩
   refine K.DW.done (by kernel_rfl) ?_
   refine K.blk_normal ?_
   refine K.t (K.s (K.g (K.q [.pointer (some ⟨p, 0, none⟩), .pointer (some ⟨p, 0, none⟩), .pointer (some ⟨p, 0, none⟩), .pointer (some ⟨p, 2, none⟩)] ?_)))
   refine K.d (.int .i64 1) ((hS.blk 1 rfl hg_11).cell rfl) ?_
   refine K.q [.bool false, .bool false] (K.z (K.t (K.r ?_)))
   have e : staStep c n t S M = (⟨S.t, 1, S.place, S.slot, (M.accL n S.t ((-1) : Int)).2.old⟩, ((M.accL n S.t ((-1) : Int)).1)) := by unfold staStep; rw [if_neg (by omega), if_pos (by omega)]
   refine ⟨.inr rfl, rfl, (.bool false), K.res1 rfl rfl, [g_10, gl, l_5], ?_, hS.pick [1, 2, 0, 3]⟩
   exact ⟨_, _, by rw [e]; exact congrArg Value.bool (decide_eq_false (by show ¬ (1 : Int) = (5 : Int); omega)).symm, rfl, by rw [e]; exact hg_11, by rw [e]; exact x_6⟩
  ·
   refine K.xe (S.pc : Int) (0 : Int) h_3 ?_
   refine K.q [.bool false] (K.z (K.t (K.f (K.s (K.g ?_)))))
   by_cases h_12 : (S.pc : Int) = (1 : Int)
   ·
    refine K.ye (S.pc : Int) (1 : Int) h_12 ?_
    refine K.q [.bool true] (K.z (K.t (K.h (K.s ?_))))
    refine K.KW.gdrawn [0] hS (by kernel_rfl) ?_
    clear hS; intro w hS
    refine K.p 0 rfl (.pointer (some ⟨pm, 0, none⟩)) (hS.pick [0]) ?_
    refine K.p 1 rfl (.pointer (some ⟨p, 0, none⟩)) (hS.pick [0]) ?_
    refine K.p 2 rfl (.pointer (some ⟨p, 0, none⟩)) (hS.pick [0]) ?_
    refine K.p 3 rfl (.pointer (some ⟨p, 0, none⟩)) (hS.pick [0]) ?_
    refine K.p 4 rfl (.pointer (some ⟨p, 1, none⟩)) (hS.pick [0]) ?_
    refine K.o_ 5 rfl (.int .i64 S.t) (fun w hS => ((hS.blk 0 rfl hgp).cell rfl)) (hS.pick [0]) ?_
    refine K.p 6 rfl (.pointer (some ⟨p, 0, none⟩)) (hS.pick [0]) ?_
    refine K.p 7 rfl (.pointer (some ⟨p, 0, none⟩)) (hS.pick [0]) ?_
    refine K.p 8 rfl (.pointer (some ⟨p, 0, none⟩)) (hS.pick [0]) ?_
    refine K.p 9 rfl (.pointer (some ⟨p, 0, none⟩)) (hS.pick [0]) ?_
    refine K.o_ 10 rfl (.pointer (some ⟨b, 0, none⟩)) (fun w hS => ((hS.blk 0 rfl hgp).cell rfl)) (hS.pick [0]) ?_
    refine K.p 11 rfl (.pointer (some ⟨p, 0, none⟩)) (hS.pick [0]) ?_
    refine K.p 12 rfl (.pointer (some ⟨p, 0, none⟩)) (hS.pick [0]) ?_
    refine K.p 13 rfl (.pointer (some ⟨p, 0, none⟩)) (hS.pick [0]) ?_
    refine K.p 14 rfl (.pointer (some ⟨p, 1, none⟩)) (hS.pick [0]) ?_
    refine K.o_ 15 rfl (.int .i64 S.t) (fun w hS => ((hS.blk 0 rfl hgp).cell rfl)) (hS.pick [0]) ?_
    refine K.p 16 rfl (.pointer (some ⟨p, 0, none⟩)) (hS.pick [0]) ?_
    refine K.p 17 rfl (.pointer (some ⟨p, 0, none⟩)) (hS.pick [0]) ?_
    refine K.p 18 rfl (.pointer (some ⟨p, 3, none⟩)) (hS.pick [0]) ?_
    refine K.o_ 19 rfl (.int .i64 S.place) (fun w hS => ((hS.blk 0 rfl hgp).cell rfl)) (hS.pick [0]) ?_
    refine K.p 21 rfl (.pointer (some ⟨p, 0, none⟩)) (hS.pick [0]) ?_
    refine K.p 22 rfl (.pointer (some ⟨p, 0, none⟩)) (hS.pick [0]) ?_
    refine K.p 23 rfl (.pointer (some ⟨p, 4, none⟩)) (hS.pick [0]) ?_
    refine K.o_ 24 rfl (.int .i64 S.slot) (fun w hS => ((hS.blk 0 rfl hgp).cell rfl)) (hS.pick [0]) ?_
    refine K.p 25 rfl (.pointer (some ⟨p, 0, none⟩)) (hS.pick [0]) ?_
    refine K.p 26 rfl (.pointer (some ⟨p, 0, none⟩)) (hS.pick [0]) ?_
    refine K.p 27 rfl (.pointer (some ⟨p, 5, none⟩)) (hS.pick [0]) ?_
    refine K.o_ 28 rfl (.int .u64 S.now) (fun w hS => ((hS.blk 0 rfl hgp).cell rfl)) (hS.pick [0]) ?_
    refine K.p 29 rfl (.int .i64 (cv64 S.now)) (hS.pick [0]) ?_
    refine K.DW.l 20 rfl (by kernel_rfl) rfl (K.OW.kcall hS [.pointer (some ⟨b, 0, none⟩), .int .i64 S.t, .int .i64 S.place] (lLog _ c S.t S.place _ (by assumption) (hS.blk 1 rfl hgl)) ?_)
    rintro _ w ⟨rfl, c_13⟩
    replace hS := hS.no c_13
    refine ⟨.inl (hS.pick [0]), ?_⟩
    refine K.DW.l 30 rfl (by kernel_rfl) rfl (K.OW.gcall hS [] [0, 1, 2, 3] [.int .i64 S.slot, .int .i64 (cv64 S.now)] (entry_ok _ S.slot (cv64 S.now) (by omega) (by omega)) ?_)
    clear hS; rintro _ _ w ⟨rfl, rfl⟩ hS
    replace hS : K.Sat w0 [gp, gl, l, fr] w := hS
    have hw_14 : isW (entryI S.slot (cv64 S.now)) := entryI_w _ _
    refine ⟨.inl (hS.pick [0]), ?_⟩
    refine K.DW.l 31 rfl (by kernel_rfl) rfl (K.OW.gcall hS [2] [0, 1, 3] [.pointer (some ⟨pm, 0, none⟩), .int .i64 S.t, .int .i64 (logS c S.t S.place), .int .u64 (entryI S.slot (cv64 S.now))] (mStore_ok _ _ _ _ _ _ _ x S.t (logS c S.t S.place) (by first | omega | assumption | exact log_int (by assumption) _ _ | exact aft_int (by assumption) _ | exact ann_int (by assumption) _ (by omega)) (entryI S.slot (cv64 S.now))) ?_)
    clear hS; rintro _ _ w ⟨l_15, rfl, rfl, x_16⟩ hS
    replace hS : K.Sat w0 [l_15, gp, gl, fr] w := hS
    refine ⟨.inl (hS.pick [1]), ?_⟩
    refine K.DW.done (by kernel_rfl) ?_
    refine K.t (K.g (K.q [.pointer (some ⟨p, 0, none⟩), .pointer (some ⟨p, 0, none⟩), .pointer (some ⟨p, 0, none⟩), .pointer (some ⟨p, 2, none⟩)] ?_))
    refine K.l (K.OW.gst 1 [.int .i64 2] _ hS hgp ?_)
    clear hS; intro w g_17 hg_18 hS
    replace hS : K.Sat w0 [l_15, g_17, gl, fr] w := hS
    refine K.z ?_
    refine K.blk_normal ?_
    refine K.t (K.s (K.g (K.q [.pointer (some ⟨p, 0, none⟩), .pointer (some ⟨p, 0, none⟩), .pointer (some ⟨p, 0, none⟩), .pointer (some ⟨p, 2, none⟩)] ?_)))
    refine K.d (.int .i64 2) ((hS.blk 1 rfl hg_18).cell rfl) ?_
    refine K.q [.bool false, .bool false] (K.z (K.t (K.r ?_)))
    have e : staStep c n t S M = (⟨S.t, 2, S.place, S.slot, S.now⟩, ((M.accS n S.t (logS c S.t S.place) (entryI S.slot (cv64 S.now))).1)) := by unfold staStep; rw [if_neg (by omega), if_neg (by omega), if_pos (by omega)]; rw [← entry_cv S.slot S.now]
    refine ⟨.inr rfl, rfl, (.bool false), K.res1 rfl rfl, [g_17, gl, l_15], ?_, hS.pick [1, 2, 0, 3]⟩
    exact ⟨_, _, by rw [e]; exact congrArg Value.bool (decide_eq_false (by show ¬ (2 : Int) = (5 : Int); omega)).symm, rfl, by rw [e]; exact hg_18, by rw [e]; exact x_16⟩
   ·
    refine K.xe (S.pc : Int) (1 : Int) h_12 ?_
    refine K.q [.bool false] (K.z (K.t (K.f ?_)))
    refine K.KW.gdrawn [] hS (by kernel_rfl) ?_
    clear hS; intro w hS
    refine K.p 0 rfl (.pointer (some ⟨p, 0, none⟩)) (hS.pick []) ?_
    refine K.p 1 rfl (.pointer (some ⟨p, 0, none⟩)) (hS.pick []) ?_
    refine K.p 2 rfl (.pointer (some ⟨p, 0, none⟩)) (hS.pick []) ?_
    refine K.p 3 rfl (.pointer (some ⟨pm, 0, none⟩)) (hS.pick []) ?_
    refine K.b 4 rfl (.pointer (some ⟨p, 0, none⟩)) (hS.pick []) ?_
    refine K.b 5 rfl (.pointer (some ⟨p, 0, none⟩)) (hS.pick []) ?_
    refine K.b 6 rfl (.pointer (some ⟨p, 3, none⟩)) (hS.pick []) ?_
    refine K.c 7 rfl (K.QR.ld1 (v := .int .i64 S.place) rfl rfl (by kernel_rfl) ((hS.blk 0 rfl hgp).cell rfl)) (hS.pick []) ?_
    refine K.DW.l 8 rfl (by kernel_rfl) rfl (K.OW.gcall hS [0, 1, 2] [3] [.pointer (some ⟨p, 0, none⟩), .pointer (some ⟨pm, 0, none⟩), .int .i64 S.place] (staLast_ok _ _ _ _ _ _ _ c hc S M _ _ _ hgp hgl x (by assumption) hS0 S.place (by omega)) ?_)
    clear hS; rintro _ _ w ⟨g_19, l_20, rfl, rfl, h_21, x_22⟩ hS
    replace hS : K.Sat w0 [g_19, gl, l_20, fr] w := hS
    refine ⟨.inl (hS.pick []), ?_⟩
    refine K.DW.done (by kernel_rfl) ?_
    refine K.blk_normal ?_
    refine K.t (K.s (K.g (K.q [.pointer (some ⟨p, 0, none⟩), .pointer (some ⟨p, 0, none⟩), .pointer (some ⟨p, 0, none⟩), .pointer (some ⟨p, 2, none⟩)] ?_)))
    refine K.d (.int .i64 (if S.pc = 2 then 3 else 5)) ((hS.blk 0 rfl h_21).cell rfl) ?_
    by_cases h_23 : ((if S.pc = 2 then 3 else 5) : Int) = (5 : Int)
    ·
     refine K.ye ((if S.pc = 2 then 3 else 5) : Int) (5 : Int) h_23 ?_
     refine K.q [.bool true] (K.z (K.t (K.r ?_)))
     have e : staStep c n t S M = (⟨S.t, (if S.pc = 2 then 3 else 5), S.place, S.slot, S.now⟩, (elast c n t S.t S.pc S.place M)) := by unfold staStep; rw [if_neg (by omega), if_neg (by omega), if_neg (by omega)]
     refine ⟨.inr rfl, rfl, (.bool true), K.res1 rfl rfl, [g_19, gl, l_20], ?_, hS.pick [0, 1, 2, 3]⟩
     exact ⟨_, _, by rw [e]; exact congrArg Value.bool (decide_eq_true (by show (if S.pc = 2 then 3 else 5) = (5 : Int); omega)).symm, rfl, by rw [e]; exact h_21, by rw [e]; exact x_22⟩
    ·
     refine K.xe ((if S.pc = 2 then 3 else 5) : Int) (5 : Int) h_23 ?_
     refine K.q [.bool false] (K.z (K.t (K.r ?_)))
     have e : staStep c n t S M = (⟨S.t, (if S.pc = 2 then 3 else 5), S.place, S.slot, S.now⟩, (elast c n t S.t S.pc S.place M)) := by unfold staStep; rw [if_neg (by omega), if_neg (by omega), if_neg (by omega)]
     refine ⟨.inr rfl, rfl, (.bool false), K.res1 rfl rfl, [g_19, gl, l_20], ?_, hS.pick [0, 1, 2, 3]⟩
     exact ⟨_, _, by rw [e]; exact congrArg Value.bool (decide_eq_false (by show ¬ (if S.pc = 2 then 3 else 5) = (5 : Int); omega)).symm, rfl, by rw [e]; exact h_21, by rw [e]; exact x_22⟩
set_option maxHeartbeats 1000000 in
set_option maxRecDepth 100000 in
theorem newsta_ok (w0 : World) (b : Nat) (tt pl sl : Int) :
  K.GC Tryz.prog w0 10 #[.pointer (some ⟨b, 0, none⟩), .int .i64 tt, .int .i64 pl, .int .i64 sl] [] (fun v post => ∃ p g, v = .pointer (some ⟨p, 0, none⟩) ∧ post = [g] ∧ g = staPt p b ⟨tt, 0, pl, sl, 0⟩) := by
 refine K.GC.mk (n := 16) Tryz.func10 rfl rfl [.pointer (some ⟨b, 0, none⟩), .int .i64 tt, .int .i64 pl, .int .i64 sl] rfl rfl ?_
 intro fr w hS
 replace hS : K.Sat w0 [fr] w := hS
 refine K.s (K.g (K.q [.pointer none] (K.z (K.t (K.s (K.g (K.q [.pointer (some ⟨b, 0, none⟩), .int .i64 tt] ?_)))))))
 refine K.a (K.QR.bd [(0, .pointer (some ⟨b, 0, none⟩)), (1, .int .i64 tt)] [.pointer (some ⟨b, 0, none⟩), .int .i64 tt, .int .i64 0] rfl rfl (by kernel_rfl)) ?_
 refine K.q [.int .i64 pl, .int .i64 sl] ?_
 refine K.a (K.QR.bd [(0, .agg #[.pointer (some ⟨b, 0, none⟩), .int .i64 tt, .int .i64 0]), (1, .int .i64 pl), (2, .int .i64 sl)] [.pointer (some ⟨b, 0, none⟩), .int .i64 tt, .int .i64 0, .int .i64 pl, .int .i64 sl, .int .u64 0] rfl rfl (by kernel_rfl)) ?_
 refine K.l (K.OW.gnew 102 [.pointer (some ⟨b, 0, none⟩), .int .i64 tt, .int .i64 0, .int .i64 pl, .int .i64 sl, .int .u64 0] hS ?_)
 clear hS; intro w r_1 g_2 hg_3 hS
 refine K.q [.pointer (some ⟨r_1, 0, none⟩)] (K.z (K.t (K.r ?_)))
 refine ⟨.inr rfl, rfl, (.pointer (some ⟨r_1, 0, none⟩)), K.res1 rfl rfl, [g_2], ?_, hS.pick [0, 1]⟩
 exact ⟨_, _, rfl, rfl, hg_3⟩
end Go.Proofs.YtkmndplicmaahaaGreat
