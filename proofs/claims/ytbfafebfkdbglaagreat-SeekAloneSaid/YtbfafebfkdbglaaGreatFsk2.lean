/- The way through a list: a step; what is told. -/
import Derived.Test.YtbfafebfkdbglaaGreatFsk
import Derived.Test.YtbfafebfkdbglaaGreatKn
namespace Go.Proofs.YtbfafebfkdbglaaGreat
open Go.RowKit
set_option linter.unusedVariables false
attribute [local irreducible] K.KW K.RW K.DW K.OW K.QR K.KC
theorem gcWith {w0 : World} {f : Nat} {args : Array Value} {a b : K.Cs} {Q : Value → Prop} (h : K.GC Tryz.prog w0 f args [a] (fun v post => Q v ∧ post = [a])) : K.GC Tryz.prog w0 f args [[a, b].flatten] (fun v post => Q v ∧ post = [[a, b].flatten]) := by
 intro fr w hs
 refine K.KC.mono (h ([b, fr].flatten) w (hs.of (by simp))) ?_
 rintro v w' ⟨post, ⟨hq, rfl⟩, hs2⟩
 exact ⟨_, ⟨hq, rfl⟩, hs2.of (by simp)⟩
set_option maxHeartbeats 1000000 in
set_option maxRecDepth 100000 in
theorem skDone_ok (w0 : World) (p b : Nat) (f : Value) (ra sa : Option Addr) (S : SkS) (gp : K.Cs) (hgp : gp = skPt p b f ra sa S) :
  K.GC Tryz.prog w0 18 #[.pointer (some ⟨p, 0, none⟩)] [gp] (fun v post => v = .bool S.done ∧ post = [gp]) := by
 refine K.GC.mk (n := 11) Tryz.func18 rfl rfl [.pointer (some ⟨p, 0, none⟩)] rfl rfl ?_
 intro fr w hS
 replace hS : K.Sat w0 [gp, fr] w := hS
 refine K.s (K.g (K.q [.bool false] (K.z (K.t (K.s (K.g (K.q [.pointer (some ⟨p, 0, none⟩), .bool false, .bool false, .pointer (some ⟨p, 0, none⟩), .pointer (some ⟨p, 0, none⟩), .pointer (some ⟨p, 7, none⟩)] ?_)))))))
 refine K.d (.bool S.done) ((hS.blk 0 rfl hgp).cell rfl) ?_
 refine K.q [.bool S.done, .bool S.done] (K.z (K.t (K.r ?_)))
 refine ⟨.inr rfl, rfl, (.bool S.done), K.res1 rfl rfl, [gp], ?_, hS.pick [0, 1]⟩
 exact ⟨rfl, rfl⟩
set_option maxHeartbeats 1000000 in
set_option maxRecDepth 100000 in
theorem skStep_1 (w0 : World) (p b pm q n t : Nat) (r : Nat) (sa : Option Addr) (c : Cfg) (hc : cfgOk c) (S : SkS) (M : MemM) (gp gx gl l : K.Cs) (hgp : gp = skPt p b (skF 121 p) ((some ⟨r, 0, none⟩)) (sa) S) (hgx : gx = rdPt r S.rd) (hgl : gl = layPt b c) (x : MemAt l pm q n t M) (hM : M.good) (hS : S.good) (hd : S.done = false) (hm : S.mode = 1) :
  K.GC Tryz.prog w0 15 #[.pointer (some ⟨p, 0, none⟩), .pointer (some ⟨pm, 0, none⟩)] [gp, gx, gl, l] (fun v post => ∃ f' ra' sa' gp' g1 l', v = .bool (skStep c n t S M).1.done ∧ post = [gp', g1, gl, l'] ∧ gp' = skPt p b f' ra' sa' (skStep c n t S M).1 ∧ SkTail p (skStep c n t S M).1 f' ra' sa' g1 ∧ MemAt l' pm q n t (skStep c n t S M).2) := by
 have hSg := hS
 refine K.GC.mk (n := 16) Tryz.func15 rfl rfl [.pointer (some ⟨p, 0, none⟩), .pointer (some ⟨pm, 0, none⟩)] rfl rfl ?_
 intro fr w hS
 replace hS : K.Sat w0 [gp, gx, gl, l, fr] w := hS
 refine K.s (K.g (K.q [.bool false] (K.z (K.t (K.s (K.s (K.g (K.q [.pointer (some ⟨p, 0, none⟩)] ?_))))))))
 refine K.l (K.OW.gcall hS [0] [1, 2, 3, 4] [.pointer (some ⟨p, 0, none⟩)] (skDone_ok _ _ _ _ _ _ S _ hgp) ?_)
 clear hS; rintro _ _ w ⟨rfl, rfl⟩ hS
 replace hS : K.Sat w0 [gp, gx, gl, l, fr] w := hS
 cases hb_1 : S.done
 ·
  refine K.q [.bool true] (K.z (K.t (K.h (K.g (K.q [.pointer (some ⟨p, 0, none⟩), .pointer (some ⟨p, 0, none⟩), .pointer (some ⟨p, 4, none⟩)] ?_)))))
  refine K.d (.func (.func 121) [.pointer (some ⟨p, 0, none⟩)].toArray [].toArray) ((hS.blk 0 rfl hgp).cell rfl) ?_
  refine K.q [.pointer (some ⟨pm, 0, none⟩)] ?_
  refine K.l (K.OW.gcallw hS [0, 1, 2, 3] [4] [.pointer (some ⟨p, 0, none⟩), .pointer (some ⟨pm, 0, none⟩)] (skFirst_ok _ _ _ _ _ _ _ r _ c hc S M _ _ _ _ hgp hgx hgl x hM hSg hd hm) ?_)
  clear hS; rintro _ _ w ⟨f_2, ra_3, sa_4, g_5, q_6, l_7, rfl, rfl, h_8, k_9, x_10⟩ hS
  replace hS : K.Sat w0 [g_5, q_6, gl, l_7, fr] w := hS
  refine K.z (K.t (K.s (K.g (K.q [.pointer (some ⟨p, 0, none⟩)] ?_))))
  refine K.l (K.OW.gcall hS [0] [1, 2, 3, 4] [.pointer (some ⟨p, 0, none⟩)] (skDone_ok _ _ _ _ _ _ (skStep c n t S M).1 _ h_8) ?_)
  clear hS; rintro _ _ w ⟨rfl, rfl⟩ hS
  replace hS : K.Sat w0 [g_5, q_6, gl, l_7, fr] w := hS
  refine K.q [.bool ((skStep c n t S M).1.done)] (K.z (K.t (K.r ?_)))
  refine ⟨.inr rfl, rfl, (.bool ((skStep c n t S M).1.done)), K.res1 rfl rfl, [g_5, q_6, gl, l_7], ?_, hS.pick [0, 1, 2, 3, 4]⟩
  exact ⟨_, _, _, _, _, _, rfl, rfl, h_8, k_9, x_10⟩
 ·cases (hb_1.symm.trans (show S.done = false from hd))
set_option maxHeartbeats 1000000 in
set_option maxRecDepth 100000 in
theorem skStep_2 (w0 : World) (p b pm q n t : Nat) (r : Nat) (sa : Option Addr) (c : Cfg) (hc : cfgOk c) (S : SkS) (M : MemM) (gp gx gl l : K.Cs) (hgp : gp = skPt p b (skF 188 p) ((some ⟨r, 0, none⟩)) (sa) S) (hgx : gx = rdPt r S.rd) (hgl : gl = layPt b c) (x : MemAt l pm q n t M) (hM : M.good) (hS : S.good) (hd : S.done = false) (hm : S.mode = 2) :
  K.GC Tryz.prog w0 15 #[.pointer (some ⟨p, 0, none⟩), .pointer (some ⟨pm, 0, none⟩)] [gp, gx, gl, l] (fun v post => ∃ f' ra' sa' gp' g1 l', v = .bool (skStep c n t S M).1.done ∧ post = [gp', g1, gl, l'] ∧ gp' = skPt p b f' ra' sa' (skStep c n t S M).1 ∧ SkTail p (skStep c n t S M).1 f' ra' sa' g1 ∧ MemAt l' pm q n t (skStep c n t S M).2) := by
 have hSg := hS
 refine K.GC.mk (n := 16) Tryz.func15 rfl rfl [.pointer (some ⟨p, 0, none⟩), .pointer (some ⟨pm, 0, none⟩)] rfl rfl ?_
 intro fr w hS
 replace hS : K.Sat w0 [gp, gx, gl, l, fr] w := hS
 refine K.s (K.g (K.q [.bool false] (K.z (K.t (K.s (K.s (K.g (K.q [.pointer (some ⟨p, 0, none⟩)] ?_))))))))
 refine K.l (K.OW.gcall hS [0] [1, 2, 3, 4] [.pointer (some ⟨p, 0, none⟩)] (skDone_ok _ _ _ _ _ _ S _ hgp) ?_)
 clear hS; rintro _ _ w ⟨rfl, rfl⟩ hS
 replace hS : K.Sat w0 [gp, gx, gl, l, fr] w := hS
 cases hb_1 : S.done
 ·
  refine K.q [.bool true] (K.z (K.t (K.h (K.g (K.q [.pointer (some ⟨p, 0, none⟩), .pointer (some ⟨p, 0, none⟩), .pointer (some ⟨p, 4, none⟩)] ?_)))))
  refine K.d (.func (.func 188) [.pointer (some ⟨p, 0, none⟩)].toArray [].toArray) ((hS.blk 0 rfl hgp).cell rfl) ?_
  refine K.q [.pointer (some ⟨pm, 0, none⟩)] ?_
  refine K.l (K.OW.gcallw hS [0, 1, 2, 3] [4] [.pointer (some ⟨p, 0, none⟩), .pointer (some ⟨pm, 0, none⟩)] (skLinked_ok _ _ _ _ _ _ _ r _ c hc S M _ _ _ _ hgp hgx hgl x hM hSg hd hm) ?_)
  clear hS; rintro _ _ w ⟨f_2, ra_3, sa_4, g_5, q_6, l_7, rfl, rfl, h_8, k_9, x_10⟩ hS
  replace hS : K.Sat w0 [g_5, q_6, gl, l_7, fr] w := hS
  refine K.z (K.t (K.s (K.g (K.q [.pointer (some ⟨p, 0, none⟩)] ?_))))
  refine K.l (K.OW.gcall hS [0] [1, 2, 3, 4] [.pointer (some ⟨p, 0, none⟩)] (skDone_ok _ _ _ _ _ _ (skStep c n t S M).1 _ h_8) ?_)
  clear hS; rintro _ _ w ⟨rfl, rfl⟩ hS
  replace hS : K.Sat w0 [g_5, q_6, gl, l_7, fr] w := hS
  refine K.q [.bool ((skStep c n t S M).1.done)] (K.z (K.t (K.r ?_)))
  refine ⟨.inr rfl, rfl, (.bool ((skStep c n t S M).1.done)), K.res1 rfl rfl, [g_5, q_6, gl, l_7], ?_, hS.pick [0, 1, 2, 3, 4]⟩
  exact ⟨_, _, _, _, _, _, rfl, rfl, h_8, k_9, x_10⟩
 ·cases (hb_1.symm.trans (show S.done = false from hd))
set_option maxHeartbeats 1000000 in
set_option maxRecDepth 100000 in
theorem skStep_3 (w0 : World) (p b pm q n t : Nat) (qs : Nat) (ra : Option Addr) (c : Cfg) (hc : cfgOk c) (S : SkS) (M : MemM) (gp gx gl l : K.Cs) (hgp : gp = skPt p b (skF 200 p) (ra) ((some ⟨qs, 0, none⟩)) S) (hgx : gx = sePt qs S.se) (hgl : gl = layPt b c) (x : MemAt l pm q n t M) (hM : M.good) (hS : S.good) (hd : S.done = false) (hm : S.mode = 3) :
  K.GC Tryz.prog w0 15 #[.pointer (some ⟨p, 0, none⟩), .pointer (some ⟨pm, 0, none⟩)] [gp, gx, gl, l] (fun v post => ∃ f' ra' sa' gp' g1 l', v = .bool (skStep c n t S M).1.done ∧ post = [gp', g1, gl, l'] ∧ gp' = skPt p b f' ra' sa' (skStep c n t S M).1 ∧ SkTail p (skStep c n t S M).1 f' ra' sa' g1 ∧ MemAt l' pm q n t (skStep c n t S M).2) := by
 have hSg := hS
 refine K.GC.mk (n := 16) Tryz.func15 rfl rfl [.pointer (some ⟨p, 0, none⟩), .pointer (some ⟨pm, 0, none⟩)] rfl rfl ?_
 intro fr w hS
 replace hS : K.Sat w0 [gp, gx, gl, l, fr] w := hS
 refine K.s (K.g (K.q [.bool false] (K.z (K.t (K.s (K.s (K.g (K.q [.pointer (some ⟨p, 0, none⟩)] ?_))))))))
 refine K.l (K.OW.gcall hS [0] [1, 2, 3, 4] [.pointer (some ⟨p, 0, none⟩)] (skDone_ok _ _ _ _ _ _ S _ hgp) ?_)
 clear hS; rintro _ _ w ⟨rfl, rfl⟩ hS
 replace hS : K.Sat w0 [gp, gx, gl, l, fr] w := hS
 cases hb_1 : S.done
 ·
  refine K.q [.bool true] (K.z (K.t (K.h (K.g (K.q [.pointer (some ⟨p, 0, none⟩), .pointer (some ⟨p, 0, none⟩), .pointer (some ⟨p, 4, none⟩)] ?_)))))
  refine K.d (.func (.func 200) [.pointer (some ⟨p, 0, none⟩)].toArray [].toArray) ((hS.blk 0 rfl hgp).cell rfl) ?_
  refine K.q [.pointer (some ⟨pm, 0, none⟩)] ?_
  refine K.l (K.OW.gcallw hS [0, 1, 2, 3] [4] [.pointer (some ⟨p, 0, none⟩), .pointer (some ⟨pm, 0, none⟩)] (skUnl_ok _ _ _ _ _ _ _ qs _ c hc S M _ _ _ _ hgp hgx hgl x hM hSg hd hm) ?_)
  clear hS; rintro _ _ w ⟨f_2, ra_3, sa_4, g_5, q_6, l_7, rfl, rfl, h_8, k_9, x_10⟩ hS
  replace hS : K.Sat w0 [g_5, q_6, gl, l_7, fr] w := hS
  refine K.z (K.t (K.s (K.g (K.q [.pointer (some ⟨p, 0, none⟩)] ?_))))
  refine K.l (K.OW.gcall hS [0] [1, 2, 3, 4] [.pointer (some ⟨p, 0, none⟩)] (skDone_ok _ _ _ _ _ _ (skStep c n t S M).1 _ h_8) ?_)
  clear hS; rintro _ _ w ⟨rfl, rfl⟩ hS
  replace hS : K.Sat w0 [g_5, q_6, gl, l_7, fr] w := hS
  refine K.q [.bool ((skStep c n t S M).1.done)] (K.z (K.t (K.r ?_)))
  refine ⟨.inr rfl, rfl, (.bool ((skStep c n t S M).1.done)), K.res1 rfl rfl, [g_5, q_6, gl, l_7], ?_, hS.pick [0, 1, 2, 3, 4]⟩
  exact ⟨_, _, _, _, _, _, rfl, rfl, h_8, k_9, x_10⟩
 ·cases (hb_1.symm.trans (show S.done = false from hd))
set_option maxHeartbeats 1000000 in
set_option maxRecDepth 100000 in
theorem skStep_4 (w0 : World) (p b pm q n t : Nat) (r : Nat) (sa : Option Addr) (c : Cfg) (hc : cfgOk c) (S : SkS) (M : MemM) (gp gx gl l : K.Cs) (hgp : gp = skPt p b (skF 198 p) ((some ⟨r, 0, none⟩)) (sa) S) (hgx : gx = rdPt r S.rd) (hgl : gl = layPt b c) (x : MemAt l pm q n t M) (hM : M.good) (hS : S.good) (hd : S.done = false) (hm : S.mode = 4) :
  K.GC Tryz.prog w0 15 #[.pointer (some ⟨p, 0, none⟩), .pointer (some ⟨pm, 0, none⟩)] [gp, gx, gl, l] (fun v post => ∃ f' ra' sa' gp' g1 l', v = .bool (skStep c n t S M).1.done ∧ post = [gp', g1, gl, l'] ∧ gp' = skPt p b f' ra' sa' (skStep c n t S M).1 ∧ SkTail p (skStep c n t S M).1 f' ra' sa' g1 ∧ MemAt l' pm q n t (skStep c n t S M).2) := by
 have hSg := hS
 refine K.GC.mk (n := 16) Tryz.func15 rfl rfl [.pointer (some ⟨p, 0, none⟩), .pointer (some ⟨pm, 0, none⟩)] rfl rfl ?_
 intro fr w hS
 replace hS : K.Sat w0 [gp, gx, gl, l, fr] w := hS
 refine K.s (K.g (K.q [.bool false] (K.z (K.t (K.s (K.s (K.g (K.q [.pointer (some ⟨p, 0, none⟩)] ?_))))))))
 refine K.l (K.OW.gcall hS [0] [1, 2, 3, 4] [.pointer (some ⟨p, 0, none⟩)] (skDone_ok _ _ _ _ _ _ S _ hgp) ?_)
 clear hS; rintro _ _ w ⟨rfl, rfl⟩ hS
 replace hS : K.Sat w0 [gp, gx, gl, l, fr] w := hS
 cases hb_1 : S.done
 ·
  refine K.q [.bool true] (K.z (K.t (K.h (K.g (K.q [.pointer (some ⟨p, 0, none⟩), .pointer (some ⟨p, 0, none⟩), .pointer (some ⟨p, 4, none⟩)] ?_)))))
  refine K.d (.func (.func 198) [.pointer (some ⟨p, 0, none⟩)].toArray [].toArray) ((hS.blk 0 rfl hgp).cell rfl) ?_
  refine K.q [.pointer (some ⟨pm, 0, none⟩)] ?_
  refine K.l (K.OW.gcallw hS [0, 1, 2, 3] [4] [.pointer (some ⟨p, 0, none⟩), .pointer (some ⟨pm, 0, none⟩)] (skKeyed_ok _ _ _ _ _ _ _ r _ c hc S M _ _ _ _ hgp hgx hgl x hM hSg hd hm) ?_)
  clear hS; rintro _ _ w ⟨f_2, ra_3, sa_4, g_5, q_6, l_7, rfl, rfl, h_8, k_9, x_10⟩ hS
  replace hS : K.Sat w0 [g_5, q_6, gl, l_7, fr] w := hS
  refine K.z (K.t (K.s (K.g (K.q [.pointer (some ⟨p, 0, none⟩)] ?_))))
  refine K.l (K.OW.gcall hS [0] [1, 2, 3, 4] [.pointer (some ⟨p, 0, none⟩)] (skDone_ok _ _ _ _ _ _ (skStep c n t S M).1 _ h_8) ?_)
  clear hS; rintro _ _ w ⟨rfl, rfl⟩ hS
  replace hS : K.Sat w0 [g_5, q_6, gl, l_7, fr] w := hS
  refine K.q [.bool ((skStep c n t S M).1.done)] (K.z (K.t (K.r ?_)))
  refine ⟨.inr rfl, rfl, (.bool ((skStep c n t S M).1.done)), K.res1 rfl rfl, [g_5, q_6, gl, l_7], ?_, hS.pick [0, 1, 2, 3, 4]⟩
  exact ⟨_, _, _, _, _, _, rfl, rfl, h_8, k_9, x_10⟩
 ·cases (hb_1.symm.trans (show S.done = false from hd))
set_option maxHeartbeats 1000000 in
set_option maxRecDepth 100000 in
theorem skStep_0 (w0 : World) (p b pm : Nat) (f : Value) (ra sa : Option Addr) (S : SkS) (gp : K.Cs) (hgp : gp = skPt p b f ra sa S) (hd : S.done = true) :
  K.GC Tryz.prog w0 15 #[.pointer (some ⟨p, 0, none⟩), .pointer (some ⟨pm, 0, none⟩)] [gp] (fun v post => v = .bool true ∧ post = [gp]) := by
 refine K.GC.mk (n := 16) Tryz.func15 rfl rfl [.pointer (some ⟨p, 0, none⟩), .pointer (some ⟨pm, 0, none⟩)] rfl rfl ?_
 intro fr w hS
 replace hS : K.Sat w0 [gp, fr] w := hS
 refine K.s (K.g (K.q [.bool false] (K.z (K.t (K.s (K.s (K.g (K.q [.pointer (some ⟨p, 0, none⟩)] ?_))))))))
 refine K.l (K.OW.gcall hS [0] [1] [.pointer (some ⟨p, 0, none⟩)] (skDone_ok _ _ _ _ _ _ S _ hgp) ?_)
 clear hS; rintro _ _ w ⟨rfl, rfl⟩ hS
 replace hS : K.Sat w0 [gp, fr] w := hS
 cases hb_1 : S.done
 ·cases (hb_1.symm.trans (show S.done = true from hd))
 ·
  refine K.q [.bool false] (K.z (K.t (K.f (K.k (K.t (K.s (K.g (K.q [.pointer (some ⟨p, 0, none⟩)] ?_))))))))
  refine K.l (K.OW.gcall hS [0] [1] [.pointer (some ⟨p, 0, none⟩)] (skDone_ok _ _ _ _ _ _ S _ hgp) ?_)
  clear hS; rintro _ _ w ⟨rfl, rfl⟩ hS
  replace hS : K.Sat w0 [gp, fr] w := hS
  cases hb_2 : S.done
  ·cases (hb_2.symm.trans (show S.done = true from hd))
  ·
   refine K.q [.bool true] (K.z (K.t (K.r ?_)))
   refine ⟨.inr rfl, rfl, (.bool true), K.res1 rfl rfl, [gp], ?_, hS.pick [0, 1]⟩
   exact ⟨rfl, rfl⟩
set_option maxHeartbeats 1000000 in
set_option maxRecDepth 100000 in
theorem skFound_ok (w0 : World) (p b : Nat) (f : Value) (ra sa : Option Addr) (S : SkS) (gp : K.Cs) (hgp : gp = skPt p b f ra sa S) :
  K.GC Tryz.prog w0 19 #[.pointer (some ⟨p, 0, none⟩)] [gp] (fun v post => v = .bool (S.done && S.found) ∧ post = [gp]) := by
 refine K.GC.mk (n := 17) Tryz.func19 rfl rfl [.pointer (some ⟨p, 0, none⟩)] rfl rfl ?_
 intro fr w hS
 replace hS : K.Sat w0 [gp, fr] w := hS
 refine K.s (K.g (K.q [.bool false] (K.z (K.t (K.s (K.g (K.q [.pointer (some ⟨p, 0, none⟩), .bool true, .bool true, .pointer (some ⟨p, 0, none⟩), .pointer (some ⟨p, 0, none⟩), .pointer (some ⟨p, 7, none⟩)] ?_)))))))
 refine K.d (.bool S.done) ((hS.blk 0 rfl hgp).cell rfl) ?_
 cases hb_1 : S.done
 ·
  refine K.q [.bool false, .bool false] (K.n_ (K.n_ (K.n_ (K.n_ (K.q [.bool false, .bool false] (K.z (K.t (K.r ?_))))))))
  refine ⟨.inr rfl, rfl, (.bool false), K.res1 rfl rfl, [gp], ?_, hS.pick [0, 1]⟩
  exact ⟨by simp [*], rfl⟩
 ·
  refine K.q [.bool true, .bool true, .pointer (some ⟨p, 0, none⟩), .pointer (some ⟨p, 0, none⟩), .pointer (some ⟨p, 8, none⟩)] ?_
  refine K.d (.bool S.found) ((hS.blk 0 rfl hgp).cell rfl) ?_
  refine K.q [.bool S.found, .bool S.found] (K.z (K.t (K.r ?_)))
  refine ⟨.inr rfl, rfl, (.bool S.found), K.res1 rfl rfl, [gp], ?_, hS.pick [0, 1]⟩
  exact ⟨by simp [*], rfl⟩
set_option maxHeartbeats 1000000 in
set_option maxRecDepth 100000 in
theorem skPrev_ok (w0 : World) (p b : Nat) (f : Value) (ra sa : Option Addr) (S : SkS) (gp : K.Cs) (hgp : gp = skPt p b f ra sa S) :
  K.GC Tryz.prog w0 20 #[.pointer (some ⟨p, 0, none⟩)] [gp] (fun v post => v = .int .i64 (if S.done = true then S.prev else -1) ∧ post = [gp]) := by
 refine K.GC.mk (n := 16) Tryz.func20 rfl rfl [.pointer (some ⟨p, 0, none⟩)] rfl rfl ?_
 intro fr w hS
 replace hS : K.Sat w0 [gp, fr] w := hS
 refine K.s (K.g (K.q [.int .i64 0] (K.z (K.t (K.s (K.s (K.g (K.q [.pointer (some ⟨p, 0, none⟩), .bool false, .bool false, .pointer (some ⟨p, 0, none⟩), .pointer (some ⟨p, 0, none⟩), .pointer (some ⟨p, 7, none⟩)] ?_))))))))
 refine K.d (.bool S.done) ((hS.blk 0 rfl hgp).cell rfl) ?_
 cases hb_1 : S.done
 ·
  refine K.q [.bool true, .bool true] (K.z (K.t (K.h (K.s (K.g (K.q [.int .i64 (-1)] (K.z (K.t (K.r (K.u ?_))))))))))
  refine ⟨.inr rfl, rfl, (.int .i64 (-1)), K.res1 rfl rfl, [gp], ?_, hS.pick [0, 1]⟩
  exact ⟨by rw [if_neg (by simp [*])], rfl⟩
 ·
  refine K.q [.bool false, .bool false] (K.z (K.t (K.f (K.k (K.t (K.s (K.g (K.q [.pointer (some ⟨p, 0, none⟩), .pointer (some ⟨p, 0, none⟩), .pointer (some ⟨p, 9, none⟩)] ?_))))))))
  refine K.d (.int .i64 S.prev) ((hS.blk 0 rfl hgp).cell rfl) ?_
  refine K.q [.int .i64 S.prev] (K.z (K.t (K.r ?_)))
  refine ⟨.inr rfl, rfl, (.int .i64 S.prev), K.res1 rfl rfl, [gp], ?_, hS.pick [0, 1]⟩
  exact ⟨by rw [if_pos rfl], rfl⟩
set_option maxHeartbeats 1000000 in
set_option maxRecDepth 100000 in
theorem skWord_ok (w0 : World) (p b : Nat) (f : Value) (ra sa : Option Addr) (S : SkS) (gp : K.Cs) (hgp : gp = skPt p b f ra sa S) :
  K.GC Tryz.prog w0 27 #[.pointer (some ⟨p, 0, none⟩)] [gp] (fun v post => v = .int .u64 (if S.done = true then S.word else 0) ∧ post = [gp]) := by
 refine K.GC.mk (n := 16) Tryz.func27 rfl rfl [.pointer (some ⟨p, 0, none⟩)] rfl rfl ?_
 intro fr w hS
 replace hS : K.Sat w0 [gp, fr] w := hS
 refine K.s (K.g (K.q [.int .u64 0] (K.z (K.t (K.s (K.s (K.g (K.q [.pointer (some ⟨p, 0, none⟩), .bool false, .bool false, .pointer (some ⟨p, 0, none⟩), .pointer (some ⟨p, 0, none⟩), .pointer (some ⟨p, 7, none⟩)] ?_))))))))
 refine K.d (.bool S.done) ((hS.blk 0 rfl hgp).cell rfl) ?_
 cases hb_1 : S.done
 ·
  refine K.q [.bool true, .bool true] (K.z (K.t (K.h (K.s (K.g (K.q [.int .u64 0] (K.z (K.t (K.r (K.u ?_))))))))))
  refine ⟨.inr rfl, rfl, (.int .u64 0), K.res1 rfl rfl, [gp], ?_, hS.pick [0, 1]⟩
  exact ⟨by rw [if_neg (by simp [*])], rfl⟩
 ·
  refine K.q [.bool false, .bool false] (K.z (K.t (K.f (K.k (K.t (K.s (K.g (K.q [.pointer (some ⟨p, 0, none⟩), .pointer (some ⟨p, 0, none⟩), .pointer (some ⟨p, 10, none⟩)] ?_))))))))
  refine K.d (.int .u64 S.word) ((hS.blk 0 rfl hgp).cell rfl) ?_
  refine K.q [.int .u64 S.word] (K.z (K.t (K.r ?_)))
  refine ⟨.inr rfl, rfl, (.int .u64 S.word), K.res1 rfl rfl, [gp], ?_, hS.pick [0, 1]⟩
  exact ⟨by rw [if_pos rfl], rfl⟩
set_option maxHeartbeats 1000000 in
set_option maxRecDepth 100000 in
theorem skCurr_ok (w0 : World) (p b : Nat) (f : Value) (ra sa : Option Addr) (S : SkS) (gp : K.Cs) (hgp : gp = skPt p b f ra sa S) :
  K.GC Tryz.prog w0 21 #[.pointer (some ⟨p, 0, none⟩)] [gp] (fun v post => v = .int .i64 (if S.done = true then S.curr else -1) ∧ post = [gp]) := by
 refine K.GC.mk (n := 16) Tryz.func21 rfl rfl [.pointer (some ⟨p, 0, none⟩)] rfl rfl ?_
 intro fr w hS
 replace hS : K.Sat w0 [gp, fr] w := hS
 refine K.s (K.g (K.q [.int .i64 0] (K.z (K.t (K.s (K.s (K.g (K.q [.pointer (some ⟨p, 0, none⟩), .bool false, .bool false, .pointer (some ⟨p, 0, none⟩), .pointer (some ⟨p, 0, none⟩), .pointer (some ⟨p, 7, none⟩)] ?_))))))))
 refine K.d (.bool S.done) ((hS.blk 0 rfl hgp).cell rfl) ?_
 cases hb_1 : S.done
 ·
  refine K.q [.bool true, .bool true] (K.z (K.t (K.h (K.s (K.g (K.q [.int .i64 (-1)] (K.z (K.t (K.r (K.u ?_))))))))))
  refine ⟨.inr rfl, rfl, (.int .i64 (-1)), K.res1 rfl rfl, [gp], ?_, hS.pick [0, 1]⟩
  exact ⟨by rw [if_neg (by simp [*])], rfl⟩
 ·
  refine K.q [.bool false, .bool false] (K.z (K.t (K.f (K.k (K.t (K.s (K.g (K.q [.pointer (some ⟨p, 0, none⟩), .pointer (some ⟨p, 0, none⟩), .pointer (some ⟨p, 12, none⟩)] ?_))))))))
  refine K.d (.int .i64 S.curr) ((hS.blk 0 rfl hgp).cell rfl) ?_
  refine K.q [.int .i64 S.curr] (K.z (K.t (K.r ?_)))
  refine ⟨.inr rfl, rfl, (.int .i64 S.curr), K.res1 rfl rfl, [gp], ?_, hS.pick [0, 1]⟩
  exact ⟨by rw [if_pos rfl], rfl⟩
theorem skStep_ok (w0 : World) (p b pm q n t : Nat) (c : Cfg) (hc : cfgOk c) (S : SkS) (M : MemM) (g gl l : K.Cs) (h : SkEl p b S g) (hgl : gl = layPt b c) (x : MemAt l pm q n t M) (hM : M.good) (hS : S.good) :
  K.GC Tryz.prog w0 15 #[.pointer (some ⟨p, 0, none⟩), .pointer (some ⟨pm, 0, none⟩)] [g, gl, l] (fun v post => ∃ g' l', v = .bool (skStep c n t S M).1.done ∧ post = [g', gl, l'] ∧ SkEl p b (skStep c n t S M).1 g' ∧ MemAt l' pm q n t (skStep c n t S M).2) := by
 obtain ⟨f, ra, sa, gp, g1, rfl, hgp, ht⟩ := h
 have fin : ∀ {w : World} {fr : K.Cs}, K.KC Tryz.prog 15 #[.pointer (some ⟨p, 0, none⟩), .pointer (some ⟨pm, 0, none⟩)] w (fun v w' => ∃ post, (∃ f' ra' sa' gp' g1' l', v = .bool (skStep c n t S M).1.done ∧ post = [gp', g1', gl, l'] ∧ gp' = skPt p b f' ra' sa' (skStep c n t S M).1 ∧ SkTail p (skStep c n t S M).1 f' ra' sa' g1' ∧ MemAt l' pm q n t (skStep c n t S M).2) ∧ K.Sat w0 (post ++ [fr]) w') →
   K.KC Tryz.prog 15 #[.pointer (some ⟨p, 0, none⟩), .pointer (some ⟨pm, 0, none⟩)] w (fun v w' => ∃ post, (∃ g' l', v = .bool (skStep c n t S M).1.done ∧ post = [g', gl, l'] ∧ SkEl p b (skStep c n t S M).1 g' ∧ MemAt l' pm q n t (skStep c n t S M).2) ∧ K.Sat w0 (post ++ [fr]) w') := fun hk => by
  refine K.KC.mono hk ?_
  rintro v w' ⟨post, ⟨f', ra', sa', gp', g1', l', rfl, rfl, h1, h2, h3⟩, hs2⟩
  exact ⟨[[gp', g1'].flatten, gl, l'], ⟨_, _, rfl, rfl, ⟨f', ra', sa', gp', g1', rfl, h1, h2⟩, h3⟩, hs2.of (by simp)⟩
 intro fr w hs
 have hs1 : K.Sat w0 [gp, g1, gl, l, fr] w := hs.of (by simp)
 rcases ht with hd | ⟨hd, hm, rfl, r, rfl, hg⟩ | ⟨hd, hm, rfl, r, rfl, hg⟩ | ⟨hd, hm, rfl, r, rfl, hg⟩ | ⟨hd, hm, rfl, r, rfl, hg⟩
 ·refine fin (K.KC.mono (skStep_0 w0 p b pm f ra sa S gp hgp hd ([g1, gl, l, fr].flatten) w (hs.of (by simp))) ?_)
  rintro v w' ⟨post, ⟨rfl, rfl⟩, hs2⟩
  have e : skStep c n t S M = (S, M) := by unfold skStep; rw [if_pos hd]
  exact ⟨[gp, g1, gl, l], ⟨f, ra, sa, gp, g1, l, by rw [e, hd], rfl, by rw [e]; exact hgp, by rw [e]; exact .inl hd, by rw [e]; exact x⟩, hs2.of (by simp)⟩
 ·exact fin (skStep_1 w0 p b pm q n t r sa c hc S M gp g1 gl l hgp hg hgl x hM hS hd hm fr w hs1)
 ·exact fin (skStep_2 w0 p b pm q n t r sa c hc S M gp g1 gl l hgp hg hgl x hM hS hd hm fr w hs1)
 ·exact fin (skStep_3 w0 p b pm q n t r ra c hc S M gp g1 gl l hgp hg hgl x hM hS hd hm fr w hs1)
 ·exact fin (skStep_4 w0 p b pm q n t r sa c hc S M gp g1 gl l hgp hg hgl x hM hS hd hm fr w hs1)
theorem skDoneE_ok (w0 : World) (p b : Nat) (S : SkS) (g : K.Cs) (h : SkEl p b S g) : K.GC Tryz.prog w0 18 #[.pointer (some ⟨p, 0, none⟩)] [g] (fun v post => v = .bool S.done ∧ post = [g]) := by
 obtain ⟨f, ra, sa, gp, g1, rfl, hgp, _⟩ := h
 exact gcWith (skDone_ok w0 p b f ra sa S gp hgp)
theorem skFoundE_ok (w0 : World) (p b : Nat) (S : SkS) (g : K.Cs) (h : SkEl p b S g) : K.GC Tryz.prog w0 19 #[.pointer (some ⟨p, 0, none⟩)] [g] (fun v post => v = .bool (S.done && S.found) ∧ post = [g]) := by
 obtain ⟨f, ra, sa, gp, g1, rfl, hgp, _⟩ := h
 exact gcWith (skFound_ok w0 p b f ra sa S gp hgp)
theorem skPrevE_ok (w0 : World) (p b : Nat) (S : SkS) (g : K.Cs) (h : SkEl p b S g) : K.GC Tryz.prog w0 20 #[.pointer (some ⟨p, 0, none⟩)] [g] (fun v post => v = .int .i64 (if S.done = true then S.prev else -1) ∧ post = [g]) := by
 obtain ⟨f, ra, sa, gp, g1, rfl, hgp, _⟩ := h
 exact gcWith (skPrev_ok w0 p b f ra sa S gp hgp)
theorem skWordE_ok (w0 : World) (p b : Nat) (S : SkS) (g : K.Cs) (h : SkEl p b S g) : K.GC Tryz.prog w0 27 #[.pointer (some ⟨p, 0, none⟩)] [g] (fun v post => v = .int .u64 (if S.done = true then S.word else 0) ∧ post = [g]) := by
 obtain ⟨f, ra, sa, gp, g1, rfl, hgp, _⟩ := h
 exact gcWith (skWord_ok w0 p b f ra sa S gp hgp)
theorem skCurrE_ok (w0 : World) (p b : Nat) (S : SkS) (g : K.Cs) (h : SkEl p b S g) : K.GC Tryz.prog w0 21 #[.pointer (some ⟨p, 0, none⟩)] [g] (fun v post => v = .int .i64 (if S.done = true then S.curr else -1) ∧ post = [g]) := by
 obtain ⟨f, ra, sa, gp, g1, rfl, hgp, _⟩ := h
 exact gcWith (skCurr_ok w0 p b f ra sa S gp hgp)
theorem skInit {t h k : Int} (ht : isInt t) (hh : isInt h) (hk : 0 ≤ k ∧ k ≤ 4294967295) : SkS.good ⟨t, h, k, 1, false, false, h, 0, 0, 0, 0, 0, ⟨t, h, 0, 0, -1⟩, ⟨0, 0, 0, 0, -1, 0, false, 0⟩⟩ :=
 ⟨ht, hh, hk, hh, isL00, by show isInt 0; omega, by show isInt 0; omega, isL00, by show isInt 0; omega, rdInit ht hh, ⟨by show isInt 0; omega, by show isInt 0; omega, (by decide : (0 : Int) ≤ 0 ∧ (0 : Int) ≤ 4), isL00, isL00, fun _ => ⟨rfl, rfl, rfl⟩⟩, fun _ => rfl, .inl rfl⟩
set_option maxHeartbeats 1000000 in
set_option maxRecDepth 100000 in
theorem newsk_ok (w0 : World) (b : Nat) (tt hh kk : Int) (htt : isInt tt) (hhh : isInt hh) :
  K.GC Tryz.prog w0 14 #[.pointer (some ⟨b, 0, none⟩), .int .i64 tt, .int .i64 hh, .int .u32 kk] [] (fun v post => ∃ p gp g1, v = .pointer (some ⟨p, 0, none⟩) ∧ post = [gp, g1] ∧ ∃ f ra sa, True ∧ gp = skPt p b f ra sa ⟨tt, hh, kk, 1, false, false, hh, 0, 0, 0, 0, 0, ⟨tt, hh, 0, 0, -1⟩, ⟨0, 0, 0, 0, -1, 0, false, 0⟩⟩ ∧ SkTail p ⟨tt, hh, kk, 1, false, false, hh, 0, 0, 0, 0, 0, ⟨tt, hh, 0, 0, -1⟩, ⟨0, 0, 0, 0, -1, 0, false, 0⟩⟩ f ra sa g1) := by
 refine K.GC.mk (n := 19) Tryz.func14 rfl rfl [.pointer (some ⟨b, 0, none⟩), .int .i64 tt, .int .i64 hh, .int .u32 kk] rfl rfl ?_
 intro fr w hS
 replace hS : K.Sat w0 [fr] w := hS
 refine K.s (K.g (K.q [.pointer none] (K.z (K.t (K.s (K.g (K.q [.pointer (some ⟨b, 0, none⟩), .int .i64 tt, .int .i64 hh, .int .u32 kk] ?_)))))))
 refine K.a (K.QR.bd [(0, .pointer (some ⟨b, 0, none⟩)), (1, .int .i64 tt), (2, .int .i64 hh), (3, .int .u32 kk)] [.pointer (some ⟨b, 0, none⟩), .int .i64 tt, .int .i64 hh, .int .u32 kk, .nilFunc, .pointer none, .pointer none, .bool false, .bool false, .int .i64 0, .int .u64 0, .int .i64 0, .int .i64 0, .int .u64 0, .int .i64 0] rfl rfl (by kernel_rfl)) ?_
 refine K.l (K.OW.gnew 138 [.pointer (some ⟨b, 0, none⟩), .int .i64 tt, .int .i64 hh, .int .u32 kk, .nilFunc, .pointer none, .pointer none, .bool false, .bool false, .int .i64 0, .int .u64 0, .int .i64 0, .int .i64 0, .int .u64 0, .int .i64 0] hS ?_)
 clear hS; intro w r_1 g_2 hg_3 hS
 refine K.q [.pointer (some ⟨r_1, 0, none⟩)] (K.z (K.t (K.s ?_)))
 have hd : (⟨tt, hh, kk, 0, false, false, 0, 0, 0, 0, 0, 0, ⟨0, 0, 0, 0, 0⟩, ⟨0, 0, 0, 0, -1, 0, false, 0⟩⟩ : SkS).done = false := rfl
 have hSt : isInt (⟨tt, hh, kk, 0, false, false, 0, 0, 0, 0, 0, 0, ⟨0, 0, 0, 0, 0⟩, ⟨0, 0, 0, 0, -1, 0, false, 0⟩⟩ : SkS).t := htt
 have hSh : isInt (⟨tt, hh, kk, 0, false, false, 0, 0, 0, 0, 0, 0, ⟨0, 0, 0, 0, 0⟩, ⟨0, 0, 0, 0, -1, 0, false, 0⟩⟩ : SkS).head := hhh
 have hgi : g_2 = skPt r_1 b .nilFunc none none (⟨tt, hh, kk, 0, false, false, 0, 0, 0, 0, 0, 0, ⟨0, 0, 0, 0, 0⟩, ⟨0, 0, 0, 0, -1, 0, false, 0⟩⟩ : SkS) := hg_3
 refine K.g (K.q [.pointer (some ⟨r_1, 0, none⟩)] ?_)
 refine K.l (K.OW.gcall hS [0] [1] [.pointer (some ⟨r_1, 0, none⟩)] (skBegin_ok _ _ _ _ _ _ (⟨tt, hh, kk, 0, false, false, 0, 0, 0, 0, 0, 0, ⟨0, 0, 0, 0, 0⟩, ⟨0, 0, 0, 0, -1, 0, false, 0⟩⟩ : SkS) _ hgi hSt hSh) ?_)
 clear hS; rintro _ _ w ⟨g_4, r_5, q_6, rfl, rfl, h_7, k_8⟩ hS
 replace hS : K.Sat w0 [g_4, q_6, fr] w := hS
 refine K.z (K.t (K.s (K.g (K.q [.pointer (some ⟨r_1, 0, none⟩), .pointer (some ⟨r_1, 0, none⟩)] (K.z (K.t (K.r ?_)))))))
 refine ⟨.inr rfl, rfl, (.pointer (some ⟨r_1, 0, none⟩)), K.res1 rfl rfl, [g_4, q_6], ?_, hS.pick [0, 1, 2]⟩
 exact ⟨_, _, _, rfl, rfl, _, _, _, trivial, h_7, .inr (.inl ⟨rfl, rfl, rfl, _, rfl, k_8⟩)⟩
theorem newskE_ok (w0 : World) (b : Nat) (tt hh kk : Int) (htt : isInt tt) (hhh : isInt hh) : K.GC Tryz.prog w0 14 #[.pointer (some ⟨b, 0, none⟩), .int .i64 tt, .int .i64 hh, .int .u32 kk] [] (fun v post => ∃ p g, v = .pointer (some ⟨p, 0, none⟩) ∧ post = [g] ∧ SkEl p b ⟨tt, hh, kk, 1, false, false, hh, 0, 0, 0, 0, 0, ⟨tt, hh, 0, 0, -1⟩, ⟨0, 0, 0, 0, -1, 0, false, 0⟩⟩ g) := by
 intro fr w hs
 refine K.KC.mono (newsk_ok w0 b tt hh kk htt hhh fr w hs) ?_
 rintro v w' ⟨post, ⟨p, gp, g1, rfl, rfl, f, ra, sa, _, h1, h2⟩, hs2⟩
 exact ⟨[[gp, g1].flatten], ⟨p, _, rfl, rfl, f, ra, sa, gp, g1, rfl, h1, h2⟩, hs2.of (by simp)⟩
end Go.Proofs.YtbfafebfkdbglaaGreat
