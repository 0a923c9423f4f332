/- Logs: places; the range over entries; Reserve. -/
import Derived.Test.YtkmndplicmaahaaGreatKk
import Derived.Test.YtkmndplicmaahaaGreatFlay2
import Derived.Test.YtkmndplicmaahaaGreatFbi2
import Derived.Test.YtkmndplicmaahaaGreatFl9
import Derived.Test.YtkmndplicmaahaaGreatKn
namespace Go.Proofs.YtkmndplicmaahaaGreat
open Go.RowKit
set_option linter.unusedVariables false
attribute [local irreducible] K.KW K.RW K.DW K.OW K.QR K.KC
theorem log_int {c : Cfg} (hc : cfgOk c) (t n : Int) : isInt (logS c t n) := by
 have hb := lay_bd hc
 unfold cfgOk at hc
 unfold logS wordS
 split
 ·split
  ·have : lsz c * t ≤ 8 * 64 := Int.mul_le_mul (by omega) (by omega) (by omega) (by omega)
   have : 0 ≤ lsz c * t := Int.mul_nonneg (by omega) (by omega)
   omega
  ·omega
 ·omega
set_option maxHeartbeats 1000000 in
set_option maxRecDepth 100000 in
theorem ents_ok (w0 : World) (lb : Nat) (from_ : Int) :
  K.GC Tryz.prog w0 46 #[.pointer (some ⟨lb, 0, none⟩), .int .i64 from_] [] (fun v post => ∃ b d g1 g2, v = .func (.func 96) [].toArray [.pointer (some ⟨b, 0, none⟩), .pointer (some ⟨d, 0, none⟩)].toArray ∧ post = [g1, g2] ∧ g1 = [K.pt b 3 [.int .i64 from_]] ∧ g2 = [K.pt d 28 [.pointer (some ⟨lb, 0, none⟩)]]) := by
 refine K.GC.mk (n := 6) Tryz.func46 rfl rfl [.pointer (some ⟨lb, 0, none⟩), .int .i64 from_] rfl rfl ?_
 intro fr w hS
 replace hS : K.Sat w0 [fr] w := hS
 refine K.s (K.g ?_)
 refine K.l (K.OW.gnew 28 [.pointer (some ⟨lb, 0, none⟩)] hS ?_)
 clear hS; intro w r_1 g_2 hg_3 hS
 refine K.l (K.OW.gnew 3 [.int .i64 from_] hS ?_)
 clear hS; intro w r_4 g_5 hg_6 hS
 refine K.q [.nilFunc] (K.z (K.t (K.s (K.g ?_))))
 refine K.a (K.QR.fn [] [.pointer (some ⟨r_4, 0, none⟩), .pointer (some ⟨r_1, 0, none⟩)] rfl rfl rfl) ?_
 refine K.q [.func (.func 96) [].toArray [.pointer (some ⟨r_4, 0, none⟩), .pointer (some ⟨r_1, 0, none⟩)].toArray] (K.z (K.t (K.r ?_)))
 refine ⟨.inr rfl, rfl, (.func (.func 96) [].toArray [.pointer (some ⟨r_4, 0, none⟩), .pointer (some ⟨r_1, 0, none⟩)].toArray), K.res1 rfl rfl, [g_5, g_2], ?_, hS.pick [0, 1, 2]⟩
 exact ⟨_, _, _, _, rfl, rfl, hg_6, hg_3⟩
set_option maxHeartbeats 1000000 in
set_option maxRecDepth 100000 in
theorem ents_stop (w0 : World) (l : Nat) (b d lb : Nat) (c : Cfg) (hc : cfgOk c) (from_ : Int) (g1 g2 gl : K.Cs) (h1 : g1 = [K.pt b 3 [.int .i64 from_]]) (h2 : g2 = [K.pt d 28 [.pointer (some ⟨lb, 0, none⟩)]]) (hgl : gl = layPt lb c) (hh : ¬ from_ < c.lo) :
  K.GC Tryz.prog w0 96 #[.func (.yield l) #[] #[], .pointer (some ⟨b, 0, none⟩), .pointer (some ⟨d, 0, none⟩)] [g1, g2, gl] (fun _ post => post = [g1, g2, gl]) := by
 refine K.GC.mk (n := 17) Tryz.func96 rfl rfl [.func (.yield l) #[] #[], .pointer (some ⟨b, 0, none⟩), .pointer (some ⟨d, 0, none⟩)] rfl rfl ?_
 intro fr w hS
 replace hS : K.Sat w0 [g1, g2, gl, fr] w := hS
 refine K.s (K.g ?_)
 refine K.d (.int .i64 from_) ((hS.blk 0 rfl h1).cell rfl) ?_
 refine K.q [.int .i64 from_] (K.z (K.t ?_))
 refine K.KW.block ?_
 refine K.KW.unr 0 ?_
 refine K.Unr.zero ?_
 refine K.s (K.s (K.g (K.q [.int .i64 from_] ?_)))
 refine K.d (.pointer (some ⟨lb, 0, none⟩)) ((hS.blk 1 rfl h2).cell rfl) ?_
 refine K.l (K.OW.kcall hS [.pointer (some ⟨lb, 0, none⟩)] (lConfig _ c  _ (by assumption) (hS.blk 2 rfl hgl)) ?_)
 rintro _ w ⟨rfl, c_1⟩
 replace hS := hS.no c_1
 refine K.q [.int .i64 c.lo] ?_
 refine K.x ((from_ : Int) < (c.lo : Int)) (hh) ?_
 refine K.z (K.t (K.f ?_))
 refine K.KW.exit ?_
 refine K.thn_exit ?_
 refine K.thn_exit ?_
 refine K.blk_hit ?_
 refine ⟨.inl rfl, rfl, (.tuple #[]), K.res0 rfl, [g1, g2, gl], ?_, hS.pick [0, 1, 2, 3]⟩
 exact rfl
set_option maxHeartbeats 1000000 in
set_option maxRecDepth 100000 in
theorem ents_one (w0 : World) (l : Nat) (b d lb : Nat) (c : Cfg) (hc : cfgOk c) (from_ : Int) (g1 g2 gl : K.Cs) (h1 : g1 = [K.pt b 3 [.int .i64 from_]]) (h2 : g2 = [K.pt d 28 [.pointer (some ⟨lb, 0, none⟩)]]) (hgl : gl = layPt lb c) (hh : from_ < c.lo) (m m' : K.Cs) (hm : m = [gl, m'].flatten) (R : K.Cs → Prop) (hY : K.YG Tryz.prog w0 l [.int .i64 from_] false m R) :
  K.GC Tryz.prog w0 96 #[.func (.yield l) #[] #[], .pointer (some ⟨b, 0, none⟩), .pointer (some ⟨d, 0, none⟩)] [g1, g2, m] (fun _ post => ∃ m', post = [g1, g2, m'] ∧ R m') := by
 refine K.GC.mk (n := 17) Tryz.func96 rfl rfl [.func (.yield l) #[] #[], .pointer (some ⟨b, 0, none⟩), .pointer (some ⟨d, 0, none⟩)] rfl rfl ?_
 intro fr w hS
 replace hS : K.Sat w0 [g1, g2, m, fr] w := hS
 subst hm
 replace hS : K.Sat w0 [g1, g2, gl, m', fr] w := hS.of
 refine K.s (K.g ?_)
 refine K.d (.int .i64 from_) ((hS.blk 0 rfl h1).cell rfl) ?_
 refine K.q [.int .i64 from_] (K.z (K.t ?_))
 refine K.KW.block ?_
 refine K.KW.unr 0 ?_
 refine K.Unr.zero ?_
 refine K.s (K.s (K.g (K.q [.int .i64 from_] ?_)))
 refine K.d (.pointer (some ⟨lb, 0, none⟩)) ((hS.blk 1 rfl h2).cell rfl) ?_
 refine K.l (K.OW.kcall hS [.pointer (some ⟨lb, 0, none⟩)] (lConfig _ c  _ (by assumption) (hS.blk 2 rfl hgl)) ?_)
 rintro _ w ⟨rfl, c_1⟩
 replace hS := hS.no c_1
 refine K.q [.int .i64 c.lo] ?_
 refine K.y ((from_ : Int) < (c.lo : Int)) (hh) ?_
 refine K.z (K.t (K.h (K.k (K.t (K.s ?_)))))
 refine K.KW.block ?_
 refine K.s ?_
 refine K.KW.regionY ?_
 refine K.RY.q rfl rfl (K.QR.k (v := .func (.yield l) #[] #[]) (by kernel_rfl)) ?_
 refine K.RY.q rfl rfl (K.QR.k (v := .int .i64 from_) (by kernel_rfl)) ?_
 replace hS : K.Sat w0 [[gl, m'].flatten, g1, g2, fr] w := (hS.pick [2, 3, 0, 1, 4]).of
 refine K.RY.gyield hS 0 [1, 2, 3] [.int .i64 from_] (hY) rfl rfl ?_
 clear hS; intro w m_2 hR_3 hS
 replace hS : K.Sat w0 [m_2, g1, g2, fr] w := hS
 refine K.RY.q rfl rfl (K.QR.k (v := .bool true) (by kernel_rfl)) ?_
 refine K.RY.nil ?_
 refine K.t (K.h (K.r ?_))
 refine K.blk_ret ?_
 refine K.u (K.u ?_)
 refine K.blk_ret ?_
 refine ⟨.inr rfl, rfl, (.tuple #[]), K.res0 rfl, [g1, g2, m_2], ?_, hS.pick [1, 2, 0, 3]⟩
 exact ⟨_, rfl, hR_3⟩
structure ResS where
 t : Int
 pc : Int
 slot : Int
 next : Int
 place : Int
abbrev resPt (p b : Nat) (S : ResS) : K.Cs := [K.pt p 96 [.pointer (some ⟨b, 0, none⟩), .int .i64 S.t, .int .i64 S.pc, .int .i64 S.slot, .int .i64 S.next, .int .i64 S.place]]
def ResS.good (S : ResS) : Prop := isInt S.t ∧ (0 ≤ S.pc ∧ S.pc ≤ 5 ∧ ¬ S.pc = 4) ∧ isInt S.slot ∧ (0 ≤ S.next ∧ S.next ≤ 64) ∧ (0 ≤ S.place ∧ S.place ≤ 64)
def reLd (c : Cfg) (n : Nat) (S : ResS) (M : MemM) : MemM × AccM := M.accL n S.t (logS c S.t S.next)
def relook (c : Cfg) (n : Nat) (S : ResS) (M : MemM) : ResS × MemM :=
 if S.next < c.lo then (if (reLd c n S M).2.old = 0 then (⟨S.t, 1, S.slot, S.next + 1, S.next⟩, (reLd c n S M).1) else if S.next + 1 = c.lo then (⟨S.t, 5, S.slot, S.next + 1, S.next + 1⟩, (reLd c n S M).1) else (⟨S.t, S.pc, S.slot, S.next + 1, S.next⟩, (reLd c n S M).1))
 else (S, M)
def elast (c : Cfg) (n nt : Nat) (th pc place : Int) (M : MemM) : MemM := if pc = 2 then (M.accF n nt th (logS c th place)).1 else (M.accE nt th).1
def resStep (c : Cfg) (n nt : Nat) (S : ResS) (M : MemM) : ResS × MemM :=
 if S.pc = 5 then (S, M)
 else if S.pc = 0 then relook c n S M
 else if S.pc = 1 then (⟨S.t, 2, S.slot, S.next, S.place⟩, (M.accS n S.t (logS c S.t S.place) (entryI S.slot (-1))).1)
 else (⟨S.t, if S.pc = 2 then 3 else 5, S.slot, S.next, S.place⟩, elast c n nt S.t S.pc S.place M)
set_option maxHeartbeats 1000000 in
set_option maxRecDepth 100000 in
theorem reLook_ok (w0 : World) (p b pm q n t : Nat) (c : Cfg) (hc : cfgOk c) (S : ResS) (M : MemM) (gp gl l : K.Cs) (hgp : gp = resPt p b S) (hgl : gl = layPt b c) (x : MemAt l pm q n t M) (hM : M.good) (hS : S.good) :
  K.GC Tryz.prog w0 39 #[.pointer (some ⟨p, 0, none⟩), .pointer (some ⟨pm, 0, none⟩)] [gp, gl, l] (fun v post => ∃ gp' l', v = .tuple #[] ∧ post = [gp', gl, l'] ∧ gp' = resPt p b (relook c n S M).1 ∧ MemAt l' pm q n t (relook c n S M).2) := by
 have hS0 := hS
 obtain ⟨hSt, hSp, hSs, hSx, hSl⟩ := hS
 have hcc := hc
 unfold cfgOk at hcc
 refine K.GC.mkD (n := 72) Tryz.func39 rfl rfl [.pointer (some ⟨p, 0, none⟩), .pointer (some ⟨pm, 0, none⟩)] rfl rfl ?_
 intro fr w hS
 replace hS : K.Sat w0 [gp, gl, l, fr] w := hS
 refine K.s (K.g ?_)
 refine K.l (K.OW.gnew 39 [.pointer (some ⟨p, 0, none⟩)] hS ?_)
 clear hS; intro w r_1 g_2 hg_3 hS
 refine K.l (K.OW.gnew 29 [.pointer (some ⟨pm, 0, none⟩)] hS ?_)
 clear hS; intro w r_4 g_5 hg_6 hS
 refine K.z (K.t (K.s ?_))
 refine K.KW.gdrawn [1, 2] hS (by kernel_rfl) ?_
 clear hS; intro w hS
 refine K.o_ 0 rfl (.pointer (some ⟨p, 0, none⟩)) (fun w hS => ((hS.blk 0 rfl hg_3).cell rfl)) (hS.pick [1, 2]) ?_
 refine K.p 1 rfl (.pointer (some ⟨p, 0, none⟩)) (hS.pick [1, 2]) ?_
 refine K.p 2 rfl (.pointer (some ⟨p, 0, none⟩)) (hS.pick [1, 2]) ?_
 refine K.p 3 rfl (.pointer (some ⟨p, 0, none⟩)) (hS.pick [1, 2]) ?_
 refine K.o_ 4 rfl (.pointer (some ⟨b, 0, none⟩)) (fun w hS => ((hS.blk 1 rfl hgp).cell rfl)) (hS.pick [1, 2]) ?_
 refine K.c 5 rfl (K.QR.ld1 (v := .pointer (some ⟨p, 0, none⟩)) rfl rfl (by kernel_rfl) ((hS.blk 1 rfl hg_3).cell rfl)) (hS.pick [1, 2]) ?_
 refine K.b 6 rfl (.pointer (some ⟨p, 0, none⟩)) (hS.pick [1, 2]) ?_
 refine K.b 7 rfl (.pointer (some ⟨p, 4, none⟩)) (hS.pick [1, 2]) ?_
 refine K.c 8 rfl (K.QR.ld1 (v := .int .i64 S.next) rfl rfl (by kernel_rfl) ((hS.blk 2 rfl hgp).cell rfl)) (hS.pick [1, 2]) ?_
 refine K.DW.l 9 rfl (by kernel_rfl) rfl (K.OW.gcall hS [] [0, 1, 2, 3, 4, 5] [.pointer (some ⟨b, 0, none⟩), .int .i64 S.next] (ents_ok _ b S.next) ?_)
 clear hS; rintro _ _ w ⟨b_7, d_8, g_9, h_10, rfl, rfl, x_11, y_12⟩ hS
 replace hS : K.Sat w0 [g_9, h_10, g_5, g_2, gp, gl, l, fr] w := hS
 refine ⟨.inl (hS.pick [3, 4]), ?_⟩
 refine K.DW.done (by kernel_rfl) ?_
 refine K.t ?_
 refine K.KW.block ?_
 refine K.KW.grange (first := []) (cap := [.pointer (some ⟨b_7, 0, none⟩), .pointer (some ⟨d_8, 0, none⟩)]) hS rfl (by kernel_rfl) rfl ?_
 clear hS; intro fid_13 w rd_14 lp_15 gd_16 gl_17 hgd_18 hgl_19 hS
 generalize hrec_21 : K.mkLoop _ _ _ _ _ _ _ = rec_20 at hgl_19
 by_cases h_22 : (S.next : Int) < (c.lo : Int)
 ·
  refine K.KC.oneS (yargs := [.int .i64 S.next]) hS [2, 3] [7, 0, 1, 4, 5, 6, 8, 9] (fun R hY => ents_one _ _ _ _ _ c (by assumption) S.next _ _ _ x_11 y_12 hgl h_22 _ ([gl_17, gd_16, g_5, g_2, gp, l, fr].flatten) (by simp [K.pick, K.nth]) R hY) ?_
  clear hS; intro fr_23 w hS
  replace hS : K.Sat w0 [gl, gl_17, gd_16, g_5, g_2, gp, l, fr, fr_23] w := hS.of (by simp [K.pick, K.nth])
  subst hrec_21
  refine K.YS.ground (n := 72) (ps := [15]) 1 hS rfl hgl_19 rfl rfl rfl rfl rfl ?_
  refine K.g (K.q [.int .i64 S.next] (K.z ?_))
  refine K.rb_g 1 hS rfl hgl_19 rfl ?_
  clear hS; intro w gl_24 hgl_25 hS
  replace hS : K.Sat w0 [gl, gl_24, gd_16, g_5, g_2, gp, l, fr, fr_23] w := hS
  refine K.KW.block ?_
  refine K.s ?_
  refine K.KW.gdrawn [4] hS (by kernel_rfl) ?_
  clear hS; intro w hS
  refine K.o_ 0 rfl (.pointer (some ⟨p, 0, none⟩)) (fun w hS => ((hS.blk 0 rfl hg_3).cell rfl)) (hS.pick [4]) ?_
  refine K.o_ 1 rfl (.pointer (some ⟨p, 0, none⟩)) (fun w hS => ((hS.blk 0 rfl hg_3).cell rfl)) (hS.pick [4]) ?_
  refine K.p 2 rfl (.int .i64 S.next) (hS.pick [4]) ?_
  refine K.m 3 rfl (fun w hS => K.QR.n64 ((S.next : Int) + (1 : Int)) ((S.next : Int) + (1 : Int)) (by kernel_rfl) (by omega)) (hS.pick [4]) ?_
  refine K.p 4 rfl (.int .i64 S.next) (hS.pick [4]) ?_
  refine K.b 5 rfl (.pointer (some ⟨p, 0, none⟩)) (hS.pick [4]) ?_
  refine K.b 6 rfl (.pointer (some ⟨p, 4, none⟩)) (hS.pick [4]) ?_
  refine K.DW.l 7 rfl (by kernel_rfl) rfl (K.OW.gst 5 [.int .i64 ((S.next : Int) + (1 : Int))] _ hS hgp ?_)
  clear hS; intro w g_26 hg_27 hS
  replace hS : K.Sat w0 [gl, gl_24, gd_16, g_5, g_2, g_26, l, fr, fr_23] w := hS
  refine ⟨.inl (hS.pick [4]), ?_⟩
  refine K.b 8 rfl (.pointer (some ⟨p, 0, none⟩)) (hS.pick [4]) ?_
  refine K.b 9 rfl (.pointer (some ⟨p, 5, none⟩)) (hS.pick [4]) ?_
  refine K.DW.l 10 rfl (by kernel_rfl) rfl (K.OW.gst 5 [.int .i64 S.next] _ hS hg_27 ?_)
  clear hS; intro w g_28 hg_29 hS
  replace hS : K.Sat w0 [gl, gl_24, gd_16, g_5, g_2, g_28, l, fr, fr_23] w := hS
  refine ⟨.inr (by kernel_rfl), ?_⟩
  refine K.DW.done (by kernel_rfl) ?_
  refine K.t (K.s (K.s ?_))
  refine K.KW.gdrawn [3, 4, 5] hS (by kernel_rfl) ?_
  clear hS; intro w hS
  refine K.o_ 0 rfl (.pointer (some ⟨pm, 0, none⟩)) (fun w hS => ((hS.blk 0 rfl hg_6).cell rfl)) (hS.pick [3, 4, 5]) ?_
  refine K.o_ 1 rfl (.pointer (some ⟨p, 0, none⟩)) (fun w hS => ((hS.blk 1 rfl hg_3).cell rfl)) (hS.pick [3, 4, 5]) ?_
  refine K.p 2 rfl (.pointer (some ⟨p, 0, none⟩)) (hS.pick [3, 4, 5]) ?_
  refine K.p 3 rfl (.pointer (some ⟨p, 0, none⟩)) (hS.pick [3, 4, 5]) ?_
  refine K.p 4 rfl (.pointer (some ⟨p, 1, none⟩)) (hS.pick [3, 4, 5]) ?_
  refine K.o_ 5 rfl (.int .i64 S.t) (fun w hS => ((hS.blk 2 rfl hg_29).cell rfl)) (hS.pick [3, 4, 5]) ?_
  refine K.o_ 6 rfl (.pointer (some ⟨p, 0, none⟩)) (fun w hS => ((hS.blk 1 rfl hg_3).cell rfl)) (hS.pick [3, 4, 5]) ?_
  refine K.p 7 rfl (.pointer (some ⟨p, 0, none⟩)) (hS.pick [3, 4, 5]) ?_
  refine K.p 8 rfl (.pointer (some ⟨p, 0, none⟩)) (hS.pick [3, 4, 5]) ?_
  refine K.p 9 rfl (.pointer (some ⟨p, 0, none⟩)) (hS.pick [3, 4, 5]) ?_
  refine K.o_ 10 rfl (.pointer (some ⟨b, 0, none⟩)) (fun w hS => ((hS.blk 2 rfl hg_29).cell rfl)) (hS.pick [3, 4, 5]) ?_
  refine K.o_ 11 rfl (.pointer (some ⟨p, 0, none⟩)) (fun w hS => ((hS.blk 1 rfl hg_3).cell rfl)) (hS.pick [3, 4, 5]) ?_
  refine K.p 12 rfl (.pointer (some ⟨p, 0, none⟩)) (hS.pick [3, 4, 5]) ?_
  refine K.p 13 rfl (.pointer (some ⟨p, 0, none⟩)) (hS.pick [3, 4, 5]) ?_
  refine K.p 14 rfl (.pointer (some ⟨p, 1, none⟩)) (hS.pick [3, 4, 5]) ?_
  refine K.o_ 15 rfl (.int .i64 S.t) (fun w hS => ((hS.blk 2 rfl hg_29).cell rfl)) (hS.pick [3, 4, 5]) ?_
  refine K.b 16 rfl (.int .i64 S.next) (hS.pick [3, 4, 5]) ?_
  refine K.DW.l 17 rfl (by kernel_rfl) rfl (K.OW.kcall hS [.pointer (some ⟨b, 0, none⟩), .int .i64 S.t, .int .i64 S.next] (lLog _ c S.t S.next _ (by assumption) (hS.blk 0 rfl hgl)) ?_)
  rintro _ w ⟨rfl, c_30⟩
  replace hS := hS.no c_30
  refine ⟨.inl (hS.pick [3, 4, 5]), ?_⟩
  refine K.DW.l 18 rfl (by kernel_rfl) rfl (K.OW.gcall hS [6] [0, 1, 2, 3, 4, 5, 7, 8] [.pointer (some ⟨pm, 0, none⟩), .int .i64 S.t, .int .i64 (logS c S.t S.next)] (mLoad_ok _ _ _ _ _ _ _ x S.t (logS c S.t S.next) (by first | omega | assumption | exact log_int (by assumption) _ _ | exact aft_int (by assumption) _ | exact ann_int (by assumption) _ (by omega)) ) ?_)
  clear hS; rintro _ _ w ⟨l_31, rfl, rfl, x_32⟩ hS
  replace hS : K.Sat w0 [l_31, gl, gl_24, gd_16, g_5, g_2, g_28, fr, fr_23] w := hS
  have hw_33 : isW (M.accL n S.t (logS c S.t S.next)).2.old := (accL_good (by assumption)).2
  refine ⟨.inl (hS.pick [4, 5, 6]), ?_⟩
  by_cases h_34 : ((M.accL n S.t (logS c S.t S.next)).2.old : Int) = (0 : Int)
  ·
   refine K.c 19 rfl (K.QR.nice (v := .bool (((M.accL n S.t (logS c S.t S.next)).2.old : Int) == (0 : Int))) (by kernel_rfl) (congrArg Value.bool (beq_iff_eq.2 h_34))) (hS.pick [4, 5, 6]) ?_
   refine K.DW.done (by kernel_rfl) ?_
   refine K.t (K.h (K.g ?_))
   refine K.d (.pointer (some ⟨p, 0, none⟩)) ((hS.blk 5 rfl hg_3).cell rfl) ?_
   refine K.q [.pointer (some ⟨p, 0, none⟩), .pointer (some ⟨p, 0, none⟩), .pointer (some ⟨p, 2, none⟩)] ?_
   refine K.l (K.OW.gst 6 [.int .i64 1] _ hS hg_29 ?_)
   clear hS; intro w g_35 hg_36 hS
   replace hS : K.Sat w0 [l_31, gl, gl_24, gd_16, g_5, g_2, g_35, fr, fr_23] w := hS
   refine K.z (K.t (K.r ?_))
   refine K.blk_ret ?_
   refine K.rq_ret_g 2 hS rfl hgl_25 ?_
   clear hS; intro w gl_37 hgl_38 hS
   replace hS : K.Sat w0 [l_31, gl, gl_37, gd_16, g_5, g_2, g_35, fr, fr_23] w := hS
   refine ⟨rfl, [l_31, gl, gl_37, gd_16, g_5, g_2, g_35, fr].flatten, ?_, (hS.pick [0, 1, 2, 3, 4, 5, 6, 7, 8]).of (by simp [K.pick, K.nth])⟩
   clear hS; intro _ w hS
   replace hS : K.Sat w0 [g_9, h_10, l_31, gl, gl_37, gd_16, g_5, g_2, g_35, fr] w := hS.of (by simp [K.pick, K.nth])
   refine K.gafter 4 [0, 1, 2, 3, 5, 6, 7, 8, 9] hS rfl hgl_38 (fun h => by cases h) ?_
   clear hS; intro w hS
   replace hS : K.Sat w0 [g_9, h_10, l_31, gl, gd_16, g_5, g_2, g_35, fr] w := hS
   refine K.afterR_ret rfl ?_
   refine K.blk_ret ?_
   refine ⟨.inr rfl, .inr ⟨_, rfl, K.endD 4 [0, 1, 2, 3, 5, 6, 7, 8] hS rfl hgd_18 ?_⟩⟩
   clear hS; intro w hS
   replace hS : K.Sat w0 [g_9, h_10, l_31, gl, g_5, g_2, g_35, fr] w := hS
   have e : relook c n S M = (⟨S.t, 1, S.slot, (S.next : Int) + (1 : Int), S.next⟩, ((M.accL n S.t (logS c S.t S.next)).1)) := by unfold relook; rw [if_pos (by omega), if_pos (by unfold reLd; omega)]; rfl
   refine ⟨(.tuple #[]), K.res0 rfl, [g_35, gl, l_31], ?_, hS.pick [6, 3, 2, 7]⟩
   exact ⟨_, _, rfl, rfl, by rw [e]; exact hg_36, by rw [e]; exact x_32⟩
  ·
   refine K.c 19 rfl (K.QR.nice (v := .bool (((M.accL n S.t (logS c S.t S.next)).2.old : Int) == (0 : Int))) (by kernel_rfl) (congrArg Value.bool (beq_eq_false_iff_ne.2 h_34))) (hS.pick [4, 5, 6]) ?_
   refine K.DW.done (by kernel_rfl) ?_
   refine K.t (K.f (K.s ?_))
   refine K.KW.gdrawn [5, 6] hS (by kernel_rfl) ?_
   clear hS; intro w hS
   refine K.o_ 0 rfl (.pointer (some ⟨p, 0, none⟩)) (fun w hS => ((hS.blk 0 rfl hg_3).cell rfl)) (hS.pick [5, 6]) ?_
   refine K.p 1 rfl (.pointer (some ⟨p, 0, none⟩)) (hS.pick [5, 6]) ?_
   refine K.p 2 rfl (.pointer (some ⟨p, 4, none⟩)) (hS.pick [5, 6]) ?_
   refine K.o_ 3 rfl (.int .i64 ((S.next : Int) + (1 : Int))) (fun w hS => ((hS.blk 1 rfl hg_29).cell rfl)) (hS.pick [5, 6]) ?_
   refine K.c 4 rfl (K.QR.ld1 (v := .pointer (some ⟨p, 0, none⟩)) rfl rfl (by kernel_rfl) ((hS.blk 5 rfl hg_3).cell rfl)) (hS.pick [5, 6]) ?_
   refine K.b 5 rfl (.pointer (some ⟨p, 0, none⟩)) (hS.pick [5, 6]) ?_
   refine K.b 6 rfl (.pointer (some ⟨p, 0, none⟩)) (hS.pick [5, 6]) ?_
   refine K.b 7 rfl (.pointer (some ⟨p, 0, none⟩)) (hS.pick [5, 6]) ?_
   refine K.c 8 rfl (K.QR.ld1 (v := .pointer (some ⟨b, 0, none⟩)) rfl rfl (by kernel_rfl) ((hS.blk 6 rfl hg_29).cell rfl)) (hS.pick [5, 6]) ?_
   refine K.DW.l 9 rfl (by kernel_rfl) rfl (K.OW.kcall hS [.pointer (some ⟨b, 0, none⟩)] (lConfig _ c  _ (by assumption) (hS.blk 1 rfl hgl)) ?_)
   rintro _ w ⟨rfl, c_39⟩
   replace hS := hS.no c_39
   refine ⟨.inl (hS.pick [5, 6]), ?_⟩
   refine K.b 10 rfl (.int .i64 c.lo) (hS.pick [5, 6]) ?_
   by_cases h_40 : ((S.next : Int) + (1 : Int) : Int) = (c.lo : Int)
   ·
    refine K.c 11 rfl (K.QR.nice (v := .bool (((S.next : Int) + (1 : Int) : Int) == (c.lo : Int))) (by kernel_rfl) (congrArg Value.bool (beq_iff_eq.2 h_40))) (hS.pick [5, 6]) ?_
    refine K.DW.done (by kernel_rfl) ?_
    refine K.t (K.h ?_)
    refine K.KW.gdrawn [5] hS (by kernel_rfl) ?_
    clear hS; intro w hS
    refine K.o_ 0 rfl (.pointer (some ⟨p, 0, none⟩)) (fun w hS => ((hS.blk 0 rfl hg_3).cell rfl)) (hS.pick [5]) ?_
    refine K.o_ 1 rfl (.pointer (some ⟨p, 0, none⟩)) (fun w hS => ((hS.blk 0 rfl hg_3).cell rfl)) (hS.pick [5]) ?_
    refine K.c 2 rfl (K.QR.ld1 (v := .pointer (some ⟨p, 0, none⟩)) rfl rfl (by kernel_rfl) ((hS.blk 5 rfl hg_3).cell rfl)) (hS.pick [5]) ?_
    refine K.b 3 rfl (.pointer (some ⟨p, 0, none⟩)) (hS.pick [5]) ?_
    refine K.b 4 rfl (.pointer (some ⟨p, 4, none⟩)) (hS.pick [5]) ?_
    refine K.c 5 rfl (K.QR.ld1 (v := .int .i64 ((S.next : Int) + (1 : Int))) rfl rfl (by kernel_rfl) ((hS.blk 6 rfl hg_29).cell rfl)) (hS.pick [5]) ?_
    refine K.b 6 rfl (.pointer (some ⟨p, 0, none⟩)) (hS.pick [5]) ?_
    refine K.b 7 rfl (.pointer (some ⟨p, 5, none⟩)) (hS.pick [5]) ?_
    refine K.DW.l 8 rfl (by kernel_rfl) rfl (K.OW.gst 6 [.int .i64 ((S.next : Int) + (1 : Int))] _ hS hg_29 ?_)
    clear hS; intro w g_41 hg_42 hS
    replace hS : K.Sat w0 [l_31, gl, gl_24, gd_16, g_5, g_2, g_41, fr, fr_23] w := hS
    refine ⟨.inl (hS.pick [5]), ?_⟩
    refine K.b 9 rfl (.pointer (some ⟨p, 0, none⟩)) (hS.pick [5]) ?_
    refine K.b 10 rfl (.pointer (some ⟨p, 0, none⟩)) (hS.pick [5]) ?_
    refine K.b 11 rfl (.pointer (some ⟨p, 2, none⟩)) (hS.pick [5]) ?_
    refine K.DW.l 12 rfl (by kernel_rfl) rfl (K.OW.gst 6 [.int .i64 5] _ hS hg_42 ?_)
    clear hS; intro w g_43 hg_44 hS
    replace hS : K.Sat w0 [l_31, gl, gl_24, gd_16, g_5, g_2, g_43, fr, fr_23] w := hS
    refine ⟨.inl (hS.pick [5]), ?_⟩
    refine K.DW.done (by kernel_rfl) ?_
    refine K.t (K.r ?_)
    refine K.blk_ret ?_
    refine K.rq_ret_g 2 hS rfl hgl_25 ?_
    clear hS; intro w gl_45 hgl_46 hS
    replace hS : K.Sat w0 [l_31, gl, gl_45, gd_16, g_5, g_2, g_43, fr, fr_23] w := hS
    refine ⟨rfl, [l_31, gl, gl_45, gd_16, g_5, g_2, g_43, fr].flatten, ?_, (hS.pick [0, 1, 2, 3, 4, 5, 6, 7, 8]).of (by simp [K.pick, K.nth])⟩
    clear hS; intro _ w hS
    replace hS : K.Sat w0 [g_9, h_10, l_31, gl, gl_45, gd_16, g_5, g_2, g_43, fr] w := hS.of (by simp [K.pick, K.nth])
    refine K.gafter 4 [0, 1, 2, 3, 5, 6, 7, 8, 9] hS rfl hgl_46 (fun h => by cases h) ?_
    clear hS; intro w hS
    replace hS : K.Sat w0 [g_9, h_10, l_31, gl, gd_16, g_5, g_2, g_43, fr] w := hS
    refine K.afterR_ret rfl ?_
    refine K.blk_ret ?_
    refine ⟨.inr rfl, .inr ⟨_, rfl, K.endD 4 [0, 1, 2, 3, 5, 6, 7, 8] hS rfl hgd_18 ?_⟩⟩
    clear hS; intro w hS
    replace hS : K.Sat w0 [g_9, h_10, l_31, gl, g_5, g_2, g_43, fr] w := hS
    have e : relook c n S M = (⟨S.t, 5, S.slot, (S.next : Int) + (1 : Int), (S.next : Int) + (1 : Int)⟩, ((M.accL n S.t (logS c S.t S.next)).1)) := by unfold relook; rw [if_pos (by omega), if_neg (by unfold reLd; omega), if_pos (by omega)]; rfl
    refine ⟨(.tuple #[]), K.res0 rfl, [g_43, gl, l_31], ?_, hS.pick [6, 3, 2, 7]⟩
    exact ⟨_, _, rfl, rfl, by rw [e]; exact hg_44, by rw [e]; exact x_32⟩
   ·
    refine K.c 11 rfl (K.QR.nice (v := .bool (((S.next : Int) + (1 : Int) : Int) == (c.lo : Int))) (by kernel_rfl) (congrArg Value.bool (beq_eq_false_iff_ne.2 h_40))) (hS.pick [5, 6]) ?_
    refine K.DW.done (by kernel_rfl) ?_
    refine K.t (K.f (K.k (K.t (K.r ?_))))
    refine K.blk_ret ?_
    refine K.rq_ret_g 2 hS rfl hgl_25 ?_
    clear hS; intro w gl_47 hgl_48 hS
    replace hS : K.Sat w0 [l_31, gl, gl_47, gd_16, g_5, g_2, g_28, fr, fr_23] w := hS
    refine ⟨rfl, [l_31, gl, gl_47, gd_16, g_5, g_2, g_28, fr].flatten, ?_, (hS.pick [0, 1, 2, 3, 4, 5, 6, 7, 8]).of (by simp [K.pick, K.nth])⟩
    clear hS; intro _ w hS
    replace hS : K.Sat w0 [g_9, h_10, l_31, gl, gl_47, gd_16, g_5, g_2, g_28, fr] w := hS.of (by simp [K.pick, K.nth])
    refine K.gafter 4 [0, 1, 2, 3, 5, 6, 7, 8, 9] hS rfl hgl_48 (fun h => by cases h) ?_
    clear hS; intro w hS
    replace hS : K.Sat w0 [g_9, h_10, l_31, gl, gd_16, g_5, g_2, g_28, fr] w := hS
    refine K.afterR_ret rfl ?_
    refine K.blk_ret ?_
    refine ⟨.inr rfl, .inr ⟨_, rfl, K.endD 4 [0, 1, 2, 3, 5, 6, 7, 8] hS rfl hgd_18 ?_⟩⟩
    clear hS; intro w hS
    replace hS : K.Sat w0 [g_9, h_10, l_31, gl, g_5, g_2, g_28, fr] w := hS
    have e : relook c n S M = (⟨S.t, S.pc, S.slot, (S.next : Int) + (1 : Int), S.next⟩, ((M.accL n S.t (logS c S.t S.next)).1)) := by unfold relook; rw [if_pos (by omega), if_neg (by unfold reLd; omega), if_neg (by omega)]; rfl
    refine ⟨(.tuple #[]), K.res0 rfl, [g_28, gl, l_31], ?_, hS.pick [6, 3, 2, 7]⟩
    exact ⟨_, _, rfl, rfl, by rw [e]; exact hg_29, by rw [e]; exact x_32⟩
 ·
  refine K.KC.ofG hS [2, 3, 7] [0, 1, 4, 5, 6, 8, 9] (ents_stop _ _ _ _ _ c (by assumption) S.next _ _ _ x_11 y_12 hgl h_22) ?_
  clear hS; rintro _ _ w rfl hS
  replace hS : K.Sat w0 [g_9, h_10, gl, gl_17, gd_16, g_5, g_2, gp, l, fr] w := hS
  subst hrec_21
  refine K.gafter 3 [0, 1, 2, 4, 5, 6, 7, 8, 9] hS rfl hgl_19 (fun h => by cases h) ?_
  clear hS; intro w hS
  replace hS : K.Sat w0 [g_9, h_10, gl, gd_16, g_5, g_2, gp, l, fr] w := hS
  refine K.afterR_none rfl ?_
  refine K.blk_normal ?_
  refine ⟨.inl rfl, .inr ⟨_, rfl, K.endD 3 [0, 1, 2, 4, 5, 6, 7, 8] hS rfl hgd_18 ?_⟩⟩
  clear hS; intro w hS
  replace hS : K.Sat w0 [g_9, h_10, gl, g_5, g_2, gp, l, fr] w := hS
  have e : relook c n S M = (S, M) := if_neg (by omega)
  refine ⟨(.tuple #[]), K.res0 rfl, [gp, gl, l], ?_, hS.pick [5, 2, 6, 7]⟩
  exact ⟨_, _, rfl, rfl, by rw [e]; exact hgp, by rw [e]; exact x⟩
set_option maxHeartbeats 1000000 in
set_option maxRecDepth 100000 in
theorem reDone_ok (w0 : World) (p b : Nat) (S : ResS) (gp : K.Cs) (hgp : gp = resPt p b S) :
  K.GC Tryz.prog w0 18 #[.pointer (some ⟨p, 0, none⟩)] [gp] (fun v post => post = [gp] ∧ ((v = .bool true ∧ S.pc = 5) ∨ (v = .bool false ∧ ¬ S.pc = 5))) := by
 refine K.GC.mk (n := 13) Tryz.func18 rfl rfl [.pointer (some ⟨p, 0, none⟩)] rfl rfl ?_
 intro fr w hS
 replace hS : K.Sat w0 [gp, fr] w := hS
 refine K.s (K.g (K.q [.bool false] (K.z (K.t (K.s (K.g (K.q [.pointer (some ⟨p, 0, none⟩), .bool false, .bool false, .pointer (some ⟨p, 0, none⟩), .pointer (some ⟨p, 0, none⟩), .pointer (some ⟨p, 0, none⟩), .pointer (some ⟨p, 2, none⟩)] ?_)))))))
 refine K.d (.int .i64 S.pc) ((hS.blk 0 rfl hgp).cell rfl) ?_
 by_cases h_1 : (S.pc : Int) = (5 : Int)
 ·
  refine K.ye (S.pc : Int) (5 : Int) h_1 ?_
  refine K.q [.bool true, .bool true] (K.z (K.t (K.r ?_)))
  refine ⟨.inr rfl, rfl, (.bool true), K.res1 rfl rfl, [gp], ?_, hS.pick [0, 1]⟩
  exact ⟨rfl, .inl ⟨rfl, by omega⟩⟩
 ·
  refine K.xe (S.pc : Int) (5 : Int) h_1 ?_
  refine K.q [.bool false, .bool false] (K.z (K.t (K.r ?_)))
  refine ⟨.inr rfl, rfl, (.bool false), K.res1 rfl rfl, [gp], ?_, hS.pick [0, 1]⟩
  exact ⟨rfl, .inr ⟨rfl, by omega⟩⟩
set_option maxHeartbeats 1000000 in
set_option maxRecDepth 100000 in
theorem reLast_ok (w0 : World) (p b pm q n t : Nat) (c : Cfg) (hc : cfgOk c) (S : ResS) (M : MemM) (gp gl l : K.Cs) (hgp : gp = resPt p b S) (hgl : gl = layPt b c) (x : MemAt l pm q n t M) (hM : M.good) (hS : S.good) (pl : Int) (hp : S.pc = 2 ∨ S.pc = 3) :
  K.GC Tryz.prog w0 42 #[.pointer (some ⟨p, 0, none⟩), .pointer (some ⟨pm, 0, none⟩), .int .i64 pl] [gp, gl, l] (fun v post => ∃ gp' l', v = .tuple #[] ∧ post = [gp', gl, l'] ∧ gp' = resPt p b ⟨S.t, if S.pc = 2 then 3 else 5, S.slot, S.next, S.place⟩ ∧ MemAt l' pm q n t (elast c n t S.t S.pc pl M)) := by
 have hSt := hS.1
 have hli := log_int hc S.t pl
 refine K.GC.mk (n := 39) Tryz.func42 rfl rfl [.pointer (some ⟨p, 0, none⟩), .pointer (some ⟨pm, 0, none⟩), .int .i64 pl] rfl rfl ?_
 intro fr w hS
 replace hS : K.Sat w0 [gp, gl, l, fr] w := hS
 refine K.s (K.s (K.g (K.q [.pointer (some ⟨p, 0, none⟩), .pointer (some ⟨p, 0, none⟩), .pointer (some ⟨p, 2, none⟩)] ?_)))
 refine K.d (.int .i64 S.pc) ((hS.blk 0 rfl hgp).cell rfl) ?_
 by_cases h_1 : (S.pc : Int) = (2 : Int)
 ·
  refine K.ye (S.pc : Int) (2 : Int) h_1 ?_
  refine K.z (K.t (K.h (K.s ?_)))
  refine K.KW.gdrawn [0] hS (by kernel_rfl) ?_
  clear hS; intro w hS
  refine K.p 0 rfl (.pointer (some ⟨pm, 0, none⟩)) (hS.pick [0]) ?_
  refine K.p 1 rfl (.pointer (some ⟨p, 0, none⟩)) (hS.pick [0]) ?_
  refine K.p 2 rfl (.pointer (some ⟨p, 0, none⟩)) (hS.pick [0]) ?_
  refine K.p 3 rfl (.pointer (some ⟨p, 1, none⟩)) (hS.pick [0]) ?_
  refine K.o_ 4 rfl (.int .i64 S.t) (fun w hS => ((hS.blk 0 rfl hgp).cell rfl)) (hS.pick [0]) ?_
  refine K.p 5 rfl (.pointer (some ⟨p, 0, none⟩)) (hS.pick [0]) ?_
  refine K.p 6 rfl (.pointer (some ⟨p, 0, none⟩)) (hS.pick [0]) ?_
  refine K.p 7 rfl (.pointer (some ⟨p, 0, none⟩)) (hS.pick [0]) ?_
  refine K.o_ 8 rfl (.pointer (some ⟨b, 0, none⟩)) (fun w hS => ((hS.blk 0 rfl hgp).cell rfl)) (hS.pick [0]) ?_
  refine K.p 9 rfl (.pointer (some ⟨p, 0, none⟩)) (hS.pick [0]) ?_
  refine K.p 10 rfl (.pointer (some ⟨p, 0, none⟩)) (hS.pick [0]) ?_
  refine K.p 11 rfl (.pointer (some ⟨p, 1, none⟩)) (hS.pick [0]) ?_
  refine K.o_ 12 rfl (.int .i64 S.t) (fun w hS => ((hS.blk 0 rfl hgp).cell rfl)) (hS.pick [0]) ?_
  refine K.b 13 rfl (.int .i64 pl) (hS.pick [0]) ?_
  refine K.DW.l 14 rfl (by kernel_rfl) rfl (K.OW.kcall hS [.pointer (some ⟨b, 0, none⟩), .int .i64 S.t, .int .i64 pl] (lLog _ c S.t pl _ (by assumption) (hS.blk 1 rfl hgl)) ?_)
  rintro _ w ⟨rfl, c_2⟩
  replace hS := hS.no c_2
  refine ⟨.inl (hS.pick [0]), ?_⟩
  refine K.DW.l 15 rfl (by kernel_rfl) rfl (K.OW.gcall hS [2] [0, 1, 3] [.pointer (some ⟨pm, 0, none⟩), .int .i64 S.t, .int .i64 (logS c S.t pl)] (mFlush_ok _ _ _ _ _ _ _ x S.t (by omega) (logS c S.t pl) (by omega)) ?_)
  clear hS; rintro _ _ w ⟨l_3, rfl, rfl, x_4⟩ hS
  replace hS : K.Sat w0 [l_3, gp, gl, fr] w := hS
  refine ⟨.inl (hS.pick [1]), ?_⟩
  refine K.DW.done (by kernel_rfl) ?_
  refine K.t (K.s (K.g (K.q [.pointer (some ⟨p, 0, none⟩), .pointer (some ⟨p, 0, none⟩), .pointer (some ⟨p, 2, none⟩)] ?_)))
  refine K.l (K.OW.gst 1 [.int .i64 3] _ hS hgp ?_)
  clear hS; intro w g_5 hg_6 hS
  replace hS : K.Sat w0 [l_3, g_5, gl, fr] w := hS
  refine K.z (K.t (K.r (K.u ?_)))
  have e : elast c n t S.t S.pc pl M = ((M.accF n t S.t (logS c S.t pl)).1) := if_pos (by omega)
  refine ⟨.inr rfl, rfl, (.tuple #[]), K.res0 rfl, [g_5, gl, l_3], ?_, hS.pick [1, 2, 0, 3]⟩
  exact ⟨_, _, rfl, rfl, by rw [if_pos (by omega)]; exact hg_6, by rw [e]; exact x_4⟩
 ·
  refine K.xe (S.pc : Int) (2 : Int) h_1 ?_
  refine K.z (K.t (K.f (K.k (K.t (K.s (K.g (K.q [.pointer (some ⟨pm, 0, none⟩), .pointer (some ⟨p, 0, none⟩), .pointer (some ⟨p, 0, none⟩), .pointer (some ⟨p, 1, none⟩)] ?_)))))))
  refine K.d (.int .i64 S.t) ((hS.blk 0 rfl hgp).cell rfl) ?_
  refine K.l (K.OW.gcall hS [2] [0, 1, 3] [.pointer (some ⟨pm, 0, none⟩), .int .i64 S.t] (mFence_ok _ _ _ _ _ _ _ x S.t (by omega)) ?_)
  clear hS; rintro _ _ w ⟨l_7, rfl, rfl, x_8⟩ hS
  replace hS : K.Sat w0 [l_7, gp, gl, fr] w := hS
  refine K.z (K.t (K.g (K.q [.pointer (some ⟨p, 0, none⟩), .pointer (some ⟨p, 0, none⟩), .pointer (some ⟨p, 2, none⟩)] ?_)))
  refine K.l (K.OW.gst 1 [.int .i64 5] _ hS hgp ?_)
  clear hS; intro w g_9 hg_10 hS
  replace hS : K.Sat w0 [l_7, g_9, gl, fr] w := hS
  refine K.z ?_
  have e : elast c n t S.t S.pc pl M = ((M.accE t S.t).1) := if_neg (by omega)
  refine ⟨.inl rfl, rfl, (.tuple #[]), K.res0 rfl, [g_9, gl, l_7], ?_, hS.pick [1, 2, 0, 3]⟩
  exact ⟨_, _, rfl, rfl, by rw [if_neg (by omega)]; exact hg_10, by rw [e]; exact x_8⟩
def ResS.done (S : ResS) : Bool := decide (S.pc = 5)
set_option maxHeartbeats 1000000 in
set_option maxRecDepth 100000 in
theorem reStep_ok (w0 : World) (p b pm q n t : Nat) (c : Cfg) (hc : cfgOk c) (S : ResS) (M : MemM) (gp gl l : K.Cs) (hgp : gp = resPt p b S) (hgl : gl = layPt b c) (x : MemAt l pm q n t M) (hM : M.good) (hS : S.good) :
  K.GC Tryz.prog w0 9 #[.pointer (some ⟨p, 0, none⟩), .pointer (some ⟨pm, 0, none⟩)] [gp, gl, l] (fun v post => ∃ gp' l', v = .bool (resStep c n t S M).1.done ∧ post = [gp', gl, l'] ∧ gp' = resPt p b (resStep c n t S M).1 ∧ MemAt l' pm q n t (resStep c n t S M).2) := by
 have hS0 := hS
 obtain ⟨hSt, hSp, hSs, hSx, hSl⟩ := hS
 have hcc := hc
 unfold cfgOk at hcc
 refine K.GC.mk (n := 65) Tryz.func9 rfl rfl [.pointer (some ⟨p, 0, none⟩), .pointer (some ⟨pm, 0, none⟩)] rfl rfl ?_
 intro fr w hS
 replace hS : K.Sat w0 [gp, gl, l, fr] w := hS
 refine K.s (K.g (K.q [.bool false] (K.z (K.t (K.s (K.s (K.g (K.q [.pointer (some ⟨p, 0, none⟩)] ?_))))))))
 refine K.l (K.OW.gcall hS [0] [1, 2, 3] [.pointer (some ⟨p, 0, none⟩)] (reDone_ok _ _ _ ⟨S.t, S.pc, S.slot, S.next, S.place⟩ _ hgp) ?_)
 clear hS; rintro _ _ w ⟨rfl, (⟨rfl, h_1⟩ | ⟨rfl, h_2⟩)⟩ hS
 ·
  replace hS : K.Sat w0 [gp, gl, l, fr] w := hS
  replace h_1 : S.pc = 5 := h_1
  refine K.z (K.t (K.h (K.s (K.g (K.q [.bool true] (K.z (K.t (K.r (K.u ?_)))))))))
  have e : resStep c n t S M = (S, M) := by unfold resStep; rw [if_pos (by omega)]
  refine ⟨.inr rfl, rfl, (.bool true), K.res1 rfl rfl, [gp, gl, l], ?_, hS.pick [0, 1, 2, 3]⟩
  exact ⟨_, _, by rw [e]; exact congrArg Value.bool (decide_eq_true (by show S.pc = (5 : Int); omega)).symm, rfl, by rw [e]; exact hgp, by rw [e]; exact x⟩
 ·
  replace hS : K.Sat w0 [gp, gl, l, fr] w := hS
  replace h_2 : ¬ S.pc = 5 := h_2
  refine K.z (K.t (K.f (K.k (K.t (K.s (K.s (K.g (K.q [.pointer (some ⟨p, 0, none⟩), .pointer (some ⟨p, 0, none⟩), .pointer (some ⟨p, 0, none⟩), .pointer (some ⟨p, 2, none⟩)] ?_))))))))
  refine K.d (.int .i64 S.pc) ((hS.blk 0 rfl hgp).cell rfl) ?_
  refine K.z (K.t ?_)
  refine K.KW.block ?_
  refine K.s (K.g ?_)
  by_cases h_3 : (S.pc : Int) = (0 : Int)
  ·
   refine K.ye (S.pc : Int) (0 : Int) h_3 ?_
   refine K.q [.bool true] (K.z (K.t (K.h (K.g (K.q [.pointer (some ⟨p, 0, none⟩), .pointer (some ⟨pm, 0, none⟩)] ?_)))))
   refine K.l (K.OW.gcall hS [0, 1, 2] [3] [.pointer (some ⟨p, 0, none⟩), .pointer (some ⟨pm, 0, none⟩)] (reLook_ok _ _ _ _ _ _ _ c hc S M _ _ _ hgp hgl x (by assumption) hS0) ?_)
   clear hS; rintro _ _ w ⟨g_4, l_5, rfl, rfl, h_6, x_7⟩ hS
   replace hS : K.Sat w0 [g_4, gl, l_5, fr] w := hS
   refine K.z ?_
   refine K.blk_normal ?_
   refine K.t (K.s (K.g (K.q [.pointer (some ⟨p, 0, none⟩), .pointer (some ⟨p, 0, none⟩), .pointer (some ⟨p, 0, none⟩), .pointer (some ⟨p, 2, none⟩)] ?_)))
   refine K.d (.int .i64 ((relook c n S M).1.pc)) ((hS.blk 0 rfl h_6).cell rfl) ?_
   by_cases h_8 : ((relook c n S M).1.pc : Int) = (5 : Int)
   ·
    refine K.ye ((relook c n S M).1.pc : Int) (5 : Int) h_8 ?_
    refine K.q [.bool true] (K.z (K.t (K.r ?_)))
    have e : resStep c n t S M = relook c n S M := by unfold resStep; rw [if_neg (by omega), if_pos (by omega)]
    refine ⟨.inr rfl, rfl, (.bool true), K.res1 rfl rfl, [g_4, gl, l_5], ?_, hS.pick [0, 1, 2, 3]⟩
    exact ⟨_, _, by rw [e]; exact congrArg Value.bool (decide_eq_true (by show ((relook c n S M).1.pc) = (5 : Int); omega)).symm, rfl, by rw [e]; exact h_6, by rw [e]; exact x_7⟩
   ·
    refine K.xe ((relook c n S M).1.pc : Int) (5 : Int) h_8 ?_
    refine K.q [.bool false] (K.z (K.t (K.r ?_)))
    have e : resStep c n t S M = relook c n S M := by unfold resStep; rw [if_neg (by omega), if_pos (by omega)]
    refine ⟨.inr rfl, rfl, (.bool false), K.res1 rfl rfl, [g_4, gl, l_5], ?_, hS.pick [0, 1, 2, 3]⟩
    exact ⟨_, _, by rw [e]; exact congrArg Value.bool (decide_eq_false (by show ¬ ((relook c n S M).1.pc) = (5 : Int); omega)).symm, rfl, by rw [e]; exact h_6, by rw [e]; exact x_7⟩
  ·
   refine K.xe (S.pc : Int) (0 : Int) h_3 ?_
   refine K.q [.bool false] (K.z (K.t (K.f (K.s (K.g ?_)))))
   by_cases h_9 : (S.pc : Int) = (1 : Int)
   ·
    refine K.ye (S.pc : Int) (1 : Int) h_9 ?_
    refine K.q [.bool true] (K.z (K.t (K.h (K.s ?_))))
    refine K.KW.gdrawn [0] hS (by kernel_rfl) ?_
    clear hS; intro w hS
    refine K.p 0 rfl (.pointer (some ⟨pm, 0, none⟩)) (hS.pick [0]) ?_
    refine K.p 1 rfl (.pointer (some ⟨p, 0, none⟩)) (hS.pick [0]) ?_
    refine K.p 2 rfl (.pointer (some ⟨p, 0, none⟩)) (hS.pick [0]) ?_
    refine K.p 3 rfl (.pointer (some ⟨p, 0, none⟩)) (hS.pick [0]) ?_
    refine K.p 4 rfl (.pointer (some ⟨p, 1, none⟩)) (hS.pick [0]) ?_
    refine K.o_ 5 rfl (.int .i64 S.t) (fun w hS => ((hS.blk 0 rfl hgp).cell rfl)) (hS.pick [0]) ?_
    refine K.p 6 rfl (.pointer (some ⟨p, 0, none⟩)) (hS.pick [0]) ?_
    refine K.p 7 rfl (.pointer (some ⟨p, 0, none⟩)) (hS.pick [0]) ?_
    refine K.p 8 rfl (.pointer (some ⟨p, 0, none⟩)) (hS.pick [0]) ?_
    refine K.p 9 rfl (.pointer (some ⟨p, 0, none⟩)) (hS.pick [0]) ?_
    refine K.o_ 10 rfl (.pointer (some ⟨b, 0, none⟩)) (fun w hS => ((hS.blk 0 rfl hgp).cell rfl)) (hS.pick [0]) ?_
    refine K.p 11 rfl (.pointer (some ⟨p, 0, none⟩)) (hS.pick [0]) ?_
    refine K.p 12 rfl (.pointer (some ⟨p, 0, none⟩)) (hS.pick [0]) ?_
    refine K.p 13 rfl (.pointer (some ⟨p, 0, none⟩)) (hS.pick [0]) ?_
    refine K.p 14 rfl (.pointer (some ⟨p, 1, none⟩)) (hS.pick [0]) ?_
    refine K.o_ 15 rfl (.int .i64 S.t) (fun w hS => ((hS.blk 0 rfl hgp).cell rfl)) (hS.pick [0]) ?_
    refine K.p 16 rfl (.pointer (some ⟨p, 0, none⟩)) (hS.pick [0]) ?_
    refine K.p 17 rfl (.pointer (some ⟨p, 0, none⟩)) (hS.pick [0]) ?_
    refine K.p 18 rfl (.pointer (some ⟨p, 5, none⟩)) (hS.pick [0]) ?_
    refine K.o_ 19 rfl (.int .i64 S.place) (fun w hS => ((hS.blk 0 rfl hgp).cell rfl)) (hS.pick [0]) ?_
    refine K.p 21 rfl (.pointer (some ⟨p, 0, none⟩)) (hS.pick [0]) ?_
    refine K.p 22 rfl (.pointer (some ⟨p, 0, none⟩)) (hS.pick [0]) ?_
    refine K.p 23 rfl (.pointer (some ⟨p, 3, none⟩)) (hS.pick [0]) ?_
    refine K.o_ 24 rfl (.int .i64 S.slot) (fun w hS => ((hS.blk 0 rfl hgp).cell rfl)) (hS.pick [0]) ?_
    refine K.DW.l 20 rfl (by kernel_rfl) rfl (K.OW.kcall hS [.pointer (some ⟨b, 0, none⟩), .int .i64 S.t, .int .i64 S.place] (lLog _ c S.t S.place _ (by assumption) (hS.blk 1 rfl hgl)) ?_)
    rintro _ w ⟨rfl, c_10⟩
    replace hS := hS.no c_10
    refine ⟨.inl (hS.pick [0]), ?_⟩
    refine K.DW.l 25 rfl (by kernel_rfl) rfl (K.OW.gcall hS [] [0, 1, 2, 3] [.int .i64 S.slot, .int .i64 (-1)] (entry_ok _ S.slot ((-1) : Int) (by omega) (by omega)) ?_)
    clear hS; rintro _ _ w ⟨rfl, rfl⟩ hS
    replace hS : K.Sat w0 [gp, gl, l, fr] w := hS
    have hw_11 : isW (entryI S.slot ((-1) : Int)) := entryI_w _ _
    refine ⟨.inl (hS.pick [0]), ?_⟩
    refine K.DW.l 26 rfl (by kernel_rfl) rfl (K.OW.gcall hS [2] [0, 1, 3] [.pointer (some ⟨pm, 0, none⟩), .int .i64 S.t, .int .i64 (logS c S.t S.place), .int .u64 (entryI S.slot ((-1) : Int))] (mStore_ok _ _ _ _ _ _ _ x S.t (logS c S.t S.place) (by first | omega | assumption | exact log_int (by assumption) _ _ | exact aft_int (by assumption) _ | exact ann_int (by assumption) _ (by omega)) (entryI S.slot ((-1) : Int))) ?_)
    clear hS; rintro _ _ w ⟨l_12, rfl, rfl, x_13⟩ hS
    replace hS : K.Sat w0 [l_12, gp, gl, fr] w := hS
    refine ⟨.inl (hS.pick [1]), ?_⟩
    refine K.DW.done (by kernel_rfl) ?_
    refine K.t (K.g (K.q [.pointer (some ⟨p, 0, none⟩), .pointer (some ⟨p, 0, none⟩), .pointer (some ⟨p, 0, none⟩), .pointer (some ⟨p, 2, none⟩)] ?_))
    refine K.l (K.OW.gst 1 [.int .i64 2] _ hS hgp ?_)
    clear hS; intro w g_14 hg_15 hS
    replace hS : K.Sat w0 [l_12, g_14, gl, fr] w := hS
    refine K.z ?_
    refine K.blk_normal ?_
    refine K.t (K.s (K.g (K.q [.pointer (some ⟨p, 0, none⟩), .pointer (some ⟨p, 0, none⟩), .pointer (some ⟨p, 0, none⟩), .pointer (some ⟨p, 2, none⟩)] ?_)))
    refine K.d (.int .i64 2) ((hS.blk 1 rfl hg_15).cell rfl) ?_
    refine K.q [.bool false, .bool false] (K.z (K.t (K.r ?_)))
    have e : resStep c n t S M = (⟨S.t, 2, S.slot, S.next, S.place⟩, ((M.accS n S.t (logS c S.t S.place) (entryI S.slot ((-1) : Int))).1)) := by unfold resStep; rw [if_neg (by omega), if_neg (by omega), if_pos (by omega)]
    refine ⟨.inr rfl, rfl, (.bool false), K.res1 rfl rfl, [g_14, gl, l_12], ?_, hS.pick [1, 2, 0, 3]⟩
    exact ⟨_, _, by rw [e]; exact congrArg Value.bool (decide_eq_false (by show ¬ (2 : Int) = (5 : Int); omega)).symm, rfl, by rw [e]; exact hg_15, by rw [e]; exact x_13⟩
   ·
    refine K.xe (S.pc : Int) (1 : Int) h_9 ?_
    refine K.q [.bool false] (K.z (K.t (K.f ?_)))
    refine K.KW.gdrawn [] hS (by kernel_rfl) ?_
    clear hS; intro w hS
    refine K.p 0 rfl (.pointer (some ⟨p, 0, none⟩)) (hS.pick []) ?_
    refine K.p 1 rfl (.pointer (some ⟨p, 0, none⟩)) (hS.pick []) ?_
    refine K.p 2 rfl (.pointer (some ⟨p, 0, none⟩)) (hS.pick []) ?_
    refine K.p 3 rfl (.pointer (some ⟨pm, 0, none⟩)) (hS.pick []) ?_
    refine K.b 4 rfl (.pointer (some ⟨p, 0, none⟩)) (hS.pick []) ?_
    refine K.b 5 rfl (.pointer (some ⟨p, 0, none⟩)) (hS.pick []) ?_
    refine K.b 6 rfl (.pointer (some ⟨p, 5, none⟩)) (hS.pick []) ?_
    refine K.c 7 rfl (K.QR.ld1 (v := .int .i64 S.place) rfl rfl (by kernel_rfl) ((hS.blk 0 rfl hgp).cell rfl)) (hS.pick []) ?_
    refine K.DW.l 8 rfl (by kernel_rfl) rfl (K.OW.gcall hS [0, 1, 2] [3] [.pointer (some ⟨p, 0, none⟩), .pointer (some ⟨pm, 0, none⟩), .int .i64 S.place] (reLast_ok _ _ _ _ _ _ _ c hc S M _ _ _ hgp hgl x (by assumption) hS0 S.place (by omega)) ?_)
    clear hS; rintro _ _ w ⟨g_16, l_17, rfl, rfl, h_18, x_19⟩ hS
    replace hS : K.Sat w0 [g_16, gl, l_17, fr] w := hS
    refine ⟨.inl (hS.pick []), ?_⟩
    refine K.DW.done (by kernel_rfl) ?_
    refine K.blk_normal ?_
    refine K.t (K.s (K.g (K.q [.pointer (some ⟨p, 0, none⟩), .pointer (some ⟨p, 0, none⟩), .pointer (some ⟨p, 0, none⟩), .pointer (some ⟨p, 2, none⟩)] ?_)))
    refine K.d (.int .i64 (if S.pc = 2 then 3 else 5)) ((hS.blk 0 rfl h_18).cell rfl) ?_
    by_cases h_20 : ((if S.pc = 2 then 3 else 5) : Int) = (5 : Int)
    ·
     refine K.ye ((if S.pc = 2 then 3 else 5) : Int) (5 : Int) h_20 ?_
     refine K.q [.bool true] (K.z (K.t (K.r ?_)))
     have e : resStep c n t S M = (⟨S.t, (if S.pc = 2 then 3 else 5), S.slot, S.next, S.place⟩, (elast c n t S.t S.pc S.place M)) := by unfold resStep; rw [if_neg (by omega), if_neg (by omega), if_neg (by omega)]
     refine ⟨.inr rfl, rfl, (.bool true), K.res1 rfl rfl, [g_16, gl, l_17], ?_, hS.pick [0, 1, 2, 3]⟩
     exact ⟨_, _, by rw [e]; exact congrArg Value.bool (decide_eq_true (by show (if S.pc = 2 then 3 else 5) = (5 : Int); omega)).symm, rfl, by rw [e]; exact h_18, by rw [e]; exact x_19⟩
    ·
     refine K.xe ((if S.pc = 2 then 3 else 5) : Int) (5 : Int) h_20 ?_
     refine K.q [.bool false] (K.z (K.t (K.r ?_)))
     have e : resStep c n t S M = (⟨S.t, (if S.pc = 2 then 3 else 5), S.slot, S.next, S.place⟩, (elast c n t S.t S.pc S.place M)) := by unfold resStep; rw [if_neg (by omega), if_neg (by omega), if_neg (by omega)]
     refine ⟨.inr rfl, rfl, (.bool false), K.res1 rfl rfl, [g_16, gl, l_17], ?_, hS.pick [0, 1, 2, 3]⟩
     exact ⟨_, _, by rw [e]; exact congrArg Value.bool (decide_eq_false (by show ¬ (if S.pc = 2 then 3 else 5) = (5 : Int); omega)).symm, rfl, by rw [e]; exact h_18, by rw [e]; exact x_19⟩
set_option maxHeartbeats 1000000 in
set_option maxRecDepth 100000 in
theorem newre_ok (w0 : World) (b : Nat) (tt sl : Int) :
  K.GC Tryz.prog w0 8 #[.pointer (some ⟨b, 0, none⟩), .int .i64 tt, .int .i64 sl] [] (fun v post => ∃ p g, v = .pointer (some ⟨p, 0, none⟩) ∧ post = [g] ∧ g = resPt p b ⟨tt, 0, sl, 0, 0⟩) := by
 refine K.GC.mk (n := 13) Tryz.func8 rfl rfl [.pointer (some ⟨b, 0, none⟩), .int .i64 tt, .int .i64 sl] rfl rfl ?_
 intro fr w hS
 replace hS : K.Sat w0 [fr] w := hS
 refine K.s (K.g (K.q [.pointer none] (K.z (K.t (K.s (K.g (K.q [.pointer (some ⟨b, 0, none⟩), .int .i64 tt] ?_)))))))
 refine K.a (K.QR.bd [(0, .pointer (some ⟨b, 0, none⟩)), (1, .int .i64 tt)] [.pointer (some ⟨b, 0, none⟩), .int .i64 tt, .int .i64 0] rfl rfl (by kernel_rfl)) ?_
 refine K.q [.int .i64 sl] ?_
 refine K.a (K.QR.bd [(0, .agg #[.pointer (some ⟨b, 0, none⟩), .int .i64 tt, .int .i64 0]), (1, .int .i64 sl)] [.pointer (some ⟨b, 0, none⟩), .int .i64 tt, .int .i64 0, .int .i64 sl, .int .i64 0, .int .i64 0] rfl rfl (by kernel_rfl)) ?_
 refine K.l (K.OW.gnew 96 [.pointer (some ⟨b, 0, none⟩), .int .i64 tt, .int .i64 0, .int .i64 sl, .int .i64 0, .int .i64 0] hS ?_)
 clear hS; intro w r_1 g_2 hg_3 hS
 refine K.q [.pointer (some ⟨r_1, 0, none⟩)] (K.z (K.t (K.r ?_)))
 refine ⟨.inr rfl, rfl, (.pointer (some ⟨r_1, 0, none⟩)), K.res1 rfl rfl, [g_2], ?_, hS.pick [0, 1]⟩
 exact ⟨_, _, rfl, rfl, hg_3⟩
def rePlace (c : Cfg) (S : ResS) : Int := if S.pc = 5 ∧ S.place < c.lo then S.place else -1
set_option maxHeartbeats 1000000 in
set_option maxRecDepth 100000 in
theorem rePlace_ok (w0 : World) (p b : Nat) (c : Cfg) (hc : cfgOk c) (S : ResS) (gp gl : K.Cs) (hgp : gp = resPt p b S) (hgl : gl = layPt b c) :
  K.GC Tryz.prog w0 11 #[.pointer (some ⟨p, 0, none⟩)] [gp, gl] (fun v post => v = .int .i64 (rePlace c S) ∧ post = [gp, gl]) := by
 refine K.GC.mk (n := 31) Tryz.func11 rfl rfl [.pointer (some ⟨p, 0, none⟩)] rfl rfl ?_
 intro fr w hS
 replace hS : K.Sat w0 [gp, gl, fr] w := hS
 refine K.s (K.g (K.q [.int .i64 0] (K.z (K.t (K.s (K.s ?_))))))
 refine K.KW.gdrawn [0] hS (by kernel_rfl) ?_
 clear hS; intro w hS
 refine K.b 0 rfl (.pointer (some ⟨p, 0, none⟩)) (hS.pick [0]) ?_
 refine K.b 1 rfl (.bool false) (hS.pick [0]) ?_
 refine K.b 2 rfl (.bool false) (hS.pick [0]) ?_
 refine K.b 3 rfl (.pointer (some ⟨p, 0, none⟩)) (hS.pick [0]) ?_
 refine K.b 4 rfl (.pointer (some ⟨p, 0, none⟩)) (hS.pick [0]) ?_
 refine K.b 5 rfl (.pointer (some ⟨p, 0, none⟩)) (hS.pick [0]) ?_
 refine K.b 6 rfl (.pointer (some ⟨p, 2, none⟩)) (hS.pick [0]) ?_
 refine K.c 7 rfl (K.QR.ld1 (v := .int .i64 S.pc) rfl rfl (by kernel_rfl) ((hS.blk 0 rfl hgp).cell rfl)) (hS.pick [0]) ?_
 by_cases h_1 : (S.pc : Int) = (5 : Int)
 ·
  refine K.c 8 rfl (K.QR.nice (v := .bool ((S.pc : Int) != (5 : Int))) (by kernel_rfl) (congrArg Value.bool (bne_eq_false_iff_eq.2 h_1))) (hS.pick [0]) ?_
  refine K.b 9 rfl (.bool false) (hS.pick [0]) ?_
  refine K.b 10 rfl (.bool false) (hS.pick [0]) ?_
  refine K.p 11 rfl (.pointer (some ⟨p, 0, none⟩)) (hS.pick [0]) ?_
  refine K.p 12 rfl (.pointer (some ⟨p, 0, none⟩)) (hS.pick [0]) ?_
  refine K.p 13 rfl (.pointer (some ⟨p, 5, none⟩)) (hS.pick [0]) ?_
  refine K.o_ 14 rfl (.int .i64 S.place) (fun w hS => ((hS.blk 0 rfl hgp).cell rfl)) (hS.pick [0]) ?_
  refine K.b 15 rfl (.pointer (some ⟨p, 0, none⟩)) (hS.pick [0]) ?_
  refine K.b 16 rfl (.pointer (some ⟨p, 0, none⟩)) (hS.pick [0]) ?_
  refine K.b 17 rfl (.pointer (some ⟨p, 0, none⟩)) (hS.pick [0]) ?_
  refine K.b 18 rfl (.pointer (some ⟨p, 0, none⟩)) (hS.pick [0]) ?_
  refine K.c 19 rfl (K.QR.ld1 (v := .pointer (some ⟨b, 0, none⟩)) rfl rfl (by kernel_rfl) ((hS.blk 0 rfl hgp).cell rfl)) (hS.pick [0]) ?_
  refine K.DW.l 20 rfl (by kernel_rfl) (by kernel_rfl) (K.OW.kcall hS [.pointer (some ⟨b, 0, none⟩)] (lConfig _ c  _ (by assumption) (hS.blk 1 rfl hgl)) ?_)
  rintro _ w ⟨rfl, c_2⟩
  replace hS := hS.no c_2
  refine ⟨.inl (hS.pick [0]), ?_⟩
  refine K.b 21 rfl (.int .i64 c.lo) (hS.pick [0]) ?_
  by_cases h_3 : (S.place : Int) ≥ (c.lo : Int)
  ·
   refine K.c 22 rfl (K.QR.nice (v := .bool (decide ((S.place : Int) ≥ (c.lo : Int)))) (by kernel_rfl) (congrArg Value.bool (decide_eq_true h_3))) (hS.pick [0]) ?_
   refine K.b 23 rfl (.bool true) (hS.pick [0]) ?_
   refine K.DW.done (by kernel_rfl) ?_
   refine K.t (K.h (K.s (K.g (K.q [.int .i64 (-1)] (K.z (K.t (K.r (K.u ?_))))))))
   refine ⟨.inr rfl, rfl, (.int .i64 (-1)), K.res1 rfl rfl, [gp, gl], ?_, hS.pick [0, 1, 2]⟩
   exact ⟨congrArg (Value.int .i64) (if_neg (by omega)).symm, rfl⟩
  ·
   refine K.c 22 rfl (K.QR.nice (v := .bool (decide ((S.place : Int) ≥ (c.lo : Int)))) (by kernel_rfl) (congrArg Value.bool (decide_eq_false h_3))) (hS.pick [0]) ?_
   refine K.b 23 rfl (.bool false) (hS.pick [0]) ?_
   refine K.DW.done (by kernel_rfl) ?_
   refine K.t (K.f (K.k (K.t (K.s (K.g (K.q [.pointer (some ⟨p, 0, none⟩), .pointer (some ⟨p, 0, none⟩), .pointer (some ⟨p, 5, none⟩)] ?_))))))
   refine K.d (.int .i64 S.place) ((hS.blk 0 rfl hgp).cell rfl) ?_
   refine K.q [.int .i64 S.place] (K.z (K.t (K.r ?_)))
   refine ⟨.inr rfl, rfl, (.int .i64 S.place), K.res1 rfl rfl, [gp, gl], ?_, hS.pick [0, 1, 2]⟩
   exact ⟨congrArg (Value.int .i64) (if_pos (by omega)).symm, rfl⟩
 ·
  refine K.c 8 rfl (K.QR.nice (v := .bool ((S.pc : Int) != (5 : Int))) (by kernel_rfl) (congrArg Value.bool (bne_iff_ne.2 h_1))) (hS.pick [0]) ?_
  refine K.b 9 rfl (.bool true) (hS.pick [0]) ?_
  refine K.b 10 rfl (.bool true) (hS.pick [0]) ?_
  refine K.w_ 11 rfl (hS.pick [0]) ?_
  refine K.w_ 12 rfl (hS.pick [0]) ?_
  refine K.w_ 13 rfl (hS.pick [0]) ?_
  refine K.w_ 14 rfl (hS.pick [0]) ?_
  refine K.w_ 15 rfl (hS.pick [0]) ?_
  refine K.w_ 16 rfl (hS.pick [0]) ?_
  refine K.w_ 17 rfl (hS.pick [0]) ?_
  refine K.w_ 18 rfl (hS.pick [0]) ?_
  refine K.w_ 19 rfl (hS.pick [0]) ?_
  refine K.w_ 20 rfl (hS.pick [0]) ?_
  refine K.w_ 21 rfl (hS.pick [0]) ?_
  refine K.w_ 22 rfl (hS.pick [0]) ?_
  refine K.b 23 rfl (.bool true) (hS.pick [0]) ?_
  refine K.DW.done (by kernel_rfl) ?_
  refine K.t (K.h (K.s (K.g (K.q [.int .i64 (-1)] (K.z (K.t (K.r (K.u ?_))))))))
  refine ⟨.inr rfl, rfl, (.int .i64 (-1)), K.res1 rfl rfl, [gp, gl], ?_, hS.pick [0, 1, 2]⟩
  exact ⟨congrArg (Value.int .i64) (if_neg (by omega)).symm, rfl⟩
set_option maxHeartbeats 1000000 in
set_option maxRecDepth 100000 in
theorem ents_all (w0 : World) (l : Nat) (b d lb : Nat) (c : Cfg) (hc : cfgOk c) (g1 g2 gl : K.Cs) (h1 : g1 = [K.pt b 3 [.int .i64 0]]) (h2 : g2 = [K.pt d 28 [.pointer (some ⟨lb, 0, none⟩)]]) (hgl : gl = layPt lb c) (J : Nat → K.Cs → Prop) (hr : ∀ (k : Nat) (m' : K.Cs), k < c.lo.toNat → J k m' → K.YG Tryz.prog w0 l [.int .i64 ((k : Nat) : Int)] true [gl, m'].flatten (fun m1 => ∃ m1', m1 = [gl, m1'].flatten ∧ J (k + 1) m1')) (m' : K.Cs) (h0 : J 0 m') :
  K.GC Tryz.prog w0 96 #[.func (.yield l) #[] #[], .pointer (some ⟨b, 0, none⟩), .pointer (some ⟨d, 0, none⟩)] [g1, g2, gl, m'] (fun _ post => ∃ m1', post = [g1, g2, gl, m1'] ∧ J c.lo.toNat m1') := by
 have hcc := hc
 unfold cfgOk at hcc
 refine K.GC.mk (n := 17) Tryz.func96 rfl rfl [.func (.yield l) #[] #[], .pointer (some ⟨b, 0, none⟩), .pointer (some ⟨d, 0, none⟩)] rfl rfl ?_
 intro fr w hS
 replace hS : K.Sat w0 [g1, g2, gl, m', fr] w := hS
 refine K.s (K.g ?_)
 refine K.d (.int .i64 0) ((hS.blk 0 rfl h1).cell rfl) ?_
 refine K.q [.int .i64 0] (K.z (K.t ?_))
 refine K.KW.block ?_
 refine K.KW.loop (fun m_ F_ w_ => ∃ (k : Nat) (mk : K.Cs), m_ = c.lo.toNat - k ∧ K.Sl F_ [(0, .func (.yield l) #[] #[]), (1, .pointer (some ⟨b, 0, none⟩)), (2, .pointer (some ⟨d, 0, none⟩)), (4, .int .i64 ((k : Nat) : Int)), (17, undef)] ∧ k ≤ c.lo.toNat ∧ J k mk ∧ K.Sat w0 [g1, g2, gl, mk, fr] w_) ((fun (k : Nat) => c.lo.toNat - k) 0) ?_ ?_
 ·
  exact ⟨0, m', rfl, ⟨by rfl, by rfl, by rfl, by rfl, by rfl, trivial⟩, (by omega), h0, hS.pick [0, 1, 2, 3, 4]⟩
 ·
  clear hS
  intro m_1 F_2 w hI
  obtain ⟨k, mk, rfl, sl_3, p_4, x_5, hS⟩ := hI
  rw [← K.Sl.puts sl_3]; clear sl_3
  refine K.s (K.s (K.g (K.q [.int .i64 ((k : Nat) : Int)] ?_)))
  refine K.d (.pointer (some ⟨lb, 0, none⟩)) ((hS.blk 1 rfl h2).cell rfl) ?_
  refine K.l (K.OW.kcall hS [.pointer (some ⟨lb, 0, none⟩)] (lConfig _ c  _ (by assumption) (hS.blk 2 rfl hgl)) ?_)
  rintro _ w ⟨rfl, c_6⟩
  replace hS := hS.no c_6
  refine K.q [.int .i64 c.lo] ?_
  by_cases h_7 : (((k : Nat) : Int) : Int) < (c.lo : Int)
  ·
   refine K.y ((((k : Nat) : Int) : Int) < (c.lo : Int)) h_7 ?_
   refine K.z (K.t (K.h (K.k (K.t (K.s ?_)))))
   refine K.KW.block ?_
   refine K.s ?_
   refine K.KW.regionY ?_
   refine K.RY.q rfl rfl (K.QR.k (v := .func (.yield l) #[] #[]) (by kernel_rfl)) ?_
   refine K.RY.q rfl rfl (K.QR.k (v := .int .i64 ((k : Nat) : Int)) (by kernel_rfl)) ?_
   replace hS : K.Sat w0 [[gl, mk].flatten, g1, g2, fr] w := (hS.pick [2, 3, 0, 1, 4]).of
   refine K.RY.gyield hS 0 [1, 2, 3] [.int .i64 ((k : Nat) : Int)] ((hr k _ (by omega) x_5)) rfl rfl ?_
   clear hS; intro w m_8 hR_9 hS
   replace hS : K.Sat w0 [m_8, g1, g2, fr] w := hS
   refine K.RY.q rfl rfl (K.QR.k (v := .bool false) (by kernel_rfl)) ?_
   refine K.RY.nil ?_
   refine K.t (K.f (K.k ?_))
   refine K.blk_normal ?_
   refine K.t ?_
   obtain ⟨m_10, rfl, hJ_11⟩ := hR_9
   replace hS : K.Sat w0 [gl, m_10, g1, g2, fr] w := hS.of
   refine K.g (K.q [.int .i64 ((k : Nat) : Int)] ?_)
   refine K.a (K.QR.n64 ((((k : Nat) : Int) : Int) + (1 : Int)) ((k + 1 : Nat) : Int) (by kernel_rfl) (by omega)) ?_
   refine K.q [.int .i64 ((k + 1 : Nat) : Int)] (K.z (K.t ?_))
   refine ⟨_, ?_, k + 1, m_10, rfl, ⟨by rfl, by rfl, by rfl, by rfl, by rfl, trivial⟩, (by omega), hJ_11, hS.pick [2, 3, 0, 1, 4]⟩
   omega
  ·
   refine K.x ((((k : Nat) : Int) : Int) < (c.lo : Int)) h_7 ?_
   refine K.z (K.t (K.f ?_))
   refine K.KW.exit ?_
   refine K.thn_exit ?_
   refine K.thn_exit ?_
   refine K.blk_hit ?_
   refine ⟨.inl rfl, rfl, (.tuple #[]), K.res0 rfl, [g1, g2, gl, mk], ?_, hS.pick [0, 1, 2, 3, 4]⟩
   exact ⟨_, rfl, (show k = c.lo.toNat by omega) ▸ x_5⟩
def slotsT (c : Cfg) (n : Nat) (M : MemM) (tt : Int) (k : Nat) : List Int := (List.range k).filterMap fun i => if (M.peek n (logS c tt ((i : Nat) : Int))).getD 0 = 0 then none else some (toI ((M.peek n (logS c tt ((i : Nat) : Int))).getD 0))
theorem slotsT_len {c : Cfg} {n : Nat} {M : MemM} {tt : Int} {k : Nat} : (slotsT c n M tt k).length ≤ k := by
 unfold slotsT
 exact Nat.le_trans (List.length_filterMap_le _ _) (by simp)
theorem slotsT_no {c : Cfg} {n : Nat} {M : MemM} {tt : Int} {k : Nat} (h : (M.peek n (logS c tt ((k : Nat) : Int))).getD 0 = 0) : slotsT c n M tt (k + 1) = slotsT c n M tt k := by
 unfold slotsT; rw [List.range_succ, List.filterMap_append]; simp [h]
theorem slotsT_yes {c : Cfg} {n : Nat} {M : MemM} {tt : Int} {k : Nat} {y : Int} (h : M.peek n (logS c tt ((k : Nat) : Int)) = some y) (hy : ¬ y = 0) : slotsT c n M tt (k + 1) = slotsT c n M tt k ++ [toI y] := by
 unfold slotsT; rw [List.range_succ, List.filterMap_append]; simp [h, hy]
set_option maxHeartbeats 1000000 in
set_option maxRecDepth 100000 in
theorem slots_ok (w0 : World) (b pm q n t : Nat) (c : Cfg) (hc : cfgOk c) (M : MemM) (gl l : K.Cs) (hgl : gl = layPt b c) (x : MemAt l pm q n t M) (hM : M.good) (tt : Int) (htt : isInt tt) :
  K.GC Tryz.prog w0 13 #[.pointer (some ⟨b, 0, none⟩), .pointer (some ⟨pm, 0, none⟩), .int .i64 tt] [gl, l] (fun v post => ∃ r cc l2, v = .slice r (slotsT c n M tt c.lo.toNat).length cc ∧ post = [gl, l, l2] ∧ K.OwnG l2 3 1 r (slotsT c n M tt c.lo.toNat).length cc ((slotsT c n M tt c.lo.toNat).flatMap cI64)) := by
 refine K.GC.mkD (n := 34) Tryz.func13 rfl rfl [.pointer (some ⟨b, 0, none⟩), .pointer (some ⟨pm, 0, none⟩), .int .i64 tt] rfl rfl ?_
 intro fr w hS
 replace hS : K.Sat w0 [gl, l, fr] w := hS
 refine K.s (K.g ?_)
 refine K.l (K.OW.gnew 28 [.pointer (some ⟨b, 0, none⟩)] hS ?_)
 clear hS; intro w r_1 g_2 hg_3 hS
 refine K.l (K.OW.gnew 29 [.pointer (some ⟨pm, 0, none⟩)] hS ?_)
 clear hS; intro w r_4 g_5 hg_6 hS
 refine K.l (K.OW.gnew 3 [.int .i64 tt] hS ?_)
 clear hS; intro w r_7 g_8 hg_9 hS
 refine K.q [.slice none 0 0] (K.z (K.t (K.s (K.g ?_))))
 refine K.l (K.OW.gnew 45 [.slice none 0 0] hS ?_)
 clear hS; intro w r_10 g_11 hg_12 hS
 refine K.z (K.t (K.s (K.s ?_)))
 obtain ⟨z_13, hz_14⟩ : ∃ z : K.Cs, z = [] := ⟨_, rfl⟩
 replace hS : K.Sat w0 [z_13, g_11, g_8, g_5, g_2, gl, l, fr] w := hS.of (by simp [hz_14])
 have o_15 : K.OwnG z_13 3 1 none 0 0 [] := by rw [hz_14]; exact K.OwnG.nil _ _
 refine K.g ?_
 refine K.d (.pointer (some ⟨b, 0, none⟩)) ((hS.blk 4 rfl hg_3).cell rfl) ?_
 refine K.l (K.OW.gcall hS [] [0, 1, 2, 3, 4, 5, 6, 7] [.pointer (some ⟨b, 0, none⟩), .int .i64 0] (ents_ok _ b (0 : Int)) ?_)
 clear hS; rintro _ _ w ⟨b_16, d_17, g_18, h_19, rfl, rfl, x_20, y_21⟩ hS
 replace hS : K.Sat w0 [g_18, h_19, z_13, g_11, g_8, g_5, g_2, gl, l, fr] w := hS
 refine K.z (K.t ?_)
 refine K.KW.block ?_
 refine K.KW.grange (first := []) (cap := [.pointer (some ⟨b_16, 0, none⟩), .pointer (some ⟨d_17, 0, none⟩)]) hS rfl (by kernel_rfl) rfl ?_
 clear hS; intro fid_22 w rd_23 lp_24 gd_25 gl_26 hgd_27 hgl_28 hS
 generalize hrec_30 : K.mkLoop _ _ _ _ _ _ _ = rec_29 at hgl_28
 subst hgl_28
 refine K.KC.allsS (J := fun (k : Nat) (m : K.Cs) => ∃ (q1 : Option Addr) (c1 : Nat) (gW : K.Cs) (gO : K.Cs), (K.OwnG gW 3 1 q1 ((slotsT c n M tt k).length) c1 (((slotsT c n M tt k)).flatMap cI64)) ∧ (gO = [K.pt r_10 45 [.slice q1 ((slotsT c n M tt k).length) c1]]) ∧ m = [[(lp_24, Obj.loop rec_29)], gd_25, gW, gO, g_8, g_5, g_2, l, fr].flatten) (g := fun k => [.int .i64 ((k : Nat) : Int)]) (b := c.lo.toNat) hS [2, 3] [0, 1, 4, 5, 6, 7, 8, 10, 11] 9 (fun J hr m' h0 => ents_all _ _ _ _ _ c (by assumption) _ _ _ x_20 y_21 hgl J hr m' h0) ?_ ?_ ?_
 ·exact ⟨none, 0, z_13, g_11, (o_15), (hg_12), rfl⟩
 ·
  clear hS; intro k m' hk hJ_32 fr_31 w hS
  obtain ⟨q1, c1, gW, gO, h_33, h_34, rfl⟩ := hJ_32
  replace hS : K.Sat w0 [gl, [(lp_24, Obj.loop rec_29)], gd_25, gW, gO, g_8, g_5, g_2, l, fr, fr_31] w := hS.of (by simp [K.pick, K.nth])
  obtain ⟨gl_35, hgl_36⟩ : ∃ g : K.Cs, g = [(lp_24, Obj.loop rec_29)] := ⟨_, rfl⟩
  replace hS : K.Sat w0 [gl, gl_35, gd_25, gW, gO, g_8, g_5, g_2, l, fr, fr_31] w := by rw [hgl_36]; exact hS
  subst hrec_30
  refine K.YS.ground (n := 34) (ps := [13]) 1 hS rfl hgl_36 rfl rfl rfl rfl rfl ?_
  refine K.g (K.q [.int .i64 ((k : Nat) : Int)] (K.z ?_))
  refine K.rb_g 1 hS rfl hgl_36 rfl ?_
  clear hS; intro w gl_37 hgl_38 hS
  replace hS : K.Sat w0 [gl, gl_37, gd_25, gW, gO, g_8, g_5, g_2, l, fr, fr_31] w := hS
  refine K.KW.block ?_
  refine K.s ?_
  have hsl := slotsT_len (c := c) (n := n) (M := M) (tt := tt) (k := k)
  have hcc := hc
  unfold cfgOk at hcc
  refine K.KW.gdrawn [5, 6, 7] hS (by kernel_rfl) ?_
  clear hS; intro w hS
  refine K.o_ 0 rfl (.pointer (some ⟨pm, 0, none⟩)) (fun w hS => ((hS.blk 1 rfl hg_6).cell rfl)) (hS.pick [5, 6, 7]) ?_
  refine K.o_ 1 rfl (.pointer (some ⟨b, 0, none⟩)) (fun w hS => ((hS.blk 2 rfl hg_3).cell rfl)) (hS.pick [5, 6, 7]) ?_
  refine K.o_ 2 rfl (.int .i64 tt) (fun w hS => ((hS.blk 0 rfl hg_9).cell rfl)) (hS.pick [5, 6, 7]) ?_
  refine K.b 3 rfl (.int .i64 ((k : Nat) : Int)) (hS.pick [5, 6, 7]) ?_
  refine K.DW.l 4 rfl (by kernel_rfl) rfl (K.OW.kcall hS [.pointer (some ⟨b, 0, none⟩), .int .i64 tt, .int .i64 ((k : Nat) : Int)] (lLog _ c tt ((k : Nat) : Int) _ (by assumption) (hS.blk 0 rfl hgl)) ?_)
  rintro _ w ⟨rfl, c_39⟩
  replace hS := hS.no c_39
  refine ⟨.inl (hS.pick [5, 6, 7]), ?_⟩
  refine K.DW.l 5 rfl (by kernel_rfl) rfl (K.OW.gcall hS [8] [0, 1, 2, 3, 4, 5, 6, 7, 9, 10] [.pointer (some ⟨pm, 0, none⟩), .int .i64 (logS c tt ((k : Nat) : Int))] (mPeek_ok _ _ _ _ _ _ _ x (logS c tt ((k : Nat) : Int)) (by first | omega | assumption | exact log_int (by assumption) _ _ | exact aft_int (by assumption) _ | exact ann_int (by assumption) _ (by omega))) ?_)
  clear hS; rintro _ _ w ⟨rfl, (⟨y_40, rfl, h_41⟩ | ⟨rfl, h_42⟩)⟩ hS
  ·
   replace hS : K.Sat w0 [l, gl, gl_37, gd_25, gW, gO, g_8, g_5, g_2, fr, fr_31] w := hS
   have hw_43 : isW y_40 := peek_W (by assumption) h_41
   unfold isW at hw_43
   refine ⟨.inl (hS.pick [6, 7, 8]), ?_⟩
   refine K.b 6 rfl (.tuple #[.int .u64 y_40, .bool true]) (hS.pick [6, 7, 8]) ?_
   refine K.p 7 rfl (.int .u64 y_40) (hS.pick [6, 7, 8]) ?_
   refine K.p 8 rfl (.bool true) (hS.pick [6, 7, 8]) ?_
   refine K.b 9 rfl (.int .u64 y_40) (hS.pick [6, 7, 8]) ?_
   refine K.b 10 rfl (.bool true) (hS.pick [6, 7, 8]) ?_
   refine K.DW.done (by kernel_rfl) ?_
   refine K.t (K.s (K.g (K.q [.bool true, .bool true, .int .u64 y_40] ?_)))
   by_cases h_44 : (y_40 : Int) = (0 : Int)
   ·
    refine K.xn (y_40 : Int) (0 : Int) h_44 ?_
    refine K.q [.bool false] (K.z (K.t (K.f (K.k ?_))))
    refine K.blk_normal ?_
    refine K.rq_normal_g 2 hS rfl hgl_38 ?_
    clear hS; intro w gl_45 hgl_46 hS
    replace hS : K.Sat w0 [l, gl, gl_45, gd_25, gW, gO, g_8, g_5, g_2, fr, fr_31] w := hS
    refine ⟨rfl, [gl, [gl_45, gd_25, gW, gO, g_8, g_5, g_2, l, fr].flatten].flatten, ⟨_, rfl, q1, c1, gW, gO, (by rw [slotsT_no (by rw [h_41]; show y_40 = 0; omega)]; exact h_33), (by rw [slotsT_no (by rw [h_41]; show y_40 = 0; omega)]; exact h_34), by subst hgl_46; rfl⟩, (hS.pick [1, 2, 3, 4, 5, 6, 7, 8, 0, 9, 10]).of (by simp [K.pick, K.nth])⟩
   ·
    refine K.yn (y_40 : Int) (0 : Int) h_44 ?_
    refine K.q [.bool true] (K.z (K.t (K.h ?_)))
    refine K.KW.gdrawn [5] hS (by kernel_rfl) ?_
    clear hS; intro w hS
    refine K.o_ 0 rfl (.slice q1 ((slotsT c n M tt k).length) c1) (fun w hS => ((hS.blk 0 rfl h_34).cell rfl)) (hS.pick [5]) ?_
    refine K.b 1 rfl (.int .u64 y_40) (hS.pick [5]) ?_
    refine K.DW.l 2 rfl (by kernel_rfl) rfl (K.OW.gcall hS [] [0, 1, 2, 3, 4, 5, 6, 7, 8, 9, 10] [.int .u64 y_40] (to_ok _ y_40 (by first | assumption | (unfold isW; omega))) ?_)
    clear hS; rintro _ _ w ⟨rfl, rfl⟩ hS
    replace hS : K.Sat w0 [l, gl, gl_37, gd_25, gW, gO, g_8, g_5, g_2, fr, fr_31] w := hS
    refine ⟨.inl (hS.pick [5]), ?_⟩
    refine K.DW.l 3 rfl (by kernel_rfl) rfl (K.OW.gbs [(0, .int .i64 (toI y_40))] [.int .i64 (toI y_40)] hS (fun w => K.bs_run (P := Tryz.prog) w 45 3 1 _ _ Tryz.underlying45 (by kernel_rfl)) ?_)
    clear hS; intro w r_47 g_48 hg_49 hS
    refine ⟨.inl (hS.pick [6]), ?_⟩
    refine K.DW.l 4 rfl (by kernel_rfl) rfl (K.OW.gapp (P := Tryz.prog) (xs := ((slotsT c n M tt k)).flatMap cI64) (z := .int .i64 0) (size := 1) (bytes := 8) 5 [.int .i64 (toI y_40)] hS h_33 ?_ (fun j u hj => (by rw [Nat.zero_add]; exact (hS.blk 0 rfl hg_49).cell hj)) (K.one_cells (by rfl)) (by rfl) Tryz.underlying45 (by kernel_rfl) rfl (by decide) (by unfold maxLen; omega) (by omega))
    clear hS; intro a_50 cap_51 w l_52 o_53 hS
    have ln_54 : (((slotsT c n M tt k) ++ [((toI y_40) : Int)])).length = (slotsT c n M tt k).length + 1 := by rw [List.length_append]; rfl
    have o_53c := K.OwnG.cast (xs' := (((slotsT c n M tt k) ++ [((toI y_40) : Int)])).flatMap cI64) o_53 rfl (K.fl_snoc cI64 (slotsT c n M tt k) _ rfl)
    replace hS : K.Sat w0 [g_48, l, gl, gl_37, gd_25, l_52, gO, g_8, g_5, g_2, fr, fr_31] w := hS
    refine ⟨.inl (hS.pick [6]), ?_⟩
    refine K.DW.l 5 rfl (by kernel_rfl) rfl (K.OW.gst 6 [.slice a_50 ((slotsT c n M tt k).length + 1) cap_51] _ hS h_34 ?_)
    clear hS; intro w g_55 hg_56 hS
    replace hS : K.Sat w0 [g_48, l, gl, gl_37, gd_25, l_52, g_55, g_8, g_5, g_2, fr, fr_31] w := hS
    refine ⟨.inr (by kernel_rfl), ?_⟩
    refine K.DW.done (by kernel_rfl) ?_
    refine K.blk_normal ?_
    refine K.rq_normal_g 3 hS rfl hgl_38 ?_
    clear hS; intro w gl_57 hgl_58 hS
    replace hS : K.Sat w0 [g_48, l, gl, gl_57, gd_25, l_52, g_55, g_8, g_5, g_2, fr, fr_31] w := hS
    refine ⟨rfl, [gl, [gl_57, gd_25, l_52, g_55, g_8, g_5, g_2, l, fr].flatten].flatten, ⟨_, rfl, a_50, cap_51, l_52, g_55, (by rw [slotsT_yes h_41 (by omega)]; simpa using o_53c), (by rw [slotsT_yes h_41 (by omega)]; simpa using hg_56), by subst hgl_58; rfl⟩, (hS.pick [2, 3, 4, 5, 6, 7, 8, 9, 1, 10, 11]).of (by simp [K.pick, K.nth])⟩
  ·
   replace hS : K.Sat w0 [l, gl, gl_37, gd_25, gW, gO, g_8, g_5, g_2, fr, fr_31] w := hS
   refine ⟨.inl (hS.pick [6, 7, 8]), ?_⟩
   refine K.b 6 rfl (.tuple #[.int .u64 0, .bool false]) (hS.pick [6, 7, 8]) ?_
   refine K.p 7 rfl (.int .u64 0) (hS.pick [6, 7, 8]) ?_
   refine K.p 8 rfl (.bool false) (hS.pick [6, 7, 8]) ?_
   refine K.b 9 rfl (.int .u64 0) (hS.pick [6, 7, 8]) ?_
   refine K.b 10 rfl (.bool false) (hS.pick [6, 7, 8]) ?_
   refine K.DW.done (by kernel_rfl) ?_
   refine K.t (K.s (K.g (K.q [.bool false, .bool false] (K.n_ (K.n_ (K.q [.bool false] (K.z (K.t (K.f (K.k ?_))))))))))
   refine K.blk_normal ?_
   refine K.rq_normal_g 2 hS rfl hgl_38 ?_
   clear hS; intro w gl_59 hgl_60 hS
   replace hS : K.Sat w0 [l, gl, gl_59, gd_25, gW, gO, g_8, g_5, g_2, fr, fr_31] w := hS
   refine ⟨rfl, [gl, [gl_59, gd_25, gW, gO, g_8, g_5, g_2, l, fr].flatten].flatten, ⟨_, rfl, q1, c1, gW, gO, (by rw [slotsT_no (by rw [h_42]; rfl)]; exact h_33), (by rw [slotsT_no (by rw [h_42]; rfl)]; exact h_34), by subst hgl_60; rfl⟩, (hS.pick [1, 2, 3, 4, 5, 6, 7, 8, 0, 9, 10]).of (by simp [K.pick, K.nth])⟩
 ·
  clear hS; intro _ _ w hJ_61 hS
  obtain ⟨q1, c1, gW, gO, h_62, h_63, rfl⟩ := hJ_61
  replace hS : K.Sat w0 [g_18, h_19, gl, [(lp_24, Obj.loop rec_29)], gd_25, gW, gO, g_8, g_5, g_2, l, fr] w := hS.of (by simp [K.pick, K.nth])
  obtain ⟨gl_64, hgl_65⟩ : ∃ g : K.Cs, g = [(lp_24, Obj.loop rec_29)] := ⟨_, rfl⟩
  replace hS : K.Sat w0 [g_18, h_19, gl, gl_64, gd_25, gW, gO, g_8, g_5, g_2, l, fr] w := by rw [hgl_65]; exact hS
  subst hrec_30
  refine K.gafter 3 [0, 1, 2, 4, 5, 6, 7, 8, 9, 10, 11] hS rfl hgl_65 (fun h => by cases h) ?_
  clear hS; intro w hS
  replace hS : K.Sat w0 [g_18, h_19, gl, gd_25, gW, gO, g_8, g_5, g_2, l, fr] w := hS
  refine K.afterR_none rfl ?_
  refine K.blk_normal ?_
  refine K.t (K.s (K.g ?_))
  refine K.d (.slice q1 ((slotsT c n M tt c.lo.toNat).length) c1) ((hS.blk 5 rfl h_63).cell rfl) ?_
  refine K.q [.slice q1 ((slotsT c n M tt c.lo.toNat).length) c1] (K.z (K.t (K.r ?_)))
  refine ⟨.inr rfl, .inr ⟨_, rfl, K.endD 3 [0, 1, 2, 4, 5, 6, 7, 8, 9, 10] hS rfl hgd_27 ?_⟩⟩
  clear hS; intro w hS
  replace hS : K.Sat w0 [g_18, h_19, gl, gW, gO, g_8, g_5, g_2, l, fr] w := hS
  refine ⟨(.slice q1 ((slotsT c n M tt c.lo.toNat).length) c1), K.res1 rfl rfl, [gl, l, gW], ?_, hS.pick [2, 8, 3, 9]⟩
  exact ⟨_, _, _, rfl, rfl, h_62⟩
end Go.Proofs.YtkmndplicmaahaaGreat
