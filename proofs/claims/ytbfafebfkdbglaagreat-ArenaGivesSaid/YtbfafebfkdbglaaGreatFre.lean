import Derived.Test.YtbfafebfkdbglaaGreatFep
import Derived.Test.YtbfafebfkdbglaaGreatFl9
import Derived.Test.YtbfafebfkdbglaaGreatKn
import Derived.Test.YtbfafebfkdbglaaGreatFlin
import Derived.Test.YtbfafebfkdbglaaGreatFbi2
/- Layer 10: Advance, as it is called. -/
namespace Go.Proofs.YtbfafebfkdbglaaGreat
open Go.RowKit
set_option linter.unusedVariables false
attribute [local irreducible] K.KW K.RW K.DW K.OW K.QR K.KC
set_option maxHeartbeats 1000000 in
set_option maxRecDepth 100000 in
theorem newadv_ok (w0 : World) (b : Nat) (a0 : Int) :
  K.GC Tryz.prog w0 177 #[.pointer (some ⟨b, 0, none⟩), .int .i64 a0] [] (fun v post => ∃ p g, v = .pointer (some ⟨p, 0, none⟩) ∧ post = [g] ∧ g = advPt p b ⟨a0, false, 0, 0, 0, false⟩) := by
 refine K.GC.mk (n := 10) Tryz.func177 rfl rfl [.pointer (some ⟨b, 0, none⟩), .int .i64 a0] rfl rfl ?_
 intro fr w hS
 replace hS : K.Sat w0 [fr] w := hS
 refine K.s (K.g (K.q [.pointer none] (K.z (K.t (K.s (K.g (K.q [.pointer (some ⟨b, 0, none⟩), .int .i64 a0] ?_)))))))
 refine K.a (K.QR.bd [(0, .pointer (some ⟨b, 0, none⟩)), (1, .int .i64 a0)] [.pointer (some ⟨b, 0, none⟩), .int .i64 a0, .bool false] rfl rfl (by kernel_rfl)) ?_
 refine K.a (K.QR.bd [(0, .agg #[.pointer (some ⟨b, 0, none⟩), .int .i64 a0, .bool false])] [.pointer (some ⟨b, 0, none⟩), .int .i64 a0, .bool false, .int .i64 0, .int .u64 0, .int .i64 0, .bool false] rfl rfl (by kernel_rfl)) ?_
 refine K.l (K.OW.gnew 249 [.pointer (some ⟨b, 0, none⟩), .int .i64 a0, .bool false, .int .i64 0, .int .u64 0, .int .i64 0, .bool false] hS ?_)
 clear hS; intro w r_1 g_2 hg_3 hS
 refine K.q [.pointer (some ⟨r_1, 0, none⟩)] (K.z (K.t (K.r ?_)))
 refine ⟨.inr rfl, rfl, (.pointer (some ⟨r_1, 0, none⟩)), K.res1 rfl rfl, [g_2], ?_, hS.pick [0, 1]⟩
 exact ⟨_, _, rfl, rfl, hg_3⟩
end Go.Proofs.YtbfafebfkdbglaaGreat

/- Logs: places; the range over entries. -/
namespace Go.Proofs.YtbfafebfkdbglaaGreat
open Go.RowKit
set_option linter.unusedVariables false
attribute [local irreducible] K.KW K.RW K.DW K.OW K.QR K.KC
theorem first_mem : ∀ {l : List Nm} {x : Nm}, x ∈ l → firstT l x < l.length ∧ l.getD (firstT l x) nm0 = x
 | [], x, h => by simp at h
 | y :: l, x, h => by
  by_cases hy : y = x
  ·subst hy
   have : firstT (y :: l) y = 0 := by unfold firstT; rw [List.takeWhile_cons, if_neg (by simp)]; rfl
   rw [this]; exact ⟨by simp, rfl⟩
  ·have hm : x ∈ l := (List.mem_cons.1 h).resolve_left (fun e => hy e.symm)
   obtain ⟨a, b⟩ := first_mem hm
   have : firstT (y :: l) x = firstT l x + 1 := by unfold firstT; rw [List.takeWhile_cons, if_pos (by simpa using hy)]; rfl
   rw [this]; exact ⟨by simpa using a, by simpa using b⟩
theorem log_int {c : Cfg} (hc : cfgOk c) (t n : Int) : isInt (logS c t n) := by
 have hb := lay_bd hc
 unfold cfgOk at hc
 unfold logS wordS
 split
 ·split
  ·have : lsz c * t ≤ 8 * 64 := Int.mul_le_mul (by omega) (by omega) (by omega) (by omega)
   have : 0 ≤ lsz c * t := Int.mul_nonneg (by omega) (by omega)
   omega
  ·omega
 ·omega
set_option maxHeartbeats 1000000 in
set_option maxRecDepth 100000 in
theorem ents_ok (w0 : World) (lb : Nat) (from_ : Int) :
  K.GC Tryz.prog w0 228 #[.pointer (some ⟨lb, 0, none⟩), .int .i64 from_] [] (fun v post => ∃ b d g1 g2, v = .func (.func 231) [].toArray [.pointer (some ⟨b, 0, none⟩), .pointer (some ⟨d, 0, none⟩)].toArray ∧ post = [g1, g2] ∧ g1 = [K.pt b 3 [.int .i64 from_]] ∧ g2 = [K.pt d 32 [.pointer (some ⟨lb, 0, none⟩)]]) := by
 refine K.GC.mk (n := 6) Tryz.func228 rfl rfl [.pointer (some ⟨lb, 0, none⟩), .int .i64 from_] rfl rfl ?_
 intro fr w hS
 replace hS : K.Sat w0 [fr] w := hS
 refine K.s (K.g ?_)
 refine K.l (K.OW.gnew 32 [.pointer (some ⟨lb, 0, none⟩)] hS ?_)
 clear hS; intro w r_1 g_2 hg_3 hS
 refine K.l (K.OW.gnew 3 [.int .i64 from_] hS ?_)
 clear hS; intro w r_4 g_5 hg_6 hS
 refine K.q [.nilFunc] (K.z (K.t (K.s (K.g ?_))))
 refine K.a (K.QR.fn [] [.pointer (some ⟨r_4, 0, none⟩), .pointer (some ⟨r_1, 0, none⟩)] rfl rfl rfl) ?_
 refine K.q [.func (.func 231) [].toArray [.pointer (some ⟨r_4, 0, none⟩), .pointer (some ⟨r_1, 0, none⟩)].toArray] (K.z (K.t (K.r ?_)))
 refine ⟨.inr rfl, rfl, (.func (.func 231) [].toArray [.pointer (some ⟨r_4, 0, none⟩), .pointer (some ⟨r_1, 0, none⟩)].toArray), K.res1 rfl rfl, [g_5, g_2], ?_, hS.pick [0, 1, 2]⟩
 exact ⟨_, _, _, _, rfl, rfl, hg_6, hg_3⟩
set_option maxHeartbeats 1000000 in
set_option maxRecDepth 100000 in
theorem ents_stop (w0 : World) (l : Nat) (b d lb : Nat) (c : Cfg) (hc : cfgOk c) (from_ : Int) (g1 g2 gl : K.Cs) (h1 : g1 = [K.pt b 3 [.int .i64 from_]]) (h2 : g2 = [K.pt d 32 [.pointer (some ⟨lb, 0, none⟩)]]) (hgl : gl = layPt lb c) (hh : ¬ from_ < c.lo) :
  K.GC Tryz.prog w0 231 #[.func (.yield l) #[] #[], .pointer (some ⟨b, 0, none⟩), .pointer (some ⟨d, 0, none⟩)] [g1, g2, gl] (fun _ post => post = [g1, g2, gl]) := by
 refine K.GC.mk (n := 17) Tryz.func231 rfl rfl [.func (.yield l) #[] #[], .pointer (some ⟨b, 0, none⟩), .pointer (some ⟨d, 0, none⟩)] rfl rfl ?_
 intro fr w hS
 replace hS : K.Sat w0 [g1, g2, gl, fr] w := hS
 refine K.s (K.g ?_)
 refine K.d (.int .i64 from_) ((hS.blk 0 rfl h1).cell rfl) ?_
 refine K.q [.int .i64 from_] (K.z (K.t ?_))
 refine K.KW.block ?_
 refine K.KW.unr 0 ?_
 refine K.Unr.zero ?_
 refine K.s (K.s (K.g (K.q [.int .i64 from_] ?_)))
 refine K.d (.pointer (some ⟨lb, 0, none⟩)) ((hS.blk 1 rfl h2).cell rfl) ?_
 refine K.l (K.OW.kcall hS [.pointer (some ⟨lb, 0, none⟩)] (lConfig _ c  _ (by assumption) (hS.blk 2 rfl hgl)) ?_)
 rintro _ w ⟨rfl, c_1⟩
 replace hS := hS.no c_1
 refine K.q [.int .i64 c.lo] ?_
 refine K.x ((from_ : Int) < (c.lo : Int)) (hh) ?_
 refine K.z (K.t (K.f ?_))
 refine K.KW.exit ?_
 refine K.thn_exit ?_
 refine K.thn_exit ?_
 refine K.blk_hit ?_
 refine ⟨.inl rfl, rfl, (.tuple #[]), K.res0 rfl, [g1, g2, gl], ?_, hS.pick [0, 1, 2, 3]⟩
 exact rfl
set_option maxHeartbeats 1000000 in
set_option maxRecDepth 100000 in
theorem ents_one (w0 : World) (l : Nat) (b d lb : Nat) (c : Cfg) (hc : cfgOk c) (from_ : Int) (g1 g2 gl : K.Cs) (h1 : g1 = [K.pt b 3 [.int .i64 from_]]) (h2 : g2 = [K.pt d 32 [.pointer (some ⟨lb, 0, none⟩)]]) (hgl : gl = layPt lb c) (hh : from_ < c.lo) (m m' : K.Cs) (hm : m = [gl, m'].flatten) (R : K.Cs → Prop) (hY : K.YG Tryz.prog w0 l [.int .i64 from_] false m R) :
  K.GC Tryz.prog w0 231 #[.func (.yield l) #[] #[], .pointer (some ⟨b, 0, none⟩), .pointer (some ⟨d, 0, none⟩)] [g1, g2, m] (fun _ post => ∃ m', post = [g1, g2, m'] ∧ R m') := by
 refine K.GC.mk (n := 17) Tryz.func231 rfl rfl [.func (.yield l) #[] #[], .pointer (some ⟨b, 0, none⟩), .pointer (some ⟨d, 0, none⟩)] rfl rfl ?_
 intro fr w hS
 replace hS : K.Sat w0 [g1, g2, m, fr] w := hS
 subst hm
 replace hS : K.Sat w0 [g1, g2, gl, m', fr] w := hS.of
 refine K.s (K.g ?_)
 refine K.d (.int .i64 from_) ((hS.blk 0 rfl h1).cell rfl) ?_
 refine K.q [.int .i64 from_] (K.z (K.t ?_))
 refine K.KW.block ?_
 refine K.KW.unr 0 ?_
 refine K.Unr.zero ?_
 refine K.s (K.s (K.g (K.q [.int .i64 from_] ?_)))
 refine K.d (.pointer (some ⟨lb, 0, none⟩)) ((hS.blk 1 rfl h2).cell rfl) ?_
 refine K.l (K.OW.kcall hS [.pointer (some ⟨lb, 0, none⟩)] (lConfig _ c  _ (by assumption) (hS.blk 2 rfl hgl)) ?_)
 rintro _ w ⟨rfl, c_1⟩
 replace hS := hS.no c_1
 refine K.q [.int .i64 c.lo] ?_
 refine K.y ((from_ : Int) < (c.lo : Int)) (hh) ?_
 refine K.z (K.t (K.h (K.k (K.t (K.s ?_)))))
 refine K.KW.block ?_
 refine K.s ?_
 refine K.KW.regionY ?_
 refine K.RY.q rfl rfl (K.QR.k (v := .func (.yield l) #[] #[]) (by kernel_rfl)) ?_
 refine K.RY.q rfl rfl (K.QR.k (v := .int .i64 from_) (by kernel_rfl)) ?_
 replace hS : K.Sat w0 [[gl, m'].flatten, g1, g2, fr] w := (hS.pick [2, 3, 0, 1, 4]).of
 refine K.RY.gyield hS 0 [1, 2, 3] [.int .i64 from_] (hY) rfl rfl ?_
 clear hS; intro w m_2 hR_3 hS
 replace hS : K.Sat w0 [m_2, g1, g2, fr] w := hS
 refine K.RY.q rfl rfl (K.QR.k (v := .bool true) (by kernel_rfl)) ?_
 refine K.RY.nil ?_
 refine K.t (K.h (K.r ?_))
 refine K.blk_ret ?_
 refine K.u (K.u ?_)
 refine K.blk_ret ?_
 refine ⟨.inr rfl, rfl, (.tuple #[]), K.res0 rfl, [g1, g2, m_2], ?_, hS.pick [1, 2, 0, 3]⟩
 exact ⟨_, rfl, hR_3⟩
end Go.Proofs.YtbfafebfkdbglaaGreat
