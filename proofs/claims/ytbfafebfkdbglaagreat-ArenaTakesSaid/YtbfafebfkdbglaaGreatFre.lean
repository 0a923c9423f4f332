import Derived.Test.YtbfafebfkdbglaaGreatFep
import Derived.Test.YtbfafebfkdbglaaGreatFl9
import Derived.Test.YtbfafebfkdbglaaGreatFlist
import Derived.Test.YtbfafebfkdbglaaGreatFlin
import Derived.Test.YtbfafebfkdbglaaGreatFbi2
/- Layer 10: Advance, as it is called. -/
namespace Go.Proofs.YtbfafebfkdbglaaGreat
open Go.RowKit
set_option linter.unusedVariables false
attribute [local irreducible] K.KW K.RW K.DW K.OW K.QR K.KC
set_option maxHeartbeats 1000000 in
set_option maxRecDepth 100000 in
theorem newadv_ok (w0 : World) (b : Nat) (a0 : Int) :
  K.GC Tryz.prog w0 177 #[K.pa b, K.iv a0] [] (fun v post => ∃ p g, v = K.pa p ∧ post = [g] ∧ g = advPt p b ⟨a0, false, 0, 0, 0, false⟩) := by
 refine K.GC.mk (n := 10) Tryz.func177 rfl rfl [K.pa b, K.iv a0] rfl rfl ?_
 intro fr w hS
 replace hS : K.Sat w0 [fr] w := hS
 refine K.s (K.g (K.q [.pointer none] (K.z (K.t (K.s (K.g (K.q [K.pa b, K.iv a0] ?_)))))))
 refine K.a (K.QR.bd [(0, K.pa b), (1, K.iv a0)] [K.pa b, K.iv a0, .bool false] rfl rfl (by kernel_rfl)) ?_
 refine K.a (K.QR.bd [(0, .agg #[K.pa b, K.iv a0, .bool false])] [K.pa b, K.iv a0, .bool false, K.iv 0, .int .u64 0, K.iv 0, .bool false] rfl rfl (by kernel_rfl)) ?_
 refine K.l (K.OW.gnew 249 [K.pa b, K.iv a0, .bool false, K.iv 0, .int .u64 0, K.iv 0, .bool false] hS ?_)
 clear hS; intro w r_1 g_2 hg_3 hS
 refine K.q [K.pa r_1] (K.z (K.t (K.r ?_)))
 refine ⟨.inr rfl, rfl, (K.pa r_1), K.res1 rfl rfl, [g_2], ?_, hS.pick [0, 1]⟩
 exact ⟨_, _, rfl, rfl, hg_3⟩
end Go.Proofs.YtbfafebfkdbglaaGreat

/- Logs: places; the range over entries. -/
namespace Go.Proofs.YtbfafebfkdbglaaGreat
open Go.RowKit
set_option linter.unusedVariables false
attribute [local irreducible] K.KW K.RW K.DW K.OW K.QR K.KC
theorem first_mem : ∀ {l : List Nm} {x : Nm}, x ∈ l → firstT l x < l.length ∧ l.getD (firstT l x) nm0 = x
 | [], x, h => by simp at h
 | y :: l, x, h => by
  by_cases hy : y = x
  ·subst hy
   have : firstT (y :: l) y = 0 := by unfold firstT; rw [List.takeWhile_cons, if_neg (by simp)]; rfl
   rw [this]; exact ⟨by simp, rfl⟩
  ·have hm : x ∈ l := (List.mem_cons.1 h).resolve_left (fun e => hy e.symm)
   obtain ⟨a, b⟩ := first_mem hm
   have : firstT (y :: l) x = firstT l x + 1 := by unfold firstT; rw [List.takeWhile_cons, if_pos (by simpa using hy)]; rfl
   rw [this]; exact ⟨by simpa using a, by simpa using b⟩
theorem at_log {c : Cfg} (hc : cfgOk c) (t n : Int) : atT (lasting c) (passing c) ⟨8, t, n⟩ = logS c t n := by
 have hl := lasting_len hc
 have hnp : ∀ j, j < (passing c).length → ¬ (passing c).getD j nm0 = ⟨8, t, n⟩ := fun j hj e => by
  rw [pass_get hj] at e
  (repeat' split at e) <;> simp at e
 have hp := first_no hnp (Nat.le_refl _)
 by_cases hm : (⟨8, t, n⟩ : Nm) ∈ lasting c
 ·obtain ⟨h1, h2⟩ := first_mem hm
  unfold atT
  rw [if_pos h1]
  exact (told_last hc (n := ⟨8, t, n⟩) (by show (1 : Int) < 8; decide) h1 (by rw [h2]; exact ⟨rfl, rfl, rfl⟩)).symm
 ·have hnl : ∀ j, j < (lasting c).length → ¬ (lasting c).getD j nm0 = ⟨8, t, n⟩ := fun j hj e => hm (by rw [← e]; exact getD_mem hj)
  have h1 := first_no hnl (Nat.le_refl _)
  unfold atT
  rw [h1, if_neg (by omega), hp, if_neg (by omega)]
  have := told_none hc (n := ⟨8, t, n⟩) ⟨by show (5 : Int) ≤ 8; decide, by show (8 : Int) ≤ 17; decide⟩ (fun h => by rcases h with h | h <;> cases h) (fun h => absurd rfl h) hm (not_mem_of (fun j hj e => hnp j hj (nmIs_eq e)))
  exact hl.trans this.symm
theorem log_int {c : Cfg} (hc : cfgOk c) (t n : Int) : isInt (logS c t n) := by
 have hb := lay_bd hc
 unfold cfgOk at hc
 unfold logS wordS
 split
 ·split
  ·have : lsz c * t ≤ 8 * 64 := Int.mul_le_mul (by omega) (by omega) (by omega) (by omega)
   have : 0 ≤ lsz c * t := Int.mul_nonneg (by omega) (by omega)
   omega
  ·omega
 ·omega
set_option maxHeartbeats 1000000 in
set_option maxRecDepth 100000 in
theorem rlog_ok (w0 : World) (c : Cfg) (hc : cfgOk c) (t n : Int) :
  K.GC Tryz.prog w0 144 #[.agg #[K.iv c.th, K.iv c.sl, K.iv c.lo, K.iv c.bu], K.iv t, K.iv n] [] (fun v post => v = K.iv (logS c t n) ∧ post = []) := by
 refine K.GC.mk (n := 12) Tryz.func144 rfl rfl [.agg #[K.iv c.th, K.iv c.sl, K.iv c.lo, K.iv c.bu], K.iv t, K.iv n] rfl rfl ?_
 intro fr w hS
 replace hS : K.Sat w0 [fr] w := hS
 refine K.s (K.g ?_)
 refine K.l (K.OW.gnew 23 [K.iv c.th, K.iv c.sl, K.iv c.lo, K.iv c.bu] hS ?_)
 clear hS; intro w r_1 g_2 hg_3 hS
 refine K.q [K.iv 0] (K.z (K.t (K.s (K.g ?_))))
 refine K.a (K.QR.ldN [K.iv c.th, K.iv c.sl, K.iv c.lo, K.iv c.bu] rfl rfl (by kernel_rfl) (by kernel_rfl) (K.cells (K.cl ((hS.blk 0 rfl hg_3).cell rfl) (K.cl ((hS.blk 0 rfl hg_3).cell rfl) (K.cl ((hS.blk 0 rfl hg_3).cell rfl) (K.cl ((hS.blk 0 rfl hg_3).cell rfl) K.cl0)))))) ?_
 refine K.q [K.iv t, K.iv n] ?_
 refine K.a (K.QR.bd [(0, K.iv 8), (1, K.iv t), (2, K.iv n)] [K.iv 8, K.iv t, K.iv n] rfl rfl (by kernel_rfl)) ?_
 refine K.l (K.OW.gcall hS [] [0, 1] [.agg #[K.iv c.th, K.iv c.sl, K.iv c.lo, K.iv c.bu], .agg #[K.iv 8, K.iv t, K.iv n]] (at_ok _ c (⟨8, t, n⟩ : Nm) (by assumption)) ?_)
 clear hS; rintro _ _ w ⟨rfl, rfl⟩ hS
 replace hS : K.Sat w0 [g_2, fr] w := hS
 refine K.q [K.iv (atT (lasting c) (passing c) (⟨8, t, n⟩ : Nm))] (K.z (K.t (K.r ?_)))
 refine ⟨.inr rfl, rfl, (K.iv (atT (lasting c) (passing c) (⟨8, t, n⟩ : Nm))), K.res1 rfl rfl, [], ?_, hS.pick [1]⟩
 exact ⟨congrArg (Value.int .i64) (at_log hc t n), rfl⟩
set_option maxHeartbeats 1000000 in
set_option maxRecDepth 100000 in
theorem ents_ok (w0 : World) (lb : Nat) (from_ : Int) :
  K.GC Tryz.prog w0 228 #[K.pa lb, K.iv from_] [] (fun v post => ∃ b d g1 g2, v = .func (.func 231) [].toArray [K.pa b, K.pa d].toArray ∧ post = [g1, g2] ∧ g1 = [K.pt b 3 [K.iv from_]] ∧ g2 = [K.pt d 32 [K.pa lb]]) := by
 refine K.GC.mk (n := 6) Tryz.func228 rfl rfl [K.pa lb, K.iv from_] rfl rfl ?_
 intro fr w hS
 replace hS : K.Sat w0 [fr] w := hS
 refine K.s (K.g ?_)
 refine K.l (K.OW.gnew 32 [K.pa lb] hS ?_)
 clear hS; intro w r_1 g_2 hg_3 hS
 refine K.l (K.OW.gnew 3 [K.iv from_] hS ?_)
 clear hS; intro w r_4 g_5 hg_6 hS
 refine K.q [.nilFunc] (K.z (K.t (K.s (K.g ?_))))
 refine K.a (K.QR.fn [] [K.pa r_4, K.pa r_1] rfl rfl rfl) ?_
 refine K.q [.func (.func 231) [].toArray [K.pa r_4, K.pa r_1].toArray] (K.z (K.t (K.r ?_)))
 refine ⟨.inr rfl, rfl, (.func (.func 231) [].toArray [K.pa r_4, K.pa r_1].toArray), K.res1 rfl rfl, [g_5, g_2], ?_, hS.pick [0, 1, 2]⟩
 exact ⟨_, _, _, _, rfl, rfl, hg_6, hg_3⟩
set_option maxHeartbeats 1000000 in
set_option maxRecDepth 100000 in
theorem ents_stop (w0 : World) (l : Nat) (b d lb : Nat) (c : Cfg) (hc : cfgOk c) (from_ : Int) (g1 g2 gl : K.Cs) (h1 : g1 = [K.pt b 3 [K.iv from_]]) (h2 : g2 = [K.pt d 32 [K.pa lb]]) (hgl : gl = layPt lb c) (hh : ¬ from_ < c.lo) :
  K.GC Tryz.prog w0 231 #[.func (.yield l) #[] #[], K.pa b, K.pa d] [g1, g2, gl] (fun _ post => post = [g1, g2, gl]) := by
 refine K.GC.mk (n := 17) Tryz.func231 rfl rfl [.func (.yield l) #[] #[], K.pa b, K.pa d] rfl rfl ?_
 intro fr w hS
 replace hS : K.Sat w0 [g1, g2, gl, fr] w := hS
 refine K.s (K.g ?_)
 refine K.d (K.iv from_) ((hS.blk 0 rfl h1).cell rfl) ?_
 refine K.q [K.iv from_] (K.z (K.t ?_))
 refine K.KW.block ?_
 refine K.KW.unr 0 ?_
 refine K.Unr.zero ?_
 refine K.s (K.s (K.g (K.q [K.iv from_] ?_)))
 refine K.d (K.pa lb) ((hS.blk 1 rfl h2).cell rfl) ?_
 refine K.l (K.OW.kcall hS [K.pa lb] (lConfig _ c  _ (by assumption) (hS.blk 2 rfl hgl)) ?_)
 rintro _ w ⟨rfl, c_1⟩
 replace hS := hS.no c_1
 refine K.q [K.iv c.lo] ?_
 refine K.x ((from_ : Int) < (c.lo : Int)) (hh) ?_
 refine K.z (K.t (K.f ?_))
 refine K.KW.exit ?_
 refine K.thn_exit ?_
 refine K.thn_exit ?_
 refine K.blk_hit ?_
 refine ⟨.inl rfl, rfl, (.tuple #[]), K.res0 rfl, [g1, g2, gl], ?_, hS.pick [0, 1, 2, 3]⟩
 exact rfl
set_option maxHeartbeats 1000000 in
set_option maxRecDepth 100000 in
theorem ents_one (w0 : World) (l : Nat) (b d lb : Nat) (c : Cfg) (hc : cfgOk c) (from_ : Int) (g1 g2 gl : K.Cs) (h1 : g1 = [K.pt b 3 [K.iv from_]]) (h2 : g2 = [K.pt d 32 [K.pa lb]]) (hgl : gl = layPt lb c) (hh : from_ < c.lo) (m m' : K.Cs) (hm : m = [gl, m'].flatten) (R : K.Cs → Prop) (hY : K.YG Tryz.prog w0 l [K.iv from_] false m R) :
  K.GC Tryz.prog w0 231 #[.func (.yield l) #[] #[], K.pa b, K.pa d] [g1, g2, m] (fun _ post => ∃ m', post = [g1, g2, m'] ∧ R m') := by
 refine K.GC.mk (n := 17) Tryz.func231 rfl rfl [.func (.yield l) #[] #[], K.pa b, K.pa d] rfl rfl ?_
 intro fr w hS
 replace hS : K.Sat w0 [g1, g2, m, fr] w := hS
 subst hm
 replace hS : K.Sat w0 [g1, g2, gl, m', fr] w := hS.of
 refine K.s (K.g ?_)
 refine K.d (K.iv from_) ((hS.blk 0 rfl h1).cell rfl) ?_
 refine K.q [K.iv from_] (K.z (K.t ?_))
 refine K.KW.block ?_
 refine K.KW.unr 0 ?_
 refine K.Unr.zero ?_
 refine K.s (K.s (K.g (K.q [K.iv from_] ?_)))
 refine K.d (K.pa lb) ((hS.blk 1 rfl h2).cell rfl) ?_
 refine K.l (K.OW.kcall hS [K.pa lb] (lConfig _ c  _ (by assumption) (hS.blk 2 rfl hgl)) ?_)
 rintro _ w ⟨rfl, c_1⟩
 replace hS := hS.no c_1
 refine K.q [K.iv c.lo] ?_
 refine K.y ((from_ : Int) < (c.lo : Int)) (hh) ?_
 refine K.z (K.t (K.h (K.k (K.t (K.s ?_)))))
 refine K.KW.block ?_
 refine K.s ?_
 refine K.KW.regionY ?_
 refine K.RY.q rfl rfl (K.QR.k (v := .func (.yield l) #[] #[]) (by kernel_rfl)) ?_
 refine K.RY.q rfl rfl (K.QR.k (v := K.iv from_) (by kernel_rfl)) ?_
 replace hS : K.Sat w0 [[gl, m'].flatten, g1, g2, fr] w := (hS.pick [2, 3, 0, 1, 4]).of
 refine K.RY.gyield hS 0 [1, 2, 3] [K.iv from_] (hY) rfl rfl ?_
 clear hS; intro w m_2 hR_3 hS
 replace hS : K.Sat w0 [m_2, g1, g2, fr] w := hS
 refine K.RY.q rfl rfl (K.QR.k (v := .bool true) (by kernel_rfl)) ?_
 refine K.RY.nil ?_
 refine K.t (K.h (K.r ?_))
 refine K.blk_ret ?_
 refine K.u (K.u ?_)
 refine K.blk_ret ?_
 refine ⟨.inr rfl, rfl, (.tuple #[]), K.res0 rfl, [g1, g2, m_2], ?_, hS.pick [1, 2, 0, 3]⟩
 exact ⟨_, rfl, hR_3⟩
end Go.Proofs.YtbfafebfkdbglaaGreat
