import Derived.Test.YtnehocjmgnhhhaaKf
import Derived.Test.YtnehocjmgnhhhaaFhi6
import Derived.Test.YtnehocjmgnhhhaaKn
/- Witness: one step. -/
namespace Go.Proofs.Ytnehocjmgnhhhaa
open Go.RowKit
set_option linter.unusedVariables false
attribute [local irreducible] K.KW K.RW K.DW K.OW K.QR K.KC
def stA (q : Option Addr) (cq : Nat) (s : Option Addr) (cs : Nat) (m : Option Addr) (cm : Nat) (S : StM) : Value := .agg #[.slice q S.q.length cq, .slice s S.s.length cs, .slice m S.m.length cm]
def RdSt (w0 : World) (g : K.Cs) (q s m : Option Addr) (cq : Nat) (S : StM) : Prop := RdU w0 g q S.q ∧ RdU w0 g s S.s ∧ RdP w0 g m S.m ∧ S.q.length ≤ cq
def Grow (w0 : World) (g g' : K.Cs) : Prop := ∀ w, K.Sat w0 [g'] w → K.Sat w0 [g] w
theorem Grow.refl (w0 : World) (g : K.Cs) : Grow w0 g g := fun _ h => h
theorem Grow.trans {w0 : World} {a b c : K.Cs} (h : Grow w0 a b) (h' : Grow w0 b c) : Grow w0 a c := fun w x => h w (h' w x)
theorem Grow.add (w0 : World) (g l : K.Cs) : Grow w0 g [g, l].flatten := fun w h => by
 have h2 : K.Sat w0 [g, l] w := h.of (by simp)
 exact h2.pick [0]
theorem Grow.add2 (w0 : World) (g l : K.Cs) : Grow w0 l [g, l].flatten := fun w h => by
 have h2 : K.Sat w0 [g, l] w := h.of (by simp)
 exact h2.pick [1]
theorem RdSt.mono {w0 : World} {g g' : K.Cs} {q s m : Option Addr} {cq : Nat} {S : StM} (h : RdSt w0 g q s m cq S) (hg : Grow w0 g g') : RdSt w0 g' q s m cq S :=
 ⟨fun w x => h.1 w (hg w x), fun w x => h.2.1 w (hg w x), fun w x => h.2.2.1 w (hg w x), h.2.2.2⟩
def goodS (k : Nat) (S : StM) : Prop := S.q.length ≤ k ∧ S.s.length ≤ k ∧ S.m.length ≤ k ∧ rising S.s ∧ rising (keysP S.m)
theorem goodS.apply {k : Nat} {S : StM} {kind key val : Int} (h : goodS k S) : goodS (k + 1) (applyT S kind key val).1 := by
 obtain ⟨h1, h2, h3, h4, h5⟩ := h
 obtain ⟨a1, a2, a3, a4, a5⟩ := applyT_ok (S := S) (kind := kind) (key := key) (val := val) h4 h5
 exact ⟨by omega, by omega, by omega, a4, a5⟩
theorem goodS.le {k n : Nat} {S : StM} (h : goodS k S) (hn : k ≤ n) : goodS n S := ⟨by have := h.1; omega, by have := h.2.1; omega, by have := h.2.2.1; omega, h.2.2.2⟩
def StpR (w0 : World) (g : K.Cs) (T : StM) (mk : Value → Value) (v : Value) (post : List K.Cs) : Prop :=
 ∃ (q : Option Addr) (cq : Nat) (s : Option Addr) (cs : Nat) (m : Option Addr) (cm : Nat) (g' : K.Cs), post = [g'] ∧ v = mk (stA q cq s cs m cm T) ∧ RdSt w0 g' q s m cq T ∧ Grow w0 g g'
theorem applyK_ok (w0 : World) (q s m : Option Addr) (cq cs cm : Nat) (S : StM) (kind key val : Int) (k : Nat) (hk : k ≤ 1000000) (hg : goodS k S) (g : K.Cs) (x : RdSt w0 g q s m cq S) :
  K.GC Try.prog w0 46 #[stA q cq s cs m cm S, .agg #[K.iv kind, .int .u32 key, .int .u32 val]] [g] (StpR w0 g (applyT S kind key val).1 (fun z => .tuple #[z, .agg #[K.iv (applyT S kind key val).2.1, .int .u32 (applyT S kind key val).2.2]])) := fun fr w hS => by
 obtain ⟨qa, sa, ma⟩ := S
 obtain ⟨x1, x2, x3, hc⟩ := x
 obtain ⟨h1, h2, h3, hr1, hr2⟩ := hg
 simp only at x1 x2 x3 hc h1 h2 h3 hr1 hr2
 refine K.KC.mono (apply_ok q s m cq cs cm qa sa ma kind key val w (by omega) (by omega) (by omega) hr1 hr2 (x1 _ (hS.pick [0])) (x2 _ (hS.pick [0])) (x3 _ (hS.pick [0]))) ?_
 generalize applyT ⟨qa, sa, ma⟩ kind key val = T
 obtain ⟨⟨Tq, Ts, Tm⟩, rk, rv⟩ := T
 rintro v w' ⟨hch, ⟨a', c', rfl, ho, e1, e2⟩ | ⟨a', c', rfl, ho, e1, e2⟩ | ⟨a', c', rfl, ho, e1, e2⟩ | ⟨rfl, e1⟩⟩
 ·obtain ⟨l, hl, hS'⟩ := hS.rnew hch ho (Nat.le_refl _)
  simp only at e1 e2; subst e1 e2
  exact ⟨[[g, l].flatten], ⟨_, _, _, _, _, _, _, rfl, rfl, ⟨fun w h => rdU_own hl rfl w (Grow.add2 w0 g l w h), fun w h => x2 w (Grow.add w0 g l w h), fun w h => x3 w (Grow.add w0 g l w h), hl.le.1⟩, Grow.add w0 g l⟩, (hS'.pick [1, 0, 2]).of (by simp [K.pick, K.nth])⟩
 ·obtain ⟨l, hl, hS'⟩ := hS.rnew hch ho (Nat.le_refl _)
  simp only at e1 e2; subst e1 e2
  exact ⟨[[g, l].flatten], ⟨_, _, _, _, _, _, _, rfl, rfl, ⟨fun w h => x1 w (Grow.add w0 g l w h), fun w h => rdU_own hl rfl w (Grow.add2 w0 g l w h), fun w h => x3 w (Grow.add w0 g l w h), hc⟩, Grow.add w0 g l⟩, (hS'.pick [1, 0, 2]).of (by simp [K.pick, K.nth])⟩
 ·obtain ⟨l, hl, hS'⟩ := hS.rnew hch ho (Nat.le_refl _)
  simp only at e1 e2; subst e1 e2
  exact ⟨[[g, l].flatten], ⟨_, _, _, _, _, _, _, rfl, rfl, ⟨fun w h => x1 w (Grow.add w0 g l w h), fun w h => x2 w (Grow.add w0 g l w h), fun w h => rdP_own hl rfl w (Grow.add2 w0 g l w h), hc⟩, Grow.add w0 g l⟩, (hS'.pick [1, 0, 2]).of (by simp [K.pick, K.nth])⟩
 ·simp only [StM.mk.injEq] at e1
  obtain ⟨rfl, rfl, rfl⟩ := e1
  exact ⟨[g], ⟨_, _, _, _, _, _, _, rfl, rfl, ⟨x1, x2, x3, hc⟩, Grow.refl w0 g⟩, hS.no hch⟩
def alwT (S : StM) (ok key val rk rv : Int) : StM × Bool :=
 if ¬ (1 ≤ ok ∧ ok ≤ 8) then (S, false) else if rk = (applyT S ok key val).2.1 ∧ rv = (applyT S ok key val).2.2 then ((applyT S ok key val).1, true) else if rk = 5 ∧ rv = 0 then (S, true) else (S, false)
def nxtT (S : StM) (c : CallM) : StM × Bool := if c.cr = false then alwT S c.ok c.key c.val c.rk c.rv else ((applyT S c.ok c.key c.val).1, decide ((applyT S c.ok c.key c.val).2.1 = 1))
set_option maxHeartbeats 1000000 in
set_option maxRecDepth 100000 in
theorem mresult_ok (w0 : World) (kd vl : Int) :
  K.GC Try.prog w0 60 #[K.iv kd, .int .u32 vl] [] (fun v post => post = [] ∧ v = .agg #[K.iv kd, .int .u32 vl]) := by
 refine K.GC.mk (n := 8) Try.func60 rfl rfl [K.iv kd, .int .u32 vl] rfl rfl ?_
 intro fr w hS
 replace hS : K.Sat w0 [fr] w := hS
 refine K.s (K.g ?_)
 refine K.l (K.OW.gnew 49 [K.iv 0, .int .u32 0] hS ?_)
 clear hS; intro w r_1 g_2 hg_3 hS
 refine K.z (K.t (K.s (K.g (K.q [K.iv kd, .int .u32 vl] ?_))))
 refine K.a (K.QR.bd [(0, K.iv kd), (1, .int .u32 vl)] [K.iv kd, .int .u32 vl] rfl rfl (by kernel_rfl)) ?_
 refine K.l (K.OW.gst 0 [K.iv kd, .int .u32 vl] _ hS hg_3 ?_)
 clear hS; intro w g_4 hg_5 hS
 replace hS : K.Sat w0 [g_4, fr] w := hS
 refine K.z (K.t (K.r ?_))
 refine ⟨.inr rfl, rfl, (.agg #[K.iv kd, .int .u32 vl]), K.resAt (rs := [.cell 4 49]) [.agg #[K.iv kd, .int .u32 vl]] rfl ⟨⟨_, rfl, K.lvN [K.iv kd, .int .u32 vl] (by kernel_rfl) (by kernel_rfl) (K.cells (K.cl ((hS.blk 0 rfl hg_5).cell rfl) (K.cl ((hS.blk 0 rfl hg_5).cell rfl) K.cl0)))⟩, trivial⟩, [], ?_, hS.pick [1]⟩
 exact ⟨rfl, rfl⟩
set_option maxHeartbeats 4000000 in
set_option maxRecDepth 100000 in
theorem allows_ok (w0 : World) (q s m : Option Addr) (cq cs cm : Nat) (S : StM) (k : Nat) (hk : k ≤ 1000000) (hgd : goodS k S) (g : K.Cs) (x : RdSt w0 g q s m cq S) (ok key val rk rv : Int) :
  K.GC Try.prog w0 45 #[.agg #[.slice q S.q.length cq, .slice s S.s.length cs, .slice m S.m.length cm], .agg #[K.iv ok, .int .u32 key, .int .u32 val], .agg #[K.iv rk, .int .u32 rv]] [g] (StpR w0 g (alwT S ok key val rk rv).1 (fun z => .tuple #[z, .bool (alwT S ok key val rk rv).2])) := by
 refine K.GC.mk (n := 31) Try.func45 rfl rfl [.agg #[.slice q S.q.length cq, .slice s S.s.length cs, .slice m S.m.length cm], .agg #[K.iv ok, .int .u32 key, .int .u32 val], .agg #[K.iv rk, .int .u32 rv]] rfl rfl ?_
 intro fr w hS
 replace hS : K.Sat w0 [g, fr] w := hS
 refine K.s (K.g ?_)
 refine K.l (K.OW.gnew 30 [.slice q S.q.length cq, .slice s S.s.length cs, .slice m S.m.length cm] hS ?_)
 clear hS; intro w r_1 g_2 hg_3 hS
 refine K.l (K.OW.gnew 47 [K.iv ok, .int .u32 key, .int .u32 val] hS ?_)
 clear hS; intro w r_4 g_5 hg_6 hS
 refine K.l (K.OW.gnew 49 [K.iv rk, .int .u32 rv] hS ?_)
 clear hS; intro w r_7 g_8 hg_9 hS
 refine K.l (K.OW.gnew 30 [.slice none 0 0, .slice none 0 0, .slice none 0 0] hS ?_)
 clear hS; intro w r_10 g_11 hg_12 hS
 refine K.q [.bool false] (K.z (K.t (K.s (K.s (K.g (K.q [K.pa r_4] ?_))))))
 refine K.d (K.iv ok) ((hS.blk 2 rfl hg_6).cell rfl) ?_
 refine K.l (K.OW.gcall hS [] [0, 1, 2, 3, 4, 5] [K.iv ok] (kindG_ok _ ok) ?_)
 clear hS; rintro _ _ w ⟨rfl, (⟨h_13, rfl⟩ | ⟨h_14, rfl⟩)⟩ hS
 ·
  replace hS : K.Sat w0 [g_11, g_8, g_5, g_2, g, fr] w := hS
  refine K.q [.bool false] (K.z (K.t (K.f (K.k (K.t (K.s (K.g ?_)))))))
  refine K.a (K.QR.ldN [.slice q S.q.length cq, .slice s S.s.length cs, .slice m S.m.length cm] rfl rfl (by kernel_rfl) (by kernel_rfl) (K.cells (K.cl ((hS.blk 3 rfl hg_3).cell rfl) (K.cl ((hS.blk 3 rfl hg_3).cell rfl) (K.cl ((hS.blk 3 rfl hg_3).cell rfl) K.cl0))))) ?_
  refine K.a (K.QR.ldN [K.iv ok, .int .u32 key, .int .u32 val] rfl rfl (by kernel_rfl) (by kernel_rfl) (K.cells (K.cl ((hS.blk 2 rfl hg_6).cell rfl) (K.cl ((hS.blk 2 rfl hg_6).cell rfl) (K.cl ((hS.blk 2 rfl hg_6).cell rfl) K.cl0))))) ?_
  refine K.l (K.OW.gcall hS [4] [0, 1, 2, 3, 5] [.agg #[.slice q S.q.length cq, .slice s S.s.length cs, .slice m S.m.length cm], .agg #[K.iv ok, .int .u32 key, .int .u32 val]] (applyK_ok _ q s m cq cs cm S ok key val _ (by omega) hgd _ x) ?_)
  clear hS; rintro _ _ w ⟨q_15, cq_16, s_17, cs_18, m_19, cm_20, g_21, rfl, rfl, hx_22, hg_23⟩ hS
  have hr_24 := x.mono hg_23
  replace hS : K.Sat w0 [g_21, g_11, g_8, g_5, g_2, fr] w := hS
  refine K.q [.tuple #[.agg #[.slice q_15 (((applyT S ok key val).1).q.length) cq_16, .slice s_17 (((applyT S ok key val).1).s.length) cs_18, .slice m_19 (((applyT S ok key val).1).m.length) cm_20], .agg #[K.iv ((applyT S ok key val).2.1), .int .u32 ((applyT S ok key val).2.2)]], .agg #[.slice q_15 (((applyT S ok key val).1).q.length) cq_16, .slice s_17 (((applyT S ok key val).1).s.length) cs_18, .slice m_19 (((applyT S ok key val).1).m.length) cm_20], .agg #[K.iv ((applyT S ok key val).2.1), .int .u32 ((applyT S ok key val).2.2)]] ?_
  refine K.l (K.OW.gnew 30 [.slice none 0 0, .slice none 0 0, .slice none 0 0] hS ?_)
  clear hS; intro w r_25 g_26 hg_27 hS
  refine K.l (K.OW.gnew 49 [K.iv 0, .int .u32 0] hS ?_)
  clear hS; intro w r_28 g_29 hg_30 hS
  refine K.l (K.OW.gst 1 [.slice q_15 (((applyT S ok key val).1).q.length) cq_16, .slice s_17 (((applyT S ok key val).1).s.length) cs_18, .slice m_19 (((applyT S ok key val).1).m.length) cm_20] _ hS hg_27 ?_)
  clear hS; intro w g_31 hg_32 hS
  replace hS : K.Sat w0 [g_29, g_31, g_21, g_11, g_8, g_5, g_2, fr] w := hS
  refine K.l (K.OW.gst 0 [K.iv ((applyT S ok key val).2.1), .int .u32 ((applyT S ok key val).2.2)] _ hS hg_30 ?_)
  clear hS; intro w g_33 hg_34 hS
  replace hS : K.Sat w0 [g_33, g_31, g_21, g_11, g_8, g_5, g_2, fr] w := hS
  refine K.z (K.t (K.s (K.s (K.g ?_))))
  refine K.a (K.QR.ldN [K.iv rk, .int .u32 rv] rfl rfl (by kernel_rfl) (by kernel_rfl) (K.cells (K.cl ((hS.blk 4 rfl hg_9).cell rfl) (K.cl ((hS.blk 4 rfl hg_9).cell rfl) K.cl0)))) ?_
  refine K.z (K.t ?_)
  refine K.KW.block ?_
  refine K.s (K.g ?_)
  refine K.a (K.QR.ldN [K.iv ((applyT S ok key val).2.1), .int .u32 ((applyT S ok key val).2.2)] rfl rfl (by kernel_rfl) (by kernel_rfl) (K.cells (K.cl ((hS.blk 0 rfl hg_34).cell rfl) (K.cl ((hS.blk 0 rfl hg_34).cell rfl) K.cl0)))) ?_
  by_cases h_35 : (rk : Int) = (applyT S ok key val).2.1 ∧ (rv : Int) = (applyT S ok key val).2.2
  ·
   refine K.a (K.QR.eqS (by kernel_rfl) rfl rfl rfl (eqRes_t h_35)) ?_
   refine K.q [.bool true] (K.z (K.t (K.h (K.s (K.g ?_)))))
   refine K.a (K.QR.ldN [.slice q_15 (((applyT S ok key val).1).q.length) cq_16, .slice s_17 (((applyT S ok key val).1).s.length) cs_18, .slice m_19 (((applyT S ok key val).1).m.length) cm_20] rfl rfl (by kernel_rfl) (by kernel_rfl) (K.cells (K.cl ((hS.blk 1 rfl hg_32).cell rfl) (K.cl ((hS.blk 1 rfl hg_32).cell rfl) (K.cl ((hS.blk 1 rfl hg_32).cell rfl) K.cl0))))) ?_
   refine K.l (K.OW.gst 3 [.slice q_15 (((applyT S ok key val).1).q.length) cq_16, .slice s_17 (((applyT S ok key val).1).s.length) cs_18, .slice m_19 (((applyT S ok key val).1).m.length) cm_20] _ hS hg_12 ?_)
   clear hS; intro w g_36 hg_37 hS
   replace hS : K.Sat w0 [g_33, g_31, g_21, g_36, g_8, g_5, g_2, fr] w := hS
   refine K.q [.bool true] (K.z (K.t (K.r ?_)))
   refine K.blk_ret ?_
   refine K.u ?_
   have hA : (alwT S ok key val rk rv) = ((applyT S ok key val).1, true) := by unfold alwT; rw [if_neg (fun hh => hh h_13), if_pos h_35]
   rw [hA]
   refine ⟨.inr rfl, rfl, (.tuple #[.agg #[.slice q_15 (((applyT S ok key val).1).q.length) cq_16, .slice s_17 (((applyT S ok key val).1).s.length) cs_18, .slice m_19 (((applyT S ok key val).1).m.length) cm_20], .bool true]), K.resAt (rs := [.cell 6 30, .tmp 7]) [.agg #[.slice q_15 (((applyT S ok key val).1).q.length) cq_16, .slice s_17 (((applyT S ok key val).1).s.length) cs_18, .slice m_19 (((applyT S ok key val).1).m.length) cm_20], .bool true] rfl ⟨⟨_, rfl, K.lvN [.slice q_15 (((applyT S ok key val).1).q.length) cq_16, .slice s_17 (((applyT S ok key val).1).s.length) cs_18, .slice m_19 (((applyT S ok key val).1).m.length) cm_20] (by kernel_rfl) (by kernel_rfl) (K.cells (K.cl ((hS.blk 3 rfl hg_37).cell rfl) (K.cl ((hS.blk 3 rfl hg_37).cell rfl) (K.cl ((hS.blk 3 rfl hg_37).cell rfl) K.cl0))))⟩, rfl, trivial⟩, [g_21], ?_, hS.pick [2, 7]⟩
   exact ⟨q_15, cq_16, s_17, cs_18, m_19, cm_20, _, rfl, rfl, hx_22, ((Grow.refl w0 g).trans hg_23)⟩
  ·
   refine K.a (K.QR.eqS (by kernel_rfl) rfl rfl rfl (eqRes_f h_35)) ?_
   refine K.q [.bool false] (K.z (K.t (K.f (K.s (K.g ?_)))))
   refine K.l (K.OW.gcall hS [] [0, 1, 2, 3, 4, 5, 6, 7] [K.iv 5, .int .u32 0] (mresult_ok _ 5 0) ?_)
   clear hS; rintro _ _ w ⟨rfl, rfl⟩ hS
   replace hS : K.Sat w0 [g_33, g_31, g_21, g_11, g_8, g_5, g_2, fr] w := hS
   by_cases h_38 : (rk : Int) = 5 ∧ (rv : Int) = 0
   ·
    refine K.a (K.QR.eqS (by kernel_rfl) rfl rfl rfl (eqRes_t h_38)) ?_
    refine K.q [.bool true] (K.z (K.t (K.h (K.s (K.g ?_)))))
    refine K.a (K.QR.ldN [.slice q S.q.length cq, .slice s S.s.length cs, .slice m S.m.length cm] rfl rfl (by kernel_rfl) (by kernel_rfl) (K.cells (K.cl ((hS.blk 6 rfl hg_3).cell rfl) (K.cl ((hS.blk 6 rfl hg_3).cell rfl) (K.cl ((hS.blk 6 rfl hg_3).cell rfl) K.cl0))))) ?_
    refine K.l (K.OW.gst 3 [.slice q S.q.length cq, .slice s S.s.length cs, .slice m S.m.length cm] _ hS hg_12 ?_)
    clear hS; intro w g_39 hg_40 hS
    replace hS : K.Sat w0 [g_33, g_31, g_21, g_39, g_8, g_5, g_2, fr] w := hS
    refine K.q [.bool true] (K.z (K.t (K.r ?_)))
    refine K.blk_ret ?_
    refine K.u ?_
    have hA : (alwT S ok key val rk rv) = (S, true) := by unfold alwT; rw [if_neg (fun hh => hh h_13), if_neg h_35, if_pos h_38]
    rw [hA]
    refine ⟨.inr rfl, rfl, (.tuple #[.agg #[.slice q S.q.length cq, .slice s S.s.length cs, .slice m S.m.length cm], .bool true]), K.resAt (rs := [.cell 6 30, .tmp 7]) [.agg #[.slice q S.q.length cq, .slice s S.s.length cs, .slice m S.m.length cm], .bool true] rfl ⟨⟨_, rfl, K.lvN [.slice q S.q.length cq, .slice s S.s.length cs, .slice m S.m.length cm] (by kernel_rfl) (by kernel_rfl) (K.cells (K.cl ((hS.blk 3 rfl hg_40).cell rfl) (K.cl ((hS.blk 3 rfl hg_40).cell rfl) (K.cl ((hS.blk 3 rfl hg_40).cell rfl) K.cl0))))⟩, rfl, trivial⟩, [g_21], ?_, hS.pick [2, 7]⟩
    exact ⟨q, cq, s, cs, m, cm, _, rfl, rfl, hr_24, ((Grow.refl w0 g).trans hg_23)⟩
   ·
    refine K.a (K.QR.eqS (by kernel_rfl) rfl rfl rfl (eqRes_f h_38)) ?_
    refine K.q [.bool false] (K.z (K.t (K.f (K.k ?_))))
    refine K.blk_normal ?_
    refine K.t (K.s (K.g ?_))
    refine K.a (K.QR.ldN [.slice q S.q.length cq, .slice s S.s.length cs, .slice m S.m.length cm] rfl rfl (by kernel_rfl) (by kernel_rfl) (K.cells (K.cl ((hS.blk 6 rfl hg_3).cell rfl) (K.cl ((hS.blk 6 rfl hg_3).cell rfl) (K.cl ((hS.blk 6 rfl hg_3).cell rfl) K.cl0))))) ?_
    refine K.l (K.OW.gst 3 [.slice q S.q.length cq, .slice s S.s.length cs, .slice m S.m.length cm] _ hS hg_12 ?_)
    clear hS; intro w g_41 hg_42 hS
    replace hS : K.Sat w0 [g_33, g_31, g_21, g_41, g_8, g_5, g_2, fr] w := hS
    refine K.q [.bool false] (K.z (K.t (K.r ?_)))
    have hA : (alwT S ok key val rk rv) = (S, false) := by unfold alwT; rw [if_neg (fun hh => hh h_13), if_neg h_35, if_neg h_38]
    rw [hA]
    refine ⟨.inr rfl, rfl, (.tuple #[.agg #[.slice q S.q.length cq, .slice s S.s.length cs, .slice m S.m.length cm], .bool false]), K.resAt (rs := [.cell 6 30, .tmp 7]) [.agg #[.slice q S.q.length cq, .slice s S.s.length cs, .slice m S.m.length cm], .bool false] rfl ⟨⟨_, rfl, K.lvN [.slice q S.q.length cq, .slice s S.s.length cs, .slice m S.m.length cm] (by kernel_rfl) (by kernel_rfl) (K.cells (K.cl ((hS.blk 3 rfl hg_42).cell rfl) (K.cl ((hS.blk 3 rfl hg_42).cell rfl) (K.cl ((hS.blk 3 rfl hg_42).cell rfl) K.cl0))))⟩, rfl, trivial⟩, [g_21], ?_, hS.pick [2, 7]⟩
    exact ⟨q, cq, s, cs, m, cm, _, rfl, rfl, hr_24, ((Grow.refl w0 g).trans hg_23)⟩
 ·
  replace hS : K.Sat w0 [g_11, g_8, g_5, g_2, g, fr] w := hS
  refine K.q [.bool true] (K.z (K.t (K.h (K.s (K.g ?_)))))
  refine K.a (K.QR.ldN [.slice q S.q.length cq, .slice s S.s.length cs, .slice m S.m.length cm] rfl rfl (by kernel_rfl) (by kernel_rfl) (K.cells (K.cl ((hS.blk 3 rfl hg_3).cell rfl) (K.cl ((hS.blk 3 rfl hg_3).cell rfl) (K.cl ((hS.blk 3 rfl hg_3).cell rfl) K.cl0))))) ?_
  refine K.l (K.OW.gst 0 [.slice q S.q.length cq, .slice s S.s.length cs, .slice m S.m.length cm] _ hS hg_12 ?_)
  clear hS; intro w g_43 hg_44 hS
  replace hS : K.Sat w0 [g_43, g_8, g_5, g_2, g, fr] w := hS
  refine K.q [.bool false] (K.z (K.t (K.r (K.u ?_))))
  have hA : (alwT S ok key val rk rv) = (S, false) := by unfold alwT; rw [if_pos h_14]
  rw [hA]
  refine ⟨.inr rfl, rfl, (.tuple #[.agg #[.slice q S.q.length cq, .slice s S.s.length cs, .slice m S.m.length cm], .bool false]), K.resAt (rs := [.cell 6 30, .tmp 7]) [.agg #[.slice q S.q.length cq, .slice s S.s.length cs, .slice m S.m.length cm], .bool false] rfl ⟨⟨_, rfl, K.lvN [.slice q S.q.length cq, .slice s S.s.length cs, .slice m S.m.length cm] (by kernel_rfl) (by kernel_rfl) (K.cells (K.cl ((hS.blk 0 rfl hg_44).cell rfl) (K.cl ((hS.blk 0 rfl hg_44).cell rfl) (K.cl ((hS.blk 0 rfl hg_44).cell rfl) K.cl0))))⟩, rfl, trivial⟩, [g], ?_, hS.pick [4, 5]⟩
  exact ⟨q, cq, s, cs, m, cm, _, rfl, rfl, x, (Grow.refl w0 g)⟩
set_option maxHeartbeats 4000000 in
set_option maxRecDepth 100000 in
theorem next_ok (w0 : World) (q s m : Option Addr) (cq cs cm : Nat) (S : StM) (k : Nat) (hk : k ≤ 1000000) (hgd : goodS k S) (g : K.Cs) (x : RdSt w0 g q s m cq S) (c : CallM) :
  K.GC Try.prog w0 29 #[.agg #[.slice q S.q.length cq, .slice s S.s.length cs, .slice m S.m.length cm], .agg #[K.iv c.th, K.iv c.ok, .int .u32 c.key, .int .u32 c.val, K.iv c.rk, .int .u32 c.rv, K.iv c.beg, K.iv c.en, K.iv c.wh, .bool c.cr, .bool c.kp]] [g] (StpR w0 g (nxtT S c).1 (fun z => .tuple #[z, .bool (nxtT S c).2])) := by
 refine K.GC.mk (n := 30) Try.func29 rfl rfl [.agg #[.slice q S.q.length cq, .slice s S.s.length cs, .slice m S.m.length cm], .agg #[K.iv c.th, K.iv c.ok, .int .u32 c.key, .int .u32 c.val, K.iv c.rk, .int .u32 c.rv, K.iv c.beg, K.iv c.en, K.iv c.wh, .bool c.cr, .bool c.kp]] rfl rfl ?_
 intro fr w hS
 replace hS : K.Sat w0 [g, fr] w := hS
 refine K.s (K.g ?_)
 refine K.l (K.OW.gnew 30 [.slice q S.q.length cq, .slice s S.s.length cs, .slice m S.m.length cm] hS ?_)
 clear hS; intro w r_1 g_2 hg_3 hS
 refine K.l (K.OW.gnew 51 [K.iv c.th, K.iv c.ok, .int .u32 c.key, .int .u32 c.val, K.iv c.rk, .int .u32 c.rv, K.iv c.beg, K.iv c.en, K.iv c.wh, .bool c.cr, .bool c.kp] hS ?_)
 clear hS; intro w r_4 g_5 hg_6 hS
 refine K.l (K.OW.gnew 30 [.slice none 0 0, .slice none 0 0, .slice none 0 0] hS ?_)
 clear hS; intro w r_7 g_8 hg_9 hS
 refine K.q [.bool false] (K.z (K.t (K.s (K.s (K.g (K.q [.pointer (some ⟨r_4, 9, none⟩)] ?_))))))
 refine K.d (.bool c.cr) ((hS.blk 1 rfl hg_6).cell rfl) ?_
 cases hb_10 : c.cr
 ·
  refine K.q [.bool true] (K.z (K.t (K.h (K.s (K.g ?_)))))
  refine K.a (K.QR.ldN [.slice q S.q.length cq, .slice s S.s.length cs, .slice m S.m.length cm] rfl rfl (by kernel_rfl) (by kernel_rfl) (K.cells (K.cl ((hS.blk 2 rfl hg_3).cell rfl) (K.cl ((hS.blk 2 rfl hg_3).cell rfl) (K.cl ((hS.blk 2 rfl hg_3).cell rfl) K.cl0))))) ?_
  refine K.q [.pointer (some ⟨r_4, 1, none⟩)] ?_
  refine K.a (K.QR.ldN [K.iv c.ok, .int .u32 c.key, .int .u32 c.val] rfl rfl (by kernel_rfl) (by kernel_rfl) (K.cells (K.cl ((hS.blk 1 rfl hg_6).cell rfl) (K.cl ((hS.blk 1 rfl hg_6).cell rfl) (K.cl ((hS.blk 1 rfl hg_6).cell rfl) K.cl0))))) ?_
  refine K.q [.pointer (some ⟨r_4, 4, none⟩)] ?_
  refine K.a (K.QR.ldN [K.iv c.rk, .int .u32 c.rv] rfl rfl (by kernel_rfl) (by kernel_rfl) (K.cells (K.cl ((hS.blk 1 rfl hg_6).cell rfl) (K.cl ((hS.blk 1 rfl hg_6).cell rfl) K.cl0)))) ?_
  refine K.l (K.OW.gcall hS [3] [0, 1, 2, 4] [.agg #[.slice q S.q.length cq, .slice s S.s.length cs, .slice m S.m.length cm], .agg #[K.iv c.ok, .int .u32 c.key, .int .u32 c.val], .agg #[K.iv c.rk, .int .u32 c.rv]] (allows_ok _ q s m cq cs cm S _ (by omega) hgd _ x c.ok c.key c.val c.rk c.rv) ?_)
  clear hS; rintro _ _ w ⟨q_11, cq_12, s_13, cs_14, m_15, cm_16, g_17, rfl, rfl, hx_18, hg_19⟩ hS
  have hr_20 := x.mono hg_19
  replace hS : K.Sat w0 [g_17, g_8, g_5, g_2, fr] w := hS
  refine K.q [.agg #[.slice q_11 (((alwT S c.ok c.key c.val c.rk c.rv).1).q.length) cq_12, .slice s_13 (((alwT S c.ok c.key c.val c.rk c.rv).1).s.length) cs_14, .slice m_15 (((alwT S c.ok c.key c.val c.rk c.rv).1).m.length) cm_16], .bool ((alwT S c.ok c.key c.val c.rk c.rv).2)] ?_
  refine K.l (K.OW.gst 1 [.slice q_11 (((alwT S c.ok c.key c.val c.rk c.rv).1).q.length) cq_12, .slice s_13 (((alwT S c.ok c.key c.val c.rk c.rv).1).s.length) cs_14, .slice m_15 (((alwT S c.ok c.key c.val c.rk c.rv).1).m.length) cm_16] _ hS hg_9 ?_)
  clear hS; intro w g_21 hg_22 hS
  replace hS : K.Sat w0 [g_17, g_21, g_5, g_2, fr] w := hS
  refine K.q [.bool ((alwT S c.ok c.key c.val c.rk c.rv).2)] (K.z (K.t (K.r (K.u ?_))))
  have hA : nxtT S c = alwT S c.ok c.key c.val c.rk c.rv := if_pos (by assumption)
  rw [hA]
  refine ⟨.inr rfl, rfl, (.tuple #[.agg #[.slice q_11 (((alwT S c.ok c.key c.val c.rk c.rv).1).q.length) cq_12, .slice s_13 (((alwT S c.ok c.key c.val c.rk c.rv).1).s.length) cs_14, .slice m_15 (((alwT S c.ok c.key c.val c.rk c.rv).1).m.length) cm_16], .bool ((alwT S c.ok c.key c.val c.rk c.rv).2)]), K.resAt (rs := [.cell 4 30, .tmp 5]) [.agg #[.slice q_11 (((alwT S c.ok c.key c.val c.rk c.rv).1).q.length) cq_12, .slice s_13 (((alwT S c.ok c.key c.val c.rk c.rv).1).s.length) cs_14, .slice m_15 (((alwT S c.ok c.key c.val c.rk c.rv).1).m.length) cm_16], .bool ((alwT S c.ok c.key c.val c.rk c.rv).2)] rfl ⟨⟨_, rfl, K.lvN [.slice q_11 (((alwT S c.ok c.key c.val c.rk c.rv).1).q.length) cq_12, .slice s_13 (((alwT S c.ok c.key c.val c.rk c.rv).1).s.length) cs_14, .slice m_15 (((alwT S c.ok c.key c.val c.rk c.rv).1).m.length) cm_16] (by kernel_rfl) (by kernel_rfl) (K.cells (K.cl ((hS.blk 1 rfl hg_22).cell rfl) (K.cl ((hS.blk 1 rfl hg_22).cell rfl) (K.cl ((hS.blk 1 rfl hg_22).cell rfl) K.cl0))))⟩, rfl, trivial⟩, [g_17], ?_, hS.pick [0, 4]⟩
  exact ⟨q_11, cq_12, s_13, cs_14, m_15, cm_16, _, rfl, rfl, hx_18, ((Grow.refl w0 g).trans hg_19)⟩
 ·
  refine K.q [.bool false] (K.z (K.t (K.f (K.k (K.t (K.s (K.g ?_)))))))
  refine K.a (K.QR.ldN [.slice q S.q.length cq, .slice s S.s.length cs, .slice m S.m.length cm] rfl rfl (by kernel_rfl) (by kernel_rfl) (K.cells (K.cl ((hS.blk 2 rfl hg_3).cell rfl) (K.cl ((hS.blk 2 rfl hg_3).cell rfl) (K.cl ((hS.blk 2 rfl hg_3).cell rfl) K.cl0))))) ?_
  refine K.q [.pointer (some ⟨r_4, 1, none⟩)] ?_
  refine K.a (K.QR.ldN [K.iv c.ok, .int .u32 c.key, .int .u32 c.val] rfl rfl (by kernel_rfl) (by kernel_rfl) (K.cells (K.cl ((hS.blk 1 rfl hg_6).cell rfl) (K.cl ((hS.blk 1 rfl hg_6).cell rfl) (K.cl ((hS.blk 1 rfl hg_6).cell rfl) K.cl0))))) ?_
  refine K.l (K.OW.gcall hS [3] [0, 1, 2, 4] [.agg #[.slice q S.q.length cq, .slice s S.s.length cs, .slice m S.m.length cm], .agg #[K.iv c.ok, .int .u32 c.key, .int .u32 c.val]] (applyK_ok _ q s m cq cs cm S c.ok c.key c.val _ (by omega) hgd _ x) ?_)
  clear hS; rintro _ _ w ⟨q_23, cq_24, s_25, cs_26, m_27, cm_28, g_29, rfl, rfl, hx_30, hg_31⟩ hS
  have hr_32 := x.mono hg_31
  replace hS : K.Sat w0 [g_29, g_8, g_5, g_2, fr] w := hS
  refine K.q [.tuple #[.agg #[.slice q_23 (((applyT S c.ok c.key c.val).1).q.length) cq_24, .slice s_25 (((applyT S c.ok c.key c.val).1).s.length) cs_26, .slice m_27 (((applyT S c.ok c.key c.val).1).m.length) cm_28], .agg #[K.iv ((applyT S c.ok c.key c.val).2.1), .int .u32 ((applyT S c.ok c.key c.val).2.2)]], .agg #[.slice q_23 (((applyT S c.ok c.key c.val).1).q.length) cq_24, .slice s_25 (((applyT S c.ok c.key c.val).1).s.length) cs_26, .slice m_27 (((applyT S c.ok c.key c.val).1).m.length) cm_28], .agg #[K.iv ((applyT S c.ok c.key c.val).2.1), .int .u32 ((applyT S c.ok c.key c.val).2.2)]] ?_
  refine K.l (K.OW.gnew 30 [.slice none 0 0, .slice none 0 0, .slice none 0 0] hS ?_)
  clear hS; intro w r_33 g_34 hg_35 hS
  refine K.l (K.OW.gnew 49 [K.iv 0, .int .u32 0] hS ?_)
  clear hS; intro w r_36 g_37 hg_38 hS
  refine K.l (K.OW.gst 1 [.slice q_23 (((applyT S c.ok c.key c.val).1).q.length) cq_24, .slice s_25 (((applyT S c.ok c.key c.val).1).s.length) cs_26, .slice m_27 (((applyT S c.ok c.key c.val).1).m.length) cm_28] _ hS hg_35 ?_)
  clear hS; intro w g_39 hg_40 hS
  replace hS : K.Sat w0 [g_37, g_39, g_29, g_8, g_5, g_2, fr] w := hS
  refine K.l (K.OW.gst 0 [K.iv ((applyT S c.ok c.key c.val).2.1), .int .u32 ((applyT S c.ok c.key c.val).2.2)] _ hS hg_38 ?_)
  clear hS; intro w g_41 hg_42 hS
  replace hS : K.Sat w0 [g_41, g_39, g_29, g_8, g_5, g_2, fr] w := hS
  refine K.z (K.t (K.s ?_))
  refine K.KW.gdrawn [0, 1] hS (by kernel_rfl) ?_
  clear hS; intro w hS
  refine K.m 0 rfl (fun w hS => K.QR.ldN [.slice q_23 (((applyT S c.ok c.key c.val).1).q.length) cq_24, .slice s_25 (((applyT S c.ok c.key c.val).1).s.length) cs_26, .slice m_27 (((applyT S c.ok c.key c.val).1).m.length) cm_28] rfl rfl (by kernel_rfl) (by kernel_rfl) (K.cells (K.cl ((hS.blk 1 rfl hg_40).cell rfl) (K.cl ((hS.blk 1 rfl hg_40).cell rfl) (K.cl ((hS.blk 1 rfl hg_40).cell rfl) K.cl0))))) (hS.pick [0, 1]) ?_
  refine K.p 1 rfl (K.pa r_36) (hS.pick [0, 1]) ?_
  refine K.o_ 2 rfl (K.iv ((applyT S c.ok c.key c.val).2.1)) (fun w hS => ((hS.blk 0 rfl hg_42).cell rfl)) (hS.pick [0, 1]) ?_
  by_cases h_43 : ((applyT S c.ok c.key c.val).2.1 : Int) = (1 : Int)
  ·
   refine K.m 3 rfl (fun w hS => K.QR.nice (v := .bool (((applyT S c.ok c.key c.val).2.1 : Int) == (1 : Int))) (by kernel_rfl) (congrArg Value.bool (beq_iff_eq.2 h_43))) (hS.pick [0, 1]) ?_
   refine K.DW.l 4 rfl (by kernel_rfl) rfl (K.OW.gst 3 [.slice q_23 (((applyT S c.ok c.key c.val).1).q.length) cq_24, .slice s_25 (((applyT S c.ok c.key c.val).1).s.length) cs_26, .slice m_27 (((applyT S c.ok c.key c.val).1).m.length) cm_28] _ hS hg_9 ?_)
   clear hS; intro w g_44 hg_45 hS
   replace hS : K.Sat w0 [g_41, g_39, g_29, g_44, g_5, g_2, fr] w := hS
   refine ⟨.inl (hS.pick [0, 1]), ?_⟩
   refine K.b 5 rfl (.bool true) (hS.pick [0, 1]) ?_
   refine K.DW.done (by kernel_rfl) ?_
   refine K.t (K.r ?_)
   have hA : nxtT S c = ((applyT S c.ok c.key c.val).1, true) := by unfold nxtT; rw [if_neg (by simp_all)]; congr 1; simp_all
   rw [hA]
   refine ⟨.inr rfl, rfl, (.tuple #[.agg #[.slice q_23 (((applyT S c.ok c.key c.val).1).q.length) cq_24, .slice s_25 (((applyT S c.ok c.key c.val).1).s.length) cs_26, .slice m_27 (((applyT S c.ok c.key c.val).1).m.length) cm_28], .bool true]), K.resAt (rs := [.cell 4 30, .tmp 5]) [.agg #[.slice q_23 (((applyT S c.ok c.key c.val).1).q.length) cq_24, .slice s_25 (((applyT S c.ok c.key c.val).1).s.length) cs_26, .slice m_27 (((applyT S c.ok c.key c.val).1).m.length) cm_28], .bool true] rfl ⟨⟨_, rfl, K.lvN [.slice q_23 (((applyT S c.ok c.key c.val).1).q.length) cq_24, .slice s_25 (((applyT S c.ok c.key c.val).1).s.length) cs_26, .slice m_27 (((applyT S c.ok c.key c.val).1).m.length) cm_28] (by kernel_rfl) (by kernel_rfl) (K.cells (K.cl ((hS.blk 3 rfl hg_45).cell rfl) (K.cl ((hS.blk 3 rfl hg_45).cell rfl) (K.cl ((hS.blk 3 rfl hg_45).cell rfl) K.cl0))))⟩, rfl, trivial⟩, [g_29], ?_, hS.pick [2, 6]⟩
   exact ⟨q_23, cq_24, s_25, cs_26, m_27, cm_28, _, rfl, rfl, hx_30, ((Grow.refl w0 g).trans hg_31)⟩
  ·
   refine K.m 3 rfl (fun w hS => K.QR.nice (v := .bool (((applyT S c.ok c.key c.val).2.1 : Int) == (1 : Int))) (by kernel_rfl) (congrArg Value.bool (beq_eq_false_iff_ne.2 h_43))) (hS.pick [0, 1]) ?_
   refine K.DW.l 4 rfl (by kernel_rfl) rfl (K.OW.gst 3 [.slice q_23 (((applyT S c.ok c.key c.val).1).q.length) cq_24, .slice s_25 (((applyT S c.ok c.key c.val).1).s.length) cs_26, .slice m_27 (((applyT S c.ok c.key c.val).1).m.length) cm_28] _ hS hg_9 ?_)
   clear hS; intro w g_46 hg_47 hS
   replace hS : K.Sat w0 [g_41, g_39, g_29, g_46, g_5, g_2, fr] w := hS
   refine ⟨.inl (hS.pick [0, 1]), ?_⟩
   refine K.b 5 rfl (.bool false) (hS.pick [0, 1]) ?_
   refine K.DW.done (by kernel_rfl) ?_
   refine K.t (K.r ?_)
   have hA : nxtT S c = ((applyT S c.ok c.key c.val).1, false) := by unfold nxtT; rw [if_neg (by simp_all)]; congr 1; simp_all
   rw [hA]
   refine ⟨.inr rfl, rfl, (.tuple #[.agg #[.slice q_23 (((applyT S c.ok c.key c.val).1).q.length) cq_24, .slice s_25 (((applyT S c.ok c.key c.val).1).s.length) cs_26, .slice m_27 (((applyT S c.ok c.key c.val).1).m.length) cm_28], .bool false]), K.resAt (rs := [.cell 4 30, .tmp 5]) [.agg #[.slice q_23 (((applyT S c.ok c.key c.val).1).q.length) cq_24, .slice s_25 (((applyT S c.ok c.key c.val).1).s.length) cs_26, .slice m_27 (((applyT S c.ok c.key c.val).1).m.length) cm_28], .bool false] rfl ⟨⟨_, rfl, K.lvN [.slice q_23 (((applyT S c.ok c.key c.val).1).q.length) cq_24, .slice s_25 (((applyT S c.ok c.key c.val).1).s.length) cs_26, .slice m_27 (((applyT S c.ok c.key c.val).1).m.length) cm_28] (by kernel_rfl) (by kernel_rfl) (K.cells (K.cl ((hS.blk 3 rfl hg_47).cell rfl) (K.cl ((hS.blk 3 rfl hg_47).cell rfl) (K.cl ((hS.blk 3 rfl hg_47).cell rfl) K.cl0))))⟩, rfl, trivial⟩, [g_29], ?_, hS.pick [2, 6]⟩
   exact ⟨q_23, cq_24, s_25, cs_26, m_27, cm_28, _, rfl, rfl, hx_30, ((Grow.refl w0 g).trans hg_31)⟩
end Go.Proofs.Ytnehocjmgnhhhaa
