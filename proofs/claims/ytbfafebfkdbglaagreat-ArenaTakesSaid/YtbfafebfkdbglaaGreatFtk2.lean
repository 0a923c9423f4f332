import Derived.Test.YtbfafebfkdbglaaGreatFtk
import Derived.Test.YtbfafebfkdbglaaGreatFlist
/- Arenas: a Take's step, and what it tells; a Give. -/
namespace Go.Proofs.YtbfafebfkdbglaaGreat
open Go.RowKit
set_option linter.unusedVariables false
attribute [local irreducible] K.KW K.RW K.DW K.OW K.QR K.KC
set_option maxHeartbeats 1000000 in
set_option maxRecDepth 100000 in
theorem tkDone_ok (w0 : World) (p b : Nat) (dn : Bool) (f : Value) (pa aa ra : Option Addr) (S : TkS) (gp : K.Cs) (hgp : gp = tkPt p b dn f pa aa ra S) :
  K.GC Tryz.prog w0 35 #[K.pa p] [gp] (fun v post => v = .bool dn ∧ post = [gp]) := by
 refine K.GC.mk (n := 12) Tryz.func35 rfl rfl [K.pa p] rfl rfl ?_
 intro fr w hS
 replace hS : K.Sat w0 [gp, fr] w := hS
 refine K.s (K.g (K.q [.bool false] (K.z (K.t (K.s (K.g (K.q [K.pa p, .bool false, .bool false, K.pa p, K.pa p, K.pa p, .pointer (some ⟨p, 2, none⟩)] ?_)))))))
 refine K.d (.bool dn) ((hS.blk 0 rfl hgp).cell rfl) ?_
 refine K.q [.bool dn, .bool dn] (K.z (K.t (K.r ?_)))
 refine ⟨.inr rfl, rfl, (.bool dn), K.res1 rfl rfl, [gp], ?_, hS.pick [0, 1]⟩
 exact ⟨rfl, rfl⟩
set_option maxHeartbeats 1000000 in
set_option maxRecDepth 100000 in
theorem tkStepG_ok (w0 : World) (p b pm k : Nat) (pa aa ra : Option Addr) (S T : TkS) (Q : Bool → Value → Option Addr → Option Addr → Option Addr → K.Cs → Prop) (gp r : K.Cs) (hgp : gp = tkPt p b false (fnV k p) pa aa ra S) (hcb : K.callable Tryz.prog k = true) (hcall : K.GC Tryz.prog w0 k #[K.pa p, K.pa pm] [gp, r] (fun v post => ∃ dn' f' pa' aa' ra' gp' r', v = .tuple #[] ∧ post = [gp', r'] ∧ gp' = tkPt p b dn' f' pa' aa' ra' T ∧ Q dn' f' pa' aa' ra' r')) :
  K.GC Tryz.prog w0 33 #[K.pa p, K.pa pm] [gp, r] (fun v post => ∃ dn' f' pa' aa' ra' gp' r', v = .bool dn' ∧ post = [gp', r'] ∧ gp' = tkPt p b dn' f' pa' aa' ra' T ∧ Q dn' f' pa' aa' ra' r') := by
 refine K.GC.mk (n := 16) Tryz.func33 rfl rfl [K.pa p, K.pa pm] rfl rfl ?_
 intro fr w hS
 replace hS : K.Sat w0 [gp, r, fr] w := hS
 refine K.s (K.g (K.q [.bool false] (K.z (K.t (K.s (K.s (K.g (K.q [K.pa p] ?_))))))))
 refine K.l (K.OW.gcall hS [0] [1, 2] [K.pa p] (tkDone_ok _ _ _ _ _ _ _ _ S _ hgp) ?_)
 clear hS; rintro _ _ w ⟨rfl, rfl⟩ hS
 replace hS : K.Sat w0 [gp, r, fr] w := hS
 refine K.q [.bool true] (K.z (K.t (K.h (K.g (K.q [K.pa p, K.pa p, .pointer (some ⟨p, 3, none⟩)] ?_)))))
 refine K.d (.func (.func k) [K.pa p].toArray [].toArray) ((hS.blk 0 rfl hgp).cell rfl) ?_
 refine K.q [K.pa pm] ?_
 refine K.l (K.OW.gcallw hS [0, 1] [2] [K.pa p, K.pa pm] hcall ?_ (hf := hcb))
 clear hS; rintro _ _ w ⟨dn_1, f_2, pa_3, aa_4, ra_5, g_6, r_7, rfl, rfl, h_8, k_9⟩ hS
 replace hS : K.Sat w0 [g_6, r_7, fr] w := hS
 refine K.z (K.t (K.s (K.g (K.q [K.pa p] ?_))))
 refine K.l (K.OW.gcall hS [0] [1, 2] [K.pa p] (tkDone_ok _ _ _ _ _ _ _ _ T _ h_8) ?_)
 clear hS; rintro _ _ w ⟨rfl, rfl⟩ hS
 replace hS : K.Sat w0 [g_6, r_7, fr] w := hS
 refine K.q [.bool dn_1] (K.z (K.t (K.r ?_)))
 refine ⟨.inr rfl, rfl, (.bool dn_1), K.res1 rfl rfl, [g_6, r_7], ?_, hS.pick [0, 1, 2]⟩
 exact ⟨_, _, _, _, _, _, _, rfl, rfl, h_8, k_9⟩
set_option maxHeartbeats 1000000 in
set_option maxRecDepth 100000 in
theorem tkStep0_ok (w0 : World) (p b pm : Nat) (f : Value) (pa aa ra : Option Addr) (S : TkS) (gp : K.Cs) (hgp : gp = tkPt p b true f pa aa ra S) :
  K.GC Tryz.prog w0 33 #[K.pa p, K.pa pm] [gp] (fun v post => v = .bool true ∧ post = [gp]) := by
 refine K.GC.mk (n := 16) Tryz.func33 rfl rfl [K.pa p, K.pa pm] rfl rfl ?_
 intro fr w hS
 replace hS : K.Sat w0 [gp, fr] w := hS
 refine K.s (K.g (K.q [.bool false] (K.z (K.t (K.s (K.s (K.g (K.q [K.pa p] ?_))))))))
 refine K.l (K.OW.gcall hS [0] [1] [K.pa p] (tkDone_ok _ _ _ _ _ _ _ _ S _ hgp) ?_)
 clear hS; rintro _ _ w ⟨rfl, rfl⟩ hS
 replace hS : K.Sat w0 [gp, fr] w := hS
 refine K.q [.bool false] (K.z (K.t (K.f (K.k (K.t (K.s (K.g (K.q [K.pa p] ?_))))))))
 refine K.l (K.OW.gcall hS [0] [1] [K.pa p] (tkDone_ok _ _ _ _ _ _ _ _ S _ hgp) ?_)
 clear hS; rintro _ _ w ⟨rfl, rfl⟩ hS
 replace hS : K.Sat w0 [gp, fr] w := hS
 refine K.q [.bool true] (K.z (K.t (K.r ?_)))
 refine ⟨.inr rfl, rfl, (.bool true), K.res1 rfl rfl, [gp], ?_, hS.pick [0, 1]⟩
 exact ⟨rfl, rfl⟩
def TkEl (p b : Nat) (S : TkS) (g : K.Cs) : Prop := ∃ f pa aa ra gp g1 g2, g = [gp, g1, g2].flatten ∧ gp = tkPt p b S.done f pa aa ra S ∧ TkTail p b S f pa aa ra g1 g2
theorem tkPack {w0 : World} {k p b pm q n t : Nat} {c : Cfg} {S : TkS} {M : MemM} {gp g1 g2 gl l : K.Cs} (h : K.GC Tryz.prog w0 k #[K.pa p, K.pa pm] [gp, g1, g2, gl, l] (fun v post => ∃ f' pa' aa' ra' gp' g1' g2' l', v = .tuple #[] ∧ post = [gp', g1', g2', gl, l'] ∧ gp' = tkPt p b (tkStep c n t S M).1.done f' pa' aa' ra' (tkStep c n t S M).1 ∧ TkTail p b (tkStep c n t S M).1 f' pa' aa' ra' g1' g2' ∧ MemAt l' pm q n t (tkStep c n t S M).2)) :
  K.GC Tryz.prog w0 k #[K.pa p, K.pa pm] [gp, [g1, g2, gl, l].flatten] (fun v post => ∃ dn' f' pa' aa' ra' gp' r', v = .tuple #[] ∧ post = [gp', r'] ∧ gp' = tkPt p b dn' f' pa' aa' ra' (tkStep c n t S M).1 ∧ (dn' = (tkStep c n t S M).1.done ∧ ∃ g1' g2' l', r' = [g1', g2', gl, l'].flatten ∧ TkTail p b (tkStep c n t S M).1 f' pa' aa' ra' g1' g2' ∧ MemAt l' pm q n t (tkStep c n t S M).2)) := by
 intro fr w hs
 refine K.KC.mono (h fr w (hs.of (by simp))) ?_
 rintro v w' ⟨post, ⟨f', pa', aa', ra', gp', g1', g2', l', rfl, rfl, h1, h2, h3⟩, hs2⟩
 exact ⟨[gp', [g1', g2', gl, l'].flatten], ⟨_, f', pa', aa', ra', gp', _, rfl, rfl, h1, rfl, g1', g2', l', rfl, h2, h3⟩, hs2.of (by simp)⟩
theorem tkStep_ok (w0 : World) (p b pm q n t : Nat) (c : Cfg) (hc : cfgOk c) (S : TkS) (M : MemM) (g gl l : K.Cs) (h : TkEl p b S g) (hgl : gl = layPt b c) (x : MemAt l pm q n t M) (hM : M.good) (hS : S.good c) :
  K.GC Tryz.prog w0 33 #[K.pa p, K.pa pm] [g, gl, l] (fun v post => ∃ g' l', v = .bool (tkStep c n t S M).1.done ∧ post = [g', gl, l'] ∧ TkEl p b (tkStep c n t S M).1 g' ∧ MemAt l' pm q n t (tkStep c n t S M).2) := by
 obtain ⟨f, pa, aa, ra, gp, g1, g2, rfl, hgp, ht⟩ := h
 have fin : ∀ {k : Nat}, S.done = false → f = fnV k p → K.callable Tryz.prog k = true → K.GC Tryz.prog w0 k #[K.pa p, K.pa pm] [gp, g1, g2, gl, l] (fun v post => ∃ f' pa' aa' ra' gp' g1' g2' l', v = .tuple #[] ∧ post = [gp', g1', g2', gl, l'] ∧ gp' = tkPt p b (tkStep c n t S M).1.done f' pa' aa' ra' (tkStep c n t S M).1 ∧ TkTail p b (tkStep c n t S M).1 f' pa' aa' ra' g1' g2' ∧ MemAt l' pm q n t (tkStep c n t S M).2) →
   K.GC Tryz.prog w0 33 #[K.pa p, K.pa pm] [[gp, g1, g2].flatten, gl, l] (fun v post => ∃ g' l', v = .bool (tkStep c n t S M).1.done ∧ post = [g', gl, l'] ∧ TkEl p b (tkStep c n t S M).1 g' ∧ MemAt l' pm q n t (tkStep c n t S M).2) := fun {k} hd hf hcb hk => by
  intro fr w hs
  refine K.KC.mono (tkStepG_ok w0 p b pm k pa aa ra S _ _ gp [g1, g2, gl, l].flatten (by rw [hgp, hd, hf]) hcb (tkPack hk) fr w (hs.of (by simp))) ?_
  rintro v w' ⟨post, ⟨dn', f', pa', aa', ra', gp', r', rfl, rfl, h1, rfl, g1', g2', l', rfl, h2, h3⟩, hs2⟩
  exact ⟨[[gp', g1', g2'].flatten, gl, l'], ⟨_, l', rfl, rfl, ⟨f', pa', aa', ra', gp', g1', g2', rfl, h1, h2⟩, h3⟩, hs2.of (by simp)⟩
 have nd : ∀ k : Int, S.part = k → ¬ k = 0 → S.done = false := fun k h hk => decide_eq_false (by omega)
 have hgf : ∀ k : Int, S.part = k → ¬ k = 0 → gp = tkPt p b false f pa aa ra S := fun k h hk => by rw [hgp, nd k h hk]
 rcases ht with ⟨hp, hf, ⟨qq, rfl, hg⟩, hr⟩ | ⟨hp, hf, ⟨qq, rfl, hg⟩, hr⟩ | ⟨hp, hf, r, rfl, hr⟩ | ⟨hp, hf, ⟨qq, rfl, hg⟩, hr⟩ | ⟨hp, hf⟩ | ⟨hp, hf⟩ | ⟨hp, hf⟩ | ⟨hp, hf⟩ | ⟨hp, hf⟩ | ⟨hp, hr⟩
 ·exact fin (nd 1 hp (by decide)) hf (by kernel_rfl) (tkPopped_ok w0 p b pm q n t qq aa ra c hc S M gp g1 g2 gl l (by have := hgf 1 hp (by decide); rwa [hf] at this) hg (.inl hp) (.inl ⟨hp, hr⟩) hgl x hM hS)
 ·exact fin (nd 2 hp (by decide)) hf (by kernel_rfl) (tkAdv_ok w0 p b pm q n t qq pa ra c hc S M gp g1 g2 gl l (by have := hgf 2 hp (by decide); rwa [hf] at this) hg hp hr hgl x hM hS)
 ·exact fin (nd 3 hp (by decide)) hf (by kernel_rfl) (tkRec_ok w0 p b pm q n t r pa aa c hc S M gp g1 g2 gl l (by have := hgf 3 hp (by decide); rwa [hf] at this) hr hp hgl x hM hS)
 ·exact fin (nd 4 hp (by decide)) hf (by kernel_rfl) (tkPopped_ok w0 p b pm q n t qq aa ra c hc S M gp g1 g2 gl l (by have := hgf 4 hp (by decide); rwa [hf] at this) hg (.inr hp) (.inr ⟨hp, hr⟩) hgl x hM hS)
 ·exact fin (nd 5 hp (by decide)) hf (by kernel_rfl) (tkP5_ok w0 p b pm q n t pa aa ra c hc S M gp g1 g2 gl l (by have := hgf 5 hp (by decide); rwa [hf] at this) hp hgl x hM hS)
 ·exact fin (nd 6 hp (by decide)) hf (by kernel_rfl) (tkP6_ok w0 p b pm q n t pa aa ra c hc S M gp g1 g2 gl l (by have := hgf 6 hp (by decide); rwa [hf] at this) hp hgl x hM hS)
 ·exact fin (nd 7 hp (by decide)) hf (by kernel_rfl) (tkP7_ok w0 p b pm q n t pa aa ra c hc S M gp g1 g2 gl l (by have := hgf 7 hp (by decide); rwa [hf] at this) hp hgl x hM hS)
 ·exact fin (nd 8 hp (by decide)) hf (by kernel_rfl) (tkP8_ok w0 p b pm q n t pa aa ra c hc S M gp g1 g2 gl l (by have := hgf 8 hp (by decide); rwa [hf] at this) hp hgl x hM hS)
 ·exact fin (nd 9 hp (by decide)) hf (by kernel_rfl) (tkP9_ok w0 p b pm q n t pa aa ra c hc S M gp g1 g2 gl l (by have := hgf 9 hp (by decide); rwa [hf] at this) hp hgl x hM hS)
 ·intro fr w hs
  have hd : S.done = true := decide_eq_true hp
  refine K.KC.mono (tkStep0_ok w0 p b pm f pa aa ra S gp (by rw [hgp, hd]) ([g1, g2, gl, l, fr].flatten) w (hs.of (by simp))) ?_
  rintro v w' ⟨post, ⟨rfl, rfl⟩, hs2⟩
  have e : tkStep c n t S M = (S, M) := tkS0 hp
  exact ⟨[[gp, g1, g2].flatten, gl, l], ⟨_, l, by rw [e, hd], rfl, by rw [e]; exact ⟨f, pa, aa, ra, gp, g1, g2, rfl, hgp, tkT_0 hp hr⟩, by rw [e]; exact x⟩, hs2.of (by simp)⟩
theorem gcWith3 {w0 : World} {f : Nat} {args : Array Value} {a b d : K.Cs} {Q : Value → Prop} (h : K.GC Tryz.prog w0 f args [a] (fun v post => Q v ∧ post = [a])) : K.GC Tryz.prog w0 f args [[a, b, d].flatten] (fun v post => Q v ∧ post = [[a, b, d].flatten]) := by
 intro fr w hs
 refine K.KC.mono (h ([b, d, fr].flatten) w (hs.of (by simp))) ?_
 rintro v w' ⟨post, ⟨hq, rfl⟩, hs2⟩
 exact ⟨_, ⟨hq, rfl⟩, hs2.of (by simp)⟩
theorem gcWith2 {w0 : World} {f : Nat} {args : Array Value} {a b d : K.Cs} {Q : Value → Prop} (h : K.GC Tryz.prog w0 f args [a, d] (fun v post => Q v ∧ post = [a, d])) : K.GC Tryz.prog w0 f args [[a, b, d].flatten] (fun v post => Q v ∧ post = [[a, b, d].flatten]) := by
 intro fr w hs
 have hs1 : K.Sat w0 [a, b, d, fr] w := hs.of (by simp)
 refine K.KC.mono (h ([b, fr].flatten) w ((hs1.pick [0, 2, 1, 3]).of (by simp [K.pick, K.nth]))) ?_
 rintro v w' ⟨post, ⟨hq, rfl⟩, hs2⟩
 have hs3 : K.Sat w0 [a, d, b, fr] w' := hs2.of (by simp)
 exact ⟨_, ⟨hq, rfl⟩, (hs3.pick [0, 2, 1, 3]).of (by simp [K.pick, K.nth])⟩
set_option maxHeartbeats 1000000 in
set_option maxRecDepth 100000 in
theorem tkSlot_ok (w0 : World) (p b : Nat) (f : Value) (pa aa ra : Option Addr) (S : TkS) (gp : K.Cs) (hgp : gp = tkPt p b S.done f pa aa ra S) :
  K.GC Tryz.prog w0 34 #[K.pa p] [gp] (fun v post => v = K.iv (if S.done = true then S.slot else -1) ∧ post = [gp]) := by
 refine K.GC.mk (n := 17) Tryz.func34 rfl rfl [K.pa p] rfl rfl ?_
 intro fr w hS
 replace hS : K.Sat w0 [gp, fr] w := hS
 refine K.s (K.g (K.q [K.iv 0] (K.z (K.t (K.s (K.s (K.g (K.q [K.pa p, .bool false, .bool false, K.pa p, K.pa p, K.pa p, .pointer (some ⟨p, 2, none⟩)] ?_))))))))
 refine K.d (.bool S.done) ((hS.blk 0 rfl hgp).cell rfl) ?_
 cases hb_1 : S.done
 ·
  refine K.q [.bool true, .bool true] (K.z (K.t (K.h (K.s (K.g (K.q [K.iv (-1)] (K.z (K.t (K.r (K.u ?_))))))))))
  refine ⟨.inr rfl, rfl, (K.iv (-1)), K.res1 rfl rfl, [gp], ?_, hS.pick [0, 1]⟩
  exact ⟨by simp [*], rfl⟩
 ·
  refine K.q [.bool false, .bool false] (K.z (K.t (K.f (K.k (K.t (K.s (K.g (K.q [K.pa p, K.pa p, .pointer (some ⟨p, 8, none⟩)] ?_))))))))
  refine K.d (K.iv S.slot) ((hS.blk 0 rfl hgp).cell rfl) ?_
  refine K.q [K.iv S.slot] (K.z (K.t (K.r ?_)))
  refine ⟨.inr rfl, rfl, (K.iv S.slot), K.res1 rfl rfl, [gp], ?_, hS.pick [0, 1]⟩
  exact ⟨by simp [*], rfl⟩
set_option maxHeartbeats 1000000 in
set_option maxRecDepth 100000 in
theorem tkEmpty_ok (w0 : World) (p b : Nat) (f : Value) (pa aa ra : Option Addr) (S : TkS) (gp : K.Cs) (hgp : gp = tkPt p b S.done f pa aa ra S) :
  K.GC Tryz.prog w0 41 #[K.pa p] [gp] (fun v post => v = K.iv S.empty ∧ post = [gp]) := by
 refine K.GC.mk (n := 9) Tryz.func41 rfl rfl [K.pa p] rfl rfl ?_
 intro fr w hS
 replace hS : K.Sat w0 [gp, fr] w := hS
 refine K.s (K.g (K.q [K.iv 0] (K.z (K.t (K.s (K.s (K.g (K.q [K.pa p, .bool false] (K.z (K.t (K.f (K.k (K.t (K.s ?_))))))))))))))
 refine K.g (K.q [K.pa p, K.pa p, .pointer (some ⟨p, 10, none⟩)] ?_)
 refine K.d (K.iv S.empty) ((hS.blk 0 rfl hgp).cell rfl) ?_
 refine K.q [K.iv S.empty] (K.z (K.t (K.r ?_)))
 refine ⟨.inr rfl, rfl, (K.iv S.empty), K.res1 rfl rfl, [gp], ?_, hS.pick [0, 1]⟩
 exact ⟨rfl, rfl⟩
set_option maxHeartbeats 1000000 in
set_option maxRecDepth 100000 in
theorem tkHolds1_ok (w0 : World) (p b : Nat) (f : Value) (pa aa ra : Option Addr) (S : TkS) (gp : K.Cs) (hgp : gp = tkPt p b S.done f pa aa ra S) (hs : ¬ S.slot = -1) :
  K.GC Tryz.prog w0 45 #[K.pa p] [gp] (fun v post => v = K.iv S.slot ∧ post = [gp]) := by
 refine K.GC.mk (n := 21) Tryz.func45 rfl rfl [K.pa p] rfl rfl ?_
 intro fr w hS
 replace hS : K.Sat w0 [gp, fr] w := hS
 refine K.s (K.g (K.q [K.iv 0] (K.z (K.t (K.s ?_)))))
 refine K.KW.block ?_
 refine K.s (K.g (K.q [K.pa p, .bool false, .bool false] (K.z (K.t (K.f (K.s (K.g (K.q [K.pa p, K.pa p, .pointer (some ⟨p, 8, none⟩)] ?_))))))))
 refine K.d (K.iv S.slot) ((hS.blk 0 rfl hgp).cell rfl) ?_
 refine K.yn (S.slot : Int) ((-1) : Int) (hs) ?_
 refine K.q [.bool true] (K.z (K.t (K.h (K.s (K.g (K.q [K.pa p, K.pa p, .pointer (some ⟨p, 8, none⟩)] ?_))))))
 refine K.d (K.iv S.slot) ((hS.blk 0 rfl hgp).cell rfl) ?_
 refine K.q [K.iv S.slot] (K.z (K.t (K.r ?_)))
 refine K.blk_ret ?_
 refine K.u ?_
 refine ⟨.inr rfl, rfl, (K.iv S.slot), K.res1 rfl rfl, [gp], ?_, hS.pick [0, 1]⟩
 exact ⟨rfl, rfl⟩
set_option maxHeartbeats 1000000 in
set_option maxRecDepth 100000 in
theorem tkHolds2_ok (w0 : World) (p b : Nat) (f : Value) (pa aa : Option Addr) (S : TkS) (gp : K.Cs) (hgp : gp = tkPt p b S.done f pa aa none S) (hs : S.slot = -1) :
  K.GC Tryz.prog w0 45 #[K.pa p] [gp] (fun v post => v = K.iv (-1) ∧ post = [gp]) := by
 refine K.GC.mk (n := 21) Tryz.func45 rfl rfl [K.pa p] rfl rfl ?_
 intro fr w hS
 replace hS : K.Sat w0 [gp, fr] w := hS
 refine K.s (K.g (K.q [K.iv 0] (K.z (K.t (K.s ?_)))))
 refine K.KW.block ?_
 refine K.s (K.g (K.q [K.pa p, .bool false, .bool false] (K.z (K.t (K.f (K.s (K.g (K.q [K.pa p, K.pa p, .pointer (some ⟨p, 8, none⟩)] ?_))))))))
 refine K.d (K.iv S.slot) ((hS.blk 0 rfl hgp).cell rfl) ?_
 refine K.xn (S.slot : Int) ((-1) : Int) (hs) ?_
 refine K.q [.bool false] (K.z (K.t (K.f (K.k ?_))))
 refine K.blk_normal ?_
 refine K.t (K.s (K.g (K.q [K.pa p, K.pa p, .pointer (some ⟨p, 6, none⟩)] ?_)))
 refine K.d (.pointer none) ((hS.blk 0 rfl hgp).cell rfl) ?_
 refine K.l (K.OW.gcall hS [] [0, 1] [.pointer none] (recHolds_nil _ ) ?_)
 clear hS; rintro _ _ w ⟨rfl, rfl⟩ hS
 replace hS : K.Sat w0 [gp, fr] w := hS
 refine K.q [K.iv (-1)] (K.z (K.t (K.r ?_)))
 refine ⟨.inr rfl, rfl, (K.iv (-1)), K.res1 rfl rfl, [gp], ?_, hS.pick [0, 1]⟩
 exact ⟨rfl, rfl⟩
set_option maxHeartbeats 1000000 in
set_option maxRecDepth 100000 in
theorem tkHolds3_ok (w0 : World) (p b r : Nat) (f : Value) (pa aa : Option Addr) (S : TkS) (gp : K.Cs) (hgp : gp = tkPt p b S.done f pa aa (some ⟨r, 0, none⟩) S) (g2 : K.Cs) (hg2 : RecEl r b S.rc g2) (hs : S.slot = -1) :
  K.GC Tryz.prog w0 45 #[K.pa p] [gp, g2] (fun v post => v = K.iv (recHolds S.rc) ∧ post = [gp, g2]) := by
 refine K.GC.mk (n := 21) Tryz.func45 rfl rfl [K.pa p] rfl rfl ?_
 intro fr w hS
 replace hS : K.Sat w0 [gp, g2, fr] w := hS
 refine K.s (K.g (K.q [K.iv 0] (K.z (K.t (K.s ?_)))))
 refine K.KW.block ?_
 refine K.s (K.g (K.q [K.pa p, .bool false, .bool false] (K.z (K.t (K.f (K.s (K.g (K.q [K.pa p, K.pa p, .pointer (some ⟨p, 8, none⟩)] ?_))))))))
 refine K.d (K.iv S.slot) ((hS.blk 0 rfl hgp).cell rfl) ?_
 refine K.xn (S.slot : Int) ((-1) : Int) (hs) ?_
 refine K.q [.bool false] (K.z (K.t (K.f (K.k ?_))))
 refine K.blk_normal ?_
 refine K.t (K.s (K.g (K.q [K.pa p, K.pa p, .pointer (some ⟨p, 6, none⟩)] ?_)))
 refine K.d (K.pa r) ((hS.blk 0 rfl hgp).cell rfl) ?_
 refine K.l (K.OW.gcall hS [1] [0, 2] [K.pa r] (recHoldsE_ok _ _ _ S.rc _ hg2) ?_)
 clear hS; rintro _ _ w ⟨rfl, rfl⟩ hS
 replace hS : K.Sat w0 [g2, gp, fr] w := hS
 refine K.q [K.iv (recHolds S.rc)] (K.z (K.t (K.r ?_)))
 refine ⟨.inr rfl, rfl, (K.iv (recHolds S.rc)), K.res1 rfl rfl, [gp, g2], ?_, hS.pick [1, 0, 2]⟩
 exact ⟨rfl, rfl⟩
theorem tkDoneE_ok (w0 : World) (p b : Nat) (S : TkS) (g : K.Cs) (h : TkEl p b S g) : K.GC Tryz.prog w0 35 #[K.pa p] [g] (fun v post => v = .bool S.done ∧ post = [g]) := by
 obtain ⟨f, pa, aa, ra, gp, g1, g2, rfl, hgp, _⟩ := h
 exact gcWith3 (tkDone_ok w0 p b S.done f pa aa ra S gp hgp)
theorem tkSlotE_ok (w0 : World) (p b : Nat) (S : TkS) (g : K.Cs) (h : TkEl p b S g) : K.GC Tryz.prog w0 34 #[K.pa p] [g] (fun v post => v = K.iv (if S.done = true then S.slot else -1) ∧ post = [g]) := by
 obtain ⟨f, pa, aa, ra, gp, g1, g2, rfl, hgp, _⟩ := h
 exact gcWith3 (tkSlot_ok w0 p b f pa aa ra S gp hgp)
theorem tkEmptyE_ok (w0 : World) (p b : Nat) (S : TkS) (g : K.Cs) (h : TkEl p b S g) : K.GC Tryz.prog w0 41 #[K.pa p] [g] (fun v post => v = K.iv S.empty ∧ post = [g]) := by
 obtain ⟨f, pa, aa, ra, gp, g1, g2, rfl, hgp, _⟩ := h
 exact gcWith3 (tkEmpty_ok w0 p b f pa aa ra S gp hgp)
theorem tkHoldsE_ok (w0 : World) (p b : Nat) (c : Cfg) (S : TkS) (g : K.Cs) (h : TkEl p b S g) (hS : S.good c) : K.GC Tryz.prog w0 45 #[K.pa p] [g] (fun v post => v = K.iv (tkHolds S) ∧ post = [g]) := by
 obtain ⟨f, pa, aa, ra, gp, g1, g2, rfl, hgp, ht⟩ := h
 have hn : ¬ S.slot = -1 → K.GC Tryz.prog w0 45 #[K.pa p] [[gp, g1, g2].flatten] (fun v post => v = K.iv (tkHolds S) ∧ post = [[gp, g1, g2].flatten]) := fun hs => by
  unfold tkHolds; rw [if_pos hs]; exact gcWith3 (tkHolds1_ok w0 p b f pa aa ra S gp hgp hs)
 have h0 : S.part = 1 ∨ S.part = 2 → ra = none → K.GC Tryz.prog w0 45 #[K.pa p] [[gp, g1, g2].flatten] (fun v post => v = K.iv (tkHolds S) ∧ post = [[gp, g1, g2].flatten]) := fun hp hr => by
  have hs : S.slot = -1 := hS.sp.1 (by omega)
  subst hr
  unfold tkHolds; rw [if_neg (fun h => h hs), hS.r0 hp]
  exact gcWith3 (tkHolds2_ok w0 p b f pa aa S gp hgp hs)
 have hr : S.slot = -1 → (∃ r, ra = some ⟨r, 0, none⟩ ∧ RecEl r b S.rc g2) → K.GC Tryz.prog w0 45 #[K.pa p] [[gp, g1, g2].flatten] (fun v post => v = K.iv (tkHolds S) ∧ post = [[gp, g1, g2].flatten]) := fun hs ⟨r, hr, hg⟩ => by
  subst hr
  unfold tkHolds; rw [if_neg (fun h => h hs)]
  exact gcWith2 (tkHolds3_ok w0 p b r f pa aa S gp hgp g2 hg hs)
 rcases ht with ⟨hp, _, _, h⟩ | ⟨hp, _, _, h⟩ | ⟨hp, _, h⟩ | ⟨hp, _, _, h⟩ | ⟨hp, _⟩ | ⟨hp, _⟩ | ⟨hp, _⟩ | ⟨hp, _⟩ | ⟨hp, _⟩ | ⟨hp, h⟩
 ·exact h0 (.inl hp) h
 ·exact h0 (.inr hp) h
 ·exact hr (hS.sp.1 (by omega)) h
 ·exact hr (hS.sp.1 (by omega)) h
 ·exact hn (hS.sp.2 (by omega))
 ·exact hn (hS.sp.2 (by omega))
 ·exact hn (hS.sp.2 (by omega))
 ·exact hn (hS.sp.2 (by omega))
 ·exact hn (hS.sp.2 (by omega))
 ·by_cases hs : S.slot = -1
  ·exact hr hs (h.resolve_left (fun h => h hs))
  ·exact hn hs
def tkInit (t : Int) : TkS := ⟨t, 1, false, -1, 0, -1, tkPop0 t, tkAdv0 t, tkRec0 t⟩
theorem tkInit_good {c : Cfg} (hc : cfgOk c) {t : Int} (h : isInt t) : (tkInit t).good c :=
 ⟨h, (by decide : (0 : Int) ≤ 1 ∧ (1 : Int) ≤ 9), by show isInt (-1); omega, isW00, by show isInt (-1); omega, tkPop0_good h, tkAdv0_good h, tkRec0_good hc h, ⟨fun _ => rfl, fun h => by have h : (5 : Int) ≤ 1 := h; omega⟩, ⟨fun _ => rfl, fun h => by have h : (1 : Int) = 2 ∨ (1 : Int) = 3 ∨ (1 : Int) = 4 := h; omega⟩, fun h => by have h : (1 : Int) = 4 ∨ (1 : Int) = 0 ∧ _ := h; omega, fun _ => rfl, fun _ => by show ¬ (0 : Int) = 3; decide⟩
set_option maxHeartbeats 1000000 in
set_option maxRecDepth 100000 in
theorem newtk_ok (w0 : World) (b : Nat) (tt : Int) (htt : isInt tt) :
  K.GC Tryz.prog w0 32 #[K.pa b, K.iv tt] [] (fun v post => ∃ p gp g1, v = K.pa p ∧ post = [gp, g1] ∧ ∃ f pa aa ra, True ∧ gp = tkPt p b false f pa aa ra (tkInit tt) ∧ TkTail p b (tkInit tt) f pa aa ra g1 []) := by
 refine K.GC.mk (n := 14) Tryz.func32 rfl rfl [K.pa b, K.iv tt] rfl rfl ?_
 intro fr w hS
 replace hS : K.Sat w0 [fr] w := hS
 refine K.s (K.g (K.q [.pointer none] (K.z (K.t (K.s (K.g (K.q [K.pa b, K.iv tt] ?_)))))))
 refine K.a (K.QR.bd [(0, K.pa b), (1, K.iv tt)] [K.pa b, K.iv tt, .bool false] rfl rfl (by kernel_rfl)) ?_
 refine K.a (K.QR.bd [(0, .agg #[K.pa b, K.iv tt, .bool false]), (6, K.iv (-1)), (8, K.iv (-1))] [K.pa b, K.iv tt, .bool false, .nilFunc, .pointer none, .pointer none, .pointer none, .bool false, K.iv (-1), .int .u64 0, K.iv (-1)] rfl rfl (by kernel_rfl)) ?_
 refine K.l (K.OW.gnew 168 [K.pa b, K.iv tt, .bool false, .nilFunc, .pointer none, .pointer none, .pointer none, .bool false, K.iv (-1), .int .u64 0, K.iv (-1)] hS ?_)
 clear hS; intro w r_1 g_2 hg_3 hS
 refine K.q [K.pa r_1] (K.z (K.t (K.s ?_)))
 have hSt : isInt (tkInit tt).t := htt
 have hgi : g_2 = tkPt r_1 b false .nilFunc none none none (tkInit tt) := hg_3
 refine K.g (K.q [K.pa r_1] ?_)
 refine K.l (K.OW.gcall hS [0] [1] [K.pa r_1] (tkPops_ok _ _ _ _ _ _ _ _ (tkInit tt) _ hgi hSt) ?_)
 clear hS; rintro _ _ w ⟨g_4, q_5, k_6, rfl, rfl, h_7, e_8⟩ hS
 replace hS : K.Sat w0 [g_4, k_6, fr] w := hS
 refine K.z (K.t (K.s (K.g (K.q [K.pa r_1, K.pa r_1] (K.z (K.t (K.r ?_)))))))
 refine ⟨.inr rfl, rfl, (K.pa r_1), K.res1 rfl rfl, [g_4, k_6], ?_, hS.pick [0, 1, 2]⟩
 exact ⟨_, _, _, rfl, rfl, _, _, _, _, trivial, h_7, .inl ⟨rfl, rfl, ⟨_, rfl, e_8⟩, rfl⟩⟩
theorem newtkE_ok (w0 : World) (b : Nat) (tt : Int) (htt : isInt tt) : K.GC Tryz.prog w0 32 #[K.pa b, K.iv tt] [] (fun v post => ∃ p g, v = K.pa p ∧ post = [g] ∧ TkEl p b (tkInit tt) g) := by
 intro fr w hs
 refine K.KC.mono (newtk_ok w0 b tt htt fr w hs) ?_
 rintro v w' ⟨post, ⟨p, gp, g1, rfl, rfl, f, pa, aa, ra, _, h1, h2⟩, hs2⟩
 exact ⟨[[gp, g1, []].flatten], ⟨p, _, rfl, rfl, f, pa, aa, ra, gp, g1, [], rfl, h1, h2⟩, hs2.of (by simp)⟩
structure GvS where
 t : Int
 part : Int
 slot : Int
 push : PushS
def GvS.done (S : GvS) : Bool := decide (S.part = 0)
structure GvS.good (S : GvS) : Prop where
 t : isInt S.t
 part : S.part = 0 ∨ S.part = 1 ∨ S.part = 2
 slot : isInt S.slot
 push : S.push.good
end Go.Proofs.YtbfafebfkdbglaaGreat
