import Derived.Test.YtbfafebfkdbglaaGreatFtk
import Derived.Test.YtbfafebfkdbglaaGreatKn
/- Arenas: a Take's step, and what it tells; a Give. -/
namespace Go.Proofs.YtbfafebfkdbglaaGreat
open Go.RowKit
set_option linter.unusedVariables false
attribute [local irreducible] K.KW K.RW K.DW K.OW K.QR K.KC
set_option maxHeartbeats 1000000 in
set_option maxRecDepth 100000 in
theorem tkDone_ok (w0 : World) (p b : Nat) (dn : Bool) (f : Value) (pa aa ra : Option Addr) (S : TkS) (gp : K.Cs) (hgp : gp = tkPt p b dn f pa aa ra S) :
  K.GC Tryz.prog w0 35 #[.pointer (some ⟨p, 0, none⟩)] [gp] (fun v post => v = .bool dn ∧ post = [gp]) := by
 refine K.GC.mk (n := 12) Tryz.func35 rfl rfl [.pointer (some ⟨p, 0, none⟩)] rfl rfl ?_
 intro fr w hS
 replace hS : K.Sat w0 [gp, fr] w := hS
 refine K.s (K.g (K.q [.bool false] (K.z (K.t (K.s (K.g (K.q [.pointer (some ⟨p, 0, none⟩), .bool false, .bool false, .pointer (some ⟨p, 0, none⟩), .pointer (some ⟨p, 0, none⟩), .pointer (some ⟨p, 0, none⟩), .pointer (some ⟨p, 2, none⟩)] ?_)))))))
 refine K.d (.bool dn) ((hS.blk 0 rfl hgp).cell rfl) ?_
 refine K.q [.bool dn, .bool dn] (K.z (K.t (K.r ?_)))
 refine ⟨.inr rfl, rfl, (.bool dn), K.res1 rfl rfl, [gp], ?_, hS.pick [0, 1]⟩
 exact ⟨rfl, rfl⟩
set_option maxHeartbeats 1000000 in
set_option maxRecDepth 100000 in
theorem tkStepG_ok (w0 : World) (p b pm k : Nat) (pa aa ra : Option Addr) (S T : TkS) (Q : Bool → Value → Option Addr → Option Addr → Option Addr → K.Cs → Prop) (gp r : K.Cs) (hgp : gp = tkPt p b false (fnV k p) pa aa ra S) (hcb : K.callable Tryz.prog k = true) (hcall : K.GC Tryz.prog w0 k #[.pointer (some ⟨p, 0, none⟩), .pointer (some ⟨pm, 0, none⟩)] [gp, r] (fun v post => ∃ dn' f' pa' aa' ra' gp' r', v = .tuple #[] ∧ post = [gp', r'] ∧ gp' = tkPt p b dn' f' pa' aa' ra' T ∧ Q dn' f' pa' aa' ra' r')) :
  K.GC Tryz.prog w0 33 #[.pointer (some ⟨p, 0, none⟩), .pointer (some ⟨pm, 0, none⟩)] [gp, r] (fun v post => ∃ dn' f' pa' aa' ra' gp' r', v = .bool dn' ∧ post = [gp', r'] ∧ gp' = tkPt p b dn' f' pa' aa' ra' T ∧ Q dn' f' pa' aa' ra' r') := by
 refine K.GC.mk (n := 16) Tryz.func33 rfl rfl [.pointer (some ⟨p, 0, none⟩), .pointer (some ⟨pm, 0, none⟩)] rfl rfl ?_
 intro fr w hS
 replace hS : K.Sat w0 [gp, r, fr] w := hS
 refine K.s (K.g (K.q [.bool false] (K.z (K.t (K.s (K.s (K.g (K.q [.pointer (some ⟨p, 0, none⟩)] ?_))))))))
 refine K.l (K.OW.gcall hS [0] [1, 2] [.pointer (some ⟨p, 0, none⟩)] (tkDone_ok _ _ _ _ _ _ _ _ S _ hgp) ?_)
 clear hS; rintro _ _ w ⟨rfl, rfl⟩ hS
 replace hS : K.Sat w0 [gp, r, fr] w := hS
 refine K.q [.bool true] (K.z (K.t (K.h (K.g (K.q [.pointer (some ⟨p, 0, none⟩), .pointer (some ⟨p, 0, none⟩), .pointer (some ⟨p, 3, none⟩)] ?_)))))
 refine K.d (.func (.func k) [.pointer (some ⟨p, 0, none⟩)].toArray [].toArray) ((hS.blk 0 rfl hgp).cell rfl) ?_
 refine K.q [.pointer (some ⟨pm, 0, none⟩)] ?_
 refine K.l (K.OW.gcallw hS [0, 1] [2] [.pointer (some ⟨p, 0, none⟩), .pointer (some ⟨pm, 0, none⟩)] hcall ?_ (hf := hcb))
 clear hS; rintro _ _ w ⟨dn_1, f_2, pa_3, aa_4, ra_5, g_6, r_7, rfl, rfl, h_8, k_9⟩ hS
 replace hS : K.Sat w0 [g_6, r_7, fr] w := hS
 refine K.z (K.t (K.s (K.g (K.q [.pointer (some ⟨p, 0, none⟩)] ?_))))
 refine K.l (K.OW.gcall hS [0] [1, 2] [.pointer (some ⟨p, 0, none⟩)] (tkDone_ok _ _ _ _ _ _ _ _ T _ h_8) ?_)
 clear hS; rintro _ _ w ⟨rfl, rfl⟩ hS
 replace hS : K.Sat w0 [g_6, r_7, fr] w := hS
 refine K.q [.bool dn_1] (K.z (K.t (K.r ?_)))
 refine ⟨.inr rfl, rfl, (.bool dn_1), K.res1 rfl rfl, [g_6, r_7], ?_, hS.pick [0, 1, 2]⟩
 exact ⟨_, _, _, _, _, _, _, rfl, rfl, h_8, k_9⟩
set_option maxHeartbeats 1000000 in
set_option maxRecDepth 100000 in
theorem tkStep0_ok (w0 : World) (p b pm : Nat) (f : Value) (pa aa ra : Option Addr) (S : TkS) (gp : K.Cs) (hgp : gp = tkPt p b true f pa aa ra S) :
  K.GC Tryz.prog w0 33 #[.pointer (some ⟨p, 0, none⟩), .pointer (some ⟨pm, 0, none⟩)] [gp] (fun v post => v = .bool true ∧ post = [gp]) := by
 refine K.GC.mk (n := 16) Tryz.func33 rfl rfl [.pointer (some ⟨p, 0, none⟩), .pointer (some ⟨pm, 0, none⟩)] rfl rfl ?_
 intro fr w hS
 replace hS : K.Sat w0 [gp, fr] w := hS
 refine K.s (K.g (K.q [.bool false] (K.z (K.t (K.s (K.s (K.g (K.q [.pointer (some ⟨p, 0, none⟩)] ?_))))))))
 refine K.l (K.OW.gcall hS [0] [1] [.pointer (some ⟨p, 0, none⟩)] (tkDone_ok _ _ _ _ _ _ _ _ S _ hgp) ?_)
 clear hS; rintro _ _ w ⟨rfl, rfl⟩ hS
 replace hS : K.Sat w0 [gp, fr] w := hS
 refine K.q [.bool false] (K.z (K.t (K.f (K.k (K.t (K.s (K.g (K.q [.pointer (some ⟨p, 0, none⟩)] ?_))))))))
 refine K.l (K.OW.gcall hS [0] [1] [.pointer (some ⟨p, 0, none⟩)] (tkDone_ok _ _ _ _ _ _ _ _ S _ hgp) ?_)
 clear hS; rintro _ _ w ⟨rfl, rfl⟩ hS
 replace hS : K.Sat w0 [gp, fr] w := hS
 refine K.q [.bool true] (K.z (K.t (K.r ?_)))
 refine ⟨.inr rfl, rfl, (.bool true), K.res1 rfl rfl, [gp], ?_, hS.pick [0, 1]⟩
 exact ⟨rfl, rfl⟩
def TkEl (p b : Nat) (S : TkS) (g : K.Cs) : Prop := ∃ f pa aa ra gp g1 g2, g = [gp, g1, g2].flatten ∧ gp = tkPt p b S.done f pa aa ra S ∧ TkTail p b S f pa aa ra g1 g2
theorem tkPack {w0 : World} {k p b pm q n t : Nat} {c : Cfg} {S : TkS} {M : MemM} {gp g1 g2 gl l : K.Cs} (h : K.GC Tryz.prog w0 k #[.pointer (some ⟨p, 0, none⟩), .pointer (some ⟨pm, 0, none⟩)] [gp, g1, g2, gl, l] (fun v post => ∃ f' pa' aa' ra' gp' g1' g2' l', v = .tuple #[] ∧ post = [gp', g1', g2', gl, l'] ∧ gp' = tkPt p b (tkStep c n t S M).1.done f' pa' aa' ra' (tkStep c n t S M).1 ∧ TkTail p b (tkStep c n t S M).1 f' pa' aa' ra' g1' g2' ∧ MemAt l' pm q n t (tkStep c n t S M).2)) :
  K.GC Tryz.prog w0 k #[.pointer (some ⟨p, 0, none⟩), .pointer (some ⟨pm, 0, none⟩)] [gp, [g1, g2, gl, l].flatten] (fun v post => ∃ dn' f' pa' aa' ra' gp' r', v = .tuple #[] ∧ post = [gp', r'] ∧ gp' = tkPt p b dn' f' pa' aa' ra' (tkStep c n t S M).1 ∧ (dn' = (tkStep c n t S M).1.done ∧ ∃ g1' g2' l', r' = [g1', g2', gl, l'].flatten ∧ TkTail p b (tkStep c n t S M).1 f' pa' aa' ra' g1' g2' ∧ MemAt l' pm q n t (tkStep c n t S M).2)) := by
 intro fr w hs
 refine K.KC.mono (h fr w (hs.of (by simp))) ?_
 rintro v w' ⟨post, ⟨f', pa', aa', ra', gp', g1', g2', l', rfl, rfl, h1, h2, h3⟩, hs2⟩
 exact ⟨[gp', [g1', g2', gl, l'].flatten], ⟨_, f', pa', aa', ra', gp', _, rfl, rfl, h1, rfl, g1', g2', l', rfl, h2, h3⟩, hs2.of (by simp)⟩
theorem tkStep_ok (w0 : World) (p b pm q n t : Nat) (c : Cfg) (hc : cfgOk c) (S : TkS) (M : MemM) (g gl l : K.Cs) (h : TkEl p b S g) (hgl : gl = layPt b c) (x : MemAt l pm q n t M) (hM : M.good) (hS : S.good c) :
  K.GC Tryz.prog w0 33 #[.pointer (some ⟨p, 0, none⟩), .pointer (some ⟨pm, 0, none⟩)] [g, gl, l] (fun v post => ∃ g' l', v = .bool (tkStep c n t S M).1.done ∧ post = [g', gl, l'] ∧ TkEl p b (tkStep c n t S M).1 g' ∧ MemAt l' pm q n t (tkStep c n t S M).2) := by
 obtain ⟨f, pa, aa, ra, gp, g1, g2, rfl, hgp, ht⟩ := h
 have fin : ∀ {k : Nat}, S.done = false → f = fnV k p → K.callable Tryz.prog k = true → K.GC Tryz.prog w0 k #[.pointer (some ⟨p, 0, none⟩), .pointer (some ⟨pm, 0, none⟩)] [gp, g1, g2, gl, l] (fun v post => ∃ f' pa' aa' ra' gp' g1' g2' l', v = .tuple #[] ∧ post = [gp', g1', g2', gl, l'] ∧ gp' = tkPt p b (tkStep c n t S M).1.done f' pa' aa' ra' (tkStep c n t S M).1 ∧ TkTail p b (tkStep c n t S M).1 f' pa' aa' ra' g1' g2' ∧ MemAt l' pm q n t (tkStep c n t S M).2) →
   K.GC Tryz.prog w0 33 #[.pointer (some ⟨p, 0, none⟩), .pointer (some ⟨pm, 0, none⟩)] [[gp, g1, g2].flatten, gl, l] (fun v post => ∃ g' l', v = .bool (tkStep c n t S M).1.done ∧ post = [g', gl, l'] ∧ TkEl p b (tkStep c n t S M).1 g' ∧ MemAt l' pm q n t (tkStep c n t S M).2) := fun {k} hd hf hcb hk => by
  intro fr w hs
  refine K.KC.mono (tkStepG_ok w0 p b pm k pa aa ra S _ _ gp [g1, g2, gl, l].flatten (by rw [hgp, hd, hf]) hcb (tkPack hk) fr w (hs.of (by simp))) ?_
  rintro v w' ⟨post, ⟨dn', f', pa', aa', ra', gp', r', rfl, rfl, h1, rfl, g1', g2', l', rfl, h2, h3⟩, hs2⟩
  exact ⟨[[gp', g1', g2'].flatten, gl, l'], ⟨_, l', rfl, rfl, ⟨f', pa', aa', ra', gp', g1', g2', rfl, h1, h2⟩, h3⟩, hs2.of (by simp)⟩
 have nd : ∀ k : Int, S.part = k → ¬ k = 0 → S.done = false := fun k h hk => decide_eq_false (by omega)
 have hgf : ∀ k : Int, S.part = k → ¬ k = 0 → gp = tkPt p b false f pa aa ra S := fun k h hk => by rw [hgp, nd k h hk]
 rcases ht with ⟨hp, hf, ⟨qq, rfl, hg⟩, hr⟩ | ⟨hp, hf, ⟨qq, rfl, hg⟩, hr⟩ | ⟨hp, hf, r, rfl, hr⟩ | ⟨hp, hf, ⟨qq, rfl, hg⟩, hr⟩ | ⟨hp, hf⟩ | ⟨hp, hf⟩ | ⟨hp, hf⟩ | ⟨hp, hf⟩ | ⟨hp, hf⟩ | ⟨hp, hr⟩
 ·exact fin (nd 1 hp (by decide)) hf (by kernel_rfl) (tkPopped_ok w0 p b pm q n t qq aa ra c hc S M gp g1 g2 gl l (by have := hgf 1 hp (by decide); rwa [hf] at this) hg (.inl hp) (.inl ⟨hp, hr⟩) hgl x hM hS)
 ·exact fin (nd 2 hp (by decide)) hf (by kernel_rfl) (tkAdv_ok w0 p b pm q n t qq pa ra c hc S M gp g1 g2 gl l (by have := hgf 2 hp (by decide); rwa [hf] at this) hg hp hr hgl x hM hS)
 ·exact fin (nd 3 hp (by decide)) hf (by kernel_rfl) (tkRec_ok w0 p b pm q n t r pa aa c hc S M gp g1 g2 gl l (by have := hgf 3 hp (by decide); rwa [hf] at this) hr hp hgl x hM hS)
 ·exact fin (nd 4 hp (by decide)) hf (by kernel_rfl) (tkPopped_ok w0 p b pm q n t qq aa ra c hc S M gp g1 g2 gl l (by have := hgf 4 hp (by decide); rwa [hf] at this) hg (.inr hp) (.inr ⟨hp, hr⟩) hgl x hM hS)
 ·exact fin (nd 5 hp (by decide)) hf (by kernel_rfl) (tkP5_ok w0 p b pm q n t pa aa ra c hc S M gp g1 g2 gl l (by have := hgf 5 hp (by decide); rwa [hf] at this) hp hgl x hM hS)
 ·exact fin (nd 6 hp (by decide)) hf (by kernel_rfl) (tkP6_ok w0 p b pm q n t pa aa ra c hc S M gp g1 g2 gl l (by have := hgf 6 hp (by decide); rwa [hf] at this) hp hgl x hM hS)
 ·exact fin (nd 7 hp (by decide)) hf (by kernel_rfl) (tkP7_ok w0 p b pm q n t pa aa ra c hc S M gp g1 g2 gl l (by have := hgf 7 hp (by decide); rwa [hf] at this) hp hgl x hM hS)
 ·exact fin (nd 8 hp (by decide)) hf (by kernel_rfl) (tkP8_ok w0 p b pm q n t pa aa ra c hc S M gp g1 g2 gl l (by have := hgf 8 hp (by decide); rwa [hf] at this) hp hgl x hM hS)
 ·exact fin (nd 9 hp (by decide)) hf (by kernel_rfl) (tkP9_ok w0 p b pm q n t pa aa ra c hc S M gp g1 g2 gl l (by have := hgf 9 hp (by decide); rwa [hf] at this) hp hgl x hM hS)
 ·intro fr w hs
  have hd : S.done = true := decide_eq_true hp
  refine K.KC.mono (tkStep0_ok w0 p b pm f pa aa ra S gp (by rw [hgp, hd]) ([g1, g2, gl, l, fr].flatten) w (hs.of (by simp))) ?_
  rintro v w' ⟨post, ⟨rfl, rfl⟩, hs2⟩
  have e : tkStep c n t S M = (S, M) := tkS0 hp
  exact ⟨[[gp, g1, g2].flatten, gl, l], ⟨_, l, by rw [e, hd], rfl, by rw [e]; exact ⟨f, pa, aa, ra, gp, g1, g2, rfl, hgp, tkT_0 hp hr⟩, by rw [e]; exact x⟩, hs2.of (by simp)⟩
theorem gcWith3 {w0 : World} {f : Nat} {args : Array Value} {a b d : K.Cs} {Q : Value → Prop} (h : K.GC Tryz.prog w0 f args [a] (fun v post => Q v ∧ post = [a])) : K.GC Tryz.prog w0 f args [[a, b, d].flatten] (fun v post => Q v ∧ post = [[a, b, d].flatten]) := by
 intro fr w hs
 refine K.KC.mono (h ([b, d, fr].flatten) w (hs.of (by simp))) ?_
 rintro v w' ⟨post, ⟨hq, rfl⟩, hs2⟩
 exact ⟨_, ⟨hq, rfl⟩, hs2.of (by simp)⟩
theorem gcWith2 {w0 : World} {f : Nat} {args : Array Value} {a b d : K.Cs} {Q : Value → Prop} (h : K.GC Tryz.prog w0 f args [a, d] (fun v post => Q v ∧ post = [a, d])) : K.GC Tryz.prog w0 f args [[a, b, d].flatten] (fun v post => Q v ∧ post = [[a, b, d].flatten]) := by
 intro fr w hs
 have hs1 : K.Sat w0 [a, b, d, fr] w := hs.of (by simp)
 refine K.KC.mono (h ([b, fr].flatten) w ((hs1.pick [0, 2, 1, 3]).of (by simp [K.pick, K.nth]))) ?_
 rintro v w' ⟨post, ⟨hq, rfl⟩, hs2⟩
 have hs3 : K.Sat w0 [a, d, b, fr] w' := hs2.of (by simp)
 exact ⟨_, ⟨hq, rfl⟩, (hs3.pick [0, 2, 1, 3]).of (by simp [K.pick, K.nth])⟩
set_option maxHeartbeats 1000000 in
set_option maxRecDepth 100000 in
theorem tkSlot_ok (w0 : World) (p b : Nat) (f : Value) (pa aa ra : Option Addr) (S : TkS) (gp : K.Cs) (hgp : gp = tkPt p b S.done f pa aa ra S) :
  K.GC Tryz.prog w0 34 #[.pointer (some ⟨p, 0, none⟩)] [gp] (fun v post => v = .int .i64 (if S.done = true then S.slot else -1) ∧ post = [gp]) := by
 refine K.GC.mk (n := 17) Tryz.func34 rfl rfl [.pointer (some ⟨p, 0, none⟩)] rfl rfl ?_
 intro fr w hS
 replace hS : K.Sat w0 [gp, fr] w := hS
 refine K.s (K.g (K.q [.int .i64 0] (K.z (K.t (K.s (K.s (K.g (K.q [.pointer (some ⟨p, 0, none⟩), .bool false, .bool false, .pointer (some ⟨p, 0, none⟩), .pointer (some ⟨p, 0, none⟩), .pointer (some ⟨p, 0, none⟩), .pointer (some ⟨p, 2, none⟩)] ?_))))))))
 refine K.d (.bool S.done) ((hS.blk 0 rfl hgp).cell rfl) ?_
 cases hb_1 : S.done
 ·
  refine K.q [.bool true, .bool true] (K.z (K.t (K.h (K.s (K.g (K.q [.int .i64 (-1)] (K.z (K.t (K.r (K.u ?_))))))))))
  refine ⟨.inr rfl, rfl, (.int .i64 (-1)), K.res1 rfl rfl, [gp], ?_, hS.pick [0, 1]⟩
  exact ⟨by simp [*], rfl⟩
 ·
  refine K.q [.bool false, .bool false] (K.z (K.t (K.f (K.k (K.t (K.s (K.g (K.q [.pointer (some ⟨p, 0, none⟩), .pointer (some ⟨p, 0, none⟩), .pointer (some ⟨p, 8, none⟩)] ?_))))))))
  refine K.d (.int .i64 S.slot) ((hS.blk 0 rfl hgp).cell rfl) ?_
  refine K.q [.int .i64 S.slot] (K.z (K.t (K.r ?_)))
  refine ⟨.inr rfl, rfl, (.int .i64 S.slot), K.res1 rfl rfl, [gp], ?_, hS.pick [0, 1]⟩
  exact ⟨by simp [*], rfl⟩
set_option maxHeartbeats 1000000 in
set_option maxRecDepth 100000 in
theorem tkEmpty_ok (w0 : World) (p b : Nat) (f : Value) (pa aa ra : Option Addr) (S : TkS) (gp : K.Cs) (hgp : gp = tkPt p b S.done f pa aa ra S) :
  K.GC Tryz.prog w0 41 #[.pointer (some ⟨p, 0, none⟩)] [gp] (fun v post => v = .int .i64 S.empty ∧ post = [gp]) := by
 refine K.GC.mk (n := 9) Tryz.func41 rfl rfl [.pointer (some ⟨p, 0, none⟩)] rfl rfl ?_
 intro fr w hS
 replace hS : K.Sat w0 [gp, fr] w := hS
 refine K.s (K.g (K.q [.int .i64 0] (K.z (K.t (K.s (K.s (K.g (K.q [.pointer (some ⟨p, 0, none⟩), .bool false] (K.z (K.t (K.f (K.k (K.t (K.s ?_))))))))))))))
 refine K.g (K.q [.pointer (some ⟨p, 0, none⟩), .pointer (some ⟨p, 0, none⟩), .pointer (some ⟨p, 10, none⟩)] ?_)
 refine K.d (.int .i64 S.empty) ((hS.blk 0 rfl hgp).cell rfl) ?_
 refine K.q [.int .i64 S.empty] (K.z (K.t (K.r ?_)))
 refine ⟨.inr rfl, rfl, (.int .i64 S.empty), K.res1 rfl rfl, [gp], ?_, hS.pick [0, 1]⟩
 exact ⟨rfl, rfl⟩
set_option maxHeartbeats 1000000 in
set_option maxRecDepth 100000 in
theorem tkHolds1_ok (w0 : World) (p b : Nat) (f : Value) (pa aa ra : Option Addr) (S : TkS) (gp : K.Cs) (hgp : gp = tkPt p b S.done f pa aa ra S) (hs : ¬ S.slot = -1) :
  K.GC Tryz.prog w0 45 #[.pointer (some ⟨p, 0, none⟩)] [gp] (fun v post => v = .int .i64 S.slot ∧ post = [gp]) := by
 refine K.GC.mk (n := 21) Tryz.func45 rfl rfl [.pointer (some ⟨p, 0, none⟩)] rfl rfl ?_
 intro fr w hS
 replace hS : K.Sat w0 [gp, fr] w := hS
 refine K.s (K.g (K.q [.int .i64 0] (K.z (K.t (K.s ?_)))))
 refine K.KW.block ?_
 refine K.s (K.g (K.q [.pointer (some ⟨p, 0, none⟩), .bool false, .bool false] (K.z (K.t (K.f (K.s (K.g (K.q [.pointer (some ⟨p, 0, none⟩), .pointer (some ⟨p, 0, none⟩), .pointer (some ⟨p, 8, none⟩)] ?_))))))))
 refine K.d (.int .i64 S.slot) ((hS.blk 0 rfl hgp).cell rfl) ?_
 refine K.yn (S.slot : Int) ((-1) : Int) (hs) ?_
 refine K.q [.bool true] (K.z (K.t (K.h (K.s (K.g (K.q [.pointer (some ⟨p, 0, none⟩), .pointer (some ⟨p, 0, none⟩), .pointer (some ⟨p, 8, none⟩)] ?_))))))
 refine K.d (.int .i64 S.slot) ((hS.blk 0 rfl hgp).cell rfl) ?_
 refine K.q [.int .i64 S.slot] (K.z (K.t (K.r ?_)))
 refine K.blk_ret ?_
 refine K.u ?_
 refine ⟨.inr rfl, rfl, (.int .i64 S.slot), K.res1 rfl rfl, [gp], ?_, hS.pick [0, 1]⟩
 exact ⟨rfl, rfl⟩
set_option maxHeartbeats 1000000 in
set_option maxRecDepth 100000 in
theorem tkHolds2_ok (w0 : World) (p b : Nat) (f : Value) (pa aa : Option Addr) (S : TkS) (gp : K.Cs) (hgp : gp = tkPt p b S.done f pa aa none S) (hs : S.slot = -1) :
  K.GC Tryz.prog w0 45 #[.pointer (some ⟨p, 0, none⟩)] [gp] (fun v post => v = .int .i64 (-1) ∧ post = [gp]) := by
 refine K.GC.mk (n := 21) Tryz.func45 rfl rfl [.pointer (some ⟨p, 0, none⟩)] rfl rfl ?_
 intro fr w hS
 replace hS : K.Sat w0 [gp, fr] w := hS
 refine K.s (K.g (K.q [.int .i64 0] (K.z (K.t (K.s ?_)))))
 refine K.KW.block ?_
 refine K.s (K.g (K.q [.pointer (some ⟨p, 0, none⟩), .bool false, .bool false] (K.z (K.t (K.f (K.s (K.g (K.q [.pointer (some ⟨p, 0, none⟩), .pointer (some ⟨p, 0, none⟩), .pointer (some ⟨p, 8, none⟩)] ?_))))))))
 refine K.d (.int .i64 S.slot) ((hS.blk 0 rfl hgp).cell rfl) ?_
 refine K.xn (S.slot : Int) ((-1) : Int) (hs) ?_
 refine K.q [.bool false] (K.z (K.t (K.f (K.k ?_))))
 refine K.blk_normal ?_
 refine K.t (K.s (K.g (K.q [.pointer (some ⟨p, 0, none⟩), .pointer (some ⟨p, 0, none⟩), .pointer (some ⟨p, 6, none⟩)] ?_)))
 refine K.d (.pointer none) ((hS.blk 0 rfl hgp).cell rfl) ?_
 refine K.l (K.OW.gcall hS [] [0, 1] [.pointer none] (recHolds_nil _ ) ?_)
 clear hS; rintro _ _ w ⟨rfl, rfl⟩ hS
 replace hS : K.Sat w0 [gp, fr] w := hS
 refine K.q [.int .i64 (-1)] (K.z (K.t (K.r ?_)))
 refine ⟨.inr rfl, rfl, (.int .i64 (-1)), K.res1 rfl rfl, [gp], ?_, hS.pick [0, 1]⟩
 exact ⟨rfl, rfl⟩
set_option maxHeartbeats 1000000 in
set_option maxRecDepth 100000 in
theorem tkHolds3_ok (w0 : World) (p b r : Nat) (f : Value) (pa aa : Option Addr) (S : TkS) (gp : K.Cs) (hgp : gp = tkPt p b S.done f pa aa (some ⟨r, 0, none⟩) S) (g2 : K.Cs) (hg2 : RecEl r b S.rc g2) (hs : S.slot = -1) :
  K.GC Tryz.prog w0 45 #[.pointer (some ⟨p, 0, none⟩)] [gp, g2] (fun v post => v = .int .i64 (recHolds S.rc) ∧ post = [gp, g2]) := by
 refine K.GC.mk (n := 21) Tryz.func45 rfl rfl [.pointer (some ⟨p, 0, none⟩)] rfl rfl ?_
 intro fr w hS
 replace hS : K.Sat w0 [gp, g2, fr] w := hS
 refine K.s (K.g (K.q [.int .i64 0] (K.z (K.t (K.s ?_)))))
 refine K.KW.block ?_
 refine K.s (K.g (K.q [.pointer (some ⟨p, 0, none⟩), .bool false, .bool false] (K.z (K.t (K.f (K.s (K.g (K.q [.pointer (some ⟨p, 0, none⟩), .pointer (some ⟨p, 0, none⟩), .pointer (some ⟨p, 8, none⟩)] ?_))))))))
 refine K.d (.int .i64 S.slot) ((hS.blk 0 rfl hgp).cell rfl) ?_
 refine K.xn (S.slot : Int) ((-1) : Int) (hs) ?_
 refine K.q [.bool false] (K.z (K.t (K.f (K.k ?_))))
 refine K.blk_normal ?_
 refine K.t (K.s (K.g (K.q [.pointer (some ⟨p, 0, none⟩), .pointer (some ⟨p, 0, none⟩), .pointer (some ⟨p, 6, none⟩)] ?_)))
 refine K.d (.pointer (some ⟨r, 0, none⟩)) ((hS.blk 0 rfl hgp).cell rfl) ?_
 refine K.l (K.OW.gcall hS [1] [0, 2] [.pointer (some ⟨r, 0, none⟩)] (recHoldsE_ok _ _ _ S.rc _ hg2) ?_)
 clear hS; rintro _ _ w ⟨rfl, rfl⟩ hS
 replace hS : K.Sat w0 [g2, gp, fr] w := hS
 refine K.q [.int .i64 (recHolds S.rc)] (K.z (K.t (K.r ?_)))
 refine ⟨.inr rfl, rfl, (.int .i64 (recHolds S.rc)), K.res1 rfl rfl, [gp, g2], ?_, hS.pick [1, 0, 2]⟩
 exact ⟨rfl, rfl⟩
theorem tkDoneE_ok (w0 : World) (p b : Nat) (S : TkS) (g : K.Cs) (h : TkEl p b S g) : K.GC Tryz.prog w0 35 #[.pointer (some ⟨p, 0, none⟩)] [g] (fun v post => v = .bool S.done ∧ post = [g]) := by
 obtain ⟨f, pa, aa, ra, gp, g1, g2, rfl, hgp, _⟩ := h
 exact gcWith3 (tkDone_ok w0 p b S.done f pa aa ra S gp hgp)
theorem tkSlotE_ok (w0 : World) (p b : Nat) (S : TkS) (g : K.Cs) (h : TkEl p b S g) : K.GC Tryz.prog w0 34 #[.pointer (some ⟨p, 0, none⟩)] [g] (fun v post => v = .int .i64 (if S.done = true then S.slot else -1) ∧ post = [g]) := by
 obtain ⟨f, pa, aa, ra, gp, g1, g2, rfl, hgp, _⟩ := h
 exact gcWith3 (tkSlot_ok w0 p b f pa aa ra S gp hgp)
theorem tkEmptyE_ok (w0 : World) (p b : Nat) (S : TkS) (g : K.Cs) (h : TkEl p b S g) : K.GC Tryz.prog w0 41 #[.pointer (some ⟨p, 0, none⟩)] [g] (fun v post => v = .int .i64 S.empty ∧ post = [g]) := by
 obtain ⟨f, pa, aa, ra, gp, g1, g2, rfl, hgp, _⟩ := h
 exact gcWith3 (tkEmpty_ok w0 p b f pa aa ra S gp hgp)
theorem tkHoldsE_ok (w0 : World) (p b : Nat) (c : Cfg) (S : TkS) (g : K.Cs) (h : TkEl p b S g) (hS : S.good c) : K.GC Tryz.prog w0 45 #[.pointer (some ⟨p, 0, none⟩)] [g] (fun v post => v = .int .i64 (tkHolds S) ∧ post = [g]) := by
 obtain ⟨f, pa, aa, ra, gp, g1, g2, rfl, hgp, ht⟩ := h
 have hn : ¬ S.slot = -1 → K.GC Tryz.prog w0 45 #[.pointer (some ⟨p, 0, none⟩)] [[gp, g1, g2].flatten] (fun v post => v = .int .i64 (tkHolds S) ∧ post = [[gp, g1, g2].flatten]) := fun hs => by
  unfold tkHolds; rw [if_pos hs]; exact gcWith3 (tkHolds1_ok w0 p b f pa aa ra S gp hgp hs)
 have h0 : S.part = 1 ∨ S.part = 2 → ra = none → K.GC Tryz.prog w0 45 #[.pointer (some ⟨p, 0, none⟩)] [[gp, g1, g2].flatten] (fun v post => v = .int .i64 (tkHolds S) ∧ post = [[gp, g1, g2].flatten]) := fun hp hr => by
  have hs : S.slot = -1 := hS.sp.1 (by omega)
  subst hr
  unfold tkHolds; rw [if_neg (fun h => h hs), hS.r0 hp]
  exact gcWith3 (tkHolds2_ok w0 p b f pa aa S gp hgp hs)
 have hr : S.slot = -1 → (∃ r, ra = some ⟨r, 0, none⟩ ∧ RecEl r b S.rc g2) → K.GC Tryz.prog w0 45 #[.pointer (some ⟨p, 0, none⟩)] [[gp, g1, g2].flatten] (fun v post => v = .int .i64 (tkHolds S) ∧ post = [[gp, g1, g2].flatten]) := fun hs ⟨r, hr, hg⟩ => by
  subst hr
  unfold tkHolds; rw [if_neg (fun h => h hs)]
  exact gcWith2 (tkHolds3_ok w0 p b r f pa aa S gp hgp g2 hg hs)
 rcases ht with ⟨hp, _, _, h⟩ | ⟨hp, _, _, h⟩ | ⟨hp, _, h⟩ | ⟨hp, _, _, h⟩ | ⟨hp, _⟩ | ⟨hp, _⟩ | ⟨hp, _⟩ | ⟨hp, _⟩ | ⟨hp, _⟩ | ⟨hp, h⟩
 ·exact h0 (.inl hp) h
 ·exact h0 (.inr hp) h
 ·exact hr (hS.sp.1 (by omega)) h
 ·exact hr (hS.sp.1 (by omega)) h
 ·exact hn (hS.sp.2 (by omega))
 ·exact hn (hS.sp.2 (by omega))
 ·exact hn (hS.sp.2 (by omega))
 ·exact hn (hS.sp.2 (by omega))
 ·exact hn (hS.sp.2 (by omega))
 ·by_cases hs : S.slot = -1
  ·exact hr hs (h.resolve_left (fun h => h hs))
  ·exact hn hs
def tkInit (t : Int) : TkS := ⟨t, 1, false, -1, 0, -1, tkPop0 t, tkAdv0 t, tkRec0 t⟩
theorem tkInit_good {c : Cfg} (hc : cfgOk c) {t : Int} (h : isInt t) : (tkInit t).good c :=
 ⟨h, (by decide : (0 : Int) ≤ 1 ∧ (1 : Int) ≤ 9), by show isInt (-1); omega, isW00, by show isInt (-1); omega, tkPop0_good h, tkAdv0_good h, tkRec0_good hc h, ⟨fun _ => rfl, fun h => by have h : (5 : Int) ≤ 1 := h; omega⟩, ⟨fun _ => rfl, fun h => by have h : (1 : Int) = 2 ∨ (1 : Int) = 3 ∨ (1 : Int) = 4 := h; omega⟩, fun h => by have h : (1 : Int) = 4 ∨ (1 : Int) = 0 ∧ _ := h; omega, fun _ => rfl, fun _ => by show ¬ (0 : Int) = 3; decide⟩
set_option maxHeartbeats 1000000 in
set_option maxRecDepth 100000 in
theorem newtk_ok (w0 : World) (b : Nat) (tt : Int) (htt : isInt tt) :
  K.GC Tryz.prog w0 32 #[.pointer (some ⟨b, 0, none⟩), .int .i64 tt] [] (fun v post => ∃ p gp g1, v = .pointer (some ⟨p, 0, none⟩) ∧ post = [gp, g1] ∧ ∃ f pa aa ra, True ∧ gp = tkPt p b false f pa aa ra (tkInit tt) ∧ TkTail p b (tkInit tt) f pa aa ra g1 []) := by
 refine K.GC.mk (n := 14) Tryz.func32 rfl rfl [.pointer (some ⟨b, 0, none⟩), .int .i64 tt] rfl rfl ?_
 intro fr w hS
 replace hS : K.Sat w0 [fr] w := hS
 refine K.s (K.g (K.q [.pointer none] (K.z (K.t (K.s (K.g (K.q [.pointer (some ⟨b, 0, none⟩), .int .i64 tt] ?_)))))))
 refine K.a (K.QR.bd [(0, .pointer (some ⟨b, 0, none⟩)), (1, .int .i64 tt)] [.pointer (some ⟨b, 0, none⟩), .int .i64 tt, .bool false] rfl rfl (by kernel_rfl)) ?_
 refine K.a (K.QR.bd [(0, .agg #[.pointer (some ⟨b, 0, none⟩), .int .i64 tt, .bool false]), (6, .int .i64 (-1)), (8, .int .i64 (-1))] [.pointer (some ⟨b, 0, none⟩), .int .i64 tt, .bool false, .nilFunc, .pointer none, .pointer none, .pointer none, .bool false, .int .i64 (-1), .int .u64 0, .int .i64 (-1)] rfl rfl (by kernel_rfl)) ?_
 refine K.l (K.OW.gnew 168 [.pointer (some ⟨b, 0, none⟩), .int .i64 tt, .bool false, .nilFunc, .pointer none, .pointer none, .pointer none, .bool false, .int .i64 (-1), .int .u64 0, .int .i64 (-1)] hS ?_)
 clear hS; intro w r_1 g_2 hg_3 hS
 refine K.q [.pointer (some ⟨r_1, 0, none⟩)] (K.z (K.t (K.s ?_)))
 have hSt : isInt (tkInit tt).t := htt
 have hgi : g_2 = tkPt r_1 b false .nilFunc none none none (tkInit tt) := hg_3
 refine K.g (K.q [.pointer (some ⟨r_1, 0, none⟩)] ?_)
 refine K.l (K.OW.gcall hS [0] [1] [.pointer (some ⟨r_1, 0, none⟩)] (tkPops_ok _ _ _ _ _ _ _ _ (tkInit tt) _ hgi hSt) ?_)
 clear hS; rintro _ _ w ⟨g_4, q_5, k_6, rfl, rfl, h_7, e_8⟩ hS
 replace hS : K.Sat w0 [g_4, k_6, fr] w := hS
 refine K.z (K.t (K.s (K.g (K.q [.pointer (some ⟨r_1, 0, none⟩), .pointer (some ⟨r_1, 0, none⟩)] (K.z (K.t (K.r ?_)))))))
 refine ⟨.inr rfl, rfl, (.pointer (some ⟨r_1, 0, none⟩)), K.res1 rfl rfl, [g_4, k_6], ?_, hS.pick [0, 1, 2]⟩
 exact ⟨_, _, _, rfl, rfl, _, _, _, _, trivial, h_7, .inl ⟨rfl, rfl, ⟨_, rfl, e_8⟩, rfl⟩⟩
theorem newtkE_ok (w0 : World) (b : Nat) (tt : Int) (htt : isInt tt) : K.GC Tryz.prog w0 32 #[.pointer (some ⟨b, 0, none⟩), .int .i64 tt] [] (fun v post => ∃ p g, v = .pointer (some ⟨p, 0, none⟩) ∧ post = [g] ∧ TkEl p b (tkInit tt) g) := by
 intro fr w hs
 refine K.KC.mono (newtk_ok w0 b tt htt fr w hs) ?_
 rintro v w' ⟨post, ⟨p, gp, g1, rfl, rfl, f, pa, aa, ra, _, h1, h2⟩, hs2⟩
 exact ⟨[[gp, g1, []].flatten], ⟨p, _, rfl, rfl, f, pa, aa, ra, gp, g1, [], rfl, h1, h2⟩, hs2.of (by simp)⟩
structure GvS where
 t : Int
 part : Int
 slot : Int
 push : PushS
def GvS.done (S : GvS) : Bool := decide (S.part = 0)
def gvStep (c : Cfg) (n : Nat) (S : GvS) (M : MemM) : GvS × MemM :=
 if S.part = 0 then (S, M)
 else if S.part = 1 then (⟨S.t, 2, S.slot, ⟨S.t, 0, 0, S.slot⟩⟩, (M.accS n S.t (intS c S.t) 0).1)
 else (⟨S.t, if (pushStep c n S.push M).1.pc = 3 then 0 else 2, S.slot, (pushStep c n S.push M).1⟩, (pushStep c n S.push M).2)
structure GvS.good (S : GvS) : Prop where
 t : isInt S.t
 part : S.part = 0 ∨ S.part = 1 ∨ S.part = 2
 slot : isInt S.slot
 push : S.push.good
theorem gvStep_good {c : Cfg} {n : Nat} {S : GvS} {M : MemM} (h : S.good) (hM : M.good) : (gvStep c n S M).1.good ∧ (gvStep c n S M).2.good := by
 obtain ⟨h1, h2, h3, h4⟩ := h
 unfold gvStep
 split
 ·exact ⟨⟨h1, h2, h3, h4⟩, hM⟩
 split
 ·exact ⟨⟨h1, .inr (.inr rfl), h3, ⟨h1, isW00, h3⟩⟩, accS_good hM isW00⟩
 ·obtain ⟨hg, hg2⟩ := pushStep_good (c := c) (n := n) h4 hM
  refine ⟨⟨h1, ?_, h3, hg⟩, hg2⟩
  show (if (pushStep c n S.push M).1.pc = 3 then (0 : Int) else 2) = 0 ∨ (if (pushStep c n S.push M).1.pc = 3 then (0 : Int) else 2) = 1 ∨ (if (pushStep c n S.push M).1.pc = 3 then (0 : Int) else 2) = 2
  split
  ·exact .inl rfl
  ·exact .inr (.inr rfl)
abbrev gvPt (p b : Nat) (dn : Bool) (qa : Option Addr) (S : GvS) : K.Cs := [K.pt p 183 [.pointer (some ⟨b, 0, none⟩), .int .i64 S.t, .bool dn, .int .i64 S.slot, .pointer qa]]
def GvTail (b : Nat) (S : GvS) (qa : Option Addr) (g : K.Cs) : Prop := (S.part = 1 ∧ qa = none) ∨ (S.part = 2 ∧ ∃ q, qa = some ⟨q, 0, none⟩ ∧ g = pushPt q b S.push) ∨ S.part = 0
def GvEl (p b : Nat) (S : GvS) (g : K.Cs) : Prop := ∃ qa gp g1, g = [gp, g1].flatten ∧ gp = gvPt p b S.done qa S ∧ GvTail b S qa g1
theorem gcWith {w0 : World} {f : Nat} {args : Array Value} {a b : K.Cs} {Q : Value → Prop} (h : K.GC Tryz.prog w0 f args [a] (fun v post => Q v ∧ post = [a])) : K.GC Tryz.prog w0 f args [[a, b].flatten] (fun v post => Q v ∧ post = [[a, b].flatten]) := by
 intro fr w hs
 refine K.KC.mono (h ([b, fr].flatten) w (hs.of (by simp))) ?_
 rintro v w' ⟨post, ⟨hq, rfl⟩, hs2⟩
 exact ⟨_, ⟨hq, rfl⟩, hs2.of (by simp)⟩
set_option maxHeartbeats 1000000 in
set_option maxRecDepth 100000 in
theorem gvDone_ok (w0 : World) (p b : Nat) (dn : Bool) (qa : Option Addr) (S : GvS) (gp : K.Cs) (hgp : gp = gvPt p b dn qa S) :
  K.GC Tryz.prog w0 53 #[.pointer (some ⟨p, 0, none⟩)] [gp] (fun v post => v = .bool dn ∧ post = [gp]) := by
 refine K.GC.mk (n := 12) Tryz.func53 rfl rfl [.pointer (some ⟨p, 0, none⟩)] rfl rfl ?_
 intro fr w hS
 replace hS : K.Sat w0 [gp, fr] w := hS
 refine K.s (K.g (K.q [.bool false] (K.z (K.t (K.s (K.g (K.q [.pointer (some ⟨p, 0, none⟩), .bool false, .bool false, .pointer (some ⟨p, 0, none⟩), .pointer (some ⟨p, 0, none⟩), .pointer (some ⟨p, 0, none⟩), .pointer (some ⟨p, 2, none⟩)] ?_)))))))
 refine K.d (.bool dn) ((hS.blk 0 rfl hgp).cell rfl) ?_
 refine K.q [.bool dn, .bool dn] (K.z (K.t (K.r ?_)))
 refine ⟨.inr rfl, rfl, (.bool dn), K.res1 rfl rfl, [gp], ?_, hS.pick [0, 1]⟩
 exact ⟨rfl, rfl⟩
set_option maxHeartbeats 1000000 in
set_option maxRecDepth 100000 in
theorem gvHolds_ok (w0 : World) (p b : Nat) (qa : Option Addr) (S : GvS) (gp : K.Cs) (hgp : gp = gvPt p b S.done qa S) :
  K.GC Tryz.prog w0 54 #[.pointer (some ⟨p, 0, none⟩)] [gp] (fun v post => v = .int .i64 (if S.done = true then -1 else S.slot) ∧ post = [gp]) := by
 refine K.GC.mk (n := 9) Tryz.func54 rfl rfl [.pointer (some ⟨p, 0, none⟩)] rfl rfl ?_
 intro fr w hS
 replace hS : K.Sat w0 [gp, fr] w := hS
 refine K.s (K.g (K.q [.int .i64 0] (K.z (K.t (K.s (K.s (K.g (K.q [.pointer (some ⟨p, 0, none⟩)] ?_))))))))
 refine K.l (K.OW.gcall hS [0] [1] [.pointer (some ⟨p, 0, none⟩)] (gvDone_ok _ _ _ _ _ S _ hgp) ?_)
 clear hS; rintro _ _ w ⟨rfl, rfl⟩ hS
 replace hS : K.Sat w0 [gp, fr] w := hS
 cases hb_1 : S.done
 ·
  refine K.z (K.t (K.f (K.k (K.t (K.s (K.g (K.q [.pointer (some ⟨p, 0, none⟩), .pointer (some ⟨p, 0, none⟩), .pointer (some ⟨p, 3, none⟩)] ?_)))))))
  refine K.d (.int .i64 S.slot) ((hS.blk 0 rfl hgp).cell rfl) ?_
  refine K.q [.int .i64 S.slot] (K.z (K.t (K.r ?_)))
  refine ⟨.inr rfl, rfl, (.int .i64 S.slot), K.res1 rfl rfl, [gp], ?_, hS.pick [0, 1]⟩
  exact ⟨by simp [*], rfl⟩
 ·
  refine K.z (K.t (K.h (K.s (K.g (K.q [.int .i64 (-1)] (K.z (K.t (K.r (K.u ?_)))))))))
  refine ⟨.inr rfl, rfl, (.int .i64 (-1)), K.res1 rfl rfl, [gp], ?_, hS.pick [0, 1]⟩
  exact ⟨by simp [*], rfl⟩
set_option maxHeartbeats 1000000 in
set_option maxRecDepth 100000 in
theorem gvStep1_ok (w0 : World) (p b pm q n t : Nat) (c : Cfg) (hc : cfgOk c) (S : GvS) (M : MemM) (gp g1 gl l : K.Cs) (hgp : gp = gvPt p b false none S) (hgl : gl = layPt b c) (x : MemAt l pm q n t M) (hM : M.good) (hS : S.good) (hp : S.part = 1) :
  K.GC Tryz.prog w0 49 #[.pointer (some ⟨p, 0, none⟩), .pointer (some ⟨pm, 0, none⟩)] [gp, g1, gl, l] (fun v post => ∃ qa' gp' g1' l', v = .bool (gvStep c n S M).1.done ∧ post = [gp', g1', gl, l'] ∧ gp' = gvPt p b (gvStep c n S M).1.done qa' (gvStep c n S M).1 ∧ GvTail b (gvStep c n S M).1 qa' g1' ∧ MemAt l' pm q n t (gvStep c n S M).2) := by
 have hSt := hS.t; have hSs := hS.slot
 refine K.GC.mk (n := 62) Tryz.func49 rfl rfl [.pointer (some ⟨p, 0, none⟩), .pointer (some ⟨pm, 0, none⟩)] rfl rfl ?_
 intro fr w hS
 replace hS : K.Sat w0 [gp, g1, gl, l, fr] w := hS
 refine K.s (K.g (K.q [.bool false] (K.z (K.t (K.s ?_)))))
 refine K.KW.block ?_
 refine K.s (K.g (K.q [.pointer (some ⟨p, 0, none⟩)] ?_))
 refine K.l (K.OW.gcall hS [0] [1, 2, 3, 4] [.pointer (some ⟨p, 0, none⟩)] (gvDone_ok _ _ _ _ _ S _ hgp) ?_)
 clear hS; rintro _ _ w ⟨rfl, rfl⟩ hS
 replace hS : K.Sat w0 [gp, g1, gl, l, fr] w := hS
 refine K.q [.bool false] (K.z (K.t (K.f (K.s (K.g (K.q [.pointer (some ⟨p, 0, none⟩), .pointer (some ⟨p, 0, none⟩), .pointer (some ⟨p, 4, none⟩)] ?_))))))
 refine K.d (.pointer none) ((hS.blk 0 rfl hgp).cell rfl) ?_
 refine K.q [.bool true, .bool true] (K.z (K.t (K.h (K.s ?_))))
 refine K.KW.gdrawn [0] hS (by kernel_rfl) ?_
 clear hS; intro w hS
 refine K.p 0 rfl (.pointer (some ⟨pm, 0, none⟩)) (hS.pick [0]) ?_
 refine K.p 1 rfl (.pointer (some ⟨p, 0, none⟩)) (hS.pick [0]) ?_
 refine K.p 2 rfl (.pointer (some ⟨p, 0, none⟩)) (hS.pick [0]) ?_
 refine K.p 3 rfl (.pointer (some ⟨p, 0, none⟩)) (hS.pick [0]) ?_
 refine K.p 4 rfl (.pointer (some ⟨p, 1, none⟩)) (hS.pick [0]) ?_
 refine K.o_ 5 rfl (.int .i64 S.t) (fun w hS => ((hS.blk 0 rfl hgp).cell rfl)) (hS.pick [0]) ?_
 refine K.p 6 rfl (.pointer (some ⟨p, 0, none⟩)) (hS.pick [0]) ?_
 refine K.p 7 rfl (.pointer (some ⟨p, 0, none⟩)) (hS.pick [0]) ?_
 refine K.p 8 rfl (.pointer (some ⟨p, 0, none⟩)) (hS.pick [0]) ?_
 refine K.p 9 rfl (.pointer (some ⟨p, 0, none⟩)) (hS.pick [0]) ?_
 refine K.o_ 10 rfl (.pointer (some ⟨b, 0, none⟩)) (fun w hS => ((hS.blk 0 rfl hgp).cell rfl)) (hS.pick [0]) ?_
 refine K.b 11 rfl (.pointer (some ⟨p, 0, none⟩)) (hS.pick [0]) ?_
 refine K.b 12 rfl (.pointer (some ⟨p, 0, none⟩)) (hS.pick [0]) ?_
 refine K.b 13 rfl (.pointer (some ⟨p, 0, none⟩)) (hS.pick [0]) ?_
 refine K.b 14 rfl (.pointer (some ⟨p, 1, none⟩)) (hS.pick [0]) ?_
 refine K.c 15 rfl (K.QR.ld1 (v := .int .i64 S.t) rfl rfl (by kernel_rfl) ((hS.blk 0 rfl hgp).cell rfl)) (hS.pick [0]) ?_
 refine K.DW.l 16 rfl (by kernel_rfl) rfl (K.OW.kcall hS [.pointer (some ⟨b, 0, none⟩), .int .i64 S.t] (lIntent _ c S.t _ (by assumption) (hS.blk 2 rfl hgl)) ?_)
 rintro _ w ⟨rfl, c_1⟩
 replace hS := hS.no c_1
 have hi_2 : isInt (intS c S.t) := int_int (by assumption) _
 refine ⟨.inl (hS.pick [0]), ?_⟩
 refine K.DW.l 17 rfl (by kernel_rfl) rfl (K.OW.gcall hS [3] [0, 1, 2, 4] [.pointer (some ⟨pm, 0, none⟩), .int .i64 S.t, .int .i64 (intS c S.t), .int .u64 0] (mStore_ok _ _ _ _ _ _ _ x S.t (intS c S.t) (by first | omega | assumption | exact int_int (by assumption) _ | exact gen_int (by assumption) _ | exact aft_int (by assumption) _ | exact ann_int (by assumption) _ (by omega)) (0 : Int)) ?_)
 clear hS; rintro _ _ w ⟨l_3, rfl, rfl, x_4⟩ hS
 replace hS : K.Sat w0 [l_3, gp, g1, gl, fr] w := hS
 refine ⟨.inl (hS.pick [1]), ?_⟩
 refine K.DW.done (by kernel_rfl) ?_
 refine K.t ?_
 refine K.KW.gdrawn [1] hS (by kernel_rfl) ?_
 clear hS; intro w hS
 refine K.p 0 rfl (.pointer (some ⟨p, 0, none⟩)) (hS.pick [1]) ?_
 refine K.p 1 rfl (.pointer (some ⟨p, 0, none⟩)) (hS.pick [1]) ?_
 refine K.p 2 rfl (.pointer (some ⟨p, 0, none⟩)) (hS.pick [1]) ?_
 refine K.p 3 rfl (.pointer (some ⟨p, 0, none⟩)) (hS.pick [1]) ?_
 refine K.p 4 rfl (.pointer (some ⟨p, 0, none⟩)) (hS.pick [1]) ?_
 refine K.o_ 5 rfl (.pointer (some ⟨b, 0, none⟩)) (fun w hS => ((hS.blk 0 rfl hgp).cell rfl)) (hS.pick [1]) ?_
 refine K.p 6 rfl (.pointer (some ⟨p, 0, none⟩)) (hS.pick [1]) ?_
 refine K.p 7 rfl (.pointer (some ⟨p, 0, none⟩)) (hS.pick [1]) ?_
 refine K.p 8 rfl (.pointer (some ⟨p, 0, none⟩)) (hS.pick [1]) ?_
 refine K.p 9 rfl (.pointer (some ⟨p, 1, none⟩)) (hS.pick [1]) ?_
 refine K.o_ 10 rfl (.int .i64 S.t) (fun w hS => ((hS.blk 0 rfl hgp).cell rfl)) (hS.pick [1]) ?_
 refine K.b 11 rfl (.pointer (some ⟨p, 0, none⟩)) (hS.pick [1]) ?_
 refine K.b 12 rfl (.pointer (some ⟨p, 0, none⟩)) (hS.pick [1]) ?_
 refine K.b 13 rfl (.pointer (some ⟨p, 3, none⟩)) (hS.pick [1]) ?_
 refine K.c 14 rfl (K.QR.ld1 (v := .int .i64 S.slot) rfl rfl (by kernel_rfl) ((hS.blk 1 rfl hgp).cell rfl)) (hS.pick [1]) ?_
 refine K.DW.l 15 rfl (by kernel_rfl) rfl (K.OW.gcall hS [] [0, 1, 2, 3, 4] [.pointer (some ⟨b, 0, none⟩), .int .i64 S.t, .int .i64 S.slot] (newPush_ok _ _ S.t S.slot) ?_)
 clear hS; rintro _ _ w ⟨p_5, g_6, rfl, rfl, h_7⟩ hS
 replace hS : K.Sat w0 [g_6, l_3, gp, g1, gl, fr] w := hS
 have hS_8 : PushS.good (⟨S.t, 0, 0, S.slot⟩ : PushS) := pushInit (by omega) (by omega)
 refine ⟨.inl (hS.pick [2]), ?_⟩
 refine K.b 16 rfl (.pointer (some ⟨p, 0, none⟩)) (hS.pick [2]) ?_
 refine K.b 17 rfl (.pointer (some ⟨p, 4, none⟩)) (hS.pick [2]) ?_
 refine K.DW.l 18 rfl (by kernel_rfl) rfl (K.OW.gst 2 [.pointer (some ⟨p_5, 0, none⟩)] _ hS hgp ?_)
 clear hS; intro w g_9 hg_10 hS
 replace hS : K.Sat w0 [g_6, l_3, g_9, g1, gl, fr] w := hS
 refine ⟨.inr (by kernel_rfl), ?_⟩
 refine K.DW.done (by kernel_rfl) ?_
 refine K.blk_normal ?_
 refine K.t (K.s (K.g (K.q [.pointer (some ⟨p, 0, none⟩)] ?_)))
 refine K.l (K.OW.gcall hS [2] [0, 1, 3, 4, 5] [.pointer (some ⟨p, 0, none⟩)] (gvDone_ok _ _ _ _ _ S _ hg_10) ?_)
 clear hS; rintro _ _ w ⟨rfl, rfl⟩ hS
 replace hS : K.Sat w0 [g_9, g_6, l_3, g1, gl, fr] w := hS
 refine K.q [.bool false] (K.z (K.t (K.r ?_)))
 have e : gvStep c n S M = (⟨S.t, 2, S.slot, ⟨S.t, 0, 0, S.slot⟩⟩, (M.accS n S.t (intS c S.t) 0).1) := by unfold gvStep; rw [if_neg (by omega), if_pos hp]
 refine ⟨.inr rfl, rfl, (.bool false), K.res1 rfl rfl, [g_9, g_6, gl, l_3], ?_, hS.pick [0, 1, 4, 2, 5]⟩
 exact ⟨_, _, _, _, by rw [e]; rfl, rfl, by rw [e]; exact hg_10, by rw [e]; exact .inr (.inl ⟨rfl, _, rfl, h_7⟩), by rw [e]; exact x_4⟩
set_option maxHeartbeats 1000000 in
set_option maxRecDepth 100000 in
theorem gvStep2_ok (w0 : World) (p b pm q n t qq : Nat) (c : Cfg) (hc : cfgOk c) (S : GvS) (M : MemM) (gp g1 gl l : K.Cs) (hgp : gp = gvPt p b false (some ⟨qq, 0, none⟩) S) (hgl : gl = layPt b c) (x : MemAt l pm q n t M) (hM : M.good) (hS : S.good) (hg1 : g1 = pushPt qq b S.push) (hp : S.part = 2) :
  K.GC Tryz.prog w0 49 #[.pointer (some ⟨p, 0, none⟩), .pointer (some ⟨pm, 0, none⟩)] [gp, g1, gl, l] (fun v post => ∃ qa' gp' g1' l', v = .bool (gvStep c n S M).1.done ∧ post = [gp', g1', gl, l'] ∧ gp' = gvPt p b (gvStep c n S M).1.done qa' (gvStep c n S M).1 ∧ GvTail b (gvStep c n S M).1 qa' g1' ∧ MemAt l' pm q n t (gvStep c n S M).2) := by
 have hSt := hS.t; have hSs := hS.slot; have hSp := hS.push
 refine K.GC.mk (n := 62) Tryz.func49 rfl rfl [.pointer (some ⟨p, 0, none⟩), .pointer (some ⟨pm, 0, none⟩)] rfl rfl ?_
 intro fr w hS
 replace hS : K.Sat w0 [gp, g1, gl, l, fr] w := hS
 refine K.s (K.g (K.q [.bool false] (K.z (K.t (K.s ?_)))))
 refine K.KW.block ?_
 refine K.s (K.g (K.q [.pointer (some ⟨p, 0, none⟩)] ?_))
 refine K.l (K.OW.gcall hS [0] [1, 2, 3, 4] [.pointer (some ⟨p, 0, none⟩)] (gvDone_ok _ _ _ _ _ S _ hgp) ?_)
 clear hS; rintro _ _ w ⟨rfl, rfl⟩ hS
 replace hS : K.Sat w0 [gp, g1, gl, l, fr] w := hS
 refine K.q [.bool false] (K.z (K.t (K.f (K.s (K.g (K.q [.pointer (some ⟨p, 0, none⟩), .pointer (some ⟨p, 0, none⟩), .pointer (some ⟨p, 4, none⟩)] ?_))))))
 refine K.d (.pointer (some ⟨qq, 0, none⟩)) ((hS.blk 0 rfl hgp).cell rfl) ?_
 refine K.q [.bool false, .bool false] (K.z (K.t (K.f (K.g (K.q [.pointer (some ⟨p, 0, none⟩), .pointer (some ⟨p, 0, none⟩), .pointer (some ⟨p, 0, none⟩), .pointer (some ⟨p, 4, none⟩)] ?_)))))
 refine K.d (.pointer (some ⟨qq, 0, none⟩)) ((hS.blk 0 rfl hgp).cell rfl) ?_
 refine K.q [.pointer (some ⟨pm, 0, none⟩)] ?_
 refine K.l (K.OW.gcall hS [1, 2, 3] [0, 4] [.pointer (some ⟨qq, 0, none⟩), .pointer (some ⟨pm, 0, none⟩)] (pushStep_ok _ _ _ _ _ _ _ c (by first | assumption | (unfold cfgOk; decide)) S.push _ _ _ _ hg1 hgl x (by assumption) (by assumption)) ?_)
 clear hS; rintro _ _ w ⟨g_1, l_2, rfl, rfl, h_3, x_4⟩ hS
 replace hS : K.Sat w0 [g_1, gl, l_2, gp, fr] w := hS
 obtain ⟨hS_5, hM_6⟩ := (pushStep_good (by assumption) (by assumption) : (pushStep c n S.push M).1.good ∧ (pushStep c n S.push M).2.good)
 cases hb_7 : (decide ((pushStep c n S.push M).1.pc = 3))
 ·
  refine K.q [.pointer (some ⟨p, 0, none⟩), .pointer (some ⟨p, 0, none⟩), .pointer (some ⟨p, 2, none⟩)] ?_
  refine K.l (K.OW.gst 3 [.bool false] _ hS hgp ?_)
  clear hS; intro w g_8 hg_9 hS
  replace hS : K.Sat w0 [g_1, gl, l_2, g_8, fr] w := hS
  refine K.z ?_
  refine K.blk_normal ?_
  refine K.t (K.s (K.g (K.q [.pointer (some ⟨p, 0, none⟩)] ?_)))
  refine K.l (K.OW.gcall hS [3] [0, 1, 2, 4] [.pointer (some ⟨p, 0, none⟩)] (gvDone_ok _ _ _ _ _ S _ hg_9) ?_)
  clear hS; rintro _ _ w ⟨rfl, rfl⟩ hS
  replace hS : K.Sat w0 [g_8, g_1, gl, l_2, fr] w := hS
  refine K.q [.bool false] (K.z (K.t (K.r ?_)))
  have e : gvStep c n S M = (⟨S.t, 2, S.slot, (pushStep c n S.push M).1⟩, (pushStep c n S.push M).2) := by unfold gvStep; rw [if_neg (by omega), if_neg (by omega), if_neg (of_decide_eq_false hb_7)]
  refine ⟨.inr rfl, rfl, (.bool false), K.res1 rfl rfl, [g_8, g_1, gl, l_2], ?_, hS.pick [0, 1, 2, 3, 4]⟩
  exact ⟨_, _, _, _, by rw [e]; rfl, rfl, by rw [e]; exact hg_9, by rw [e]; exact .inr (.inl ⟨rfl, qq, rfl, h_3⟩), by rw [e]; exact x_4⟩
 ·
  refine K.q [.pointer (some ⟨p, 0, none⟩), .pointer (some ⟨p, 0, none⟩), .pointer (some ⟨p, 2, none⟩)] ?_
  refine K.l (K.OW.gst 3 [.bool true] _ hS hgp ?_)
  clear hS; intro w g_10 hg_11 hS
  replace hS : K.Sat w0 [g_1, gl, l_2, g_10, fr] w := hS
  refine K.z ?_
  refine K.blk_normal ?_
  refine K.t (K.s (K.g (K.q [.pointer (some ⟨p, 0, none⟩)] ?_)))
  refine K.l (K.OW.gcall hS [3] [0, 1, 2, 4] [.pointer (some ⟨p, 0, none⟩)] (gvDone_ok _ _ _ _ _ S _ hg_11) ?_)
  clear hS; rintro _ _ w ⟨rfl, rfl⟩ hS
  replace hS : K.Sat w0 [g_10, g_1, gl, l_2, fr] w := hS
  refine K.q [.bool true] (K.z (K.t (K.r ?_)))
  have e : gvStep c n S M = (⟨S.t, 0, S.slot, (pushStep c n S.push M).1⟩, (pushStep c n S.push M).2) := by unfold gvStep; rw [if_neg (by omega), if_neg (by omega), if_pos (of_decide_eq_true hb_7)]
  refine ⟨.inr rfl, rfl, (.bool true), K.res1 rfl rfl, [g_10, g_1, gl, l_2], ?_, hS.pick [0, 1, 2, 3, 4]⟩
  exact ⟨_, _, _, _, by rw [e]; rfl, rfl, by rw [e]; exact hg_11, by rw [e]; exact .inr (.inr rfl), by rw [e]; exact x_4⟩
set_option maxHeartbeats 1000000 in
set_option maxRecDepth 100000 in
theorem gvStep0_ok (w0 : World) (p b pm : Nat) (qa : Option Addr) (S : GvS) (gp : K.Cs) (hgp : gp = gvPt p b true qa S) :
  K.GC Tryz.prog w0 49 #[.pointer (some ⟨p, 0, none⟩), .pointer (some ⟨pm, 0, none⟩)] [gp] (fun v post => v = .bool true ∧ post = [gp]) := by
 refine K.GC.mk (n := 62) Tryz.func49 rfl rfl [.pointer (some ⟨p, 0, none⟩), .pointer (some ⟨pm, 0, none⟩)] rfl rfl ?_
 intro fr w hS
 replace hS : K.Sat w0 [gp, fr] w := hS
 refine K.s (K.g (K.q [.bool false] (K.z (K.t (K.s ?_)))))
 refine K.KW.block ?_
 refine K.s (K.g (K.q [.pointer (some ⟨p, 0, none⟩)] ?_))
 refine K.l (K.OW.gcall hS [0] [1] [.pointer (some ⟨p, 0, none⟩)] (gvDone_ok _ _ _ _ _ S _ hgp) ?_)
 clear hS; rintro _ _ w ⟨rfl, rfl⟩ hS
 replace hS : K.Sat w0 [gp, fr] w := hS
 refine K.q [.bool true] (K.z (K.t (K.h (K.k ?_))))
 refine K.blk_normal ?_
 refine K.t (K.s (K.g (K.q [.pointer (some ⟨p, 0, none⟩)] ?_)))
 refine K.l (K.OW.gcall hS [0] [1] [.pointer (some ⟨p, 0, none⟩)] (gvDone_ok _ _ _ _ _ S _ hgp) ?_)
 clear hS; rintro _ _ w ⟨rfl, rfl⟩ hS
 replace hS : K.Sat w0 [gp, fr] w := hS
 refine K.q [.bool true] (K.z (K.t (K.r ?_)))
 refine ⟨.inr rfl, rfl, (.bool true), K.res1 rfl rfl, [gp], ?_, hS.pick [0, 1]⟩
 exact ⟨rfl, rfl⟩
set_option maxHeartbeats 1000000 in
set_option maxRecDepth 100000 in
theorem newgv_ok (w0 : World) (b : Nat) (tt sl : Int) :
  K.GC Tryz.prog w0 48 #[.pointer (some ⟨b, 0, none⟩), .int .i64 tt, .int .i64 sl] [] (fun v post => ∃ p g, v = .pointer (some ⟨p, 0, none⟩) ∧ post = [g] ∧ g = gvPt p b false none ⟨tt, 1, sl, ⟨0, 0, 0, 0⟩⟩) := by
 refine K.GC.mk (n := 13) Tryz.func48 rfl rfl [.pointer (some ⟨b, 0, none⟩), .int .i64 tt, .int .i64 sl] rfl rfl ?_
 intro fr w hS
 replace hS : K.Sat w0 [fr] w := hS
 refine K.s (K.g (K.q [.pointer none] (K.z (K.t (K.s (K.g (K.q [.pointer (some ⟨b, 0, none⟩), .int .i64 tt] ?_)))))))
 refine K.a (K.QR.bd [(0, .pointer (some ⟨b, 0, none⟩)), (1, .int .i64 tt)] [.pointer (some ⟨b, 0, none⟩), .int .i64 tt, .bool false] rfl rfl (by kernel_rfl)) ?_
 refine K.q [.int .i64 sl] ?_
 refine K.a (K.QR.bd [(0, .agg #[.pointer (some ⟨b, 0, none⟩), .int .i64 tt, .bool false]), (1, .int .i64 sl)] [.pointer (some ⟨b, 0, none⟩), .int .i64 tt, .bool false, .int .i64 sl, .pointer none] rfl rfl (by kernel_rfl)) ?_
 refine K.l (K.OW.gnew 183 [.pointer (some ⟨b, 0, none⟩), .int .i64 tt, .bool false, .int .i64 sl, .pointer none] hS ?_)
 clear hS; intro w r_1 g_2 hg_3 hS
 refine K.q [.pointer (some ⟨r_1, 0, none⟩)] (K.z (K.t (K.r ?_)))
 refine ⟨.inr rfl, rfl, (.pointer (some ⟨r_1, 0, none⟩)), K.res1 rfl rfl, [g_2], ?_, hS.pick [0, 1]⟩
 exact ⟨_, _, rfl, rfl, hg_3⟩
theorem gvStep_ok (w0 : World) (p b pm q n t : Nat) (c : Cfg) (hc : cfgOk c) (S : GvS) (M : MemM) (g gl l : K.Cs) (h : GvEl p b S g) (hgl : gl = layPt b c) (x : MemAt l pm q n t M) (hM : M.good) (hS : S.good) :
  K.GC Tryz.prog w0 49 #[.pointer (some ⟨p, 0, none⟩), .pointer (some ⟨pm, 0, none⟩)] [g, gl, l] (fun v post => ∃ g' l', v = .bool (gvStep c n S M).1.done ∧ post = [g', gl, l'] ∧ GvEl p b (gvStep c n S M).1 g' ∧ MemAt l' pm q n t (gvStep c n S M).2) := by
 obtain ⟨qa, gp, g1, rfl, hgp, ht⟩ := h
 have fin : K.GC Tryz.prog w0 49 #[.pointer (some ⟨p, 0, none⟩), .pointer (some ⟨pm, 0, none⟩)] [gp, g1, gl, l] (fun v post => ∃ qa' gp' g1' l', v = .bool (gvStep c n S M).1.done ∧ post = [gp', g1', gl, l'] ∧ gp' = gvPt p b (gvStep c n S M).1.done qa' (gvStep c n S M).1 ∧ GvTail b (gvStep c n S M).1 qa' g1' ∧ MemAt l' pm q n t (gvStep c n S M).2) →
   K.GC Tryz.prog w0 49 #[.pointer (some ⟨p, 0, none⟩), .pointer (some ⟨pm, 0, none⟩)] [[gp, g1].flatten, gl, l] (fun v post => ∃ g' l', v = .bool (gvStep c n S M).1.done ∧ post = [g', gl, l'] ∧ GvEl p b (gvStep c n S M).1 g' ∧ MemAt l' pm q n t (gvStep c n S M).2) := fun hk => by
  intro fr w hs
  refine K.KC.mono (hk fr w (hs.of (by simp))) ?_
  rintro v w' ⟨post, ⟨qa', gp', g1', l', rfl, rfl, h1, h2, h3⟩, hs2⟩
  exact ⟨[[gp', g1'].flatten, gl, l'], ⟨_, l', rfl, rfl, ⟨qa', gp', g1', rfl, h1, h2⟩, h3⟩, hs2.of (by simp)⟩
 have nd : ¬ S.part = 0 → gp = gvPt p b false qa S := fun h => by rw [hgp, show S.done = false from decide_eq_false h]
 rcases ht with ⟨hp, rfl⟩ | ⟨hp, qq, rfl, hg⟩ | hp
 ·exact fin (gvStep1_ok w0 p b pm q n t c hc S M gp g1 gl l (nd (by omega)) hgl x hM hS hp)
 ·exact fin (gvStep2_ok w0 p b pm q n t qq c hc S M gp g1 gl l (nd (by omega)) hgl x hM hS hg hp)
 ·intro fr w hs
  have hd : S.done = true := decide_eq_true hp
  refine K.KC.mono (gvStep0_ok w0 p b pm qa S gp (by rw [hgp, hd]) ([g1, gl, l, fr].flatten) w (hs.of (by simp))) ?_
  rintro v w' ⟨post, ⟨rfl, rfl⟩, hs2⟩
  have e : gvStep c n S M = (S, M) := if_pos hp
  exact ⟨[[gp, g1].flatten, gl, l], ⟨_, l, by rw [e, hd], rfl, by rw [e]; exact ⟨qa, gp, g1, rfl, hgp, .inr (.inr hp)⟩, by rw [e]; exact x⟩, hs2.of (by simp)⟩
theorem gvDoneE_ok (w0 : World) (p b : Nat) (S : GvS) (g : K.Cs) (h : GvEl p b S g) : K.GC Tryz.prog w0 53 #[.pointer (some ⟨p, 0, none⟩)] [g] (fun v post => v = .bool S.done ∧ post = [g]) := by
 obtain ⟨qa, gp, g1, rfl, hgp, _⟩ := h
 exact gcWith (gvDone_ok w0 p b S.done qa S gp hgp)
theorem gvHoldsE_ok (w0 : World) (p b : Nat) (S : GvS) (g : K.Cs) (h : GvEl p b S g) : K.GC Tryz.prog w0 54 #[.pointer (some ⟨p, 0, none⟩)] [g] (fun v post => v = .int .i64 (if S.done = true then -1 else S.slot) ∧ post = [g]) := by
 obtain ⟨qa, gp, g1, rfl, hgp, _⟩ := h
 exact gcWith (gvHolds_ok w0 p b qa S gp hgp)
theorem newgvE_ok (w0 : World) (b : Nat) (tt sl : Int) : K.GC Tryz.prog w0 48 #[.pointer (some ⟨b, 0, none⟩), .int .i64 tt, .int .i64 sl] [] (fun v post => ∃ p g, v = .pointer (some ⟨p, 0, none⟩) ∧ post = [g] ∧ GvEl p b ⟨tt, 1, sl, ⟨0, 0, 0, 0⟩⟩ g) := by
 intro fr w hs
 refine K.KC.mono (newgv_ok w0 b tt sl fr w hs) ?_
 rintro v w' ⟨post, ⟨p, g, rfl, rfl, h⟩, hs2⟩
 exact ⟨[[g, []].flatten], ⟨p, _, rfl, rfl, none, g, [], rfl, h, .inl ⟨rfl, rfl⟩⟩, hs2.of (by simp)⟩
end Go.Proofs.YtbfafebfkdbglaaGreat
