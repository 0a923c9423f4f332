import Derived.Test.YtbfafebfkdbglaaGreatFgr2
import Derived.Test.YtbfafebfkdbglaaGreatFl4
import Derived.Test.YtbfafebfkdbglaaGreatFpm4
import Derived.Test.YtbfafebfkdbglaaGreatFlist
/- Layer 7: an act on both memories; are they one? -/
namespace Go.Proofs.YtbfafebfkdbglaaGreat
open Go.RowKit
set_option linter.unusedVariables false
attribute [local irreducible] K.KW K.RW K.DW K.OW K.QR K.KC
/-- something that is done to a memory -/
structure ActP where
 kind : Int
 thread : Int
 at_ : Int
 old : Int
 w : Int
def cActP (a : ActP) : List Value := [K.iv a.kind, K.iv a.thread, K.iv a.at_, .int .u64 a.old, .int .u64 a.w]
def ap0 : ActP := ⟨0, 0, 0, 0, 0⟩
def ActP.good (a : ActP) : Prop := isInt a.kind ∧ isInt a.thread ∧ isInt a.at_
/-- the memory behind it -/
def act7 (M : MemM) (n t : Nat) (a : ActP) : MemM :=
 if a.kind = 1 then (M.accL n a.thread a.at_).1 else if a.kind = 2 then (M.accS n a.thread a.at_ a.w).1 else if a.kind = 3 then (M.accW n a.thread a.at_ a.old a.w).1
 else if a.kind = 4 then (M.accF n t a.thread a.at_).1 else if a.kind = 5 then (M.accE t a.thread).1
 else if a.kind = 6 then (if 0 ≤ a.at_ ∧ a.at_ < n then { M with dev := M.dev.back a.at_.toNat } else M) else M.crash
theorem eqAcc_t {a0 a1 a2 a3 a4 b0 b1 b2 b3 b4 : Int} {a5 b5 : Bool} (h : a0 = b0 ∧ a1 = b1 ∧ a2 = b2 ∧ a3 = b3 ∧ a4 = b4 ∧ a5 = b5) (w : World) :
  (Op.equal 132 (.agg #[K.iv a0, K.iv a1, K.iv a2, .int .u64 a3, .int .u64 a4, .bool a5]) (.agg #[K.iv b0, K.iv b1, K.iv b2, .int .u64 b3, .int .u64 b4, .bool b5])).run Tryz.prog w = .ok true w := by
 obtain ⟨rfl, rfl, rfl, rfl, rfl, rfl⟩ := h
 simp [go_sem, Op.equal, Op.maxDepth]
theorem mdKept_ok (w0 : World) (p q n t : Nat) (M : MemM) (l : K.Cs) (x : MemAt l p q n t M) :
  K.GC Tryz.prog w0 39 #[K.pa q] [l] (fun v post => ∃ r c l2, v = .slice r M.dev.kept.length c ∧ post = [l, l2] ∧ K.OwnG l2 57 1 r M.dev.kept.length c (M.dev.kept.flatMap cU64)) := by
 obtain ⟨mg, mp, md, pa, np, cp, rfl, hmg, hmp, hmd, hnp, hn18⟩ := x
 refine (K.GC.in3 (dvKept_ok w0 q n t M.dev md hmd) (by rintro v post ⟨_, _, _, _, rfl, _⟩; exact ⟨_, _, rfl⟩)).mono ?_
 rintro v post ⟨md', rest, ⟨r, c, l2, rfl, h, ho⟩, rfl⟩
 cases h
 exact ⟨r, c, l2, rfl, rfl, ho⟩
theorem mdEvict_ok (w0 : World) (p q n t : Nat) (M : MemM) (l : K.Cs) (x : MemAt l p q n t M) (i : Int) (hi : isInt i) :
  K.GC Tryz.prog w0 83 #[K.pa q, K.iv i] [l] (fun v post => (v = K.iv 0 ∧ (0 ≤ i ∧ i < n) ∧ ∃ l', post = [l'] ∧ MemAt l' p q n t { M with dev := M.dev.back i.toNat }) ∨ (v = K.iv 5 ∧ ¬(0 ≤ i ∧ i < n) ∧ post = [l])) := by
 obtain ⟨mg, mp, md, pa, np, cp, rfl, hmg, hmp, hmd, hnp, hn18⟩ := x
 refine (K.GC.in3 (dvEvict_ok w0 q n t M.dev md hmd i hi) (by rintro v post (⟨_, _, _, rfl, _⟩ | ⟨_, _, rfl⟩) <;> exact ⟨_, _, rfl⟩)).mono ?_
 rintro v post ⟨md', rest, ⟨rfl, hr, l', h, hx⟩ | ⟨rfl, hr, h⟩, rfl⟩ <;> cases h
 ·exact .inl ⟨rfl, hr, _, rfl, _, _, _, _, _, _, rfl, hmg, hmp, hx, hnp, hn18⟩
 ·exact .inr ⟨rfl, hr, rfl⟩
theorem mPeekP_ok (w0 : World) (p q n t : Nat) (M : MemM) (l : K.Cs) (x : MemAt l p q n t M) (i : Int) (hi : isInt i) (j : Nat) (hj : j < M.pass.length) (e : i = -1 - j) :
  K.GC Tryz.prog w0 36 #[K.pa p, K.iv i] [l] (fun v post => v = .tuple #[.int .u64 (M.pass.getD j 0), .bool true] ∧ post = [l]) := by
 refine (mPeek_ok w0 p q n t M l x i hi).mono ?_
 have h0 : M.peek n i = some (M.pass.getD j 0) := by rw [peek_pass (by omega), show (-1 - i).toNat = j by omega]
 rintro v post ⟨rfl, ⟨y, rfl, h⟩ | ⟨rfl, h⟩⟩
 ·rw [h0] at h; cases h; exact ⟨rfl, rfl⟩
 ·rw [h0] at h; cases h
set_option maxHeartbeats 1000000 in
set_option maxRecDepth 100000 in
theorem do7_ok (w0 : World) (p q n t : Nat) (M : MemM) (l : K.Cs) (x : MemAt l p q n t M) (a : ActP) (ha : a.good) :
  K.GC Tryz.prog w0 24 #[K.pa p, .agg #[K.iv a.kind, K.iv a.thread, K.iv a.at_, .int .u64 a.old, .int .u64 a.w]] [l] (fun v post => ∃ l', v = .tuple #[] ∧ post = [l'] ∧ MemAt l' p q n t (act7 M n t a)) := by
 obtain ⟨hk, hth, hat⟩ := ha
 refine K.GC.mk (n := 59) Tryz.func24 rfl rfl [K.pa p, .agg #[K.iv a.kind, K.iv a.thread, K.iv a.at_, .int .u64 a.old, .int .u64 a.w]] rfl rfl ?_
 intro fr w hS
 replace hS : K.Sat w0 [l, fr] w := hS
 refine K.s (K.g ?_)
 refine K.l (K.OW.gnew 59 [K.iv a.kind, K.iv a.thread, K.iv a.at_, .int .u64 a.old, .int .u64 a.w] hS ?_)
 clear hS; intro w r_1 g_2 hg_3 hS
 refine K.z (K.t (K.s (K.g (K.q [K.pa r_1] ?_))))
 refine K.d (K.iv a.kind) ((hS.blk 0 rfl hg_3).cell rfl) ?_
 refine K.z (K.t ?_)
 refine K.KW.block ?_
 refine K.s (K.g ?_)
 by_cases h_4 : (a.kind : Int) = (1 : Int)
 ·
  refine K.ye (a.kind : Int) (1 : Int) h_4 ?_
  refine K.q [.bool true] (K.z (K.t (K.h (K.g (K.q [K.pa p, .pointer (some ⟨r_1, 1, none⟩)] ?_)))))
  refine K.d (K.iv a.thread) ((hS.blk 0 rfl hg_3).cell rfl) ?_
  refine K.q [.pointer (some ⟨r_1, 2, none⟩)] ?_
  refine K.d (K.iv a.at_) ((hS.blk 0 rfl hg_3).cell rfl) ?_
  refine K.l (K.OW.gcall hS [1] [0, 2] [K.pa p, K.iv a.thread, K.iv a.at_] (mLoad_ok _ _ _ _ _ _ _ x a.thread a.at_ (by omega)) ?_)
  clear hS; rintro _ _ w ⟨l_5, rfl, rfl, x_6⟩ hS
  replace hS : K.Sat w0 [l_5, g_2, fr] w := hS
  refine K.z ?_
  refine K.blk_normal ?_
  have e : act7 M n t a = ((M.accL n a.thread a.at_).1) := by unfold act7; (repeat' split) <;> first | rfl | omega
  refine ⟨.inl rfl, rfl, (.tuple #[]), K.res0 rfl, [l_5], ?_, hS.pick [0, 2]⟩
  exact ⟨_, rfl, rfl, by rw [e]; exact x_6⟩
 ·
  refine K.xe (a.kind : Int) (1 : Int) h_4 ?_
  refine K.q [.bool false] (K.z (K.t (K.f (K.s (K.g ?_)))))
  by_cases h_7 : (a.kind : Int) = (2 : Int)
  ·
   refine K.ye (a.kind : Int) (2 : Int) h_7 ?_
   refine K.q [.bool true] (K.z (K.t (K.h (K.g (K.q [K.pa p, .pointer (some ⟨r_1, 1, none⟩)] ?_)))))
   refine K.d (K.iv a.thread) ((hS.blk 0 rfl hg_3).cell rfl) ?_
   refine K.q [.pointer (some ⟨r_1, 2, none⟩)] ?_
   refine K.d (K.iv a.at_) ((hS.blk 0 rfl hg_3).cell rfl) ?_
   refine K.q [.pointer (some ⟨r_1, 4, none⟩)] ?_
   refine K.d (.int .u64 a.w) ((hS.blk 0 rfl hg_3).cell rfl) ?_
   refine K.l (K.OW.gcall hS [1] [0, 2] [K.pa p, K.iv a.thread, K.iv a.at_, .int .u64 a.w] (mStore_ok _ _ _ _ _ _ _ x a.thread a.at_ (by omega) a.w) ?_)
   clear hS; rintro _ _ w ⟨l_8, rfl, rfl, x_9⟩ hS
   replace hS : K.Sat w0 [l_8, g_2, fr] w := hS
   refine K.z ?_
   refine K.blk_normal ?_
   have e : act7 M n t a = ((M.accS n a.thread a.at_ a.w).1) := by unfold act7; (repeat' split) <;> first | rfl | omega
   refine ⟨.inl rfl, rfl, (.tuple #[]), K.res0 rfl, [l_8], ?_, hS.pick [0, 2]⟩
   exact ⟨_, rfl, rfl, by rw [e]; exact x_9⟩
  ·
   refine K.xe (a.kind : Int) (2 : Int) h_7 ?_
   refine K.q [.bool false] (K.z (K.t (K.f (K.s (K.g ?_)))))
   by_cases h_10 : (a.kind : Int) = (3 : Int)
   ·
    refine K.ye (a.kind : Int) (3 : Int) h_10 ?_
    refine K.q [.bool true] (K.z (K.t (K.h (K.g (K.q [K.pa p, .pointer (some ⟨r_1, 1, none⟩)] ?_)))))
    refine K.d (K.iv a.thread) ((hS.blk 0 rfl hg_3).cell rfl) ?_
    refine K.q [.pointer (some ⟨r_1, 2, none⟩)] ?_
    refine K.d (K.iv a.at_) ((hS.blk 0 rfl hg_3).cell rfl) ?_
    refine K.q [.pointer (some ⟨r_1, 3, none⟩)] ?_
    refine K.d (.int .u64 a.old) ((hS.blk 0 rfl hg_3).cell rfl) ?_
    refine K.q [.pointer (some ⟨r_1, 4, none⟩)] ?_
    refine K.d (.int .u64 a.w) ((hS.blk 0 rfl hg_3).cell rfl) ?_
    refine K.l (K.OW.gcall hS [1] [0, 2] [K.pa p, K.iv a.thread, K.iv a.at_, .int .u64 a.old, .int .u64 a.w] (mSwap_ok _ _ _ _ _ _ _ x a.thread a.at_ (by omega) a.old a.w) ?_)
    clear hS; rintro _ _ w ⟨l_11, rfl, rfl, x_12⟩ hS
    replace hS : K.Sat w0 [l_11, g_2, fr] w := hS
    refine K.z ?_
    refine K.blk_normal ?_
    have e : act7 M n t a = ((M.accW n a.thread a.at_ a.old a.w).1) := by unfold act7; (repeat' split) <;> first | rfl | omega
    refine ⟨.inl rfl, rfl, (.tuple #[]), K.res0 rfl, [l_11], ?_, hS.pick [0, 2]⟩
    exact ⟨_, rfl, rfl, by rw [e]; exact x_12⟩
   ·
    refine K.xe (a.kind : Int) (3 : Int) h_10 ?_
    refine K.q [.bool false] (K.z (K.t (K.f (K.s (K.g ?_)))))
    by_cases h_13 : (a.kind : Int) = (4 : Int)
    ·
     refine K.ye (a.kind : Int) (4 : Int) h_13 ?_
     refine K.q [.bool true] (K.z (K.t (K.h (K.g (K.q [K.pa p, .pointer (some ⟨r_1, 1, none⟩)] ?_)))))
     refine K.d (K.iv a.thread) ((hS.blk 0 rfl hg_3).cell rfl) ?_
     refine K.q [.pointer (some ⟨r_1, 2, none⟩)] ?_
     refine K.d (K.iv a.at_) ((hS.blk 0 rfl hg_3).cell rfl) ?_
     refine K.l (K.OW.gcall hS [1] [0, 2] [K.pa p, K.iv a.thread, K.iv a.at_] (mFlush_ok _ _ _ _ _ _ _ x a.thread (by omega) a.at_ (by omega)) ?_)
     clear hS; rintro _ _ w ⟨l_14, rfl, rfl, x_15⟩ hS
     replace hS : K.Sat w0 [l_14, g_2, fr] w := hS
     refine K.z ?_
     refine K.blk_normal ?_
     have e : act7 M n t a = ((M.accF n t a.thread a.at_).1) := by unfold act7; (repeat' split) <;> first | rfl | omega
     refine ⟨.inl rfl, rfl, (.tuple #[]), K.res0 rfl, [l_14], ?_, hS.pick [0, 2]⟩
     exact ⟨_, rfl, rfl, by rw [e]; exact x_15⟩
    ·
     refine K.xe (a.kind : Int) (4 : Int) h_13 ?_
     refine K.q [.bool false] (K.z (K.t (K.f (K.s (K.g ?_)))))
     by_cases h_16 : (a.kind : Int) = (5 : Int)
     ·
      refine K.ye (a.kind : Int) (5 : Int) h_16 ?_
      refine K.q [.bool true] (K.z (K.t (K.h (K.g (K.q [K.pa p, .pointer (some ⟨r_1, 1, none⟩)] ?_)))))
      refine K.d (K.iv a.thread) ((hS.blk 0 rfl hg_3).cell rfl) ?_
      refine K.l (K.OW.gcall hS [1] [0, 2] [K.pa p, K.iv a.thread] (mFence_ok _ _ _ _ _ _ _ x a.thread (by omega)) ?_)
      clear hS; rintro _ _ w ⟨l_17, rfl, rfl, x_18⟩ hS
      replace hS : K.Sat w0 [l_17, g_2, fr] w := hS
      refine K.z ?_
      refine K.blk_normal ?_
      have e : act7 M n t a = ((M.accE t a.thread).1) := by unfold act7; (repeat' split) <;> first | rfl | omega
      refine ⟨.inl rfl, rfl, (.tuple #[]), K.res0 rfl, [l_17], ?_, hS.pick [0, 2]⟩
      exact ⟨_, rfl, rfl, by rw [e]; exact x_18⟩
     ·
      refine K.xe (a.kind : Int) (5 : Int) h_16 ?_
      refine K.q [.bool false] (K.z (K.t (K.f (K.s (K.g ?_)))))
      by_cases h_19 : (a.kind : Int) = (6 : Int)
      ·
       refine K.ye (a.kind : Int) (6 : Int) h_19 ?_
       refine K.q [.bool true] (K.z (K.t (K.h ?_)))
       refine K.KW.gdrawn [0] hS (by kernel_rfl) ?_
       clear hS; intro w hS
       refine K.p 0 rfl (K.pa p) (hS.pick [0]) ?_
       refine K.p 2 rfl (.pointer (some ⟨r_1, 2, none⟩)) (hS.pick [0]) ?_
       refine K.o_ 3 rfl (K.iv a.at_) (fun w hS => ((hS.blk 0 rfl hg_3).cell rfl)) (hS.pick [0]) ?_
       refine K.DW.l 1 rfl (by kernel_rfl) rfl (K.OW.gcall hS [1] [0, 2] [K.pa p] (mDevice_ok _ _ _ _ _ _ _ x ) ?_)
       clear hS; rintro _ _ w ⟨rfl, rfl⟩ hS
       replace hS : K.Sat w0 [l, g_2, fr] w := hS
       refine ⟨.inl (hS.pick [1]), ?_⟩
       refine K.DW.l 4 rfl (by kernel_rfl) rfl (K.OW.gcall hS [0] [1, 2] [K.pa q, K.iv a.at_] (mdEvict_ok _ _ _ _ _ _ _ x a.at_ (by omega)) ?_)
       clear hS; rintro _ _ w (⟨rfl, h_20, l_21, rfl, x_22⟩ | ⟨rfl, h_23, rfl⟩) hS
       ·
        replace hS : K.Sat w0 [l_21, g_2, fr] w := hS
        refine ⟨.inr (by kernel_rfl), ?_⟩
        refine K.DW.done (by kernel_rfl) ?_
        refine K.blk_normal ?_
        have e : act7 M n t a = ({ M with dev := M.dev.back a.at_.toNat } : MemM) := by unfold act7; (repeat' split) <;> first | rfl | omega
        refine ⟨.inl rfl, rfl, (.tuple #[]), K.res0 rfl, [l_21], ?_, hS.pick [0, 2]⟩
        exact ⟨_, rfl, rfl, by rw [e]; exact x_22⟩
       ·
        replace hS : K.Sat w0 [l, g_2, fr] w := hS
        refine ⟨.inr (by kernel_rfl), ?_⟩
        refine K.DW.done (by kernel_rfl) ?_
        refine K.blk_normal ?_
        have e : act7 M n t a = M := by unfold act7; (repeat' split) <;> first | rfl | omega
        refine ⟨.inl rfl, rfl, (.tuple #[]), K.res0 rfl, [l], ?_, hS.pick [0, 2]⟩
        exact ⟨_, rfl, rfl, by rw [e]; exact x⟩
      ·
       refine K.xe (a.kind : Int) (6 : Int) h_19 ?_
       refine K.q [.bool false] (K.z (K.t (K.f (K.g (K.q [K.pa p] ?_)))))
       refine K.l (K.OW.gcall hS [1] [0, 2] [K.pa p] (mCrash_ok _ _ _ _ _ _ _ x ) ?_)
       clear hS; rintro _ _ w ⟨l_24, rfl, rfl, x_25⟩ hS
       replace hS : K.Sat w0 [l_24, g_2, fr] w := hS
       refine K.z ?_
       refine K.blk_normal ?_
       have e : act7 M n t a = M.crash := by unfold act7; (repeat' split) <;> first | rfl | omega
       refine ⟨.inl rfl, rfl, (.tuple #[]), K.res0 rfl, [l_24], ?_, hS.pick [0, 2]⟩
       exact ⟨_, rfl, rfl, by rw [e]; exact x_25⟩
set_option maxHeartbeats 1000000 in
set_option maxRecDepth 100000 in
theorem must7_1 (w0 : World) (p q n t : Nat) (M : MemM) (l : K.Cs) (x : RMemAt l p q n t M) (a : ActP) (ha : a.good) (e0 : a.kind = 1) :
  K.GC Tryz.prog w0 25 #[K.pa p, .agg #[K.iv 1, K.iv a.thread, K.iv a.at_, .int .u64 a.old, .int .u64 a.w]] [l] (fun v post => ∃ l', v = .tuple #[] ∧ post = [l'] ∧ RMemAt l' p q n t (act7 M n t a)) := by
 obtain ⟨hk, hth, hat⟩ := ha
 refine K.GC.mk (n := 36) Tryz.func25 rfl rfl [K.pa p, .agg #[K.iv 1, K.iv a.thread, K.iv a.at_, .int .u64 a.old, .int .u64 a.w]] rfl rfl ?_
 intro fr w hS
 replace hS : K.Sat w0 [l, fr] w := hS
 refine K.s (K.g ?_)
 refine K.l (K.OW.gnew 59 [K.iv 1, K.iv a.thread, K.iv a.at_, .int .u64 a.old, .int .u64 a.w] hS ?_)
 clear hS; intro w r_1 g_2 hg_3 hS
 refine K.z (K.t (K.s (K.s (K.g (K.q [K.pa r_1] ?_)))))
 refine K.d (K.iv 1) ((hS.blk 0 rfl hg_3).cell rfl) ?_
 refine K.q [.bool true, .bool true, K.pa r_1] ?_
 refine K.d (K.iv 1) ((hS.blk 0 rfl hg_3).cell rfl) ?_
 refine K.q [.bool true, .bool true] (K.z (K.t (K.h (K.s (K.g (K.q [K.pa p, K.pa r_1] ?_))))))
 refine K.d (K.iv 1) ((hS.blk 0 rfl hg_3).cell rfl) ?_
 refine K.q [.pointer (some ⟨r_1, 1, none⟩)] ?_
 refine K.d (K.iv a.thread) ((hS.blk 0 rfl hg_3).cell rfl) ?_
 refine K.q [.pointer (some ⟨r_1, 2, none⟩)] ?_
 refine K.d (K.iv a.at_) ((hS.blk 0 rfl hg_3).cell rfl) ?_
 refine K.q [.pointer (some ⟨r_1, 3, none⟩)] ?_
 refine K.d (.int .u64 a.old) ((hS.blk 0 rfl hg_3).cell rfl) ?_
 refine K.q [.pointer (some ⟨r_1, 4, none⟩)] ?_
 refine K.d (.int .u64 a.w) ((hS.blk 0 rfl hg_3).cell rfl) ?_
 refine K.l (K.OW.gcall hS [1] [0, 2] [K.pa p, K.iv 1, K.iv a.thread, K.iv a.at_, .int .u64 a.old, .int .u64 a.w] (rmDo1_ok _ _ _ _ _ _ _ x a.thread a.at_ a.old a.w (by omega) (by omega)) ?_)
 clear hS; rintro _ _ w ⟨l_4, rfl, rfl, x_5⟩ hS
 replace hS : K.Sat w0 [l_4, g_2, fr] w := hS
 refine K.z (K.t (K.r (K.u ?_)))
 have e : act7 M n t a = ((M.accL n a.thread a.at_).1) := by unfold act7; (repeat' split) <;> first | rfl | omega
 refine ⟨.inr rfl, rfl, (.tuple #[]), K.res0 rfl, [l_4], ?_, hS.pick [0, 2]⟩
 exact ⟨_, rfl, rfl, by rw [e]; exact x_5⟩
set_option maxHeartbeats 1000000 in
set_option maxRecDepth 100000 in
theorem must7_2 (w0 : World) (p q n t : Nat) (M : MemM) (l : K.Cs) (x : RMemAt l p q n t M) (a : ActP) (ha : a.good) (e0 : a.kind = 2) :
  K.GC Tryz.prog w0 25 #[K.pa p, .agg #[K.iv 2, K.iv a.thread, K.iv a.at_, .int .u64 a.old, .int .u64 a.w]] [l] (fun v post => ∃ l', v = .tuple #[] ∧ post = [l'] ∧ RMemAt l' p q n t (act7 M n t a)) := by
 obtain ⟨hk, hth, hat⟩ := ha
 refine K.GC.mk (n := 36) Tryz.func25 rfl rfl [K.pa p, .agg #[K.iv 2, K.iv a.thread, K.iv a.at_, .int .u64 a.old, .int .u64 a.w]] rfl rfl ?_
 intro fr w hS
 replace hS : K.Sat w0 [l, fr] w := hS
 refine K.s (K.g ?_)
 refine K.l (K.OW.gnew 59 [K.iv 2, K.iv a.thread, K.iv a.at_, .int .u64 a.old, .int .u64 a.w] hS ?_)
 clear hS; intro w r_1 g_2 hg_3 hS
 refine K.z (K.t (K.s (K.s (K.g (K.q [K.pa r_1] ?_)))))
 refine K.d (K.iv 2) ((hS.blk 0 rfl hg_3).cell rfl) ?_
 refine K.q [.bool true, .bool true, K.pa r_1] ?_
 refine K.d (K.iv 2) ((hS.blk 0 rfl hg_3).cell rfl) ?_
 refine K.q [.bool true, .bool true] (K.z (K.t (K.h (K.s (K.g (K.q [K.pa p, K.pa r_1] ?_))))))
 refine K.d (K.iv 2) ((hS.blk 0 rfl hg_3).cell rfl) ?_
 refine K.q [.pointer (some ⟨r_1, 1, none⟩)] ?_
 refine K.d (K.iv a.thread) ((hS.blk 0 rfl hg_3).cell rfl) ?_
 refine K.q [.pointer (some ⟨r_1, 2, none⟩)] ?_
 refine K.d (K.iv a.at_) ((hS.blk 0 rfl hg_3).cell rfl) ?_
 refine K.q [.pointer (some ⟨r_1, 3, none⟩)] ?_
 refine K.d (.int .u64 a.old) ((hS.blk 0 rfl hg_3).cell rfl) ?_
 refine K.q [.pointer (some ⟨r_1, 4, none⟩)] ?_
 refine K.d (.int .u64 a.w) ((hS.blk 0 rfl hg_3).cell rfl) ?_
 refine K.l (K.OW.gcall hS [1] [0, 2] [K.pa p, K.iv 2, K.iv a.thread, K.iv a.at_, .int .u64 a.old, .int .u64 a.w] (rmDo2_ok _ _ _ _ _ _ _ x a.thread a.at_ a.old a.w (by omega) (by omega)) ?_)
 clear hS; rintro _ _ w ⟨l_4, rfl, rfl, x_5⟩ hS
 replace hS : K.Sat w0 [l_4, g_2, fr] w := hS
 refine K.z (K.t (K.r (K.u ?_)))
 have e : act7 M n t a = ((M.accS n a.thread a.at_ a.w).1) := by unfold act7; (repeat' split) <;> first | rfl | omega
 refine ⟨.inr rfl, rfl, (.tuple #[]), K.res0 rfl, [l_4], ?_, hS.pick [0, 2]⟩
 exact ⟨_, rfl, rfl, by rw [e]; exact x_5⟩
set_option maxHeartbeats 1000000 in
set_option maxRecDepth 100000 in
theorem must7_3 (w0 : World) (p q n t : Nat) (M : MemM) (l : K.Cs) (x : RMemAt l p q n t M) (a : ActP) (ha : a.good) (e0 : a.kind = 3) :
  K.GC Tryz.prog w0 25 #[K.pa p, .agg #[K.iv 3, K.iv a.thread, K.iv a.at_, .int .u64 a.old, .int .u64 a.w]] [l] (fun v post => ∃ l', v = .tuple #[] ∧ post = [l'] ∧ RMemAt l' p q n t (act7 M n t a)) := by
 obtain ⟨hk, hth, hat⟩ := ha
 refine K.GC.mk (n := 36) Tryz.func25 rfl rfl [K.pa p, .agg #[K.iv 3, K.iv a.thread, K.iv a.at_, .int .u64 a.old, .int .u64 a.w]] rfl rfl ?_
 intro fr w hS
 replace hS : K.Sat w0 [l, fr] w := hS
 refine K.s (K.g ?_)
 refine K.l (K.OW.gnew 59 [K.iv 3, K.iv a.thread, K.iv a.at_, .int .u64 a.old, .int .u64 a.w] hS ?_)
 clear hS; intro w r_1 g_2 hg_3 hS
 refine K.z (K.t (K.s (K.s (K.g (K.q [K.pa r_1] ?_)))))
 refine K.d (K.iv 3) ((hS.blk 0 rfl hg_3).cell rfl) ?_
 refine K.q [.bool true, .bool true, K.pa r_1] ?_
 refine K.d (K.iv 3) ((hS.blk 0 rfl hg_3).cell rfl) ?_
 refine K.q [.bool true, .bool true] (K.z (K.t (K.h (K.s (K.g (K.q [K.pa p, K.pa r_1] ?_))))))
 refine K.d (K.iv 3) ((hS.blk 0 rfl hg_3).cell rfl) ?_
 refine K.q [.pointer (some ⟨r_1, 1, none⟩)] ?_
 refine K.d (K.iv a.thread) ((hS.blk 0 rfl hg_3).cell rfl) ?_
 refine K.q [.pointer (some ⟨r_1, 2, none⟩)] ?_
 refine K.d (K.iv a.at_) ((hS.blk 0 rfl hg_3).cell rfl) ?_
 refine K.q [.pointer (some ⟨r_1, 3, none⟩)] ?_
 refine K.d (.int .u64 a.old) ((hS.blk 0 rfl hg_3).cell rfl) ?_
 refine K.q [.pointer (some ⟨r_1, 4, none⟩)] ?_
 refine K.d (.int .u64 a.w) ((hS.blk 0 rfl hg_3).cell rfl) ?_
 refine K.l (K.OW.gcall hS [1] [0, 2] [K.pa p, K.iv 3, K.iv a.thread, K.iv a.at_, .int .u64 a.old, .int .u64 a.w] (rmDo3_ok _ _ _ _ _ _ _ x a.thread a.at_ a.old a.w (by omega) (by omega)) ?_)
 clear hS; rintro _ _ w ⟨l_4, rfl, rfl, x_5⟩ hS
 replace hS : K.Sat w0 [l_4, g_2, fr] w := hS
 refine K.z (K.t (K.r (K.u ?_)))
 have e : act7 M n t a = ((M.accW n a.thread a.at_ a.old a.w).1) := by unfold act7; (repeat' split) <;> first | rfl | omega
 refine ⟨.inr rfl, rfl, (.tuple #[]), K.res0 rfl, [l_4], ?_, hS.pick [0, 2]⟩
 exact ⟨_, rfl, rfl, by rw [e]; exact x_5⟩
set_option maxHeartbeats 1000000 in
set_option maxRecDepth 100000 in
theorem must7_4 (w0 : World) (p q n t : Nat) (M : MemM) (l : K.Cs) (x : RMemAt l p q n t M) (a : ActP) (ha : a.good) (e0 : a.kind = 4) :
  K.GC Tryz.prog w0 25 #[K.pa p, .agg #[K.iv 4, K.iv a.thread, K.iv a.at_, .int .u64 a.old, .int .u64 a.w]] [l] (fun v post => ∃ l', v = .tuple #[] ∧ post = [l'] ∧ RMemAt l' p q n t (act7 M n t a)) := by
 obtain ⟨hk, hth, hat⟩ := ha
 refine K.GC.mk (n := 36) Tryz.func25 rfl rfl [K.pa p, .agg #[K.iv 4, K.iv a.thread, K.iv a.at_, .int .u64 a.old, .int .u64 a.w]] rfl rfl ?_
 intro fr w hS
 replace hS : K.Sat w0 [l, fr] w := hS
 refine K.s (K.g ?_)
 refine K.l (K.OW.gnew 59 [K.iv 4, K.iv a.thread, K.iv a.at_, .int .u64 a.old, .int .u64 a.w] hS ?_)
 clear hS; intro w r_1 g_2 hg_3 hS
 refine K.z (K.t (K.s (K.s (K.g (K.q [K.pa r_1] ?_)))))
 refine K.d (K.iv 4) ((hS.blk 0 rfl hg_3).cell rfl) ?_
 refine K.q [.bool true, .bool true, K.pa r_1] ?_
 refine K.d (K.iv 4) ((hS.blk 0 rfl hg_3).cell rfl) ?_
 refine K.q [.bool true, .bool true] (K.z (K.t (K.h (K.s (K.g (K.q [K.pa p, K.pa r_1] ?_))))))
 refine K.d (K.iv 4) ((hS.blk 0 rfl hg_3).cell rfl) ?_
 refine K.q [.pointer (some ⟨r_1, 1, none⟩)] ?_
 refine K.d (K.iv a.thread) ((hS.blk 0 rfl hg_3).cell rfl) ?_
 refine K.q [.pointer (some ⟨r_1, 2, none⟩)] ?_
 refine K.d (K.iv a.at_) ((hS.blk 0 rfl hg_3).cell rfl) ?_
 refine K.q [.pointer (some ⟨r_1, 3, none⟩)] ?_
 refine K.d (.int .u64 a.old) ((hS.blk 0 rfl hg_3).cell rfl) ?_
 refine K.q [.pointer (some ⟨r_1, 4, none⟩)] ?_
 refine K.d (.int .u64 a.w) ((hS.blk 0 rfl hg_3).cell rfl) ?_
 refine K.l (K.OW.gcall hS [1] [0, 2] [K.pa p, K.iv 4, K.iv a.thread, K.iv a.at_, .int .u64 a.old, .int .u64 a.w] (rmDo4_ok _ _ _ _ _ _ _ x a.thread a.at_ a.old a.w (by omega) (by omega)) ?_)
 clear hS; rintro _ _ w ⟨l_4, rfl, rfl, x_5⟩ hS
 replace hS : K.Sat w0 [l_4, g_2, fr] w := hS
 refine K.z (K.t (K.r (K.u ?_)))
 have e : act7 M n t a = ((M.accF n t a.thread a.at_).1) := by unfold act7; (repeat' split) <;> first | rfl | omega
 refine ⟨.inr rfl, rfl, (.tuple #[]), K.res0 rfl, [l_4], ?_, hS.pick [0, 2]⟩
 exact ⟨_, rfl, rfl, by rw [e]; exact x_5⟩
set_option maxHeartbeats 1000000 in
set_option maxRecDepth 100000 in
theorem must7_5 (w0 : World) (p q n t : Nat) (M : MemM) (l : K.Cs) (x : RMemAt l p q n t M) (a : ActP) (ha : a.good) (e0 : a.kind = 5) :
  K.GC Tryz.prog w0 25 #[K.pa p, .agg #[K.iv 5, K.iv a.thread, K.iv a.at_, .int .u64 a.old, .int .u64 a.w]] [l] (fun v post => ∃ l', v = .tuple #[] ∧ post = [l'] ∧ RMemAt l' p q n t (act7 M n t a)) := by
 obtain ⟨hk, hth, hat⟩ := ha
 refine K.GC.mk (n := 36) Tryz.func25 rfl rfl [K.pa p, .agg #[K.iv 5, K.iv a.thread, K.iv a.at_, .int .u64 a.old, .int .u64 a.w]] rfl rfl ?_
 intro fr w hS
 replace hS : K.Sat w0 [l, fr] w := hS
 refine K.s (K.g ?_)
 refine K.l (K.OW.gnew 59 [K.iv 5, K.iv a.thread, K.iv a.at_, .int .u64 a.old, .int .u64 a.w] hS ?_)
 clear hS; intro w r_1 g_2 hg_3 hS
 refine K.z (K.t (K.s (K.s (K.g (K.q [K.pa r_1] ?_)))))
 refine K.d (K.iv 5) ((hS.blk 0 rfl hg_3).cell rfl) ?_
 refine K.q [.bool true, .bool true, K.pa r_1] ?_
 refine K.d (K.iv 5) ((hS.blk 0 rfl hg_3).cell rfl) ?_
 refine K.q [.bool true, .bool true] (K.z (K.t (K.h (K.s (K.g (K.q [K.pa p, K.pa r_1] ?_))))))
 refine K.d (K.iv 5) ((hS.blk 0 rfl hg_3).cell rfl) ?_
 refine K.q [.pointer (some ⟨r_1, 1, none⟩)] ?_
 refine K.d (K.iv a.thread) ((hS.blk 0 rfl hg_3).cell rfl) ?_
 refine K.q [.pointer (some ⟨r_1, 2, none⟩)] ?_
 refine K.d (K.iv a.at_) ((hS.blk 0 rfl hg_3).cell rfl) ?_
 refine K.q [.pointer (some ⟨r_1, 3, none⟩)] ?_
 refine K.d (.int .u64 a.old) ((hS.blk 0 rfl hg_3).cell rfl) ?_
 refine K.q [.pointer (some ⟨r_1, 4, none⟩)] ?_
 refine K.d (.int .u64 a.w) ((hS.blk 0 rfl hg_3).cell rfl) ?_
 refine K.l (K.OW.gcall hS [1] [0, 2] [K.pa p, K.iv 5, K.iv a.thread, K.iv a.at_, .int .u64 a.old, .int .u64 a.w] (rmDo5_ok _ _ _ _ _ _ _ x a.thread a.at_ a.old a.w (by omega) (by omega)) ?_)
 clear hS; rintro _ _ w ⟨l_4, rfl, rfl, x_5⟩ hS
 replace hS : K.Sat w0 [l_4, g_2, fr] w := hS
 refine K.z (K.t (K.r (K.u ?_)))
 have e : act7 M n t a = ((M.accE t a.thread).1) := by unfold act7; (repeat' split) <;> first | rfl | omega
 refine ⟨.inr rfl, rfl, (.tuple #[]), K.res0 rfl, [l_4], ?_, hS.pick [0, 2]⟩
 exact ⟨_, rfl, rfl, by rw [e]; exact x_5⟩
set_option maxHeartbeats 1000000 in
set_option maxRecDepth 100000 in
theorem must7_6 (w0 : World) (p q n t : Nat) (M : MemM) (l : K.Cs) (x : RMemAt l p q n t M) (a : ActP) (ha : a.good) (e0 : a.kind = 6) :
  K.GC Tryz.prog w0 25 #[K.pa p, .agg #[K.iv 6, K.iv a.thread, K.iv a.at_, .int .u64 a.old, .int .u64 a.w]] [l] (fun v post => ∃ l', v = .tuple #[] ∧ post = [l'] ∧ RMemAt l' p q n t (act7 M n t a)) := by
 obtain ⟨hk, hth, hat⟩ := ha
 refine K.GC.mk (n := 36) Tryz.func25 rfl rfl [K.pa p, .agg #[K.iv 6, K.iv a.thread, K.iv a.at_, .int .u64 a.old, .int .u64 a.w]] rfl rfl ?_
 intro fr w hS
 replace hS : K.Sat w0 [l, fr] w := hS
 refine K.s (K.g ?_)
 refine K.l (K.OW.gnew 59 [K.iv 6, K.iv a.thread, K.iv a.at_, .int .u64 a.old, .int .u64 a.w] hS ?_)
 clear hS; intro w r_1 g_2 hg_3 hS
 refine K.z (K.t (K.s (K.s (K.g (K.q [K.pa r_1] ?_)))))
 refine K.d (K.iv 6) ((hS.blk 0 rfl hg_3).cell rfl) ?_
 refine K.q [.bool true, .bool true, K.pa r_1] ?_
 refine K.d (K.iv 6) ((hS.blk 0 rfl hg_3).cell rfl) ?_
 refine K.q [.bool false, .bool false] (K.z (K.t (K.f (K.k (K.t (K.s (K.s (K.g (K.q [K.pa r_1] ?_)))))))))
 refine K.d (K.iv 6) ((hS.blk 0 rfl hg_3).cell rfl) ?_
 refine K.q [.bool true] (K.z (K.t (K.h (K.s ?_))))
 obtain ⟨rg, rp, rd, ra, rnp, rcp, rfl, hrg, hrp, hrd, hrnp, hrn18⟩ := x
 replace hS : K.Sat w0 [g_2, rg, rp, rd, fr] w := hS.of
 refine K.KW.gdrawn [1] hS (by kernel_rfl) ?_
 clear hS; intro w hS
 refine K.p 0 rfl (K.pa p) (hS.pick [1]) ?_
 refine K.p 1 rfl (K.pa p) (hS.pick [1]) ?_
 refine K.p 2 rfl (K.pa p) (hS.pick [1]) ?_
 refine K.o_ 3 rfl (K.pa q) (fun w hS => ((hS.blk 0 rfl hrg).cell rfl)) (hS.pick [1]) ?_
 refine K.b 4 rfl (.pointer (some ⟨r_1, 2, none⟩)) (hS.pick [1]) ?_
 refine K.c 5 rfl (K.QR.ld1 (v := K.iv a.at_) rfl rfl (by kernel_rfl) ((hS.blk 0 rfl hg_3).cell rfl)) (hS.pick [1]) ?_
 refine K.DW.l 6 rfl (by kernel_rfl) rfl (K.OW.gcall hS [3] [0, 1, 2, 4] [K.pa q, K.iv 2, K.iv 0, K.iv a.at_] (rdDo2_ok _ _ _ _ _ _ hrd 0 a.at_ (by omega) (by omega)) ?_)
 clear hS; rintro _ _ w (⟨rfl, h_4, l_5, rfl, x_6⟩ | ⟨rfl, h_7, rfl⟩) hS
 ·
  replace hS : K.Sat w0 [l_5, g_2, rg, rp, fr] w := hS
  refine ⟨.inl (hS.pick [2]), ?_⟩
  refine K.DW.done (by kernel_rfl) ?_
  refine K.t (K.r (K.u ?_))
  replace hS : K.Sat w0 [[rg, rp, l_5].flatten, g_2, fr] w := (hS.pick [2, 3, 0, 1, 4]).of
  have e : act7 M n t a = ({ M with dev := (M.dev.back a.at_.toNat) } : MemM) := by unfold act7; (repeat' split) <;> first | rfl | omega
  refine ⟨.inr rfl, rfl, (.tuple #[]), K.res0 rfl, [[rg, rp, l_5].flatten], ?_, hS.pick [0, 2]⟩
  exact ⟨_, rfl, rfl, by rw [e]; exact ⟨_, _, _, _, _, _, rfl, hrg, hrp, x_6, hrnp, hrn18⟩⟩
 ·
  replace hS : K.Sat w0 [rd, g_2, rg, rp, fr] w := hS
  refine ⟨.inl (hS.pick [2]), ?_⟩
  refine K.DW.done (by kernel_rfl) ?_
  refine K.t (K.r (K.u ?_))
  replace hS : K.Sat w0 [[rg, rp, rd].flatten, g_2, fr] w := (hS.pick [2, 3, 0, 1, 4]).of
  have e : act7 M n t a = (M : MemM) := by unfold act7; (repeat' split) <;> first | rfl | omega
  refine ⟨.inr rfl, rfl, (.tuple #[]), K.res0 rfl, [[rg, rp, rd].flatten], ?_, hS.pick [0, 2]⟩
  exact ⟨_, rfl, rfl, by rw [e]; exact ⟨_, _, _, _, _, _, rfl, hrg, hrp, hrd, hrnp, hrn18⟩⟩
set_option maxHeartbeats 1000000 in
set_option maxRecDepth 100000 in
theorem must7_no (w0 : World) (p q n t : Nat) (M : MemM) (l : K.Cs) (x : RMemAt l p q n t M) (a : ActP) (ha : a.good) (e0 : ¬(1 ≤ a.kind ∧ a.kind ≤ 6)) :
  K.GC Tryz.prog w0 25 #[K.pa p, .agg #[K.iv a.kind, K.iv a.thread, K.iv a.at_, .int .u64 a.old, .int .u64 a.w]] [l] (fun v post => ∃ l', v = .tuple #[] ∧ post = [l'] ∧ RMemAt l' p q n t (act7 M n t a)) := by
 obtain ⟨hk, hth, hat⟩ := ha
 refine K.GC.mk (n := 36) Tryz.func25 rfl rfl [K.pa p, .agg #[K.iv a.kind, K.iv a.thread, K.iv a.at_, .int .u64 a.old, .int .u64 a.w]] rfl rfl ?_
 intro fr w hS
 replace hS : K.Sat w0 [l, fr] w := hS
 refine K.s (K.g ?_)
 refine K.l (K.OW.gnew 59 [K.iv a.kind, K.iv a.thread, K.iv a.at_, .int .u64 a.old, .int .u64 a.w] hS ?_)
 clear hS; intro w r_1 g_2 hg_3 hS
 refine K.z (K.t (K.s (K.s (K.g (K.q [K.pa r_1] ?_)))))
 refine K.d (K.iv a.kind) ((hS.blk 0 rfl hg_3).cell rfl) ?_
 by_cases h_4 : (a.kind : Int) ≥ (1 : Int)
 ·
  refine K.y ((a.kind : Int) ≥ (1 : Int)) h_4 ?_
  refine K.q [.bool true, K.pa r_1] ?_
  refine K.d (K.iv a.kind) ((hS.blk 0 rfl hg_3).cell rfl) ?_
  by_cases h_5 : (a.kind : Int) ≤ (5 : Int)
  ·
   refine K.y ((a.kind : Int) ≤ (5 : Int)) h_5 ?_
   refine K.q [.bool true] (K.z (K.t (K.h (K.s ?_))))
   exfalso
   omega
  ·
   refine K.x ((a.kind : Int) ≤ (5 : Int)) h_5 ?_
   refine K.q [.bool false] (K.z (K.t (K.f (K.k (K.t (K.s (K.s (K.g (K.q [K.pa r_1] ?_)))))))))
   refine K.d (K.iv a.kind) ((hS.blk 0 rfl hg_3).cell rfl) ?_
   by_cases h_6 : (a.kind : Int) = (6 : Int)
   ·
    refine K.ye (a.kind : Int) (6 : Int) h_6 ?_
    refine K.z (K.t (K.h (K.s ?_)))
    exfalso
    omega
   ·
    refine K.xe (a.kind : Int) (6 : Int) h_6 ?_
    refine K.z (K.t (K.f (K.k (K.t (K.g (K.q [K.pa p] ?_))))))
    refine K.l (K.OW.gcall hS [1] [0, 2] [K.pa p] (rmCrash_ok _ _ _ _ _ _ _ x ) ?_)
    clear hS; rintro _ _ w ⟨l_7, rfl, rfl, x_8⟩ hS
    replace hS : K.Sat w0 [l_7, g_2, fr] w := hS
    refine K.z ?_
    have e : act7 M n t a = M.crash := by unfold act7; (repeat' split) <;> first | rfl | omega
    refine ⟨.inl rfl, rfl, (.tuple #[]), K.res0 rfl, [l_7], ?_, hS.pick [0, 2]⟩
    exact ⟨_, rfl, rfl, by rw [e]; exact x_8⟩
 ·
  refine K.x ((a.kind : Int) ≥ (1 : Int)) h_4 ?_
  refine K.q [.bool false] (K.n_ (K.n_ (K.n_ (K.q [.bool false] (K.z (K.t (K.f (K.k (K.t (K.s (K.s (K.g (K.q [K.pa r_1] ?_)))))))))))))
  refine K.d (K.iv a.kind) ((hS.blk 0 rfl hg_3).cell rfl) ?_
  by_cases h_9 : (a.kind : Int) = (6 : Int)
  ·
   refine K.ye (a.kind : Int) (6 : Int) h_9 ?_
   refine K.z (K.t (K.h (K.s ?_)))
   exfalso
   omega
  ·
   refine K.xe (a.kind : Int) (6 : Int) h_9 ?_
   refine K.z (K.t (K.f (K.k (K.t (K.g (K.q [K.pa p] ?_))))))
   refine K.l (K.OW.gcall hS [1] [0, 2] [K.pa p] (rmCrash_ok _ _ _ _ _ _ _ x ) ?_)
   clear hS; rintro _ _ w ⟨l_10, rfl, rfl, x_11⟩ hS
   replace hS : K.Sat w0 [l_10, g_2, fr] w := hS
   refine K.z ?_
   have e : act7 M n t a = M.crash := by unfold act7; (repeat' split) <;> first | rfl | omega
   refine ⟨.inl rfl, rfl, (.tuple #[]), K.res0 rfl, [l_10], ?_, hS.pick [0, 2]⟩
   exact ⟨_, rfl, rfl, by rw [e]; exact x_11⟩
theorem must7_ok (w0 : World) (p q n t : Nat) (M : MemM) (l : K.Cs) (x : RMemAt l p q n t M) (a : ActP) (ha : a.good) :
  K.GC Tryz.prog w0 25 #[K.pa p, .agg #[K.iv a.kind, K.iv a.thread, K.iv a.at_, .int .u64 a.old, .int .u64 a.w]] [l] (fun v post => ∃ l', v = .tuple #[] ∧ post = [l'] ∧ RMemAt l' p q n t (act7 M n t a)) := by
 by_cases h1 : a.kind = 1
 ·rw [h1]; exact must7_1 w0 p q n t M l x a ha h1
 by_cases h2 : a.kind = 2
 ·rw [h2]; exact must7_2 w0 p q n t M l x a ha h2
 by_cases h3 : a.kind = 3
 ·rw [h3]; exact must7_3 w0 p q n t M l x a ha h3
 by_cases h4 : a.kind = 4
 ·rw [h4]; exact must7_4 w0 p q n t M l x a ha h4
 by_cases h5 : a.kind = 5
 ·rw [h5]; exact must7_5 w0 p q n t M l x a ha h5
 by_cases h6 : a.kind = 6
 ·rw [h6]; exact must7_6 w0 p q n t M l x a ha h6
 exact must7_no w0 p q n t M l x a ha (by omega)
set_option maxHeartbeats 1000000 in
set_option maxRecDepth 100000 in
theorem same7_ok (w0 : World) (p q r u n t : Nat) (M : MemM) (l m : K.Cs) (x : MemAt l p q n t M) (y : RMemAt m r u n t M) :
  K.GC Tryz.prog w0 26 #[K.pa p, K.pa r] [l, m] (fun v post => v = .bool true ∧ post = [l, m]) := by
 refine K.GC.mk (n := 90) Tryz.func26 rfl rfl [K.pa p, K.pa r] rfl rfl ?_
 intro fr w hS
 replace hS : K.Sat w0 [l, m, fr] w := hS
 obtain ⟨rg, rp, rd, ra, rnp, rcp, rfl, hrg, hrp, hrd, hrnp, hrn18⟩ := y
 replace hS : K.Sat w0 [l, rg, rp, rd, fr] w := hS.of
 obtain ⟨g, gk, gs, gw, gf, gz, vs, ka, sa, wa, fa, ck, cs, cw, cf, rfl, hg, ok, os, ow, of, lv, oz, dk⟩ := hrd
 have dk2 := dk; obtain ⟨lk, ls, lw, lf, lB, n0, n1, t0, t1⟩ := dk2
 replace hS : K.Sat w0 [l, rg, rp, g, gk, gs, gw, gf, gz, fr] w := hS.of
 refine K.s (K.g (K.q [.bool false] (K.z (K.t (K.s (K.s ?_))))))
 refine K.KW.gdrawn [1, 3] hS (by kernel_rfl) ?_
 clear hS; intro w hS
 refine K.p 0 rfl (K.pa p) (hS.pick [1, 3]) ?_
 refine K.p 2 rfl (K.pa r) (hS.pick [1, 3]) ?_
 refine K.p 3 rfl (K.pa r) (hS.pick [1, 3]) ?_
 refine K.p 4 rfl (.pointer (some ⟨r, 2, none⟩)) (hS.pick [1, 3]) ?_
 refine K.o_ 5 rfl (K.iv M.clock) (fun w hS => ((hS.blk 0 rfl hrg).cell rfl)) (hS.pick [1, 3]) ?_
 refine K.DW.l 1 rfl (by kernel_rfl) rfl (K.OW.gcall hS [0] [1, 2, 3, 4, 5, 6, 7, 8, 9] [K.pa p] (mClock_ok _ _ _ _ _ _ _ x ) ?_)
 clear hS; rintro _ _ w ⟨rfl, rfl⟩ hS
 replace hS : K.Sat w0 [l, rg, rp, g, gk, gs, gw, gf, gz, fr] w := hS
 refine ⟨.inl (hS.pick [1, 3]), ?_⟩
 refine K.c 6 rfl (K.QR.nice (v := .bool ((M.clock : Int) != (M.clock : Int))) (by kernel_rfl) (congrArg Value.bool (bne_eq_false_iff_eq.2 (rfl)))) (hS.pick [1, 3]) ?_
 refine K.b 7 rfl (.bool false) (hS.pick [1, 3]) ?_
 refine K.p 8 rfl (K.pa p) (hS.pick [1, 3]) ?_
 refine K.p 10 rfl (K.pa r) (hS.pick [1, 3]) ?_
 refine K.p 11 rfl (K.pa r) (hS.pick [1, 3]) ?_
 refine K.p 12 rfl (.pointer (some ⟨r, 3, none⟩)) (hS.pick [1, 3]) ?_
 refine K.o_ 13 rfl (K.iv M.bad) (fun w hS => ((hS.blk 0 rfl hrg).cell rfl)) (hS.pick [1, 3]) ?_
 refine K.DW.l 9 rfl (by kernel_rfl) (by kernel_rfl) (K.OW.gcall hS [0] [1, 2, 3, 4, 5, 6, 7, 8, 9] [K.pa p] (mBad_ok _ _ _ _ _ _ _ x ) ?_)
 clear hS; rintro _ _ w ⟨rfl, rfl⟩ hS
 replace hS : K.Sat w0 [l, rg, rp, g, gk, gs, gw, gf, gz, fr] w := hS
 refine ⟨.inl (hS.pick [1, 3]), ?_⟩
 refine K.c 14 rfl (K.QR.nice (v := .bool ((M.bad : Int) != (M.bad : Int))) (by kernel_rfl) (congrArg Value.bool (bne_eq_false_iff_eq.2 (rfl)))) (hS.pick [1, 3]) ?_
 refine K.b 15 rfl (.bool false) (hS.pick [1, 3]) ?_
 refine K.b 16 rfl (.bool false) (hS.pick [1, 3]) ?_
 refine K.p 17 rfl (K.pa p) (hS.pick [1, 3]) ?_
 refine K.p 19 rfl (K.pa r) (hS.pick [1, 3]) ?_
 refine K.p 20 rfl (K.pa r) (hS.pick [1, 3]) ?_
 refine K.p 21 rfl (.pointer (some ⟨r, 4, none⟩)) (hS.pick [1, 3]) ?_
 refine K.m 22 rfl (fun w hS => K.QR.ldN [K.iv M.last.kind, K.iv M.last.thread, K.iv M.last.at_, .int .u64 M.last.old, .int .u64 M.last.new, .bool M.last.done] rfl rfl (by kernel_rfl) (by kernel_rfl) (K.cells (K.cl ((hS.blk 0 rfl hrg).cell rfl) (K.cl ((hS.blk 0 rfl hrg).cell rfl) (K.cl ((hS.blk 0 rfl hrg).cell rfl) (K.cl ((hS.blk 0 rfl hrg).cell rfl) (K.cl ((hS.blk 0 rfl hrg).cell rfl) (K.cl ((hS.blk 0 rfl hrg).cell rfl) K.cl0)))))))) (hS.pick [1, 3]) ?_
 refine K.DW.l 18 rfl (by kernel_rfl) (by kernel_rfl) (K.OW.gcall hS [0] [1, 2, 3, 4, 5, 6, 7, 8, 9] [K.pa p] (mLast_ok _ _ _ _ _ _ _ x ) ?_)
 clear hS; rintro _ _ w ⟨rfl, rfl⟩ hS
 replace hS : K.Sat w0 [l, rg, rp, g, gk, gs, gw, gf, gz, fr] w := hS
 refine ⟨.inl (hS.pick [1, 3]), ?_⟩
 refine K.c 23 rfl (K.QR.neS (by kernel_rfl) rfl rfl rfl (eqAcc_t (⟨rfl, rfl, rfl, rfl, rfl, rfl⟩))) (hS.pick [1, 3]) ?_
 refine K.b 24 rfl (.bool false) (hS.pick [1, 3]) ?_
 refine K.b 25 rfl (.bool false) (hS.pick [1, 3]) ?_
 refine K.p 26 rfl (K.pa p) (hS.pick [1, 3]) ?_
 refine K.p 29 rfl (K.pa r) (hS.pick [1, 3]) ?_
 refine K.p 30 rfl (K.pa r) (hS.pick [1, 3]) ?_
 refine K.p 31 rfl (K.pa r) (hS.pick [1, 3]) ?_
 refine K.o_ 32 rfl (K.pa u) (fun w hS => ((hS.blk 0 rfl hrg).cell rfl)) (hS.pick [1, 3]) ?_
 refine K.p 33 rfl (K.pa u) (hS.pick [1, 3]) ?_
 refine K.p 34 rfl (.pointer (some ⟨u, 1, none⟩)) (hS.pick [1, 3]) ?_
 refine K.o_ 35 rfl (.slice sa (n * 8) cs) (fun w hS => ((hS.blk 1 rfl hg).cell rfl)) (hS.pick [1, 3]) ?_
 refine K.DW.l 27 rfl (by kernel_rfl) (by kernel_rfl) (K.OW.gcall hS [0] [1, 2, 3, 4, 5, 6, 7, 8, 9] [K.pa p] (mDevice_ok _ _ _ _ _ _ _ x ) ?_)
 clear hS; rintro _ _ w ⟨rfl, rfl⟩ hS
 replace hS : K.Sat w0 [l, rg, rp, g, gk, gs, gw, gf, gz, fr] w := hS
 refine ⟨.inl (hS.pick [1, 3]), ?_⟩
 refine K.DW.l 28 rfl (by kernel_rfl) (by kernel_rfl) (K.OW.gcall hS [0] [1, 2, 3, 4, 5, 6, 7, 8, 9] [K.pa q] (mdSeen_ok _ _ _ _ _ _ _ x) ?_)
 clear hS; rintro _ _ w ⟨r_1, cc_2, l_3, rfl, rfl, o_4⟩ hS
 replace hS : K.Sat w0 [l, l_3, rg, rp, g, gk, gs, gw, gf, gz, fr] w := hS
 refine ⟨.inl (hS.pick [2, 4]), ?_⟩
 refine K.DW.l 36 rfl (by kernel_rfl) (by kernel_rfl) (K.OW.kcall hS [.slice r_1 M.dev.seen.length cc_2, .slice sa (n * 8) cs] (sameN_ok _ _ _ _ _ _ M.dev.seen M.dev.seen _ (by omega) rfl ls (K.Own.rowE 0 (hS.ownr 1 rfl o_4) rfl (fun _ => rfl)) (K.Own.rowE 0 (hS.ownr 6 rfl os) ls (fun _ => rfl))) ?_)
 rintro _ w ⟨rfl, c_5⟩
 replace hS := hS.no c_5
 rw [sameB_self]
 refine ⟨.inl (hS.pick [2, 4]), ?_⟩
 refine K.b 37 rfl (.bool false) (hS.pick [2, 4]) ?_
 refine K.b 38 rfl (.bool false) (hS.pick [2, 4]) ?_
 refine K.b 39 rfl (.bool false) (hS.pick [2, 4]) ?_
 refine K.p 40 rfl (K.pa p) (hS.pick [2, 4]) ?_
 refine K.p 43 rfl (K.pa r) (hS.pick [2, 4]) ?_
 refine K.p 44 rfl (K.pa r) (hS.pick [2, 4]) ?_
 refine K.p 45 rfl (K.pa r) (hS.pick [2, 4]) ?_
 refine K.o_ 46 rfl (K.pa u) (fun w hS => ((hS.blk 0 rfl hrg).cell rfl)) (hS.pick [2, 4]) ?_
 refine K.p 47 rfl (K.pa u) (hS.pick [2, 4]) ?_
 refine K.p 48 rfl (K.pa u) (hS.pick [2, 4]) ?_
 refine K.o_ 49 rfl (.slice ka (n * 8) ck) (fun w hS => ((hS.blk 1 rfl hg).cell rfl)) (hS.pick [2, 4]) ?_
 refine K.DW.l 41 rfl (by kernel_rfl) (by kernel_rfl) (K.OW.gcall hS [0] [1, 2, 3, 4, 5, 6, 7, 8, 9, 10] [K.pa p] (mDevice_ok _ _ _ _ _ _ _ x ) ?_)
 clear hS; rintro _ _ w ⟨rfl, rfl⟩ hS
 replace hS : K.Sat w0 [l, l_3, rg, rp, g, gk, gs, gw, gf, gz, fr] w := hS
 refine ⟨.inl (hS.pick [2, 4]), ?_⟩
 refine K.DW.l 42 rfl (by kernel_rfl) (by kernel_rfl) (K.OW.gcall hS [0] [1, 2, 3, 4, 5, 6, 7, 8, 9, 10] [K.pa q] (mdKept_ok _ _ _ _ _ _ _ x) ?_)
 clear hS; rintro _ _ w ⟨r_6, cc_7, l_8, rfl, rfl, o_9⟩ hS
 replace hS : K.Sat w0 [l, l_8, l_3, rg, rp, g, gk, gs, gw, gf, gz, fr] w := hS
 refine ⟨.inl (hS.pick [3, 5]), ?_⟩
 refine K.DW.l 50 rfl (by kernel_rfl) (by kernel_rfl) (K.OW.kcall hS [.slice r_6 M.dev.kept.length cc_7, .slice ka (n * 8) ck] (sameN_ok _ _ _ _ _ _ M.dev.kept M.dev.kept _ (by omega) rfl lk (K.Own.rowE 0 (hS.ownr 1 rfl o_9) rfl (fun _ => rfl)) (K.Own.rowE 0 (hS.ownr 6 rfl ok) lk (fun _ => rfl))) ?_)
 rintro _ w ⟨rfl, c_10⟩
 replace hS := hS.no c_10
 rw [sameB_self]
 refine ⟨.inl (hS.pick [3, 5]), ?_⟩
 refine K.b 51 rfl (.bool false) (hS.pick [3, 5]) ?_
 refine K.b 52 rfl (.bool false) (hS.pick [3, 5]) ?_
 refine K.DW.done (by kernel_rfl) ?_
 refine K.t (K.f (K.k (K.t (K.s (K.s (K.g (K.q [K.iv 0] (K.z (K.t ?_)))))))))
 refine K.KW.block ?_
 refine K.KW.loop (fun m_ F_ w_ => ∃ (i : Nat), m_ = rnp - i ∧ K.Sl F_ [(0, K.pa p), (1, K.pa r), (5, K.iv ((i : Nat) : Int)), (90, undef)] ∧ i ≤ rnp ∧ K.Sat w0 [l, l_8, l_3, rg, rp, g, gk, gs, gw, gf, gz, fr] w_) ((fun (i : Nat) => rnp - i) 0) ?_ ?_
 ·
  exact ⟨0, rfl, ⟨by rfl, by rfl, by rfl, by rfl, trivial⟩, (by omega), hS.pick [0, 1, 2, 3, 4, 5, 6, 7, 8, 9, 10, 11]⟩
 ·
  clear hS
  intro m_11 F_12 w hI
  obtain ⟨i, rfl, sl_13, p_14, hS⟩ := hI
  rw [← K.Sl.puts sl_13]; clear sl_13
  refine K.s (K.s (K.g (K.q [K.iv ((i : Nat) : Int), K.pa r, K.pa r, .pointer (some ⟨r, 1, none⟩)] ?_)))
  refine K.d (.slice ra rnp rcp) ((hS.blk 3 rfl hrg).cell rfl) ?_
  refine K.a (K.QR.len (P := Tryz.prog) rfl rfl Tryz.underlying78) ?_
  by_cases h_15 : (((i : Nat) : Int) : Int) < (((rnp : Nat) : Int) : Int)
  ·
   refine K.y ((((i : Nat) : Int) : Int) < (((rnp : Nat) : Int) : Int)) h_15 ?_
   refine K.z (K.t (K.h (K.k (K.t (K.s ?_)))))
   refine K.KW.block ?_
   refine K.s (K.g (K.q [K.pa p, K.iv ((i : Nat) : Int)] ?_))
   refine K.a (K.QR.n64 (((-1) : Int) - (((i : Nat) : Int) : Int)) (((-1) : Int) - (((i : Nat) : Int) : Int)) (by kernel_rfl) (by omega)) ?_
   refine K.l (K.OW.gcall hS [0] [1, 2, 3, 4, 5, 6, 7, 8, 9, 10, 11] [K.pa p, K.iv (((-1) : Int) - (((i : Nat) : Int) : Int))] (mPeekP_ok _ _ _ _ _ _ _ x (((-1) : Int) - (((i : Nat) : Int) : Int)) (by omega) i (by omega) (by omega)) ?_)
   clear hS; rintro _ _ w ⟨rfl, rfl⟩ hS
   replace hS : K.Sat w0 [l, l_8, l_3, rg, rp, g, gk, gs, gw, gf, gz, fr] w := hS
   refine K.q [.tuple #[.int .u64 (M.pass.getD i 0), .bool true], .int .u64 (M.pass.getD i 0), .bool true, .int .u64 (M.pass.getD i 0), .bool true] (K.z (K.t (K.s (K.g (K.q [.bool true, .bool false, .bool false, .int .u64 (M.pass.getD i 0), K.pa r, K.pa r, .pointer (some ⟨r, 1, none⟩)] ?_)))))
   refine K.d (.slice ra rnp rcp) ((hS.blk 3 rfl hrg).cell rfl) ?_
   refine K.q [K.iv ((i : Nat) : Int)] ?_
   obtain ⟨b_16, rfl⟩ := hrp.some_ (by have := hrp.le; omega)
   refine K.a (K.QR.ix i 1 rfl rfl rfl Tryz.underlying78 (by kernel_rfl) (by omega) (by first | (simp; done) | omega | (simp; omega))) ?_
   refine K.d (.int .u64 (M.pass.getD i 0)) (K.Own.atS (c := cU64) (d := 0) (fun _ => rfl) (hS.ownr 4 rfl hrp) hrnp i (by omega)) ?_
   refine K.xn ((M.pass.getD i 0) : Int) (M.pass.getD i 0 : Int) (rfl) ?_
   refine K.q [.bool false] (K.z (K.t (K.f (K.k ?_))))
   refine K.blk_normal ?_
   refine K.t (K.g (K.q [K.iv ((i : Nat) : Int)] ?_))
   refine K.a (K.QR.n64 ((((i : Nat) : Int) : Int) + (1 : Int)) ((i + 1 : Nat) : Int) (by kernel_rfl) (by omega)) ?_
   refine K.q [K.iv ((i + 1 : Nat) : Int)] (K.z (K.t ?_))
   refine ⟨_, ?_, i + 1, rfl, ⟨by rfl, by rfl, by rfl, by rfl, trivial⟩, (by omega), hS.pick [0, 1, 2, 3, 4, 5, 6, 7, 8, 9, 10, 11]⟩
   omega
  ·
   refine K.x ((((i : Nat) : Int) : Int) < (((rnp : Nat) : Int) : Int)) h_15 ?_
   refine K.z (K.t (K.f ?_))
   refine K.KW.exit ?_
   refine K.thn_exit ?_
   refine K.thn_exit ?_
   refine K.blk_hit ?_
   refine K.t (K.s (K.g (K.q [.bool true] (K.z (K.t (K.r ?_))))))
   replace hS : K.Sat w0 [[g, gk, gs, gw, gf, gz].flatten, l, l_8, l_3, rg, rp, fr] w := (hS.pick [5, 6, 7, 8, 9, 10, 0, 1, 2, 3, 4, 11]).of
   replace hS : K.Sat w0 [[rg, rp, [g, gk, gs, gw, gf, gz].flatten].flatten, l, l_8, l_3, fr] w := (hS.pick [4, 5, 0, 1, 2, 3, 6]).of
   refine ⟨.inr rfl, rfl, (.bool true), K.res1 rfl rfl, [l, [rg, rp, [g, gk, gs, gw, gf, gz].flatten].flatten], ?_, hS.pick [1, 0, 4]⟩
   exact ⟨rfl, rfl⟩
end Go.Proofs.YtbfafebfkdbglaaGreat
