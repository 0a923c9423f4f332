/- The statements of layer 7. -/
import Derived.Test.YtgeihjiichdpbaaFl7
namespace Go.Proofs.Ytgeihjiichdpbaa
open Go.RowKit
set_option linter.unusedVariables false
attribute [local irreducible] K.KW K.RW K.DW K.OW K.QR K.KC

theorem mSwapB_ok (w0 : World) (p q n t : Nat) (M : MemM) (l : K.Cs) (x : MemAt l p q n t M) (th i : Int) (hi : isInt i) (old wo : Int) (b : Bool) (hb : (M.accW n th i old wo).2.done = b) :
    K.GC Try.prog w0 18 #[.pointer (some ⟨p, 0, none⟩), .int .i64 th, .int .i64 i, .int .u64 old, .int .u64 wo] [l] (fun v post => ∃ l', v = .bool b ∧ post = [l'] ∧ MemAt l' p q n t (M.accW n th i old wo).1) := by
  subst hb
  exact mSwap_ok w0 p q n t M l x th i hi old wo

set_option maxHeartbeats 1000000 in
set_option maxRecDepth 100000 in
theorem awake07_ok (w0 : World)  :
    K.GC Try.prog w0 15 #[] [] (fun v post => v = .bool true ∧ post = []) := by
  refine K.GC.mk (n := 44) Try.func15 rfl rfl [] rfl rfl ?_
  intro fr w hS
  replace hS : K.Sat w0 [fr] w := hS
  refine K.KW.seq ?_
  -- 0 :14
  refine K.KW.region ?_
  refine K.RW.qs [.bool false] (by kernel_rfl) ?_
  refine K.RW.nil ?_
  refine K.thn_normal ?_
  refine K.KW.seq ?_
  -- 1 :15
  refine K.KW.region ?_
  refine K.RW.l rfl (K.OW.gcall hS [] [0] [.int .i64 1, .int .i64 1] (dvNew_ok _ 1 1 (by omega) (by omega)) ?_)
  clear hS; rintro _ _ w (⟨p_1, l_2, rfl, rfl, x_3, h_4⟩ | ⟨rfl, rfl, h_5⟩) hS
  ·
    replace hS : K.Sat w0 [l_2, fr] w := hS
    refine K.RW.qs [.tuple #[.pointer (some ⟨p_1, 0, none⟩), .int .i64 0], .pointer (some ⟨p_1, 0, none⟩), .int .i64 0, .pointer (some ⟨p_1, 0, none⟩), .int .i64 0] (by kernel_rfl) ?_
    refine K.RW.nil ?_
    refine K.thn_normal ?_
    refine K.KW.seq ?_
    -- 2 :16
    refine K.KW.region ?_
    refine K.RW.qs [.pointer (some ⟨p_1, 0, none⟩)] (by kernel_rfl) ?_
    refine K.RW.l rfl (K.OW.gcall hS [0] [1] [.pointer (some ⟨p_1, 0, none⟩), .int .i64 1] (mNew_ok _ _ _ _ _ _ x_3 1 (by omega)) ?_)
    clear hS; rintro _ _ w (⟨p_6, l_7, rfl, rfl, x_8, h_9⟩ | ⟨rfl, h_10, rfl⟩) hS
    ·
      replace hS : K.Sat w0 [l_7, fr] w := hS
      refine K.RW.qs [.tuple #[.pointer (some ⟨p_6, 0, none⟩), .int .i64 0], .pointer (some ⟨p_6, 0, none⟩), .int .i64 0, .pointer (some ⟨p_6, 0, none⟩), .int .i64 0] (by kernel_rfl) ?_
      refine K.RW.nil ?_
      refine K.thn_normal ?_
      refine K.KW.seq ?_
      -- 3 :17
      refine K.KW.region ?_
      refine K.RW.qs [.pointer (some ⟨p_6, 0, none⟩)] (by kernel_rfl) ?_
      refine K.RW.l rfl (K.OW.gcall hS [0] [1] [.pointer (some ⟨p_6, 0, none⟩), .int .i64 0, .int .i64 3, .int .u64 0, .int .u64 5] (mSwapB_ok _ _ _ _ _ _ _ x_8 (0 : Int) (3 : Int) (by omega) (0 : Int) (5 : Int) true (by kernel_rfl)) ?_)
      clear hS; rintro _ _ w ⟨l_11, rfl, rfl, x_12⟩ hS
      replace hS : K.Sat w0 [l_11, fr] w := hS
      refine K.RW.qs [.pointer (some ⟨p_6, 0, none⟩)] (by kernel_rfl) ?_
      refine K.RW.l rfl (K.OW.gcall hS [0] [1] [.pointer (some ⟨p_6, 0, none⟩), .int .i64 0, .int .i64 3, .int .u64 0, .int .u64 5] (mSwapB_ok _ _ _ _ _ _ _ x_12 (0 : Int) (3 : Int) (by omega) (0 : Int) (5 : Int) false (by kernel_rfl)) ?_)
      clear hS; rintro _ _ w ⟨l_13, rfl, rfl, x_14⟩ hS
      replace hS : K.Sat w0 [l_13, fr] w := hS
      refine K.RW.qs [.bool true, .bool false] (by kernel_rfl) ?_
      refine K.RW.nil ?_
      refine K.thn_normal ?_
      refine K.KW.seq ?_
      -- 4 :18
      refine K.KW.region ?_
      refine K.RW.qs [.int .i64 0, .bool true, .bool true, .int .i64 0, .bool true, .bool true, .bool true, .bool true, .bool true, .bool true, .bool false, .bool true, .bool true, .bool true, .pointer (some ⟨p_6, 0, none⟩)] (by kernel_rfl) ?_
      refine K.RW.l (by kernel_rfl) (K.OW.gcall hS [0] [1] [.pointer (some ⟨p_6, 0, none⟩)] (mLast_ok _ _ _ _ _ _ _ x_14 ) ?_)
      clear hS; rintro _ _ w ⟨rfl, rfl⟩ hS
      replace hS : K.Sat w0 [l_13, fr] w := hS
      refine K.RW.q rfl (by kernel_rfl) (K.QR.bd [(0, .int .i64 3), (2, .int .i64 3), (3, .int .u64 5), (4, .int .u64 5)] [.int .i64 3, .int .i64 0, .int .i64 3, .int .u64 5, .int .u64 5, .bool false] rfl rfl (by kernel_rfl)) ?_
      refine K.RW.q rfl (by kernel_rfl) (K.QR.eqS (by kernel_rfl) rfl rfl rfl (eqAcc_t (⟨by kernel_rfl, by kernel_rfl, by kernel_rfl, by kernel_rfl, by kernel_rfl, by kernel_rfl⟩))) ?_
      refine K.RW.qs [.bool true, .bool true, .pointer (some ⟨p_6, 0, none⟩)] (by kernel_rfl) ?_
      refine K.RW.l (by kernel_rfl) (K.OW.gcall hS [0] [1] [.pointer (some ⟨p_6, 0, none⟩)] (mClock_ok _ _ _ _ _ _ _ x_14 ) ?_)
      clear hS; rintro _ _ w ⟨rfl, rfl⟩ hS
      replace hS : K.Sat w0 [l_13, fr] w := hS
      refine K.RW.q rfl (by kernel_rfl) (K.QR.nice (v := .bool (((((((MemM.of (DevM.fresh (List.replicate (1 * 8) 0) 1 1) 1).accW 1 (0 : Int) (3 : Int) (0 : Int) (5 : Int)).1).accW 1 (0 : Int) (3 : Int) (0 : Int) (5 : Int)).1).clock : Int) == (2 : Int))) (by kernel_rfl) (congrArg Value.bool (beq_iff_eq.2 (by kernel_rfl)))) ?_
      refine K.RW.qs [.bool true, .bool true] (by kernel_rfl) ?_
      refine K.RW.nil ?_
      refine K.thn_normal ?_
      refine K.KW.ret ?_
      refine ⟨.inr rfl, rfl, (.bool true), K.res1 rfl rfl, [], ?_, hS.pick [1]⟩
      exact ⟨rfl, rfl⟩
    ·
      exfalso; omega
  ·
    exfalso; omega

/-- the memory behind so many acts -/
def acts7 (M : MemM) (n t : Nat) : List ActP → MemM
  | [] => M
  | a :: ls => acts7 (act7 M n t a) n t ls
theorem acts7_snoc (n t : Nat) (a : ActP) : ∀ (ls : List ActP) (M : MemM), acts7 M n t (ls ++ [a]) = act7 (acts7 M n t ls) n t a
  | [], _ => rfl
  | b :: ls, M => acts7_snoc n t a ls (act7 M n t b)
theorem acts7_next {M : MemM} {n t j : Nat} {ls : List ActP} (h : j < ls.length) : acts7 M n t (ls.take (j + 1)) = act7 (acts7 M n t (ls.take j)) n t (ls.getD j ap0) := by
  rw [List.take_succ_eq_append_getElem h, acts7_snoc]
  simp [h]

theorem rmPeekS_ok (w0 : World) (p q n t : Nat) (M : MemM) (l : K.Cs) (x : RMemAt l p q n t M) (i : Int) (hi : isInt i) (y : Int) (h0 : M.peek n i = some y) : K.GC Try.prog w0 59 #[.pointer (some ⟨p, 0, none⟩), .int .i64 i] [l] (fun v post => v = .tuple #[.int .u64 y, .bool true] ∧ post = [l]) := by
  refine (rmPeek_ok w0 p q n t M l x i hi).mono ?_
  rintro v post ⟨rfl, ⟨y, rfl, h⟩ | ⟨rfl, h⟩⟩ <;> (rw [h0] at h; cases h) <;> exact ⟨rfl, rfl⟩
theorem rmPeekN_ok (w0 : World) (p q n t : Nat) (M : MemM) (l : K.Cs) (x : RMemAt l p q n t M) (i : Int) (hi : isInt i) (h0 : M.peek n i = none) : K.GC Try.prog w0 59 #[.pointer (some ⟨p, 0, none⟩), .int .i64 i] [l] (fun v post => v = .tuple #[.int .u64 0, .bool false] ∧ post = [l]) := by
  refine (rmPeek_ok w0 p q n t M l x i hi).mono ?_
  rintro v post ⟨rfl, ⟨y, rfl, h⟩ | ⟨rfl, h⟩⟩ <;> (rw [h0] at h; cases h) <;> exact ⟨rfl, rfl⟩
theorem mPeekS_ok (w0 : World) (p q n t : Nat) (M : MemM) (l : K.Cs) (x : MemAt l p q n t M) (i : Int) (hi : isInt i) (y : Int) (h0 : M.peek n i = some y) : K.GC Try.prog w0 17 #[.pointer (some ⟨p, 0, none⟩), .int .i64 i] [l] (fun v post => v = .tuple #[.int .u64 y, .bool true] ∧ post = [l]) := by
  refine (mPeek_ok w0 p q n t M l x i hi).mono ?_
  rintro v post ⟨rfl, ⟨y, rfl, h⟩ | ⟨rfl, h⟩⟩ <;> (rw [h0] at h; cases h) <;> exact ⟨rfl, rfl⟩
theorem mPeekN_ok (w0 : World) (p q n t : Nat) (M : MemM) (l : K.Cs) (x : MemAt l p q n t M) (i : Int) (hi : isInt i) (h0 : M.peek n i = none) : K.GC Try.prog w0 17 #[.pointer (some ⟨p, 0, none⟩), .int .i64 i] [l] (fun v post => v = .tuple #[.int .u64 0, .bool false] ∧ post = [l]) := by
  refine (mPeek_ok w0 p q n t M l x i hi).mono ?_
  rintro v post ⟨rfl, ⟨y, rfl, h⟩ | ⟨rfl, h⟩⟩ <;> (rw [h0] at h; cases h) <;> exact ⟨rfl, rfl⟩

theorem peek_put {M : MemM} {n t : Nat} {i y w : Int} (h : M.peek n i = some y) (hd : M.dev.ok n t) : (M.put i w).peek n i = some w ∧ (M.put i w).dev.ok n t := by
  rcases peek_some h with h1 | h1
  · rw [putD h1.1]
    refine ⟨?_, hd.store⟩
    rw [peek_dev h1]
    have : i.toNat < M.dev.seen.length := by rw [hd.2.1]; omega
    simp [DevM.store, this]
  · rw [putP (by omega)]
    refine ⟨?_, hd⟩
    have hl : (-1 - i).toNat < M.pass.length := by omega
    rw [peek_pass (by simpa using h1)]
    simp [hl]
theorem put_bc (M : MemM) (i w : Int) : (M.put i w).bad = M.bad ∧ (M.put i w).clock = M.clock := by unfold MemM.put; split <;> exact ⟨rfl, rfl⟩
theorem accW_t {M : MemM} {n t : Nat} {th i old w : Int} (h : M.peek n i = some old) (hd : M.dev.ok n t) :
    (M.accW n th i old w).2.done = true ∧ (M.accW n th i old w).1.peek n i = some w ∧ (M.accW n th i old w).1.bad = M.bad ∧ (M.accW n th i old w).1.clock = i64s M.clock ∧ (M.accW n th i old w).1.dev.ok n t := by
  have e : M.accW n th i old w = ((M.put i w).count ⟨3, th, i, old, w, true⟩ true, ⟨3, th, i, old, w, true⟩) := by simp [MemM.accW, h]
  rw [e]
  obtain ⟨h1, h2⟩ := peek_put (w := w) h hd
  obtain ⟨h3, h4⟩ := put_bc M i w
  exact ⟨rfl, h1, h3, by show i64s (M.put i w).clock = _; rw [h4], h2⟩
theorem accW_f {M : MemM} {n : Nat} {th i old w y : Int} (h : M.peek n i = some y) (hn : ¬ y = old) :
    (M.accW n th i old w).2.done = false ∧ (M.accW n th i old w).1.peek n i = some y ∧ (M.accW n th i old w).1.bad = M.bad ∧ (M.accW n th i old w).1.clock = i64s M.clock := by
  have e : M.accW n th i old w = (M.count ⟨3, th, i, y, w, false⟩ true, ⟨3, th, i, y, w, false⟩) := by
    have hb : (y == old) = false := by simpa using hn
    simp [MemM.accW, h, hb]
  rw [e]
  exact ⟨rfl, h, rfl, rfl⟩
theorem accW_n {M : MemM} {n : Nat} {th i old w : Int} (h : M.peek n i = none) :
    (M.accW n th i old w).2.done = false ∧ (M.accW n th i old w).1.peek n i = none ∧ (M.accW n th i old w).1.bad = i64s M.bad ∧ (M.accW n th i old w).1.dev = M.dev := by
  have e : M.accW n th i old w = (M.count ⟨3, th, i, 0, w, false⟩ false, ⟨3, th, i, 0, w, false⟩) := by simp [MemM.accW, h]
  rw [e]
  exact ⟨rfl, h, rfl, rfl⟩
theorem of_peek {D : DevM} {k n : Nat} {i : Int} (h : i < 0 ∧ -1 - i < k) : (MemM.of D k).peek n i = some ((List.replicate k (0 : Int)).getD (-1 - i).toNat 0) := peek_pass (by simpa [MemM.of] using h)
theorem of_peekN {D : DevM} {k n : Nat} {i : Int} (h : i < 0 ∧ ¬ -1 - i < k) : (MemM.of D k).peek n i = none := peek_nopass h.1 (by simp [MemM.of]; omega)

set_option maxHeartbeats 1000000 in
set_option maxRecDepth 100000 in
theorem do7_nil (w0 : World) (a : ActP) (ha : a.good) :
    K.GC Try.prog w0 53 #[.pointer none, .agg #[.int .i64 a.kind, .int .i64 a.thread, .int .i64 a.at_, .int .u64 a.old, .int .u64 a.w]] [] (fun v post => v = .tuple #[] ∧ post = []) := by
  obtain ⟨hk, hth, hat⟩ := ha
  refine K.GC.mk (n := 59) Try.func53 rfl rfl [.pointer none, .agg #[.int .i64 a.kind, .int .i64 a.thread, .int .i64 a.at_, .int .u64 a.old, .int .u64 a.w]] rfl rfl ?_
  intro fr w hS
  replace hS : K.Sat w0 [fr] w := hS
  refine K.KW.seq ?_
  -- 0 :31
  refine K.KW.region ?_
  refine K.RW.l rfl (K.OW.gnew 87 [.int .i64 a.kind, .int .i64 a.thread, .int .i64 a.at_, .int .u64 a.old, .int .u64 a.w] hS ?_)
  clear hS; intro w r_1 g_2 hg_3 hS
  refine K.RW.nil ?_
  refine K.thn_normal ?_
  refine K.KW.seq ?_
  -- 1 :32
  refine K.KW.region ?_
  refine K.RW.qs [.pointer (some ⟨r_1, 0, none⟩)] (by kernel_rfl) ?_
  refine K.RW.q rfl rfl (K.QR.ld1 (v := .int .i64 a.kind) rfl rfl (by kernel_rfl) ((hS.blk 0 rfl hg_3).cell rfl)) ?_
  refine K.RW.nil ?_
  refine K.thn_normal ?_
  refine K.KW.block ?_
  refine K.KW.seq ?_
  -- 3 :33
  refine K.KW.region ?_
  by_cases h_4 : (a.kind : Int) = (1 : Int)
  ·  -- yes
    refine K.RW.q rfl rfl (K.QR.nice (v := .bool ((a.kind : Int) == (1 : Int))) (by kernel_rfl) (congrArg Value.bool (beq_iff_eq.2 h_4))) ?_
    refine K.RW.qs [.bool true] (by kernel_rfl) ?_
    refine K.RW.nil ?_
    refine K.thn_normal ?_
    refine K.KW.ifT rfl ?_
    -- 4 :34
    refine K.KW.region ?_
    refine K.RW.qs [.pointer none, .pointer (some ⟨r_1, 1, none⟩)] (by kernel_rfl) ?_
    refine K.RW.q rfl rfl (K.QR.ld1 (v := .int .i64 a.thread) rfl rfl (by kernel_rfl) ((hS.blk 0 rfl hg_3).cell rfl)) ?_
    refine K.RW.qs [.pointer (some ⟨r_1, 2, none⟩)] (by kernel_rfl) ?_
    refine K.RW.q rfl rfl (K.QR.ld1 (v := .int .i64 a.at_) rfl rfl (by kernel_rfl) ((hS.blk 0 rfl hg_3).cell rfl)) ?_
    refine K.RW.l rfl (K.OW.gcall hS [] [0, 1] [.pointer none, .int .i64 a.thread, .int .i64 a.at_] (mLoad_nil _ a.thread a.at_) ?_)
    clear hS; rintro _ _ w ⟨rfl, rfl⟩ hS
    replace hS : K.Sat w0 [g_2, fr] w := hS
    refine K.RW.nil ?_
    refine K.blk_normal ?_
    refine ⟨.inl rfl, rfl, (.tuple #[]), K.res0 rfl, [], ?_, hS.pick [1]⟩
    exact ⟨rfl, rfl⟩
  ·  -- no
    refine K.RW.q rfl rfl (K.QR.nice (v := .bool ((a.kind : Int) == (1 : Int))) (by kernel_rfl) (congrArg Value.bool (beq_eq_false_iff_ne.2 h_4))) ?_
    refine K.RW.qs [.bool false] (by kernel_rfl) ?_
    refine K.RW.nil ?_
    refine K.thn_normal ?_
    refine K.KW.ifF rfl ?_
    refine K.KW.seq ?_
    -- 5 :35
    refine K.KW.region ?_
    by_cases h_5 : (a.kind : Int) = (2 : Int)
    ·  -- yes
      refine K.RW.q rfl rfl (K.QR.nice (v := .bool ((a.kind : Int) == (2 : Int))) (by kernel_rfl) (congrArg Value.bool (beq_iff_eq.2 h_5))) ?_
      refine K.RW.qs [.bool true] (by kernel_rfl) ?_
      refine K.RW.nil ?_
      refine K.thn_normal ?_
      refine K.KW.ifT rfl ?_
      -- 6 :36
      refine K.KW.region ?_
      refine K.RW.qs [.pointer none, .pointer (some ⟨r_1, 1, none⟩)] (by kernel_rfl) ?_
      refine K.RW.q rfl rfl (K.QR.ld1 (v := .int .i64 a.thread) rfl rfl (by kernel_rfl) ((hS.blk 0 rfl hg_3).cell rfl)) ?_
      refine K.RW.qs [.pointer (some ⟨r_1, 2, none⟩)] (by kernel_rfl) ?_
      refine K.RW.q rfl rfl (K.QR.ld1 (v := .int .i64 a.at_) rfl rfl (by kernel_rfl) ((hS.blk 0 rfl hg_3).cell rfl)) ?_
      refine K.RW.qs [.pointer (some ⟨r_1, 4, none⟩)] (by kernel_rfl) ?_
      refine K.RW.q rfl rfl (K.QR.ld1 (v := .int .u64 a.w) rfl rfl (by kernel_rfl) ((hS.blk 0 rfl hg_3).cell rfl)) ?_
      refine K.RW.l rfl (K.OW.gcall hS [] [0, 1] [.pointer none, .int .i64 a.thread, .int .i64 a.at_, .int .u64 a.w] (mStore_nil _ a.thread a.at_ a.w) ?_)
      clear hS; rintro _ _ w ⟨rfl, rfl⟩ hS
      replace hS : K.Sat w0 [g_2, fr] w := hS
      refine K.RW.nil ?_
      refine K.blk_normal ?_
      refine ⟨.inl rfl, rfl, (.tuple #[]), K.res0 rfl, [], ?_, hS.pick [1]⟩
      exact ⟨rfl, rfl⟩
    ·  -- no
      refine K.RW.q rfl rfl (K.QR.nice (v := .bool ((a.kind : Int) == (2 : Int))) (by kernel_rfl) (congrArg Value.bool (beq_eq_false_iff_ne.2 h_5))) ?_
      refine K.RW.qs [.bool false] (by kernel_rfl) ?_
      refine K.RW.nil ?_
      refine K.thn_normal ?_
      refine K.KW.ifF rfl ?_
      refine K.KW.seq ?_
      -- 7 :37
      refine K.KW.region ?_
      by_cases h_6 : (a.kind : Int) = (3 : Int)
      ·  -- yes
        refine K.RW.q rfl rfl (K.QR.nice (v := .bool ((a.kind : Int) == (3 : Int))) (by kernel_rfl) (congrArg Value.bool (beq_iff_eq.2 h_6))) ?_
        refine K.RW.qs [.bool true] (by kernel_rfl) ?_
        refine K.RW.nil ?_
        refine K.thn_normal ?_
        refine K.KW.ifT rfl ?_
        -- 8 :38
        refine K.KW.region ?_
        refine K.RW.qs [.pointer none, .pointer (some ⟨r_1, 1, none⟩)] (by kernel_rfl) ?_
        refine K.RW.q rfl rfl (K.QR.ld1 (v := .int .i64 a.thread) rfl rfl (by kernel_rfl) ((hS.blk 0 rfl hg_3).cell rfl)) ?_
        refine K.RW.qs [.pointer (some ⟨r_1, 2, none⟩)] (by kernel_rfl) ?_
        refine K.RW.q rfl rfl (K.QR.ld1 (v := .int .i64 a.at_) rfl rfl (by kernel_rfl) ((hS.blk 0 rfl hg_3).cell rfl)) ?_
        refine K.RW.qs [.pointer (some ⟨r_1, 3, none⟩)] (by kernel_rfl) ?_
        refine K.RW.q rfl rfl (K.QR.ld1 (v := .int .u64 a.old) rfl rfl (by kernel_rfl) ((hS.blk 0 rfl hg_3).cell rfl)) ?_
        refine K.RW.qs [.pointer (some ⟨r_1, 4, none⟩)] (by kernel_rfl) ?_
        refine K.RW.q rfl rfl (K.QR.ld1 (v := .int .u64 a.w) rfl rfl (by kernel_rfl) ((hS.blk 0 rfl hg_3).cell rfl)) ?_
        refine K.RW.l rfl (K.OW.gcall hS [] [0, 1] [.pointer none, .int .i64 a.thread, .int .i64 a.at_, .int .u64 a.old, .int .u64 a.w] (mSwap_nil _ a.thread a.at_ a.old a.w) ?_)
        clear hS; rintro _ _ w ⟨rfl, rfl⟩ hS
        replace hS : K.Sat w0 [g_2, fr] w := hS
        refine K.RW.nil ?_
        refine K.blk_normal ?_
        refine ⟨.inl rfl, rfl, (.tuple #[]), K.res0 rfl, [], ?_, hS.pick [1]⟩
        exact ⟨rfl, rfl⟩
      ·  -- no
        refine K.RW.q rfl rfl (K.QR.nice (v := .bool ((a.kind : Int) == (3 : Int))) (by kernel_rfl) (congrArg Value.bool (beq_eq_false_iff_ne.2 h_6))) ?_
        refine K.RW.qs [.bool false] (by kernel_rfl) ?_
        refine K.RW.nil ?_
        refine K.thn_normal ?_
        refine K.KW.ifF rfl ?_
        refine K.KW.seq ?_
        -- 9 :39
        refine K.KW.region ?_
        by_cases h_7 : (a.kind : Int) = (4 : Int)
        ·  -- yes
          refine K.RW.q rfl rfl (K.QR.nice (v := .bool ((a.kind : Int) == (4 : Int))) (by kernel_rfl) (congrArg Value.bool (beq_iff_eq.2 h_7))) ?_
          refine K.RW.qs [.bool true] (by kernel_rfl) ?_
          refine K.RW.nil ?_
          refine K.thn_normal ?_
          refine K.KW.ifT rfl ?_
          -- 10 :40
          refine K.KW.region ?_
          refine K.RW.qs [.pointer none, .pointer (some ⟨r_1, 1, none⟩)] (by kernel_rfl) ?_
          refine K.RW.q rfl rfl (K.QR.ld1 (v := .int .i64 a.thread) rfl rfl (by kernel_rfl) ((hS.blk 0 rfl hg_3).cell rfl)) ?_
          refine K.RW.qs [.pointer (some ⟨r_1, 2, none⟩)] (by kernel_rfl) ?_
          refine K.RW.q rfl rfl (K.QR.ld1 (v := .int .i64 a.at_) rfl rfl (by kernel_rfl) ((hS.blk 0 rfl hg_3).cell rfl)) ?_
          refine K.RW.l rfl (K.OW.gcall hS [] [0, 1] [.pointer none, .int .i64 a.thread, .int .i64 a.at_] (mFlush_nil _ a.thread a.at_) ?_)
          clear hS; rintro _ _ w ⟨rfl, rfl⟩ hS
          replace hS : K.Sat w0 [g_2, fr] w := hS
          refine K.RW.nil ?_
          refine K.blk_normal ?_
          refine ⟨.inl rfl, rfl, (.tuple #[]), K.res0 rfl, [], ?_, hS.pick [1]⟩
          exact ⟨rfl, rfl⟩
        ·  -- no
          refine K.RW.q rfl rfl (K.QR.nice (v := .bool ((a.kind : Int) == (4 : Int))) (by kernel_rfl) (congrArg Value.bool (beq_eq_false_iff_ne.2 h_7))) ?_
          refine K.RW.qs [.bool false] (by kernel_rfl) ?_
          refine K.RW.nil ?_
          refine K.thn_normal ?_
          refine K.KW.ifF rfl ?_
          refine K.KW.seq ?_
          -- 11 :41
          refine K.KW.region ?_
          by_cases h_8 : (a.kind : Int) = (5 : Int)
          ·  -- yes
            refine K.RW.q rfl rfl (K.QR.nice (v := .bool ((a.kind : Int) == (5 : Int))) (by kernel_rfl) (congrArg Value.bool (beq_iff_eq.2 h_8))) ?_
            refine K.RW.qs [.bool true] (by kernel_rfl) ?_
            refine K.RW.nil ?_
            refine K.thn_normal ?_
            refine K.KW.ifT rfl ?_
            -- 12 :42
            refine K.KW.region ?_
            refine K.RW.qs [.pointer none, .pointer (some ⟨r_1, 1, none⟩)] (by kernel_rfl) ?_
            refine K.RW.q rfl rfl (K.QR.ld1 (v := .int .i64 a.thread) rfl rfl (by kernel_rfl) ((hS.blk 0 rfl hg_3).cell rfl)) ?_
            refine K.RW.l rfl (K.OW.gcall hS [] [0, 1] [.pointer none, .int .i64 a.thread] (mFence_nil _ a.thread) ?_)
            clear hS; rintro _ _ w ⟨rfl, rfl⟩ hS
            replace hS : K.Sat w0 [g_2, fr] w := hS
            refine K.RW.nil ?_
            refine K.blk_normal ?_
            refine ⟨.inl rfl, rfl, (.tuple #[]), K.res0 rfl, [], ?_, hS.pick [1]⟩
            exact ⟨rfl, rfl⟩
          ·  -- no
            refine K.RW.q rfl rfl (K.QR.nice (v := .bool ((a.kind : Int) == (5 : Int))) (by kernel_rfl) (congrArg Value.bool (beq_eq_false_iff_ne.2 h_8))) ?_
            refine K.RW.qs [.bool false] (by kernel_rfl) ?_
            refine K.RW.nil ?_
            refine K.thn_normal ?_
            refine K.KW.ifF rfl ?_
            refine K.KW.seq ?_
            -- 13 :43
            refine K.KW.region ?_
            by_cases h_9 : (a.kind : Int) = (6 : Int)
            ·  -- yes
              refine K.RW.q rfl rfl (K.QR.nice (v := .bool ((a.kind : Int) == (6 : Int))) (by kernel_rfl) (congrArg Value.bool (beq_iff_eq.2 h_9))) ?_
              refine K.RW.qs [.bool true] (by kernel_rfl) ?_
              refine K.RW.nil ?_
              refine K.thn_normal ?_
              refine K.KW.ifT rfl ?_
              -- 14 :44
              refine K.KW.gdrawn [0] hS (by kernel_rfl) ?_
              clear hS; intro w hS
              refine K.DW.q 0 (by kernel_rfl) rfl rfl (by kernel_rfl) rfl (fun w hS => K.QR.k (v := .pointer none) (by kernel_rfl)) (hS.pick [0]) ?_
              refine K.DW.q 2 (by kernel_rfl) rfl rfl (by kernel_rfl) rfl (fun w hS => K.QR.k (v := .pointer (some ⟨r_1, 2, none⟩)) (by kernel_rfl)) (hS.pick [0]) ?_
              refine K.DW.q 3 (by kernel_rfl) rfl rfl (by kernel_rfl) rfl (fun w hS => K.QR.ld1 (v := .int .i64 a.at_) rfl rfl (by kernel_rfl) ((hS.blk 0 rfl hg_3).cell rfl)) (hS.pick [0]) ?_
              refine K.DW.l 1 rfl (by kernel_rfl) rfl (K.OW.gcall hS [] [0, 1] [.pointer none] (mDevice_nil _ ) ?_)
              clear hS; rintro _ _ w ⟨rfl, rfl⟩ hS
              replace hS : K.Sat w0 [g_2, fr] w := hS
              refine ⟨.inl (hS.pick [0]), ?_⟩
              refine K.DW.l 4 rfl (by kernel_rfl) rfl (K.OW.gcall hS [] [0, 1] [.pointer none, .int .i64 a.at_] (dvEvict_nil _ a.at_) ?_)
              clear hS; rintro _ _ w ⟨rfl, rfl⟩ hS
              replace hS : K.Sat w0 [g_2, fr] w := hS
              refine ⟨.inr (by kernel_rfl), ?_⟩
              refine K.DW.done (by kernel_rfl) ?_
              refine K.blk_normal ?_
              refine ⟨.inl rfl, rfl, (.tuple #[]), K.res0 rfl, [], ?_, hS.pick [1]⟩
              exact ⟨rfl, rfl⟩
            ·  -- no
              refine K.RW.q rfl rfl (K.QR.nice (v := .bool ((a.kind : Int) == (6 : Int))) (by kernel_rfl) (congrArg Value.bool (beq_eq_false_iff_ne.2 h_9))) ?_
              refine K.RW.qs [.bool false] (by kernel_rfl) ?_
              refine K.RW.nil ?_
              refine K.thn_normal ?_
              refine K.KW.ifF rfl ?_
              -- 2 :46
              refine K.KW.region ?_
              refine K.RW.qs [.pointer none] (by kernel_rfl) ?_
              refine K.RW.l rfl (K.OW.gcall hS [] [0, 1] [.pointer none] (mCrash_nil _ ) ?_)
              clear hS; rintro _ _ w ⟨rfl, rfl⟩ hS
              replace hS : K.Sat w0 [g_2, fr] w := hS
              refine K.RW.nil ?_
              refine K.blk_normal ?_
              refine ⟨.inl rfl, rfl, (.tuple #[]), K.res0 rfl, [], ?_, hS.pick [1]⟩
              exact ⟨rfl, rfl⟩

end Go.Proofs.Ytgeihjiichdpbaa
