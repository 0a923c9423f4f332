/- Layer 4: an act on both devices; are they one? -/
import Derived.Test.YtgeihjiichdpbaaFrd3
namespace Go.Proofs.Ytgeihjiichdpbaa
open Go.RowKit
set_option linter.unusedVariables false
attribute [local irreducible] K.KW K.RW K.DW K.OW K.QR K.KC

/-- something that is done to a device -/
structure ActM where
  kind : Int
  thread : Int
  line : Int
  at_ : Int
  w : Int
def cAct (a : ActM) : List Value := [.int .i64 a.kind, .int .i64 a.thread, .int .i64 a.line, .int .i64 a.at_, .int .u64 a.w]
def a0 : ActM := ⟨0, 0, 0, 0, 0⟩
def ActM.good (a : ActM) : Prop := isInt a.kind ∧ isInt a.thread ∧ isInt a.line ∧ isInt a.at_
/-- the device behind it, and what it tells -/
def actR (D : DevM) (n t : Nat) (a : ActM) : DevM × Int × Int :=
  if a.kind = 0 then if ¬(0 ≤ a.thread ∧ a.thread < t) then (D, 0, 1) else if ¬(0 ≤ a.line ∧ a.line < n) then (D, 0, 5) else (D.mark a.thread.toNat a.line.toNat, 0, 0)
  else if a.kind = 1 then if ¬(0 ≤ a.thread ∧ a.thread < t) then (D, 0, 1) else (D.fence a.thread.toNat, 0, 0)
  else if a.kind = 2 then if ¬(0 ≤ a.line ∧ a.line < n) then (D, 0, 5) else (D.back a.line.toNat, 0, 0)
  else if a.kind = 3 then (D.crash, 0, 0)
  else if a.kind = 4 then if ¬(0 ≤ a.at_ ∧ a.at_ < n * 8) then (D, 0, 5) else (D, D.seen.getD a.at_.toNat 0, 0)
  else if ¬(0 ≤ a.at_ ∧ a.at_ < n * 8) then (D, 0, 5) else (D.store a.at_.toNat a.w, 0, 0)
theorem sameB_self (xs : List Int) : sameB xs xs = true := decide_eq_true rfl
theorem sameN_ok (a a' : Option Addr) (cap cap' n m : Nat) (xs ys : List Int) (w : World) (hm : n ≤ 9223372036854775807) (ln : xs.length = n) (lm : ys.length = m) (hx : K.RowE w a n 1 (fun i => cU64 (xs.getD i 0))) (hy : K.RowE w a' m 1 (fun i => cU64 (ys.getD i 0))) :
    K.KC Try.prog 20 #[.slice a n cap, .slice a' m cap'] w (fun v w' => v = .bool (sameB xs ys) ∧ K.Chg K.No w w') := by
  subst ln lm
  exact same_ok a a' cap cap' xs ys w hm hx hy
theorem truesF_app (A C : List Bool) : ∀ k, truesF k (A ++ C) = truesF k A ++ truesF (k + A.length) C := by
  induction A with
  | nil => intro k; rfl
  | cons b A ih =>
    intro k
    have := ih (k + 1)
    rw [show k + 1 + A.length = k + (b :: A).length by simp; omega] at this
    cases b with
    | true =>
      show (k : Int) :: truesF (k + 1) (A ++ C) = ((k : Int) :: truesF (k + 1) A) ++ _
      rw [this]; rfl
    | false => exact this
theorem trues_take (B : List Bool) {m : Nat} (h : m < B.length) : trues (B.take (m + 1)) = trues (B.take m) ++ (if B.getD m false then [(m : Int)] else []) := by
  rw [List.take_succ_eq_append_getElem h]
  unfold trues
  rw [truesF_app, List.length_take, Nat.min_eq_left (by omega), Nat.zero_add]
  have : B.getD m false = B[m] := by simp [h]
  rw [this]
  cases B[m] <;> rfl
theorem trues_at (B : List Bool) {m : Nat} (h : m < B.length) (hb : B.getD m false = true) : (trues (B.take m)).length < (trues B).length ∧ (trues B).getD (trues (B.take m)).length 0 = (m : Int) := by
  have e : trues B = trues (B.take m) ++ ((m : Int) :: truesF (m + 1) (B.drop (m + 1))) := by
    conv => lhs; rw [← List.take_append_drop (m + 1) B]
    unfold trues
    rw [truesF_app, List.length_take, Nat.min_eq_left (by omega), Nat.zero_add]
    have := trues_take B h
    unfold trues at this
    rw [this, hb]; simp
  rw [e]
  refine ⟨by simp, ?_⟩
  rw [List.getD_eq_getElem?_getD, List.getElem?_append_right (Nat.le_refl _), Nat.sub_self]; rfl
theorem trues_t {B : List Bool} {m k : Nat} (h : m < B.length) (hb : B.getD m false = true) (hk : k = (trues (B.take m)).length) : k + 1 = (trues (B.take (m + 1))).length := by rw [trues_take B h, hb, hk]; simp
theorem trues_f {B : List Bool} {m k : Nat} (h : m < B.length) (hb : B.getD m false = false) (hk : k = (trues (B.take m)).length) : k = (trues (B.take (m + 1))).length := by rw [trues_take B h, hb, hk]; simp

set_option maxHeartbeats 1000000 in
set_option maxRecDepth 100000 in
theorem do4_ok (w0 : World) (p n t : Nat) (D : DevM) (l : K.Cs) (x : DevAt l p n t D) (a : ActM) (ha : a.good) :
    K.GC Try.prog w0 41 #[.pointer (some ⟨p, 0, none⟩), .agg #[.int .i64 a.kind, .int .i64 a.thread, .int .i64 a.line, .int .i64 a.at_, .int .u64 a.w]] [l] (fun v post => ∃ l', v = .tuple #[.int .u64 (actR D n t a).2.1, .int .i64 (actR D n t a).2.2] ∧ post = [l'] ∧ DevAt l' p n t (actR D n t a).1) := by
  obtain ⟨hk, ht, hl, hat⟩ := ha
  refine K.GC.mk (n := 51) Try.func41 rfl rfl [.pointer (some ⟨p, 0, none⟩), .agg #[.int .i64 a.kind, .int .i64 a.thread, .int .i64 a.line, .int .i64 a.at_, .int .u64 a.w]] rfl rfl ?_
  intro fr w hS
  replace hS : K.Sat w0 [l, fr] w := hS
  refine K.KW.seq ?_
  -- 0 :36
  refine K.KW.region ?_
  refine K.RW.l rfl (K.OW.gnew 70 [.int .i64 a.kind, .int .i64 a.thread, .int .i64 a.line, .int .i64 a.at_, .int .u64 a.w] hS ?_)
  clear hS; intro w r_1 g_2 hg_3 hS
  refine K.RW.qs [.int .u64 0, .int .i64 0] (by kernel_rfl) ?_
  refine K.RW.nil ?_
  refine K.thn_normal ?_
  refine K.KW.seq ?_
  refine K.KW.seq ?_
  -- 1 :37
  refine K.KW.region ?_
  refine K.RW.qs [.pointer (some ⟨r_1, 0, none⟩)] (by kernel_rfl) ?_
  refine K.RW.q rfl rfl (K.QR.ld1 (v := .int .i64 a.kind) rfl rfl (by kernel_rfl) ((hS.blk 0 rfl hg_3).cell rfl)) ?_
  refine K.RW.nil ?_
  refine K.thn_normal ?_
  refine K.KW.block ?_
  refine K.KW.seq ?_
  -- 2 :38
  refine K.KW.region ?_
  by_cases h_4 : (a.kind : Int) = (0 : Int)
  ·  -- yes
    refine K.RW.q rfl rfl (K.QR.nice (v := .bool ((a.kind : Int) == (0 : Int))) (by kernel_rfl) (congrArg Value.bool (beq_iff_eq.2 h_4))) ?_
    refine K.RW.qs [.bool true] (by kernel_rfl) ?_
    refine K.RW.nil ?_
    refine K.thn_normal ?_
    refine K.KW.ifT rfl ?_
    refine K.KW.seq ?_
    -- 3 :39
    refine K.KW.region ?_
    refine K.RW.qs [.pointer (some ⟨p, 0, none⟩), .pointer (some ⟨r_1, 1, none⟩)] (by kernel_rfl) ?_
    refine K.RW.q rfl rfl (K.QR.ld1 (v := .int .i64 a.thread) rfl rfl (by kernel_rfl) ((hS.blk 0 rfl hg_3).cell rfl)) ?_
    refine K.RW.qs [.pointer (some ⟨r_1, 2, none⟩)] (by kernel_rfl) ?_
    refine K.RW.q rfl rfl (K.QR.ld1 (v := .int .i64 a.line) rfl rfl (by kernel_rfl) ((hS.blk 0 rfl hg_3).cell rfl)) ?_
    refine K.RW.l rfl (K.OW.gcall hS [1] [0, 2] [.pointer (some ⟨p, 0, none⟩), .int .i64 a.thread, .int .i64 a.line] (dvFlush_ok _ _ _ _ _ _ x a.thread (by omega) a.line (by omega)) ?_)
    clear hS; rintro _ _ w (⟨rfl, h_5, l_6, rfl, x_7⟩ | ⟨rfl, h_8, rfl⟩ | ⟨rfl, h_9, rfl⟩) hS
    ·
      replace hS : K.Sat w0 [l_6, g_2, fr] w := hS
      refine K.RW.qs [.int .u64 0, .int .i64 0] (by kernel_rfl) ?_
      refine K.RW.nil ?_
      refine K.thn_normal ?_
      refine K.KW.ret ?_
      refine K.blk_ret ?_
      refine K.thn_ret ?_
      have e : actR D n t a = (D.mark a.thread.toNat a.line.toNat, 0, 0) := by unfold actR; (repeat' split) <;> first | rfl | omega
      refine ⟨.inr rfl, rfl, (.tuple #[.int .u64 0, .int .i64 0]), K.res2 rfl rfl rfl, [l_6], ?_, hS.pick [0, 2]⟩
      exact ⟨_, by rw [e], rfl, by rw [e]; exact x_7⟩
    ·
      replace hS : K.Sat w0 [l, g_2, fr] w := hS
      refine K.RW.qs [.int .u64 0, .int .i64 1] (by kernel_rfl) ?_
      refine K.RW.nil ?_
      refine K.thn_normal ?_
      refine K.KW.ret ?_
      refine K.blk_ret ?_
      refine K.thn_ret ?_
      have e : actR D n t a = (D, 0, 1) := by unfold actR; (repeat' split) <;> first | rfl | omega
      refine ⟨.inr rfl, rfl, (.tuple #[.int .u64 0, .int .i64 1]), K.res2 rfl rfl rfl, [l], ?_, hS.pick [0, 2]⟩
      exact ⟨_, by rw [e], rfl, by rw [e]; exact x⟩
    ·
      replace hS : K.Sat w0 [l, g_2, fr] w := hS
      refine K.RW.qs [.int .u64 0, .int .i64 5] (by kernel_rfl) ?_
      refine K.RW.nil ?_
      refine K.thn_normal ?_
      refine K.KW.ret ?_
      refine K.blk_ret ?_
      refine K.thn_ret ?_
      have e : actR D n t a = (D, 0, 5) := by unfold actR; (repeat' split) <;> first | rfl | omega
      refine ⟨.inr rfl, rfl, (.tuple #[.int .u64 0, .int .i64 5]), K.res2 rfl rfl rfl, [l], ?_, hS.pick [0, 2]⟩
      exact ⟨_, by rw [e], rfl, by rw [e]; exact x⟩
  ·  -- no
    refine K.RW.q rfl rfl (K.QR.nice (v := .bool ((a.kind : Int) == (0 : Int))) (by kernel_rfl) (congrArg Value.bool (beq_eq_false_iff_ne.2 h_4))) ?_
    refine K.RW.qs [.bool false] (by kernel_rfl) ?_
    refine K.RW.nil ?_
    refine K.thn_normal ?_
    refine K.KW.ifF rfl ?_
    refine K.KW.seq ?_
    -- 4 :40
    refine K.KW.region ?_
    by_cases h_10 : (a.kind : Int) = (1 : Int)
    ·  -- yes
      refine K.RW.q rfl rfl (K.QR.nice (v := .bool ((a.kind : Int) == (1 : Int))) (by kernel_rfl) (congrArg Value.bool (beq_iff_eq.2 h_10))) ?_
      refine K.RW.qs [.bool true] (by kernel_rfl) ?_
      refine K.RW.nil ?_
      refine K.thn_normal ?_
      refine K.KW.ifT rfl ?_
      refine K.KW.seq ?_
      -- 5 :41
      refine K.KW.region ?_
      refine K.RW.qs [.pointer (some ⟨p, 0, none⟩), .pointer (some ⟨r_1, 1, none⟩)] (by kernel_rfl) ?_
      refine K.RW.q rfl rfl (K.QR.ld1 (v := .int .i64 a.thread) rfl rfl (by kernel_rfl) ((hS.blk 0 rfl hg_3).cell rfl)) ?_
      refine K.RW.l rfl (K.OW.gcall hS [1] [0, 2] [.pointer (some ⟨p, 0, none⟩), .int .i64 a.thread] (dvFence_ok _ _ _ _ _ _ x a.thread (by omega)) ?_)
      clear hS; rintro _ _ w (⟨rfl, h_11, l_12, rfl, x_13⟩ | ⟨rfl, h_14, rfl⟩) hS
      ·
        replace hS : K.Sat w0 [l_12, g_2, fr] w := hS
        refine K.RW.qs [.int .u64 0, .int .i64 0] (by kernel_rfl) ?_
        refine K.RW.nil ?_
        refine K.thn_normal ?_
        refine K.KW.ret ?_
        refine K.blk_ret ?_
        refine K.thn_ret ?_
        have e : actR D n t a = (D.fence a.thread.toNat, 0, 0) := by unfold actR; (repeat' split) <;> first | rfl | omega
        refine ⟨.inr rfl, rfl, (.tuple #[.int .u64 0, .int .i64 0]), K.res2 rfl rfl rfl, [l_12], ?_, hS.pick [0, 2]⟩
        exact ⟨_, by rw [e], rfl, by rw [e]; exact x_13⟩
      ·
        replace hS : K.Sat w0 [l, g_2, fr] w := hS
        refine K.RW.qs [.int .u64 0, .int .i64 1] (by kernel_rfl) ?_
        refine K.RW.nil ?_
        refine K.thn_normal ?_
        refine K.KW.ret ?_
        refine K.blk_ret ?_
        refine K.thn_ret ?_
        have e : actR D n t a = (D, 0, 1) := by unfold actR; (repeat' split) <;> first | rfl | omega
        refine ⟨.inr rfl, rfl, (.tuple #[.int .u64 0, .int .i64 1]), K.res2 rfl rfl rfl, [l], ?_, hS.pick [0, 2]⟩
        exact ⟨_, by rw [e], rfl, by rw [e]; exact x⟩
    ·  -- no
      refine K.RW.q rfl rfl (K.QR.nice (v := .bool ((a.kind : Int) == (1 : Int))) (by kernel_rfl) (congrArg Value.bool (beq_eq_false_iff_ne.2 h_10))) ?_
      refine K.RW.qs [.bool false] (by kernel_rfl) ?_
      refine K.RW.nil ?_
      refine K.thn_normal ?_
      refine K.KW.ifF rfl ?_
      refine K.KW.seq ?_
      -- 6 :42
      refine K.KW.region ?_
      by_cases h_15 : (a.kind : Int) = (2 : Int)
      ·  -- yes
        refine K.RW.q rfl rfl (K.QR.nice (v := .bool ((a.kind : Int) == (2 : Int))) (by kernel_rfl) (congrArg Value.bool (beq_iff_eq.2 h_15))) ?_
        refine K.RW.qs [.bool true] (by kernel_rfl) ?_
        refine K.RW.nil ?_
        refine K.thn_normal ?_
        refine K.KW.ifT rfl ?_
        refine K.KW.seq ?_
        -- 7 :43
        refine K.KW.region ?_
        refine K.RW.qs [.pointer (some ⟨p, 0, none⟩), .pointer (some ⟨r_1, 2, none⟩)] (by kernel_rfl) ?_
        refine K.RW.q rfl rfl (K.QR.ld1 (v := .int .i64 a.line) rfl rfl (by kernel_rfl) ((hS.blk 0 rfl hg_3).cell rfl)) ?_
        refine K.RW.l rfl (K.OW.gcall hS [1] [0, 2] [.pointer (some ⟨p, 0, none⟩), .int .i64 a.line] (dvEvict_ok _ _ _ _ _ _ x a.line (by omega)) ?_)
        clear hS; rintro _ _ w (⟨rfl, h_16, l_17, rfl, x_18⟩ | ⟨rfl, h_19, rfl⟩) hS
        ·
          replace hS : K.Sat w0 [l_17, g_2, fr] w := hS
          refine K.RW.qs [.int .u64 0, .int .i64 0] (by kernel_rfl) ?_
          refine K.RW.nil ?_
          refine K.thn_normal ?_
          refine K.KW.ret ?_
          refine K.blk_ret ?_
          refine K.thn_ret ?_
          have e : actR D n t a = (D.back a.line.toNat, 0, 0) := by unfold actR; (repeat' split) <;> first | rfl | omega
          refine ⟨.inr rfl, rfl, (.tuple #[.int .u64 0, .int .i64 0]), K.res2 rfl rfl rfl, [l_17], ?_, hS.pick [0, 2]⟩
          exact ⟨_, by rw [e], rfl, by rw [e]; exact x_18⟩
        ·
          replace hS : K.Sat w0 [l, g_2, fr] w := hS
          refine K.RW.qs [.int .u64 0, .int .i64 5] (by kernel_rfl) ?_
          refine K.RW.nil ?_
          refine K.thn_normal ?_
          refine K.KW.ret ?_
          refine K.blk_ret ?_
          refine K.thn_ret ?_
          have e : actR D n t a = (D, 0, 5) := by unfold actR; (repeat' split) <;> first | rfl | omega
          refine ⟨.inr rfl, rfl, (.tuple #[.int .u64 0, .int .i64 5]), K.res2 rfl rfl rfl, [l], ?_, hS.pick [0, 2]⟩
          exact ⟨_, by rw [e], rfl, by rw [e]; exact x⟩
      ·  -- no
        refine K.RW.q rfl rfl (K.QR.nice (v := .bool ((a.kind : Int) == (2 : Int))) (by kernel_rfl) (congrArg Value.bool (beq_eq_false_iff_ne.2 h_15))) ?_
        refine K.RW.qs [.bool false] (by kernel_rfl) ?_
        refine K.RW.nil ?_
        refine K.thn_normal ?_
        refine K.KW.ifF rfl ?_
        refine K.KW.seq ?_
        -- 8 :44
        refine K.KW.region ?_
        by_cases h_20 : (a.kind : Int) = (3 : Int)
        ·  -- yes
          refine K.RW.q rfl rfl (K.QR.nice (v := .bool ((a.kind : Int) == (3 : Int))) (by kernel_rfl) (congrArg Value.bool (beq_iff_eq.2 h_20))) ?_
          refine K.RW.qs [.bool true] (by kernel_rfl) ?_
          refine K.RW.nil ?_
          refine K.thn_normal ?_
          refine K.KW.ifT rfl ?_
          refine K.KW.seq ?_
          -- 9 :45
          refine K.KW.region ?_
          refine K.RW.qs [.pointer (some ⟨p, 0, none⟩)] (by kernel_rfl) ?_
          refine K.RW.l rfl (K.OW.gcall hS [1] [0, 2] [.pointer (some ⟨p, 0, none⟩)] (dvCrash_ok _ _ _ _ _ _ x ) ?_)
          clear hS; rintro _ _ w ⟨l_21, rfl, rfl, x_22⟩ hS
          replace hS : K.Sat w0 [l_21, g_2, fr] w := hS
          refine K.RW.nil ?_
          refine K.thn_normal ?_
          refine K.KW.seq ?_
          -- 10 :46
          refine K.KW.region ?_
          refine K.RW.qs [.int .u64 0, .int .i64 0] (by kernel_rfl) ?_
          refine K.RW.nil ?_
          refine K.thn_normal ?_
          refine K.KW.ret ?_
          refine K.blk_ret ?_
          refine K.thn_ret ?_
          have e : actR D n t a = (D.crash, 0, 0) := by unfold actR; (repeat' split) <;> first | rfl | omega
          refine ⟨.inr rfl, rfl, (.tuple #[.int .u64 0, .int .i64 0]), K.res2 rfl rfl rfl, [l_21], ?_, hS.pick [0, 2]⟩
          exact ⟨_, by rw [e], rfl, by rw [e]; exact x_22⟩
        ·  -- no
          refine K.RW.q rfl rfl (K.QR.nice (v := .bool ((a.kind : Int) == (3 : Int))) (by kernel_rfl) (congrArg Value.bool (beq_eq_false_iff_ne.2 h_20))) ?_
          refine K.RW.qs [.bool false] (by kernel_rfl) ?_
          refine K.RW.nil ?_
          refine K.thn_normal ?_
          refine K.KW.ifF rfl ?_
          refine K.KW.seq ?_
          -- 11 :47
          refine K.KW.region ?_
          by_cases h_23 : (a.kind : Int) = (4 : Int)
          ·  -- yes
            refine K.RW.q rfl rfl (K.QR.nice (v := .bool ((a.kind : Int) == (4 : Int))) (by kernel_rfl) (congrArg Value.bool (beq_iff_eq.2 h_23))) ?_
            refine K.RW.qs [.bool true] (by kernel_rfl) ?_
            refine K.RW.nil ?_
            refine K.thn_normal ?_
            refine K.KW.ifT rfl ?_
            refine K.KW.seq ?_
            -- 12 :48
            refine K.KW.region ?_
            refine K.RW.qs [.pointer (some ⟨p, 0, none⟩), .pointer (some ⟨r_1, 3, none⟩)] (by kernel_rfl) ?_
            refine K.RW.q rfl rfl (K.QR.ld1 (v := .int .i64 a.at_) rfl rfl (by kernel_rfl) ((hS.blk 0 rfl hg_3).cell rfl)) ?_
            refine K.RW.l rfl (K.OW.gcall hS [1] [0, 2] [.pointer (some ⟨p, 0, none⟩), .int .i64 a.at_] (dvLoad_ok _ _ _ _ _ _ x a.at_ (by omega)) ?_)
            clear hS; rintro _ _ w ⟨rfl, (⟨rfl, h_24⟩ | ⟨rfl, h_25⟩)⟩ hS
            ·
              replace hS : K.Sat w0 [l, g_2, fr] w := hS
              refine K.RW.qs [.tuple #[.int .u64 (D.seen.getD a.at_.toNat 0), .int .i64 0], .int .u64 (D.seen.getD a.at_.toNat 0), .int .i64 0, .int .u64 (D.seen.getD a.at_.toNat 0), .int .i64 0] (by kernel_rfl) ?_
              refine K.RW.nil ?_
              refine K.thn_normal ?_
              refine K.KW.seq ?_
              -- 13 :49
              refine K.KW.region ?_
              refine K.RW.qs [.int .u64 (D.seen.getD a.at_.toNat 0), .int .i64 0, .int .u64 (D.seen.getD a.at_.toNat 0), .int .i64 0] (by kernel_rfl) ?_
              refine K.RW.nil ?_
              refine K.thn_normal ?_
              refine K.KW.ret ?_
              refine K.blk_ret ?_
              refine K.thn_ret ?_
              have e : actR D n t a = (D, (D.seen.getD a.at_.toNat 0), 0) := by unfold actR; (repeat' split) <;> first | rfl | omega
              refine ⟨.inr rfl, rfl, (.tuple #[.int .u64 (D.seen.getD a.at_.toNat 0), .int .i64 0]), K.res2 rfl rfl rfl, [l], ?_, hS.pick [0, 2]⟩
              exact ⟨_, by rw [e], rfl, by rw [e]; exact x⟩
            ·
              replace hS : K.Sat w0 [l, g_2, fr] w := hS
              refine K.RW.qs [.tuple #[.int .u64 0, .int .i64 5], .int .u64 0, .int .i64 5, .int .u64 0, .int .i64 5] (by kernel_rfl) ?_
              refine K.RW.nil ?_
              refine K.thn_normal ?_
              refine K.KW.seq ?_
              -- 13 :49
              refine K.KW.region ?_
              refine K.RW.qs [.int .u64 0, .int .i64 5, .int .u64 0, .int .i64 5] (by kernel_rfl) ?_
              refine K.RW.nil ?_
              refine K.thn_normal ?_
              refine K.KW.ret ?_
              refine K.blk_ret ?_
              refine K.thn_ret ?_
              have e : actR D n t a = (D, 0, 5) := by unfold actR; (repeat' split) <;> first | rfl | omega
              refine ⟨.inr rfl, rfl, (.tuple #[.int .u64 0, .int .i64 5]), K.res2 rfl rfl rfl, [l], ?_, hS.pick [0, 2]⟩
              exact ⟨_, by rw [e], rfl, by rw [e]; exact x⟩
          ·  -- no
            refine K.RW.q rfl rfl (K.QR.nice (v := .bool ((a.kind : Int) == (4 : Int))) (by kernel_rfl) (congrArg Value.bool (beq_eq_false_iff_ne.2 h_23))) ?_
            refine K.RW.qs [.bool false] (by kernel_rfl) ?_
            refine K.RW.nil ?_
            refine K.thn_normal ?_
            refine K.KW.ifF rfl ?_
            refine K.KW.skip ?_
            refine K.blk_normal ?_
            refine K.thn_normal ?_
            refine K.KW.seq ?_
            -- 14 :51
            refine K.KW.region ?_
            refine K.RW.qs [.pointer (some ⟨p, 0, none⟩), .pointer (some ⟨r_1, 3, none⟩)] (by kernel_rfl) ?_
            refine K.RW.q rfl rfl (K.QR.ld1 (v := .int .i64 a.at_) rfl rfl (by kernel_rfl) ((hS.blk 0 rfl hg_3).cell rfl)) ?_
            refine K.RW.qs [.pointer (some ⟨r_1, 4, none⟩)] (by kernel_rfl) ?_
            refine K.RW.q rfl rfl (K.QR.ld1 (v := .int .u64 a.w) rfl rfl (by kernel_rfl) ((hS.blk 0 rfl hg_3).cell rfl)) ?_
            refine K.RW.l rfl (K.OW.gcall hS [1] [0, 2] [.pointer (some ⟨p, 0, none⟩), .int .i64 a.at_, .int .u64 a.w] (dvStore_ok _ _ _ _ _ _ x a.at_ (by omega) a.w) ?_)
            clear hS; rintro _ _ w (⟨rfl, h_26, l_27, rfl, x_28⟩ | ⟨rfl, h_29, rfl⟩) hS
            ·
              replace hS : K.Sat w0 [l_27, g_2, fr] w := hS
              refine K.RW.qs [.int .u64 0, .int .i64 0] (by kernel_rfl) ?_
              refine K.RW.nil ?_
              refine K.thn_normal ?_
              refine K.KW.ret ?_
              have e : actR D n t a = (D.store a.at_.toNat a.w, 0, 0) := by unfold actR; (repeat' split) <;> first | rfl | omega
              refine ⟨.inr rfl, rfl, (.tuple #[.int .u64 0, .int .i64 0]), K.res2 rfl rfl rfl, [l_27], ?_, hS.pick [0, 2]⟩
              exact ⟨_, by rw [e], rfl, by rw [e]; exact x_28⟩
            ·
              replace hS : K.Sat w0 [l, g_2, fr] w := hS
              refine K.RW.qs [.int .u64 0, .int .i64 5] (by kernel_rfl) ?_
              refine K.RW.nil ?_
              refine K.thn_normal ?_
              refine K.KW.ret ?_
              have e : actR D n t a = (D, 0, 5) := by unfold actR; (repeat' split) <;> first | rfl | omega
              refine ⟨.inr rfl, rfl, (.tuple #[.int .u64 0, .int .i64 5]), K.res2 rfl rfl rfl, [l], ?_, hS.pick [0, 2]⟩
              exact ⟨_, by rw [e], rfl, by rw [e]; exact x⟩

set_option maxHeartbeats 1000000 in
set_option maxRecDepth 100000 in
theorem must4_0 (w0 : World) (p n t : Nat) (D : DevM) (l : K.Cs) (x : RDevAt l p n t D) (a : ActM) (ha : a.good) (e0 : a.kind = 0) :
    K.GC Try.prog w0 51 #[.pointer (some ⟨p, 0, none⟩), .agg #[.int .i64 0, .int .i64 a.thread, .int .i64 a.line, .int .i64 a.at_, .int .u64 a.w]] [l] (fun v post => ∃ l', v = .tuple #[.int .u64 (actR D n t a).2.1, .int .i64 (actR D n t a).2.2] ∧ post = [l'] ∧ RDevAt l' p n t (actR D n t a).1) := by
  obtain ⟨hk, ht, hl, hat⟩ := ha
  refine K.GC.mk (n := 37) Try.func51 rfl rfl [.pointer (some ⟨p, 0, none⟩), .agg #[.int .i64 0, .int .i64 a.thread, .int .i64 a.line, .int .i64 a.at_, .int .u64 a.w]] rfl rfl ?_
  intro fr w hS
  replace hS : K.Sat w0 [l, fr] w := hS
  refine K.KW.seq ?_
  -- 0 :55
  refine K.KW.region ?_
  refine K.RW.l rfl (K.OW.gnew 70 [.int .i64 0, .int .i64 a.thread, .int .i64 a.line, .int .i64 a.at_, .int .u64 a.w] hS ?_)
  clear hS; intro w r_1 g_2 hg_3 hS
  refine K.RW.qs [.int .u64 0, .int .i64 0] (by kernel_rfl) ?_
  refine K.RW.nil ?_
  refine K.thn_normal ?_
  refine K.KW.seq ?_
  refine K.KW.seq ?_
  -- 1 :56
  refine K.KW.region ?_
  refine K.RW.qs [.pointer (some ⟨r_1, 0, none⟩)] (by kernel_rfl) ?_
  refine K.RW.q rfl rfl (K.QR.ld1 (v := .int .i64 0) rfl rfl (by kernel_rfl) ((hS.blk 0 rfl hg_3).cell rfl)) ?_
  refine K.RW.qs [.bool true, .bool true, .pointer (some ⟨r_1, 0, none⟩)] (by kernel_rfl) ?_
  refine K.RW.q rfl (by kernel_rfl) (K.QR.ld1 (v := .int .i64 0) rfl rfl (by kernel_rfl) ((hS.blk 0 rfl hg_3).cell rfl)) ?_
  refine K.RW.qs [.bool true, .bool true] (by kernel_rfl) ?_
  refine K.RW.nil ?_
  refine K.thn_normal ?_
  refine K.KW.ifT rfl ?_
  refine K.KW.seq ?_
  -- 2 :57
  refine K.KW.region ?_
  refine K.RW.qs [.pointer (some ⟨p, 0, none⟩), .pointer (some ⟨r_1, 0, none⟩)] (by kernel_rfl) ?_
  refine K.RW.q rfl rfl (K.QR.ld1 (v := .int .i64 0) rfl rfl (by kernel_rfl) ((hS.blk 0 rfl hg_3).cell rfl)) ?_
  refine K.RW.qs [.pointer (some ⟨r_1, 1, none⟩)] (by kernel_rfl) ?_
  refine K.RW.q rfl rfl (K.QR.ld1 (v := .int .i64 a.thread) rfl rfl (by kernel_rfl) ((hS.blk 0 rfl hg_3).cell rfl)) ?_
  refine K.RW.qs [.pointer (some ⟨r_1, 2, none⟩)] (by kernel_rfl) ?_
  refine K.RW.q rfl rfl (K.QR.ld1 (v := .int .i64 a.line) rfl rfl (by kernel_rfl) ((hS.blk 0 rfl hg_3).cell rfl)) ?_
  refine K.RW.l rfl (K.OW.gcall hS [1] [0, 2] [.pointer (some ⟨p, 0, none⟩), .int .i64 0, .int .i64 a.thread, .int .i64 a.line] (rdDo0_ok _ _ _ _ _ _ x a.thread a.line (by omega) (by omega)) ?_)
  clear hS; rintro _ _ w (⟨rfl, h_4, l_5, rfl, x_6⟩ | ⟨rfl, h_7, rfl⟩ | ⟨rfl, h_8, rfl⟩) hS
  ·
    replace hS : K.Sat w0 [l_5, g_2, fr] w := hS
    refine K.RW.qs [.int .u64 0, .int .i64 0] (by kernel_rfl) ?_
    refine K.RW.nil ?_
    refine K.thn_normal ?_
    refine K.KW.ret ?_
    refine K.thn_ret ?_
    have e : actR D n t a = (D.mark a.thread.toNat a.line.toNat, 0, 0) := by unfold actR; (repeat' split) <;> first | rfl | omega
    refine ⟨.inr rfl, rfl, (.tuple #[.int .u64 0, .int .i64 0]), K.res2 rfl rfl rfl, [l_5], ?_, hS.pick [0, 2]⟩
    exact ⟨_, by rw [e], rfl, by rw [e]; exact x_6⟩
  ·
    replace hS : K.Sat w0 [l, g_2, fr] w := hS
    refine K.RW.qs [.int .u64 0, .int .i64 1] (by kernel_rfl) ?_
    refine K.RW.nil ?_
    refine K.thn_normal ?_
    refine K.KW.ret ?_
    refine K.thn_ret ?_
    have e : actR D n t a = (D, 0, 1) := by unfold actR; (repeat' split) <;> first | rfl | omega
    refine ⟨.inr rfl, rfl, (.tuple #[.int .u64 0, .int .i64 1]), K.res2 rfl rfl rfl, [l], ?_, hS.pick [0, 2]⟩
    exact ⟨_, by rw [e], rfl, by rw [e]; exact x⟩
  ·
    replace hS : K.Sat w0 [l, g_2, fr] w := hS
    refine K.RW.qs [.int .u64 0, .int .i64 5] (by kernel_rfl) ?_
    refine K.RW.nil ?_
    refine K.thn_normal ?_
    refine K.KW.ret ?_
    refine K.thn_ret ?_
    have e : actR D n t a = (D, 0, 5) := by unfold actR; (repeat' split) <;> first | rfl | omega
    refine ⟨.inr rfl, rfl, (.tuple #[.int .u64 0, .int .i64 5]), K.res2 rfl rfl rfl, [l], ?_, hS.pick [0, 2]⟩
    exact ⟨_, by rw [e], rfl, by rw [e]; exact x⟩

set_option maxHeartbeats 1000000 in
set_option maxRecDepth 100000 in
theorem must4_1 (w0 : World) (p n t : Nat) (D : DevM) (l : K.Cs) (x : RDevAt l p n t D) (a : ActM) (ha : a.good) (e0 : a.kind = 1) :
    K.GC Try.prog w0 51 #[.pointer (some ⟨p, 0, none⟩), .agg #[.int .i64 1, .int .i64 a.thread, .int .i64 a.line, .int .i64 a.at_, .int .u64 a.w]] [l] (fun v post => ∃ l', v = .tuple #[.int .u64 (actR D n t a).2.1, .int .i64 (actR D n t a).2.2] ∧ post = [l'] ∧ RDevAt l' p n t (actR D n t a).1) := by
  obtain ⟨hk, ht, hl, hat⟩ := ha
  refine K.GC.mk (n := 37) Try.func51 rfl rfl [.pointer (some ⟨p, 0, none⟩), .agg #[.int .i64 1, .int .i64 a.thread, .int .i64 a.line, .int .i64 a.at_, .int .u64 a.w]] rfl rfl ?_
  intro fr w hS
  replace hS : K.Sat w0 [l, fr] w := hS
  refine K.KW.seq ?_
  -- 0 :55
  refine K.KW.region ?_
  refine K.RW.l rfl (K.OW.gnew 70 [.int .i64 1, .int .i64 a.thread, .int .i64 a.line, .int .i64 a.at_, .int .u64 a.w] hS ?_)
  clear hS; intro w r_1 g_2 hg_3 hS
  refine K.RW.qs [.int .u64 0, .int .i64 0] (by kernel_rfl) ?_
  refine K.RW.nil ?_
  refine K.thn_normal ?_
  refine K.KW.seq ?_
  refine K.KW.seq ?_
  -- 1 :56
  refine K.KW.region ?_
  refine K.RW.qs [.pointer (some ⟨r_1, 0, none⟩)] (by kernel_rfl) ?_
  refine K.RW.q rfl rfl (K.QR.ld1 (v := .int .i64 1) rfl rfl (by kernel_rfl) ((hS.blk 0 rfl hg_3).cell rfl)) ?_
  refine K.RW.qs [.bool true, .bool true, .pointer (some ⟨r_1, 0, none⟩)] (by kernel_rfl) ?_
  refine K.RW.q rfl (by kernel_rfl) (K.QR.ld1 (v := .int .i64 1) rfl rfl (by kernel_rfl) ((hS.blk 0 rfl hg_3).cell rfl)) ?_
  refine K.RW.qs [.bool true, .bool true] (by kernel_rfl) ?_
  refine K.RW.nil ?_
  refine K.thn_normal ?_
  refine K.KW.ifT rfl ?_
  refine K.KW.seq ?_
  -- 2 :57
  refine K.KW.region ?_
  refine K.RW.qs [.pointer (some ⟨p, 0, none⟩), .pointer (some ⟨r_1, 0, none⟩)] (by kernel_rfl) ?_
  refine K.RW.q rfl rfl (K.QR.ld1 (v := .int .i64 1) rfl rfl (by kernel_rfl) ((hS.blk 0 rfl hg_3).cell rfl)) ?_
  refine K.RW.qs [.pointer (some ⟨r_1, 1, none⟩)] (by kernel_rfl) ?_
  refine K.RW.q rfl rfl (K.QR.ld1 (v := .int .i64 a.thread) rfl rfl (by kernel_rfl) ((hS.blk 0 rfl hg_3).cell rfl)) ?_
  refine K.RW.qs [.pointer (some ⟨r_1, 2, none⟩)] (by kernel_rfl) ?_
  refine K.RW.q rfl rfl (K.QR.ld1 (v := .int .i64 a.line) rfl rfl (by kernel_rfl) ((hS.blk 0 rfl hg_3).cell rfl)) ?_
  refine K.RW.l rfl (K.OW.gcall hS [1] [0, 2] [.pointer (some ⟨p, 0, none⟩), .int .i64 1, .int .i64 a.thread, .int .i64 a.line] (rdDo1_ok _ _ _ _ _ _ x a.thread a.line (by omega) (by omega)) ?_)
  clear hS; rintro _ _ w (⟨rfl, h_4, l_5, rfl, x_6⟩ | ⟨rfl, h_7, rfl⟩) hS
  ·
    replace hS : K.Sat w0 [l_5, g_2, fr] w := hS
    refine K.RW.qs [.int .u64 0, .int .i64 0] (by kernel_rfl) ?_
    refine K.RW.nil ?_
    refine K.thn_normal ?_
    refine K.KW.ret ?_
    refine K.thn_ret ?_
    have e : actR D n t a = (D.fence a.thread.toNat, 0, 0) := by unfold actR; (repeat' split) <;> first | rfl | omega
    refine ⟨.inr rfl, rfl, (.tuple #[.int .u64 0, .int .i64 0]), K.res2 rfl rfl rfl, [l_5], ?_, hS.pick [0, 2]⟩
    exact ⟨_, by rw [e], rfl, by rw [e]; exact x_6⟩
  ·
    replace hS : K.Sat w0 [l, g_2, fr] w := hS
    refine K.RW.qs [.int .u64 0, .int .i64 1] (by kernel_rfl) ?_
    refine K.RW.nil ?_
    refine K.thn_normal ?_
    refine K.KW.ret ?_
    refine K.thn_ret ?_
    have e : actR D n t a = (D, 0, 1) := by unfold actR; (repeat' split) <;> first | rfl | omega
    refine ⟨.inr rfl, rfl, (.tuple #[.int .u64 0, .int .i64 1]), K.res2 rfl rfl rfl, [l], ?_, hS.pick [0, 2]⟩
    exact ⟨_, by rw [e], rfl, by rw [e]; exact x⟩

set_option maxHeartbeats 1000000 in
set_option maxRecDepth 100000 in
theorem must4_2 (w0 : World) (p n t : Nat) (D : DevM) (l : K.Cs) (x : RDevAt l p n t D) (a : ActM) (ha : a.good) (e0 : a.kind = 2) :
    K.GC Try.prog w0 51 #[.pointer (some ⟨p, 0, none⟩), .agg #[.int .i64 2, .int .i64 a.thread, .int .i64 a.line, .int .i64 a.at_, .int .u64 a.w]] [l] (fun v post => ∃ l', v = .tuple #[.int .u64 (actR D n t a).2.1, .int .i64 (actR D n t a).2.2] ∧ post = [l'] ∧ RDevAt l' p n t (actR D n t a).1) := by
  obtain ⟨hk, ht, hl, hat⟩ := ha
  refine K.GC.mk (n := 37) Try.func51 rfl rfl [.pointer (some ⟨p, 0, none⟩), .agg #[.int .i64 2, .int .i64 a.thread, .int .i64 a.line, .int .i64 a.at_, .int .u64 a.w]] rfl rfl ?_
  intro fr w hS
  replace hS : K.Sat w0 [l, fr] w := hS
  refine K.KW.seq ?_
  -- 0 :55
  refine K.KW.region ?_
  refine K.RW.l rfl (K.OW.gnew 70 [.int .i64 2, .int .i64 a.thread, .int .i64 a.line, .int .i64 a.at_, .int .u64 a.w] hS ?_)
  clear hS; intro w r_1 g_2 hg_3 hS
  refine K.RW.qs [.int .u64 0, .int .i64 0] (by kernel_rfl) ?_
  refine K.RW.nil ?_
  refine K.thn_normal ?_
  refine K.KW.seq ?_
  refine K.KW.seq ?_
  -- 1 :56
  refine K.KW.region ?_
  refine K.RW.qs [.pointer (some ⟨r_1, 0, none⟩)] (by kernel_rfl) ?_
  refine K.RW.q rfl rfl (K.QR.ld1 (v := .int .i64 2) rfl rfl (by kernel_rfl) ((hS.blk 0 rfl hg_3).cell rfl)) ?_
  refine K.RW.qs [.bool true, .bool true, .pointer (some ⟨r_1, 0, none⟩)] (by kernel_rfl) ?_
  refine K.RW.q rfl (by kernel_rfl) (K.QR.ld1 (v := .int .i64 2) rfl rfl (by kernel_rfl) ((hS.blk 0 rfl hg_3).cell rfl)) ?_
  refine K.RW.qs [.bool true, .bool true] (by kernel_rfl) ?_
  refine K.RW.nil ?_
  refine K.thn_normal ?_
  refine K.KW.ifT rfl ?_
  refine K.KW.seq ?_
  -- 2 :57
  refine K.KW.region ?_
  refine K.RW.qs [.pointer (some ⟨p, 0, none⟩), .pointer (some ⟨r_1, 0, none⟩)] (by kernel_rfl) ?_
  refine K.RW.q rfl rfl (K.QR.ld1 (v := .int .i64 2) rfl rfl (by kernel_rfl) ((hS.blk 0 rfl hg_3).cell rfl)) ?_
  refine K.RW.qs [.pointer (some ⟨r_1, 1, none⟩)] (by kernel_rfl) ?_
  refine K.RW.q rfl rfl (K.QR.ld1 (v := .int .i64 a.thread) rfl rfl (by kernel_rfl) ((hS.blk 0 rfl hg_3).cell rfl)) ?_
  refine K.RW.qs [.pointer (some ⟨r_1, 2, none⟩)] (by kernel_rfl) ?_
  refine K.RW.q rfl rfl (K.QR.ld1 (v := .int .i64 a.line) rfl rfl (by kernel_rfl) ((hS.blk 0 rfl hg_3).cell rfl)) ?_
  refine K.RW.l rfl (K.OW.gcall hS [1] [0, 2] [.pointer (some ⟨p, 0, none⟩), .int .i64 2, .int .i64 a.thread, .int .i64 a.line] (rdDo2_ok _ _ _ _ _ _ x a.thread a.line (by omega) (by omega)) ?_)
  clear hS; rintro _ _ w (⟨rfl, h_4, l_5, rfl, x_6⟩ | ⟨rfl, h_7, rfl⟩) hS
  ·
    replace hS : K.Sat w0 [l_5, g_2, fr] w := hS
    refine K.RW.qs [.int .u64 0, .int .i64 0] (by kernel_rfl) ?_
    refine K.RW.nil ?_
    refine K.thn_normal ?_
    refine K.KW.ret ?_
    refine K.thn_ret ?_
    have e : actR D n t a = (D.back a.line.toNat, 0, 0) := by unfold actR; (repeat' split) <;> first | rfl | omega
    refine ⟨.inr rfl, rfl, (.tuple #[.int .u64 0, .int .i64 0]), K.res2 rfl rfl rfl, [l_5], ?_, hS.pick [0, 2]⟩
    exact ⟨_, by rw [e], rfl, by rw [e]; exact x_6⟩
  ·
    replace hS : K.Sat w0 [l, g_2, fr] w := hS
    refine K.RW.qs [.int .u64 0, .int .i64 5] (by kernel_rfl) ?_
    refine K.RW.nil ?_
    refine K.thn_normal ?_
    refine K.KW.ret ?_
    refine K.thn_ret ?_
    have e : actR D n t a = (D, 0, 5) := by unfold actR; (repeat' split) <;> first | rfl | omega
    refine ⟨.inr rfl, rfl, (.tuple #[.int .u64 0, .int .i64 5]), K.res2 rfl rfl rfl, [l], ?_, hS.pick [0, 2]⟩
    exact ⟨_, by rw [e], rfl, by rw [e]; exact x⟩

set_option maxHeartbeats 1000000 in
set_option maxRecDepth 100000 in
theorem must4_3 (w0 : World) (p n t : Nat) (D : DevM) (l : K.Cs) (x : RDevAt l p n t D) (a : ActM) (ha : a.good) (e0 : a.kind = 3) :
    K.GC Try.prog w0 51 #[.pointer (some ⟨p, 0, none⟩), .agg #[.int .i64 3, .int .i64 a.thread, .int .i64 a.line, .int .i64 a.at_, .int .u64 a.w]] [l] (fun v post => ∃ l', v = .tuple #[.int .u64 (actR D n t a).2.1, .int .i64 (actR D n t a).2.2] ∧ post = [l'] ∧ RDevAt l' p n t (actR D n t a).1) := by
  obtain ⟨hk, ht, hl, hat⟩ := ha
  refine K.GC.mk (n := 37) Try.func51 rfl rfl [.pointer (some ⟨p, 0, none⟩), .agg #[.int .i64 3, .int .i64 a.thread, .int .i64 a.line, .int .i64 a.at_, .int .u64 a.w]] rfl rfl ?_
  intro fr w hS
  replace hS : K.Sat w0 [l, fr] w := hS
  refine K.KW.seq ?_
  -- 0 :55
  refine K.KW.region ?_
  refine K.RW.l rfl (K.OW.gnew 70 [.int .i64 3, .int .i64 a.thread, .int .i64 a.line, .int .i64 a.at_, .int .u64 a.w] hS ?_)
  clear hS; intro w r_1 g_2 hg_3 hS
  refine K.RW.qs [.int .u64 0, .int .i64 0] (by kernel_rfl) ?_
  refine K.RW.nil ?_
  refine K.thn_normal ?_
  refine K.KW.seq ?_
  refine K.KW.seq ?_
  -- 1 :56
  refine K.KW.region ?_
  refine K.RW.qs [.pointer (some ⟨r_1, 0, none⟩)] (by kernel_rfl) ?_
  refine K.RW.q rfl rfl (K.QR.ld1 (v := .int .i64 3) rfl rfl (by kernel_rfl) ((hS.blk 0 rfl hg_3).cell rfl)) ?_
  refine K.RW.qs [.bool true, .bool true, .pointer (some ⟨r_1, 0, none⟩)] (by kernel_rfl) ?_
  refine K.RW.q rfl (by kernel_rfl) (K.QR.ld1 (v := .int .i64 3) rfl rfl (by kernel_rfl) ((hS.blk 0 rfl hg_3).cell rfl)) ?_
  refine K.RW.qs [.bool true, .bool true] (by kernel_rfl) ?_
  refine K.RW.nil ?_
  refine K.thn_normal ?_
  refine K.KW.ifT rfl ?_
  refine K.KW.seq ?_
  -- 2 :57
  refine K.KW.region ?_
  refine K.RW.qs [.pointer (some ⟨p, 0, none⟩), .pointer (some ⟨r_1, 0, none⟩)] (by kernel_rfl) ?_
  refine K.RW.q rfl rfl (K.QR.ld1 (v := .int .i64 3) rfl rfl (by kernel_rfl) ((hS.blk 0 rfl hg_3).cell rfl)) ?_
  refine K.RW.qs [.pointer (some ⟨r_1, 1, none⟩)] (by kernel_rfl) ?_
  refine K.RW.q rfl rfl (K.QR.ld1 (v := .int .i64 a.thread) rfl rfl (by kernel_rfl) ((hS.blk 0 rfl hg_3).cell rfl)) ?_
  refine K.RW.qs [.pointer (some ⟨r_1, 2, none⟩)] (by kernel_rfl) ?_
  refine K.RW.q rfl rfl (K.QR.ld1 (v := .int .i64 a.line) rfl rfl (by kernel_rfl) ((hS.blk 0 rfl hg_3).cell rfl)) ?_
  refine K.RW.l rfl (K.OW.gcall hS [1] [0, 2] [.pointer (some ⟨p, 0, none⟩), .int .i64 3, .int .i64 a.thread, .int .i64 a.line] (rdDo3_ok _ _ _ _ _ _ x a.thread a.line (by omega) (by omega)) ?_)
  clear hS; rintro _ _ w ⟨rfl, l_4, rfl, x_5⟩ hS
  replace hS : K.Sat w0 [l_4, g_2, fr] w := hS
  refine K.RW.qs [.int .u64 0, .int .i64 0] (by kernel_rfl) ?_
  refine K.RW.nil ?_
  refine K.thn_normal ?_
  refine K.KW.ret ?_
  refine K.thn_ret ?_
  have e : actR D n t a = (D.crash, 0, 0) := by unfold actR; (repeat' split) <;> first | rfl | omega
  refine ⟨.inr rfl, rfl, (.tuple #[.int .u64 0, .int .i64 0]), K.res2 rfl rfl rfl, [l_4], ?_, hS.pick [0, 2]⟩
  exact ⟨_, by rw [e], rfl, by rw [e]; exact x_5⟩

set_option maxHeartbeats 1000000 in
set_option maxRecDepth 100000 in
theorem must4_no (w0 : World) (p n t : Nat) (D : DevM) (l : K.Cs) (x : RDevAt l p n t D) (a : ActM) (ha : a.good) (e0 : ¬(0 ≤ a.kind ∧ a.kind ≤ 3)) :
    K.GC Try.prog w0 51 #[.pointer (some ⟨p, 0, none⟩), .agg #[.int .i64 a.kind, .int .i64 a.thread, .int .i64 a.line, .int .i64 a.at_, .int .u64 a.w]] [l] (fun v post => ∃ l', v = .tuple #[.int .u64 (actR D n t a).2.1, .int .i64 (actR D n t a).2.2] ∧ post = [l'] ∧ RDevAt l' p n t (actR D n t a).1) := by
  obtain ⟨hk, ht, hl, hat⟩ := ha
  refine K.GC.mk (n := 37) Try.func51 rfl rfl [.pointer (some ⟨p, 0, none⟩), .agg #[.int .i64 a.kind, .int .i64 a.thread, .int .i64 a.line, .int .i64 a.at_, .int .u64 a.w]] rfl rfl ?_
  intro fr w hS
  replace hS : K.Sat w0 [l, fr] w := hS
  refine K.KW.seq ?_
  -- 0 :55
  refine K.KW.region ?_
  refine K.RW.l rfl (K.OW.gnew 70 [.int .i64 a.kind, .int .i64 a.thread, .int .i64 a.line, .int .i64 a.at_, .int .u64 a.w] hS ?_)
  clear hS; intro w r_1 g_2 hg_3 hS
  refine K.RW.qs [.int .u64 0, .int .i64 0] (by kernel_rfl) ?_
  refine K.RW.nil ?_
  refine K.thn_normal ?_
  refine K.KW.seq ?_
  refine K.KW.seq ?_
  -- 1 :56
  refine K.KW.region ?_
  refine K.RW.qs [.pointer (some ⟨r_1, 0, none⟩)] (by kernel_rfl) ?_
  refine K.RW.q rfl rfl (K.QR.ld1 (v := .int .i64 a.kind) rfl rfl (by kernel_rfl) ((hS.blk 0 rfl hg_3).cell rfl)) ?_
  by_cases h_4 : (a.kind : Int) ≥ (0 : Int)
  ·  -- yes
    refine K.RW.q rfl rfl (K.QR.nice (v := .bool (decide ((a.kind : Int) ≥ (0 : Int)))) (by kernel_rfl) (congrArg Value.bool (decide_eq_true h_4))) ?_
    refine K.RW.qs [.bool true, .pointer (some ⟨r_1, 0, none⟩)] (by kernel_rfl) ?_
    refine K.RW.q rfl (by kernel_rfl) (K.QR.ld1 (v := .int .i64 a.kind) rfl rfl (by kernel_rfl) ((hS.blk 0 rfl hg_3).cell rfl)) ?_
    by_cases h_5 : (a.kind : Int) ≤ (3 : Int)
    ·  -- yes
      refine K.RW.q rfl (by kernel_rfl) (K.QR.nice (v := .bool (decide ((a.kind : Int) ≤ (3 : Int)))) (by kernel_rfl) (congrArg Value.bool (decide_eq_true h_5))) ?_
      refine K.RW.qs [.bool true] (by kernel_rfl) ?_
      refine K.RW.nil ?_
      refine K.thn_normal ?_
      refine K.KW.ifT rfl ?_
      refine K.KW.seq ?_
      -- 2 :57
      exfalso
      omega
    ·  -- no
      refine K.RW.q rfl (by kernel_rfl) (K.QR.nice (v := .bool (decide ((a.kind : Int) ≤ (3 : Int)))) (by kernel_rfl) (congrArg Value.bool (decide_eq_false h_5))) ?_
      refine K.RW.qs [.bool false] (by kernel_rfl) ?_
      refine K.RW.nil ?_
      refine K.thn_normal ?_
      refine K.KW.ifF rfl ?_
      refine K.KW.skip ?_
      refine K.thn_normal ?_
      refine K.KW.seq ?_
      refine K.KW.seq ?_
      -- 3 :59
      refine K.KW.region ?_
      refine K.RW.qs [.pointer (some ⟨r_1, 0, none⟩)] (by kernel_rfl) ?_
      refine K.RW.q rfl rfl (K.QR.ld1 (v := .int .i64 a.kind) rfl rfl (by kernel_rfl) ((hS.blk 0 rfl hg_3).cell rfl)) ?_
      by_cases h_6 : (a.kind : Int) = (4 : Int)
      ·  -- yes
        refine K.RW.q rfl rfl (K.QR.nice (v := .bool ((a.kind : Int) == (4 : Int))) (by kernel_rfl) (congrArg Value.bool (beq_iff_eq.2 h_6))) ?_
        refine K.RW.nil ?_
        refine K.thn_normal ?_
        refine K.KW.ifT rfl ?_
        refine K.KW.seq ?_
        -- 4 :60
        refine K.KW.region ?_
        refine K.RW.qs [.pointer (some ⟨p, 0, none⟩), .pointer (some ⟨r_1, 3, none⟩)] (by kernel_rfl) ?_
        refine K.RW.q rfl rfl (K.QR.ld1 (v := .int .i64 a.at_) rfl rfl (by kernel_rfl) ((hS.blk 0 rfl hg_3).cell rfl)) ?_
        refine K.RW.l rfl (K.OW.gcall hS [1] [0, 2] [.pointer (some ⟨p, 0, none⟩), .int .i64 a.at_] (rdLoad_ok _ _ _ _ _ _ x a.at_ (by omega)) ?_)
        clear hS; rintro _ _ w ⟨rfl, (⟨rfl, h_7⟩ | ⟨rfl, h_8⟩)⟩ hS
        ·
          replace hS : K.Sat w0 [l, g_2, fr] w := hS
          refine K.RW.qs [.int .u64 (D.seen.getD a.at_.toNat 0), .int .i64 0, .int .u64 (D.seen.getD a.at_.toNat 0), .int .i64 0] (by kernel_rfl) ?_
          refine K.RW.nil ?_
          refine K.thn_normal ?_
          refine K.KW.ret ?_
          refine K.thn_ret ?_
          have e : actR D n t a = (D, (D.seen.getD a.at_.toNat 0), 0) := by unfold actR; (repeat' split) <;> first | rfl | omega
          refine ⟨.inr rfl, rfl, (.tuple #[.int .u64 (D.seen.getD a.at_.toNat 0), .int .i64 0]), K.res2 rfl rfl rfl, [l], ?_, hS.pick [0, 2]⟩
          exact ⟨_, by rw [e], rfl, by rw [e]; exact x⟩
        ·
          replace hS : K.Sat w0 [l, g_2, fr] w := hS
          refine K.RW.qs [.int .u64 0, .int .i64 5, .int .u64 0, .int .i64 5] (by kernel_rfl) ?_
          refine K.RW.nil ?_
          refine K.thn_normal ?_
          refine K.KW.ret ?_
          refine K.thn_ret ?_
          have e : actR D n t a = (D, 0, 5) := by unfold actR; (repeat' split) <;> first | rfl | omega
          refine ⟨.inr rfl, rfl, (.tuple #[.int .u64 0, .int .i64 5]), K.res2 rfl rfl rfl, [l], ?_, hS.pick [0, 2]⟩
          exact ⟨_, by rw [e], rfl, by rw [e]; exact x⟩
      ·  -- no
        refine K.RW.q rfl rfl (K.QR.nice (v := .bool ((a.kind : Int) == (4 : Int))) (by kernel_rfl) (congrArg Value.bool (beq_eq_false_iff_ne.2 h_6))) ?_
        refine K.RW.nil ?_
        refine K.thn_normal ?_
        refine K.KW.ifF rfl ?_
        refine K.KW.skip ?_
        refine K.thn_normal ?_
        refine K.KW.seq ?_
        -- 5 :62
        refine K.KW.region ?_
        refine K.RW.qs [.pointer (some ⟨p, 0, none⟩), .pointer (some ⟨r_1, 3, none⟩)] (by kernel_rfl) ?_
        refine K.RW.q rfl rfl (K.QR.ld1 (v := .int .i64 a.at_) rfl rfl (by kernel_rfl) ((hS.blk 0 rfl hg_3).cell rfl)) ?_
        refine K.RW.qs [.pointer (some ⟨r_1, 4, none⟩)] (by kernel_rfl) ?_
        refine K.RW.q rfl rfl (K.QR.ld1 (v := .int .u64 a.w) rfl rfl (by kernel_rfl) ((hS.blk 0 rfl hg_3).cell rfl)) ?_
        refine K.RW.l rfl (K.OW.gcall hS [1] [0, 2] [.pointer (some ⟨p, 0, none⟩), .int .i64 a.at_, .int .u64 a.w] (rdStore_ok _ _ _ _ _ _ x a.at_ (by omega) a.w) ?_)
        clear hS; rintro _ _ w (⟨rfl, h_9, l_10, rfl, x_11⟩ | ⟨rfl, h_12, rfl⟩) hS
        ·
          replace hS : K.Sat w0 [l_10, g_2, fr] w := hS
          refine K.RW.qs [.int .u64 0, .int .i64 0] (by kernel_rfl) ?_
          refine K.RW.nil ?_
          refine K.thn_normal ?_
          refine K.KW.ret ?_
          have e : actR D n t a = (D.store a.at_.toNat a.w, 0, 0) := by unfold actR; (repeat' split) <;> first | rfl | omega
          refine ⟨.inr rfl, rfl, (.tuple #[.int .u64 0, .int .i64 0]), K.res2 rfl rfl rfl, [l_10], ?_, hS.pick [0, 2]⟩
          exact ⟨_, by rw [e], rfl, by rw [e]; exact x_11⟩
        ·
          replace hS : K.Sat w0 [l, g_2, fr] w := hS
          refine K.RW.qs [.int .u64 0, .int .i64 5] (by kernel_rfl) ?_
          refine K.RW.nil ?_
          refine K.thn_normal ?_
          refine K.KW.ret ?_
          have e : actR D n t a = (D, 0, 5) := by unfold actR; (repeat' split) <;> first | rfl | omega
          refine ⟨.inr rfl, rfl, (.tuple #[.int .u64 0, .int .i64 5]), K.res2 rfl rfl rfl, [l], ?_, hS.pick [0, 2]⟩
          exact ⟨_, by rw [e], rfl, by rw [e]; exact x⟩
  ·  -- no
    refine K.RW.q rfl rfl (K.QR.nice (v := .bool (decide ((a.kind : Int) ≥ (0 : Int)))) (by kernel_rfl) (congrArg Value.bool (decide_eq_false h_4))) ?_
    refine K.RW.qs [.bool false] (by kernel_rfl) ?_
    refine K.RW.skip rfl (by kernel_rfl) ?_
    refine K.RW.skip rfl (by kernel_rfl) ?_
    refine K.RW.skip rfl (by kernel_rfl) ?_
    refine K.RW.qs [.bool false] (by kernel_rfl) ?_
    refine K.RW.nil ?_
    refine K.thn_normal ?_
    refine K.KW.ifF rfl ?_
    refine K.KW.skip ?_
    refine K.thn_normal ?_
    refine K.KW.seq ?_
    refine K.KW.seq ?_
    -- 3 :59
    refine K.KW.region ?_
    refine K.RW.qs [.pointer (some ⟨r_1, 0, none⟩)] (by kernel_rfl) ?_
    refine K.RW.q rfl rfl (K.QR.ld1 (v := .int .i64 a.kind) rfl rfl (by kernel_rfl) ((hS.blk 0 rfl hg_3).cell rfl)) ?_
    by_cases h_13 : (a.kind : Int) = (4 : Int)
    ·  -- yes
      refine K.RW.q rfl rfl (K.QR.nice (v := .bool ((a.kind : Int) == (4 : Int))) (by kernel_rfl) (congrArg Value.bool (beq_iff_eq.2 h_13))) ?_
      refine K.RW.nil ?_
      refine K.thn_normal ?_
      refine K.KW.ifT rfl ?_
      refine K.KW.seq ?_
      -- 4 :60
      refine K.KW.region ?_
      refine K.RW.qs [.pointer (some ⟨p, 0, none⟩), .pointer (some ⟨r_1, 3, none⟩)] (by kernel_rfl) ?_
      refine K.RW.q rfl rfl (K.QR.ld1 (v := .int .i64 a.at_) rfl rfl (by kernel_rfl) ((hS.blk 0 rfl hg_3).cell rfl)) ?_
      refine K.RW.l rfl (K.OW.gcall hS [1] [0, 2] [.pointer (some ⟨p, 0, none⟩), .int .i64 a.at_] (rdLoad_ok _ _ _ _ _ _ x a.at_ (by omega)) ?_)
      clear hS; rintro _ _ w ⟨rfl, (⟨rfl, h_14⟩ | ⟨rfl, h_15⟩)⟩ hS
      ·
        replace hS : K.Sat w0 [l, g_2, fr] w := hS
        refine K.RW.qs [.int .u64 (D.seen.getD a.at_.toNat 0), .int .i64 0, .int .u64 (D.seen.getD a.at_.toNat 0), .int .i64 0] (by kernel_rfl) ?_
        refine K.RW.nil ?_
        refine K.thn_normal ?_
        refine K.KW.ret ?_
        refine K.thn_ret ?_
        have e : actR D n t a = (D, (D.seen.getD a.at_.toNat 0), 0) := by unfold actR; (repeat' split) <;> first | rfl | omega
        refine ⟨.inr rfl, rfl, (.tuple #[.int .u64 (D.seen.getD a.at_.toNat 0), .int .i64 0]), K.res2 rfl rfl rfl, [l], ?_, hS.pick [0, 2]⟩
        exact ⟨_, by rw [e], rfl, by rw [e]; exact x⟩
      ·
        replace hS : K.Sat w0 [l, g_2, fr] w := hS
        refine K.RW.qs [.int .u64 0, .int .i64 5, .int .u64 0, .int .i64 5] (by kernel_rfl) ?_
        refine K.RW.nil ?_
        refine K.thn_normal ?_
        refine K.KW.ret ?_
        refine K.thn_ret ?_
        have e : actR D n t a = (D, 0, 5) := by unfold actR; (repeat' split) <;> first | rfl | omega
        refine ⟨.inr rfl, rfl, (.tuple #[.int .u64 0, .int .i64 5]), K.res2 rfl rfl rfl, [l], ?_, hS.pick [0, 2]⟩
        exact ⟨_, by rw [e], rfl, by rw [e]; exact x⟩
    ·  -- no
      refine K.RW.q rfl rfl (K.QR.nice (v := .bool ((a.kind : Int) == (4 : Int))) (by kernel_rfl) (congrArg Value.bool (beq_eq_false_iff_ne.2 h_13))) ?_
      refine K.RW.nil ?_
      refine K.thn_normal ?_
      refine K.KW.ifF rfl ?_
      refine K.KW.skip ?_
      refine K.thn_normal ?_
      refine K.KW.seq ?_
      -- 5 :62
      refine K.KW.region ?_
      refine K.RW.qs [.pointer (some ⟨p, 0, none⟩), .pointer (some ⟨r_1, 3, none⟩)] (by kernel_rfl) ?_
      refine K.RW.q rfl rfl (K.QR.ld1 (v := .int .i64 a.at_) rfl rfl (by kernel_rfl) ((hS.blk 0 rfl hg_3).cell rfl)) ?_
      refine K.RW.qs [.pointer (some ⟨r_1, 4, none⟩)] (by kernel_rfl) ?_
      refine K.RW.q rfl rfl (K.QR.ld1 (v := .int .u64 a.w) rfl rfl (by kernel_rfl) ((hS.blk 0 rfl hg_3).cell rfl)) ?_
      refine K.RW.l rfl (K.OW.gcall hS [1] [0, 2] [.pointer (some ⟨p, 0, none⟩), .int .i64 a.at_, .int .u64 a.w] (rdStore_ok _ _ _ _ _ _ x a.at_ (by omega) a.w) ?_)
      clear hS; rintro _ _ w (⟨rfl, h_16, l_17, rfl, x_18⟩ | ⟨rfl, h_19, rfl⟩) hS
      ·
        replace hS : K.Sat w0 [l_17, g_2, fr] w := hS
        refine K.RW.qs [.int .u64 0, .int .i64 0] (by kernel_rfl) ?_
        refine K.RW.nil ?_
        refine K.thn_normal ?_
        refine K.KW.ret ?_
        have e : actR D n t a = (D.store a.at_.toNat a.w, 0, 0) := by unfold actR; (repeat' split) <;> first | rfl | omega
        refine ⟨.inr rfl, rfl, (.tuple #[.int .u64 0, .int .i64 0]), K.res2 rfl rfl rfl, [l_17], ?_, hS.pick [0, 2]⟩
        exact ⟨_, by rw [e], rfl, by rw [e]; exact x_18⟩
      ·
        replace hS : K.Sat w0 [l, g_2, fr] w := hS
        refine K.RW.qs [.int .u64 0, .int .i64 5] (by kernel_rfl) ?_
        refine K.RW.nil ?_
        refine K.thn_normal ?_
        refine K.KW.ret ?_
        have e : actR D n t a = (D, 0, 5) := by unfold actR; (repeat' split) <;> first | rfl | omega
        refine ⟨.inr rfl, rfl, (.tuple #[.int .u64 0, .int .i64 5]), K.res2 rfl rfl rfl, [l], ?_, hS.pick [0, 2]⟩
        exact ⟨_, by rw [e], rfl, by rw [e]; exact x⟩

theorem must4_ok (w0 : World) (p n t : Nat) (D : DevM) (l : K.Cs) (x : RDevAt l p n t D) (a : ActM) (ha : a.good) :
    K.GC Try.prog w0 51 #[.pointer (some ⟨p, 0, none⟩), .agg #[.int .i64 a.kind, .int .i64 a.thread, .int .i64 a.line, .int .i64 a.at_, .int .u64 a.w]] [l] (fun v post => ∃ l', v = .tuple #[.int .u64 (actR D n t a).2.1, .int .i64 (actR D n t a).2.2] ∧ post = [l'] ∧ RDevAt l' p n t (actR D n t a).1) := by
  by_cases h0 : a.kind = 0
  · rw [h0]; exact must4_0 w0 p n t D l x a ha h0
  by_cases h1 : a.kind = 1
  · rw [h1]; exact must4_1 w0 p n t D l x a ha h1
  by_cases h2 : a.kind = 2
  · rw [h2]; exact must4_2 w0 p n t D l x a ha h2
  by_cases h3 : a.kind = 3
  · rw [h3]; exact must4_3 w0 p n t D l x a ha h3
  exact must4_no w0 p n t D l x a ha (by omega)

set_option maxHeartbeats 1000000 in
set_option maxRecDepth 100000 in
theorem same4_ok (w0 : World) (p r n t : Nat) (D : DevM) (l m : K.Cs) (x : DevAt l p n t D) (y : RDevAt m r n t D) :
    K.GC Try.prog w0 39 #[.pointer (some ⟨p, 0, none⟩), .pointer (some ⟨r, 0, none⟩)] [l, m] (fun v post => v = .bool true ∧ post = [l, m]) := by
  refine K.GC.mk (n := 107) Try.func39 rfl rfl [.pointer (some ⟨p, 0, none⟩), .pointer (some ⟨r, 0, none⟩)] rfl rfl ?_
  intro fr w hS
  replace hS : K.Sat w0 [l, m, fr] w := hS
  obtain ⟨g, gk, gs, gw, gf, gz, vs, ka, sa, wa, fa, ck, cs, cw, cf, rfl, hg, ok, os, ow, of, lv, oz, dk⟩ := y
  have dk2 := dk; obtain ⟨lk, ls, lw, lf, lB, n0, n1, t0, t1⟩ := dk2
  replace hS : K.Sat w0 [l, g, gk, gs, gw, gf, gz, fr] w := hS.of
  refine K.KW.seq ?_
  -- 0 :66
  refine K.KW.region ?_
  refine K.RW.qs [.bool false] (by kernel_rfl) ?_
  refine K.RW.nil ?_
  refine K.thn_normal ?_
  refine K.KW.seq ?_
  refine K.KW.seq ?_
  -- 1 :67
  refine K.KW.gdrawn [1] hS (by kernel_rfl) ?_
  clear hS; intro w hS
  refine K.DW.q 0 (by kernel_rfl) rfl rfl (by kernel_rfl) rfl (fun w hS => K.QR.k (v := .pointer (some ⟨p, 0, none⟩)) (by kernel_rfl)) (hS.pick [1]) ?_
  refine K.DW.q 2 (by kernel_rfl) rfl rfl (by kernel_rfl) rfl (fun w hS => K.QR.k (v := .pointer (some ⟨r, 0, none⟩)) (by kernel_rfl)) (hS.pick [1]) ?_
  refine K.DW.q 3 (by kernel_rfl) rfl rfl (by kernel_rfl) rfl (fun w hS => K.QR.k (v := .pointer (some ⟨r, 0, none⟩)) (by kernel_rfl)) (hS.pick [1]) ?_
  refine K.DW.q 4 (by kernel_rfl) rfl rfl (by kernel_rfl) rfl (fun w hS => K.QR.k (v := .pointer (some ⟨r, 2, none⟩)) (by kernel_rfl)) (hS.pick [1]) ?_
  refine K.DW.q 5 (by kernel_rfl) rfl rfl (by kernel_rfl) rfl (fun w hS => K.QR.ld1 (v := .slice wa n cw) rfl rfl (by kernel_rfl) ((hS.blk 0 rfl hg).cell rfl)) (hS.pick [1]) ?_
  refine K.DW.q 6 (by kernel_rfl) rfl rfl (by kernel_rfl) rfl (fun w hS => K.QR.len (P := Try.prog) rfl rfl Try.underlying73) (hS.pick [1]) ?_
  refine K.DW.l 1 rfl (by kernel_rfl) rfl (K.OW.gcall hS [0] [1, 2, 3, 4, 5, 6, 7] [.pointer (some ⟨p, 0, none⟩)] (dvLines_ok _ _ _ _ _ _ x) ?_)
  clear hS; rintro _ _ w ⟨rfl, rfl⟩ hS
  replace hS : K.Sat w0 [l, g, gk, gs, gw, gf, gz, fr] w := hS
  refine ⟨.inl (hS.pick [1]), ?_⟩
  refine K.DW.l 7 rfl (by kernel_rfl) rfl (K.OW.q rfl (K.QR.nice (v := .bool ((((n : Nat) : Int) : Int) != (((n : Nat) : Int) : Int))) (by kernel_rfl) (congrArg Value.bool (bne_eq_false_iff_eq.2 rfl))) ?_)
  refine ⟨.inl (hS.pick [1]), ?_⟩
  refine K.DW.l 8 rfl (by kernel_rfl) rfl (K.OW.q rfl (K.QR.k (v := .bool false) (by kernel_rfl)) ?_)
  refine ⟨.inl (hS.pick [1]), ?_⟩
  refine K.DW.q 9 (by kernel_rfl) rfl rfl (by kernel_rfl) (by kernel_rfl) (fun w hS => K.QR.k (v := .pointer (some ⟨p, 0, none⟩)) (by kernel_rfl)) (hS.pick [1]) ?_
  refine K.DW.q 11 (by kernel_rfl) rfl rfl (by kernel_rfl) (by kernel_rfl) (fun w hS => K.QR.k (v := .pointer (some ⟨r, 0, none⟩)) (by kernel_rfl)) (hS.pick [1]) ?_
  refine K.DW.q 12 (by kernel_rfl) rfl rfl (by kernel_rfl) (by kernel_rfl) (fun w hS => K.QR.k (v := .pointer (some ⟨r, 0, none⟩)) (by kernel_rfl)) (hS.pick [1]) ?_
  refine K.DW.q 13 (by kernel_rfl) rfl rfl (by kernel_rfl) (by kernel_rfl) (fun w hS => K.QR.k (v := .pointer (some ⟨r, 0, none⟩)) (by kernel_rfl)) (hS.pick [1]) ?_
  refine K.DW.q 14 (by kernel_rfl) rfl rfl (by kernel_rfl) (by kernel_rfl) (fun w hS => K.QR.ld1 (v := .slice ka (n * 8) ck) rfl rfl (by kernel_rfl) ((hS.blk 0 rfl hg).cell rfl)) (hS.pick [1]) ?_
  refine K.DW.l 10 rfl (by kernel_rfl) (by kernel_rfl) (K.OW.gcall hS [0] [1, 2, 3, 4, 5, 6, 7] [.pointer (some ⟨p, 0, none⟩)] (dvKept_ok _ _ _ _ _ _ x) ?_)
  clear hS; rintro _ _ w ⟨r_1, cc_2, l_3, rfl, rfl, o_4⟩ hS
  replace hS : K.Sat w0 [l, l_3, g, gk, gs, gw, gf, gz, fr] w := hS
  refine ⟨.inl (hS.pick [2]), ?_⟩
  refine K.DW.l 15 rfl (by kernel_rfl) (by kernel_rfl) (K.OW.kcall hS [.slice r_1 D.kept.length cc_2, .slice ka (n * 8) ck] (sameN_ok _ _ _ _ _ _ D.kept D.kept _ (by omega) rfl lk (K.Own.rowE 0 (hS.ownr 1 rfl o_4) rfl (fun _ => rfl)) (K.Own.rowE 0 (hS.ownr 3 rfl ok) lk (fun _ => rfl))) ?_)
  rintro _ w ⟨rfl, c_5⟩
  replace hS := hS.no c_5
  rw [sameB_self]
  refine ⟨.inl (hS.pick [2]), ?_⟩
  refine K.DW.l 16 rfl (by kernel_rfl) (by kernel_rfl) (K.OW.q rfl (K.QR.k (v := .bool false) (by kernel_rfl)) ?_)
  refine ⟨.inl (hS.pick [2]), ?_⟩
  refine K.DW.l 17 rfl (by kernel_rfl) rfl (K.OW.q rfl (K.QR.k (v := .bool false) (by kernel_rfl)) ?_)
  refine ⟨.inl (hS.pick [2]), ?_⟩
  refine K.DW.l 18 rfl (by kernel_rfl) rfl (K.OW.q rfl (K.QR.k (v := .bool false) (by kernel_rfl)) ?_)
  refine ⟨.inl (hS.pick [2]), ?_⟩
  refine K.DW.q 19 (by kernel_rfl) rfl rfl (by kernel_rfl) (by kernel_rfl) (fun w hS => K.QR.k (v := .pointer (some ⟨p, 0, none⟩)) (by kernel_rfl)) (hS.pick [2]) ?_
  refine K.DW.q 21 (by kernel_rfl) rfl rfl (by kernel_rfl) (by kernel_rfl) (fun w hS => K.QR.k (v := .pointer (some ⟨r, 0, none⟩)) (by kernel_rfl)) (hS.pick [2]) ?_
  refine K.DW.q 22 (by kernel_rfl) rfl rfl (by kernel_rfl) (by kernel_rfl) (fun w hS => K.QR.k (v := .pointer (some ⟨r, 0, none⟩)) (by kernel_rfl)) (hS.pick [2]) ?_
  refine K.DW.q 23 (by kernel_rfl) rfl rfl (by kernel_rfl) (by kernel_rfl) (fun w hS => K.QR.k (v := .pointer (some ⟨r, 1, none⟩)) (by kernel_rfl)) (hS.pick [2]) ?_
  refine K.DW.q 24 (by kernel_rfl) rfl rfl (by kernel_rfl) (by kernel_rfl) (fun w hS => K.QR.ld1 (v := .slice sa (n * 8) cs) rfl rfl (by kernel_rfl) ((hS.blk 0 rfl hg).cell rfl)) (hS.pick [2]) ?_
  refine K.DW.l 20 rfl (by kernel_rfl) (by kernel_rfl) (K.OW.gcall hS [0] [1, 2, 3, 4, 5, 6, 7, 8] [.pointer (some ⟨p, 0, none⟩)] (dvSeen_ok _ _ _ _ _ _ x) ?_)
  clear hS; rintro _ _ w ⟨r_6, cc_7, l_8, rfl, rfl, o_9⟩ hS
  replace hS : K.Sat w0 [l, l_8, l_3, g, gk, gs, gw, gf, gz, fr] w := hS
  refine ⟨.inl (hS.pick [3]), ?_⟩
  refine K.DW.l 25 rfl (by kernel_rfl) (by kernel_rfl) (K.OW.kcall hS [.slice r_6 D.seen.length cc_7, .slice sa (n * 8) cs] (sameN_ok _ _ _ _ _ _ D.seen D.seen _ (by omega) rfl ls (K.Own.rowE 0 (hS.ownr 1 rfl o_9) rfl (fun _ => rfl)) (K.Own.rowE 0 (hS.ownr 5 rfl os) ls (fun _ => rfl))) ?_)
  rintro _ w ⟨rfl, c_10⟩
  replace hS := hS.no c_10
  rw [sameB_self]
  refine ⟨.inl (hS.pick [3]), ?_⟩
  refine K.DW.l 26 rfl (by kernel_rfl) (by kernel_rfl) (K.OW.q rfl (K.QR.k (v := .bool false) (by kernel_rfl)) ?_)
  refine ⟨.inl (hS.pick [3]), ?_⟩
  refine K.DW.l 27 rfl (by kernel_rfl) rfl (K.OW.q rfl (K.QR.k (v := .bool false) (by kernel_rfl)) ?_)
  refine ⟨.inl (hS.pick [3]), ?_⟩
  refine K.DW.done (by kernel_rfl) ?_
  refine K.thn_normal ?_
  refine K.KW.ifF rfl ?_
  refine K.KW.skip ?_
  refine K.thn_normal ?_
  refine K.KW.seq ?_
  refine K.KW.seq ?_
  -- 3 :70
  refine K.KW.region ?_
  refine K.RW.qs [.int .i64 0] (by kernel_rfl) ?_
  refine K.RW.nil ?_
  refine K.thn_normal ?_
  refine K.KW.block ?_
  refine K.KW.loop (fun m_ F_ w_ => ∃ (j : Nat), m_ = n - j ∧ K.Sl F_ [(0, .pointer (some ⟨p, 0, none⟩)), (1, .pointer (some ⟨r, 0, none⟩)), (5, .int .i64 ((j : Nat) : Int)), (107, undef)] ∧ j ≤ n ∧ K.Sat w0 [l, l_8, l_3, g, gk, gs, gw, gf, gz, fr] w_) ((fun (j : Nat) => n - j) 0) ?_ ?_
  · -- begins
    exact ⟨0, rfl, ⟨by rfl, by rfl, by rfl, by rfl, trivial⟩, (by omega), hS.pick [0, 1, 2, 3, 4, 5, 6, 7, 8, 9]⟩
  · -- a round
    clear hS
    intro m_11 F_12 w hI
    obtain ⟨j, rfl, sl_13, p_14, hS⟩ := hI
    rw [← K.Sl.puts sl_13]; clear sl_13
    refine K.KW.seq ?_
    refine K.KW.seq ?_
    -- 4 :70
    refine K.KW.region ?_
    refine K.RW.qs [.int .i64 ((j : Nat) : Int), .pointer (some ⟨r, 0, none⟩), .pointer (some ⟨r, 0, none⟩), .pointer (some ⟨r, 2, none⟩)] (by kernel_rfl) ?_
    refine K.RW.q rfl rfl (K.QR.ld1 (v := .slice wa n cw) rfl rfl (by kernel_rfl) ((hS.blk 3 rfl hg).cell rfl)) ?_
    refine K.RW.q rfl rfl (K.QR.len (P := Try.prog) rfl rfl Try.underlying73) ?_
    by_cases h_15 : (((j : Nat) : Int) : Int) < (((n : Nat) : Int) : Int)
    ·  -- yes
      refine K.RW.q rfl rfl (K.QR.nice (v := .bool (decide ((((j : Nat) : Int) : Int) < (((n : Nat) : Int) : Int)))) (by kernel_rfl) (congrArg Value.bool (decide_eq_true h_15))) ?_
      refine K.RW.nil ?_
      refine K.thn_normal ?_
      refine K.KW.ifT rfl ?_
      refine K.KW.skip ?_
      refine K.thn_normal ?_
      refine K.KW.seq ?_
      refine K.KW.block ?_
      refine K.KW.seq ?_
      -- 6 :71
      refine K.KW.gdrawn [3, 6] hS (by kernel_rfl) ?_
      clear hS; intro w hS
      refine K.DW.q 0 (by kernel_rfl) rfl rfl (by kernel_rfl) rfl (fun w hS => K.QR.k (v := .pointer (some ⟨p, 0, none⟩)) (by kernel_rfl)) (hS.pick [3, 6]) ?_
      refine K.DW.q 1 (by kernel_rfl) rfl rfl (by kernel_rfl) rfl (fun w hS => K.QR.k (v := .int .i64 ((j : Nat) : Int)) (by kernel_rfl)) (hS.pick [3, 6]) ?_
      refine K.DW.q 3 (by kernel_rfl) rfl rfl (by kernel_rfl) rfl (fun w hS => K.QR.k (v := .pointer (some ⟨r, 0, none⟩)) (by kernel_rfl)) (hS.pick [3, 6]) ?_
      refine K.DW.q 4 (by kernel_rfl) rfl rfl (by kernel_rfl) rfl (fun w hS => K.QR.k (v := .pointer (some ⟨r, 0, none⟩)) (by kernel_rfl)) (hS.pick [3, 6]) ?_
      refine K.DW.q 5 (by kernel_rfl) rfl rfl (by kernel_rfl) rfl (fun w hS => K.QR.k (v := .pointer (some ⟨r, 2, none⟩)) (by kernel_rfl)) (hS.pick [3, 6]) ?_
      refine K.DW.q 6 (by kernel_rfl) rfl rfl (by kernel_rfl) rfl (fun w hS => K.QR.ld1 (v := .slice wa n cw) rfl rfl (by kernel_rfl) ((hS.blk 0 rfl hg).cell rfl)) (hS.pick [3, 6]) ?_
      refine K.DW.q 7 (by kernel_rfl) rfl rfl (by kernel_rfl) rfl (fun w hS => K.QR.k (v := .int .i64 ((j : Nat) : Int)) (by kernel_rfl)) (hS.pick [3, 6]) ?_
      obtain ⟨b_16, rfl⟩ := ow.some_ (by have := ow.le; omega)
      refine K.DW.q 8 (by kernel_rfl) rfl rfl (by kernel_rfl) rfl (fun w hS => K.QR.ix j 1 rfl rfl rfl Try.underlying73 (by kernel_rfl) (by omega) (by first | (simp; done) | omega | (simp; omega))) (hS.pick [3, 6]) ?_
      refine K.DW.q 9 (by kernel_rfl) rfl rfl (by kernel_rfl) rfl (fun w hS => K.QR.ld1 (v := .int .i64 (D.writes.getD j 0)) rfl rfl (by kernel_rfl) (K.Own.atS (c := cI64) (d := 0) (fun _ => rfl) (hS.ownr 1 rfl ow) lw j (by omega))) (hS.pick [3, 6]) ?_
      refine K.DW.l 2 rfl (by kernel_rfl) rfl (K.OW.gcall hS [0] [1, 2, 3, 4, 5, 6, 7, 8, 9] [.pointer (some ⟨p, 0, none⟩), .int .i64 ((j : Nat) : Int)] (dvWrites_ok _ _ _ _ _ _ x ((j : Nat) : Int) (by omega)) ?_)
      clear hS; rintro _ _ w ⟨rfl, (⟨rfl, h_18⟩ | ⟨rfl, h_19⟩)⟩ hS
      ·
        replace hS : K.Sat w0 [l, l_8, l_3, g, gk, gs, gw, gf, gz, fr] w := hS
        refine ⟨.inl (hS.pick [3, 6]), ?_⟩
        refine K.DW.l 10 rfl (by kernel_rfl) rfl (K.OW.q rfl (K.QR.nice (v := .bool (((D.writes.getD j 0) : Int) != (D.writes.getD j 0 : Int))) (by kernel_rfl) (congrArg Value.bool (bne_eq_false_iff_eq.2 (rfl)))) ?_)
        refine ⟨.inl (hS.pick [3, 6]), ?_⟩
        refine K.DW.done (by kernel_rfl) ?_
        refine K.thn_normal ?_
        refine K.KW.ifF rfl ?_
        refine K.KW.skip ?_
        refine K.blk_normal ?_
        refine K.thn_normal ?_
        -- 5 :70
        refine K.KW.region ?_
        refine K.RW.qs [.int .i64 ((j : Nat) : Int)] (by kernel_rfl) ?_
        refine K.RW.q rfl rfl (K.QR.n64 ((((j : Nat) : Int) : Int) + (1 : Int)) ((j + 1 : Nat) : Int) (by kernel_rfl) (by omega)) ?_
        refine K.RW.qs [.int .i64 ((j + 1 : Nat) : Int)] (by kernel_rfl) ?_
        refine K.RW.nil ?_
        refine K.thn_normal ?_
        refine ⟨_, ?_, j + 1, rfl, ⟨by rfl, by rfl, by rfl, by rfl, trivial⟩, (by omega), hS.pick [0, 1, 2, 3, 4, 5, 6, 7, 8, 9]⟩
        omega
      ·
        exfalso; omega
    ·  -- no
      refine K.RW.q rfl rfl (K.QR.nice (v := .bool (decide ((((j : Nat) : Int) : Int) < (((n : Nat) : Int) : Int)))) (by kernel_rfl) (congrArg Value.bool (decide_eq_false h_15))) ?_
      refine K.RW.nil ?_
      refine K.thn_normal ?_
      refine K.KW.ifF rfl ?_
      refine K.KW.exit ?_
      refine K.thn_exit ?_
      refine K.thn_exit ?_
      refine K.blk_hit ?_
      refine K.thn_normal ?_
      refine K.KW.seq ?_
      refine K.KW.seq ?_
      -- 8 :75
      refine K.KW.region ?_
      refine K.RW.qs [.int .i64 0] (by kernel_rfl) ?_
      refine K.RW.nil ?_
      refine K.thn_normal ?_
      refine K.KW.block ?_
      refine K.KW.loop (fun m_ F_ w_ => ∃ (q : Nat), m_ = t - q ∧ K.Sl F_ [(0, .pointer (some ⟨p, 0, none⟩)), (1, .pointer (some ⟨r, 0, none⟩)), (6, .int .i64 ((q : Nat) : Int)), (107, undef)] ∧ q ≤ t ∧ K.Sat w0 [l, l_8, l_3, g, gk, gs, gw, gf, gz, fr] w_) ((fun (q : Nat) => t - q) 0) ?_ ?_
      · -- begins
        exact ⟨0, rfl, ⟨by rfl, by rfl, by rfl, by rfl, trivial⟩, (by omega), hS.pick [0, 1, 2, 3, 4, 5, 6, 7, 8, 9]⟩
      · -- a round
        clear hS
        intro m_20 F_21 w hI
        obtain ⟨q, rfl, sl_22, p_23, hS⟩ := hI
        rw [← K.Sl.puts sl_22]; clear sl_22
        refine K.KW.seq ?_
        refine K.KW.seq ?_
        -- 9 :75
        refine K.KW.region ?_
        refine K.RW.qs [.int .i64 ((q : Nat) : Int), .pointer (some ⟨r, 0, none⟩), .pointer (some ⟨r, 0, none⟩), .pointer (some ⟨r, 3, none⟩)] (by kernel_rfl) ?_
        refine K.RW.q rfl rfl (K.QR.ld1 (v := .slice fa t cf) rfl rfl (by kernel_rfl) ((hS.blk 3 rfl hg).cell rfl)) ?_
        refine K.RW.q rfl rfl (K.QR.len (P := Try.prog) rfl rfl Try.underlying100) ?_
        by_cases h_24 : (((q : Nat) : Int) : Int) < (((t : Nat) : Int) : Int)
        ·  -- yes
          refine K.RW.q rfl rfl (K.QR.nice (v := .bool (decide ((((q : Nat) : Int) : Int) < (((t : Nat) : Int) : Int)))) (by kernel_rfl) (congrArg Value.bool (decide_eq_true h_24))) ?_
          refine K.RW.nil ?_
          refine K.thn_normal ?_
          refine K.KW.ifT rfl ?_
          refine K.KW.skip ?_
          refine K.thn_normal ?_
          refine K.KW.seq ?_
          refine K.KW.block ?_
          refine K.KW.seq ?_
          -- 11 :76
          have hBq := lB _ (mem_getD (l := D.flush) (k := q) [] (by omega))
          refine K.KW.region ?_
          refine K.RW.qs [.pointer (some ⟨p, 0, none⟩), .int .i64 ((q : Nat) : Int)] (by kernel_rfl) ?_
          refine K.RW.l rfl (K.OW.gcall hS [0] [1, 2, 3, 4, 5, 6, 7, 8, 9] [.pointer (some ⟨p, 0, none⟩), .int .i64 ((q : Nat) : Int)] (dvPending_ok _ _ _ _ _ _ x ((q : Nat) : Int) (by omega)) ?_)
          clear hS; rintro _ _ w (⟨r_25, cc_26, l_27, rfl, rfl, o_28, h_29⟩ | ⟨rfl, rfl, h_30⟩) hS
          ·
            replace hS : K.Sat w0 [l, l_27, l_8, l_3, g, gk, gs, gw, gf, gz, fr] w := hS
            replace o_28 : K.OwnG l_27 3 1 r_25 ((trues (D.flush.getD q [])).length) cc_26 (((trues (D.flush.getD q []))).flatMap cI64) := o_28
            refine K.RW.qs [.slice r_25 ((trues (D.flush.getD q [])).length) cc_26] (by kernel_rfl) ?_
            refine K.RW.nil ?_
            refine K.thn_normal ?_
            refine K.KW.seq ?_
            -- 12 :77
            refine K.KW.region ?_
            refine K.RW.qs [.int .i64 0] (by kernel_rfl) ?_
            refine K.RW.nil ?_
            refine K.thn_normal ?_
            refine K.KW.seq ?_
            refine K.KW.seq ?_
            -- 13 :78
            refine K.KW.region ?_
            refine K.RW.qs [.int .i64 0] (by kernel_rfl) ?_
            refine K.RW.nil ?_
            refine K.thn_normal ?_
            refine K.KW.block ?_
            refine K.KW.loop (fun m_ F_ w_ => ∃ (i : Nat) (k : Nat), m_ = n - i ∧ K.Sl F_ [(0, .pointer (some ⟨p, 0, none⟩)), (1, .pointer (some ⟨r, 0, none⟩)), (6, .int .i64 ((q : Nat) : Int)), (7, .slice r_25 ((trues (D.flush.getD q [])).length) cc_26), (8, .int .i64 ((k : Nat) : Int)), (9, .int .i64 ((i : Nat) : Int)), (107, undef)] ∧ i ≤ n ∧ k = (trues ((D.flush.getD q []).take i)).length ∧ K.Sat w0 [l, l_27, l_8, l_3, g, gk, gs, gw, gf, gz, fr] w_) ((fun (i : Nat) (k : Nat) => n - i) 0 0) ?_ ?_
            · -- begins
              exact ⟨0, 0, rfl, ⟨by rfl, by rfl, by rfl, by rfl, by rfl, by rfl, by rfl, trivial⟩, (by omega), (rfl), hS.pick [0, 1, 2, 3, 4, 5, 6, 7, 8, 9, 10]⟩
            · -- a round
              clear hS
              intro m_31 F_32 w hI
              obtain ⟨i, k, rfl, sl_33, p_34, hki, hS⟩ := hI
              rw [← K.Sl.puts sl_33]; clear sl_33
              refine K.KW.seq ?_
              refine K.KW.seq ?_
              -- 14 :78
              refine K.KW.region ?_
              refine K.RW.qs [.int .i64 ((i : Nat) : Int), .pointer (some ⟨r, 0, none⟩), .pointer (some ⟨r, 0, none⟩), .pointer (some ⟨r, 2, none⟩)] (by kernel_rfl) ?_
              refine K.RW.q rfl rfl (K.QR.ld1 (v := .slice wa n cw) rfl rfl (by kernel_rfl) ((hS.blk 4 rfl hg).cell rfl)) ?_
              refine K.RW.q rfl rfl (K.QR.len (P := Try.prog) rfl rfl Try.underlying73) ?_
              by_cases h_35 : (((i : Nat) : Int) : Int) < (((n : Nat) : Int) : Int)
              ·  -- yes
                refine K.RW.q rfl rfl (K.QR.nice (v := .bool (decide ((((i : Nat) : Int) : Int) < (((n : Nat) : Int) : Int)))) (by kernel_rfl) (congrArg Value.bool (decide_eq_true h_35))) ?_
                refine K.RW.nil ?_
                refine K.thn_normal ?_
                refine K.KW.ifT rfl ?_
                refine K.KW.skip ?_
                refine K.thn_normal ?_
                refine K.KW.seq ?_
                refine K.KW.block ?_
                refine K.KW.seq ?_
                -- 16 :79
                have hBq := lB _ (mem_getD (l := D.flush) (k := q) [] (by omega))
                obtain ⟨gA, gi, gC, vi, hgz, hvk, hbg, hset⟩ := oz.at [] q (by omega)
                obtain ⟨ia, ic, rfl, oi⟩ := hbg
                replace hS : K.Sat w0 [l, l_27, l_8, l_3, g, gk, gs, gw, gf, gA, gi, gC, fr] w := hS.of (by simp [hgz])
                refine K.KW.region ?_
                refine K.RW.qs [.pointer (some ⟨r, 0, none⟩), .pointer (some ⟨r, 0, none⟩), .pointer (some ⟨r, 3, none⟩)] (by kernel_rfl) ?_
                refine K.RW.q rfl rfl (K.QR.ld1 (v := .slice fa t cf) rfl rfl (by kernel_rfl) ((hS.blk 4 rfl hg).cell rfl)) ?_
                refine K.RW.qs [.int .i64 ((q : Nat) : Int)] (by kernel_rfl) ?_
                obtain ⟨b_36, rfl⟩ := of.some_ (by have := of.le; omega)
                refine K.RW.q rfl rfl (K.QR.ix q 1 rfl rfl rfl Try.underlying100 (by kernel_rfl) (by omega) (by first | (simp; done) | omega | (simp; omega))) ?_
                refine K.RW.q rfl rfl (K.QR.ld1 (v := .slice ia ((D.flush.getD q []).length) ic) rfl rfl (by kernel_rfl) (dv_ld (hS.ownr 8 rfl of) lv hvk)) ?_
                refine K.RW.qs [.int .i64 ((i : Nat) : Int)] (by kernel_rfl) ?_
                obtain ⟨b_38, rfl⟩ := oi.some_ (by have := oi.le; omega)
                refine K.RW.q rfl rfl (K.QR.ix i 1 rfl rfl rfl Try.underlying133 (by kernel_rfl) (by omega) (by first | (simp; done) | omega | (simp; omega))) ?_
                refine K.RW.q rfl rfl (K.QR.ld1 (v := .bool ((D.flush.getD q []).getD i false)) rfl rfl (by kernel_rfl) (K.Own.atS (c := cBool) (d := false) (fun _ => rfl) (hS.ownr 10 rfl oi) rfl i (by omega))) ?_
                cases hb_40 : (D.flush.getD q []).getD i false
                ·
                  refine K.RW.nil ?_
                  refine K.thn_normal ?_
                  refine K.KW.ifF rfl ?_
                  refine K.KW.skip ?_
                  refine K.blk_normal ?_
                  refine K.thn_normal ?_
                  -- 15 :78
                  refine K.KW.region ?_
                  refine K.RW.qs [.int .i64 ((i : Nat) : Int)] (by kernel_rfl) ?_
                  refine K.RW.q rfl rfl (K.QR.n64 ((((i : Nat) : Int) : Int) + (1 : Int)) ((i + 1 : Nat) : Int) (by kernel_rfl) (by omega)) ?_
                  refine K.RW.qs [.int .i64 ((i + 1 : Nat) : Int)] (by kernel_rfl) ?_
                  refine K.RW.nil ?_
                  refine K.thn_normal ?_
                  replace hS : K.Sat w0 [l, l_27, l_8, l_3, g, gk, gs, gw, gf, gz, fr] w := hS.of (by simp [hgz])
                  refine ⟨_, ?_, i + 1, k, rfl, ⟨by rfl, by rfl, by rfl, by rfl, by rfl, by rfl, by rfl, trivial⟩, (by omega), (by exact trues_f (by omega) (by assumption) hki), hS.pick [0, 1, 2, 3, 4, 5, 6, 7, 8, 9, 10]⟩
                  omega
                ·
                  refine K.RW.nil ?_
                  refine K.thn_normal ?_
                  refine K.KW.ifT rfl ?_
                  refine K.KW.seq ?_
                  refine K.KW.seq ?_
                  -- 17 :80
                  have h8 := (trues_at (D.flush.getD q []) (m := i) (by omega) (by assumption)).1; have h9 := trues_len (D.flush.getD q [])
                  refine K.KW.region ?_
                  refine K.RW.qs [.int .i64 ((k : Nat) : Int), .slice r_25 ((trues (D.flush.getD q [])).length) cc_26] (by kernel_rfl) ?_
                  refine K.RW.q rfl rfl (K.QR.len (P := Try.prog) rfl rfl Try.underlying73) ?_
                  refine K.RW.q rfl rfl (K.QR.nice (v := .bool (decide ((((k : Nat) : Int) : Int) ≥ ((((trues (D.flush.getD q [])).length : Nat) : Int) : Int)))) (by kernel_rfl) (congrArg Value.bool (decide_eq_false (by have h := (trues_at (D.flush.getD q []) (m := i) (by omega) (by assumption)).1; omega)))) ?_
                  refine K.RW.qs [.bool false, .slice r_25 ((trues (D.flush.getD q [])).length) cc_26, .int .i64 ((k : Nat) : Int)] (by kernel_rfl) ?_
                  obtain ⟨b_41, rfl⟩ := o_28.some_ (by have := o_28.le; omega)
                  refine K.RW.q rfl (by kernel_rfl) (K.QR.ix k 1 rfl rfl rfl Try.underlying73 (by kernel_rfl) (by omega) (by first | (simp; done) | omega | (simp; omega))) ?_
                  refine K.RW.q rfl (by kernel_rfl) (K.QR.ld1 (v := .int .i64 ((trues (D.flush.getD q [])).getD k 0)) rfl rfl (by kernel_rfl) (K.Own.atS (c := cI64) (d := 0) (fun _ => rfl) (hS.ownr 1 rfl o_28) rfl k (by omega))) ?_
                  refine K.RW.qs [.int .i64 ((i : Nat) : Int)] (by kernel_rfl) ?_
                  refine K.RW.q rfl (by kernel_rfl) (K.QR.nice (v := .bool (((trues (D.flush.getD q [])).getD k 0 : Int) != (((i : Nat) : Int) : Int))) (by kernel_rfl) (congrArg Value.bool (bne_eq_false_iff_eq.2 (by rw [hki]; exact (trues_at (D.flush.getD q []) (m := i) (by omega) (by assumption)).2)))) ?_
                  refine K.RW.qs [.bool false] (by kernel_rfl) ?_
                  refine K.RW.nil ?_
                  refine K.thn_normal ?_
                  refine K.KW.ifF rfl ?_
                  refine K.KW.skip ?_
                  refine K.thn_normal ?_
                  -- 19 :83
                  refine K.KW.region ?_
                  refine K.RW.qs [.int .i64 ((k : Nat) : Int)] (by kernel_rfl) ?_
                  refine K.RW.q rfl rfl (K.QR.n64 ((((k : Nat) : Int) : Int) + (1 : Int)) ((k + 1 : Nat) : Int) (by kernel_rfl) (by omega)) ?_
                  refine K.RW.qs [.int .i64 ((k + 1 : Nat) : Int)] (by kernel_rfl) ?_
                  refine K.RW.nil ?_
                  refine K.blk_normal ?_
                  refine K.thn_normal ?_
                  -- 15 :78
                  refine K.KW.region ?_
                  refine K.RW.qs [.int .i64 ((i : Nat) : Int)] (by kernel_rfl) ?_
                  refine K.RW.q rfl rfl (K.QR.n64 ((((i : Nat) : Int) : Int) + (1 : Int)) ((i + 1 : Nat) : Int) (by kernel_rfl) (by omega)) ?_
                  refine K.RW.qs [.int .i64 ((i + 1 : Nat) : Int)] (by kernel_rfl) ?_
                  refine K.RW.nil ?_
                  refine K.thn_normal ?_
                  replace hS : K.Sat w0 [l, l_27, l_8, l_3, g, gk, gs, gw, gf, gz, fr] w := hS.of (by simp [hgz])
                  refine ⟨_, ?_, i + 1, k + 1, rfl, ⟨by rfl, by rfl, by rfl, by rfl, by rfl, by rfl, by rfl, trivial⟩, (by omega), (by exact trues_t (by omega) (by assumption) hki), hS.pick [0, 1, 2, 3, 4, 5, 6, 7, 8, 9, 10]⟩
                  omega
              ·  -- no
                refine K.RW.q rfl rfl (K.QR.nice (v := .bool (decide ((((i : Nat) : Int) : Int) < (((n : Nat) : Int) : Int)))) (by kernel_rfl) (congrArg Value.bool (decide_eq_false h_35))) ?_
                refine K.RW.nil ?_
                refine K.thn_normal ?_
                refine K.KW.ifF rfl ?_
                refine K.KW.exit ?_
                refine K.thn_exit ?_
                refine K.thn_exit ?_
                refine K.blk_hit ?_
                refine K.thn_normal ?_
                refine K.KW.seq ?_
                -- 20 :86
                refine K.KW.region ?_
                refine K.RW.qs [.int .i64 ((k : Nat) : Int), .slice r_25 ((trues (D.flush.getD q [])).length) cc_26] (by kernel_rfl) ?_
                refine K.RW.q rfl rfl (K.QR.len (P := Try.prog) rfl rfl Try.underlying73) ?_
                refine K.RW.q rfl rfl (K.QR.nice (v := .bool ((((k : Nat) : Int) : Int) != ((((trues (D.flush.getD q [])).length : Nat) : Int) : Int))) (by kernel_rfl) (congrArg Value.bool (bne_eq_false_iff_eq.2 (by rw [hki, List.take_of_length_le (by omega)])))) ?_
                refine K.RW.nil ?_
                refine K.thn_normal ?_
                refine K.KW.ifF rfl ?_
                refine K.KW.skip ?_
                refine K.blk_normal ?_
                refine K.thn_normal ?_
                -- 10 :75
                refine K.KW.region ?_
                refine K.RW.qs [.int .i64 ((q : Nat) : Int)] (by kernel_rfl) ?_
                refine K.RW.q rfl rfl (K.QR.n64 ((((q : Nat) : Int) : Int) + (1 : Int)) ((q + 1 : Nat) : Int) (by kernel_rfl) (by omega)) ?_
                refine K.RW.qs [.int .i64 ((q + 1 : Nat) : Int)] (by kernel_rfl) ?_
                refine K.RW.nil ?_
                refine K.thn_normal ?_
                refine ⟨_, ?_, q + 1, rfl, ⟨by rfl, by rfl, by rfl, by rfl, trivial⟩, (by omega), hS.pick [0, 2, 3, 4, 5, 6, 7, 8, 9, 10]⟩
                omega
          ·
            exfalso; omega
        ·  -- no
          refine K.RW.q rfl rfl (K.QR.nice (v := .bool (decide ((((q : Nat) : Int) : Int) < (((t : Nat) : Int) : Int)))) (by kernel_rfl) (congrArg Value.bool (decide_eq_false h_24))) ?_
          refine K.RW.nil ?_
          refine K.thn_normal ?_
          refine K.KW.ifF rfl ?_
          refine K.KW.exit ?_
          refine K.thn_exit ?_
          refine K.thn_exit ?_
          refine K.blk_hit ?_
          refine K.thn_normal ?_
          refine K.KW.seq ?_
          -- 22 :90
          refine K.KW.region ?_
          refine K.RW.qs [.bool true] (by kernel_rfl) ?_
          refine K.RW.nil ?_
          refine K.thn_normal ?_
          refine K.KW.ret ?_
          replace hS : K.Sat w0 [[g, gk, gs, gw, gf, gz].flatten, l, l_8, l_3, fr] w := (hS.pick [3, 4, 5, 6, 7, 8, 0, 1, 2, 9]).of
          refine ⟨.inr rfl, rfl, (.bool true), K.res1 rfl rfl, [l, [g, gk, gs, gw, gf, gz].flatten], ?_, hS.pick [1, 0, 4]⟩
          exact ⟨rfl, rfl⟩

end Go.Proofs.Ytgeihjiichdpbaa
