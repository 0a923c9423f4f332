/- Links: words, and the machines' steps. -/
import Derived.Test.YtbfafebfkdbglaaGreatKn
import Derived.Test.YtbfafebfkdbglaaGreatKi
import Derived.Test.YtbfafebfkdbglaaGreatFl9
namespace Go.Proofs.YtbfafebfkdbglaaGreat
open Go.RowKit
set_option linter.unusedVariables false
attribute [local irreducible] K.KW K.RW K.DW K.OW K.QR K.KC
structure RdS where
 t : Int
 at_ : Int
 pc : Int
 word : Int
 when_ : Int
abbrev rdPt (p : Nat) (S : RdS) : K.Cs := [K.pt p 232 [.int .i64 S.t, .int .i64 S.at_, .int .i64 S.pc, .int .u64 S.word, .int .i64 S.when_]]
structure SeS where
 t : Int
 at_ : Int
 pc : Int
 word : Int
 when_ : Int
 old : Int
 put : Bool
 writes : Int
abbrev sePt (p : Nat) (S : SeS) : K.Cs := [K.pt p 256 [.int .i64 S.t, .int .i64 S.at_, .int .i64 S.pc, .int .u64 S.word, .int .i64 S.when_, .int .u64 S.old, .bool S.put, .int .i64 S.writes]]
def cleanI (w : Int) : Int := w % 9223372036854775808
def soilI (w : Int) : Int := w % 9223372036854775808 + 9223372036854775808
/-- a link that is not dirty -/
def isL (w : Int) : Prop := 0 ≤ w ∧ w < 9223372036854775808
theorem cleanI_l (w : Int) : isL (cleanI w) := by unfold isL cleanI; omega
theorem soilI_w (w : Int) : isW (soilI w) := by unfold isW soilI; omega
theorem isL.w {w : Int} (h : isL w) : isW w := by unfold isL at h; unfold isW; omega
theorem isL.clean {w : Int} (h : isL w) : cleanI w = w := by unfold isL at h; unfold cleanI; omega
theorem clean_soil {w : Int} (h : isL w) : cleanI (soilI w) = w := by unfold isL at h; unfold cleanI soilI; omega
theorem clean_nd {w : Int} (h : isW w) (hd : w < 9223372036854775808) : cleanI w = w := by unfold isW at h; unfold cleanI; omega
theorem andNot63 {w : Int} (h : isW w) : K.andNotK .u64 w 9223372036854775808 = cleanI w := by
 unfold isW at h
 obtain ⟨n, rfl⟩ : ∃ n : Nat, w = n := ⟨w.toNat, by omega⟩
 have e : (BitVec.ofInt 64 (n : Int) &&& ~~~ BitVec.ofInt 64 9223372036854775808).toNat = n % 9223372036854775808 := by
  rw [BitVec.toNat_and, bv64 n (by omega), show (~~~ BitVec.ofInt 64 9223372036854775808).toNat = 9223372036854775807 by decide]
  exact Nat.and_two_pow_sub_one_eq_mod n 63
 show IntKind.u64.wrap (((BitVec.ofInt 64 (n : Int) &&& ~~~ BitVec.ofInt 64 9223372036854775808).toNat : Nat) : Int) = _
 rw [e, wrap64 (by unfold isW; omega)]; unfold cleanI; omega
theorem nor63 (r : Nat) (hr : r < 9223372036854775808) : 9223372036854775808 ||| r = 9223372036854775808 + r := by
 have := Nat.shiftLeft_add_eq_or_of_lt (b := r) (i := 63) (by omega) 1
 rw [Nat.shiftLeft_eq, show (1 : Nat) * 2 ^ 63 = 9223372036854775808 by decide] at this
 omega
theorem or63 {w : Int} (h : isW w) : K.orK .u64 w 9223372036854775808 = soilI w := by
 unfold isW at h
 obtain ⟨n, rfl⟩ : ∃ n : Nat, w = n := ⟨w.toNat, by omega⟩
 have e : (BitVec.ofInt 64 (n : Int) ||| BitVec.ofInt 64 9223372036854775808).toNat = n % 9223372036854775808 + 9223372036854775808 := by
  rw [BitVec.toNat_or, bv64 n (by omega), show (BitVec.ofInt 64 9223372036854775808).toNat = 9223372036854775808 by decide, Nat.or_comm]
  by_cases hn : n < 9223372036854775808
  ·rw [nor63 n hn]; omega
  ·have e1 : n = 9223372036854775808 ||| (n - 9223372036854775808) := by rw [nor63 _ (by omega)]; omega
   have e2 : 9223372036854775808 ||| n = n := by
    rw [e1, ← Nat.or_assoc, Nat.or_self]
   rw [e2]; omega
 show IntKind.u64.wrap (((BitVec.ofInt 64 (n : Int) ||| BitVec.ofInt 64 9223372036854775808).toNat : Nat) : Int) = _
 rw [e, wrap64 (by unfold isW; omega)]; unfold soilI; omega
def RdS.good (S : RdS) : Prop := isInt S.t ∧ isInt S.at_ ∧ (0 ≤ S.pc ∧ S.pc ≤ 4) ∧ isL S.word ∧ isInt S.when_
def SeS.good (S : SeS) : Prop := isInt S.t ∧ isInt S.at_ ∧ (0 ≤ S.pc ∧ S.pc ≤ 4) ∧ isL S.word ∧ isL S.old ∧ (S.pc = 0 → S.put = false ∧ S.when_ = -1 ∧ S.writes = 0)
def lastM (n nt : Nat) (th at_ pc word : Int) (M : MemM) : MemM :=
 if pc = 1 then (M.accF n nt th at_).1 else if pc = 2 then (M.accE nt th).1 else (M.accW n th at_ (soilI word) word).1
def rdStep (n nt : Nat) (S : RdS) (M : MemM) : RdS × MemM :=
 if S.pc = 4 then (S, M)
 else if S.pc = 0 then (⟨S.t, S.at_, if (M.accL n S.t S.at_).2.old < 9223372036854775808 then 4 else 1, cleanI (M.accL n S.t S.at_).2.old, (M.accL n S.t S.at_).1.clock⟩, (M.accL n S.t S.at_).1)
 else (⟨S.t, S.at_, if S.pc = 3 then 0 else S.pc + 1, S.word, S.when_⟩, lastM n nt S.t S.at_ S.pc S.word M)
def wrM (M : MemM) (i : Int) : Int := if 0 ≤ i then M.dev.writes.getD (i / 8).toNat 0 else 0
def seA (n : Nat) (S : SeS) (M : MemM) : MemM × AccM := M.accW n S.t S.at_ S.old (soilI S.word)
def seStep (n nt : Nat) (S : SeS) (M : MemM) : SeS × MemM :=
 if S.pc = 4 then (S, M)
 else if S.pc = 0 then (if (seA n S M).2.done = true then (⟨S.t, S.at_, 1, S.word, (seA n S M).1.clock, S.old, true, wrM (seA n S M).1 S.at_⟩, (seA n S M).1) else (⟨S.t, S.at_, 4, S.word, S.when_, S.old, S.put, S.writes⟩, (seA n S M).1))
 else (⟨S.t, S.at_, S.pc + 1, S.word, S.when_, S.old, S.put, S.writes⟩, lastM n nt S.t S.at_ S.pc S.word M)
theorem accF_good {M : MemM} {n nt : Nat} {th i : Int} (h : M.good) : (M.accF n nt th i).1.good := by
 show MemM.good (MemM.count (if decide _ = true then _ else M) _ _)
 split
 ·exact h
 ·exact h
theorem accE_good {M : MemM} {nt : Nat} {th : Int} (h : M.good) : (M.accE nt th).1.good := by
 show MemM.good (MemM.count (if decide _ = true then _ else M) _ _)
 split
 ·have := fence_words (k := th.toNat) (D := M.dev) h.2
  exact ⟨h.1, this⟩
 ·exact h
theorem lastM_good {n nt : Nat} {th at_ pc word : Int} {M : MemM} (hM : M.good) (hw : isL word) : (lastM n nt th at_ pc word M).good := by
 unfold lastM
 split
 ·exact accF_good hM
 split
 ·exact accE_good hM
 ·exact accW_good hM hw.w
theorem rdStep_good {n nt : Nat} {S : RdS} {M : MemM} (hS : S.good) (hM : M.good) (hc : isInt (M.accL n S.t S.at_).1.clock) : (rdStep n nt S M).1.good ∧ (rdStep n nt S M).2.good := by
 obtain ⟨h1, h2, h3, h4, h5⟩ := hS
 unfold rdStep
 split
 ·exact ⟨⟨h1, h2, h3, h4, h5⟩, hM⟩
 split
 ·exact ⟨⟨h1, h2, by show 0 ≤ (if _ then (4 : Int) else 1) ∧ (if _ then (4 : Int) else 1) ≤ 4; split <;> omega, cleanI_l _, hc⟩, (accL_good hM).1⟩
 ·exact ⟨⟨h1, h2, by show 0 ≤ (if S.pc = 3 then (0 : Int) else S.pc + 1) ∧ (if S.pc = 3 then (0 : Int) else S.pc + 1) ≤ 4; split <;> omega, h4, h5⟩, lastM_good hM h4⟩
theorem seStep_good {n nt : Nat} {S : SeS} {M : MemM} (hS : S.good) (hM : M.good) : (seStep n nt S M).1.good ∧ (seStep n nt S M).2.good := by
 obtain ⟨h1, h2, h3, h4, h5, h6⟩ := hS
 unfold seStep
 split
 ·exact ⟨⟨h1, h2, h3, h4, h5, h6⟩, hM⟩
 split
 ·split
  ·exact ⟨⟨h1, h2, (by decide : (0 : Int) ≤ 1 ∧ (1 : Int) ≤ 4), h4, h5, fun h => absurd h (by decide : ¬ (1 : Int) = 0)⟩, accW_good hM (soilI_w _)⟩
  ·exact ⟨⟨h1, h2, (by decide : (0 : Int) ≤ 4 ∧ (4 : Int) ≤ 4), h4, h5, fun h => absurd h (by decide : ¬ (4 : Int) = 0)⟩, accW_good hM (soilI_w _)⟩
 ·rename_i ha hb
  exact ⟨⟨h1, h2, by show 0 ≤ S.pc + 1 ∧ S.pc + 1 ≤ 4; omega, h4, h5, fun h => absurd h (by show ¬ S.pc + 1 = 0; omega)⟩, lastM_good hM h4⟩
def RdS.done (S : RdS) : Bool := decide (S.pc = 4)
def SeS.done (S : SeS) : Bool := decide (S.pc = 4)
def rdWord (S : RdS) : Int := if S.pc = 4 then S.word else 0
def rdWhen (S : RdS) : Int := if S.pc = 4 then S.when_ else -1
theorem accW_in {M : MemM} {n : Nat} {th i old w : Int} (h : (M.accW n th i old w).2.done = true) : i < (n : Int) * 8 := by
 have h : (M.peek n i == some old) = true := h
 have h : M.peek n i = some old := by simpa using h
 rcases peek_some h with h1 | h1 <;> omega
set_option maxHeartbeats 1000000 in
set_option maxRecDepth 100000 in
theorem clean_ok (w0 : World) (x : Int) (hx : isW x) :
  K.GC Tryz.prog w0 196 #[.int .u64 x] [] (fun v post => v = .int .u64 (cleanI x) ∧ post = []) := by
 have hx2 := hx
 unfold isW at hx2
 refine K.GC.mk (n := 5) Tryz.func196 rfl rfl [.int .u64 x] rfl rfl ?_
 intro fr w hS
 replace hS : K.Sat w0 [fr] w := hS
 refine K.s (K.g (K.q [.int .u64 0] (K.z (K.t (K.s (K.g (K.q [.int .u64 x] ?_)))))))
 refine K.a (K.QR.andNot rfl rfl rfl) ?_
 refine K.q [.int .u64 (K.andNotK .u64 x 9223372036854775808)] (K.z (K.t (K.r ?_)))
 refine ⟨.inr rfl, rfl, (.int .u64 (K.andNotK .u64 x 9223372036854775808)), K.res1 rfl rfl, [], ?_, hS.pick [0]⟩
 exact ⟨congrArg (Value.int .u64) (andNot63 hx), rfl⟩
set_option maxHeartbeats 1000000 in
set_option maxRecDepth 100000 in
theorem soil_ok (w0 : World) (x : Int) (hx : isW x) :
  K.GC Tryz.prog w0 59 #[.int .u64 x] [] (fun v post => v = .int .u64 (soilI x) ∧ post = []) := by
 have hx2 := hx
 unfold isW at hx2
 refine K.GC.mk (n := 5) Tryz.func59 rfl rfl [.int .u64 x] rfl rfl ?_
 intro fr w hS
 replace hS : K.Sat w0 [fr] w := hS
 refine K.s (K.g (K.q [.int .u64 0] (K.z (K.t (K.s (K.g (K.q [.int .u64 x] ?_)))))))
 refine K.a (K.QR.or rfl rfl rfl) ?_
 refine K.q [.int .u64 (K.orK .u64 x 9223372036854775808)] (K.z (K.t (K.r ?_)))
 refine ⟨.inr rfl, rfl, (.int .u64 (K.orK .u64 x 9223372036854775808)), K.res1 rfl rfl, [], ?_, hS.pick [0]⟩
 exact ⟨congrArg (Value.int .u64) (or63 hx), rfl⟩
set_option maxHeartbeats 1000000 in
set_option maxRecDepth 100000 in
theorem dirty_ok (w0 : World) (x : Int) (hx : isW x) :
  K.GC Tryz.prog w0 197 #[.int .u64 x] [] (fun v post => post = [] ∧ ((v = .bool true ∧ 9223372036854775808 ≤ x) ∨ (v = .bool false ∧ x < 9223372036854775808))) := by
 have hx2 := hx
 unfold isW at hx2
 refine K.GC.mk (n := 6) Tryz.func197 rfl rfl [.int .u64 x] rfl rfl ?_
 intro fr w hS
 replace hS : K.Sat w0 [fr] w := hS
 refine K.s (K.g (K.q [.bool false] (K.z (K.t (K.s (K.g (K.q [.int .u64 x] ?_)))))))
 refine K.a (K.QR.shr (m := 63) rfl rfl rfl (by show _ ≤ 64; omega) (by omega)) ?_
 by_cases h_1 : ((x : Int) / 2 ^ (63) : Int) = (1 : Int)
 ·
  refine K.ye ((x : Int) / 2 ^ (63) : Int) (1 : Int) h_1 ?_
  refine K.q [.bool true] (K.z (K.t (K.r ?_)))
  refine ⟨.inr rfl, rfl, (.bool true), K.res1 rfl rfl, [], ?_, hS.pick [0]⟩
  exact ⟨rfl, .inl ⟨rfl, by omega⟩⟩
 ·
  refine K.xe ((x : Int) / 2 ^ (63) : Int) (1 : Int) h_1 ?_
  refine K.q [.bool false] (K.z (K.t (K.r ?_)))
  refine ⟨.inr rfl, rfl, (.bool false), K.res1 rfl rfl, [], ?_, hS.pick [0]⟩
  exact ⟨rfl, .inr ⟨rfl, by omega⟩⟩
set_option maxHeartbeats 1000000 in
set_option maxRecDepth 100000 in
theorem rdDone_ok (w0 : World) (p : Nat) (S : RdS) (gp : K.Cs) (hgp : gp = rdPt p S) :
  K.GC Tryz.prog w0 185 #[.pointer (some ⟨p, 0, none⟩)] [gp] (fun v post => post = [gp] ∧ ((v = .bool true ∧ S.pc = 4) ∨ (v = .bool false ∧ ¬ S.pc = 4))) := by
 refine K.GC.mk (n := 13) Tryz.func185 rfl rfl [.pointer (some ⟨p, 0, none⟩)] rfl rfl ?_
 intro fr w hS
 replace hS : K.Sat w0 [gp, fr] w := hS
 refine K.s (K.g (K.q [.bool false] (K.z (K.t (K.s (K.g (K.q [.pointer (some ⟨p, 0, none⟩), .bool false, .bool false, .pointer (some ⟨p, 0, none⟩), .pointer (some ⟨p, 0, none⟩), .pointer (some ⟨p, 0, none⟩), .pointer (some ⟨p, 2, none⟩)] ?_)))))))
 refine K.d (.int .i64 S.pc) ((hS.blk 0 rfl hgp).cell rfl) ?_
 by_cases h_1 : (S.pc : Int) = (4 : Int)
 ·
  refine K.ye (S.pc : Int) (4 : Int) h_1 ?_
  refine K.q [.bool true, .bool true] (K.z (K.t (K.r ?_)))
  refine ⟨.inr rfl, rfl, (.bool true), K.res1 rfl rfl, [gp], ?_, hS.pick [0, 1]⟩
  exact ⟨rfl, .inl ⟨rfl, by omega⟩⟩
 ·
  refine K.xe (S.pc : Int) (4 : Int) h_1 ?_
  refine K.q [.bool false, .bool false] (K.z (K.t (K.r ?_)))
  refine ⟨.inr rfl, rfl, (.bool false), K.res1 rfl rfl, [gp], ?_, hS.pick [0, 1]⟩
  exact ⟨rfl, .inr ⟨rfl, by omega⟩⟩
set_option maxHeartbeats 1000000 in
set_option maxRecDepth 100000 in
theorem rdLast_ok (w0 : World) (p pm q n t : Nat) (S : RdS) (M : MemM) (gp l : K.Cs) (hgp : gp = rdPt p S) (x : MemAt l pm q n t M) (hM : M.good) (hS : S.good) (hp : 1 ≤ S.pc ∧ S.pc ≤ 3) :
  K.GC Tryz.prog w0 187 #[.pointer (some ⟨p, 0, none⟩), .pointer (some ⟨pm, 0, none⟩)] [gp, l] (fun v post => ∃ gp' l', v = .tuple #[] ∧ post = [gp', l'] ∧ gp' = rdPt p ⟨S.t, S.at_, S.pc + 1, S.word, S.when_⟩ ∧ MemAt l' pm q n t (lastM n t S.t S.at_ S.pc S.word M)) := by
 have hS0 := hS
 obtain ⟨hSt, hSa, hSp, hSw, hSn⟩ := hS
 have hSw2 := hSw
 unfold isL at hSw2
 refine K.GC.mk (n := 56) Tryz.func187 rfl rfl [.pointer (some ⟨p, 0, none⟩), .pointer (some ⟨pm, 0, none⟩)] rfl rfl ?_
 intro fr w hS
 replace hS : K.Sat w0 [gp, l, fr] w := hS
 refine K.s (K.s (K.g (K.q [.pointer (some ⟨p, 0, none⟩), .pointer (some ⟨p, 0, none⟩), .pointer (some ⟨p, 2, none⟩)] ?_)))
 refine K.d (.int .i64 S.pc) ((hS.blk 0 rfl hgp).cell rfl) ?_
 refine K.z (K.t ?_)
 refine K.KW.block ?_
 refine K.s (K.g ?_)
 by_cases h_1 : (S.pc : Int) = (1 : Int)
 ·
  refine K.ye (S.pc : Int) (1 : Int) h_1 ?_
  refine K.q [.bool true] (K.z (K.t (K.h ?_)))
  refine K.KW.gdrawn [0] hS (by kernel_rfl) ?_
  clear hS; intro w hS
  refine K.p 0 rfl (.pointer (some ⟨pm, 0, none⟩)) (hS.pick [0]) ?_
  refine K.p 1 rfl (.pointer (some ⟨p, 0, none⟩)) (hS.pick [0]) ?_
  refine K.p 2 rfl (.pointer (some ⟨p, 0, none⟩)) (hS.pick [0]) ?_
  refine K.p 3 rfl (.pointer (some ⟨p, 0, none⟩)) (hS.pick [0]) ?_
  refine K.o_ 4 rfl (.int .i64 S.t) (fun w hS => ((hS.blk 0 rfl hgp).cell rfl)) (hS.pick [0]) ?_
  refine K.b 5 rfl (.pointer (some ⟨p, 0, none⟩)) (hS.pick [0]) ?_
  refine K.b 6 rfl (.pointer (some ⟨p, 0, none⟩)) (hS.pick [0]) ?_
  refine K.b 7 rfl (.pointer (some ⟨p, 1, none⟩)) (hS.pick [0]) ?_
  refine K.c 8 rfl (K.QR.ld1 (v := .int .i64 S.at_) rfl rfl (by kernel_rfl) ((hS.blk 0 rfl hgp).cell rfl)) (hS.pick [0]) ?_
  refine K.DW.l 9 rfl (by kernel_rfl) rfl (K.OW.gcall hS [1] [0, 2] [.pointer (some ⟨pm, 0, none⟩), .int .i64 S.t, .int .i64 S.at_] (mFlush_ok _ _ _ _ _ _ _ x S.t (by omega) S.at_ (by omega)) ?_)
  clear hS; rintro _ _ w ⟨l_2, rfl, rfl, x_3⟩ hS
  replace hS : K.Sat w0 [l_2, gp, fr] w := hS
  refine ⟨.inl (hS.pick [1]), ?_⟩
  refine K.DW.done (by kernel_rfl) ?_
  refine K.blk_normal ?_
  refine K.t (K.g (K.q [.pointer (some ⟨p, 0, none⟩), .pointer (some ⟨p, 0, none⟩), .pointer (some ⟨p, 2, none⟩)] ?_))
  refine K.d (.int .i64 S.pc) ((hS.blk 1 rfl hgp).cell rfl) ?_
  refine K.a (K.QR.n64 ((S.pc : Int) + (1 : Int)) ((S.pc : Int) + (1 : Int)) (by kernel_rfl) (by omega)) ?_
  refine K.q [.pointer (some ⟨p, 0, none⟩), .pointer (some ⟨p, 2, none⟩)] ?_
  refine K.l (K.OW.gst 1 [.int .i64 ((S.pc : Int) + (1 : Int))] _ hS hgp ?_)
  clear hS; intro w g_4 hg_5 hS
  replace hS : K.Sat w0 [l_2, g_4, fr] w := hS
  refine K.z ?_
  have e : lastM n t S.t S.at_ S.pc S.word M = ((M.accF n t S.t S.at_).1) := by unfold lastM; rw [if_pos (by omega)]
  refine ⟨.inl rfl, rfl, (.tuple #[]), K.res0 rfl, [g_4, l_2], ?_, hS.pick [1, 0, 2]⟩
  exact ⟨_, _, rfl, rfl, hg_5, by rw [e]; exact x_3⟩
 ·
  refine K.xe (S.pc : Int) (1 : Int) h_1 ?_
  refine K.q [.bool false] (K.z (K.t (K.f (K.s (K.g ?_)))))
  by_cases h_6 : (S.pc : Int) = (2 : Int)
  ·
   refine K.ye (S.pc : Int) (2 : Int) h_6 ?_
   refine K.q [.bool true] (K.z (K.t (K.h (K.g (K.q [.pointer (some ⟨pm, 0, none⟩), .pointer (some ⟨p, 0, none⟩), .pointer (some ⟨p, 0, none⟩), .pointer (some ⟨p, 0, none⟩)] ?_)))))
   refine K.d (.int .i64 S.t) ((hS.blk 0 rfl hgp).cell rfl) ?_
   refine K.l (K.OW.gcall hS [1] [0, 2] [.pointer (some ⟨pm, 0, none⟩), .int .i64 S.t] (mFence_ok _ _ _ _ _ _ _ x S.t (by omega)) ?_)
   clear hS; rintro _ _ w ⟨l_7, rfl, rfl, x_8⟩ hS
   replace hS : K.Sat w0 [l_7, gp, fr] w := hS
   refine K.z ?_
   refine K.blk_normal ?_
   refine K.t (K.g (K.q [.pointer (some ⟨p, 0, none⟩), .pointer (some ⟨p, 0, none⟩), .pointer (some ⟨p, 2, none⟩)] ?_))
   refine K.d (.int .i64 S.pc) ((hS.blk 1 rfl hgp).cell rfl) ?_
   refine K.a (K.QR.n64 ((S.pc : Int) + (1 : Int)) ((S.pc : Int) + (1 : Int)) (by kernel_rfl) (by omega)) ?_
   refine K.q [.pointer (some ⟨p, 0, none⟩), .pointer (some ⟨p, 2, none⟩)] ?_
   refine K.l (K.OW.gst 1 [.int .i64 ((S.pc : Int) + (1 : Int))] _ hS hgp ?_)
   clear hS; intro w g_9 hg_10 hS
   replace hS : K.Sat w0 [l_7, g_9, fr] w := hS
   refine K.z ?_
   have e : lastM n t S.t S.at_ S.pc S.word M = ((M.accE t S.t).1) := by unfold lastM; rw [if_neg (by omega), if_pos (by omega)]
   refine ⟨.inl rfl, rfl, (.tuple #[]), K.res0 rfl, [g_9, l_7], ?_, hS.pick [1, 0, 2]⟩
   exact ⟨_, _, rfl, rfl, hg_10, by rw [e]; exact x_8⟩
  ·
   refine K.xe (S.pc : Int) (2 : Int) h_6 ?_
   refine K.q [.bool false] (K.z (K.t (K.f (K.s (K.g ?_)))))
   refine K.ye (S.pc : Int) (3 : Int) (by omega) ?_
   refine K.q [.bool true] (K.z (K.t (K.h ?_)))
   refine K.KW.gdrawn [0] hS (by kernel_rfl) ?_
   clear hS; intro w hS
   refine K.p 0 rfl (.pointer (some ⟨pm, 0, none⟩)) (hS.pick [0]) ?_
   refine K.p 1 rfl (.pointer (some ⟨p, 0, none⟩)) (hS.pick [0]) ?_
   refine K.p 2 rfl (.pointer (some ⟨p, 0, none⟩)) (hS.pick [0]) ?_
   refine K.p 3 rfl (.pointer (some ⟨p, 0, none⟩)) (hS.pick [0]) ?_
   refine K.o_ 4 rfl (.int .i64 S.t) (fun w hS => ((hS.blk 0 rfl hgp).cell rfl)) (hS.pick [0]) ?_
   refine K.p 5 rfl (.pointer (some ⟨p, 0, none⟩)) (hS.pick [0]) ?_
   refine K.p 6 rfl (.pointer (some ⟨p, 0, none⟩)) (hS.pick [0]) ?_
   refine K.p 7 rfl (.pointer (some ⟨p, 1, none⟩)) (hS.pick [0]) ?_
   refine K.o_ 8 rfl (.int .i64 S.at_) (fun w hS => ((hS.blk 0 rfl hgp).cell rfl)) (hS.pick [0]) ?_
   refine K.p 9 rfl (.pointer (some ⟨p, 0, none⟩)) (hS.pick [0]) ?_
   refine K.p 10 rfl (.pointer (some ⟨p, 0, none⟩)) (hS.pick [0]) ?_
   refine K.p 11 rfl (.pointer (some ⟨p, 3, none⟩)) (hS.pick [0]) ?_
   refine K.o_ 12 rfl (.int .u64 S.word) (fun w hS => ((hS.blk 0 rfl hgp).cell rfl)) (hS.pick [0]) ?_
   refine K.p 14 rfl (.pointer (some ⟨p, 0, none⟩)) (hS.pick [0]) ?_
   refine K.p 15 rfl (.pointer (some ⟨p, 0, none⟩)) (hS.pick [0]) ?_
   refine K.p 16 rfl (.pointer (some ⟨p, 3, none⟩)) (hS.pick [0]) ?_
   refine K.o_ 17 rfl (.int .u64 S.word) (fun w hS => ((hS.blk 0 rfl hgp).cell rfl)) (hS.pick [0]) ?_
   refine K.DW.l 13 rfl (by kernel_rfl) rfl (K.OW.gcall hS [] [0, 1, 2] [.int .u64 S.word] (soil_ok _ S.word (by first | assumption | exact isL.w (by assumption) | exact soilI_w _ | (unfold isW; omega))) ?_)
   clear hS; rintro _ _ w ⟨rfl, rfl⟩ hS
   replace hS : K.Sat w0 [gp, l, fr] w := hS
   have hw_11 : isW (soilI S.word) := soilI_w _
   refine ⟨.inl (hS.pick [0]), ?_⟩
   refine K.DW.l 18 rfl (by kernel_rfl) rfl (K.OW.gcall hS [1] [0, 2] [.pointer (some ⟨pm, 0, none⟩), .int .i64 S.t, .int .i64 S.at_, .int .u64 (soilI S.word), .int .u64 S.word] (mSwap_ok _ _ _ _ _ _ _ x S.t S.at_ (by first | omega | exact aft_int (by assumption) _ | exact ann_int (by assumption) _ (by omega)) (soilI S.word) S.word) ?_)
   clear hS; rintro _ _ w ⟨l_12, rfl, rfl, x_13⟩ hS
   replace hS : K.Sat w0 [l_12, gp, fr] w := hS
   refine ⟨.inl (hS.pick [1]), ?_⟩
   refine K.DW.done (by kernel_rfl) ?_
   refine K.blk_normal ?_
   refine K.t (K.g (K.q [.pointer (some ⟨p, 0, none⟩), .pointer (some ⟨p, 0, none⟩), .pointer (some ⟨p, 2, none⟩)] ?_))
   refine K.d (.int .i64 S.pc) ((hS.blk 1 rfl hgp).cell rfl) ?_
   refine K.a (K.QR.n64 ((S.pc : Int) + (1 : Int)) ((S.pc : Int) + (1 : Int)) (by kernel_rfl) (by omega)) ?_
   refine K.q [.pointer (some ⟨p, 0, none⟩), .pointer (some ⟨p, 2, none⟩)] ?_
   refine K.l (K.OW.gst 1 [.int .i64 ((S.pc : Int) + (1 : Int))] _ hS hgp ?_)
   clear hS; intro w g_14 hg_15 hS
   replace hS : K.Sat w0 [l_12, g_14, fr] w := hS
   refine K.z ?_
   have e : lastM n t S.t S.at_ S.pc S.word M = ((M.accW n S.t S.at_ (soilI S.word) S.word).1) := by unfold lastM; rw [if_neg (by omega), if_neg (by omega)]
   refine ⟨.inl rfl, rfl, (.tuple #[]), K.res0 rfl, [g_14, l_12], ?_, hS.pick [1, 0, 2]⟩
   exact ⟨_, _, rfl, rfl, hg_15, by rw [e]; exact x_13⟩
set_option maxHeartbeats 1000000 in
set_option maxRecDepth 100000 in
theorem seDone_ok (w0 : World) (p : Nat) (S : SeS) (gp : K.Cs) (hgp : gp = sePt p S) :
  K.GC Tryz.prog w0 223 #[.pointer (some ⟨p, 0, none⟩)] [gp] (fun v post => post = [gp] ∧ ((v = .bool true ∧ S.pc = 4) ∨ (v = .bool false ∧ ¬ S.pc = 4))) := by
 refine K.GC.mk (n := 13) Tryz.func223 rfl rfl [.pointer (some ⟨p, 0, none⟩)] rfl rfl ?_
 intro fr w hS
 replace hS : K.Sat w0 [gp, fr] w := hS
 refine K.s (K.g (K.q [.bool false] (K.z (K.t (K.s (K.g (K.q [.pointer (some ⟨p, 0, none⟩), .bool false, .bool false, .pointer (some ⟨p, 0, none⟩), .pointer (some ⟨p, 0, none⟩), .pointer (some ⟨p, 0, none⟩), .pointer (some ⟨p, 2, none⟩)] ?_)))))))
 refine K.d (.int .i64 S.pc) ((hS.blk 0 rfl hgp).cell rfl) ?_
 by_cases h_1 : (S.pc : Int) = (4 : Int)
 ·
  refine K.ye (S.pc : Int) (4 : Int) h_1 ?_
  refine K.q [.bool true, .bool true] (K.z (K.t (K.r ?_)))
  refine ⟨.inr rfl, rfl, (.bool true), K.res1 rfl rfl, [gp], ?_, hS.pick [0, 1]⟩
  exact ⟨rfl, .inl ⟨rfl, by omega⟩⟩
 ·
  refine K.xe (S.pc : Int) (4 : Int) h_1 ?_
  refine K.q [.bool false, .bool false] (K.z (K.t (K.r ?_)))
  refine ⟨.inr rfl, rfl, (.bool false), K.res1 rfl rfl, [gp], ?_, hS.pick [0, 1]⟩
  exact ⟨rfl, .inr ⟨rfl, by omega⟩⟩
set_option maxHeartbeats 1000000 in
set_option maxRecDepth 100000 in
theorem seLast_ok (w0 : World) (p pm q n t : Nat) (S : SeS) (M : MemM) (gp l : K.Cs) (hgp : gp = sePt p S) (x : MemAt l pm q n t M) (hM : M.good) (hS : S.good) (hp : 1 ≤ S.pc ∧ S.pc ≤ 3) :
  K.GC Tryz.prog w0 187 #[.pointer (some ⟨p, 0, none⟩), .pointer (some ⟨pm, 0, none⟩)] [gp, l] (fun v post => ∃ gp' l', v = .tuple #[] ∧ post = [gp', l'] ∧ gp' = sePt p ⟨S.t, S.at_, S.pc + 1, S.word, S.when_, S.old, S.put, S.writes⟩ ∧ MemAt l' pm q n t (lastM n t S.t S.at_ S.pc S.word M)) := by
 have hS0 := hS
 obtain ⟨hSt, hSa, hSp, hSw, hSo, hSi⟩ := hS
 have hSw2 := hSw
 unfold isL at hSw2
 have hSo2 := hSo
 unfold isL at hSo2
 refine K.GC.mk (n := 56) Tryz.func187 rfl rfl [.pointer (some ⟨p, 0, none⟩), .pointer (some ⟨pm, 0, none⟩)] rfl rfl ?_
 intro fr w hS
 replace hS : K.Sat w0 [gp, l, fr] w := hS
 refine K.s (K.s (K.g (K.q [.pointer (some ⟨p, 0, none⟩), .pointer (some ⟨p, 0, none⟩), .pointer (some ⟨p, 2, none⟩)] ?_)))
 refine K.d (.int .i64 S.pc) ((hS.blk 0 rfl hgp).cell rfl) ?_
 refine K.z (K.t ?_)
 refine K.KW.block ?_
 refine K.s (K.g ?_)
 by_cases h_1 : (S.pc : Int) = (1 : Int)
 ·
  refine K.ye (S.pc : Int) (1 : Int) h_1 ?_
  refine K.q [.bool true] (K.z (K.t (K.h ?_)))
  refine K.KW.gdrawn [0] hS (by kernel_rfl) ?_
  clear hS; intro w hS
  refine K.p 0 rfl (.pointer (some ⟨pm, 0, none⟩)) (hS.pick [0]) ?_
  refine K.p 1 rfl (.pointer (some ⟨p, 0, none⟩)) (hS.pick [0]) ?_
  refine K.p 2 rfl (.pointer (some ⟨p, 0, none⟩)) (hS.pick [0]) ?_
  refine K.p 3 rfl (.pointer (some ⟨p, 0, none⟩)) (hS.pick [0]) ?_
  refine K.o_ 4 rfl (.int .i64 S.t) (fun w hS => ((hS.blk 0 rfl hgp).cell rfl)) (hS.pick [0]) ?_
  refine K.b 5 rfl (.pointer (some ⟨p, 0, none⟩)) (hS.pick [0]) ?_
  refine K.b 6 rfl (.pointer (some ⟨p, 0, none⟩)) (hS.pick [0]) ?_
  refine K.b 7 rfl (.pointer (some ⟨p, 1, none⟩)) (hS.pick [0]) ?_
  refine K.c 8 rfl (K.QR.ld1 (v := .int .i64 S.at_) rfl rfl (by kernel_rfl) ((hS.blk 0 rfl hgp).cell rfl)) (hS.pick [0]) ?_
  refine K.DW.l 9 rfl (by kernel_rfl) rfl (K.OW.gcall hS [1] [0, 2] [.pointer (some ⟨pm, 0, none⟩), .int .i64 S.t, .int .i64 S.at_] (mFlush_ok _ _ _ _ _ _ _ x S.t (by omega) S.at_ (by omega)) ?_)
  clear hS; rintro _ _ w ⟨l_2, rfl, rfl, x_3⟩ hS
  replace hS : K.Sat w0 [l_2, gp, fr] w := hS
  refine ⟨.inl (hS.pick [1]), ?_⟩
  refine K.DW.done (by kernel_rfl) ?_
  refine K.blk_normal ?_
  refine K.t (K.g (K.q [.pointer (some ⟨p, 0, none⟩), .pointer (some ⟨p, 0, none⟩), .pointer (some ⟨p, 2, none⟩)] ?_))
  refine K.d (.int .i64 S.pc) ((hS.blk 1 rfl hgp).cell rfl) ?_
  refine K.a (K.QR.n64 ((S.pc : Int) + (1 : Int)) ((S.pc : Int) + (1 : Int)) (by kernel_rfl) (by omega)) ?_
  refine K.q [.pointer (some ⟨p, 0, none⟩), .pointer (some ⟨p, 2, none⟩)] ?_
  refine K.l (K.OW.gst 1 [.int .i64 ((S.pc : Int) + (1 : Int))] _ hS hgp ?_)
  clear hS; intro w g_4 hg_5 hS
  replace hS : K.Sat w0 [l_2, g_4, fr] w := hS
  refine K.z ?_
  have e : lastM n t S.t S.at_ S.pc S.word M = ((M.accF n t S.t S.at_).1) := by unfold lastM; rw [if_pos (by omega)]
  refine ⟨.inl rfl, rfl, (.tuple #[]), K.res0 rfl, [g_4, l_2], ?_, hS.pick [1, 0, 2]⟩
  exact ⟨_, _, rfl, rfl, hg_5, by rw [e]; exact x_3⟩
 ·
  refine K.xe (S.pc : Int) (1 : Int) h_1 ?_
  refine K.q [.bool false] (K.z (K.t (K.f (K.s (K.g ?_)))))
  by_cases h_6 : (S.pc : Int) = (2 : Int)
  ·
   refine K.ye (S.pc : Int) (2 : Int) h_6 ?_
   refine K.q [.bool true] (K.z (K.t (K.h (K.g (K.q [.pointer (some ⟨pm, 0, none⟩), .pointer (some ⟨p, 0, none⟩), .pointer (some ⟨p, 0, none⟩), .pointer (some ⟨p, 0, none⟩)] ?_)))))
   refine K.d (.int .i64 S.t) ((hS.blk 0 rfl hgp).cell rfl) ?_
   refine K.l (K.OW.gcall hS [1] [0, 2] [.pointer (some ⟨pm, 0, none⟩), .int .i64 S.t] (mFence_ok _ _ _ _ _ _ _ x S.t (by omega)) ?_)
   clear hS; rintro _ _ w ⟨l_7, rfl, rfl, x_8⟩ hS
   replace hS : K.Sat w0 [l_7, gp, fr] w := hS
   refine K.z ?_
   refine K.blk_normal ?_
   refine K.t (K.g (K.q [.pointer (some ⟨p, 0, none⟩), .pointer (some ⟨p, 0, none⟩), .pointer (some ⟨p, 2, none⟩)] ?_))
   refine K.d (.int .i64 S.pc) ((hS.blk 1 rfl hgp).cell rfl) ?_
   refine K.a (K.QR.n64 ((S.pc : Int) + (1 : Int)) ((S.pc : Int) + (1 : Int)) (by kernel_rfl) (by omega)) ?_
   refine K.q [.pointer (some ⟨p, 0, none⟩), .pointer (some ⟨p, 2, none⟩)] ?_
   refine K.l (K.OW.gst 1 [.int .i64 ((S.pc : Int) + (1 : Int))] _ hS hgp ?_)
   clear hS; intro w g_9 hg_10 hS
   replace hS : K.Sat w0 [l_7, g_9, fr] w := hS
   refine K.z ?_
   have e : lastM n t S.t S.at_ S.pc S.word M = ((M.accE t S.t).1) := by unfold lastM; rw [if_neg (by omega), if_pos (by omega)]
   refine ⟨.inl rfl, rfl, (.tuple #[]), K.res0 rfl, [g_9, l_7], ?_, hS.pick [1, 0, 2]⟩
   exact ⟨_, _, rfl, rfl, hg_10, by rw [e]; exact x_8⟩
  ·
   refine K.xe (S.pc : Int) (2 : Int) h_6 ?_
   refine K.q [.bool false] (K.z (K.t (K.f (K.s (K.g ?_)))))
   refine K.ye (S.pc : Int) (3 : Int) (by omega) ?_
   refine K.q [.bool true] (K.z (K.t (K.h ?_)))
   refine K.KW.gdrawn [0] hS (by kernel_rfl) ?_
   clear hS; intro w hS
   refine K.p 0 rfl (.pointer (some ⟨pm, 0, none⟩)) (hS.pick [0]) ?_
   refine K.p 1 rfl (.pointer (some ⟨p, 0, none⟩)) (hS.pick [0]) ?_
   refine K.p 2 rfl (.pointer (some ⟨p, 0, none⟩)) (hS.pick [0]) ?_
   refine K.p 3 rfl (.pointer (some ⟨p, 0, none⟩)) (hS.pick [0]) ?_
   refine K.o_ 4 rfl (.int .i64 S.t) (fun w hS => ((hS.blk 0 rfl hgp).cell rfl)) (hS.pick [0]) ?_
   refine K.p 5 rfl (.pointer (some ⟨p, 0, none⟩)) (hS.pick [0]) ?_
   refine K.p 6 rfl (.pointer (some ⟨p, 0, none⟩)) (hS.pick [0]) ?_
   refine K.p 7 rfl (.pointer (some ⟨p, 1, none⟩)) (hS.pick [0]) ?_
   refine K.o_ 8 rfl (.int .i64 S.at_) (fun w hS => ((hS.blk 0 rfl hgp).cell rfl)) (hS.pick [0]) ?_
   refine K.p 9 rfl (.pointer (some ⟨p, 0, none⟩)) (hS.pick [0]) ?_
   refine K.p 10 rfl (.pointer (some ⟨p, 0, none⟩)) (hS.pick [0]) ?_
   refine K.p 11 rfl (.pointer (some ⟨p, 3, none⟩)) (hS.pick [0]) ?_
   refine K.o_ 12 rfl (.int .u64 S.word) (fun w hS => ((hS.blk 0 rfl hgp).cell rfl)) (hS.pick [0]) ?_
   refine K.p 14 rfl (.pointer (some ⟨p, 0, none⟩)) (hS.pick [0]) ?_
   refine K.p 15 rfl (.pointer (some ⟨p, 0, none⟩)) (hS.pick [0]) ?_
   refine K.p 16 rfl (.pointer (some ⟨p, 3, none⟩)) (hS.pick [0]) ?_
   refine K.o_ 17 rfl (.int .u64 S.word) (fun w hS => ((hS.blk 0 rfl hgp).cell rfl)) (hS.pick [0]) ?_
   refine K.DW.l 13 rfl (by kernel_rfl) rfl (K.OW.gcall hS [] [0, 1, 2] [.int .u64 S.word] (soil_ok _ S.word (by first | assumption | exact isL.w (by assumption) | exact soilI_w _ | (unfold isW; omega))) ?_)
   clear hS; rintro _ _ w ⟨rfl, rfl⟩ hS
   replace hS : K.Sat w0 [gp, l, fr] w := hS
   have hw_11 : isW (soilI S.word) := soilI_w _
   refine ⟨.inl (hS.pick [0]), ?_⟩
   refine K.DW.l 18 rfl (by kernel_rfl) rfl (K.OW.gcall hS [1] [0, 2] [.pointer (some ⟨pm, 0, none⟩), .int .i64 S.t, .int .i64 S.at_, .int .u64 (soilI S.word), .int .u64 S.word] (mSwap_ok _ _ _ _ _ _ _ x S.t S.at_ (by first | omega | exact aft_int (by assumption) _ | exact ann_int (by assumption) _ (by omega)) (soilI S.word) S.word) ?_)
   clear hS; rintro _ _ w ⟨l_12, rfl, rfl, x_13⟩ hS
   replace hS : K.Sat w0 [l_12, gp, fr] w := hS
   refine ⟨.inl (hS.pick [1]), ?_⟩
   refine K.DW.done (by kernel_rfl) ?_
   refine K.blk_normal ?_
   refine K.t (K.g (K.q [.pointer (some ⟨p, 0, none⟩), .pointer (some ⟨p, 0, none⟩), .pointer (some ⟨p, 2, none⟩)] ?_))
   refine K.d (.int .i64 S.pc) ((hS.blk 1 rfl hgp).cell rfl) ?_
   refine K.a (K.QR.n64 ((S.pc : Int) + (1 : Int)) ((S.pc : Int) + (1 : Int)) (by kernel_rfl) (by omega)) ?_
   refine K.q [.pointer (some ⟨p, 0, none⟩), .pointer (some ⟨p, 2, none⟩)] ?_
   refine K.l (K.OW.gst 1 [.int .i64 ((S.pc : Int) + (1 : Int))] _ hS hgp ?_)
   clear hS; intro w g_14 hg_15 hS
   replace hS : K.Sat w0 [l_12, g_14, fr] w := hS
   refine K.z ?_
   have e : lastM n t S.t S.at_ S.pc S.word M = ((M.accW n S.t S.at_ (soilI S.word) S.word).1) := by unfold lastM; rw [if_neg (by omega), if_neg (by omega)]
   refine ⟨.inl rfl, rfl, (.tuple #[]), K.res0 rfl, [g_14, l_12], ?_, hS.pick [1, 0, 2]⟩
   exact ⟨_, _, rfl, rfl, hg_15, by rw [e]; exact x_13⟩
set_option maxHeartbeats 1000000 in
set_option maxRecDepth 100000 in
theorem rdLoad_ok (w0 : World) (p pm q n t : Nat) (S : RdS) (M : MemM) (gp l : K.Cs) (hgp : gp = rdPt p S) (x : MemAt l pm q n t M) (hM : M.good) (hS : S.good) :
  K.GC Tryz.prog w0 186 #[.pointer (some ⟨p, 0, none⟩), .pointer (some ⟨pm, 0, none⟩)] [gp, l] (fun v post => ∃ gp' l', v = .tuple #[] ∧ post = [gp', l'] ∧ MemAt l' pm q n t (M.accL n S.t S.at_).1 ∧ ((gp' = rdPt p ⟨S.t, S.at_, 1, cleanI (M.accL n S.t S.at_).2.old, (M.accL n S.t S.at_).1.clock⟩ ∧ 9223372036854775808 ≤ (M.accL n S.t S.at_).2.old) ∨ (gp' = rdPt p ⟨S.t, S.at_, 4, cleanI (M.accL n S.t S.at_).2.old, (M.accL n S.t S.at_).1.clock⟩ ∧ (M.accL n S.t S.at_).2.old < 9223372036854775808))) := by
 have hS0 := hS
 obtain ⟨hSt, hSa, hSp, hSw, hSn⟩ := hS
 have hSw2 := hSw
 unfold isL at hSw2
 refine K.GC.mk (n := 39) Tryz.func186 rfl rfl [.pointer (some ⟨p, 0, none⟩), .pointer (some ⟨pm, 0, none⟩)] rfl rfl ?_
 intro fr w hS
 replace hS : K.Sat w0 [gp, l, fr] w := hS
 refine K.s ?_
 refine K.KW.gdrawn [0] hS (by kernel_rfl) ?_
 clear hS; intro w hS
 refine K.p 0 rfl (.pointer (some ⟨pm, 0, none⟩)) (hS.pick [0]) ?_
 refine K.p 1 rfl (.pointer (some ⟨p, 0, none⟩)) (hS.pick [0]) ?_
 refine K.p 2 rfl (.pointer (some ⟨p, 0, none⟩)) (hS.pick [0]) ?_
 refine K.p 3 rfl (.pointer (some ⟨p, 0, none⟩)) (hS.pick [0]) ?_
 refine K.p 4 rfl (.pointer (some ⟨p, 0, none⟩)) (hS.pick [0]) ?_
 refine K.o_ 5 rfl (.int .i64 S.t) (fun w hS => ((hS.blk 0 rfl hgp).cell rfl)) (hS.pick [0]) ?_
 refine K.b 6 rfl (.pointer (some ⟨p, 0, none⟩)) (hS.pick [0]) ?_
 refine K.b 7 rfl (.pointer (some ⟨p, 0, none⟩)) (hS.pick [0]) ?_
 refine K.b 8 rfl (.pointer (some ⟨p, 0, none⟩)) (hS.pick [0]) ?_
 refine K.b 9 rfl (.pointer (some ⟨p, 1, none⟩)) (hS.pick [0]) ?_
 refine K.c 10 rfl (K.QR.ld1 (v := .int .i64 S.at_) rfl rfl (by kernel_rfl) ((hS.blk 0 rfl hgp).cell rfl)) (hS.pick [0]) ?_
 refine K.DW.l 11 rfl (by kernel_rfl) rfl (K.OW.gcall hS [1] [0, 2] [.pointer (some ⟨pm, 0, none⟩), .int .i64 S.t, .int .i64 S.at_] (mLoad_ok _ _ _ _ _ _ _ x S.t S.at_ (by first | omega | exact aft_int (by assumption) _ | exact ann_int (by assumption) _ (by omega)) ) ?_)
 clear hS; rintro _ _ w ⟨l_1, rfl, rfl, x_2⟩ hS
 replace hS : K.Sat w0 [l_1, gp, fr] w := hS
 have hw_3 : isW (M.accL n S.t S.at_).2.old := (accL_good (by assumption)).2
 refine ⟨.inl (hS.pick [1]), ?_⟩
 refine K.b 12 rfl (.int .u64 ((M.accL n S.t S.at_).2.old)) (hS.pick [1]) ?_
 refine K.DW.done (by kernel_rfl) ?_
 refine K.t (K.s (K.g (K.q [.pointer (some ⟨p, 0, none⟩), .pointer (some ⟨p, 0, none⟩), .int .u64 ((M.accL n S.t S.at_).2.old)] ?_)))
 refine K.l (K.OW.gcall hS [] [0, 1, 2] [.int .u64 ((M.accL n S.t S.at_).2.old)] (clean_ok _ ((M.accL n S.t S.at_).2.old) (by first | assumption | exact isL.w (by assumption) | exact soilI_w _ | (unfold isW; omega))) ?_)
 clear hS; rintro _ _ w ⟨rfl, rfl⟩ hS
 replace hS : K.Sat w0 [l_1, gp, fr] w := hS
 have hw_4 : isL (cleanI ((M.accL n S.t S.at_).2.old)) := cleanI_l _
 refine K.q [.pointer (some ⟨pm, 0, none⟩)] ?_
 refine K.l (K.OW.gcall hS [0] [1, 2] [.pointer (some ⟨pm, 0, none⟩)] (mClock_ok _ _ _ _ _ _ _ x_2 ) ?_)
 clear hS; rintro _ _ w ⟨rfl, rfl⟩ hS
 replace hS : K.Sat w0 [l_1, gp, fr] w := hS
 refine K.q [.pointer (some ⟨p, 0, none⟩), .pointer (some ⟨p, 0, none⟩), .pointer (some ⟨p, 3, none⟩)] ?_
 refine K.l (K.OW.gst 1 [.int .u64 (cleanI ((M.accL n S.t S.at_).2.old))] _ hS hgp ?_)
 clear hS; intro w g_5 hg_6 hS
 replace hS : K.Sat w0 [l_1, g_5, fr] w := hS
 refine K.q [.pointer (some ⟨p, 0, none⟩), .pointer (some ⟨p, 0, none⟩), .pointer (some ⟨p, 4, none⟩)] ?_
 refine K.l (K.OW.gst 1 [.int .i64 (((M.accL n S.t S.at_).1).clock)] _ hS hg_6 ?_)
 clear hS; intro w g_7 hg_8 hS
 replace hS : K.Sat w0 [l_1, g_7, fr] w := hS
 refine K.z (K.t (K.s (K.g (K.q [.pointer (some ⟨p, 0, none⟩), .pointer (some ⟨p, 0, none⟩), .pointer (some ⟨p, 0, none⟩), .pointer (some ⟨p, 2, none⟩)] ?_))))
 refine K.l (K.OW.gst 1 [.int .i64 4] _ hS hg_8 ?_)
 clear hS; intro w g_9 hg_10 hS
 replace hS : K.Sat w0 [l_1, g_9, fr] w := hS
 refine K.z (K.t (K.s (K.g (K.q [.int .u64 ((M.accL n S.t S.at_).2.old)] ?_))))
 refine K.l (K.OW.gcall hS [] [0, 1, 2] [.int .u64 ((M.accL n S.t S.at_).2.old)] (dirty_ok _ ((M.accL n S.t S.at_).2.old) (by first | assumption | exact isL.w (by assumption) | exact soilI_w _ | (unfold isW; omega))) ?_)
 clear hS; rintro _ _ w ⟨rfl, (⟨rfl, h_11⟩ | ⟨rfl, h_12⟩)⟩ hS
 ·
  replace hS : K.Sat w0 [l_1, g_9, fr] w := hS
  refine K.z (K.t (K.h (K.g (K.q [.pointer (some ⟨p, 0, none⟩), .pointer (some ⟨p, 0, none⟩), .pointer (some ⟨p, 0, none⟩), .pointer (some ⟨p, 2, none⟩)] ?_))))
  refine K.l (K.OW.gst 1 [.int .i64 1] _ hS hg_10 ?_)
  clear hS; intro w g_13 hg_14 hS
  replace hS : K.Sat w0 [l_1, g_13, fr] w := hS
  refine K.z ?_
  refine ⟨.inl rfl, rfl, (.tuple #[]), K.res0 rfl, [g_13, l_1], ?_, hS.pick [1, 0, 2]⟩
  exact ⟨_, _, rfl, rfl, x_2, .inl ⟨hg_14, by omega⟩⟩
 ·
  replace hS : K.Sat w0 [l_1, g_9, fr] w := hS
  refine K.z (K.t (K.f (K.k ?_)))
  refine ⟨.inl rfl, rfl, (.tuple #[]), K.res0 rfl, [g_9, l_1], ?_, hS.pick [1, 0, 2]⟩
  exact ⟨_, _, rfl, rfl, x_2, .inr ⟨hg_10, by omega⟩⟩
set_option maxHeartbeats 1000000 in
set_option maxRecDepth 100000 in
theorem rdStep_ok (w0 : World) (p pm q n t : Nat) (S : RdS) (M : MemM) (gp l : K.Cs) (hgp : gp = rdPt p S) (x : MemAt l pm q n t M) (hM : M.good) (hS : S.good) :
  K.GC Tryz.prog w0 166 #[.pointer (some ⟨p, 0, none⟩), .pointer (some ⟨pm, 0, none⟩)] [gp, l] (fun v post => ∃ gp' l', v = .bool (rdStep n t S M).1.done ∧ post = [gp', l'] ∧ gp' = rdPt p (rdStep n t S M).1 ∧ MemAt l' pm q n t (rdStep n t S M).2) := by
 have hS0 := hS
 obtain ⟨hSt, hSa, hSp, hSw, hSn⟩ := hS
 have hSw2 := hSw
 unfold isL at hSw2
 refine K.GC.mk (n := 39) Tryz.func166 rfl rfl [.pointer (some ⟨p, 0, none⟩), .pointer (some ⟨pm, 0, none⟩)] rfl rfl ?_
 intro fr w hS
 replace hS : K.Sat w0 [gp, l, fr] w := hS
 refine K.s (K.g (K.q [.bool false] (K.z (K.t (K.s ?_)))))
 refine K.KW.block ?_
 refine K.s (K.g (K.q [.pointer (some ⟨p, 0, none⟩)] ?_))
 refine K.l (K.OW.gcall hS [0] [1, 2] [.pointer (some ⟨p, 0, none⟩)] (rdDone_ok _ _ ⟨S.t, S.at_, S.pc, S.word, S.when_⟩ _ hgp) ?_)
 clear hS; rintro _ _ w ⟨rfl, (⟨rfl, h_1⟩ | ⟨rfl, h_2⟩)⟩ hS
 ·
  replace hS : K.Sat w0 [gp, l, fr] w := hS
  replace h_1 : S.pc = 4 := h_1
  refine K.q [.bool true] (K.z (K.t (K.h (K.s (K.g (K.q [.bool true] (K.z (K.t (K.r ?_)))))))))
  refine K.blk_ret ?_
  refine K.u ?_
  have e : rdStep n t S M = (S, M) := by unfold rdStep; rw [if_pos (by omega)]
  refine ⟨.inr rfl, rfl, (.bool true), K.res1 rfl rfl, [gp, l], ?_, hS.pick [0, 1, 2]⟩
  exact ⟨_, _, by rw [e]; exact congrArg Value.bool (decide_eq_true (by show S.pc = (4 : Int); omega)).symm, rfl, by rw [e]; exact hgp, by rw [e]; exact x⟩
 ·
  replace hS : K.Sat w0 [gp, l, fr] w := hS
  replace h_2 : ¬ S.pc = 4 := h_2
  refine K.q [.bool false] (K.z (K.t (K.f (K.s (K.g (K.q [.pointer (some ⟨p, 0, none⟩), .pointer (some ⟨p, 0, none⟩), .pointer (some ⟨p, 0, none⟩), .pointer (some ⟨p, 2, none⟩)] ?_))))))
  refine K.d (.int .i64 S.pc) ((hS.blk 0 rfl hgp).cell rfl) ?_
  by_cases h_3 : (S.pc : Int) = (0 : Int)
  ·
   refine K.ye (S.pc : Int) (0 : Int) h_3 ?_
   refine K.q [.bool true] (K.z (K.t (K.h (K.s (K.g (K.q [.pointer (some ⟨p, 0, none⟩), .pointer (some ⟨pm, 0, none⟩)] ?_))))))
   refine K.l (K.OW.gcall hS [0, 1] [2] [.pointer (some ⟨p, 0, none⟩), .pointer (some ⟨pm, 0, none⟩)] (rdLoad_ok _ _ _ _ _ _ S M _ _ hgp x (by assumption) hS0) ?_)
   clear hS; rintro _ _ w ⟨g_8, l_9, rfl, rfl, x_10, (⟨h_4, hd_5⟩ | ⟨h_6, hd_7⟩)⟩ hS
   ·
    replace hS : K.Sat w0 [g_8, l_9, fr] w := hS
    refine K.z (K.t (K.s (K.g (K.q [.pointer (some ⟨p, 0, none⟩), .pointer (some ⟨p, 0, none⟩), .pointer (some ⟨p, 0, none⟩), .pointer (some ⟨p, 2, none⟩)] ?_))))
    refine K.d (.int .i64 1) ((hS.blk 0 rfl h_4).cell rfl) ?_
    refine K.q [.bool false, .bool false] (K.z (K.t (K.r ?_)))
    refine K.blk_ret ?_
    refine K.u ?_
    have e : rdStep n t S M = (⟨S.t, S.at_, 1, (cleanI (M.accL n S.t S.at_).2.old), (M.accL n S.t S.at_).1.clock⟩, ((M.accL n S.t S.at_).1)) := by unfold rdStep; rw [if_neg (by omega), if_pos (by omega), if_neg (Int.not_lt.mpr hd_5)]
    refine ⟨.inr rfl, rfl, (.bool false), K.res1 rfl rfl, [g_8, l_9], ?_, hS.pick [0, 1, 2]⟩
    exact ⟨_, _, by rw [e]; exact congrArg Value.bool (decide_eq_false (by show ¬ (1 : Int) = (4 : Int); omega)).symm, rfl, by rw [e]; exact h_4, by rw [e]; exact x_10⟩
   ·
    replace hS : K.Sat w0 [g_8, l_9, fr] w := hS
    refine K.z (K.t (K.s (K.g (K.q [.pointer (some ⟨p, 0, none⟩), .pointer (some ⟨p, 0, none⟩), .pointer (some ⟨p, 0, none⟩), .pointer (some ⟨p, 2, none⟩)] ?_))))
    refine K.d (.int .i64 4) ((hS.blk 0 rfl h_6).cell rfl) ?_
    refine K.q [.bool true, .bool true] (K.z (K.t (K.r ?_)))
    refine K.blk_ret ?_
    refine K.u ?_
    have e : rdStep n t S M = (⟨S.t, S.at_, 4, (cleanI (M.accL n S.t S.at_).2.old), (M.accL n S.t S.at_).1.clock⟩, ((M.accL n S.t S.at_).1)) := by unfold rdStep; rw [if_neg (by omega), if_pos (by omega), if_pos hd_7]
    refine ⟨.inr rfl, rfl, (.bool true), K.res1 rfl rfl, [g_8, l_9], ?_, hS.pick [0, 1, 2]⟩
    exact ⟨_, _, by rw [e]; exact congrArg Value.bool (decide_eq_true (by show (4 : Int) = (4 : Int); omega)).symm, rfl, by rw [e]; exact h_6, by rw [e]; exact x_10⟩
  ·
   refine K.xe (S.pc : Int) (0 : Int) h_3 ?_
   refine K.q [.bool false] (K.z (K.t (K.f (K.k ?_))))
   refine K.blk_normal ?_
   refine K.t (K.s (K.g (K.q [.pointer (some ⟨p, 0, none⟩), .pointer (some ⟨p, 0, none⟩), .pointer (some ⟨p, 0, none⟩), .pointer (some ⟨pm, 0, none⟩)] ?_)))
   refine K.l (K.OW.gcall hS [0, 1] [2] [.pointer (some ⟨p, 0, none⟩), .pointer (some ⟨pm, 0, none⟩)] (rdLast_ok _ _ _ _ _ _ ⟨S.t, S.at_, S.pc, S.word, S.when_⟩ M _ _ hgp x (by assumption) hS0 (by show 1 ≤ S.pc ∧ S.pc ≤ 3; omega)) ?_)
   clear hS; rintro _ _ w ⟨g_11, l_12, rfl, rfl, h_13, x_14⟩ hS
   replace hS : K.Sat w0 [g_11, l_12, fr] w := hS
   refine K.z (K.t (K.s (K.s (K.g (K.q [.pointer (some ⟨p, 0, none⟩), .pointer (some ⟨p, 0, none⟩), .pointer (some ⟨p, 0, none⟩), .pointer (some ⟨p, 2, none⟩)] ?_)))))
   refine K.d (.int .i64 (S.pc + 1)) ((hS.blk 0 rfl h_13).cell rfl) ?_
   by_cases h_15 : ((S.pc + 1) : Int) = (4 : Int)
   ·
    refine K.ye ((S.pc + 1) : Int) (4 : Int) h_15 ?_
    refine K.z (K.t (K.h (K.g (K.q [.pointer (some ⟨p, 0, none⟩), .pointer (some ⟨p, 0, none⟩), .pointer (some ⟨p, 0, none⟩), .pointer (some ⟨p, 2, none⟩)] ?_))))
    refine K.l (K.OW.gst 0 [.int .i64 0] _ hS h_13 ?_)
    clear hS; intro w g_16 hg_17 hS
    replace hS : K.Sat w0 [g_16, l_12, fr] w := hS
    refine K.z (K.t (K.s (K.g (K.q [.bool false] (K.z (K.t (K.r ?_)))))))
    have e : rdStep n t S M = (⟨S.t, S.at_, 0, S.word, S.when_⟩, (lastM n t S.t S.at_ S.pc S.word M)) := by unfold rdStep; rw [if_neg (by omega), if_neg (by omega), if_pos (by omega)]
    refine ⟨.inr rfl, rfl, (.bool false), K.res1 rfl rfl, [g_16, l_12], ?_, hS.pick [0, 1, 2]⟩
    exact ⟨_, _, by rw [e]; exact congrArg Value.bool (decide_eq_false (by show ¬ (0 : Int) = (4 : Int); omega)).symm, rfl, by rw [e]; exact hg_17, by rw [e]; exact x_14⟩
   ·
    refine K.xe ((S.pc + 1) : Int) (4 : Int) h_15 ?_
    refine K.z (K.t (K.f (K.k (K.t (K.s (K.g (K.q [.bool false] (K.z (K.t (K.r ?_))))))))))
    have e : rdStep n t S M = (⟨S.t, S.at_, (S.pc + 1), S.word, S.when_⟩, (lastM n t S.t S.at_ S.pc S.word M)) := by unfold rdStep; rw [if_neg (by omega), if_neg (by omega), if_neg (by omega)]
    refine ⟨.inr rfl, rfl, (.bool false), K.res1 rfl rfl, [g_11, l_12], ?_, hS.pick [0, 1, 2]⟩
    exact ⟨_, _, by rw [e]; exact congrArg Value.bool (decide_eq_false (by show ¬ (S.pc + 1) = (4 : Int); omega)).symm, rfl, by rw [e]; exact h_13, by rw [e]; exact x_14⟩
set_option maxHeartbeats 1000000 in
set_option maxRecDepth 100000 in
theorem seStep_ok (w0 : World) (p pm q n t : Nat) (S : SeS) (M : MemM) (gp l : K.Cs) (hgp : gp = sePt p S) (x : MemAt l pm q n t M) (hM : M.good) (hS : S.good) :
  K.GC Tryz.prog w0 211 #[.pointer (some ⟨p, 0, none⟩), .pointer (some ⟨pm, 0, none⟩)] [gp, l] (fun v post => ∃ gp' l', v = .bool (seStep n t S M).1.done ∧ post = [gp', l'] ∧ gp' = sePt p (seStep n t S M).1 ∧ MemAt l' pm q n t (seStep n t S M).2) := by
 have hS0 := hS
 obtain ⟨hSt, hSa, hSp, hSw, hSo, hSi⟩ := hS
 have hSw2 := hSw
 unfold isL at hSw2
 have hSo2 := hSo
 unfold isL at hSo2
 refine K.GC.mk (n := 76) Tryz.func211 rfl rfl [.pointer (some ⟨p, 0, none⟩), .pointer (some ⟨pm, 0, none⟩)] rfl rfl ?_
 intro fr w hS
 replace hS : K.Sat w0 [gp, l, fr] w := hS
 refine K.s (K.g (K.q [.bool false] (K.z (K.t (K.s ?_)))))
 refine K.KW.block ?_
 refine K.s (K.g (K.q [.pointer (some ⟨p, 0, none⟩)] ?_))
 refine K.l (K.OW.gcall hS [0] [1, 2] [.pointer (some ⟨p, 0, none⟩)] (seDone_ok _ _ ⟨S.t, S.at_, S.pc, S.word, S.when_, S.old, S.put, S.writes⟩ _ hgp) ?_)
 clear hS; rintro _ _ w ⟨rfl, (⟨rfl, h_1⟩ | ⟨rfl, h_2⟩)⟩ hS
 ·
  replace hS : K.Sat w0 [gp, l, fr] w := hS
  replace h_1 : S.pc = 4 := h_1
  refine K.q [.bool true] (K.z (K.t (K.h (K.s (K.g (K.q [.bool true] (K.z (K.t (K.r ?_)))))))))
  refine K.blk_ret ?_
  refine K.u ?_
  have e : seStep n t S M = (S, M) := by unfold seStep; rw [if_pos (by omega)]
  refine ⟨.inr rfl, rfl, (.bool true), K.res1 rfl rfl, [gp, l], ?_, hS.pick [0, 1, 2]⟩
  exact ⟨_, _, by rw [e]; exact congrArg Value.bool (decide_eq_true (by show S.pc = (4 : Int); omega)).symm, rfl, by rw [e]; exact hgp, by rw [e]; exact x⟩
 ·
  replace hS : K.Sat w0 [gp, l, fr] w := hS
  replace h_2 : ¬ S.pc = 4 := h_2
  refine K.q [.bool false] (K.z (K.t (K.f (K.s (K.g (K.q [.pointer (some ⟨p, 0, none⟩), .pointer (some ⟨p, 0, none⟩), .pointer (some ⟨p, 0, none⟩), .pointer (some ⟨p, 2, none⟩)] ?_))))))
  refine K.d (.int .i64 S.pc) ((hS.blk 0 rfl hgp).cell rfl) ?_
  by_cases h_3 : (S.pc : Int) = (0 : Int)
  ·
   refine K.xn (S.pc : Int) (0 : Int) h_3 ?_
   refine K.q [.bool false] (K.z (K.t (K.f (K.s ?_))))
   refine K.KW.gdrawn [0] hS (by kernel_rfl) ?_
   clear hS; intro w hS
   refine K.p 0 rfl (.pointer (some ⟨pm, 0, none⟩)) (hS.pick [0]) ?_
   refine K.p 1 rfl (.pointer (some ⟨p, 0, none⟩)) (hS.pick [0]) ?_
   refine K.p 2 rfl (.pointer (some ⟨p, 0, none⟩)) (hS.pick [0]) ?_
   refine K.p 3 rfl (.pointer (some ⟨p, 0, none⟩)) (hS.pick [0]) ?_
   refine K.p 4 rfl (.pointer (some ⟨p, 0, none⟩)) (hS.pick [0]) ?_
   refine K.o_ 5 rfl (.int .i64 S.t) (fun w hS => ((hS.blk 0 rfl hgp).cell rfl)) (hS.pick [0]) ?_
   refine K.p 6 rfl (.pointer (some ⟨p, 0, none⟩)) (hS.pick [0]) ?_
   refine K.p 7 rfl (.pointer (some ⟨p, 0, none⟩)) (hS.pick [0]) ?_
   refine K.p 8 rfl (.pointer (some ⟨p, 0, none⟩)) (hS.pick [0]) ?_
   refine K.p 9 rfl (.pointer (some ⟨p, 1, none⟩)) (hS.pick [0]) ?_
   refine K.o_ 10 rfl (.int .i64 S.at_) (fun w hS => ((hS.blk 0 rfl hgp).cell rfl)) (hS.pick [0]) ?_
   refine K.p 11 rfl (.pointer (some ⟨p, 0, none⟩)) (hS.pick [0]) ?_
   refine K.p 12 rfl (.pointer (some ⟨p, 0, none⟩)) (hS.pick [0]) ?_
   refine K.p 13 rfl (.pointer (some ⟨p, 5, none⟩)) (hS.pick [0]) ?_
   refine K.o_ 14 rfl (.int .u64 S.old) (fun w hS => ((hS.blk 0 rfl hgp).cell rfl)) (hS.pick [0]) ?_
   refine K.b 15 rfl (.pointer (some ⟨p, 0, none⟩)) (hS.pick [0]) ?_
   refine K.b 16 rfl (.pointer (some ⟨p, 0, none⟩)) (hS.pick [0]) ?_
   refine K.b 17 rfl (.pointer (some ⟨p, 0, none⟩)) (hS.pick [0]) ?_
   refine K.b 18 rfl (.pointer (some ⟨p, 3, none⟩)) (hS.pick [0]) ?_
   refine K.c 19 rfl (K.QR.ld1 (v := .int .u64 S.word) rfl rfl (by kernel_rfl) ((hS.blk 0 rfl hgp).cell rfl)) (hS.pick [0]) ?_
   refine K.DW.l 20 rfl (by kernel_rfl) rfl (K.OW.gcall hS [] [0, 1, 2] [.int .u64 S.word] (soil_ok _ S.word (by first | assumption | exact isL.w (by assumption) | exact soilI_w _ | (unfold isW; omega))) ?_)
   clear hS; rintro _ _ w ⟨rfl, rfl⟩ hS
   replace hS : K.Sat w0 [gp, l, fr] w := hS
   have hw_4 : isW (soilI S.word) := soilI_w _
   refine ⟨.inl (hS.pick [0]), ?_⟩
   refine K.DW.l 21 rfl (by kernel_rfl) rfl (K.OW.gcall hS [1] [0, 2] [.pointer (some ⟨pm, 0, none⟩), .int .i64 S.t, .int .i64 S.at_, .int .u64 S.old, .int .u64 (soilI S.word)] (mSwap2_ok _ _ _ _ _ _ _ x S.t S.at_ (by first | omega | exact aft_int (by assumption) _ | exact ann_int (by assumption) _ (by omega)) S.old (soilI S.word)) ?_)
   clear hS; rintro _ _ w ⟨l_7, rfl, x_8, (⟨rfl, h_5⟩ | ⟨rfl, h_6⟩)⟩ hS
   ·
    replace hS : K.Sat w0 [l_7, gp, fr] w := hS
    refine ⟨.inl (hS.pick [1]), ?_⟩
    refine K.b 22 rfl (.bool true) (hS.pick [1]) ?_
    refine K.DW.done (by kernel_rfl) ?_
    refine K.t (K.h (K.s ?_))
    refine K.KW.gdrawnC [] (fun w => w.cell? ⟨p, 1, none⟩ = some (.int .i64 S.at_)) hS (by kernel_rfl) ?_
    clear hS; intro w hS
    refine K.p 0 rfl (.pointer (some ⟨p, 0, none⟩)) ⟨hS.pick [], (hS.blk 1 rfl hgp).cell rfl⟩ ?_
    refine K.p 1 rfl (.pointer (some ⟨p, 0, none⟩)) ⟨hS.pick [], (hS.blk 1 rfl hgp).cell rfl⟩ ?_
    refine K.p 2 rfl (.pointer (some ⟨p, 0, none⟩)) ⟨hS.pick [], (hS.blk 1 rfl hgp).cell rfl⟩ ?_
    refine K.p 3 rfl (.pointer (some ⟨pm, 0, none⟩)) ⟨hS.pick [], (hS.blk 1 rfl hgp).cell rfl⟩ ?_
    refine K.p 5 rfl (.pointer (some ⟨pm, 0, none⟩)) ⟨hS.pick [], (hS.blk 1 rfl hgp).cell rfl⟩ ?_
    refine K.p 6 rfl (.pointer (some ⟨p, 0, none⟩)) ⟨hS.pick [], (hS.blk 1 rfl hgp).cell rfl⟩ ?_
    refine K.p 7 rfl (.pointer (some ⟨p, 0, none⟩)) ⟨hS.pick [], (hS.blk 1 rfl hgp).cell rfl⟩ ?_
    refine K.p 8 rfl (.pointer (some ⟨p, 0, none⟩)) ⟨hS.pick [], (hS.blk 1 rfl hgp).cell rfl⟩ ?_
    refine K.p 9 rfl (.pointer (some ⟨p, 1, none⟩)) ⟨hS.pick [], (hS.blk 1 rfl hgp).cell rfl⟩ ?_
    refine K.o_ 10 rfl (.int .i64 S.at_) (fun w ⟨hS, hC⟩ => hC) ⟨hS.pick [], (hS.blk 1 rfl hgp).cell rfl⟩ ?_
    refine K.DW.l 4 rfl (by kernel_rfl) rfl (K.OW.gcall hS [0] [1, 2] [.pointer (some ⟨pm, 0, none⟩)] (mClock_ok _ _ _ _ _ _ _ x_8 ) ?_)
    clear hS; rintro _ _ w ⟨rfl, rfl⟩ hS
    replace hS : K.Sat w0 [l_7, gp, fr] w := hS
    refine ⟨.inl ⟨hS.pick [], (hS.blk 1 rfl hgp).cell rfl⟩, ?_⟩
    refine K.DW.l 11 rfl (by kernel_rfl) rfl (K.OW.gcall hS [0] [1, 2] [.pointer (some ⟨pm, 0, none⟩), .int .i64 S.at_] (mWrites_ok _ _ _ _ _ _ _ x_8 S.at_ (by omega)) ?_)
    clear hS; rintro _ _ w ⟨rfl, (⟨rfl, h_9⟩ | ⟨rfl, h_10⟩)⟩ hS
    ·
     replace hS : K.Sat w0 [l_7, gp, fr] w := hS
     refine ⟨.inl ⟨hS.pick [], (hS.blk 1 rfl hgp).cell rfl⟩, ?_⟩
     refine K.b 12 rfl (.pointer (some ⟨p, 0, none⟩)) ⟨hS.pick [], (hS.blk 1 rfl hgp).cell rfl⟩ ?_
     refine K.b 13 rfl (.pointer (some ⟨p, 6, none⟩)) ⟨hS.pick [], (hS.blk 1 rfl hgp).cell rfl⟩ ?_
     refine K.DW.l 14 rfl (by kernel_rfl) rfl (K.OW.gst 1 [.bool true] _ hS hgp ?_)
     clear hS; intro w g_11 hg_12 hS
     replace hS : K.Sat w0 [l_7, g_11, fr] w := hS
     refine ⟨.inl ⟨hS.pick [], (hS.blk 1 rfl hg_12).cell rfl⟩, ?_⟩
     refine K.b 15 rfl (.pointer (some ⟨p, 0, none⟩)) ⟨hS.pick [], (hS.blk 1 rfl hg_12).cell rfl⟩ ?_
     refine K.b 16 rfl (.pointer (some ⟨p, 0, none⟩)) ⟨hS.pick [], (hS.blk 1 rfl hg_12).cell rfl⟩ ?_
     refine K.b 17 rfl (.pointer (some ⟨p, 4, none⟩)) ⟨hS.pick [], (hS.blk 1 rfl hg_12).cell rfl⟩ ?_
     refine K.DW.l 18 rfl (by kernel_rfl) rfl (K.OW.gst 1 [.int .i64 (((M.accW n S.t S.at_ S.old (soilI S.word)).1).clock)] _ hS hg_12 ?_)
     clear hS; intro w g_13 hg_14 hS
     replace hS : K.Sat w0 [l_7, g_13, fr] w := hS
     refine ⟨.inl ⟨hS.pick [], (hS.blk 1 rfl hg_14).cell rfl⟩, ?_⟩
     refine K.b 19 rfl (.pointer (some ⟨p, 0, none⟩)) ⟨hS.pick [], (hS.blk 1 rfl hg_14).cell rfl⟩ ?_
     refine K.b 20 rfl (.pointer (some ⟨p, 7, none⟩)) ⟨hS.pick [], (hS.blk 1 rfl hg_14).cell rfl⟩ ?_
     refine K.DW.l 21 rfl (by kernel_rfl) rfl (K.OW.gst 1 [.int .i64 (((M.accW n S.t S.at_ S.old (soilI S.word)).1).dev.writes.getD ((S.at_ : Int) / 8).toNat 0)] _ hS hg_14 ?_)
     clear hS; intro w g_15 hg_16 hS
     replace hS : K.Sat w0 [l_7, g_15, fr] w := hS
     refine ⟨.inr (by kernel_rfl), ?_⟩
     refine K.DW.done (by kernel_rfl) ?_
     refine K.t (K.g (K.q [.pointer (some ⟨p, 0, none⟩), .pointer (some ⟨p, 0, none⟩), .pointer (some ⟨p, 0, none⟩), .pointer (some ⟨p, 2, none⟩)] ?_))
     refine K.l (K.OW.gst 1 [.int .i64 1] _ hS hg_16 ?_)
     clear hS; intro w g_17 hg_18 hS
     replace hS : K.Sat w0 [l_7, g_17, fr] w := hS
     refine K.z ?_
     refine K.blk_normal ?_
     refine K.t (K.s (K.g (K.q [.pointer (some ⟨p, 0, none⟩), .pointer (some ⟨p, 0, none⟩), .pointer (some ⟨p, 0, none⟩), .pointer (some ⟨p, 2, none⟩)] ?_)))
     refine K.d (.int .i64 1) ((hS.blk 1 rfl hg_18).cell rfl) ?_
     refine K.q [.bool false, .bool false] (K.z (K.t (K.r ?_)))
     have hin := accW_in h_5
     have e : seStep n t S M = (⟨S.t, S.at_, 1, S.word, ((M.accW n S.t S.at_ S.old (soilI S.word)).1).clock, S.old, true, (((M.accW n S.t S.at_ S.old (soilI S.word)).1).dev.writes.getD ((S.at_ : Int) / 8).toNat 0)⟩, ((M.accW n S.t S.at_ S.old (soilI S.word)).1)) := by unfold seStep seA; rw [if_neg (by omega), if_pos (by omega), if_pos h_5, show wrM (M.accW n S.t S.at_ S.old (soilI S.word)).1 S.at_ = (((M.accW n S.t S.at_ S.old (soilI S.word)).1).dev.writes.getD ((S.at_ : Int) / 8).toNat 0) from if_pos (by omega)]
     refine ⟨.inr rfl, rfl, (.bool false), K.res1 rfl rfl, [g_17, l_7], ?_, hS.pick [1, 0, 2]⟩
     exact ⟨_, _, by rw [e]; exact congrArg Value.bool (decide_eq_false (by show ¬ (1 : Int) = (4 : Int); omega)).symm, rfl, by rw [e]; exact hg_18, by rw [e]; exact x_8⟩
    ·
     replace hS : K.Sat w0 [l_7, gp, fr] w := hS
     refine ⟨.inl ⟨hS.pick [], (hS.blk 1 rfl hgp).cell rfl⟩, ?_⟩
     refine K.b 12 rfl (.pointer (some ⟨p, 0, none⟩)) ⟨hS.pick [], (hS.blk 1 rfl hgp).cell rfl⟩ ?_
     refine K.b 13 rfl (.pointer (some ⟨p, 6, none⟩)) ⟨hS.pick [], (hS.blk 1 rfl hgp).cell rfl⟩ ?_
     refine K.DW.l 14 rfl (by kernel_rfl) rfl (K.OW.gst 1 [.bool true] _ hS hgp ?_)
     clear hS; intro w g_19 hg_20 hS
     replace hS : K.Sat w0 [l_7, g_19, fr] w := hS
     refine ⟨.inl ⟨hS.pick [], (hS.blk 1 rfl hg_20).cell rfl⟩, ?_⟩
     refine K.b 15 rfl (.pointer (some ⟨p, 0, none⟩)) ⟨hS.pick [], (hS.blk 1 rfl hg_20).cell rfl⟩ ?_
     refine K.b 16 rfl (.pointer (some ⟨p, 0, none⟩)) ⟨hS.pick [], (hS.blk 1 rfl hg_20).cell rfl⟩ ?_
     refine K.b 17 rfl (.pointer (some ⟨p, 4, none⟩)) ⟨hS.pick [], (hS.blk 1 rfl hg_20).cell rfl⟩ ?_
     refine K.DW.l 18 rfl (by kernel_rfl) rfl (K.OW.gst 1 [.int .i64 (((M.accW n S.t S.at_ S.old (soilI S.word)).1).clock)] _ hS hg_20 ?_)
     clear hS; intro w g_21 hg_22 hS
     replace hS : K.Sat w0 [l_7, g_21, fr] w := hS
     refine ⟨.inl ⟨hS.pick [], (hS.blk 1 rfl hg_22).cell rfl⟩, ?_⟩
     refine K.b 19 rfl (.pointer (some ⟨p, 0, none⟩)) ⟨hS.pick [], (hS.blk 1 rfl hg_22).cell rfl⟩ ?_
     refine K.b 20 rfl (.pointer (some ⟨p, 7, none⟩)) ⟨hS.pick [], (hS.blk 1 rfl hg_22).cell rfl⟩ ?_
     refine K.DW.l 21 rfl (by kernel_rfl) rfl (K.OW.gst 1 [.int .i64 0] _ hS hg_22 ?_)
     clear hS; intro w g_23 hg_24 hS
     replace hS : K.Sat w0 [l_7, g_23, fr] w := hS
     refine ⟨.inr (by kernel_rfl), ?_⟩
     refine K.DW.done (by kernel_rfl) ?_
     refine K.t (K.g (K.q [.pointer (some ⟨p, 0, none⟩), .pointer (some ⟨p, 0, none⟩), .pointer (some ⟨p, 0, none⟩), .pointer (some ⟨p, 2, none⟩)] ?_))
     refine K.l (K.OW.gst 1 [.int .i64 1] _ hS hg_24 ?_)
     clear hS; intro w g_25 hg_26 hS
     replace hS : K.Sat w0 [l_7, g_25, fr] w := hS
     refine K.z ?_
     refine K.blk_normal ?_
     refine K.t (K.s (K.g (K.q [.pointer (some ⟨p, 0, none⟩), .pointer (some ⟨p, 0, none⟩), .pointer (some ⟨p, 0, none⟩), .pointer (some ⟨p, 2, none⟩)] ?_)))
     refine K.d (.int .i64 1) ((hS.blk 1 rfl hg_26).cell rfl) ?_
     refine K.q [.bool false, .bool false] (K.z (K.t (K.r ?_)))
     have hin := accW_in h_5
     have e : seStep n t S M = (⟨S.t, S.at_, 1, S.word, ((M.accW n S.t S.at_ S.old (soilI S.word)).1).clock, S.old, true, 0⟩, ((M.accW n S.t S.at_ S.old (soilI S.word)).1)) := by unfold seStep seA; rw [if_neg (by omega), if_pos (by omega), if_pos h_5, show wrM (M.accW n S.t S.at_ S.old (soilI S.word)).1 S.at_ = 0 from if_neg (by omega)]
     refine ⟨.inr rfl, rfl, (.bool false), K.res1 rfl rfl, [g_25, l_7], ?_, hS.pick [1, 0, 2]⟩
     exact ⟨_, _, by rw [e]; exact congrArg Value.bool (decide_eq_false (by show ¬ (1 : Int) = (4 : Int); omega)).symm, rfl, by rw [e]; exact hg_26, by rw [e]; exact x_8⟩
   ·
    replace hS : K.Sat w0 [l_7, gp, fr] w := hS
    refine ⟨.inl (hS.pick [1]), ?_⟩
    refine K.b 22 rfl (.bool false) (hS.pick [1]) ?_
    refine K.DW.done (by kernel_rfl) ?_
    refine K.t (K.f (K.g (K.q [.pointer (some ⟨p, 0, none⟩), .pointer (some ⟨p, 0, none⟩), .pointer (some ⟨p, 0, none⟩), .pointer (some ⟨p, 2, none⟩)] ?_)))
    refine K.l (K.OW.gst 1 [.int .i64 4] _ hS hgp ?_)
    clear hS; intro w g_27 hg_28 hS
    replace hS : K.Sat w0 [l_7, g_27, fr] w := hS
    refine K.z ?_
    refine K.blk_normal ?_
    refine K.t (K.s (K.g (K.q [.pointer (some ⟨p, 0, none⟩), .pointer (some ⟨p, 0, none⟩), .pointer (some ⟨p, 0, none⟩), .pointer (some ⟨p, 2, none⟩)] ?_)))
    refine K.d (.int .i64 4) ((hS.blk 1 rfl hg_28).cell rfl) ?_
    refine K.q [.bool true, .bool true] (K.z (K.t (K.r ?_)))
    have e : seStep n t S M = (⟨S.t, S.at_, 4, S.word, S.when_, S.old, S.put, S.writes⟩, ((M.accW n S.t S.at_ S.old (soilI S.word)).1)) := by unfold seStep seA; rw [if_neg (by omega), if_pos (by omega), if_neg (by rw [h_6]; decide)]
    refine ⟨.inr rfl, rfl, (.bool true), K.res1 rfl rfl, [g_27, l_7], ?_, hS.pick [1, 0, 2]⟩
    exact ⟨_, _, by rw [e]; exact congrArg Value.bool (decide_eq_true (by show (4 : Int) = (4 : Int); omega)).symm, rfl, by rw [e]; exact hg_28, by rw [e]; exact x_8⟩
  ·
   refine K.yn (S.pc : Int) (0 : Int) h_3 ?_
   refine K.q [.bool true] (K.z (K.t (K.h (K.g (K.q [.pointer (some ⟨p, 0, none⟩), .pointer (some ⟨p, 0, none⟩), .pointer (some ⟨p, 0, none⟩), .pointer (some ⟨pm, 0, none⟩)] ?_)))))
   refine K.l (K.OW.gcall hS [0, 1] [2] [.pointer (some ⟨p, 0, none⟩), .pointer (some ⟨pm, 0, none⟩)] (seLast_ok _ _ _ _ _ _ ⟨S.t, S.at_, S.pc, S.word, S.when_, S.old, S.put, S.writes⟩ M _ _ hgp x (by assumption) hS0 (by show 1 ≤ S.pc ∧ S.pc ≤ 3; omega)) ?_)
   clear hS; rintro _ _ w ⟨g_29, l_30, rfl, rfl, h_31, x_32⟩ hS
   replace hS : K.Sat w0 [g_29, l_30, fr] w := hS
   refine K.z ?_
   refine K.blk_normal ?_
   refine K.t (K.s (K.g (K.q [.pointer (some ⟨p, 0, none⟩), .pointer (some ⟨p, 0, none⟩), .pointer (some ⟨p, 0, none⟩), .pointer (some ⟨p, 2, none⟩)] ?_)))
   refine K.d (.int .i64 (S.pc + 1)) ((hS.blk 0 rfl h_31).cell rfl) ?_
   by_cases h_33 : ((S.pc + 1) : Int) = (4 : Int)
   ·
    refine K.ye ((S.pc + 1) : Int) (4 : Int) h_33 ?_
    refine K.q [.bool true] (K.z (K.t (K.r ?_)))
    have e : seStep n t S M = (⟨S.t, S.at_, (S.pc + 1), S.word, S.when_, S.old, S.put, S.writes⟩, (lastM n t S.t S.at_ S.pc S.word M)) := by unfold seStep; rw [if_neg (by omega), if_neg (by omega)]
    refine ⟨.inr rfl, rfl, (.bool true), K.res1 rfl rfl, [g_29, l_30], ?_, hS.pick [0, 1, 2]⟩
    exact ⟨_, _, by rw [e]; exact congrArg Value.bool (decide_eq_true (by show (S.pc + 1) = (4 : Int); omega)).symm, rfl, by rw [e]; exact h_31, by rw [e]; exact x_32⟩
   ·
    refine K.xe ((S.pc + 1) : Int) (4 : Int) h_33 ?_
    refine K.q [.bool false] (K.z (K.t (K.r ?_)))
    have e : seStep n t S M = (⟨S.t, S.at_, (S.pc + 1), S.word, S.when_, S.old, S.put, S.writes⟩, (lastM n t S.t S.at_ S.pc S.word M)) := by unfold seStep; rw [if_neg (by omega), if_neg (by omega)]
    refine ⟨.inr rfl, rfl, (.bool false), K.res1 rfl rfl, [g_29, l_30], ?_, hS.pick [0, 1, 2]⟩
    exact ⟨_, _, by rw [e]; exact congrArg Value.bool (decide_eq_false (by show ¬ (S.pc + 1) = (4 : Int); omega)).symm, rfl, by rw [e]; exact h_31, by rw [e]; exact x_32⟩
end Go.Proofs.YtbfafebfkdbglaaGreat
