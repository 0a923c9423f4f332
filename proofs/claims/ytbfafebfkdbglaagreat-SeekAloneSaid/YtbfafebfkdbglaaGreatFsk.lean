/- The way through a list: words, and the machine's steps. -/
import Derived.Test.YtbfafebfkdbglaaGreatFl13
import Derived.Test.YtbfafebfkdbglaaGreatFbi2
import Derived.Test.YtbfafebfkdbglaaGreatFlay3
import Derived.Test.YtbfafebfkdbglaaGreatKn
namespace Go.Proofs.YtbfafebfkdbglaaGreat
open Go.RowKit
set_option linter.unusedVariables false
attribute [local irreducible] K.KW K.RW K.DW K.OW K.QR K.KC
theorem first_mem : ∀ {l : List Nm} {x : Nm}, x ∈ l → firstT l x < l.length ∧ l.getD (firstT l x) nm0 = x
 | [], x, h => by simp at h
 | y :: l, x, h => by
  by_cases hy : y = x
  ·subst hy
   have : firstT (y :: l) y = 0 := by unfold firstT; rw [List.takeWhile_cons, if_neg (by simp)]; rfl
   rw [this]; exact ⟨by simp, rfl⟩
  ·have hm : x ∈ l := (List.mem_cons.1 h).resolve_left (fun e => hy e.symm)
   obtain ⟨a, b⟩ := first_mem hm
   have : firstT (y :: l) x = firstT l x + 1 := by unfold firstT; rw [List.takeWhile_cons, if_pos (by simpa using hy)]; rfl
   rw [this]; exact ⟨by simpa using a, by simpa using b⟩
theorem at_told {c : Cfg} (hc : cfgOk c) {k t : Int} (hk : k = 7 ∨ k = 9 ∨ k = 10 ∨ k = 12) : atT (lasting c) (passing c) ⟨k, t, 0⟩ = toldS c ⟨k, t, 0⟩ := by
 have hl := lasting_len hc
 have hnp : ∀ j, j < (passing c).length → ¬ (passing c).getD j nm0 = ⟨k, t, 0⟩ := fun j hj e => by
  rw [pass_get hj] at e
  (repeat' split at e) <;> simp at e <;> omega
 have hp := first_no hnp (Nat.le_refl _)
 by_cases hm : (⟨k, t, 0⟩ : Nm) ∈ lasting c
 ·obtain ⟨h1, h2⟩ := first_mem hm
  unfold atT
  rw [if_pos h1]
  exact (told_last hc (n := ⟨k, t, 0⟩) (by show (1 : Int) < k; omega) h1 (by rw [h2]; exact ⟨rfl, rfl, rfl⟩)).symm
 ·have hnl : ∀ j, j < (lasting c).length → ¬ (lasting c).getD j nm0 = ⟨k, t, 0⟩ := fun j hj e => hm (by rw [← e]; exact getD_mem hj)
  have h1 := first_no hnl (Nat.le_refl _)
  unfold atT
  rw [h1, if_neg (by omega), hp, if_neg (by omega)]
  have := told_none hc (n := ⟨k, t, 0⟩) ⟨by show (5 : Int) ≤ k; omega, by show k ≤ 17; omega⟩ (fun h => by have h : k = 14 ∨ k = 15 := h; omega) (fun _ => rfl) hm (not_mem_of (fun j hj e => hnp j hj (nmIs_eq e)))
  exact hl.trans this.symm
def nextS (c : Cfg) (s : Int) : Int := slotS c s 3
def keyS (c : Cfg) (s : Int) : Int := slotS c s 1
theorem at_next {c : Cfg} (hc : cfgOk c) (s : Int) : atT (lasting c) (passing c) ⟨12, s, 0⟩ = nextS c s := at_told hc (by omega)
theorem at_key {c : Cfg} (hc : cfgOk c) (s : Int) : atT (lasting c) (passing c) ⟨10, s, 0⟩ = keyS c s := at_told hc (by omega)
theorem slot_int {c : Cfg} (hc : cfgOk c) (s k : Int) (hk : 0 ≤ k ∧ k ≤ 7) : isInt (slotS c s k) := by
 have hb := lay_bd hc
 unfold cfgOk at hc
 unfold slotS wordS
 split <;> omega
theorem next_int {c : Cfg} (hc : cfgOk c) (s : Int) : isInt (nextS c s) := slot_int hc s 3 (by omega)
theorem key_int {c : Cfg} (hc : cfgOk c) (s : Int) : isInt (keyS c s) := slot_int hc s 1 (by omega)
theorem wrap32u (x : Int) : IntKind.u32.wrap x = x % 4294967296 := by simp [IntKind.wrap, IntKind.bits, IntKind.signed]
theorem toI_int (w : Int) : isInt (toI w) := by unfold toI; omega
theorem link_none (w : Int) : linkI (toI w) (-1) = w % 4294967296 := by unfold linkI toI; omega
theorem link_isL (w : Int) : isL (linkI (toI w) (-1)) := by rw [link_none]; unfold isL; omega
theorem rdWord_l {S : RdS} (h : S.good) : isL (rdWord S) := by
 unfold rdWord
 split
 ·exact h.2.2.2.1
 ·unfold isL; omega
theorem rdWhen_int {S : RdS} (h : S.good) : isInt (rdWhen S) := by
 unfold rdWhen
 split
 ·exact h.2.2.2.2
 ·omega
structure SkS where
 t : Int
 head : Int
 key : Int
 mode : Int
 done : Bool
 found : Bool
 prev : Int
 word : Int
 came : Int
 curr : Int
 link : Int
 when_ : Int
 rd : RdS
 se : SeS
def skBegin (S : SkS) : SkS := ⟨S.t, S.head, S.key, 1, S.done, S.found, S.head, S.word, S.came, S.curr, S.link, S.when_, ⟨S.t, S.head, 0, 0, -1⟩, S.se⟩
def skOn (c : Cfg) (S : SkS) (w ca : Int) : SkS :=
 if toI w = -1 then ⟨S.t, S.head, S.key, S.mode, true, S.found, S.prev, w, ca, toI w, 0, ca, S.rd, S.se⟩
 else ⟨S.t, S.head, S.key, 2, S.done, S.found, S.prev, w, ca, toI w, S.link, S.when_, ⟨S.t, nextS c (toI w), 0, 0, -1⟩, S.se⟩
def skRd (S : SkS) (R : RdS) : SkS := ⟨S.t, S.head, S.key, S.mode, S.done, S.found, S.prev, S.word, S.came, S.curr, S.link, S.when_, R, S.se⟩
def skSe (S : SkS) (Q : SeS) : SkS := ⟨S.t, S.head, S.key, S.mode, S.done, S.found, S.prev, S.word, S.came, S.curr, S.link, S.when_, S.rd, Q⟩
def skFirst (c : Cfg) (S : SkS) (R : RdS) : SkS := if R.done = true then (if byI (rdWord R) = -1 then skOn c (skRd S R) (rdWord R) (rdWhen R) else skBegin (skRd S R)) else skRd S R
def skLinked (S : SkS) (R : RdS) : SkS :=
 if R.done = true then (if byI (rdWord R) = -1 then ⟨S.t, S.head, S.key, 4, S.done, S.found, S.prev, S.word, S.came, S.curr, rdWord R, S.when_, R, S.se⟩
  else ⟨S.t, S.head, S.key, 3, S.done, S.found, S.prev, S.word, S.came, S.curr, rdWord R, S.when_, R, ⟨S.t, S.prev, 0, cleanI (linkI (toI (rdWord R)) (-1)), -1, cleanI S.word, false, 0⟩⟩)
 else skRd S R
def skUnl (c : Cfg) (S : SkS) (Q : SeS) : SkS := if Q.done = true then (if Q.put = true then skOn c (skSe S Q) (linkI (toI S.link) (-1)) Q.when_ else skBegin (skSe S Q)) else skSe S Q
def skPrev (S : SkS) (i : Int) : SkS := ⟨S.t, S.head, S.key, S.mode, S.done, S.found, i, S.word, S.came, S.curr, S.link, S.when_, S.rd, S.se⟩
def skKeyed (c : Cfg) (S : SkS) (k : Int) : SkS :=
 if k < S.key then skOn c (skPrev S (nextS c S.curr)) S.link (rdWhen S.rd)
 else if k = S.key then ⟨S.t, S.head, S.key, S.mode, true, true, S.prev, S.word, S.came, S.curr, S.link, rdWhen S.rd, S.rd, S.se⟩
 else ⟨S.t, S.head, S.key, S.mode, true, false, S.prev, S.word, S.came, S.curr, S.link, S.came, S.rd, S.se⟩
def skLd (c : Cfg) (n : Nat) (S : SkS) (M : MemM) : MemM × AccM := M.accL n S.t (keyS c S.curr)
def skStep (c : Cfg) (n nt : Nat) (S : SkS) (M : MemM) : SkS × MemM :=
 if S.done = true then (S, M)
 else if S.mode = 1 then (skFirst c S (rdStep n nt S.rd M).1, (rdStep n nt S.rd M).2)
 else if S.mode = 2 then (skLinked S (rdStep n nt S.rd M).1, (rdStep n nt S.rd M).2)
 else if S.mode = 3 then (skUnl c S (seStep n nt S.se M).1, (seStep n nt S.se M).2)
 else (skKeyed c S ((skLd c n S M).2.old % 4294967296), (skLd c n S M).1)
structure SkS.good (S : SkS) : Prop where
 t : isInt S.t
 head : isInt S.head
 key : 0 ≤ S.key ∧ S.key ≤ 4294967295
 prev : isInt S.prev
 word : isL S.word
 came : isInt S.came
 curr : isInt S.curr
 link : isL S.link
 when_ : isInt S.when_
 rd : S.rd.good
 se : S.se.good
 found : S.done = false → S.found = false
 mode : S.mode = 1 ∨ S.mode = 2 ∨ S.mode = 3 ∨ S.mode = 4
theorem skBegin_good {S : SkS} (h : S.good) : (skBegin S).good := ⟨h.t, h.head, h.key, h.head, h.word, h.came, h.curr, h.link, h.when_, rdInit h.t h.head, h.se, h.found, .inl rfl⟩
theorem skOn_good {c : Cfg} (hc : cfgOk c) {S : SkS} {w ca : Int} (h : S.good) (hw : isL w) (ha : isInt ca) : (skOn c S w ca).good := by
 unfold skOn
 split
 ·exact ⟨h.t, h.head, h.key, h.prev, hw, ha, toI_int _, isL00, ha, h.rd, h.se, (fun e => by cases e), h.mode⟩
 ·exact ⟨h.t, h.head, h.key, h.prev, hw, ha, toI_int _, h.link, h.when_, rdInit h.t (next_int hc _), h.se, h.found, .inr (.inl rfl)⟩
theorem skRd_good {S : SkS} {R : RdS} (h : S.good) (hR : R.good) : (skRd S R).good := ⟨h.t, h.head, h.key, h.prev, h.word, h.came, h.curr, h.link, h.when_, hR, h.se, h.found, h.mode⟩
theorem skSe_good {S : SkS} {Q : SeS} (h : S.good) (hQ : Q.good) : (skSe S Q).good := ⟨h.t, h.head, h.key, h.prev, h.word, h.came, h.curr, h.link, h.when_, h.rd, hQ, h.found, h.mode⟩
theorem skPrev_good {S : SkS} {i : Int} (h : S.good) (hi : isInt i) : (skPrev S i).good := ⟨h.t, h.head, h.key, hi, h.word, h.came, h.curr, h.link, h.when_, h.rd, h.se, h.found, h.mode⟩
theorem skStep_good {c : Cfg} (hc : cfgOk c) {n nt : Nat} {S : SkS} {M : MemM} (h : S.good) (hM : M.good) (hw : isInt (seStep n nt S.se M).1.when_) : (skStep c n nt S M).1.good ∧ (skStep c n nt S M).2.good := by
 obtain ⟨hR, hR2⟩ := rdStep_good2 (n := n) (nt := nt) h.rd hM
 obtain ⟨hQ, hQ2⟩ := seStep_good (n := n) (nt := nt) h.se hM
 unfold skStep
 split
 ·exact ⟨h, hM⟩
 split
 ·refine ⟨?_, hR2⟩
  unfold skFirst
  split
  ·split
   ·exact skOn_good hc (skRd_good h hR) (rdWord_l hR) (rdWhen_int hR)
   ·exact skBegin_good (skRd_good h hR)
  ·exact skRd_good h hR
 split
 ·refine ⟨?_, hR2⟩
  unfold skLinked
  split
  ·split
   ·exact ⟨h.t, h.head, h.key, h.prev, h.word, h.came, h.curr, rdWord_l hR, h.when_, hR, h.se, h.found, .inr (.inr (.inr rfl))⟩
   ·exact ⟨h.t, h.head, h.key, h.prev, h.word, h.came, h.curr, rdWord_l hR, h.when_, hR, seInit h.t h.prev, h.found, .inr (.inr (.inl rfl))⟩
  ·exact skRd_good h hR
 split
 ·refine ⟨?_, hQ2⟩
  unfold skUnl
  split
  ·split
   ·exact skOn_good hc (skSe_good h hQ) (link_isL _) hw
   ·exact skBegin_good (skSe_good h hQ)
  ·exact skSe_good h hQ
 ·refine ⟨?_, (accL_good hM).1⟩
  unfold skKeyed
  split
  ·exact skOn_good hc (skPrev_good h (next_int hc _)) h.link (rdWhen_int h.rd)
  split
  ·exact ⟨h.t, h.head, h.key, h.prev, h.word, h.came, h.curr, h.link, rdWhen_int h.rd, h.rd, h.se, (fun e => by cases e), h.mode⟩
  ·exact ⟨h.t, h.head, h.key, h.prev, h.word, h.came, h.curr, h.link, h.came, h.rd, h.se, (fun e => by cases e), h.mode⟩
theorem seStep_when {n nt : Nat} {S : SeS} {M : MemM} (h : isInt S.when_) : isInt (seStep n nt S M).1.when_ := by
 unfold seStep
 split
 ·exact h
 split
 ·split
  ·exact i64s_int _
  ·exact h
 ·exact h
abbrev skF (k p : Nat) : Value := .func (.func k) [.pointer (some ⟨p, 0, none⟩)].toArray [].toArray
abbrev skPt (p b : Nat) (f : Value) (ra sa : Option Addr) (S : SkS) : K.Cs := [K.pt p 138 [.pointer (some ⟨b, 0, none⟩), .int .i64 S.t, .int .i64 S.head, .int .u32 S.key, f, .pointer ra, .pointer sa, .bool S.done, .bool S.found, .int .i64 S.prev, .int .u64 S.word, .int .i64 S.came, .int .i64 S.curr, .int .u64 S.link, .int .i64 S.when_]]
/-- what lies behind the machine -/
def SkTail (p : Nat) (S : SkS) (f : Value) (ra sa : Option Addr) (g : K.Cs) : Prop :=
 S.done = true ∨ (S.done = false ∧ S.mode = 1 ∧ f = skF 121 p ∧ ∃ r, ra = some ⟨r, 0, none⟩ ∧ g = rdPt r S.rd) ∨ (S.done = false ∧ S.mode = 2 ∧ f = skF 188 p ∧ ∃ r, ra = some ⟨r, 0, none⟩ ∧ g = rdPt r S.rd)
  ∨ (S.done = false ∧ S.mode = 3 ∧ f = skF 200 p ∧ ∃ q, sa = some ⟨q, 0, none⟩ ∧ g = sePt q S.se) ∨ (S.done = false ∧ S.mode = 4 ∧ f = skF 198 p ∧ ∃ r, ra = some ⟨r, 0, none⟩ ∧ g = rdPt r S.rd)
def SkEl (p b : Nat) (S : SkS) (g : K.Cs) : Prop := ∃ f ra sa gp g1, g = [gp, g1].flatten ∧ gp = skPt p b f ra sa S ∧ SkTail p S f ra sa g1
set_option maxHeartbeats 1000000 in
set_option maxRecDepth 100000 in
theorem by_ok (w0 : World) (x : Int) (hx : isW x) :
  K.GC Tryz.prog w0 167 #[.int .u64 x] [] (fun v post => v = .int .i64 (byI x) ∧ post = []) := by
 have hx2 := hx
 unfold isW at hx2
 refine K.GC.mk (n := 14) Tryz.func167 rfl rfl [.int .u64 x] rfl rfl ?_
 intro fr w hS
 replace hS : K.Sat w0 [fr] w := hS
 refine K.s (K.g (K.q [.int .i64 0] (K.z (K.t (K.s (K.g ?_))))))
 refine K.l (K.OW.gcall hS [] [0] [.int .i64 32, .int .i64 7] (field32_7_ok _) ?_)
 clear hS; rintro _ _ w ⟨b_1, c_2, g_3, h_4, rfl, rfl, x_5, y_6⟩ hS
 replace hS : K.Sat w0 [g_3, h_4, fr] w := hS
 refine K.q [.tuple #[.func (.func 157) [].toArray [.pointer (some ⟨b_1, 0, none⟩), .pointer (some ⟨c_2, 0, none⟩)].toArray, .func (.func 159) [].toArray [.pointer (some ⟨c_2, 0, none⟩), .pointer (some ⟨b_1, 0, none⟩)].toArray], .func (.func 157) [].toArray [.pointer (some ⟨b_1, 0, none⟩), .pointer (some ⟨c_2, 0, none⟩)].toArray, .func (.func 159) [].toArray [.pointer (some ⟨c_2, 0, none⟩), .pointer (some ⟨b_1, 0, none⟩)].toArray, .func (.func 157) [].toArray [.pointer (some ⟨b_1, 0, none⟩), .pointer (some ⟨c_2, 0, none⟩)].toArray, .func (.func 159) [].toArray [.pointer (some ⟨c_2, 0, none⟩), .pointer (some ⟨b_1, 0, none⟩)].toArray] (K.z (K.t (K.s (K.g (K.q [.func (.func 157) [].toArray [.pointer (some ⟨b_1, 0, none⟩), .pointer (some ⟨c_2, 0, none⟩)].toArray, .int .u64 x] ?_)))))
 refine K.l (K.OW.gcallw hS [0, 1] [2] [.int .u64 x, .pointer (some ⟨b_1, 0, none⟩), .pointer (some ⟨c_2, 0, none⟩)] (cut32_7_ok _ x (by first | assumption | (unfold isW; omega)) _ _ _ _ x_5 y_6) ?_)
 clear hS; rintro _ _ w ⟨rfl, rfl⟩ hS
 replace hS : K.Sat w0 [g_3, h_4, fr] w := hS
 refine K.a (K.QR.nice (v := .int .i64 (IntKind.i64.wrap (x / 4294967296 % 128 : Int))) (by kernel_rfl) (congrArg (Value.int .i64) (IntWalk.i64_in _ (by omega)))) ?_
 refine K.a (K.QR.n64 (((x / 4294967296 % 128 : Int) : Int) + ((-1) : Int)) (((x / 4294967296 % 128 : Int) : Int) + ((-1) : Int)) (by kernel_rfl) (by omega)) ?_
 refine K.q [.int .i64 (((x / 4294967296 % 128 : Int) : Int) + ((-1) : Int))] (K.z (K.t (K.r ?_)))
 refine ⟨.inr rfl, rfl, (.int .i64 (((x / 4294967296 % 128 : Int) : Int) + ((-1) : Int))), K.res1 rfl rfl, [], ?_, hS.pick [2]⟩
 exact ⟨congrArg (Value.int .i64) (by unfold byI; omega), rfl⟩
set_option maxHeartbeats 1000000 in
set_option maxRecDepth 100000 in
theorem skBegin_ok (w0 : World) (p b : Nat) (f : Value) (ra sa : Option Addr) (S : SkS) (gp : K.Cs) (hgp : gp = skPt p b f ra sa S) (ht : isInt S.t) (hh : isInt S.head) :
  K.GC Tryz.prog w0 69 #[.pointer (some ⟨p, 0, none⟩)] [gp] (fun v post => ∃ gp' r g1, v = .tuple #[] ∧ post = [gp', g1] ∧ gp' = skPt p b (skF 121 p) (some ⟨r, 0, none⟩) sa (skBegin S) ∧ g1 = rdPt r ⟨S.t, S.head, 0, 0, -1⟩) := by
 refine K.GC.mk (n := 26) Tryz.func69 rfl rfl [.pointer (some ⟨p, 0, none⟩)] rfl rfl ?_
 intro fr w hS
 replace hS : K.Sat w0 [gp, fr] w := hS
 refine K.s (K.g (K.q [.pointer (some ⟨p, 0, none⟩), .pointer (some ⟨p, 0, none⟩), .pointer (some ⟨p, 0, none⟩), .pointer (some ⟨p, 2, none⟩)] ?_))
 refine K.d (.int .i64 S.head) ((hS.blk 0 rfl hgp).cell rfl) ?_
 refine K.q [.pointer (some ⟨p, 0, none⟩), .pointer (some ⟨p, 9, none⟩)] ?_
 refine K.l (K.OW.gst 0 [.int .i64 S.head] _ hS hgp ?_)
 clear hS; intro w g_1 hg_2 hS
 replace hS : K.Sat w0 [g_1, fr] w := hS
 refine K.z (K.t (K.s ?_))
 refine K.KW.gdrawn [0] hS (by kernel_rfl) ?_
 clear hS; intro w hS
 refine K.p 0 rfl (.pointer (some ⟨p, 0, none⟩)) (hS.pick [0]) ?_
 refine K.p 1 rfl (.pointer (some ⟨p, 0, none⟩)) (hS.pick [0]) ?_
 refine K.p 2 rfl (.pointer (some ⟨p, 0, none⟩)) (hS.pick [0]) ?_
 refine K.p 3 rfl (.pointer (some ⟨p, 1, none⟩)) (hS.pick [0]) ?_
 refine K.o_ 4 rfl (.int .i64 S.t) (fun w hS => ((hS.blk 0 rfl hg_2).cell rfl)) (hS.pick [0]) ?_
 refine K.b 5 rfl (.pointer (some ⟨p, 0, none⟩)) (hS.pick [0]) ?_
 refine K.b 6 rfl (.pointer (some ⟨p, 0, none⟩)) (hS.pick [0]) ?_
 refine K.b 7 rfl (.pointer (some ⟨p, 2, none⟩)) (hS.pick [0]) ?_
 refine K.c 8 rfl (K.QR.ld1 (v := .int .i64 S.head) rfl rfl (by kernel_rfl) ((hS.blk 0 rfl hg_2).cell rfl)) (hS.pick [0]) ?_
 refine K.DW.l 9 rfl (by kernel_rfl) rfl (K.OW.gcall hS [] [0, 1] [.int .i64 S.t, .int .i64 S.head] (newrd_ok _ S.t (by first | omega | assumption) S.head (by first | omega | assumption)) ?_)
 clear hS; rintro _ _ w ⟨p_3, g_4, rfl, rfl, h_5⟩ hS
 replace hS : K.Sat w0 [g_4, g_1, fr] w := hS
 have hS_6 : RdS.good (⟨S.t, S.head, 0, 0, -1⟩ : RdS) := rdInit (by omega) (by omega)
 refine ⟨.inl (hS.pick [1]), ?_⟩
 refine K.b 10 rfl (.pointer (some ⟨p, 0, none⟩)) (hS.pick [1]) ?_
 refine K.b 11 rfl (.pointer (some ⟨p, 5, none⟩)) (hS.pick [1]) ?_
 refine K.DW.l 12 rfl (by kernel_rfl) rfl (K.OW.gst 1 [.pointer (some ⟨p_3, 0, none⟩)] _ hS hg_2 ?_)
 clear hS; intro w g_7 hg_8 hS
 replace hS : K.Sat w0 [g_4, g_7, fr] w := hS
 refine ⟨.inr (by kernel_rfl), ?_⟩
 refine K.DW.done (by kernel_rfl) ?_
 refine K.t (K.g (K.q [.pointer (some ⟨p, 0, none⟩), .pointer (some ⟨p, 0, none⟩)] ?_))
 refine K.a (K.QR.fn [.pointer (some ⟨p, 0, none⟩)] [] rfl rfl rfl) ?_
 refine K.q [.pointer (some ⟨p, 0, none⟩), .pointer (some ⟨p, 4, none⟩)] ?_
 refine K.l (K.OW.gst 1 [.func (.func 121) [.pointer (some ⟨p, 0, none⟩)].toArray [].toArray] _ hS hg_8 ?_)
 clear hS; intro w g_9 hg_10 hS
 replace hS : K.Sat w0 [g_4, g_9, fr] w := hS
 refine K.z ?_
 refine ⟨.inl rfl, rfl, (.tuple #[]), K.res0 rfl, [g_9, g_4], ?_, hS.pick [1, 0, 2]⟩
 exact ⟨_, _, _, rfl, rfl, hg_10, h_5⟩
set_option maxHeartbeats 1000000 in
set_option maxRecDepth 100000 in
theorem skOn_ok (w0 : World) (p b : Nat) (f : Value) (ra sa : Option Addr) (c : Cfg) (hc : cfgOk c) (S : SkS) (gp gl : K.Cs) (hgp : gp = skPt p b f ra sa S) (hgl : gl = layPt b c) (ht : isInt S.t) (wo ca : Int) (hw : isW wo) :
  K.GC Tryz.prog w0 169 #[.pointer (some ⟨p, 0, none⟩), .int .u64 wo, .int .i64 ca] [gp, gl] (fun v post => v = .tuple #[] ∧ ((∃ gp', post = [gp', gl] ∧ toI wo = -1 ∧ gp' = skPt p b f ra sa (skOn c S wo ca)) ∨ (∃ gp' r g1, post = [gp', g1, gl] ∧ ¬ toI wo = -1 ∧ gp' = skPt p b (skF 188 p) (some ⟨r, 0, none⟩) sa (skOn c S wo ca) ∧ g1 = rdPt r ⟨S.t, nextS c (toI wo), 0, 0, -1⟩))) := by
 refine K.GC.mk (n := 56) Tryz.func169 rfl rfl [.pointer (some ⟨p, 0, none⟩), .int .u64 wo, .int .i64 ca] rfl rfl ?_
 intro fr w hS
 replace hS : K.Sat w0 [gp, gl, fr] w := hS
 refine K.s (K.g (K.q [.pointer (some ⟨p, 0, none⟩), .pointer (some ⟨p, 0, none⟩), .int .u64 wo, .int .i64 ca, .pointer (some ⟨p, 0, none⟩), .pointer (some ⟨p, 10, none⟩)] ?_))
 refine K.l (K.OW.gst 0 [.int .u64 wo] _ hS hgp ?_)
 clear hS; intro w g_1 hg_2 hS
 replace hS : K.Sat w0 [g_1, gl, fr] w := hS
 refine K.q [.pointer (some ⟨p, 0, none⟩), .pointer (some ⟨p, 11, none⟩)] ?_
 refine K.l (K.OW.gst 0 [.int .i64 ca] _ hS hg_2 ?_)
 clear hS; intro w g_3 hg_4 hS
 replace hS : K.Sat w0 [g_3, gl, fr] w := hS
 refine K.z (K.t (K.s (K.g (K.q [.pointer (some ⟨p, 0, none⟩), .int .u64 wo] ?_))))
 refine K.l (K.OW.gcall hS [] [0, 1, 2] [.int .u64 wo] (to_ok _ wo (by first | assumption | exact rdWord_w (by assumption) | exact isL.w (by assumption) | exact linkI_w _ _ | (unfold isW; omega))) ?_)
 clear hS; rintro _ _ w ⟨rfl, rfl⟩ hS
 replace hS : K.Sat w0 [g_3, gl, fr] w := hS
 have hi_5 : isInt (toI wo) := toI_int _
 refine K.q [.pointer (some ⟨p, 0, none⟩), .pointer (some ⟨p, 12, none⟩)] ?_
 refine K.l (K.OW.gst 0 [.int .i64 (toI wo)] _ hS hg_4 ?_)
 clear hS; intro w g_6 hg_7 hS
 replace hS : K.Sat w0 [g_6, gl, fr] w := hS
 refine K.z (K.t (K.s (K.s (K.g (K.q [.pointer (some ⟨p, 0, none⟩), .pointer (some ⟨p, 0, none⟩), .pointer (some ⟨p, 12, none⟩)] ?_)))))
 refine K.d (.int .i64 (toI wo)) ((hS.blk 0 rfl hg_7).cell rfl) ?_
 by_cases h_8 : ((toI wo) : Int) = ((-1) : Int)
 ·
  refine K.ye ((toI wo) : Int) ((-1) : Int) h_8 ?_
  refine K.z (K.t (K.h (K.s (K.g (K.q [.pointer (some ⟨p, 0, none⟩), .pointer (some ⟨p, 0, none⟩), .pointer (some ⟨p, 0, none⟩), .int .i64 ca, .pointer (some ⟨p, 0, none⟩), .pointer (some ⟨p, 13, none⟩)] ?_)))))
  refine K.l (K.OW.gst 0 [.int .u64 0] _ hS hg_7 ?_)
  clear hS; intro w g_9 hg_10 hS
  replace hS : K.Sat w0 [g_9, gl, fr] w := hS
  refine K.q [.pointer (some ⟨p, 0, none⟩), .pointer (some ⟨p, 14, none⟩)] ?_
  refine K.l (K.OW.gst 0 [.int .i64 ca] _ hS hg_10 ?_)
  clear hS; intro w g_11 hg_12 hS
  replace hS : K.Sat w0 [g_11, gl, fr] w := hS
  refine K.q [.pointer (some ⟨p, 0, none⟩), .pointer (some ⟨p, 7, none⟩)] ?_
  refine K.l (K.OW.gst 0 [.bool true] _ hS hg_12 ?_)
  clear hS; intro w g_13 hg_14 hS
  replace hS : K.Sat w0 [g_13, gl, fr] w := hS
  refine K.z (K.t (K.r (K.u ?_)))
  refine ⟨.inr rfl, rfl, (.tuple #[]), K.res0 rfl, [g_13, gl], ?_, hS.pick [0, 1, 2]⟩
  exact ⟨rfl, .inl ⟨_, rfl, by assumption, by unfold skOn; rw [if_pos (by assumption)]; exact hg_14⟩⟩
 ·
  refine K.xe ((toI wo) : Int) ((-1) : Int) h_8 ?_
  refine K.z (K.t (K.f (K.k (K.t (K.s ?_)))))
  refine K.KW.gdrawn [0] hS (by kernel_rfl) ?_
  clear hS; intro w hS
  refine K.p 0 rfl (.pointer (some ⟨p, 0, none⟩)) (hS.pick [0]) ?_
  refine K.p 1 rfl (.pointer (some ⟨p, 0, none⟩)) (hS.pick [0]) ?_
  refine K.p 2 rfl (.pointer (some ⟨p, 0, none⟩)) (hS.pick [0]) ?_
  refine K.p 3 rfl (.pointer (some ⟨p, 1, none⟩)) (hS.pick [0]) ?_
  refine K.o_ 4 rfl (.int .i64 S.t) (fun w hS => ((hS.blk 0 rfl hg_7).cell rfl)) (hS.pick [0]) ?_
  refine K.p 5 rfl (.pointer (some ⟨p, 0, none⟩)) (hS.pick [0]) ?_
  refine K.p 6 rfl (.pointer (some ⟨p, 0, none⟩)) (hS.pick [0]) ?_
  refine K.p 7 rfl (.pointer (some ⟨p, 0, none⟩)) (hS.pick [0]) ?_
  refine K.o_ 8 rfl (.pointer (some ⟨b, 0, none⟩)) (fun w hS => ((hS.blk 0 rfl hg_7).cell rfl)) (hS.pick [0]) ?_
  refine K.b 9 rfl (.pointer (some ⟨p, 0, none⟩)) (hS.pick [0]) ?_
  refine K.b 10 rfl (.pointer (some ⟨p, 0, none⟩)) (hS.pick [0]) ?_
  refine K.b 11 rfl (.pointer (some ⟨p, 12, none⟩)) (hS.pick [0]) ?_
  refine K.c 12 rfl (K.QR.ld1 (v := .int .i64 (toI wo)) rfl rfl (by kernel_rfl) ((hS.blk 0 rfl hg_7).cell rfl)) (hS.pick [0]) ?_
  refine K.DW.l 13 rfl (by kernel_rfl) rfl (K.OW.kcall hS [.pointer (some ⟨b, 0, none⟩), .int .i64 (toI wo)] (lNext _ c (toI wo) _ (by assumption) (hS.blk 1 rfl hgl)) ?_)
  rintro _ w ⟨rfl, c_15⟩
  replace hS := hS.no c_15
  have hi_16 : isInt (nextS c (toI wo)) := next_int (by assumption) _
  refine ⟨.inl (hS.pick [0]), ?_⟩
  refine K.DW.l 14 rfl (by kernel_rfl) rfl (K.OW.gcall hS [] [0, 1, 2] [.int .i64 S.t, .int .i64 (nextS c (toI wo))] (newrd_ok _ S.t (by first | omega | assumption) (nextS c (toI wo)) (by first | omega | assumption)) ?_)
  clear hS; rintro _ _ w ⟨p_17, g_18, rfl, rfl, h_19⟩ hS
  replace hS : K.Sat w0 [g_18, g_6, gl, fr] w := hS
  have hS_20 : RdS.good (⟨S.t, (nextS c (toI wo)), 0, 0, -1⟩ : RdS) := rdInit (by omega) (by omega)
  refine ⟨.inl (hS.pick [1]), ?_⟩
  refine K.b 15 rfl (.pointer (some ⟨p, 0, none⟩)) (hS.pick [1]) ?_
  refine K.b 16 rfl (.pointer (some ⟨p, 5, none⟩)) (hS.pick [1]) ?_
  refine K.DW.l 17 rfl (by kernel_rfl) rfl (K.OW.gst 1 [.pointer (some ⟨p_17, 0, none⟩)] _ hS hg_7 ?_)
  clear hS; intro w g_21 hg_22 hS
  replace hS : K.Sat w0 [g_18, g_21, gl, fr] w := hS
  refine ⟨.inr (by kernel_rfl), ?_⟩
  refine K.DW.done (by kernel_rfl) ?_
  refine K.t (K.g (K.q [.pointer (some ⟨p, 0, none⟩), .pointer (some ⟨p, 0, none⟩)] ?_))
  refine K.a (K.QR.fn [.pointer (some ⟨p, 0, none⟩)] [] rfl rfl rfl) ?_
  refine K.q [.pointer (some ⟨p, 0, none⟩), .pointer (some ⟨p, 4, none⟩)] ?_
  refine K.l (K.OW.gst 1 [.func (.func 188) [.pointer (some ⟨p, 0, none⟩)].toArray [].toArray] _ hS hg_22 ?_)
  clear hS; intro w g_23 hg_24 hS
  replace hS : K.Sat w0 [g_18, g_23, gl, fr] w := hS
  refine K.z ?_
  refine ⟨.inl rfl, rfl, (.tuple #[]), K.res0 rfl, [g_23, g_18, gl], ?_, hS.pick [1, 0, 2, 3]⟩
  exact ⟨rfl, .inr ⟨_, _, _, rfl, by assumption, by unfold skOn; rw [if_neg (by assumption)]; exact hg_24, h_19⟩⟩
theorem skOn_t1 {c : Cfg} {S : SkS} {w ca : Int} {p : Nat} {f : Value} {ra sa : Option Addr} {g : K.Cs} (h : toI w = -1) : SkTail p (skOn c S w ca) f ra sa g := .inl (by unfold skOn; rw [if_pos h])
theorem skOn_t2 {c : Cfg} {S : SkS} {w ca : Int} {p r : Nat} {sa : Option Addr} {g : K.Cs} (h : ¬ toI w = -1) (hd : S.done = false) (hg : g = rdPt r ⟨S.t, nextS c (toI w), 0, 0, -1⟩) : SkTail p (skOn c S w ca) (skF 188 p) (some ⟨r, 0, none⟩) sa g := by
 unfold skOn; rw [if_neg h]; exact .inr (.inr (.inl ⟨hd, rfl, rfl, r, rfl, hg⟩))
theorem skBegin_t {S : SkS} {p r : Nat} {sa : Option Addr} {g : K.Cs} (hd : S.done = false) (hg : g = rdPt r ⟨S.t, S.head, 0, 0, -1⟩) : SkTail p (skBegin S) (skF 121 p) (some ⟨r, 0, none⟩) sa g := .inr (.inl ⟨hd, rfl, rfl, r, rfl, hg⟩)
theorem skS1 {c : Cfg} {n nt : Nat} {S : SkS} {M : MemM} (hd : S.done = false) (hm : S.mode = 1) : skStep c n nt S M = (skFirst c S (rdStep n nt S.rd M).1, (rdStep n nt S.rd M).2) := by unfold skStep; rw [if_neg (by rw [hd]; decide), if_pos hm]
theorem skS2 {c : Cfg} {n nt : Nat} {S : SkS} {M : MemM} (hd : S.done = false) (hm : S.mode = 2) : skStep c n nt S M = (skLinked S (rdStep n nt S.rd M).1, (rdStep n nt S.rd M).2) := by unfold skStep; rw [if_neg (by rw [hd]; decide), if_neg (by omega), if_pos hm]
theorem skS3 {c : Cfg} {n nt : Nat} {S : SkS} {M : MemM} (hd : S.done = false) (hm : S.mode = 3) : skStep c n nt S M = (skUnl c S (seStep n nt S.se M).1, (seStep n nt S.se M).2) := by unfold skStep; rw [if_neg (by rw [hd]; decide), if_neg (by omega), if_neg (by omega), if_pos hm]
theorem skS4 {c : Cfg} {n nt : Nat} {S : SkS} {M : MemM} (hd : S.done = false) (hm : S.mode = 4) : skStep c n nt S M = (skKeyed c S ((M.accL n S.t (keyS c S.curr)).2.old % 4294967296), (M.accL n S.t (keyS c S.curr)).1) := by unfold skStep; rw [if_neg (by rw [hd]; decide), if_neg (by omega), if_neg (by omega), if_neg (by omega)]; rfl
set_option maxHeartbeats 1000000 in
set_option maxRecDepth 100000 in
theorem skFirst_ok (w0 : World) (p b pm q n t : Nat) (r : Nat) (sa : Option Addr) (c : Cfg) (hc : cfgOk c) (S : SkS) (M : MemM) (gp gx gl l : K.Cs) (hgp : gp = skPt p b (skF 121 p) ((some ⟨r, 0, none⟩)) (sa) S) (hgx : gx = rdPt r S.rd) (hgl : gl = layPt b c) (x : MemAt l pm q n t M) (hM : M.good) (hS : S.good) (hd : S.done = false) (hm : S.mode = 1) :
  K.GC Tryz.prog w0 121 #[.pointer (some ⟨p, 0, none⟩), .pointer (some ⟨pm, 0, none⟩)] [gp, gx, gl, l] (fun v post => ∃ f' ra' sa' gp' g1 l', v = .tuple #[] ∧ post = [gp', g1, gl, l'] ∧ gp' = skPt p b f' ra' sa' (skStep c n t S M).1 ∧ SkTail p (skStep c n t S M).1 f' ra' sa' g1 ∧ MemAt l' pm q n t (skStep c n t S M).2) := by
 have hSt := hS.t; have hSh := hS.head; have hSk := hS.key; have hSp := hS.prev; have hSw := hS.word; have hSl := hS.link; have hSc := hS.curr; have hSrd := hS.rd; have hSse := hS.se; have hSf := hS.found hd
 refine K.GC.mk (n := 34) Tryz.func121 rfl rfl [.pointer (some ⟨p, 0, none⟩), .pointer (some ⟨pm, 0, none⟩)] rfl rfl ?_
 intro fr w hS
 replace hS : K.Sat w0 [gp, gx, gl, l, fr] w := hS
 refine K.KW.block ?_
 refine K.s (K.g (K.q [.pointer (some ⟨p, 0, none⟩), .pointer (some ⟨p, 0, none⟩), .pointer (some ⟨p, 5, none⟩)] ?_))
 refine K.d (.pointer (some ⟨r, 0, none⟩)) ((hS.blk 0 rfl hgp).cell rfl) ?_
 refine K.q [.pointer (some ⟨pm, 0, none⟩)] ?_
 refine K.l (K.OW.gcall hS [1, 3] [0, 2, 4] [.pointer (some ⟨r, 0, none⟩), .pointer (some ⟨pm, 0, none⟩)] (rdStep_ok _ _ _ _ _ _ S.rd M _ _ hgx x (by assumption) (by assumption)) ?_)
 clear hS; rintro _ _ w ⟨g_1, l_2, rfl, rfl, h_3, x_4⟩ hS
 replace hS : K.Sat w0 [g_1, l_2, gp, gl, fr] w := hS
 obtain ⟨hS_5, hM_6⟩ := (rdStep_good2 (by assumption) (by assumption) : (rdStep n t S.rd M).1.good ∧ (rdStep n t S.rd M).2.good)
 cases hb_7 : (rdStep n t S.rd M).1.done
 ·
  refine K.q [.bool true, .bool true] (K.z (K.t (K.h (K.k ?_))))
  refine K.blk_normal ?_
  have e : skStep c n t S M = _ := skS1 hd hm
  rw [show skFirst c S (rdStep n t S.rd M).1 = skRd S (rdStep n t S.rd M).1 from if_neg (by rw [hb_7]; decide)] at e
  refine ⟨.inl rfl, rfl, (.tuple #[]), K.res0 rfl, [gp, g_1, gl, l_2], ?_, hS.pick [2, 0, 3, 1, 4]⟩
  exact ⟨.func (.func 121) [.pointer (some ⟨p, 0, none⟩)].toArray [].toArray, ((some ⟨r, 0, none⟩)), (sa), _, _, _, rfl, rfl, by rw [e]; exact hgp, by rw [e]; exact .inr (.inl ⟨hd, hm, rfl, r, rfl, h_3⟩), by rw [e]; exact x_4⟩
 ·
  refine K.q [.bool false, .bool false] (K.z (K.t (K.f (K.s (K.g (K.q [.pointer (some ⟨p, 0, none⟩), .pointer (some ⟨p, 0, none⟩), .pointer (some ⟨p, 5, none⟩)] ?_))))))
  refine K.d (.pointer (some ⟨r, 0, none⟩)) ((hS.blk 2 rfl hgp).cell rfl) ?_
  refine K.l (K.OW.gcall hS [0] [1, 2, 3, 4] [.pointer (some ⟨r, 0, none⟩)] (rdWord_ok _ _ (rdStep n t S.rd M).1 _ h_3) ?_)
  clear hS; rintro _ _ w ⟨rfl, rfl⟩ hS
  replace hS : K.Sat w0 [g_1, l_2, gp, gl, fr] w := hS
  refine K.l (K.OW.gcall hS [] [0, 1, 2, 3, 4] [.int .u64 (rdWord (rdStep n t S.rd M).1)] (by_ok _ (rdWord (rdStep n t S.rd M).1) (by first | assumption | exact rdWord_w (by assumption) | exact isL.w (by assumption) | exact linkI_w _ _ | (unfold isW; omega))) ?_)
  clear hS; rintro _ _ w ⟨rfl, rfl⟩ hS
  replace hS : K.Sat w0 [g_1, l_2, gp, gl, fr] w := hS
  by_cases h_8 : ((byI (rdWord (rdStep n t S.rd M).1)) : Int) = ((-1) : Int)
  ·
   refine K.xn ((byI (rdWord (rdStep n t S.rd M).1)) : Int) ((-1) : Int) h_8 ?_
   refine K.q [.bool false] (K.z (K.t (K.f ?_)))
   refine K.KW.gdrawn [2] hS (by kernel_rfl) ?_
   clear hS; intro w hS
   refine K.p 0 rfl (.pointer (some ⟨p, 0, none⟩)) (hS.pick [2]) ?_
   refine K.p 1 rfl (.pointer (some ⟨p, 0, none⟩)) (hS.pick [2]) ?_
   refine K.p 2 rfl (.pointer (some ⟨p, 0, none⟩)) (hS.pick [2]) ?_
   refine K.p 3 rfl (.pointer (some ⟨p, 5, none⟩)) (hS.pick [2]) ?_
   refine K.o_ 4 rfl (.pointer (some ⟨r, 0, none⟩)) (fun w hS => ((hS.blk 0 rfl hgp).cell rfl)) (hS.pick [2]) ?_
   refine K.p 6 rfl (.pointer (some ⟨p, 0, none⟩)) (hS.pick [2]) ?_
   refine K.p 7 rfl (.pointer (some ⟨p, 0, none⟩)) (hS.pick [2]) ?_
   refine K.p 8 rfl (.pointer (some ⟨p, 5, none⟩)) (hS.pick [2]) ?_
   refine K.o_ 9 rfl (.pointer (some ⟨r, 0, none⟩)) (fun w hS => ((hS.blk 0 rfl hgp).cell rfl)) (hS.pick [2]) ?_
   refine K.DW.l 5 rfl (by kernel_rfl) rfl (K.OW.gcall hS [0] [1, 2, 3, 4] [.pointer (some ⟨r, 0, none⟩)] (rdWord_ok _ _ (rdStep n t S.rd M).1 _ h_3) ?_)
   clear hS; rintro _ _ w ⟨rfl, rfl⟩ hS
   replace hS : K.Sat w0 [g_1, l_2, gp, gl, fr] w := hS
   refine ⟨.inl (hS.pick [2]), ?_⟩
   refine K.DW.l 10 rfl (by kernel_rfl) rfl (K.OW.gcall hS [0] [1, 2, 3, 4] [.pointer (some ⟨r, 0, none⟩)] (rdWhen_ok _ _ (rdStep n t S.rd M).1 _ h_3) ?_)
   clear hS; rintro _ _ w ⟨rfl, rfl⟩ hS
   replace hS : K.Sat w0 [g_1, l_2, gp, gl, fr] w := hS
   refine ⟨.inl (hS.pick [2]), ?_⟩
   refine K.DW.l 11 rfl (by kernel_rfl) rfl (K.OW.gcall hS [2, 3] [0, 1, 4] [.pointer (some ⟨p, 0, none⟩), .int .u64 (rdWord (rdStep n t S.rd M).1), .int .i64 (rdWhen (rdStep n t S.rd M).1)] (skOn_ok _ _ _ _ _ _ c hc (skRd S (rdStep n t S.rd M).1) _ _ hgp hgl hSt (rdWord (rdStep n t S.rd M).1) (rdWhen (rdStep n t S.rd M).1) (by first | assumption | exact rdWord_w (by assumption) | exact isL.w (by assumption) | exact linkI_w _ _ | (unfold isW; omega))) ?_)
   clear hS; rintro _ _ w ⟨rfl, (⟨g_9, rfl, k_10, h_11⟩ | ⟨g_12, r_13, q_14, rfl, k_15, h_16, e_17⟩)⟩ hS
   ·
    replace hS : K.Sat w0 [g_9, gl, g_1, l_2, fr] w := hS
    refine ⟨.inr (by kernel_rfl), ?_⟩
    refine K.DW.done (by kernel_rfl) ?_
    refine K.blk_normal ?_
    have e : skStep c n t S M = _ := skS1 hd hm
    rw [show skFirst c S (rdStep n t S.rd M).1 = (skOn c (skRd S (rdStep n t S.rd M).1) (rdWord (rdStep n t S.rd M).1) (rdWhen (rdStep n t S.rd M).1)) from by unfold skFirst; rw [if_pos hb_7, if_pos h_8]] at e
    refine ⟨.inl rfl, rfl, (.tuple #[]), K.res0 rfl, [g_9, g_1, gl, l_2], ?_, hS.pick [0, 2, 1, 3, 4]⟩
    exact ⟨.func (.func 121) [.pointer (some ⟨p, 0, none⟩)].toArray [].toArray, ((some ⟨r, 0, none⟩)), (sa), _, _, _, rfl, rfl, by rw [e]; exact h_11, by rw [e]; exact skOn_t1 k_10, by rw [e]; exact x_4⟩
   ·
    replace hS : K.Sat w0 [g_12, q_14, gl, g_1, l_2, fr] w := hS
    refine ⟨.inr (by kernel_rfl), ?_⟩
    refine K.DW.done (by kernel_rfl) ?_
    refine K.blk_normal ?_
    have e : skStep c n t S M = _ := skS1 hd hm
    rw [show skFirst c S (rdStep n t S.rd M).1 = (skOn c (skRd S (rdStep n t S.rd M).1) (rdWord (rdStep n t S.rd M).1) (rdWhen (rdStep n t S.rd M).1)) from by unfold skFirst; rw [if_pos hb_7, if_pos h_8]] at e
    refine ⟨.inl rfl, rfl, (.tuple #[]), K.res0 rfl, [g_12, q_14, gl, l_2], ?_, hS.pick [0, 1, 2, 4, 5]⟩
    exact ⟨.func (.func 188) [.pointer (some ⟨p, 0, none⟩)].toArray [].toArray, ((some ⟨r_13, 0, none⟩)), (sa), _, _, _, rfl, rfl, by rw [e]; exact h_16, by rw [e]; exact skOn_t2 k_15 hd e_17, by rw [e]; exact x_4⟩
  ·
   refine K.yn ((byI (rdWord (rdStep n t S.rd M).1)) : Int) ((-1) : Int) h_8 ?_
   refine K.q [.bool true] (K.z (K.t (K.h (K.g (K.q [.pointer (some ⟨p, 0, none⟩)] ?_)))))
   refine K.l (K.OW.gcall hS [2] [0, 1, 3, 4] [.pointer (some ⟨p, 0, none⟩)] (skBegin_ok _ _ _ _ _ _ (skRd S (rdStep n t S.rd M).1) _ hgp hSt hSh) ?_)
   clear hS; rintro _ _ w ⟨g_18, r_19, q_20, rfl, rfl, h_21, k_22⟩ hS
   replace hS : K.Sat w0 [g_18, q_20, g_1, l_2, gl, fr] w := hS
   refine K.z ?_
   refine K.blk_normal ?_
   have e : skStep c n t S M = _ := skS1 hd hm
   rw [show skFirst c S (rdStep n t S.rd M).1 = (skBegin (skRd S (rdStep n t S.rd M).1)) from by unfold skFirst; rw [if_pos hb_7, if_neg h_8]] at e
   refine ⟨.inl rfl, rfl, (.tuple #[]), K.res0 rfl, [g_18, q_20, gl, l_2], ?_, hS.pick [0, 1, 4, 3, 5]⟩
   exact ⟨.func (.func 121) [.pointer (some ⟨p, 0, none⟩)].toArray [].toArray, ((some ⟨r_19, 0, none⟩)), (sa), _, _, _, rfl, rfl, by rw [e]; exact h_21, by rw [e]; exact skBegin_t hd k_22, by rw [e]; exact x_4⟩
set_option maxHeartbeats 1000000 in
set_option maxRecDepth 100000 in
theorem skLinked_ok (w0 : World) (p b pm q n t : Nat) (r : Nat) (sa : Option Addr) (c : Cfg) (hc : cfgOk c) (S : SkS) (M : MemM) (gp gx gl l : K.Cs) (hgp : gp = skPt p b (skF 188 p) ((some ⟨r, 0, none⟩)) (sa) S) (hgx : gx = rdPt r S.rd) (hgl : gl = layPt b c) (x : MemAt l pm q n t M) (hM : M.good) (hS : S.good) (hd : S.done = false) (hm : S.mode = 2) :
  K.GC Tryz.prog w0 188 #[.pointer (some ⟨p, 0, none⟩), .pointer (some ⟨pm, 0, none⟩)] [gp, gx, gl, l] (fun v post => ∃ f' ra' sa' gp' g1 l', v = .tuple #[] ∧ post = [gp', g1, gl, l'] ∧ gp' = skPt p b f' ra' sa' (skStep c n t S M).1 ∧ SkTail p (skStep c n t S M).1 f' ra' sa' g1 ∧ MemAt l' pm q n t (skStep c n t S M).2) := by
 have hSt := hS.t; have hSh := hS.head; have hSk := hS.key; have hSp := hS.prev; have hSw := hS.word; have hSl := hS.link; have hSc := hS.curr; have hSrd := hS.rd; have hSse := hS.se; have hSf := hS.found hd
 refine K.GC.mk (n := 57) Tryz.func188 rfl rfl [.pointer (some ⟨p, 0, none⟩), .pointer (some ⟨pm, 0, none⟩)] rfl rfl ?_
 intro fr w hS
 replace hS : K.Sat w0 [gp, gx, gl, l, fr] w := hS
 refine K.s (K.s (K.g (K.q [.pointer (some ⟨p, 0, none⟩), .pointer (some ⟨p, 0, none⟩), .pointer (some ⟨p, 5, none⟩)] ?_)))
 refine K.d (.pointer (some ⟨r, 0, none⟩)) ((hS.blk 0 rfl hgp).cell rfl) ?_
 refine K.q [.pointer (some ⟨pm, 0, none⟩)] ?_
 refine K.l (K.OW.gcall hS [1, 3] [0, 2, 4] [.pointer (some ⟨r, 0, none⟩), .pointer (some ⟨pm, 0, none⟩)] (rdStep_ok _ _ _ _ _ _ S.rd M _ _ hgx x (by assumption) (by assumption)) ?_)
 clear hS; rintro _ _ w ⟨g_1, l_2, rfl, rfl, h_3, x_4⟩ hS
 replace hS : K.Sat w0 [g_1, l_2, gp, gl, fr] w := hS
 obtain ⟨hS_5, hM_6⟩ := (rdStep_good2 (by assumption) (by assumption) : (rdStep n t S.rd M).1.good ∧ (rdStep n t S.rd M).2.good)
 cases hb_7 : (rdStep n t S.rd M).1.done
 ·
  refine K.q [.bool true] (K.z (K.t (K.h (K.r (K.u ?_)))))
  have e : skStep c n t S M = _ := skS2 hd hm
  rw [show skLinked S (rdStep n t S.rd M).1 = skRd S (rdStep n t S.rd M).1 from if_neg (by rw [hb_7]; decide)] at e
  refine ⟨.inr rfl, rfl, (.tuple #[]), K.res0 rfl, [gp, g_1, gl, l_2], ?_, hS.pick [2, 0, 3, 1, 4]⟩
  exact ⟨.func (.func 188) [.pointer (some ⟨p, 0, none⟩)].toArray [].toArray, ((some ⟨r, 0, none⟩)), (sa), _, _, _, rfl, rfl, by rw [e]; exact hgp, by rw [e]; exact .inr (.inr (.inl ⟨hd, hm, rfl, r, rfl, h_3⟩)), by rw [e]; exact x_4⟩
 ·
  refine K.q [.bool false] (K.z (K.t (K.f (K.k (K.t (K.s (K.g (K.q [.pointer (some ⟨p, 0, none⟩), .pointer (some ⟨p, 0, none⟩), .pointer (some ⟨p, 0, none⟩), .pointer (some ⟨p, 5, none⟩)] ?_))))))))
  refine K.d (.pointer (some ⟨r, 0, none⟩)) ((hS.blk 2 rfl hgp).cell rfl) ?_
  refine K.l (K.OW.gcall hS [0] [1, 2, 3, 4] [.pointer (some ⟨r, 0, none⟩)] (rdWord_ok _ _ (rdStep n t S.rd M).1 _ h_3) ?_)
  clear hS; rintro _ _ w ⟨rfl, rfl⟩ hS
  replace hS : K.Sat w0 [g_1, l_2, gp, gl, fr] w := hS
  refine K.q [.pointer (some ⟨p, 0, none⟩), .pointer (some ⟨p, 13, none⟩)] ?_
  refine K.l (K.OW.gst 2 [.int .u64 (rdWord (rdStep n t S.rd M).1)] _ hS hgp ?_)
  clear hS; intro w g_8 hg_9 hS
  replace hS : K.Sat w0 [g_1, l_2, g_8, gl, fr] w := hS
  refine K.z (K.t (K.s (K.g (K.q [.pointer (some ⟨p, 0, none⟩), .pointer (some ⟨p, 0, none⟩)] ?_))))
  refine K.a (K.QR.fn [.pointer (some ⟨p, 0, none⟩)] [] rfl rfl rfl) ?_
  refine K.q [.pointer (some ⟨p, 0, none⟩), .pointer (some ⟨p, 4, none⟩)] ?_
  refine K.l (K.OW.gst 2 [.func (.func 198) [.pointer (some ⟨p, 0, none⟩)].toArray [].toArray] _ hS hg_9 ?_)
  clear hS; intro w g_10 hg_11 hS
  replace hS : K.Sat w0 [g_1, l_2, g_10, gl, fr] w := hS
  refine K.z (K.t (K.s (K.g (K.q [.pointer (some ⟨p, 0, none⟩), .pointer (some ⟨p, 0, none⟩), .pointer (some ⟨p, 13, none⟩)] ?_))))
  refine K.d (.int .u64 (rdWord (rdStep n t S.rd M).1)) ((hS.blk 2 rfl hg_11).cell rfl) ?_
  refine K.l (K.OW.gcall hS [] [0, 1, 2, 3, 4] [.int .u64 (rdWord (rdStep n t S.rd M).1)] (by_ok _ (rdWord (rdStep n t S.rd M).1) (by first | assumption | exact rdWord_w (by assumption) | exact isL.w (by assumption) | exact linkI_w _ _ | (unfold isW; omega))) ?_)
  clear hS; rintro _ _ w ⟨rfl, rfl⟩ hS
  replace hS : K.Sat w0 [g_1, l_2, g_10, gl, fr] w := hS
  by_cases h_12 : ((byI (rdWord (rdStep n t S.rd M).1)) : Int) = ((-1) : Int)
  ·
   refine K.xn ((byI (rdWord (rdStep n t S.rd M).1)) : Int) ((-1) : Int) h_12 ?_
   refine K.z (K.t (K.f (K.k ?_)))
   have e : skStep c n t S M = _ := skS2 hd hm
   rw [show skLinked S (rdStep n t S.rd M).1 = ⟨S.t, S.head, S.key, 4, S.done, S.found, S.prev, S.word, S.came, S.curr, rdWord (rdStep n t S.rd M).1, S.when_, (rdStep n t S.rd M).1, S.se⟩ from by unfold skLinked; rw [if_pos hb_7, if_pos h_12]] at e
   refine ⟨.inl rfl, rfl, (.tuple #[]), K.res0 rfl, [g_10, g_1, gl, l_2], ?_, hS.pick [2, 0, 3, 1, 4]⟩
   exact ⟨.func (.func 198) [.pointer (some ⟨p, 0, none⟩)].toArray [].toArray, ((some ⟨r, 0, none⟩)), (sa), _, _, _, rfl, rfl, by rw [e]; exact hg_11, by rw [e]; exact .inr (.inr (.inr (.inr ⟨hd, rfl, rfl, r, rfl, h_3⟩))), by rw [e]; exact x_4⟩
  ·
   refine K.yn ((byI (rdWord (rdStep n t S.rd M).1)) : Int) ((-1) : Int) h_12 ?_
   refine K.z (K.t (K.h (K.s ?_)))
   refine K.KW.gdrawn [2] hS (by kernel_rfl) ?_
   clear hS; intro w hS
   refine K.p 0 rfl (.pointer (some ⟨p, 0, none⟩)) (hS.pick [2]) ?_
   refine K.p 1 rfl (.pointer (some ⟨p, 0, none⟩)) (hS.pick [2]) ?_
   refine K.p 2 rfl (.pointer (some ⟨p, 0, none⟩)) (hS.pick [2]) ?_
   refine K.p 3 rfl (.pointer (some ⟨p, 1, none⟩)) (hS.pick [2]) ?_
   refine K.o_ 4 rfl (.int .i64 S.t) (fun w hS => ((hS.blk 0 rfl hg_11).cell rfl)) (hS.pick [2]) ?_
   refine K.p 5 rfl (.pointer (some ⟨p, 0, none⟩)) (hS.pick [2]) ?_
   refine K.p 6 rfl (.pointer (some ⟨p, 0, none⟩)) (hS.pick [2]) ?_
   refine K.p 7 rfl (.pointer (some ⟨p, 9, none⟩)) (hS.pick [2]) ?_
   refine K.o_ 8 rfl (.int .i64 S.prev) (fun w hS => ((hS.blk 0 rfl hg_11).cell rfl)) (hS.pick [2]) ?_
   refine K.p 9 rfl (.pointer (some ⟨p, 0, none⟩)) (hS.pick [2]) ?_
   refine K.p 10 rfl (.pointer (some ⟨p, 0, none⟩)) (hS.pick [2]) ?_
   refine K.p 11 rfl (.pointer (some ⟨p, 10, none⟩)) (hS.pick [2]) ?_
   refine K.o_ 12 rfl (.int .u64 S.word) (fun w hS => ((hS.blk 0 rfl hg_11).cell rfl)) (hS.pick [2]) ?_
   refine K.b 13 rfl (.pointer (some ⟨p, 0, none⟩)) (hS.pick [2]) ?_
   refine K.b 14 rfl (.pointer (some ⟨p, 0, none⟩)) (hS.pick [2]) ?_
   refine K.b 15 rfl (.pointer (some ⟨p, 13, none⟩)) (hS.pick [2]) ?_
   refine K.c 16 rfl (K.QR.ld1 (v := .int .u64 (rdWord (rdStep n t S.rd M).1)) rfl rfl (by kernel_rfl) ((hS.blk 2 rfl hg_11).cell rfl)) (hS.pick [2]) ?_
   refine K.DW.l 17 rfl (by kernel_rfl) rfl (K.OW.gcall hS [] [0, 1, 2, 3, 4] [.int .u64 (rdWord (rdStep n t S.rd M).1)] (to_ok _ (rdWord (rdStep n t S.rd M).1) (by first | assumption | exact rdWord_w (by assumption) | exact isL.w (by assumption) | exact linkI_w _ _ | (unfold isW; omega))) ?_)
   clear hS; rintro _ _ w ⟨rfl, rfl⟩ hS
   replace hS : K.Sat w0 [g_1, l_2, g_10, gl, fr] w := hS
   have hi_13 : isInt (toI (rdWord (rdStep n t S.rd M).1)) := toI_int _
   refine ⟨.inl (hS.pick [2]), ?_⟩
   refine K.DW.l 18 rfl (by kernel_rfl) rfl (K.OW.gcall hS [] [0, 1, 2, 3, 4] [.int .i64 (toI (rdWord (rdStep n t S.rd M).1)), .int .i64 (-1)] (link_ok _ (toI (rdWord (rdStep n t S.rd M).1)) ((-1) : Int) (by omega) (by omega)) ?_)
   clear hS; rintro _ _ w ⟨rfl, rfl⟩ hS
   replace hS : K.Sat w0 [g_1, l_2, g_10, gl, fr] w := hS
   have hw_14 : isW (linkI (toI (rdWord (rdStep n t S.rd M).1)) ((-1) : Int)) := linkI_w _ _
   refine ⟨.inl (hS.pick [2]), ?_⟩
   refine K.DW.l 19 rfl (by kernel_rfl) rfl (K.OW.gcall hS [] [0, 1, 2, 3, 4] [.int .i64 S.t, .int .i64 S.prev, .int .u64 S.word, .int .u64 (linkI (toI (rdWord (rdStep n t S.rd M).1)) ((-1) : Int))] (newse_ok _ S.t (by first | omega | assumption) S.prev (by first | omega | assumption) S.word (by first | assumption | exact isL.w (by assumption) | (unfold isW; omega) | exact rdWord_w (by assumption)) (linkI (toI (rdWord (rdStep n t S.rd M).1)) ((-1) : Int)) (by first | assumption | exact isL.w (by assumption) | (unfold isW; omega) | exact rdWord_w (by assumption))) ?_)
   clear hS; rintro _ _ w ⟨p_15, g_16, rfl, rfl, h_17⟩ hS
   replace hS : K.Sat w0 [g_16, g_1, l_2, g_10, gl, fr] w := hS
   have hS_18 : SeS.good (⟨S.t, S.prev, 0, (cleanI (linkI (toI (rdWord (rdStep n t S.rd M).1)) ((-1) : Int))), -1, (cleanI S.word), false, 0⟩ : SeS) := seInit (by omega) (by omega)
   refine ⟨.inl (hS.pick [3]), ?_⟩
   refine K.b 20 rfl (.pointer (some ⟨p, 0, none⟩)) (hS.pick [3]) ?_
   refine K.b 21 rfl (.pointer (some ⟨p, 6, none⟩)) (hS.pick [3]) ?_
   refine K.DW.l 22 rfl (by kernel_rfl) rfl (K.OW.gst 3 [.pointer (some ⟨p_15, 0, none⟩)] _ hS hg_11 ?_)
   clear hS; intro w g_19 hg_20 hS
   replace hS : K.Sat w0 [g_16, g_1, l_2, g_19, gl, fr] w := hS
   refine ⟨.inr (by kernel_rfl), ?_⟩
   refine K.DW.done (by kernel_rfl) ?_
   refine K.t (K.g (K.q [.pointer (some ⟨p, 0, none⟩), .pointer (some ⟨p, 0, none⟩)] ?_))
   refine K.a (K.QR.fn [.pointer (some ⟨p, 0, none⟩)] [] rfl rfl rfl) ?_
   refine K.q [.pointer (some ⟨p, 0, none⟩), .pointer (some ⟨p, 4, none⟩)] ?_
   refine K.l (K.OW.gst 3 [.func (.func 200) [.pointer (some ⟨p, 0, none⟩)].toArray [].toArray] _ hS hg_20 ?_)
   clear hS; intro w g_21 hg_22 hS
   replace hS : K.Sat w0 [g_16, g_1, l_2, g_21, gl, fr] w := hS
   refine K.z ?_
   have e : skStep c n t S M = _ := skS2 hd hm
   rw [show skLinked S (rdStep n t S.rd M).1 = ⟨S.t, S.head, S.key, 3, S.done, S.found, S.prev, S.word, S.came, S.curr, rdWord (rdStep n t S.rd M).1, S.when_, (rdStep n t S.rd M).1, ⟨S.t, S.prev, 0, cleanI (linkI (toI (rdWord (rdStep n t S.rd M).1)) (-1)), -1, cleanI S.word, false, 0⟩⟩ from by unfold skLinked; rw [if_pos hb_7, if_neg h_12]] at e
   refine ⟨.inl rfl, rfl, (.tuple #[]), K.res0 rfl, [g_21, g_16, gl, l_2], ?_, hS.pick [3, 0, 4, 2, 5]⟩
   exact ⟨.func (.func 200) [.pointer (some ⟨p, 0, none⟩)].toArray [].toArray, ((some ⟨r, 0, none⟩)), ((some ⟨p_15, 0, none⟩)), _, _, _, rfl, rfl, by rw [e]; exact hg_22, by rw [e]; exact .inr (.inr (.inr (.inl ⟨hd, rfl, rfl, _, rfl, h_17⟩))), by rw [e]; exact x_4⟩
set_option maxHeartbeats 1000000 in
set_option maxRecDepth 100000 in
theorem skUnl_ok (w0 : World) (p b pm q n t : Nat) (qs : Nat) (ra : Option Addr) (c : Cfg) (hc : cfgOk c) (S : SkS) (M : MemM) (gp gx gl l : K.Cs) (hgp : gp = skPt p b (skF 200 p) (ra) ((some ⟨qs, 0, none⟩)) S) (hgx : gx = sePt qs S.se) (hgl : gl = layPt b c) (x : MemAt l pm q n t M) (hM : M.good) (hS : S.good) (hd : S.done = false) (hm : S.mode = 3) :
  K.GC Tryz.prog w0 200 #[.pointer (some ⟨p, 0, none⟩), .pointer (some ⟨pm, 0, none⟩)] [gp, gx, gl, l] (fun v post => ∃ f' ra' sa' gp' g1 l', v = .tuple #[] ∧ post = [gp', g1, gl, l'] ∧ gp' = skPt p b f' ra' sa' (skStep c n t S M).1 ∧ SkTail p (skStep c n t S M).1 f' ra' sa' g1 ∧ MemAt l' pm q n t (skStep c n t S M).2) := by
 have hSt := hS.t; have hSh := hS.head; have hSk := hS.key; have hSp := hS.prev; have hSw := hS.word; have hSl := hS.link; have hSc := hS.curr; have hSrd := hS.rd; have hSse := hS.se; have hSf := hS.found hd
 refine K.GC.mk (n := 33) Tryz.func200 rfl rfl [.pointer (some ⟨p, 0, none⟩), .pointer (some ⟨pm, 0, none⟩)] rfl rfl ?_
 intro fr w hS
 replace hS : K.Sat w0 [gp, gx, gl, l, fr] w := hS
 refine K.KW.block ?_
 refine K.s (K.g (K.q [.pointer (some ⟨p, 0, none⟩), .pointer (some ⟨p, 0, none⟩), .pointer (some ⟨p, 6, none⟩)] ?_))
 refine K.d (.pointer (some ⟨qs, 0, none⟩)) ((hS.blk 0 rfl hgp).cell rfl) ?_
 refine K.q [.pointer (some ⟨pm, 0, none⟩)] ?_
 refine K.l (K.OW.gcall hS [1, 3] [0, 2, 4] [.pointer (some ⟨qs, 0, none⟩), .pointer (some ⟨pm, 0, none⟩)] (seStep_ok _ _ _ _ _ _ S.se M _ _ hgx x (by assumption) (by assumption)) ?_)
 clear hS; rintro _ _ w ⟨g_1, l_2, rfl, rfl, h_3, x_4⟩ hS
 replace hS : K.Sat w0 [g_1, l_2, gp, gl, fr] w := hS
 obtain ⟨hS_5, hM_6⟩ := (seStep_good (by assumption) (by assumption) : (seStep n t S.se M).1.good ∧ (seStep n t S.se M).2.good)
 cases hb_7 : (seStep n t S.se M).1.done
 ·
  refine K.q [.bool true, .bool true] (K.z (K.t (K.h (K.k ?_))))
  refine K.blk_normal ?_
  have e : skStep c n t S M = _ := skS3 hd hm
  rw [show skUnl c S (seStep n t S.se M).1 = skSe S (seStep n t S.se M).1 from if_neg (by rw [hb_7]; decide)] at e
  refine ⟨.inl rfl, rfl, (.tuple #[]), K.res0 rfl, [gp, g_1, gl, l_2], ?_, hS.pick [2, 0, 3, 1, 4]⟩
  exact ⟨.func (.func 200) [.pointer (some ⟨p, 0, none⟩)].toArray [].toArray, (ra), ((some ⟨qs, 0, none⟩)), _, _, _, rfl, rfl, by rw [e]; exact hgp, by rw [e]; exact .inr (.inr (.inr (.inl ⟨hd, hm, rfl, qs, rfl, h_3⟩))), by rw [e]; exact x_4⟩
 ·
  refine K.q [.bool false, .bool false] (K.z (K.t (K.f (K.s (K.g (K.q [.pointer (some ⟨p, 0, none⟩), .pointer (some ⟨p, 0, none⟩), .pointer (some ⟨p, 6, none⟩)] ?_))))))
  refine K.d (.pointer (some ⟨qs, 0, none⟩)) ((hS.blk 2 rfl hgp).cell rfl) ?_
  refine K.l (K.OW.gcall hS [0] [1, 2, 3, 4] [.pointer (some ⟨qs, 0, none⟩)] (sePut_ok _ _ (seStep n t S.se M).1 _ h_3) ?_)
  clear hS; rintro _ _ w ⟨rfl, rfl⟩ hS
  replace hS : K.Sat w0 [g_1, l_2, gp, gl, fr] w := hS
  cases hb_8 : (seStep n t S.se M).1.put
  ·
   refine K.q [.bool false] (K.z (K.t (K.f (K.g (K.q [.pointer (some ⟨p, 0, none⟩)] ?_)))))
   refine K.l (K.OW.gcall hS [2] [0, 1, 3, 4] [.pointer (some ⟨p, 0, none⟩)] (skBegin_ok _ _ _ _ _ _ (skSe S (seStep n t S.se M).1) _ hgp hSt hSh) ?_)
   clear hS; rintro _ _ w ⟨g_9, r_10, q_11, rfl, rfl, h_12, k_13⟩ hS
   replace hS : K.Sat w0 [g_9, q_11, g_1, l_2, gl, fr] w := hS
   refine K.z ?_
   refine K.blk_normal ?_
   have e : skStep c n t S M = _ := skS3 hd hm
   rw [show skUnl c S (seStep n t S.se M).1 = (skBegin (skSe S (seStep n t S.se M).1)) from by unfold skUnl; rw [if_pos hb_7, if_neg (by rw [hb_8]; decide)]] at e
   refine ⟨.inl rfl, rfl, (.tuple #[]), K.res0 rfl, [g_9, q_11, gl, l_2], ?_, hS.pick [0, 1, 4, 3, 5]⟩
   exact ⟨.func (.func 121) [.pointer (some ⟨p, 0, none⟩)].toArray [].toArray, ((some ⟨r_10, 0, none⟩)), ((some ⟨qs, 0, none⟩)), _, _, _, rfl, rfl, by rw [e]; exact h_12, by rw [e]; exact skBegin_t hd k_13, by rw [e]; exact x_4⟩
  ·
   refine K.q [.bool true] (K.z (K.t (K.h ?_)))
   refine K.KW.gdrawn [2] hS (by kernel_rfl) ?_
   clear hS; intro w hS
   refine K.p 0 rfl (.pointer (some ⟨p, 0, none⟩)) (hS.pick [2]) ?_
   refine K.p 1 rfl (.pointer (some ⟨p, 0, none⟩)) (hS.pick [2]) ?_
   refine K.p 2 rfl (.pointer (some ⟨p, 0, none⟩)) (hS.pick [2]) ?_
   refine K.p 3 rfl (.pointer (some ⟨p, 13, none⟩)) (hS.pick [2]) ?_
   refine K.o_ 4 rfl (.int .u64 S.link) (fun w hS => ((hS.blk 0 rfl hgp).cell rfl)) (hS.pick [2]) ?_
   refine K.p 7 rfl (.pointer (some ⟨p, 0, none⟩)) (hS.pick [2]) ?_
   refine K.p 8 rfl (.pointer (some ⟨p, 0, none⟩)) (hS.pick [2]) ?_
   refine K.p 9 rfl (.pointer (some ⟨p, 6, none⟩)) (hS.pick [2]) ?_
   refine K.o_ 10 rfl (.pointer (some ⟨qs, 0, none⟩)) (fun w hS => ((hS.blk 0 rfl hgp).cell rfl)) (hS.pick [2]) ?_
   refine K.DW.l 5 rfl (by kernel_rfl) rfl (K.OW.gcall hS [] [0, 1, 2, 3, 4] [.int .u64 S.link] (to_ok _ S.link (by first | assumption | exact rdWord_w (by assumption) | exact isL.w (by assumption) | exact linkI_w _ _ | (unfold isW; omega))) ?_)
   clear hS; rintro _ _ w ⟨rfl, rfl⟩ hS
   replace hS : K.Sat w0 [g_1, l_2, gp, gl, fr] w := hS
   have hi_14 : isInt (toI S.link) := toI_int _
   refine ⟨.inl (hS.pick [2]), ?_⟩
   refine K.DW.l 6 rfl (by kernel_rfl) rfl (K.OW.gcall hS [] [0, 1, 2, 3, 4] [.int .i64 (toI S.link), .int .i64 (-1)] (link_ok _ (toI S.link) ((-1) : Int) (by omega) (by omega)) ?_)
   clear hS; rintro _ _ w ⟨rfl, rfl⟩ hS
   replace hS : K.Sat w0 [g_1, l_2, gp, gl, fr] w := hS
   have hw_15 : isW (linkI (toI S.link) ((-1) : Int)) := linkI_w _ _
   refine ⟨.inl (hS.pick [2]), ?_⟩
   refine K.DW.l 11 rfl (by kernel_rfl) rfl (K.OW.gcall hS [0] [1, 2, 3, 4] [.pointer (some ⟨qs, 0, none⟩)] (seWhen_ok _ _ (seStep n t S.se M).1 _ h_3) ?_)
   clear hS; rintro _ _ w ⟨rfl, rfl⟩ hS
   replace hS : K.Sat w0 [g_1, l_2, gp, gl, fr] w := hS
   refine ⟨.inl (hS.pick [2]), ?_⟩
   refine K.DW.l 12 rfl (by kernel_rfl) rfl (K.OW.gcall hS [2, 3] [0, 1, 4] [.pointer (some ⟨p, 0, none⟩), .int .u64 (linkI (toI S.link) ((-1) : Int)), .int .i64 ((seStep n t S.se M).1.when_)] (skOn_ok _ _ _ _ _ _ c hc (skSe S (seStep n t S.se M).1) _ _ hgp hgl hSt (linkI (toI S.link) ((-1) : Int)) ((seStep n t S.se M).1.when_) (by first | assumption | exact rdWord_w (by assumption) | exact isL.w (by assumption) | exact linkI_w _ _ | (unfold isW; omega))) ?_)
   clear hS; rintro _ _ w ⟨rfl, (⟨g_16, rfl, k_17, h_18⟩ | ⟨g_19, r_20, q_21, rfl, k_22, h_23, e_24⟩)⟩ hS
   ·
    replace hS : K.Sat w0 [g_16, gl, g_1, l_2, fr] w := hS
    refine ⟨.inr (by kernel_rfl), ?_⟩
    refine K.DW.done (by kernel_rfl) ?_
    refine K.blk_normal ?_
    have e : skStep c n t S M = _ := skS3 hd hm
    rw [show skUnl c S (seStep n t S.se M).1 = (skOn c (skSe S (seStep n t S.se M).1) (linkI (toI S.link) ((-1) : Int)) ((seStep n t S.se M).1.when_)) from by unfold skUnl; rw [if_pos hb_7, if_pos hb_8]] at e
    refine ⟨.inl rfl, rfl, (.tuple #[]), K.res0 rfl, [g_16, g_1, gl, l_2], ?_, hS.pick [0, 2, 1, 3, 4]⟩
    exact ⟨.func (.func 200) [.pointer (some ⟨p, 0, none⟩)].toArray [].toArray, (ra), ((some ⟨qs, 0, none⟩)), _, _, _, rfl, rfl, by rw [e]; exact h_18, by rw [e]; exact skOn_t1 k_17, by rw [e]; exact x_4⟩
   ·
    replace hS : K.Sat w0 [g_19, q_21, gl, g_1, l_2, fr] w := hS
    refine ⟨.inr (by kernel_rfl), ?_⟩
    refine K.DW.done (by kernel_rfl) ?_
    refine K.blk_normal ?_
    have e : skStep c n t S M = _ := skS3 hd hm
    rw [show skUnl c S (seStep n t S.se M).1 = (skOn c (skSe S (seStep n t S.se M).1) (linkI (toI S.link) ((-1) : Int)) ((seStep n t S.se M).1.when_)) from by unfold skUnl; rw [if_pos hb_7, if_pos hb_8]] at e
    refine ⟨.inl rfl, rfl, (.tuple #[]), K.res0 rfl, [g_19, q_21, gl, l_2], ?_, hS.pick [0, 1, 2, 4, 5]⟩
    exact ⟨.func (.func 188) [.pointer (some ⟨p, 0, none⟩)].toArray [].toArray, ((some ⟨r_20, 0, none⟩)), ((some ⟨qs, 0, none⟩)), _, _, _, rfl, rfl, by rw [e]; exact h_23, by rw [e]; exact skOn_t2 k_22 hd e_24, by rw [e]; exact x_4⟩
set_option maxHeartbeats 1000000 in
set_option maxRecDepth 100000 in
theorem skKeyed_ok (w0 : World) (p b pm q n t : Nat) (r : Nat) (sa : Option Addr) (c : Cfg) (hc : cfgOk c) (S : SkS) (M : MemM) (gp gx gl l : K.Cs) (hgp : gp = skPt p b (skF 198 p) ((some ⟨r, 0, none⟩)) (sa) S) (hgx : gx = rdPt r S.rd) (hgl : gl = layPt b c) (x : MemAt l pm q n t M) (hM : M.good) (hS : S.good) (hd : S.done = false) (hm : S.mode = 4) :
  K.GC Tryz.prog w0 198 #[.pointer (some ⟨p, 0, none⟩), .pointer (some ⟨pm, 0, none⟩)] [gp, gx, gl, l] (fun v post => ∃ f' ra' sa' gp' g1 l', v = .tuple #[] ∧ post = [gp', g1, gl, l'] ∧ gp' = skPt p b f' ra' sa' (skStep c n t S M).1 ∧ SkTail p (skStep c n t S M).1 f' ra' sa' g1 ∧ MemAt l' pm q n t (skStep c n t S M).2) := by
 have hSt := hS.t; have hSh := hS.head; have hSk := hS.key; have hSp := hS.prev; have hSw := hS.word; have hSl := hS.link; have hSc := hS.curr; have hSrd := hS.rd; have hSse := hS.se; have hSf := hS.found hd
 refine K.GC.mk (n := 82) Tryz.func198 rfl rfl [.pointer (some ⟨p, 0, none⟩), .pointer (some ⟨pm, 0, none⟩)] rfl rfl ?_
 intro fr w hS
 replace hS : K.Sat w0 [gp, gx, gl, l, fr] w := hS
 refine K.s ?_
 refine K.KW.gdrawn [0] hS (by kernel_rfl) ?_
 clear hS; intro w hS
 refine K.p 0 rfl (.pointer (some ⟨pm, 0, none⟩)) (hS.pick [0]) ?_
 refine K.p 1 rfl (.pointer (some ⟨p, 0, none⟩)) (hS.pick [0]) ?_
 refine K.p 2 rfl (.pointer (some ⟨p, 0, none⟩)) (hS.pick [0]) ?_
 refine K.p 3 rfl (.pointer (some ⟨p, 1, none⟩)) (hS.pick [0]) ?_
 refine K.o_ 4 rfl (.int .i64 S.t) (fun w hS => ((hS.blk 0 rfl hgp).cell rfl)) (hS.pick [0]) ?_
 refine K.p 5 rfl (.pointer (some ⟨p, 0, none⟩)) (hS.pick [0]) ?_
 refine K.p 6 rfl (.pointer (some ⟨p, 0, none⟩)) (hS.pick [0]) ?_
 refine K.p 7 rfl (.pointer (some ⟨p, 0, none⟩)) (hS.pick [0]) ?_
 refine K.o_ 8 rfl (.pointer (some ⟨b, 0, none⟩)) (fun w hS => ((hS.blk 0 rfl hgp).cell rfl)) (hS.pick [0]) ?_
 refine K.b 9 rfl (.pointer (some ⟨p, 0, none⟩)) (hS.pick [0]) ?_
 refine K.b 10 rfl (.pointer (some ⟨p, 0, none⟩)) (hS.pick [0]) ?_
 refine K.b 11 rfl (.pointer (some ⟨p, 12, none⟩)) (hS.pick [0]) ?_
 refine K.c 12 rfl (K.QR.ld1 (v := .int .i64 S.curr) rfl rfl (by kernel_rfl) ((hS.blk 0 rfl hgp).cell rfl)) (hS.pick [0]) ?_
 refine K.DW.l 13 rfl (by kernel_rfl) rfl (K.OW.kcall hS [.pointer (some ⟨b, 0, none⟩), .int .i64 S.curr] (lKey _ c S.curr _ (by assumption) (hS.blk 2 rfl hgl)) ?_)
 rintro _ w ⟨rfl, c_1⟩
 replace hS := hS.no c_1
 have hi_2 : isInt (keyS c S.curr) := key_int (by assumption) _
 refine ⟨.inl (hS.pick [0]), ?_⟩
 refine K.DW.l 14 rfl (by kernel_rfl) rfl (K.OW.gcall hS [3] [0, 1, 2, 4] [.pointer (some ⟨pm, 0, none⟩), .int .i64 S.t, .int .i64 (keyS c S.curr)] (mLoad_ok _ _ _ _ _ _ _ x S.t (keyS c S.curr) (by first | omega | assumption | exact next_int (by assumption) _ | exact key_int (by assumption) _ | exact aft_int (by assumption) _ | exact ann_int (by assumption) _ (by omega)) ) ?_)
 clear hS; rintro _ _ w ⟨l_3, rfl, rfl, x_4⟩ hS
 replace hS : K.Sat w0 [l_3, gp, gx, gl, fr] w := hS
 have hw_5 : isW (M.accL n S.t (keyS c S.curr)).2.old := (accL_good (by assumption)).2
 refine ⟨.inl (hS.pick [1]), ?_⟩
 refine K.c 15 rfl (K.QR.nice (v := .int .u32 (IntKind.u32.wrap ((M.accL n S.t (keyS c S.curr)).2.old))) (by kernel_rfl) (congrArg (Value.int .u32) (wrap32u _))) (hS.pick [1]) ?_
 refine K.b 16 rfl (.int .u32 ((M.accL n S.t (keyS c S.curr)).2.old % 4294967296)) (hS.pick [1]) ?_
 refine K.DW.done (by kernel_rfl) ?_
 refine K.t ?_
 refine K.KW.block ?_
 refine K.s (K.g (K.q [.int .u32 ((M.accL n S.t (keyS c S.curr)).2.old % 4294967296), .pointer (some ⟨p, 0, none⟩), .pointer (some ⟨p, 0, none⟩), .pointer (some ⟨p, 3, none⟩)] ?_))
 refine K.d (.int .u32 S.key) ((hS.blk 1 rfl hgp).cell rfl) ?_
 by_cases h_6 : (((M.accL n S.t (keyS c S.curr)).2.old % 4294967296) : Int) < (S.key : Int)
 ·
  refine K.y ((((M.accL n S.t (keyS c S.curr)).2.old % 4294967296) : Int) < (S.key : Int)) h_6 ?_
  refine K.q [.bool true] (K.z (K.t (K.h (K.s ?_))))
  refine K.KW.gdrawn [1] hS (by kernel_rfl) ?_
  clear hS; intro w hS
  refine K.p 0 rfl (.pointer (some ⟨p, 0, none⟩)) (hS.pick [1]) ?_
  refine K.p 1 rfl (.pointer (some ⟨p, 0, none⟩)) (hS.pick [1]) ?_
  refine K.p 2 rfl (.pointer (some ⟨p, 0, none⟩)) (hS.pick [1]) ?_
  refine K.p 3 rfl (.pointer (some ⟨p, 0, none⟩)) (hS.pick [1]) ?_
  refine K.o_ 4 rfl (.pointer (some ⟨b, 0, none⟩)) (fun w hS => ((hS.blk 0 rfl hgp).cell rfl)) (hS.pick [1]) ?_
  refine K.b 5 rfl (.pointer (some ⟨p, 0, none⟩)) (hS.pick [1]) ?_
  refine K.b 6 rfl (.pointer (some ⟨p, 0, none⟩)) (hS.pick [1]) ?_
  refine K.b 7 rfl (.pointer (some ⟨p, 12, none⟩)) (hS.pick [1]) ?_
  refine K.c 8 rfl (K.QR.ld1 (v := .int .i64 S.curr) rfl rfl (by kernel_rfl) ((hS.blk 1 rfl hgp).cell rfl)) (hS.pick [1]) ?_
  refine K.DW.l 9 rfl (by kernel_rfl) rfl (K.OW.kcall hS [.pointer (some ⟨b, 0, none⟩), .int .i64 S.curr] (lNext _ c S.curr _ (by assumption) (hS.blk 3 rfl hgl)) ?_)
  rintro _ w ⟨rfl, c_7⟩
  replace hS := hS.no c_7
  have hi_8 : isInt (nextS c S.curr) := next_int (by assumption) _
  refine ⟨.inl (hS.pick [1]), ?_⟩
  refine K.b 10 rfl (.pointer (some ⟨p, 0, none⟩)) (hS.pick [1]) ?_
  refine K.b 11 rfl (.pointer (some ⟨p, 9, none⟩)) (hS.pick [1]) ?_
  refine K.DW.l 12 rfl (by kernel_rfl) rfl (K.OW.gst 1 [.int .i64 (nextS c S.curr)] _ hS hgp ?_)
  clear hS; intro w g_9 hg_10 hS
  replace hS : K.Sat w0 [l_3, g_9, gx, gl, fr] w := hS
  refine ⟨.inr (by kernel_rfl), ?_⟩
  refine K.DW.done (by kernel_rfl) ?_
  refine K.t ?_
  refine K.KW.gdrawn [1] hS (by kernel_rfl) ?_
  clear hS; intro w hS
  refine K.p 0 rfl (.pointer (some ⟨p, 0, none⟩)) (hS.pick [1]) ?_
  refine K.p 1 rfl (.pointer (some ⟨p, 0, none⟩)) (hS.pick [1]) ?_
  refine K.p 2 rfl (.pointer (some ⟨p, 0, none⟩)) (hS.pick [1]) ?_
  refine K.p 3 rfl (.pointer (some ⟨p, 13, none⟩)) (hS.pick [1]) ?_
  refine K.o_ 4 rfl (.int .u64 S.link) (fun w hS => ((hS.blk 0 rfl hg_10).cell rfl)) (hS.pick [1]) ?_
  refine K.b 5 rfl (.pointer (some ⟨p, 0, none⟩)) (hS.pick [1]) ?_
  refine K.b 6 rfl (.pointer (some ⟨p, 0, none⟩)) (hS.pick [1]) ?_
  refine K.b 7 rfl (.pointer (some ⟨p, 5, none⟩)) (hS.pick [1]) ?_
  refine K.c 8 rfl (K.QR.ld1 (v := .pointer (some ⟨r, 0, none⟩)) rfl rfl (by kernel_rfl) ((hS.blk 1 rfl hg_10).cell rfl)) (hS.pick [1]) ?_
  refine K.DW.l 9 rfl (by kernel_rfl) rfl (K.OW.gcall hS [2] [0, 1, 3, 4] [.pointer (some ⟨r, 0, none⟩)] (rdWhen_ok _ _ S.rd _ hgx) ?_)
  clear hS; rintro _ _ w ⟨rfl, rfl⟩ hS
  replace hS : K.Sat w0 [gx, l_3, g_9, gl, fr] w := hS
  refine ⟨.inl (hS.pick [2]), ?_⟩
  refine K.DW.l 10 rfl (by kernel_rfl) rfl (K.OW.gcall hS [2, 3] [0, 1, 4] [.pointer (some ⟨p, 0, none⟩), .int .u64 S.link, .int .i64 (rdWhen S.rd)] (skOn_ok _ _ _ _ _ _ c hc (skPrev S (nextS c S.curr)) _ _ hg_10 hgl hSt S.link (rdWhen S.rd) (by first | assumption | exact rdWord_w (by assumption) | exact isL.w (by assumption) | exact linkI_w _ _ | (unfold isW; omega))) ?_)
  clear hS; rintro _ _ w ⟨rfl, (⟨g_11, rfl, k_12, h_13⟩ | ⟨g_14, r_15, q_16, rfl, k_17, h_18, e_19⟩)⟩ hS
  ·
   replace hS : K.Sat w0 [g_11, gl, gx, l_3, fr] w := hS
   refine ⟨.inr (by kernel_rfl), ?_⟩
   refine K.DW.done (by kernel_rfl) ?_
   refine K.blk_normal ?_
   have e : skStep c n t S M = _ := skS4 hd hm
   rw [show skKeyed c S ((M.accL n S.t (keyS c S.curr)).2.old % 4294967296) = (skOn c (skPrev S (nextS c S.curr)) S.link (rdWhen S.rd)) from by unfold skKeyed; rw [if_pos h_6]] at e
   refine ⟨.inl rfl, rfl, (.tuple #[]), K.res0 rfl, [g_11, gx, gl, l_3], ?_, hS.pick [0, 2, 1, 3, 4]⟩
   exact ⟨.func (.func 198) [.pointer (some ⟨p, 0, none⟩)].toArray [].toArray, ((some ⟨r, 0, none⟩)), (sa), _, _, _, rfl, rfl, by rw [e]; exact h_13, by rw [e]; exact skOn_t1 k_12, by rw [e]; exact x_4⟩
  ·
   replace hS : K.Sat w0 [g_14, q_16, gl, gx, l_3, fr] w := hS
   refine ⟨.inr (by kernel_rfl), ?_⟩
   refine K.DW.done (by kernel_rfl) ?_
   refine K.blk_normal ?_
   have e : skStep c n t S M = _ := skS4 hd hm
   rw [show skKeyed c S ((M.accL n S.t (keyS c S.curr)).2.old % 4294967296) = (skOn c (skPrev S (nextS c S.curr)) S.link (rdWhen S.rd)) from by unfold skKeyed; rw [if_pos h_6]] at e
   refine ⟨.inl rfl, rfl, (.tuple #[]), K.res0 rfl, [g_14, q_16, gl, l_3], ?_, hS.pick [0, 1, 2, 4, 5]⟩
   exact ⟨.func (.func 188) [.pointer (some ⟨p, 0, none⟩)].toArray [].toArray, ((some ⟨r_15, 0, none⟩)), (sa), _, _, _, rfl, rfl, by rw [e]; exact h_18, by rw [e]; exact skOn_t2 k_17 hd e_19, by rw [e]; exact x_4⟩
 ·
  refine K.x ((((M.accL n S.t (keyS c S.curr)).2.old % 4294967296) : Int) < (S.key : Int)) h_6 ?_
  refine K.q [.bool false] (K.z (K.t (K.f (K.s (K.g (K.q [.int .u32 ((M.accL n S.t (keyS c S.curr)).2.old % 4294967296), .pointer (some ⟨p, 0, none⟩), .pointer (some ⟨p, 0, none⟩), .pointer (some ⟨p, 3, none⟩)] ?_))))))
  refine K.d (.int .u32 S.key) ((hS.blk 1 rfl hgp).cell rfl) ?_
  by_cases h_20 : (((M.accL n S.t (keyS c S.curr)).2.old % 4294967296) : Int) = (S.key : Int)
  ·
   refine K.ye (((M.accL n S.t (keyS c S.curr)).2.old % 4294967296) : Int) (S.key : Int) h_20 ?_
   refine K.q [.bool true] (K.z (K.t (K.h (K.g (K.q [.pointer (some ⟨p, 0, none⟩), .pointer (some ⟨p, 0, none⟩), .pointer (some ⟨p, 0, none⟩), .pointer (some ⟨p, 0, none⟩), .pointer (some ⟨p, 0, none⟩), .pointer (some ⟨p, 5, none⟩)] ?_)))))
   refine K.d (.pointer (some ⟨r, 0, none⟩)) ((hS.blk 1 rfl hgp).cell rfl) ?_
   refine K.l (K.OW.gcall hS [2] [0, 1, 3, 4] [.pointer (some ⟨r, 0, none⟩)] (rdWhen_ok _ _ S.rd _ hgx) ?_)
   clear hS; rintro _ _ w ⟨rfl, rfl⟩ hS
   replace hS : K.Sat w0 [gx, l_3, gp, gl, fr] w := hS
   refine K.q [.pointer (some ⟨p, 0, none⟩), .pointer (some ⟨p, 8, none⟩)] ?_
   refine K.l (K.OW.gst 2 [.bool true] _ hS hgp ?_)
   clear hS; intro w g_21 hg_22 hS
   replace hS : K.Sat w0 [gx, l_3, g_21, gl, fr] w := hS
   refine K.q [.pointer (some ⟨p, 0, none⟩), .pointer (some ⟨p, 14, none⟩)] ?_
   refine K.l (K.OW.gst 2 [.int .i64 (rdWhen S.rd)] _ hS hg_22 ?_)
   clear hS; intro w g_23 hg_24 hS
   replace hS : K.Sat w0 [gx, l_3, g_23, gl, fr] w := hS
   refine K.q [.pointer (some ⟨p, 0, none⟩), .pointer (some ⟨p, 7, none⟩)] ?_
   refine K.l (K.OW.gst 2 [.bool true] _ hS hg_24 ?_)
   clear hS; intro w g_25 hg_26 hS
   replace hS : K.Sat w0 [gx, l_3, g_25, gl, fr] w := hS
   refine K.z ?_
   refine K.blk_normal ?_
   have e : skStep c n t S M = _ := skS4 hd hm
   rw [show skKeyed c S ((M.accL n S.t (keyS c S.curr)).2.old % 4294967296) = ⟨S.t, S.head, S.key, S.mode, true, true, S.prev, S.word, S.came, S.curr, S.link, rdWhen S.rd, S.rd, S.se⟩ from by unfold skKeyed; rw [if_neg h_6, if_pos h_20]] at e
   refine ⟨.inl rfl, rfl, (.tuple #[]), K.res0 rfl, [g_25, gx, gl, l_3], ?_, hS.pick [2, 0, 3, 1, 4]⟩
   exact ⟨.func (.func 198) [.pointer (some ⟨p, 0, none⟩)].toArray [].toArray, ((some ⟨r, 0, none⟩)), (sa), _, _, _, rfl, rfl, by rw [e]; exact hg_26, by rw [e]; exact .inl rfl, by rw [e]; exact x_4⟩
  ·
   refine K.xe (((M.accL n S.t (keyS c S.curr)).2.old % 4294967296) : Int) (S.key : Int) h_20 ?_
   refine K.q [.bool false] (K.z (K.t (K.f (K.g (K.q [.pointer (some ⟨p, 0, none⟩), .pointer (some ⟨p, 0, none⟩), .pointer (some ⟨p, 0, none⟩), .pointer (some ⟨p, 0, none⟩), .pointer (some ⟨p, 11, none⟩)] ?_)))))
   refine K.d (.int .i64 S.came) ((hS.blk 1 rfl hgp).cell rfl) ?_
   refine K.q [.pointer (some ⟨p, 0, none⟩), .pointer (some ⟨p, 14, none⟩)] ?_
   refine K.l (K.OW.gst 1 [.int .i64 S.came] _ hS hgp ?_)
   clear hS; intro w g_27 hg_28 hS
   replace hS : K.Sat w0 [l_3, g_27, gx, gl, fr] w := hS
   refine K.q [.pointer (some ⟨p, 0, none⟩), .pointer (some ⟨p, 7, none⟩)] ?_
   refine K.l (K.OW.gst 1 [.bool true] _ hS hg_28 ?_)
   clear hS; intro w g_29 hg_30 hS
   replace hS : K.Sat w0 [l_3, g_29, gx, gl, fr] w := hS
   refine K.z ?_
   refine K.blk_normal ?_
   have hgf := hg_30
   rw [hSf] at hgf
   have e : skStep c n t S M = _ := skS4 hd hm
   rw [show skKeyed c S ((M.accL n S.t (keyS c S.curr)).2.old % 4294967296) = ⟨S.t, S.head, S.key, S.mode, true, false, S.prev, S.word, S.came, S.curr, S.link, S.came, S.rd, S.se⟩ from by unfold skKeyed; rw [if_neg h_6, if_neg h_20]] at e
   refine ⟨.inl rfl, rfl, (.tuple #[]), K.res0 rfl, [g_29, gx, gl, l_3], ?_, hS.pick [1, 2, 3, 0, 4]⟩
   exact ⟨.func (.func 198) [.pointer (some ⟨p, 0, none⟩)].toArray [].toArray, ((some ⟨r, 0, none⟩)), (sa), _, _, _, rfl, rfl, by rw [e]; exact hgf, by rw [e]; exact .inl rfl, by rw [e]; exact x_4⟩
end Go.Proofs.YtbfafebfkdbglaaGreat
