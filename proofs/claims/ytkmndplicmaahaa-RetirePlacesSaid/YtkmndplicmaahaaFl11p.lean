/- Layer 11: a log that is reserved and cancelled by one thread: Cancel, and plain laws. -/
import Derived.Test.YtkmndplicmaahaaFl11f
import Derived.Test.YtkmndplicmaahaaKn
namespace Go.Proofs.Ytkmndplicmaahaa
open Go.RowKit
set_option linter.unusedVariables false
attribute [local irreducible] K.KW K.RW K.DW K.OW K.QR K.KC
structure CanS where
 t : Int
 pc : Int
 place : Int
abbrev canPt (p b : Nat) (S : CanS) : K.Cs := [K.pt p 156 [.pointer (some ⟨b, 0, none⟩), .int .i64 S.t, .int .i64 S.pc, .int .i64 S.place]]
def CanS.good (S : CanS) : Prop := isInt S.t ∧ isInt S.place ∧ 0 ≤ S.pc ∧ S.pc ≤ 5
def CanS.done (S : CanS) : Bool := decide (S.pc = 5)
def canStep (c : Cfg) (n : Nat) (S : CanS) (M : MemM) : CanS × MemM :=
 if S.pc = 5 then (S, M) else (⟨S.t, 5, S.place⟩, (M.accS n S.t (logS c S.t S.place) 0).1)
theorem canStep_good {c : Cfg} {n : Nat} {S : CanS} {M : MemM} (hS : S.good) (hM : M.good) : (canStep c n S M).1.good ∧ (canStep c n S M).2.good := by
 unfold canStep
 split
 ·exact ⟨hS, hM⟩
 ·exact ⟨⟨hS.1, hS.2.1, (by decide : (0 : Int) ≤ 5 ∧ (5 : Int) ≤ 5)⟩, accS_good hM (by unfold isW; omega)⟩
theorem entry_none {s : Int} (h : 0 ≤ s ∧ s < 100) : entryI s (-1) = s + 1 := by unfold entryI; omega
theorem getD_set_if {L : List Int} {k q : Nat} {x : Int} (h : k < L.length) : (L.set k x).getD q 0 = if q = k then x else L.getD q 0 := by
 by_cases hq : q = k
 ·subst hq; rw [if_pos rfl]; simp [h]
 ·rw [if_neg hq]; simp [List.getD_eq_getElem?_getD, List.getElem?_set, Ne.symm hq]
/-- what stands in a thread's log -/
structure LogM (c : Cfg) (tt : Int) (L : List Int) (M : MemM) : Prop where
 ok : M.dev.ok (lns c).toNat c.th.toNat
 good : M.good
 len : (L.length : Int) = c.lo
 bd : ∀ k : Nat, 0 ≤ L.getD k 0 ∧ L.getD k 0 ≤ 30
 at_ : ∀ k : Nat, (k : Int) < c.lo → M.peek (lns c).toNat (logS c tt (k : Int)) = some (L.getD k 0)
theorem LogM.put {c : Cfg} (hc : cfgOk c) {tt x th : Int} {L : List Int} {M : MemM} {k : Nat} (ht : 0 ≤ tt ∧ tt < c.th) (hk : (k : Int) < c.lo) (hx : 0 ≤ x ∧ x ≤ 30) (I : LogM c tt L M) : LogM c tt (L.set k x) (M.accS (lns c).toNat th (logS c tt (k : Int)) x).1 := by
 have hin := log_at hc ht (k := (k : Int)) (by omega)
 have hl := I.len
 refine ⟨accS_ok I.ok, accS_good I.good (by unfold isW; omega), by simpa using I.len, fun q => ?_, fun q hq => ?_⟩
 ·rw [getD_set_if (by omega)]; split
  ·exact hx
  ·exact I.bd q
 ·rw [accS_pk I.ok.2.1 hin.2, getD_set_if (by omega)]
  have hin2 := log_at hc ht (k := (q : Int)) (by omega)
  by_cases hqk : q = k
  ·subst hqk; rw [if_pos rfl, if_pos rfl]
  ·rw [if_neg (by rw [hin.1, hin2.1]; omega), if_neg hqk]; exact I.at_ q hq
theorem LogM.same {c : Cfg} {tt : Int} {L : List Int} {M M' : MemM} (I : LogM c tt L M) (hok : M'.dev.ok (lns c).toNat c.th.toNat) (hg : M'.good) (hp : ∀ j, M'.peek (lns c).toNat j = M.peek (lns c).toNat j) : LogM c tt L M' :=
 ⟨hok, hg, I.len, I.bd, fun k hk => (hp _).trans (I.at_ k hk)⟩
theorem accF_ok {M : MemM} {n nt : Nat} {th i : Int} (h : M.dev.ok n nt) : (M.accF n nt th i).1.dev.ok n nt := by
 show (if decide _ = true then _ else M).dev.ok n nt
 split
 ·rename_i hd
  have hd := of_decide_eq_true hd
  exact h.mark (by omega)
 ·exact h
theorem accE_ok {M : MemM} {n nt : Nat} {th : Int} (h : M.dev.ok n nt) : (M.accE nt th).1.dev.ok n nt := by
 show (if decide _ = true then _ else M).dev.ok n nt
 split
 ·rename_i hd
  have hd := of_decide_eq_true hd
  exact h.fence (by omega)
 ·exact h
/-- w is the first empty place from k on, or -1 -/
def FZ (L : List Int) (lo : Int) (k : Nat) (w : Int) : Prop :=
 (w = -1 ∧ ∀ q : Nat, k ≤ q → (q : Int) < lo → ¬ L.getD q 0 = 0) ∨ ((k : Int) ≤ w ∧ w < lo ∧ L.getD w.toNat 0 = 0 ∧ ∀ q : Nat, k ≤ q → (q : Int) < w → ¬ L.getD q 0 = 0)
theorem FZ.start {L : List Int} {lo : Int} {k : Nat} (h : lo ≤ (k : Int)) : FZ L lo k (-1) := .inl ⟨rfl, fun q h1 h2 => absurd h2 (by omega)⟩
theorem FZ.take {L : List Int} {lo : Int} {k : Nat} (hk : (k : Int) < lo) (h0 : L.getD k 0 = 0) : FZ L lo k (k : Int) := .inr ⟨by omega, hk, by rw [show ((k : Int)).toNat = k by omega]; exact h0, fun q h1 h2 => absurd h2 (by omega)⟩
theorem FZ.keep {L : List Int} {lo w : Int} {k : Nat} (h0 : ¬ L.getD k 0 = 0) (h : FZ L lo (k + 1) w) : FZ L lo k w := by
 have ext : ∀ q : Nat, k ≤ q → (k + 1 ≤ q → ¬ L.getD q 0 = 0) → ¬ L.getD q 0 = 0 := fun q hq hh => by
  by_cases e : q = k
  ·subst e; exact h0
  ·exact hh (by omega)
 rcases h with ⟨h1, h2⟩ | ⟨h1, h2, h3, h4⟩
 ·exact .inl ⟨h1, fun q hq hl => ext q hq (fun hq2 => h2 q hq2 hl)⟩
 ·exact .inr ⟨by omega, h2, h3, fun q hq hl => ext q hq (fun hq2 => h4 q hq2 hl)⟩
/-- a Reserve, alone, behind i steps; w: the first empty place, or -1 -/
structure RInv (c : Cfg) (tt s : Int) (L : List Int) (w : Int) (i : Nat) (S : ResS) (M : MemM) : Prop where
 good : S.good
 t : S.t = tt
 slot : S.slot = s
 st : ((i : Int) < c.lo ∧ S.pc = 0 ∧ S.next = i ∧ (∀ q : Nat, q < i → ¬ L.getD q 0 = 0) ∧ LogM c tt L M)
  ∨ (0 ≤ w ∧ w < c.lo ∧ S.pc = 1 ∧ S.place = w ∧ (i : Int) = w + 1 ∧ LogM c tt L M)
  ∨ (0 ≤ w ∧ w < c.lo ∧ (S.pc = 2 ∧ (i : Int) = w + 2 ∨ S.pc = 3 ∧ (i : Int) = w + 3 ∨ S.pc = 5 ∧ (i : Int) ≥ w + 4) ∧ S.place = w ∧ LogM c tt (L.set w.toNat (s + 1)) M)
  ∨ (w = -1 ∧ c.lo ≤ i ∧ S.pc = 5 ∧ S.place = c.lo ∧ LogM c tt L M)
theorem RInv.mg {c : Cfg} {tt s w : Int} {L : List Int} {i : Nat} {S : ResS} {M : MemM} (I : RInv c tt s L w i S M) : M.good := by
 rcases I.st with h | h | h | h
 ·exact h.2.2.2.2.good
 ·exact h.2.2.2.2.2.good
 ·exact h.2.2.2.2.good
 ·exact h.2.2.2.2.good
theorem RInv.next {c : Cfg} {tt s w : Int} {L : List Int} {i : Nat} {S : ResS} {M : MemM} (hc : cfgOk c) (hlo : c.lo ≤ 8) (ht : 0 ≤ tt ∧ tt < c.th) (hs : 0 ≤ s ∧ s < 30) (hz : FZ L c.lo 0 w) (I : RInv c tt s L w i S M) :
  RInv c tt s L w (i + 1) (resStep c (lns c).toNat c.th.toNat S M).1 (resStep c (lns c).toNat c.th.toNat S M).2 := by
 have hM := I.mg
 obtain ⟨hg, hS, hsl, hst⟩ := I
 obtain ⟨hg', hm'⟩ := resStep_good hc (n := (lns c).toNat) (nt := c.th.toNat) hg hM
 have hc1 : 1 ≤ c.lo := by unfold cfgOk at hc; omega
 rcases hst with ⟨hi, hp, hx, hq, hL⟩ | ⟨hw0, hw, hp, hpl, hi, hL⟩ | ⟨hw0, hw, hp, hpl, hL⟩ | ⟨hw, hi, hp, hpl, hL⟩
 ·have hold : (reLd c (lns c).toNat S M).2.old = L.getD i 0 := by
   show (M.peek (lns c).toNat (logS c S.t S.next)).getD 0 = _
   rw [hS, hx, hL.at_ i hi]; rfl
  have e : resStep c (lns c).toNat c.th.toNat S M = relook c (lns c).toNat S M := by unfold resStep; rw [if_neg (by omega), if_pos hp]
  by_cases h0 : L.getD i 0 = 0
  ·have hwi : w = i := by
    rcases hz with ⟨_, h2⟩ | ⟨h1, h2, h3, h4⟩
    ·exact absurd h0 (h2 i (by omega) hi)
    ·have a1 : ¬ (i : Int) < w := fun hh => h4 i (by omega) hh h0
     have a2 : ¬ w < (i : Int) := fun hh => hq w.toNat (by omega) h3
     omega
   have e2 : relook c (lns c).toNat S M = (⟨S.t, 1, S.slot, S.next + 1, S.next⟩, (reLd c (lns c).toNat S M).1) := by unfold relook; rw [if_pos (by omega), if_pos (by rw [hold]; exact h0)]
   rw [e, e2] at hg' hm' ⊢
   exact ⟨hg', hS, hsl, .inr (.inl ⟨by omega, by omega, rfl, by show S.next = w; omega, by omega, hL.same hL.ok hm' (fun _ => rfl)⟩)⟩
  ·by_cases hlast : S.next + 1 = c.lo
   ·have e2 : relook c (lns c).toNat S M = (⟨S.t, 5, S.slot, S.next + 1, S.next + 1⟩, (reLd c (lns c).toNat S M).1) := by unfold relook; rw [if_pos (by omega), if_neg (by rw [hold]; exact h0), if_pos hlast]
    rw [e, e2] at hg' hm' ⊢
    have hw : w = -1 := by
     rcases hz with ⟨h1, _⟩ | ⟨h1, h2, h3, h4⟩
     ·exact h1
     ·exfalso
      by_cases hwi : w = i
      ·rw [hwi] at h3; exact h0 (by simpa using h3)
      ·exact hq w.toNat (by omega) h3
    exact ⟨hg', hS, hsl, .inr (.inr (.inr ⟨hw, by omega, rfl, hlast, hL.same hL.ok hm' (fun _ => rfl)⟩))⟩
   ·have e2 : relook c (lns c).toNat S M = (⟨S.t, S.pc, S.slot, S.next + 1, S.next⟩, (reLd c (lns c).toNat S M).1) := by unfold relook; rw [if_pos (by omega), if_neg (by rw [hold]; exact h0), if_neg hlast]
    rw [e, e2] at hg' hm' ⊢
    refine ⟨hg', hS, hsl, .inl ⟨by omega, hp, by show S.next + 1 = _; omega, fun q hq2 => ?_, hL.same hL.ok hm' (fun _ => rfl)⟩⟩
    by_cases hqi : q = i
    ·subst hqi; exact h0
    ·exact hq q (by omega)
 ·have e : resStep c (lns c).toNat c.th.toNat S M = (⟨S.t, 2, S.slot, S.next, S.place⟩, (M.accS (lns c).toNat S.t (logS c S.t S.place) (entryI S.slot (-1))).1) := by unfold resStep; rw [if_neg (by omega), if_neg (by omega), if_pos hp]
  rw [e] at hg' hm' ⊢
  refine ⟨hg', hS, hsl, .inr (.inr (.inl ⟨hw0, hw, .inl ⟨rfl, by omega⟩, hpl, ?_⟩))⟩
  have h1 := LogM.put hc (x := s + 1) (th := S.t) (k := w.toNat) ht (by omega) (by omega) hL
  rw [show ((w.toNat : Nat) : Int) = w by omega] at h1
  show LogM c tt _ (M.accS (lns c).toNat S.t (logS c S.t S.place) (entryI S.slot (-1))).1
  rw [hsl, entry_none (by omega), hpl, hS]
  rw [hS] at h1
  exact h1
 ·by_cases h5 : S.pc = 5
  ·have e : resStep c (lns c).toNat c.th.toNat S M = (S, M) := by unfold resStep; rw [if_pos h5]
   rw [e]
   exact ⟨hg, hS, hsl, .inr (.inr (.inl ⟨hw0, hw, .inr (.inr ⟨h5, by omega⟩), hpl, hL⟩))⟩
  ·have e : resStep c (lns c).toNat c.th.toNat S M = (⟨S.t, if S.pc = 2 then 3 else 5, S.slot, S.next, S.place⟩, elast c (lns c).toNat c.th.toNat S.t S.pc S.place M) := by unfold resStep; rw [if_neg h5, if_neg (by omega), if_neg (by omega)]
   rw [e] at hg' hm' ⊢
   refine ⟨hg', hS, hsl, .inr (.inr (.inl ⟨hw0, hw, ?_, hpl, ?_⟩))⟩
   ·show (if S.pc = 2 then (3 : Int) else 5) = 2 ∧ _ ∨ (if S.pc = 2 then (3 : Int) else 5) = 3 ∧ _ ∨ (if S.pc = 2 then (3 : Int) else 5) = 5 ∧ _
    split
    ·exact .inr (.inl ⟨rfl, by omega⟩)
    ·exact .inr (.inr ⟨rfl, by omega⟩)
   ·have hm2 : (elast c (lns c).toNat c.th.toNat S.t S.pc S.place M).good := hm'
    show LogM c tt _ (elast c (lns c).toNat c.th.toNat S.t S.pc S.place M)
    unfold elast at hm2 ⊢
    split at hm2
    ·rename_i h2
     rw [if_pos h2]
     exact hL.same (accF_ok hL.ok) hm2 (fun _ => accF_pk)
    ·rename_i h2
     rw [if_neg h2]
     exact hL.same (accE_ok hL.ok) hm2 (fun _ => accE_pk)
 ·have e : resStep c (lns c).toNat c.th.toNat S M = (S, M) := by unfold resStep; rw [if_pos hp]
  rw [e]
  exact ⟨hg, hS, hsl, .inr (.inr (.inr ⟨hw, by omega, hp, hpl, hL⟩))⟩
theorem RInv.start {c : Cfg} {tt s w : Int} {L : List Int} {M : MemM} (hc : cfgOk c) (ht : 0 ≤ tt ∧ tt < c.th) (hs : 0 ≤ s ∧ s < 30) (hL : LogM c tt L M) : RInv c tt s L w 0 ⟨tt, 0, s, 0, 0⟩ M := by
 unfold cfgOk at hc
 exact ⟨resInit (by omega) (by omega), rfl, rfl, .inl ⟨by show (((0 : Nat) : Int)) < c.lo; omega, rfl, rfl, fun q h => absurd h (by omega), hL⟩⟩
theorem RInv.end_ {c : Cfg} {tt s w : Int} {L : List Int} {i : Nat} {S : ResS} {M : MemM} (hi : c.lo + 4 ≤ (i : Int)) (I : RInv c tt s L w i S M) : S.done = true ∧ rePlace c S = w ∧ (w < 0 ∧ LogM c tt L M ∨ 0 ≤ w ∧ w < c.lo ∧ LogM c tt (L.set w.toNat (s + 1)) M) := by
 rcases I.st with h | h | ⟨h1, h2, h3, h4, h5⟩ | ⟨h1, h2, h3, h4, h5⟩
 ·omega
 ·omega
 ·have hp : S.pc = 5 := by omega
  exact ⟨decide_eq_true hp, by unfold rePlace; rw [if_pos ⟨hp, by omega⟩]; exact h4, .inr ⟨h1, h2, h5⟩⟩
 ·exact ⟨decide_eq_true h3, by unfold rePlace; rw [if_neg (by omega)]; omega, .inl ⟨by omega, h5⟩⟩
theorem rep_z {N j : Nat} : (List.replicate N (0 : Int)).getD j 0 = 0 := by
 rw [List.getD_eq_getElem?_getD, List.getElem?_replicate]; split <;> rfl
theorem log_start {c : Cfg} (hc : cfgOk c) {tt : Int} (ht : 0 ≤ tt ∧ tt < c.th) {k : Nat} : LogM c tt (List.replicate c.lo.toNat 0) (groundM (lns c).toNat c.th.toNat k []) := by
 have hcc := hc
 unfold cfgOk at hcc
 refine ⟨fresh_ok hc, ground_good (fun j hj => absurd hj (by simp)), by simp; omega, fun q => ?_, fun q hq => ?_⟩
 ·rw [rep_z]; omega
 ·have hin := log_at hc ht (k := (q : Int)) (by omega)
  show (MemM.of (DevM.fresh (List.replicate ((lns c).toNat * 8) 0) (lns c).toNat c.th.toNat) k).peek _ _ = _
  rw [peek_dev hin.2]
  congr 1
  show (List.replicate ((lns c).toNat * 8) (0 : Int)).getD _ 0 = _
  rw [rep_z]
  simpa using (rep_z (N := c.lo.toNat) (j := q)).symm
set_option maxHeartbeats 1000000 in
set_option maxRecDepth 100000 in
theorem canDone_ok (w0 : World) (p b : Nat) (S : CanS) (gp : K.Cs) (hgp : gp = canPt p b S) :
  K.GC Try.prog w0 81 #[.pointer (some ⟨p, 0, none⟩)] [gp] (fun v post => post = [gp] ∧ ((v = .bool true ∧ S.pc = 5) ∨ (v = .bool false ∧ ¬ S.pc = 5))) := by
 refine K.GC.mk (n := 13) Try.func81 rfl rfl [.pointer (some ⟨p, 0, none⟩)] rfl rfl ?_
 intro fr w hS
 replace hS : K.Sat w0 [gp, fr] w := hS
 refine K.s (K.g (K.q [.bool false] (K.z (K.t (K.s (K.g (K.q [.pointer (some ⟨p, 0, none⟩), .bool false, .bool false, .pointer (some ⟨p, 0, none⟩), .pointer (some ⟨p, 0, none⟩), .pointer (some ⟨p, 0, none⟩), .pointer (some ⟨p, 2, none⟩)] ?_)))))))
 refine K.d (.int .i64 S.pc) ((hS.blk 0 rfl hgp).cell rfl) ?_
 by_cases h_1 : (S.pc : Int) = (5 : Int)
 ·
  refine K.ye (S.pc : Int) (5 : Int) h_1 ?_
  refine K.q [.bool true, .bool true] (K.z (K.t (K.r ?_)))
  refine ⟨.inr rfl, rfl, (.bool true), K.res1 rfl rfl, [gp], ?_, hS.pick [0, 1]⟩
  exact ⟨rfl, .inl ⟨rfl, by omega⟩⟩
 ·
  refine K.xe (S.pc : Int) (5 : Int) h_1 ?_
  refine K.q [.bool false, .bool false] (K.z (K.t (K.r ?_)))
  refine ⟨.inr rfl, rfl, (.bool false), K.res1 rfl rfl, [gp], ?_, hS.pick [0, 1]⟩
  exact ⟨rfl, .inr ⟨rfl, by omega⟩⟩
set_option maxHeartbeats 1000000 in
set_option maxRecDepth 100000 in
theorem canStep_ok (w0 : World) (p b pm q n t : Nat) (c : Cfg) (hc : cfgOk c) (S : CanS) (M : MemM) (gp gl l : K.Cs) (hgp : gp = canPt p b S) (hgl : gl = layPt b c) (x : MemAt l pm q n t M) (hM : M.good) (hS : S.good) :
  K.GC Try.prog w0 36 #[.pointer (some ⟨p, 0, none⟩), .pointer (some ⟨pm, 0, none⟩)] [gp, gl, l] (fun v post => ∃ gp' l', v = .bool true ∧ post = [gp', gl, l'] ∧ gp' = canPt p b (canStep c n S M).1 ∧ MemAt l' pm q n t (canStep c n S M).2) := by
 have hS0 := hS
 obtain ⟨hSt, hSl, hSp⟩ := hS
 refine K.GC.mk (n := 34) Try.func36 rfl rfl [.pointer (some ⟨p, 0, none⟩), .pointer (some ⟨pm, 0, none⟩)] rfl rfl ?_
 intro fr w hS
 replace hS : K.Sat w0 [gp, gl, l, fr] w := hS
 refine K.s (K.g (K.q [.bool false] (K.z (K.t (K.s (K.s (K.g (K.q [.pointer (some ⟨p, 0, none⟩)] ?_))))))))
 refine K.l (K.OW.gcall hS [0] [1, 2, 3] [.pointer (some ⟨p, 0, none⟩)] (canDone_ok _ _ _ ⟨S.t, S.pc, S.place⟩ _ hgp) ?_)
 clear hS; rintro _ _ w ⟨rfl, (⟨rfl, h_1⟩ | ⟨rfl, h_2⟩)⟩ hS
 ·
  replace hS : K.Sat w0 [gp, gl, l, fr] w := hS
  replace h_1 : S.pc = 5 := h_1
  refine K.q [.bool false] (K.z (K.t (K.f (K.k (K.t (K.s (K.g (K.q [.bool true] (K.z (K.t (K.r ?_)))))))))))
  have e : canStep c n S M = (S, M) := by unfold canStep; rw [if_pos (by omega)]
  refine ⟨.inr rfl, rfl, (.bool true), K.res1 rfl rfl, [gp, gl, l], ?_, hS.pick [0, 1, 2, 3]⟩
  exact ⟨_, _, rfl, rfl, by rw [e]; exact hgp, by rw [e]; exact x⟩
 ·
  replace hS : K.Sat w0 [gp, gl, l, fr] w := hS
  replace h_2 : ¬ S.pc = 5 := h_2
  refine K.q [.bool true] (K.z (K.t (K.h (K.s ?_))))
  refine K.KW.gdrawn [0] hS (by kernel_rfl) ?_
  clear hS; intro w hS
  refine K.p 0 rfl (.pointer (some ⟨pm, 0, none⟩)) (hS.pick [0]) ?_
  refine K.p 1 rfl (.pointer (some ⟨p, 0, none⟩)) (hS.pick [0]) ?_
  refine K.p 2 rfl (.pointer (some ⟨p, 0, none⟩)) (hS.pick [0]) ?_
  refine K.p 3 rfl (.pointer (some ⟨p, 0, none⟩)) (hS.pick [0]) ?_
  refine K.p 4 rfl (.pointer (some ⟨p, 1, none⟩)) (hS.pick [0]) ?_
  refine K.o_ 5 rfl (.int .i64 S.t) (fun w hS => ((hS.blk 0 rfl hgp).cell rfl)) (hS.pick [0]) ?_
  refine K.p 6 rfl (.pointer (some ⟨p, 0, none⟩)) (hS.pick [0]) ?_
  refine K.p 7 rfl (.pointer (some ⟨p, 0, none⟩)) (hS.pick [0]) ?_
  refine K.p 8 rfl (.pointer (some ⟨p, 0, none⟩)) (hS.pick [0]) ?_
  refine K.p 9 rfl (.pointer (some ⟨p, 0, none⟩)) (hS.pick [0]) ?_
  refine K.o_ 10 rfl (.pointer (some ⟨b, 0, none⟩)) (fun w hS => ((hS.blk 0 rfl hgp).cell rfl)) (hS.pick [0]) ?_
  refine K.p 11 rfl (.pointer (some ⟨p, 0, none⟩)) (hS.pick [0]) ?_
  refine K.p 12 rfl (.pointer (some ⟨p, 0, none⟩)) (hS.pick [0]) ?_
  refine K.p 13 rfl (.pointer (some ⟨p, 0, none⟩)) (hS.pick [0]) ?_
  refine K.p 14 rfl (.pointer (some ⟨p, 1, none⟩)) (hS.pick [0]) ?_
  refine K.o_ 15 rfl (.int .i64 S.t) (fun w hS => ((hS.blk 0 rfl hgp).cell rfl)) (hS.pick [0]) ?_
  refine K.b 16 rfl (.pointer (some ⟨p, 0, none⟩)) (hS.pick [0]) ?_
  refine K.b 17 rfl (.pointer (some ⟨p, 0, none⟩)) (hS.pick [0]) ?_
  refine K.b 18 rfl (.pointer (some ⟨p, 3, none⟩)) (hS.pick [0]) ?_
  refine K.c 19 rfl (K.QR.ld1 (v := .int .i64 S.place) rfl rfl (by kernel_rfl) ((hS.blk 0 rfl hgp).cell rfl)) (hS.pick [0]) ?_
  refine K.DW.l 20 rfl (by kernel_rfl) rfl (K.OW.kcall hS [.pointer (some ⟨b, 0, none⟩), .int .i64 S.t, .int .i64 S.place] (lLog _ c S.t S.place _ (by assumption) (hS.blk 1 rfl hgl)) ?_)
  rintro _ w ⟨rfl, c_3⟩
  replace hS := hS.no c_3
  refine ⟨.inl (hS.pick [0]), ?_⟩
  refine K.DW.l 21 rfl (by kernel_rfl) rfl (K.OW.gcall hS [2] [0, 1, 3] [.pointer (some ⟨pm, 0, none⟩), .int .i64 S.t, .int .i64 (logS c S.t S.place), .int .u64 0] (mStore_ok _ _ _ _ _ _ _ x S.t (logS c S.t S.place) (by first | omega | assumption | exact log_int (by assumption) _ _ | exact aft_int (by assumption) _ | exact ann_int (by assumption) _ (by omega)) (0 : Int)) ?_)
  clear hS; rintro _ _ w ⟨l_4, rfl, rfl, x_5⟩ hS
  replace hS : K.Sat w0 [l_4, gp, gl, fr] w := hS
  refine ⟨.inl (hS.pick [1]), ?_⟩
  refine K.DW.done (by kernel_rfl) ?_
  refine K.t (K.g (K.q [.pointer (some ⟨p, 0, none⟩), .pointer (some ⟨p, 0, none⟩), .pointer (some ⟨p, 0, none⟩), .pointer (some ⟨p, 2, none⟩)] ?_))
  refine K.l (K.OW.gst 1 [.int .i64 5] [.pointer (some ⟨b, 0, none⟩), .int .i64 S.t, .int .i64 5, .int .i64 S.place] hS hgp ?_)
  clear hS; intro w g_6 hg_7 hS
  replace hS : K.Sat w0 [l_4, g_6, gl, fr] w := hS
  refine K.z (K.t (K.s (K.g (K.q [.bool true] (K.z (K.t (K.r ?_)))))))
  have e : canStep c n S M = (⟨S.t, 5, S.place⟩, ((M.accS n S.t (logS c S.t S.place) (0 : Int)).1)) := by unfold canStep; rw [if_neg (by omega)]
  refine ⟨.inr rfl, rfl, (.bool true), K.res1 rfl rfl, [g_6, gl, l_4], ?_, hS.pick [1, 2, 0, 3]⟩
  exact ⟨_, _, rfl, rfl, by rw [e]; exact hg_7, by rw [e]; exact x_5⟩
set_option maxHeartbeats 1000000 in
set_option maxRecDepth 100000 in
theorem newcan_ok (w0 : World) (b : Nat) (tt pl : Int) :
  K.GC Try.prog w0 35 #[.pointer (some ⟨b, 0, none⟩), .int .i64 tt, .int .i64 pl] [] (fun v post => ∃ p g, v = .pointer (some ⟨p, 0, none⟩) ∧ post = [g] ∧ g = canPt p b ⟨tt, 0, pl⟩) := by
 refine K.GC.mk (n := 13) Try.func35 rfl rfl [.pointer (some ⟨b, 0, none⟩), .int .i64 tt, .int .i64 pl] rfl rfl ?_
 intro fr w hS
 replace hS : K.Sat w0 [fr] w := hS
 refine K.s (K.g (K.q [.pointer none] (K.z (K.t (K.s (K.g (K.q [.pointer (some ⟨b, 0, none⟩), .int .i64 tt] ?_)))))))
 refine K.a (K.QR.bd [(0, .pointer (some ⟨b, 0, none⟩)), (1, .int .i64 tt)] [.pointer (some ⟨b, 0, none⟩), .int .i64 tt, .int .i64 0] rfl rfl (by kernel_rfl)) ?_
 refine K.q [.int .i64 pl] ?_
 refine K.a (K.QR.bd [(0, .agg #[.pointer (some ⟨b, 0, none⟩), .int .i64 tt, .int .i64 0]), (1, .int .i64 pl)] [.pointer (some ⟨b, 0, none⟩), .int .i64 tt, .int .i64 0, .int .i64 pl] rfl rfl (by kernel_rfl)) ?_
 refine K.l (K.OW.gnew 156 [.pointer (some ⟨b, 0, none⟩), .int .i64 tt, .int .i64 0, .int .i64 pl] hS ?_)
 clear hS; intro w r_1 g_2 hg_3 hS
 refine K.q [.pointer (some ⟨r_1, 0, none⟩)] (K.z (K.t (K.r ?_)))
 refine ⟨.inr rfl, rfl, (.pointer (some ⟨r_1, 0, none⟩)), K.res1 rfl rfl, [g_2], ?_, hS.pick [0, 1]⟩
 exact ⟨_, _, rfl, rfl, hg_3⟩
theorem canInit {a b : Int} (ha : isInt a) (hb : isInt b) : CanS.good ⟨a, 0, b⟩ := ⟨ha, hb, (by decide : (0 : Int) ≤ 0 ∧ (0 : Int) ≤ 5)⟩
theorem canLog {c : Cfg} (hc : cfgOk c) {tt : Int} {L : List Int} {M : MemM} {k : Nat} (ht : 0 ≤ tt ∧ tt < c.th) (hk : (k : Int) < c.lo) (I : LogM c tt L M) : LogM c tt (L.set k 0) (canStep c (lns c).toNat ⟨tt, 0, (k : Int)⟩ M).2 := by
 have e : canStep c (lns c).toNat ⟨tt, 0, (k : Int)⟩ M = (⟨tt, 5, (k : Int)⟩, (M.accS (lns c).toNat tt (logS c tt (k : Int)) 0).1) := by unfold canStep; rw [if_neg (by show ¬ (0 : Int) = 5; decide)]
 rw [e]
 exact LogM.put hc ht hk (by decide) I
theorem FZ.rng {L : List Int} {lo w : Int} {k : Nat} (h : FZ L lo k w) : -1 ≤ w ∧ (w < lo ∨ w = -1) := by
 rcases h with ⟨h, _⟩ | ⟨h1, h2, _⟩ <;> omega
end Go.Proofs.Ytkmndplicmaahaa
