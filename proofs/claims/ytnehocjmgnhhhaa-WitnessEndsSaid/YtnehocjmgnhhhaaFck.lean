import Derived.Test.YtnehocjmgnhhhaaFso8
import Derived.Test.YtnehocjmgnhhhaaKn
import Derived.Test.YtnehocjmgnhhhaaFli
/- Witness: the order in which it was so: plain. -/
namespace Go.Proofs.Ytnehocjmgnhhhaa
open Go.RowKit
set_option linter.unusedVariables false
attribute [local irreducible] K.KW K.RW K.DW K.OW K.QR K.KC
def ltO (L : List CallM) (p q : Int) : Prop := keyL L p < keyL L q ∨ (keyL L p = keyL L q ∧ p < q)
theorem ltO.irr {L : List CallM} {p : Int} (h : ltO L p p) : False := by rcases h with h | h <;> omega
theorem ltO.trans {L : List CallM} {p q r : Int} (h : ltO L p q) (k : ltO L q r) : ltO L p r := by
 unfold ltO at *
 rcases h with h | h <;> rcases k with k | k <;> first | (left; omega) | (right; omega)
def isOrd (L : List CallM) (Q : List Int) : Prop := (∀ x, x ∈ Q ↔ x ∈ tookT L) ∧ Q.Pairwise (ltO L)
theorem ord_uniq {L : List CallM} : ∀ {Q R : List Int}, (∀ x, x ∈ Q ↔ x ∈ R) → Q.Pairwise (ltO L) → R.Pairwise (ltO L) → Q = R := by
 intro Q
 induction Q with
 | nil =>
  intro R h _ _
  cases R with
  | nil => rfl
  | cons y r => exact absurd ((h y).2 List.mem_cons_self) (by simp)
 | cons x q ih =>
  intro R h hq hr
  cases R with
  | nil => exact absurd ((h x).1 List.mem_cons_self) (by simp)
  | cons y r =>
   rw [List.pairwise_cons] at hq hr
   have e : x = y := by
    rcases List.mem_cons.1 ((h x).1 List.mem_cons_self) with e | e
    ·exact e
    ·rcases List.mem_cons.1 ((h y).2 List.mem_cons_self) with e2 | e2
     ·exact e2.symm
     ·exact absurd ((hr.1 x e).trans (hq.1 y e2)) ltO.irr
   subst e
   rw [ih (R := r) (fun z => ?_) hq.2 hr.2]
   have hz := h z
   constructor
   ·intro hm
    rcases List.mem_cons.1 (hz.1 (List.mem_cons_of_mem _ hm)) with e | e
    ·subst e; exact absurd (hq.1 _ hm) ltO.irr
    ·exact e
   ·intro hm
    rcases List.mem_cons.1 (hz.2 (List.mem_cons_of_mem _ hm)) with e | e
    ·subst e; exact absurd (hr.1 _ hm) ltO.irr
    ·exact e
theorem isOrd.uniq {L : List CallM} {Q R : List Int} (h : isOrd L Q) (k : isOrd L R) : Q = R := ord_uniq (fun x => (h.1 x).trans (k.1 x).symm) h.2 k.2
theorem tookU_mem {L : List CallM} {x : Int} : ∀ {j : Nat}, x ∈ tookU L j ↔ 0 ≤ x ∧ x < (j : Int) ∧ tookH (L.getD x.toNat call0)
 | 0 => by simp [tookU]; omega
 | j + 1 => by
  have ih := tookU_mem (L := L) (x := x) (j := j)
  unfold tookU
  by_cases hx : x = (j : Int)
  ·subst hx
   rw [Int.toNat_natCast] at *
   split
   ·rename_i h
    rw [List.mem_append, List.mem_singleton]
    exact ⟨fun _ => ⟨by omega, by omega, h⟩, fun _ => .inr rfl⟩
   ·rename_i h
    rw [ih]
    exact ⟨fun hh => absurd hh.2.1 (by omega), fun hh => absurd hh.2.2 h⟩
  ·split
   ·rw [List.mem_append, ih, List.mem_singleton]
    constructor
    ·rintro (h | h)
     ·exact ⟨h.1, by omega, h.2.2⟩
     ·exact absurd h hx
    ·rintro ⟨h1, h2, h3⟩; exact .inl ⟨h1, by omega, h3⟩
   ·rw [ih]
    constructor
    ·rintro ⟨h1, h2, h3⟩; exact ⟨h1, by omega, h3⟩
    ·rintro ⟨h1, h2, h3⟩; exact ⟨h1, by omega, h3⟩
theorem tookT_mem {L : List CallM} {x : Int} : x ∈ tookT L ↔ 0 ≤ x ∧ x < (L.length : Int) ∧ tookH (L.getD x.toNat call0) := tookU_mem
theorem tookU_rise {L : List CallM} : ∀ {j : Nat}, (tookU L j).Pairwise (· < ·)
 | 0 => List.Pairwise.nil
 | j + 1 => by
  unfold tookU
  split
  ·rw [List.pairwise_append]
   refine ⟨tookU_rise, by simp, fun a ha b hb => ?_⟩
   rw [List.mem_singleton.1 hb]; exact (tookU_mem.1 ha).2.1
  ·exact tookU_rise
theorem getD_mem {P : List Int} {i : Nat} (h : i < P.length) : P.getD i 0 ∈ P := by
 rw [List.getD_eq_getElem?_getD, List.getElem?_eq_getElem h]; exact List.getElem_mem h
theorem getD_at {P : List Int} {i : Nat} (h : i < P.length) : P.getD i 0 = P[i] := by
 rw [List.getD_eq_getElem?_getD, List.getElem?_eq_getElem h]; rfl
theorem took_val (L : List CallM) : valP L (tookT L) := fun i hi => by
 have := tookT_mem.1 (getD_mem hi); exact ⟨this.1, this.2.1⟩
theorem took_stb (L : List CallM) : stbP L (tookT L) := fun i j hij hj _ => by
 have := List.pairwise_iff_getElem.1 (tookU_rise (L := L) (j := L.length)) i j (by have : (tookU L L.length).length = (tookT L).length := rfl; omega) hj hij
 rw [getD_at (by omega), getD_at hj]; exact this
theorem isOrd.of {L : List CallM} {Q : List Int} {n : Nat} (hn : (tookT L).length = n) (hk : keepP L (tookT L) Q 0 n) (hs : srtP L Q 0 n) : isOrd L Q := by
 obtain ⟨h1, h2, h3, h4, h5, h6⟩ := hk
 refine ⟨fun x => ⟨fun hx => ?_, fun hx => ?_⟩, ?_⟩
 ·obtain ⟨i, hi, rfl⟩ := List.mem_iff_getElem.1 hx
  obtain ⟨j, _, hj, e⟩ := h5 i (Nat.zero_le _) (by omega)
  rw [getD_at hi] at e; rw [e]; exact getD_mem (by omega)
 ·obtain ⟨i, hi, rfl⟩ := List.mem_iff_getElem.1 hx
  obtain ⟨j, _, hj, e⟩ := h6 i (Nat.zero_le _) (by omega)
  rw [getD_at hi] at e; rw [← e]; exact getD_mem (by omega)
 ·rw [List.pairwise_iff_getElem]
  intro i j hi hj hij
  have e1 := hs i j (Nat.zero_le _) hij (by omega)
  have e2 := h3 i j hij hj
  rw [getD_at hi, getD_at hj] at e1 e2
  unfold ltO
  by_cases he : keyL L Q[i] = keyL L Q[j]
  ·exact .inr ⟨he, e2 he⟩
  ·exact .inl (by omega)
theorem rep_getD {n i : Nat} : (List.replicate n false).getD i false = false := by
 rw [List.getD_eq_getElem?_getD, List.getElem?_replicate]; split <;> rfl
theorem bset_getD {U : List Bool} {i k : Nat} (hi : i < U.length) : (U.set i true).getD k false = if i = k then true else U.getD k false := by
 rw [List.getD_eq_getElem?_getD, List.getElem?_set]
 split
 ·first | rfl | (rw [if_pos hi]; rfl)
 ·rfl
end Go.Proofs.Ytnehocjmgnhhhaa

/- Witness: both Orders. -/
namespace Go.Proofs.Ytnehocjmgnhhhaa
open Go.RowKit
set_option linter.unusedVariables false
attribute [local irreducible] K.KW K.RW K.DW K.OW K.QR K.KC
set_option maxHeartbeats 1000000 in
set_option maxRecDepth 100000 in
theorem sortst_ok (w0 : World) (dp : Option Addr) (cp nn : Nat) (P : List Int) (hnn : P.length = nn) (gd : K.Cs) (hd : K.OwnG gd 3 1 dp nn cp (P.flatMap cI64)) (hP1 : nn ≤ 1000000) (bc : Nat) (gc : K.Cs) (a : Option Addr) (cap : Nat) (L : List CallM) (hm : L.length ≤ 1000000) (hgc : gc = [K.pt bc 22 [.slice a L.length cap]]) (gx : K.Cs) (hx : ∀ w, K.Sat w0 [gx] w → K.RowE w a L.length 11 (fun i => cCall (L.getD i call0))) (hv : valP L P) (hst : stbP L P) :
  K.GC Try.prog w0 23 #[.slice dp nn cp, .func (.func 24) [].toArray [K.pa bc].toArray] [gd, gc, gx] (fun v post => ∃ gd' Q, post = [gd', gc, gx] ∧ K.OwnG gd' 3 1 dp nn cp (Q.flatMap cI64) ∧ keepP L P Q 0 nn ∧ srtP L Q 0 nn) := by
 refine K.GC.mk (n := 9) Try.func23 rfl rfl [.slice dp nn cp, .func (.func 24) [].toArray [K.pa bc].toArray] rfl rfl ?_
 intro fr w hS
 replace hS : K.Sat w0 [gd, gc, gx, fr] w := hS
 refine K.g (K.q [.slice dp nn cp, .slice dp nn cp] ?_)
 refine K.a (K.QR.len (P := Try.prog) rfl rfl Try.underlying23) ?_
 refine K.q [.func (.func 24) [].toArray [K.pa bc].toArray] ?_
 refine K.l (K.OW.gcall hS [0, 1, 2] [3] [.slice dp nn cp, K.iv ((nn : Nat) : Int), .func (.func 24) [].toArray [K.pa bc].toArray] (stable_ok _ dp cp _ P hnn _ hd (by omega) _ _ _ _ _ hm hgc _ hx hv hst) ?_)
 clear hS; rintro _ _ w ⟨gd_1, Q_2, rfl, ho_3, hr_4, hs_5⟩ hS
 replace hS : K.Sat w0 [gd_1, gc, gx, fr] w := hS
 refine K.z ?_
 refine ⟨.inl rfl, rfl, (.tuple #[]), K.res0 rfl, [gd_1, gc, gx], ?_, hS.pick [0, 1, 2, 3]⟩
 exact ⟨_, _, rfl, ho_3, hr_4, hs_5⟩
set_option maxHeartbeats 1000000 in
set_option maxRecDepth 100000 in
theorem order_ok (w0 : World) (a : Option Addr) (cap : Nat) (L : List CallM) (hm : L.length ≤ 1000000) (gx : K.Cs) (hx : ∀ w, K.Sat w0 [gx] w → K.RowE w a L.length 11 (fun i => cCall (L.getD i call0))) :
  K.GC Try.prog w0 8 #[.slice a L.length cap] [gx] (fun v post => ∃ r g k Q, post = [gx, g] ∧ v = .slice r Q.length k ∧ K.OwnG g 3 1 r Q.length k (Q.flatMap cI64) ∧ isOrd L Q ∧ Q.length ≤ L.length) := by
 refine K.GC.mk (n := 10) Try.func8 rfl rfl [.slice a L.length cap] rfl rfl ?_
 intro fr w hS
 replace hS : K.Sat w0 [gx, fr] w := hS
 have htl := tookU_len L L.length
 have htl2 : (tookT L).length = (tookU L L.length).length := rfl
 refine K.s (K.g ?_)
 refine K.l (K.OW.gnew 22 [.slice a L.length cap] hS ?_)
 clear hS; intro w r_1 g_2 hg_3 hS
 refine K.q [.slice none 0 0] (K.z (K.t (K.s (K.g ?_))))
 refine K.d (.slice a L.length cap) ((hS.blk 0 rfl hg_3).cell rfl) ?_
 refine K.l (K.OW.gcall hS [1] [0, 2] [.slice a L.length cap] (took_ok _ _ _ L (by omega) _ hx) ?_)
 clear hS; rintro _ _ w ⟨r_4, g_5, k_6, rfl, rfl, o_7⟩ hS
 replace hS : K.Sat w0 [gx, g_5, g_2, fr] w := hS
 refine K.q [.slice r_4 ((tookT L).length) k_6] (K.z (K.t (K.s (K.g (K.q [.slice r_4 ((tookT L).length) k_6] ?_)))))
 refine K.a (K.QR.fn [] [K.pa r_1] rfl rfl rfl) ?_
 refine K.l (K.OW.gcall hS [1, 2, 0] [3] [.slice r_4 ((tookT L).length) k_6, .func (.func 24) [].toArray [K.pa r_1].toArray] (sortst_ok _ r_4 k_6 _ (tookT L) rfl _ o_7 (by omega) _ _ _ _ _ hm hg_3 _ hx (took_val L) (took_stb L)) ?_)
 clear hS; rintro _ _ w ⟨gd_8, Q_9, rfl, ho_10, hr_11, hs_12⟩ hS
 replace hS : K.Sat w0 [gd_8, g_2, gx, fr] w := hS
 refine K.z (K.t (K.s (K.g (K.q [.slice r_4 ((tookT L).length) k_6, .slice r_4 ((tookT L).length) k_6] (K.z (K.t (K.r ?_)))))))
 refine ⟨.inr rfl, rfl, (.slice r_4 ((tookT L).length) k_6), K.res1 rfl rfl, [gx, gd_8], ?_, hS.pick [2, 0, 3]⟩
 have hql : Q_9.length = (tookT L).length := hr_11.1
 exact ⟨_, _, _, _, rfl, by rw [hql], by rw [hql]; exact ho_10, isOrd.of rfl hr_11 hs_12, by omega⟩
end Go.Proofs.Ytnehocjmgnhhhaa

/- Witness: Check: plain. -/
namespace Go.Proofs.Ytnehocjmgnhhhaa
open Go.RowKit
set_option linter.unusedVariables false
attribute [local irreducible] K.KW K.RW K.DW K.OW K.QR K.KC
def runN (L : List CallM) : StM → List Int → Option StM
 | S, [] => some S
 | S, p :: r => if (nxtT S (L.getD p.toNat call0)).2 = true then runN L (nxtT S (L.getD p.toNat call0)).1 r else none
theorem drop_at {P : List Int} {j : Nat} (h : j < P.length) : P.drop j = P.getD j 0 :: P.drop (j + 1) := by
 rw [getD_at h]; exact List.drop_eq_getElem_cons h
theorem runN_y {L : List CallM} {S : StM} {P : List Int} {j : Nat} (h : j < P.length) (hn : (nxtT S (L.getD (P.getD j 0).toNat call0)).2 = true) : runN L S (P.drop j) = runN L (nxtT S (L.getD (P.getD j 0).toNat call0)).1 (P.drop (j + 1)) := by
 rw [drop_at h]; show (if _ then _ else _) = _
 rw [if_pos hn]
theorem runN_n {L : List CallM} {S : StM} {P : List Int} {j : Nat} (h : j < P.length) (hn : (nxtT S (L.getD (P.getD j 0).toNat call0)).2 = false) : runN L S (P.drop j) = none := by
 rw [drop_at h]; show (if _ then _ else _) = _
 rw [if_neg (by rw [hn]; simp)]
theorem runN_end {L : List CallM} {S : StM} {P : List Int} {j : Nat} (h : P.length ≤ j) : runN L S (P.drop j) = some S := by
 rw [List.drop_eq_nil_of_le h]; rfl
theorem isOrd.val {L : List CallM} {Q : List Int} (h : isOrd L Q) : valP L Q := fun i hi => by
 have := tookT_mem.1 ((h.1 _).1 (getD_mem hi)); exact ⟨this.1, this.2.1⟩
def st0 : StM := ⟨[], [], []⟩
end Go.Proofs.Ytnehocjmgnhhhaa
