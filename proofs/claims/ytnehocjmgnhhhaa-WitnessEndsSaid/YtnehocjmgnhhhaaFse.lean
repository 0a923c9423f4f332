import Derived.Test.YtnehocjmgnhhhaaFrun
import Derived.Test.YtnehocjmgnhhhaaKn
/- Witness: what the statements call: Same, few. -/
namespace Go.Proofs.Ytnehocjmgnhhhaa
open Go.RowKit
set_option linter.unusedVariables false
attribute [local irreducible] K.KW K.RW K.DW K.OW K.QR K.KC
theorem sameS_ok (w0 : World) (q s m q' s' m' : Option Addr) (cq cs cm cq' cs' cm' : Nat) (S T : StM) (g : K.Cs) (x : RdSt w0 g q s m cq S) (y : RdSt w0 g q' s' m' cq' T) (h1 : S.q.length ≤ 1000000) (h2 : S.s.length ≤ 1000000) (h3 : S.m.length ≤ 1000000) :
  K.GC Try.prog w0 17 #[stA q cq s cs m cm S, stA q' cq' s' cs' m' cm' T] [g] (fun v post => post = [g] ∧ ((S = T ∧ v = .bool true) ∨ (¬ S = T ∧ v = .bool false))) := fun fr w hS => by
 obtain ⟨qa, sa, ma⟩ := S
 obtain ⟨qb, sb, mb⟩ := T
 obtain ⟨x1, x2, x3, _⟩ := x
 obtain ⟨y1, y2, y3, _⟩ := y
 refine K.KC.mono (same8_ok q s m q' s' m' cq cs cm cq' cs' cm' qa sa qb sb ma mb w h1 h2 h3 (x1 _ (hS.pick [0])) (x2 _ (hS.pick [0])) (x3 _ (hS.pick [0])) (y1 _ (hS.pick [0])) (y2 _ (hS.pick [0])) (y3 _ (hS.pick [0]))) ?_
 rintro v w' ⟨rfl, hch⟩
 refine ⟨[g], ⟨rfl, ?_⟩, hS.no hch⟩
 by_cases h : qa = qb ∧ sa = sb ∧ ma = mb
 ·exact .inl ⟨by rw [h.1, h.2.1, h.2.2], congrArg Value.bool (decide_eq_true h)⟩
 ·exact .inr ⟨fun e => h (by simpa using e), congrArg Value.bool (decide_eq_false h)⟩
theorem right_kind {L : List CallM} (h : rightH L) : ∀ i, i < L.length → 1 ≤ (L.getD i call0).ok ∧ (L.getD i call0).ok ≤ 8 := fun i hi => (h i hi).1.1.1
end Go.Proofs.Ytnehocjmgnhhhaa

/- Witness: rows of states. -/
namespace Go.Proofs.Ytnehocjmgnhhhaa
open Go.RowKit
set_option linter.unusedVariables false
attribute [local irreducible] K.KW K.RW K.DW K.OW K.QR K.KC
instance : DecidableEq StM := fun a b => match a, b with
 | ⟨q, s, m⟩, ⟨q', s', m'⟩ => if h : q = q' ∧ s = s' ∧ m = m' then .isTrue (by obtain ⟨rfl, rfl, rfl⟩ := h; rfl) else .isFalse (fun e => h (by simpa using e))
structure StE where
 q : Option Addr
 cq : Nat
 s : Option Addr
 cs : Nat
 m : Option Addr
 cm : Nat
 S : StM
def cStE (e : StE) : List Value := [.slice e.q e.S.q.length e.cq, .slice e.s e.S.s.length e.cs, .slice e.m e.S.m.length e.cm]
def dStE : StE := ⟨none, 0, none, 0, none, 0, st0⟩
def AllRd (w0 : World) (g : K.Cs) (L : List StE) : Prop := ∀ i, i < L.length → RdSt w0 g (L.getD i dStE).q (L.getD i dStE).s (L.getD i dStE).m (L.getD i dStE).cq (L.getD i dStE).S
theorem AllRd.nil {w0 : World} {g : K.Cs} : AllRd w0 g [] := fun i h => by simp at h
theorem AllRd.mono {w0 : World} {g g' : K.Cs} {L : List StE} (h : AllRd w0 g L) (hg : Grow w0 g g') : AllRd w0 g' L := fun i hi => (h i hi).mono hg
theorem getD_app1 {L : List StE} {e : StE} {i : Nat} (h : i < L.length) : (L ++ [e]).getD i dStE = L.getD i dStE := by
 rw [List.getD_eq_getElem?_getD, List.getD_eq_getElem?_getD, List.getElem?_append_left h]
theorem getD_app2 {L : List StE} {e : StE} : (L ++ [e]).getD L.length dStE = e := by
 rw [List.getD_eq_getElem?_getD, List.getElem?_append_right (Nat.le_refl _)]; simp
theorem AllRd.snoc {w0 : World} {g : K.Cs} {L : List StE} {e : StE} (h : AllRd w0 g L) (he : RdSt w0 g e.q e.s e.m e.cq e.S) : AllRd w0 g (L ++ [e]) := fun i hi => by
 rw [List.length_append, List.length_singleton] at hi
 by_cases hc : i < L.length
 ·rw [getD_app1 hc]; exact h i hc
 ·obtain rfl : i = L.length := by omega
  rw [getD_app2]; exact he
theorem AllRd.one {w0 : World} {g : K.Cs} {e : StE} (he : RdSt w0 g e.q e.s e.m e.cq e.S) : AllRd w0 g [e] := AllRd.nil.snoc he
def stsE (L : List StE) : List StM := L.map StE.S
theorem stsE_snoc {L : List StE} {e : StE} : stsE (L ++ [e]) = stsE L ++ [e.S] := by simp [stsE]
def inE (L : List StE) (T : StM) : Prop := ∃ i, i < L.length ∧ (L.getD i dStE).S = T
theorem inE_iff {L : List StE} {T : StM} : inE L T ↔ T ∈ stsE L := by
 unfold inE stsE
 constructor
 ·rintro ⟨i, hi, rfl⟩
  rw [List.getD_eq_getElem?_getD, List.getElem?_eq_getElem hi]
  exact List.mem_map.2 ⟨_, List.getElem_mem hi, rfl⟩
 ·intro h
  obtain ⟨e, he, rfl⟩ := List.mem_map.1 h
  obtain ⟨i, hi, rfl⟩ := List.mem_iff_getElem.1 he
  exact ⟨i, hi, by rw [List.getD_eq_getElem?_getD, List.getElem?_eq_getElem hi]; rfl⟩
def dedN (d : List StM) : List StM := d.foldl (fun acc S => if S ∈ acc then acc else acc ++ [S]) []
theorem dedN_snoc {d : List StM} {S : StM} : dedN (d ++ [S]) = if S ∈ dedN d then dedN d else dedN d ++ [S] := by
 unfold dedN; rw [List.foldl_append]; rfl
theorem dedN_y {d : List StM} {S : StM} {L : List StE} (h : stsE L = dedN d) (hi : inE L S) : stsE L = dedN (d ++ [S]) := by
 rw [dedN_snoc, if_pos (by rw [← h]; exact inE_iff.1 hi)]; exact h
theorem dedN_n {d : List StM} {e : StE} {L : List StE} (h : stsE L = dedN d) (hi : ¬ inE L e.S) : stsE (L ++ [e]) = dedN (d ++ [e.S]) := by
 rw [dedN_snoc, if_neg (by rw [← h]; exact fun hh => hi (inE_iff.2 hh)), stsE_snoc, h]
theorem snoc_ind {α : Type} {p : List α → Prop} (h0 : p []) (hs : ∀ l x, p l → p (l ++ [x])) (l : List α) : p l := by
 have key : ∀ r : List α, p r.reverse := by
  intro r
  induction r with
  | nil => exact h0
  | cons x r ih => rw [List.reverse_cons]; exact hs _ _ ih
 have := key l.reverse
 rwa [List.reverse_reverse] at this
theorem dedN_mem {d : List StM} {T : StM} : T ∈ dedN d ↔ T ∈ d := by
 refine snoc_ind (p := fun d => T ∈ dedN d ↔ T ∈ d) (by simp [dedN]) (fun d S ih => ?_) d
 rw [dedN_snoc]
 split
 ·rename_i h
  rw [ih, List.mem_append, List.mem_singleton]
  constructor
  ·exact .inl
  ·rintro (h2 | rfl)
   ·exact h2
   ·exact ih.1 h
 ·rw [List.mem_append, List.mem_append, ih]
theorem dedN_nodup {d : List StM} : (dedN d).Nodup := by
 refine snoc_ind (p := fun d => (dedN d).Nodup) (by simp [dedN]) (fun d S ih => ?_) d
 rw [dedN_snoc]
 split
 ·exact ih
 ·rename_i h
  rw [List.nodup_append]
  exact ⟨ih, by simp, fun a ha b hb => by rw [List.mem_singleton.1 hb]; exact fun e => h (e ▸ ha)⟩
theorem stsE_len {L : List StE} : (stsE L).length = L.length := by simp [stsE]
end Go.Proofs.Ytnehocjmgnhhhaa

/- Witness: Ends: what is asked of a row of states. -/
namespace Go.Proofs.Ytnehocjmgnhhhaa
open Go.RowKit
set_option linter.unusedVariables false
attribute [local irreducible] K.KW K.RW K.DW K.OW K.QR K.KC
set_option maxHeartbeats 1000000 in
set_option maxRecDepth 100000 in
theorem ends1f_ok (w0 : World) (bt : Nat) (gt g : K.Cs) (q s mm q' s' m' : Option Addr) (cq cs cm cq' cs' cm' : Nat) (S T : StM) (hgt : gt = [K.pt bt 30 [.slice q' T.q.length cq', .slice s' T.s.length cs', .slice m' T.m.length cm']]) (x : RdSt w0 g q s mm cq S) (y : RdSt w0 g q' s' m' cq' T) (h1 : S.q.length ≤ 1000000) (h2 : S.s.length ≤ 1000000) (h3 : S.m.length ≤ 1000000) :
  K.GC Try.prog w0 36 #[.agg #[.slice q S.q.length cq, .slice s S.s.length cs, .slice mm S.m.length cm], K.pa bt] [gt, g] (fun v post => post = [gt, g] ∧ ((S = T ∧ v = .bool true) ∨ (¬ (S = T) ∧ v = .bool false))) := by
 refine K.GC.mk (n := 7) Try.func36 rfl rfl [.agg #[.slice q S.q.length cq, .slice s S.s.length cs, .slice mm S.m.length cm], K.pa bt] rfl rfl ?_
 intro fr w hS
 replace hS : K.Sat w0 [gt, g, fr] w := hS
 refine K.s (K.g ?_)
 refine K.l (K.OW.gnew 30 [.slice q S.q.length cq, .slice s S.s.length cs, .slice mm S.m.length cm] hS ?_)
 clear hS; intro w r_1 g_2 hg_3 hS
 refine K.q [.bool false] (K.z (K.t (K.s (K.g ?_))))
 refine K.a (K.QR.ldN [.slice q S.q.length cq, .slice s S.s.length cs, .slice mm S.m.length cm] rfl rfl (by kernel_rfl) (by kernel_rfl) (K.cells (K.cl ((hS.blk 0 rfl hg_3).cell rfl) (K.cl ((hS.blk 0 rfl hg_3).cell rfl) (K.cl ((hS.blk 0 rfl hg_3).cell rfl) K.cl0))))) ?_
 refine K.a (K.QR.ldN [.slice q' T.q.length cq', .slice s' T.s.length cs', .slice m' T.m.length cm'] rfl rfl (by kernel_rfl) (by kernel_rfl) (K.cells (K.cl ((hS.blk 1 rfl hgt).cell rfl) (K.cl ((hS.blk 1 rfl hgt).cell rfl) (K.cl ((hS.blk 1 rfl hgt).cell rfl) K.cl0))))) ?_
 refine K.l (K.OW.gcall hS [2] [0, 1, 3] [.agg #[.slice q S.q.length cq, .slice s S.s.length cs, .slice mm S.m.length cm], .agg #[.slice q' T.q.length cq', .slice s' T.s.length cs', .slice m' T.m.length cm']] (sameS_ok _ q s mm q' s' m' cq cs cm cq' cs' cm' S T _ x y h1 h2 h3) ?_)
 clear hS; rintro _ _ w ⟨rfl, (⟨h_4, rfl⟩ | ⟨h_5, rfl⟩)⟩ hS
 ·
  replace hS : K.Sat w0 [g, g_2, gt, fr] w := hS
  refine K.q [.bool true] (K.z (K.t (K.r ?_)))
  refine ⟨.inr rfl, rfl, (.bool true), K.res1 rfl rfl, [gt, g], ?_, hS.pick [2, 0, 3]⟩
  exact ⟨rfl, .inl ⟨h_4, rfl⟩⟩
 ·
  replace hS : K.Sat w0 [g, g_2, gt, fr] w := hS
  refine K.q [.bool false] (K.z (K.t (K.r ?_)))
  refine ⟨.inr rfl, rfl, (.bool false), K.res1 rfl rfl, [gt, g], ?_, hS.pick [2, 0, 3]⟩
  exact ⟨rfl, .inr ⟨h_5, rfl⟩⟩
set_option maxHeartbeats 1000000 in
set_option maxRecDepth 100000 in
theorem ixst_ok (w0 : World) (aa : Option Addr) (ca : Nat) (A : List StE) (hmA : A.length ≤ 100000000) (ga : K.Cs) (ha : ∀ w, K.Sat w0 [ga] w → K.RowE w aa A.length 3 (fun i => cStE (A.getD i dStE))) (bt : Nat) (gt g : K.Cs) (q' s' m' : Option Addr) (cq' cs' cm' : Nat) (T : StM) (hgt : gt = [K.pt bt 30 [.slice q' T.q.length cq', .slice s' T.s.length cs', .slice m' T.m.length cm']]) (hal : AllRd w0 g A) (y : RdSt w0 g q' s' m' cq' T) (hsz : ∀ i, i < A.length → goodS 1000000 (A.getD i dStE).S) :
  K.GC Try.prog w0 51 #[.slice aa A.length ca, .func (.func 36) [].toArray [K.pa bt].toArray] [ga, gt, g] (fun v post => post = [ga, gt, g] ∧ ((inE A T ∧ ∃ k : Int, 0 ≤ k ∧ v = K.iv k) ∨ (¬ inE A T ∧ v = K.iv (-1)))) := by
 refine K.GC.mk (n := 19) Try.func51 rfl rfl [.slice aa A.length ca, .func (.func 36) [].toArray [K.pa bt].toArray] rfl rfl ?_
 intro fr w hS
 replace hS : K.Sat w0 [ga, gt, g, fr] w := hS
 refine K.s (K.g (K.q [K.iv 0] (K.z (K.t (K.s (K.s (K.g (K.q [.slice aa A.length ca] ?_))))))))
 refine K.a (K.QR.len (P := Try.prog) rfl rfl Try.underlying42) ?_
 refine K.q [K.iv 0] (K.z (K.t ?_))
 refine K.KW.block ?_
 refine K.KW.loop (fun m_ F_ w_ => ∃ (i : Nat), m_ = A.length - i ∧ K.Sl F_ [(0, .slice aa A.length ca), (1, .func (.func 36) [].toArray [K.pa bt].toArray), (7, K.iv ((A.length : Nat) : Int)), (8, K.iv ((i : Nat) : Int)), (19, undef)] ∧ i ≤ A.length ∧ (∀ k, k < i → ¬ (A.getD k dStE).S = T) ∧ K.Sat w0 [ga, gt, g, fr] w_) ((fun (i : Nat) => A.length - i) 0) ?_ ?_
 ·
  exact ⟨0, rfl, ⟨by rfl, by rfl, by rfl, by rfl, by rfl, trivial⟩, (by omega), (fun k h => by omega), hS.pick [0, 1, 2, 3]⟩
 ·
  clear hS
  intro m_1 F_2 w hI
  obtain ⟨i, rfl, sl_3, p_4, hno, hS⟩ := hI
  rw [← K.Sl.puts sl_3]; clear sl_3
  refine K.s (K.g ?_)
  by_cases h_5 : (((i : Nat) : Int) : Int) < (((A.length : Nat) : Int) : Int)
  ·
   refine K.y ((((i : Nat) : Int) : Int) < (((A.length : Nat) : Int) : Int)) h_5 ?_
   refine K.z (K.t (K.s (K.h (K.k (K.t (K.s ?_))))))
   refine K.KW.block ?_
   refine K.s (K.g (K.q [K.iv ((i : Nat) : Int), K.iv ((i : Nat) : Int)] (K.z (K.t (K.s ?_)))))
   have hz := hsz i (by omega)
   obtain ⟨b_6, of_7, rfl, _⟩ := (ha _ (hS.pick [0])).at_ (by omega)
   refine K.g (K.q [.func (.func 36) [].toArray [K.pa bt].toArray, .slice (some ⟨b_6, of_7, none⟩) A.length ca, K.iv ((i : Nat) : Int)] ?_)
   refine K.a (K.QR.ix (of_7 + i * 3) 3 rfl rfl rfl Try.underlying42 (by kernel_rfl) (by omega) (by first | (simp; done) | omega | (simp; omega))) ?_
   refine K.a (K.QR.ldN [.slice ((A.getD i dStE).q) ((A.getD i dStE).S.q.length) ((A.getD i dStE).cq), .slice ((A.getD i dStE).s) ((A.getD i dStE).S.s.length) ((A.getD i dStE).cs), .slice ((A.getD i dStE).m) ((A.getD i dStE).S.m.length) ((A.getD i dStE).cm)] rfl rfl (by kernel_rfl) (by kernel_rfl) (K.cells (K.cl ((ha _ (hS.pick [0])).ld i (by omega) 0 _ rfl) (K.cl ((ha _ (hS.pick [0])).ld i (by omega) 1 _ rfl) (K.cl ((ha _ (hS.pick [0])).ld i (by omega) 2 _ rfl) K.cl0))))) ?_
   refine K.l (K.OW.gcallw hS [1, 2] [0, 3] [.agg #[.slice ((A.getD i dStE).q) ((A.getD i dStE).S.q.length) ((A.getD i dStE).cq), .slice ((A.getD i dStE).s) ((A.getD i dStE).S.s.length) ((A.getD i dStE).cs), .slice ((A.getD i dStE).m) ((A.getD i dStE).S.m.length) ((A.getD i dStE).cm)], K.pa bt] (ends1f_ok _ bt _ _ (A.getD i dStE).q (A.getD i dStE).s (A.getD i dStE).m q' s' m' ((A.getD i dStE).cq) ((A.getD i dStE).cs) ((A.getD i dStE).cm) cq' cs' cm' ((A.getD i dStE).S) T hgt (hal i (by omega)) y hz.1 hz.2.1 hz.2.2.1) ?_)
   clear hS; rintro _ _ w ⟨rfl, (⟨h_8, rfl⟩ | ⟨h_9, rfl⟩)⟩ hS
   ·
    replace hS : K.Sat w0 [gt, g, ga, fr] w := hS
    refine K.z (K.t (K.h (K.s (K.g (K.q [K.iv ((i : Nat) : Int), K.iv ((i : Nat) : Int)] (K.z (K.t (K.r ?_))))))))
    refine K.blk_ret ?_
    refine K.u (K.u ?_)
    refine K.blk_ret ?_
    refine K.u ?_
    refine ⟨.inr rfl, rfl, (K.iv ((i : Nat) : Int)), K.res1 rfl rfl, [ga, gt, g], ?_, hS.pick [2, 0, 1, 3]⟩
    exact ⟨rfl, .inl ⟨⟨i, by omega, h_8⟩, _, by omega, rfl⟩⟩
   ·
    replace hS : K.Sat w0 [gt, g, ga, fr] w := hS
    refine K.z (K.t (K.f (K.k ?_)))
    refine K.blk_normal ?_
    refine K.t (K.g ?_)
    refine K.a (K.QR.n64 ((((i : Nat) : Int) : Int) + (1 : Int)) ((i + 1 : Nat) : Int) (by kernel_rfl) (by omega)) ?_
    refine K.q [K.iv ((i + 1 : Nat) : Int)] (K.z (K.t ?_))
    refine ⟨_, ?_, i + 1, rfl, ⟨by rfl, by rfl, by rfl, by rfl, by rfl, trivial⟩, (by omega), (K.all_snoc hno h_9), hS.pick [2, 0, 1, 3]⟩
    omega
  ·
   refine K.x ((((i : Nat) : Int) : Int) < (((A.length : Nat) : Int) : Int)) h_5 ?_
   refine K.z (K.t (K.s (K.f ?_)))
   refine K.KW.exit ?_
   refine K.thn_exit ?_
   refine K.thn_exit ?_
   refine K.blk_hit ?_
   refine K.t (K.s (K.g (K.q [K.iv (-1)] (K.z (K.t (K.r ?_))))))
   refine ⟨.inr rfl, rfl, (K.iv (-1)), K.res1 rfl rfl, [ga, gt, g], ?_, hS.pick [0, 1, 2, 3]⟩
   exact ⟨rfl, .inr ⟨by rintro ⟨k, hk, he⟩; exact hno k (by omega) he, rfl⟩⟩
set_option maxHeartbeats 1000000 in
set_option maxRecDepth 100000 in
theorem hasst_ok (w0 : World) (aa : Option Addr) (ca : Nat) (A : List StE) (hmA : A.length ≤ 100000000) (ga : K.Cs) (ha : ∀ w, K.Sat w0 [ga] w → K.RowE w aa A.length 3 (fun i => cStE (A.getD i dStE))) (bt : Nat) (gt g : K.Cs) (q' s' m' : Option Addr) (cq' cs' cm' : Nat) (T : StM) (hgt : gt = [K.pt bt 30 [.slice q' T.q.length cq', .slice s' T.s.length cs', .slice m' T.m.length cm']]) (hal : AllRd w0 g A) (y : RdSt w0 g q' s' m' cq' T) (hsz : ∀ i, i < A.length → goodS 1000000 (A.getD i dStE).S) :
  K.GC Try.prog w0 35 #[.slice aa A.length ca, .func (.func 36) [].toArray [K.pa bt].toArray] [ga, gt, g] (fun v post => post = [ga, gt, g] ∧ ((inE A T ∧ v = .bool true) ∨ (¬ (inE A T) ∧ v = .bool false))) := by
 refine K.GC.mk (n := 9) Try.func35 rfl rfl [.slice aa A.length ca, .func (.func 36) [].toArray [K.pa bt].toArray] rfl rfl ?_
 intro fr w hS
 replace hS : K.Sat w0 [ga, gt, g, fr] w := hS
 refine K.s (K.g (K.q [.bool false] (K.z (K.t (K.s (K.g (K.q [.slice aa A.length ca, .func (.func 36) [].toArray [K.pa bt].toArray] ?_)))))))
 refine K.l (K.OW.gcall hS [0, 1, 2] [3] [.slice aa A.length ca, .func (.func 36) [].toArray [K.pa bt].toArray] (ixst_ok _ aa ca A (by omega) _ ha bt _ _ q' s' m' cq' cs' cm' T hgt hal y hsz) ?_)
 clear hS; rintro _ _ w ⟨rfl, (⟨h_1, k_2, hk_3, rfl⟩ | ⟨h_4, rfl⟩)⟩ hS
 ·
  replace hS : K.Sat w0 [ga, gt, g, fr] w := hS
  refine K.y ((k_2 : Int) ≥ (0 : Int)) (by omega) ?_
  refine K.q [.bool true] (K.z (K.t (K.r ?_)))
  refine ⟨.inr rfl, rfl, (.bool true), K.res1 rfl rfl, [ga, gt, g], ?_, hS.pick [0, 1, 2, 3]⟩
  exact ⟨rfl, .inl ⟨h_1, rfl⟩⟩
 ·
  replace hS : K.Sat w0 [ga, gt, g, fr] w := hS
  refine K.q [.bool false, .bool false] (K.z (K.t (K.r ?_)))
  refine ⟨.inr rfl, rfl, (.bool false), K.res1 rfl rfl, [ga, gt, g], ?_, hS.pick [0, 1, 2, 3]⟩
  exact ⟨rfl, .inr ⟨h_4, rfl⟩⟩
end Go.Proofs.Ytnehocjmgnhhhaa
