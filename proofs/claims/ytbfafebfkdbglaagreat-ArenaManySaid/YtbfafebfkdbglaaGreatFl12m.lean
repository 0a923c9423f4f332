import Derived.Test.YtbfafebfkdbglaaGreatFl12
import Derived.Test.YtbfafebfkdbglaaGreatFlist
/- Layer 12: is each slot free, or held by one? -/
namespace Go.Proofs.YtbfafebfkdbglaaGreat
open Go.RowKit
set_option linter.unusedVariables false
attribute [local irreducible] K.KW K.RW K.DW K.OW K.QR K.KC
theorem hs_at {α : Type} {hs : List α} {t : Nat} (h : t < hs.length) : ∃ x, hs[t]? = some x := ⟨hs[t], List.getElem?_eq_getElem h⟩
def cRaw12 (l : List Value) : List Value := l
def handElA (b : Nat) : HandA → List Value → K.Cs → Prop
 | .nil, c, g => c = [.pointer none, .pointer none] ∧ g = []
 | .tk S, c, g => ∃ p, c = [.pointer (some ⟨p, 0, none⟩), .pointer none] ∧ TkEl p b S g
 | .gv S, c, g => ∃ p, c = [.pointer none, .pointer (some ⟨p, 0, none⟩)] ∧ GvEl p b S g
theorem handElA_cells {b : Nat} {h : HandA} {c : List Value} {g : K.Cs} (e : handElA b h c g) : ∃ u v : Option Addr, c = [.pointer u, .pointer v] := by
 cases h with
 | nil => exact ⟨_, _, e.1⟩
 | tk S => obtain ⟨p, rfl, _⟩ := e; exact ⟨_, _, rfl⟩
 | gv S => obtain ⟨p, rfl, _⟩ := e; exact ⟨_, _, rfl⟩
theorem listL_ok (w0 : World) (b pm q n t : Nat) (c : Cfg) (hc : cfgOk c) (hf : c.sl ≤ 65536) (M : MemM) (gl l : K.Cs) (hgl : gl = layPt b c) (x : MemAt l pm q n t M) (hM : M.good) (hP : (M.pass.length : Int) = 2 + c.th + c.sl) (L : List Int) (hL : listG c n M = (L, true)) :
  K.GC Tryz.prog w0 47 #[.pointer (some ⟨b, 0, none⟩), .pointer (some ⟨pm, 0, none⟩)] [gl, l] (fun v post => ∃ r cc l2, v = .tuple #[.slice r L.length cc, .bool true] ∧ post = [gl, l, l2] ∧ K.OwnG l2 3 1 r L.length cc (L.flatMap cI64)) := by
 have h := list_ok w0 b pm q n t c hc hf M gl l hgl x hM hP
 rw [hL] at h
 exact h
set_option maxHeartbeats 1000000 in
set_option maxRecDepth 100000 in
theorem holdsT_ok (w0 : World) (p b : Nat) (c : Cfg) (S : TkS) (g : K.Cs) (hg : TkEl p b S g) (hS : S.good c) :
  K.GC Tryz.prog w0 105 #[.agg #[.pointer (some ⟨p, 0, none⟩), .pointer none]] [g] (fun v post => v = .int .i64 (tkHolds S) ∧ post = [g]) := by
 refine K.GC.mk (n := 12) Tryz.func105 rfl rfl [.agg #[.pointer (some ⟨p, 0, none⟩), .pointer none]] rfl rfl ?_
 intro fr w hS
 replace hS : K.Sat w0 [g, fr] w := hS
 refine K.s (K.g ?_)
 refine K.l (K.OW.gnew 101 [.pointer (some ⟨p, 0, none⟩), .pointer none] hS ?_)
 clear hS; intro w r_1 g_2 hg_3 hS
 refine K.q [.int .i64 0] (K.z (K.t (K.s (K.s (K.g (K.q [.pointer (some ⟨r_1, 0, none⟩)] ?_))))))
 refine K.d (.pointer (some ⟨p, 0, none⟩)) ((hS.blk 0 rfl hg_3).cell rfl) ?_
 refine K.q [.bool true] (K.z (K.t (K.h (K.s (K.g (K.q [.pointer (some ⟨r_1, 0, none⟩)] ?_))))))
 refine K.d (.pointer (some ⟨p, 0, none⟩)) ((hS.blk 0 rfl hg_3).cell rfl) ?_
 refine K.l (K.OW.gcall hS [1] [0, 2] [.pointer (some ⟨p, 0, none⟩)] (tkHoldsE_ok _ _ _ c S _ hg (by assumption)) ?_)
 clear hS; rintro _ _ w ⟨rfl, rfl⟩ hS
 replace hS : K.Sat w0 [g, g_2, fr] w := hS
 refine K.q [.int .i64 (tkHolds S)] (K.z (K.t (K.r (K.u ?_))))
 refine ⟨.inr rfl, rfl, (.int .i64 (tkHolds S)), K.res1 rfl rfl, [g], ?_, hS.pick [0, 2]⟩
 exact ⟨rfl, rfl⟩
set_option maxHeartbeats 1000000 in
set_option maxRecDepth 100000 in
theorem holdsG_ok (w0 : World) (p b : Nat) (S : GvS) (g : K.Cs) (hg : GvEl p b S g) :
  K.GC Tryz.prog w0 105 #[.agg #[.pointer none, .pointer (some ⟨p, 0, none⟩)]] [g] (fun v post => v = .int .i64 (if S.done = true then -1 else S.slot) ∧ post = [g]) := by
 refine K.GC.mk (n := 12) Tryz.func105 rfl rfl [.agg #[.pointer none, .pointer (some ⟨p, 0, none⟩)]] rfl rfl ?_
 intro fr w hS
 replace hS : K.Sat w0 [g, fr] w := hS
 refine K.s (K.g ?_)
 refine K.l (K.OW.gnew 101 [.pointer none, .pointer (some ⟨p, 0, none⟩)] hS ?_)
 clear hS; intro w r_1 g_2 hg_3 hS
 refine K.q [.int .i64 0] (K.z (K.t (K.s (K.s (K.g (K.q [.pointer (some ⟨r_1, 0, none⟩)] ?_))))))
 refine K.d (.pointer none) ((hS.blk 0 rfl hg_3).cell rfl) ?_
 refine K.q [.bool false] (K.z (K.t (K.f (K.k (K.t (K.s (K.g (K.q [.pointer (some ⟨r_1, 1, none⟩)] ?_))))))))
 refine K.d (.pointer (some ⟨p, 0, none⟩)) ((hS.blk 0 rfl hg_3).cell rfl) ?_
 refine K.l (K.OW.gcall hS [1] [0, 2] [.pointer (some ⟨p, 0, none⟩)] (gvHoldsE_ok _ _ _ S _ hg) ?_)
 clear hS; rintro _ _ w ⟨rfl, rfl⟩ hS
 replace hS : K.Sat w0 [g, g_2, fr] w := hS
 refine K.q [.int .i64 (if S.done = true then -1 else S.slot)] (K.z (K.t (K.r ?_)))
 refine ⟨.inr rfl, rfl, (.int .i64 (if S.done = true then -1 else S.slot)), K.res1 rfl rfl, [g], ?_, hS.pick [0, 2]⟩
 exact ⟨rfl, rfl⟩
theorem holdsE_ok (w0 : World) (b : Nat) (c : Cfg) (t : Int) (h : HandA) (u v : Option Addr) (g : K.Cs) (hel : handElA b h [.pointer u, .pointer v] g) (hok : h.ok c t) :
  K.GC Tryz.prog w0 105 #[.agg #[.pointer u, .pointer v]] [g] (fun vv post => vv = .int .i64 h.held ∧ post = [g]) := by
 cases h with
 | nil => exact hok.elim
 | tk S =>
  obtain ⟨p, he, hg⟩ := hel
  simp only [List.cons.injEq, Value.pointer.injEq, and_true] at he
  obtain ⟨rfl, rfl⟩ := he
  rw [← tkHolds_ok hok]
  exact holdsT_ok w0 p b c S g hg hok.2.1
 | gv S =>
  obtain ⟨p, he, hg⟩ := hel
  simp only [List.cons.injEq, Value.pointer.injEq, and_true] at he
  obtain ⟨rfl, rfl⟩ := he
  rw [← gvHolds_ok2 hok]
  exact holdsG_ok w0 p b S g hg
theorem take_heldA {hs : List HandA} {k : Nat} {h : HandA} (hk : hs[k]? = some h) : (hs.take (k + 1)).map HandA.held = (hs.take k).map HandA.held ++ [h.held] := by
 obtain ⟨h1, h2⟩ := List.getElem?_eq_some_iff.1 hk
 rw [List.take_succ_eq_append_getElem h1, List.map_append, h2]; rfl
set_option maxHeartbeats 1000000 in
set_option maxRecDepth 100000 in
theorem once12_ok (w0 : World) (b pm q n t : Nat) (c : Cfg) (hc : cfgOk c) (hf : c.sl ≤ 30) (M : MemM) (gl l hd : K.Cs) (hgl : gl = layPt b c) (x : MemAt l pm q n t M) (hM : M.good) (hP : (M.pass.length : Int) = 2 + c.th + c.sl) (r : Nat) (hs : List HandA) (N : Nat) (hN : hs.length = N) (hN2 : N ≤ 100) (xh : K.Hands (handElA b) 101 2 hd (some ⟨r, 0, none⟩) hs) (L : List Int) (hL : listG c n M = (L, true)) (hrg : ∀ s ∈ L, 0 ≤ s ∧ s < c.sl) (hLl : L.length ≤ 100) (hhe : ∀ (k : Nat) h, hs[k]? = some h → -1 ≤ h.held ∧ h.held < c.sl) (hok : ∀ (k : Nat) h, hs[k]? = some h → h.ok c (k : Int)) (hcn : ∀ s : Int, 0 ≤ s → s < c.sl → L.count s + (hs.map HandA.held).count s = 1) :
  K.GC Tryz.prog w0 50 #[.pointer (some ⟨b, 0, none⟩), .pointer (some ⟨pm, 0, none⟩), .slice (some ⟨r, 0, none⟩) N N, .int .i64 c.sl] [gl, l, hd] (fun v post => ∃ hd', v = .bool true ∧ post = [gl, l, hd'] ∧ K.Hands (handElA b) 101 2 hd' (some ⟨r, 0, none⟩) hs) := by
 have hcc := hc
 unfold cfgOk at hcc
 refine K.GC.mk (n := 85) Tryz.func50 rfl rfl [.pointer (some ⟨b, 0, none⟩), .pointer (some ⟨pm, 0, none⟩), .slice (some ⟨r, 0, none⟩) N N, .int .i64 c.sl] rfl rfl ?_
 intro fr w hS
 replace hS : K.Sat w0 [gl, l, hd, fr] w := hS
 refine K.s (K.g (K.q [.bool false] (K.z (K.t (K.s (K.g (K.q [.pointer (some ⟨b, 0, none⟩), .pointer (some ⟨pm, 0, none⟩)] ?_)))))))
 refine K.l (K.OW.gcall hS [0, 1] [2, 3] [.pointer (some ⟨b, 0, none⟩), .pointer (some ⟨pm, 0, none⟩)] (listL_ok _ _ _ _ _ _ c (by first | assumption | (unfold cfgOk; decide)) (by omega) M _ _ hgl x (by assumption) (by assumption) L hL) ?_)
 clear hS; rintro _ _ w ⟨r_1, c_2, l_3, rfl, rfl, o_4⟩ hS
 replace hS : K.Sat w0 [gl, l, l_3, hd, fr] w := hS
 refine K.q [.tuple #[.slice r_1 L.length c_2, .bool true], .slice r_1 L.length c_2, .bool true, .slice r_1 L.length c_2, .bool true] (K.z (K.t (K.s (K.g ?_))))
 refine K.a (K.QR.turn (v := .int .i64 c.sl) (K.QR.k (v := .int .i64 c.sl) (by kernel_rfl)) (congrArg (Value.int .i64) (show (c.sl : Int) = (((c.sl.toNat : Nat) : Int) : Int) from by omega))) ?_
 refine K.l (K.OW.gmk (P := Tryz.prog) (m := c.sl.toNat) (cc := cI64) (z := .int .i64 0) (size := 1) (bytes := 8) (0 : Int) hS ?_ Tryz.underlying44 (by kernel_rfl) rfl rfl (by unfold maxLen; omega) (by omega))
 clear hS; intro w r_5 l_6 o_7 hS
 refine K.q [.slice (some ⟨r_5, 0, none⟩) c.sl.toNat c.sl.toNat] (K.z (K.t (K.s (K.s (K.g (K.q [.int .i64 0] (K.z (K.t ?_))))))))
 refine K.KW.block ?_
 refine K.KW.loop (fun m_ F_ w_ => ∃ (i : Nat) (ca : K.Cs), m_ = L.length - i ∧ K.Sl F_ [(0, .pointer (some ⟨b, 0, none⟩)), (1, .pointer (some ⟨pm, 0, none⟩)), (2, .slice (some ⟨r, 0, none⟩) N N), (3, .int .i64 c.sl), (9, .slice r_1 L.length c_2), (10, .bool true), (11, .slice (some ⟨r_5, 0, none⟩) c.sl.toNat c.sl.toNat), (12, .int .i64 ((i : Nat) : Int)), (85, undef)] ∧ i ≤ L.length ∧ K.OwnG ca 3 1 (some ⟨r_5, 0, none⟩) c.sl.toNat c.sl.toNat (((cntT c.sl.toNat (L.take i) [])).flatMap cI64) ∧ K.Sat w0 [ca, gl, l, l_3, hd, fr] w_) ((fun (i : Nat) => L.length - i) 0) ?_ ?_
 ·
  exact ⟨0, l_6, rfl, ⟨by rfl, by rfl, by rfl, by rfl, by rfl, by rfl, by rfl, by rfl, by rfl, trivial⟩, (by omega), (by rw [show L.take 0 = [] from rfl, ← cntT_nil]; exact o_7), hS.pick [0, 1, 2, 3, 4, 5]⟩
 ·
  clear hS
  intro m_8 F_9 w hI
  obtain ⟨i, ca, rfl, sl_10, p_11, x_12, hS⟩ := hI
  rw [← K.Sl.puts sl_10]; clear sl_10
  refine K.s (K.s (K.g (K.q [.int .i64 ((i : Nat) : Int), .slice r_1 L.length c_2] ?_)))
  refine K.a (K.QR.len (P := Tryz.prog) rfl rfl Tryz.underlying44) ?_
  by_cases h_13 : (((i : Nat) : Int) : Int) < (((L.length : Nat) : Int) : Int)
  ·
   refine K.y ((((i : Nat) : Int) : Int) < (((L.length : Nat) : Int) : Int)) h_13 ?_
   refine K.z (K.t (K.h (K.k (K.t (K.s ?_)))))
   refine K.KW.block ?_
   refine K.s (K.s ?_)
   have hxr := hrg _ (mem_getDI (xs := L) (k := i) (by omega) rfl)
   have hg1 := cntT_get (N := c.sl.toNat) (L := L.take i) (hs := []) (s := L.getD i 0) (by omega)
   have hb1 : (L.take i).count (L.getD i 0) ≤ L.length := Nat.le_trans (count_le _ _) (by rw [List.length_take]; omega)
   obtain ⟨b_14, rfl⟩ := o_4.some_ (by have := o_4.le; omega)
   refine K.g (K.q [.slice (some ⟨b_14, 0, none⟩) L.length c_2, .int .i64 ((i : Nat) : Int)] ?_)
   refine K.a (K.QR.ix i 1 rfl rfl rfl Tryz.underlying44 (by kernel_rfl) (by omega) (by first | (simp; done) | omega | (simp; omega))) ?_
   refine K.d (.int .i64 (L.getD i 0)) (K.Own.atS (c := cI64) (d := 0) (fun _ => rfl) (hS.ownr 3 rfl o_4) rfl i (by omega)) ?_
   refine K.x ((L.getD i 0 : Int) < (0 : Int)) (by omega) ?_
   refine K.q [.bool false, .slice (some ⟨b_14, 0, none⟩) L.length c_2, .int .i64 ((i : Nat) : Int)] ?_
   refine K.a (K.QR.ix i 1 rfl rfl rfl Tryz.underlying44 (by kernel_rfl) (by omega) (by first | (simp; done) | omega | (simp; omega))) ?_
   refine K.d (.int .i64 (L.getD i 0)) (K.Own.atS (c := cI64) (d := 0) (fun _ => rfl) (hS.ownr 3 rfl o_4) rfl i (by omega)) ?_
   refine K.q [.int .i64 c.sl] ?_
   refine K.x ((L.getD i 0 : Int) ≥ (c.sl : Int)) (by omega) ?_
   refine K.q [.bool false] (K.z (K.t (K.f (K.k (K.t (K.g (K.q [.slice (some ⟨r_5, 0, none⟩) c.sl.toNat c.sl.toNat, .slice (some ⟨b_14, 0, none⟩) L.length c_2, .int .i64 ((i : Nat) : Int)] ?_)))))))
   refine K.a (K.QR.ix i 1 rfl rfl rfl Tryz.underlying44 (by kernel_rfl) (by omega) (by first | (simp; done) | omega | (simp; omega))) ?_
   refine K.d (.int .i64 (L.getD i 0)) (K.Own.atS (c := cI64) (d := 0) (fun _ => rfl) (hS.ownr 3 rfl o_4) rfl i (by omega)) ?_
   refine K.a (K.QR.ix ((L.getD i 0).toNat) 1 rfl rfl rfl Tryz.underlying44 (by kernel_rfl) (by omega) (by first | (simp; done) | omega | (simp; omega))) ?_
   refine K.d (.int .i64 ((cntT c.sl.toNat (L.take i) []).getD ((L.getD i 0).toNat) 0)) (K.Own.atS (c := cI64) (d := 0) (fun _ => rfl) (hS.ownr 0 rfl x_12) (cntT_len c.sl.toNat (L.take i) []) ((L.getD i 0).toNat) (by omega)) ?_
   refine K.a (K.QR.n64 (((cntT c.sl.toNat (L.take i) []).getD (L.getD i 0).toNat 0 : Int) + (1 : Int)) ((((L.take i).count (L.getD i 0) + ([] : List Int).count (L.getD i 0) : Nat) : Int) + 1) (by kernel_rfl) (by rw [hg1]; have h0 : ([] : List Int).count (L.getD i 0) = 0 := rfl; omega)) ?_
   refine K.a (K.QR.ix ((L.getD i 0).toNat) 1 rfl rfl rfl Tryz.underlying44 (by kernel_rfl) (by omega) (by first | (simp; done) | omega | (simp; omega))) ?_
   refine K.l (K.OW.grst 0 ((L.getD i 0).toNat) [.int .i64 ((((L.take i).count (L.getD i 0) + ([] : List Int).count (L.getD i 0) : Nat) : Int) + 1)] ((((cntT c.sl.toNat (L.take i) []).set ((L.getD i 0).toNat) ((((L.take i).count (L.getD i 0) + ([] : List Int).count (L.getD i 0) : Nat) : Int) + 1))).flatMap cI64) hS x_12 ?_ (by show _ + 1 ≤ _; omega) (K.set1 (c := cI64) (cntT c.sl.toNat (L.take i) []) ((L.getD i 0).toNat) ((((L.take i).count (L.getD i 0) + ([] : List Int).count (L.getD i 0) : Nat) : Int) + 1) (by have := (cntT_len c.sl.toNat (L.take i) []); omega)))
   clear hS; intro w l_16 o_17 hS
   have ln_18 : (((cntT c.sl.toNat (L.take i) []).set ((L.getD i 0).toNat) ((((L.take i).count (L.getD i 0) + ([] : List Int).count (L.getD i 0) : Nat) : Int) + 1))).length = _ := (List.length_set).trans (cntT_len c.sl.toNat (L.take i) [])
   replace hS : K.Sat w0 [l_16, gl, l, l_3, hd, fr] w := hS
   refine K.z ?_
   refine K.blk_normal ?_
   refine K.t (K.g (K.q [.int .i64 ((i : Nat) : Int)] ?_))
   refine K.a (K.QR.n64 ((((i : Nat) : Int) : Int) + (1 : Int)) ((i + 1 : Nat) : Int) (by kernel_rfl) (by omega)) ?_
   refine K.q [.int .i64 ((i + 1 : Nat) : Int)] (K.z (K.t ?_))
   refine ⟨_, ?_, i + 1, l_16, rfl, ⟨by rfl, by rfl, by rfl, by rfl, by rfl, by rfl, by rfl, by rfl, by rfl, trivial⟩, (by omega), (by rw [take_snocZ (by omega), ← cntT_setL (by omega)]; exact o_17), hS.pick [0, 1, 2, 3, 4, 5]⟩
   omega
  ·
   refine K.x ((((i : Nat) : Int) : Int) < (((L.length : Nat) : Int) : Int)) h_13 ?_
   refine K.z (K.t (K.f ?_))
   refine K.KW.exit ?_
   refine K.thn_exit ?_
   refine K.thn_exit ?_
   refine K.blk_hit ?_
   refine K.t (K.s (K.s (K.g (K.q [.int .i64 0] (K.z (K.t ?_))))))
   refine K.KW.block ?_
   have eL : L.take i = L := List.take_of_length_le (by omega)
   refine K.KW.loop (fun m_ F_ w_ => ∃ (k : Nat) (cb : K.Cs) (hd2 : K.Cs), m_ = N - k ∧ K.Sl F_ [(0, .pointer (some ⟨b, 0, none⟩)), (1, .pointer (some ⟨pm, 0, none⟩)), (2, .slice (some ⟨r, 0, none⟩) N N), (3, .int .i64 c.sl), (10, .bool true), (11, .slice (some ⟨r_5, 0, none⟩) c.sl.toNat c.sl.toNat), (13, .int .i64 ((k : Nat) : Int)), (85, undef)] ∧ k ≤ N ∧ K.OwnG cb 3 1 (some ⟨r_5, 0, none⟩) c.sl.toNat c.sl.toNat (((cntT c.sl.toNat L ((hs.take k).map HandA.held))).flatMap cI64) ∧ K.Hands (handElA b) 101 2 hd2 ((some ⟨r, 0, none⟩)) hs ∧ K.Sat w0 [cb, gl, l, l_3, hd2, fr] w_) ((fun (k : Nat) => N - k) 0) ?_ ?_
   ·
    exact ⟨0, ca, hd, rfl, ⟨by rfl, by rfl, by rfl, by rfl, by rfl, by rfl, by rfl, by rfl, trivial⟩, (by omega), (by rw [show (hs.take 0).map HandA.held = [] from rfl, ← eL]; exact x_12), xh, hS.pick [0, 1, 2, 3, 4, 5]⟩
   ·
    clear hS
    intro m_19 F_20 w hI
    obtain ⟨k, cb, hd2, rfl, sl_21, p_22, x_23, x_24, hS⟩ := hI
    rw [← K.Sl.puts sl_21]; clear sl_21
    refine K.s (K.s (K.g (K.q [.int .i64 ((k : Nat) : Int), .slice (some ⟨r, 0, none⟩) N N] ?_)))
    refine K.a (K.QR.len (P := Tryz.prog) rfl rfl Tryz.underlying98) ?_
    by_cases h_25 : (((k : Nat) : Int) : Int) < (((N : Nat) : Int) : Int)
    ·
     refine K.y ((((k : Nat) : Int) : Int) < (((N : Nat) : Int) : Int)) h_25 ?_
     refine K.z (K.t (K.h (K.k (K.t (K.s ?_)))))
     refine K.KW.block ?_
     refine K.s ?_
     obtain ⟨h1, hk1⟩ := hs_at (hs := hs) (t := k) (by omega)
     have hhb := hhe k h1 hk1
     have hok1 := hok k h1 hk1
     obtain ⟨row_26, hA_27, hg_28, hB_29, cs_30, rfl, hcs_31, hall_32, htl_33, hct_34, hel_35, how_36, hcl_37⟩ := x_24.open_ k h1 hk1
     replace hS : K.Sat w0 [cb, gl, l, l_3, row_26, hA_27, hg_28, hB_29, fr] w := hS.of
     obtain ⟨u, v, hce⟩ := handElA_cells hel_35
     rw [hce] at hel_35
     rw [hce] at how_36
     refine K.g (K.q [.slice (some ⟨r, 0, none⟩) N N, .int .i64 ((k : Nat) : Int)] ?_)
     refine K.a (K.QR.ix (0 + k * 2) 2 rfl rfl rfl Tryz.underlying98 (by kernel_rfl) (by omega) (by first | (simp; done) | omega | (simp; omega))) ?_
     refine K.a (K.QR.ldN [.pointer u, .pointer v] rfl rfl (by kernel_rfl) (by kernel_rfl) (K.cells (K.cl (K.row_at0 (j := 0) (hS.ownr 4 rfl how_36) hcs_31 hall_32 rfl htl_33 rfl) (K.cl (K.row_at0 (j := 1) (hS.ownr 4 rfl how_36) hcs_31 hall_32 rfl htl_33 rfl) K.cl0)))) ?_
     refine K.l (K.OW.gcall hS [6] [0, 1, 2, 3, 4, 5, 7, 8] [.agg #[.pointer u, .pointer v]] (holdsE_ok _ _ c (k : Int) h1 u v _ hel_35 hok1) ?_)
     clear hS; rintro _ _ w ⟨rfl, rfl⟩ hS
     replace hS : K.Sat w0 [hg_28, cb, gl, l, l_3, row_26, hA_27, hB_29, fr] w := hS
     refine K.q [.int .i64 h1.held] (K.z (K.t (K.s (K.s (K.g (K.q [.int .i64 h1.held, .int .i64 c.sl] ?_))))))
     refine K.x ((h1.held : Int) ≥ (c.sl : Int)) (by omega) ?_
     refine K.z (K.t (K.f (K.k (K.t (K.s (K.g (K.q [.int .i64 h1.held] ?_)))))))
     by_cases h_38 : (h1.held : Int) ≥ (0 : Int)
     ·
      refine K.y ((h1.held : Int) ≥ (0 : Int)) h_38 ?_
      refine K.z (K.t (K.h ?_))
      have hd_39 : K.Hands (handElA b) 101 2 (row_26 ++ (hA_27 ++ ([hg_28].flatten ++ hB_29))) ((some ⟨r, 0, none⟩)) (hs.set k h1) := hcl_37 _ _ _ [.pointer u, .pointer v] rfl (by simpa using hel_35) how_36
      replace hS : K.Sat w0 [(row_26 ++ (hA_27 ++ ([hg_28].flatten ++ hB_29))), cb, gl, l, l_3, fr] w := (hS.pick [5, 6, 0, 7, 1, 2, 3, 4, 8]).of (by simp [K.pick, K.nth])
      generalize (row_26 ++ (hA_27 ++ ([hg_28].flatten ++ hB_29))) = ld_40 at hS hd_39
      rw [K.hs_self hk1] at hd_39
      have hg2 := cntT_get (N := c.sl.toNat) (L := L) (hs := (hs.take k).map HandA.held) (s := h1.held) (by omega)
      have hb2 := count_le L h1.held
      have hb3 : ((hs.take k).map HandA.held).count h1.held ≤ N := Nat.le_trans (count_le _ _) (by rw [List.length_map, List.length_take]; omega)
      refine K.g (K.q [.slice (some ⟨r_5, 0, none⟩) c.sl.toNat c.sl.toNat, .int .i64 h1.held] ?_)
      refine K.a (K.QR.ix h1.held.toNat 1 rfl rfl rfl Tryz.underlying44 (by kernel_rfl) (by omega) (by first | (simp; done) | omega | (simp; omega))) ?_
      refine K.d (.int .i64 ((cntT c.sl.toNat L ((hs.take k).map HandA.held)).getD h1.held.toNat 0)) (K.Own.atS (c := cI64) (d := 0) (fun _ => rfl) (hS.ownr 1 rfl x_23) (cntT_len c.sl.toNat L ((hs.take k).map HandA.held)) h1.held.toNat (by omega)) ?_
      refine K.a (K.QR.n64 (((cntT c.sl.toNat L ((hs.take k).map HandA.held)).getD h1.held.toNat 0 : Int) + (1 : Int)) (((L.count h1.held + ((hs.take k).map HandA.held).count h1.held : Nat) : Int) + 1) (by kernel_rfl) (by rw [hg2]; omega)) ?_
      refine K.a (K.QR.ix h1.held.toNat 1 rfl rfl rfl Tryz.underlying44 (by kernel_rfl) (by omega) (by first | (simp; done) | omega | (simp; omega))) ?_
      refine K.l (K.OW.grst 1 h1.held.toNat [.int .i64 (((L.count h1.held + ((hs.take k).map HandA.held).count h1.held : Nat) : Int) + 1)] ((((cntT c.sl.toNat L ((hs.take k).map HandA.held)).set h1.held.toNat (((L.count h1.held + ((hs.take k).map HandA.held).count h1.held : Nat) : Int) + 1))).flatMap cI64) hS x_23 ?_ (by show _ + 1 ≤ _; omega) (K.set1 (c := cI64) (cntT c.sl.toNat L ((hs.take k).map HandA.held)) h1.held.toNat (((L.count h1.held + ((hs.take k).map HandA.held).count h1.held : Nat) : Int) + 1) (by have := (cntT_len c.sl.toNat L ((hs.take k).map HandA.held)); omega)))
      clear hS; intro w l_41 o_42 hS
      have ln_43 : (((cntT c.sl.toNat L ((hs.take k).map HandA.held)).set h1.held.toNat (((L.count h1.held + ((hs.take k).map HandA.held).count h1.held : Nat) : Int) + 1))).length = _ := (List.length_set).trans (cntT_len c.sl.toNat L ((hs.take k).map HandA.held))
      replace hS : K.Sat w0 [ld_40, l_41, gl, l, l_3, fr] w := hS
      refine K.z ?_
      refine K.blk_normal ?_
      refine K.t (K.g (K.q [.int .i64 ((k : Nat) : Int)] ?_))
      refine K.a (K.QR.n64 ((((k : Nat) : Int) : Int) + (1 : Int)) ((k + 1 : Nat) : Int) (by kernel_rfl) (by omega)) ?_
      refine K.q [.int .i64 ((k + 1 : Nat) : Int)] (K.z (K.t ?_))
      refine ⟨_, ?_, k + 1, l_41, ld_40, rfl, ⟨by rfl, by rfl, by rfl, by rfl, by rfl, by rfl, by rfl, by rfl, trivial⟩, (by omega), (by rw [take_heldA hk1, ← cntT_setH (by omega)]; exact o_42), hd_39, hS.pick [1, 2, 3, 4, 0, 5]⟩
      omega
     ·
      refine K.x ((h1.held : Int) ≥ (0 : Int)) h_38 ?_
      refine K.z (K.t (K.f (K.k ?_)))
      refine K.blk_normal ?_
      refine K.t ?_
      have hd_44 : K.Hands (handElA b) 101 2 (row_26 ++ (hA_27 ++ ([hg_28].flatten ++ hB_29))) ((some ⟨r, 0, none⟩)) (hs.set k h1) := hcl_37 _ _ _ [.pointer u, .pointer v] rfl (by simpa using hel_35) how_36
      replace hS : K.Sat w0 [(row_26 ++ (hA_27 ++ ([hg_28].flatten ++ hB_29))), cb, gl, l, l_3, fr] w := (hS.pick [5, 6, 0, 7, 1, 2, 3, 4, 8]).of (by simp [K.pick, K.nth])
      generalize (row_26 ++ (hA_27 ++ ([hg_28].flatten ++ hB_29))) = ld_45 at hS hd_44
      rw [K.hs_self hk1] at hd_44
      refine K.g (K.q [.int .i64 ((k : Nat) : Int)] ?_)
      refine K.a (K.QR.n64 ((((k : Nat) : Int) : Int) + (1 : Int)) ((k + 1 : Nat) : Int) (by kernel_rfl) (by omega)) ?_
      refine K.q [.int .i64 ((k + 1 : Nat) : Int)] (K.z (K.t ?_))
      refine ⟨_, ?_, k + 1, cb, ld_45, rfl, ⟨by rfl, by rfl, by rfl, by rfl, by rfl, by rfl, by rfl, by rfl, trivial⟩, (by omega), (by rw [take_heldA hk1, ← cntT_skip (by omega)]; exact x_23), hd_44, hS.pick [1, 2, 3, 4, 0, 5]⟩
      omega
    ·
     refine K.x ((((k : Nat) : Int) : Int) < (((N : Nat) : Int) : Int)) h_25 ?_
     refine K.z (K.t (K.f ?_))
     refine K.KW.exit ?_
     refine K.thn_exit ?_
     refine K.thn_exit ?_
     refine K.blk_hit ?_
     refine K.t (K.s (K.s (K.g (K.q [.int .i64 0] (K.z (K.t ?_))))))
     refine K.KW.block ?_
     have eH : hs.take k = hs := List.take_of_length_le (by omega)
     refine K.KW.loop (fun m_ F_ w_ => ∃ (s : Nat) (cc : K.Cs), m_ = c.sl.toNat - s ∧ K.Sl F_ [(0, .pointer (some ⟨b, 0, none⟩)), (1, .pointer (some ⟨pm, 0, none⟩)), (2, .slice (some ⟨r, 0, none⟩) N N), (3, .int .i64 c.sl), (10, .bool true), (11, .slice (some ⟨r_5, 0, none⟩) c.sl.toNat c.sl.toNat), (15, .int .i64 ((s : Nat) : Int)), (85, undef)] ∧ s ≤ c.sl.toNat ∧ K.OwnG cc 3 1 (some ⟨r_5, 0, none⟩) c.sl.toNat c.sl.toNat (((cntT c.sl.toNat L (hs.map HandA.held))).flatMap cI64) ∧ K.Sat w0 [cc, gl, l, l_3, hd2, fr] w_) ((fun (s : Nat) => c.sl.toNat - s) 0) ?_ ?_
     ·
      exact ⟨0, cb, rfl, ⟨by rfl, by rfl, by rfl, by rfl, by rfl, by rfl, by rfl, by rfl, trivial⟩, (by omega), (by rw [← eH]; exact x_23), hS.pick [0, 1, 2, 3, 4, 5]⟩
     ·
      clear hS
      intro m_46 F_47 w hI
      obtain ⟨s, cc, rfl, sl_48, p_49, x_50, hS⟩ := hI
      rw [← K.Sl.puts sl_48]; clear sl_48
      refine K.s (K.s (K.g (K.q [.int .i64 ((s : Nat) : Int), .int .i64 c.sl] ?_)))
      by_cases h_51 : (((s : Nat) : Int) : Int) < (c.sl : Int)
      ·
       refine K.y ((((s : Nat) : Int) : Int) < (c.sl : Int)) h_51 ?_
       refine K.z (K.t (K.h (K.k (K.t (K.s ?_)))))
       refine K.KW.block ?_
       refine K.s ?_
       have hg3 := cntT_get (N := c.sl.toNat) (L := L) (hs := hs.map HandA.held) (s := (s : Int)) (by omega)
       have hc3 := hcn (s : Int) (by omega) (by omega)
       refine K.g (K.q [.slice (some ⟨r_5, 0, none⟩) c.sl.toNat c.sl.toNat, .int .i64 ((s : Nat) : Int)] ?_)
       refine K.a (K.QR.ix s 1 rfl rfl rfl Tryz.underlying44 (by kernel_rfl) (by omega) (by first | (simp; done) | omega | (simp; omega))) ?_
       refine K.d (.int .i64 ((cntT c.sl.toNat L (hs.map HandA.held)).getD s 0)) (K.Own.atS (c := cI64) (d := 0) (fun _ => rfl) (hS.ownr 0 rfl x_50) (cntT_len c.sl.toNat L (hs.map HandA.held)) s (by omega)) ?_
       refine K.xn ((cntT c.sl.toNat L (hs.map HandA.held)).getD s 0 : Int) (1 : Int) (by have h := hg3; simp only [Int.toNat_natCast] at h; rw [h, hc3]; rfl) ?_
       refine K.z (K.t (K.f (K.k ?_)))
       refine K.blk_normal ?_
       refine K.t (K.g (K.q [.int .i64 ((s : Nat) : Int)] ?_))
       refine K.a (K.QR.n64 ((((s : Nat) : Int) : Int) + (1 : Int)) ((s + 1 : Nat) : Int) (by kernel_rfl) (by omega)) ?_
       refine K.q [.int .i64 ((s + 1 : Nat) : Int)] (K.z (K.t ?_))
       refine ⟨_, ?_, s + 1, cc, rfl, ⟨by rfl, by rfl, by rfl, by rfl, by rfl, by rfl, by rfl, by rfl, trivial⟩, (by omega), x_50, hS.pick [0, 1, 2, 3, 4, 5]⟩
       omega
      ·
       refine K.x ((((s : Nat) : Int) : Int) < (c.sl : Int)) h_51 ?_
       refine K.z (K.t (K.f ?_))
       refine K.KW.exit ?_
       refine K.thn_exit ?_
       refine K.thn_exit ?_
       refine K.blk_hit ?_
       refine K.t (K.s (K.g (K.q [.bool true, .bool true] (K.z (K.t (K.r ?_))))))
       refine ⟨.inr rfl, rfl, (.bool true), K.res1 rfl rfl, [gl, l, hd2], ?_, hS.pick [1, 2, 4, 5]⟩
       exact ⟨_, rfl, rfl, x_24⟩
end Go.Proofs.YtbfafebfkdbglaaGreat
