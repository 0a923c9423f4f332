/- The statement SeekAlone. -/
import Derived.Test.YtbfafebfkdbglaaGreatFsl4
import Derived.Test.YtbfafebfkdbglaaGreatKn
namespace Go.Proofs.YtbfafebfkdbglaaGreat
open Go.RowKit
set_option linter.unusedVariables false
attribute [local irreducible] K.KW K.RW K.DW K.OW K.QR K.KC
theorem wnt_len (l : List NodeM) (x : Int) : ∀ j, (wntT l x j).length ≤ j
 | 0 => Nat.le_refl 0
 | j + 1 => by
  have := wnt_len l x j
  unfold wntT
  split
  ·rw [List.length_append]; show _ + 1 ≤ _; omega
  ·omega
theorem ground_put (n t k : Nat) (ps : List PutM) (a w : Int) : groundM n t k (ps ++ [⟨a, w⟩]) = ((groundM n t k ps).accS n 0 a w).1 := ground_snoc n t k ps ⟨a, w⟩
theorem row_ground {c : Cfg} (hc : cfgOk c) {l : List NodeM} {ds : List Bool} {k : Nat} (hl : (l.length : Int) ≤ c.sl) : ∀ m : Nat, m ≤ l.length + 1 →
  (groundM (lns c).toNat c.th.toNat k (rowPs c 32 l ds m)).dev.ok (lns c).toNat c.th.toNat ∧ (0 < m → (groundM (lns c).toNat c.th.toNat k (rowPs c 32 l ds m)).peek (lns c).toNat 32 = some (rowW l ds 0)) ∧
  ∀ j : Nat, j + 1 < m → (groundM (lns c).toNat c.th.toNat k (rowPs c 32 l ds m)).peek (lns c).toNat (nextS c (j : Int)) = some (rowW l ds (j + 1)) ∧ (groundM (lns c).toNat c.th.toNat k (rowPs c 32 l ds m)).peek (lns c).toNat (keyS c (j : Int)) = some (l.getD j nd0).key
 | 0, _ => ⟨fresh_ok hc, fun h => absurd h (by omega), fun j h => absurd h (by omega)⟩
 | m + 1, hm => by
  obtain ⟨h1, h2, h3⟩ := row_ground hc hl (k := k) (ds := ds) m (by omega)
  have hb := lay_bd hc
  generalize hA : rowPs c 32 l ds m = A at h1 h2 h3
  by_cases h0 : 0 < m
  ·have e : rowPs c 32 l ds (m + 1) = (A ++ [⟨keyS c ((m - 1 : Nat) : Int), (l.getD (m - 1) nd0).key⟩]) ++ [⟨nextS c ((m - 1 : Nat) : Int), rowW l ds m⟩] := by
    show rowPs c 32 l ds m ++ rowK c l m ++ [⟨rowAt c 32 m, rowW l ds m⟩] = _
    unfold rowK rowAt; rw [if_pos h0, if_pos h0, hA]
   rw [e, ground_put, ground_put]
   have hk := next_at hc (j := ((m - 1 : Nat) : Int)) (by omega)
   have hok1 := accS_ok (n := (lns c).toNat) (nt := c.th.toNat) (th := 0) (i := keyS c ((m - 1 : Nat) : Int)) (w := (l.getD (m - 1) nd0).key) h1
   refine ⟨accS_ok hok1, fun _ => ?_, fun j hj => ?_⟩
   ·rw [accS_pk hok1.2.1 (by omega), if_neg (by omega), accS_pk h1.2.1 (by omega), if_neg (by omega)]; exact h2 h0
   ·have hjk := next_at hc (j := (j : Int)) (by omega)
    rw [accS_pk hok1.2.1 (by omega), accS_pk hok1.2.1 (by omega), accS_pk h1.2.1 (by omega), accS_pk h1.2.1 (by omega)]
    by_cases hjm : j + 1 = m
    ·have ej : ((m - 1 : Nat) : Int) = (j : Int) := by omega
     rw [ej, if_pos rfl, if_neg (by omega), if_pos rfl, show m - 1 = j by omega, hjm]; exact ⟨rfl, rfl⟩
    ·rw [if_neg (by omega), if_neg (by omega), if_neg (by omega), if_neg (by omega)]; exact h3 j (by omega)
  ·have hm0 : m = 0 := by omega
   subst hm0
   have e : rowPs c 32 l ds (0 + 1) = A ++ [⟨32, rowW l ds 0⟩] := by rw [← hA]; rfl
   rw [e, ground_put]
   refine ⟨accS_ok h1, fun _ => by rw [accS_pk h1.2.1 (by omega), if_pos rfl], fun j hj => absurd hj (by omega)⟩
theorem row_start {c : Cfg} (hc : cfgOk c) {l : List NodeM} {ds : List Bool} {k : Nat} (hl : (l.length : Int) ≤ c.sl) (hk : ∀ j, j < l.length → 0 ≤ (l.getD j nd0).key ∧ (l.getD j nd0).key ≤ 4294967295) :
  MP_ (lns c).toNat c.th.toNat (fun j => (groundM (lns c).toNat c.th.toNat k (rowPs c 32 l ds (l.length + 1))).peek (lns c).toNat j) (groundM (lns c).toNat c.th.toNat k (rowPs c 32 l ds (l.length + 1))) ∧ RowM c l ds 0 (fun j => (groundM (lns c).toNat c.th.toNat k (rowPs c 32 l ds (l.length + 1))).peek (lns c).toNat j) ∧
  (groundM (lns c).toNat c.th.toNat k (rowPs c 32 l ds (l.length + 1))).peek (lns c).toNat 32 = some (rowW l ds 0) := by
 obtain ⟨h1, h2, h3⟩ := row_ground hc hl (k := k) (ds := ds) (l.length + 1) (Nat.le_refl _)
 exact ⟨⟨h1, ground_good (fun j hj => (rowPs_good hc (by omega) hk j hj).2), fun _ => rfl⟩, ⟨fun j hj => (h3 j (by omega)).2, fun j _ hj => (h3 j (by omega)).1⟩, h2 (by omega)⟩
theorem fin_slots {c : Cfg} {l : List NodeM} {x : Int} {S : SkS} {M : MemM} {f : Int → Option Int} (hl : (l.length : Int) ≤ c.sl) (hM : MP_ (lns c).toNat c.th.toNat f M) (hF : FinS c l x S f) : slotsG c (lns c).toNat M 32 = (wntT l x l.length, true) := by
 have e1 : (fun s => (M.peek (lns c).toNat (nextS c s)).getD 0) = nxW c f := by funext s; unfold nxW; rw [hM.pk]
 unfold slotsG
 rw [e1, show (M.peek (lns c).toNat 32).getD 0 = hdW f by unfold hdW; rw [hM.pk]]
 have hle := nodup_le l.length _ hF.nodup hF.rng
 exact listN_chain _ _ [] _ hF.chain (by simpa using hF.nodup) (fun s hs => by have := hF.rng s hs; omega) (by omega)
theorem sslotsB_ok (w0 : World) (b pm q n t : Nat) (c : Cfg) (hc : cfgOk c) (hf : c.sl ≤ 65536) (M : MemM) (gl l : K.Cs) (hgl : gl = layPt b c) (x : MemAt l pm q n t M) (hM : M.good) (hd : Int) (hh : 0 ≤ hd ∧ hd < (n : Int) * 8) (hn : n = (lns c).toNat) (L : List Int) (hL : slotsG c n M hd = (L, true)) :
  K.GC Tryz.prog w0 17 #[.pointer (some ⟨b, 0, none⟩), .pointer (some ⟨pm, 0, none⟩), .int .i64 hd] [gl, l] (fun v post => ∃ r cc l2, v = .tuple #[.slice r L.length cc, .bool true] ∧ post = [gl, l, l2] ∧ K.OwnG l2 3 1 r L.length cc (L.flatMap cI64)) := by
 have h := sslots_ok w0 b pm q n t c hc hf M gl l hgl x hM hd hh hn
 rw [hL] at h; exact h
set_option maxHeartbeats 1000000 in
set_option maxRecDepth 100000 in
theorem l14alone_ok (w0 : World) (c : Cfg) (a : Option Addr) (cap : Nat) (l : List NodeM) (hk : ∀ j, j < l.length → (0 ≤ (l.getD j nd0).key ∧ (l.getD j nd0).key ≤ 4294967295) ∧ isInt (l.getD j nd0).by_) (hl : l.length ≤ 9223372036854775807) (hx : K.RowE w0 a l.length 2 (fun i => cNode (l.getD i nd0))) (xk : Int) (hxk : 0 ≤ xk ∧ xk ≤ 4294967295) (a2 : Option Addr) (cap2 : Nat) (ds : List Bool) (hd : ds.length ≤ 9223372036854775807) (hy : K.RowE w0 a2 ds.length 1 (fun i => cBool (ds.getD i false))) :
  K.GC Tryz.prog w0 3 #[.agg #[.int .i64 c.th, .int .i64 c.sl, .int .i64 c.lo, .int .i64 c.bu], .slice a l.length cap, .agg #[.int .u32 xk, .slice a2 ds.length cap2]] [] (fun v post => v = .bool true) := by
 refine K.GC.mk (n := 180) Tryz.func3 rfl rfl [.agg #[.int .i64 c.th, .int .i64 c.sl, .int .i64 c.lo, .int .i64 c.bu], .slice a l.length cap, .agg #[.int .u32 xk, .slice a2 ds.length cap2]] rfl rfl ?_
 intro fr w hS
 replace hS : K.Sat w0 [fr] w := hS
 refine K.s (K.g ?_)
 refine K.l (K.OW.gnew 23 [.int .i64 c.th, .int .i64 c.sl, .int .i64 c.lo, .int .i64 c.bu] hS ?_)
 clear hS; intro w r_1 g_2 hg_3 hS
 refine K.l (K.OW.gnew 28 [.int .u32 xk, .slice a2 ds.length cap2] hS ?_)
 clear hS; intro w r_4 g_5 hg_6 hS
 refine K.q [.bool false] (K.z (K.t (K.s (K.s (K.g ?_)))))
 refine K.a (K.QR.ldN [.int .i64 c.th, .int .i64 c.sl, .int .i64 c.lo, .int .i64 c.bu] rfl rfl (by kernel_rfl) (by kernel_rfl) (K.cells (K.cl ((hS.blk 1 rfl hg_3).cell rfl) (K.cl ((hS.blk 1 rfl hg_3).cell rfl) (K.cl ((hS.blk 1 rfl hg_3).cell rfl) (K.cl ((hS.blk 1 rfl hg_3).cell rfl) K.cl0)))))) ?_
 refine K.l (K.OW.gcall hS [] [0, 1, 2] [.agg #[.int .i64 c.th, .int .i64 c.sl, .int .i64 c.lo, .int .i64 c.bu]] (few09_ok _ c) ?_)
 clear hS; rintro _ _ w ⟨rfl, (⟨rfl, h_7⟩ | ⟨rfl, h_8⟩)⟩ hS
 ·
  replace hS : K.Sat w0 [g_5, g_2, fr] w := hS
  have hc_9 := h_7.1
  obtain ⟨hf_10, hf_11, hf_12, hf_13, hf_14⟩ := (show _ from (by have h := h_7; unfold fewC cfgOk at h; exact h))
  refine K.q [.bool false, .bool false] ?_
  refine K.a (K.QR.ldN [.int .i64 c.th, .int .i64 c.sl, .int .i64 c.lo, .int .i64 c.bu] rfl rfl (by kernel_rfl) (by kernel_rfl) (K.cells (K.cl ((hS.blk 1 rfl hg_3).cell rfl) (K.cl ((hS.blk 1 rfl hg_3).cell rfl) (K.cl ((hS.blk 1 rfl hg_3).cell rfl) (K.cl ((hS.blk 1 rfl hg_3).cell rfl) K.cl0)))))) ?_
  refine K.q [.slice a l.length cap] ?_
  refine K.l (K.OW.gcall hS [53] [0, 1, 2] [.agg #[.int .i64 c.th, .int .i64 c.sl, .int .i64 c.lo, .int .i64 c.bu], .slice a l.length cap] (rises_ok _ c (by assumption) _ _ l (by omega) _ (fun w h => hx.no h.chg)) ?_)
  clear hS; rintro _ _ w ⟨rfl, (⟨rfl, h_15⟩ | ⟨rfl, h_16⟩)⟩ hS
  ·
   replace hS : K.Sat w0 [g_5, g_2, fr] w := hS.of (by simp [K.pick, K.nth])
   have hr := h_15
   have hrl := hr.2.2
   refine K.q [.bool false, .bool false] (K.z (K.t (K.f (K.k (K.t (K.s (K.g ?_)))))))
   refine K.a (K.QR.ldN [.int .i64 c.th, .int .i64 c.sl, .int .i64 c.lo, .int .i64 c.bu] rfl rfl (by kernel_rfl) (by kernel_rfl) (K.cells (K.cl ((hS.blk 1 rfl hg_3).cell rfl) (K.cl ((hS.blk 1 rfl hg_3).cell rfl) (K.cl ((hS.blk 1 rfl hg_3).cell rfl) (K.cl ((hS.blk 1 rfl hg_3).cell rfl) K.cl0)))))) ?_
   refine K.q [.slice a l.length cap, .pointer (some ⟨r_4, 1, none⟩)] ?_
   refine K.d (.slice a2 ds.length cap2) ((hS.blk 0 rfl hg_6).cell rfl) ?_
   refine K.l (K.OW.gcall hS [53, 54] [0, 1, 2] [.agg #[.int .i64 c.th, .int .i64 c.sl, .int .i64 c.lo, .int .i64 c.bu], .int .i64 32, .slice a l.length cap, .slice a2 ds.length cap2] (row_ok _ c (by first | assumption | (unfold cfgOk; decide)) (32 : Int) _ _ l (by first | omega | decide) hk _ _ ds _ (fun w h => hx.no h.chg) _ (fun w h => hy.no h.chg)) ?_)
   clear hS; rintro _ _ w ⟨r_17, c_18, l_19, rfl, rfl, o_20⟩ hS
   replace hS : K.Sat w0 [l_19, g_5, g_2, fr] w := hS.of (by simp [K.pick, K.nth])
   refine K.l (K.OW.gcall hS [0] [1, 2, 3] [.agg #[.int .i64 c.th, .int .i64 c.sl, .int .i64 c.lo, .int .i64 c.bu, .slice r_17 ((rowPs c (32 : Int) l ds (l.length + 1)).length) c_18]] (layS_ok _ c _ _ (rowPs c (32 : Int) l ds (l.length + 1)) (fun j hj => (rowPs_good (by assumption) (by omega) (fun j hj => (hk j hj).1) j hj).1) (⟨by assumption, by rw [rowPs_len]; omega⟩) _ (fun w h => K.RowE.len (K.Own.rowE pu0 (h.ownr 0 rfl o_20) rfl (fun _ => rfl)) rfl)) ?_)
   clear hS; rintro _ _ w ⟨b_21, p_22, q_23, r_24, u_25, _, _, gl_26, l_27, m_28, rfl, rfl, hl_29, x_30, y_31, rfl, rfl, hf_32, hp_33⟩ hS
   replace hS : K.Sat w0 [l_19, gl_26, l_27, m_28, g_5, g_2, fr] w := hS
   have hk1 : ∀ j, j < l.length → 0 ≤ (l.getD j nd0).key ∧ (l.getD j nd0).key ≤ 4294967295 := fun j hj => (hk j hj).1
   obtain ⟨hP0, hR0, h320⟩ := row_start (c := c) (ds := ds) (k := (2 + c.th + c.sl).toNat) (by assumption) hrl hk1
   have hM0 := hP0.good
   generalize groundM ((lns c).toNat) (c.th.toNat) (2 + c.th + c.sl).toNat (rowPs c (32 : Int) l ds (l.length + 1)) = M0 at x_30 hP0 hR0 h320 hM0
   refine K.q [.tuple #[.pointer (some ⟨b_21, 0, none⟩), .pointer (some ⟨p_22, 0, none⟩), .pointer (some ⟨r_24, 0, none⟩), .bool true], .pointer (some ⟨b_21, 0, none⟩), .pointer (some ⟨p_22, 0, none⟩), .pointer (some ⟨r_24, 0, none⟩), .bool true, .pointer (some ⟨b_21, 0, none⟩), .pointer (some ⟨p_22, 0, none⟩), .pointer (some ⟨r_24, 0, none⟩), .bool true] (K.z (K.t (K.s (K.g (K.q [.pointer (some ⟨b_21, 0, none⟩), .pointer (some ⟨r_4, 0, none⟩)] ?_)))))
   refine K.d (.int .u32 xk) ((hS.blk 4 rfl hg_6).cell rfl) ?_
   refine K.l (K.OW.gcall hS [] [0, 1, 2, 3, 4, 5, 6] [.pointer (some ⟨b_21, 0, none⟩), .int .i64 0, .int .i64 32, .int .u32 xk] (newskE_ok _ b_21 (0 : Int) (32 : Int) xk (by omega) (by omega)) ?_)
   clear hS; rintro _ _ w ⟨p_34, g_35, rfl, rfl, h_36⟩ hS
   replace hS : K.Sat w0 [g_35, l_19, gl_26, l_27, m_28, g_5, g_2, fr] w := hS
   refine K.q [.pointer (some ⟨p_34, 0, none⟩)] (K.z (K.t (K.s (K.s (K.g (K.q [.int .i64 0] (K.z (K.t ?_))))))))
   refine K.KW.block ?_
   refine K.KW.loop (fun m_ F_ w_ => ∃ (i : Nat) (g1i : K.Cs) (l1i : K.Cs), m_ = (20 * l.length + 20) - i ∧ K.Sl F_ [(0, .agg #[.int .i64 c.th, .int .i64 c.sl, .int .i64 c.lo, .int .i64 c.bu]), (1, .slice a l.length cap), (2, .agg #[.int .u32 xk, .slice a2 ds.length cap2]), (3, .pointer (some ⟨r_1, 0, none⟩)), (5, .pointer (some ⟨r_4, 0, none⟩)), (6, .bool false), (7, .pointer (some ⟨b_21, 0, none⟩)), (8, .pointer (some ⟨p_22, 0, none⟩)), (10, .bool true), (11, .pointer (some ⟨p_34, 0, none⟩)), (12, .int .i64 ((i : Nat) : Int)), (180, undef)] ∧ i ≤ 20 * l.length + 20 ∧ SkEl p_34 b_21 ((skIt c ((lns c).toNat) (c.th.toNat) ⟨0, 32, xk, 1, false, false, 32, 0, 0, 0, 0, 0, ⟨0, 32, 0, 0, -1⟩, ⟨0, 0, 0, 0, -1, 0, false, 0⟩⟩ M0 i).1) g1i ∧ MemAt l1i p_22 q_23 ((lns c).toNat) (c.th.toNat) (skIt c ((lns c).toNat) (c.th.toNat) ⟨0, 32, xk, 1, false, false, 32, 0, 0, 0, 0, 0, ⟨0, 32, 0, 0, -1⟩, ⟨0, 0, 0, 0, -1, 0, false, 0⟩⟩ M0 i).2 ∧ K.Sat w0 [g1i, l_19, gl_26, l1i, m_28, g_5, g_2, fr] w_) ((fun (i : Nat) => (20 * l.length + 20) - i) 0) ?_ ?_
   ·
    exact ⟨0, g_35, l_27, rfl, ⟨by rfl, by rfl, by rfl, by rfl, by rfl, by rfl, by rfl, by rfl, by rfl, by rfl, by rfl, by rfl, trivial⟩, (by omega), h_36, x_30, hS.pick [0, 1, 2, 3, 4, 5, 6, 7]⟩
   ·
    clear hS
    intro m_37 F_38 w hI
    obtain ⟨i, g1i, l1i, rfl, sl_39, p_40, x_41, x_42, hS⟩ := hI
    rw [← K.Sl.puts sl_39]; clear sl_39
    obtain ⟨hSi, hMi⟩ := skIt_good (c := c) (n := (lns c).toNat) (nt := c.th.toNat) (S := ⟨0, 32, xk, 1, false, false, 32, 0, 0, 0, 0, 0, ⟨0, 32, 0, 0, -1⟩, ⟨0, 0, 0, 0, -1, 0, false, 0⟩⟩) (M := M0) (by assumption) (skInitG (by omega) (by omega) (by omega)) hM0 i
    refine K.s (K.s (K.g (K.q [.int .i64 ((i : Nat) : Int), .slice a l.length cap] ?_)))
    refine K.a (K.QR.len (P := Tryz.prog) rfl rfl Tryz.underlying24) ?_
    refine K.a (K.QR.n64 ((20 : Int) * (((l.length : Nat) : Int) : Int)) ((20 * l.length : Nat) : Int) (by kernel_rfl) (by omega)) ?_
    refine K.a (K.QR.n64 ((((20 * l.length : Nat) : Int) : Int) + (20 : Int)) ((20 * l.length + 20 : Nat) : Int) (by kernel_rfl) (by omega)) ?_
    by_cases h_43 : (((i : Nat) : Int) : Int) < (((20 * l.length + 20 : Nat) : Int) : Int)
    ·
     refine K.y ((((i : Nat) : Int) : Int) < (((20 * l.length + 20 : Nat) : Int) : Int)) h_43 ?_
     refine K.z (K.t (K.h (K.k (K.t (K.s ?_)))))
     refine K.KW.block ?_
     refine K.g (K.q [.pointer (some ⟨p_34, 0, none⟩), .pointer (some ⟨p_22, 0, none⟩)] ?_)
     refine K.l (K.OW.gcall hS [0, 2, 3] [1, 4, 5, 6, 7] [.pointer (some ⟨p_34, 0, none⟩), .pointer (some ⟨p_22, 0, none⟩)] (skStep_ok _ _ _ _ _ _ _ c (by first | assumption | (unfold cfgOk; decide)) ((skIt c ((lns c).toNat) (c.th.toNat) ⟨0, 32, xk, 1, false, false, 32, 0, 0, 0, 0, 0, ⟨0, 32, 0, 0, -1⟩, ⟨0, 0, 0, 0, -1, 0, false, 0⟩⟩ M0 i).1) ((skIt c ((lns c).toNat) (c.th.toNat) ⟨0, 32, xk, 1, false, false, 32, 0, 0, 0, 0, 0, ⟨0, 32, 0, 0, -1⟩, ⟨0, 0, 0, 0, -1, 0, false, 0⟩⟩ M0 i).2) _ _ _ x_41 hl_29 x_42 (by assumption) (SkG.good (by assumption))) ?_)
     clear hS; rintro _ _ w ⟨g_44, l_45, rfl, rfl, h_46, x_47⟩ hS
     replace hS : K.Sat w0 [g_44, gl_26, l_45, l_19, m_28, g_5, g_2, fr] w := hS
     obtain ⟨hS_48, hM_49⟩ := (SkG.step (by first | assumption | (unfold cfgOk; decide)) (by assumption) (by assumption) : SkG (skStep c ((lns c).toNat) (c.th.toNat) ((skIt c ((lns c).toNat) (c.th.toNat) ⟨0, 32, xk, 1, false, false, 32, 0, 0, 0, 0, 0, ⟨0, 32, 0, 0, -1⟩, ⟨0, 0, 0, 0, -1, 0, false, 0⟩⟩ M0 i).1) ((skIt c ((lns c).toNat) (c.th.toNat) ⟨0, 32, xk, 1, false, false, 32, 0, 0, 0, 0, 0, ⟨0, 32, 0, 0, -1⟩, ⟨0, 0, 0, 0, -1, 0, false, 0⟩⟩ M0 i).2)).1 ∧ (skStep c ((lns c).toNat) (c.th.toNat) ((skIt c ((lns c).toNat) (c.th.toNat) ⟨0, 32, xk, 1, false, false, 32, 0, 0, 0, 0, 0, ⟨0, 32, 0, 0, -1⟩, ⟨0, 0, 0, 0, -1, 0, false, 0⟩⟩ M0 i).1) ((skIt c ((lns c).toNat) (c.th.toNat) ⟨0, 32, xk, 1, false, false, 32, 0, 0, 0, 0, 0, ⟨0, 32, 0, 0, -1⟩, ⟨0, 0, 0, 0, -1, 0, false, 0⟩⟩ M0 i).2)).2.good)
     refine K.z ?_
     refine K.blk_normal ?_
     refine K.t (K.g (K.q [.int .i64 ((i : Nat) : Int)] ?_))
     refine K.a (K.QR.n64 ((((i : Nat) : Int) : Int) + (1 : Int)) ((i + 1 : Nat) : Int) (by kernel_rfl) (by omega)) ?_
     refine K.q [.int .i64 ((i + 1 : Nat) : Int)] (K.z (K.t ?_))
     refine ⟨_, ?_, i + 1, g_44, l_45, rfl, ⟨by rfl, by rfl, by rfl, by rfl, by rfl, by rfl, by rfl, by rfl, by rfl, by rfl, by rfl, by rfl, trivial⟩, (by omega), h_46, x_47, hS.pick [0, 3, 1, 2, 4, 5, 6, 7]⟩
     omega
    ·
     refine K.x ((((i : Nat) : Int) : Int) < (((20 * l.length + 20 : Nat) : Int) : Int)) h_43 ?_
     refine K.z (K.t (K.f ?_))
     refine K.KW.exit ?_
     refine K.thn_exit ?_
     refine K.thn_exit ?_
     refine K.blk_hit ?_
     refine K.t (K.s (K.g (K.q [.slice none 0 0] (K.z (K.t (K.s (K.g (K.q [.int .i64 (-1)] (K.z (K.t (K.s (K.g (K.q [.int .i64 32, .int .i64 (-1)] (K.z ?_))))))))))))))
     refine K.t (K.s (K.s (K.g (K.q [.int .i64 0] (K.z (K.t ?_))))))
     refine K.KW.block ?_
     obtain rfl : i = 20 * l.length + 20 := by omega
     obtain ⟨f1, hPf, hF⟩ := seek_alone (x := xk) (by assumption) (by omega) (by omega) hr hk1 hP0 hR0 h320
     have hsl := fin_slots hrl hPf hF
     have hMf := hPf.good
     have hlb := lay_bd (c := c) (by assumption)
     have hf16 : c.sl ≤ 65536 := by omega
     obtain ⟨z_50, hz_51⟩ : ∃ z : K.Cs, z = [] := ⟨_, rfl⟩
     replace hS : K.Sat w0 [z_50, g1i, l_19, gl_26, l1i, m_28, g_5, g_2, fr] w := hS.of (by simp [hz_51])
     have o_52 : K.OwnG z_50 3 1 none 0 0 [] := by rw [hz_51]; exact K.OwnG.nil _ _
     refine K.KW.loop (fun m_ F_ w_ => ∃ (j : Nat) (q1 : Option Addr) (c1 : Nat) (o1 : K.Cs), m_ = l.length - j ∧ K.Sl F_ [(0, .agg #[.int .i64 c.th, .int .i64 c.sl, .int .i64 c.lo, .int .i64 c.bu]), (1, .slice a l.length cap), (2, .agg #[.int .u32 xk, .slice a2 ds.length cap2]), (3, .pointer (some ⟨r_1, 0, none⟩)), (5, .pointer (some ⟨r_4, 0, none⟩)), (6, .bool false), (7, .pointer (some ⟨b_21, 0, none⟩)), (8, .pointer (some ⟨p_22, 0, none⟩)), (10, .bool true), (11, .pointer (some ⟨p_34, 0, none⟩)), (13, .slice q1 ((wntT l xk j).length) c1), (14, .int .i64 (fndT l xk j)), (15, .int .i64 (plcT c l xk j)), (16, .int .i64 (curT l xk j)), (17, .int .i64 ((j : Nat) : Int)), (180, undef)] ∧ j ≤ l.length ∧ K.OwnG o1 3 1 q1 ((wntT l xk j).length) c1 (((wntT l xk j)).flatMap cI64) ∧ K.Sat w0 [o1, g1i, l_19, gl_26, l1i, m_28, g_5, g_2, fr] w_) ((fun (j : Nat) (q1 : Option Addr) (c1 : Nat) => l.length - j) 0 none 0) ?_ ?_
     ·
      exact ⟨0, none, 0, z_50, rfl, ⟨by rfl, by rfl, by rfl, by rfl, by rfl, by rfl, by rfl, by rfl, by rfl, by rfl, by rfl, by rfl, by rfl, by rfl, by rfl, by rfl, trivial⟩, (by omega), o_52, hS.pick [0, 1, 2, 3, 4, 5, 6, 7, 8]⟩
     ·
      clear hS
      intro m_53 F_54 w hI
      obtain ⟨j, q1, c1, o1, rfl, sl_55, p_56, x_57, hS⟩ := hI
      rw [← K.Sl.puts sl_55]; clear sl_55
      have hwl := wnt_len l xk j
      refine K.s (K.s (K.g (K.q [.int .i64 ((j : Nat) : Int), .slice a l.length cap] ?_)))
      refine K.a (K.QR.len (P := Tryz.prog) rfl rfl Tryz.underlying24) ?_
      by_cases h_58 : (((j : Nat) : Int) : Int) < (((l.length : Nat) : Int) : Int)
      ·
       refine K.y ((((j : Nat) : Int) : Int) < (((l.length : Nat) : Int) : Int)) h_58 ?_
       refine K.z (K.t (K.h (K.k (K.t (K.s ?_)))))
       refine K.KW.block ?_
       refine K.s ?_
       obtain ⟨b_59, of_60, rfl, _⟩ := hx.at_ (by omega)
       refine K.g (K.q [.slice (some ⟨b_59, of_60, none⟩) l.length cap, .int .i64 ((j : Nat) : Int)] ?_)
       refine K.a (K.QR.ix (of_60 + j * 2) 2 rfl rfl rfl Tryz.underlying24 (by kernel_rfl) (by omega) (by first | (simp; done) | omega | (simp; omega))) ?_
       refine K.q [.pointer (some ⟨b_59, of_60 + j * 2 + 1, none⟩)] ?_
       refine K.d (.int .i64 ((l.getD j nd0).by_)) ((hx.no hS.chg).ld j (by omega) 1 _ rfl) ?_
       by_cases h_61 : ((l.getD j nd0).by_ : Int) = ((-1) : Int)
       ·
        refine K.ye ((l.getD j nd0).by_ : Int) ((-1) : Int) h_61 ?_
        refine K.q [.bool true] (K.z (K.t (K.s (K.s ?_))))
        refine K.KW.gdrawn [] hS (by kernel_rfl) ?_
        clear hS; intro w hS
        refine K.p 0 rfl (.slice (some ⟨b_59, of_60, none⟩) l.length cap) (hS.pick []) ?_
        refine K.p 1 rfl (.int .i64 ((j : Nat) : Int)) (hS.pick []) ?_
        refine K.m 2 rfl (fun w hS => K.QR.ix (of_60 + j * 2) 2 rfl rfl rfl Tryz.underlying24 (by kernel_rfl) (by omega) (by first | (simp; done) | omega | (simp; omega))) (hS.pick []) ?_
        refine K.p 3 rfl (.pointer (some ⟨b_59, of_60 + j * 2, none⟩)) (hS.pick []) ?_
        refine K.o_ 4 rfl (.int .u32 ((l.getD j nd0).key)) (fun w hS => ((hx.no hS.chg).ld j (by omega) 0 _ rfl)) (hS.pick []) ?_
        refine K.b 5 rfl (.pointer (some ⟨r_4, 0, none⟩)) (hS.pick []) ?_
        refine K.c 6 rfl (K.QR.ld1 (v := .int .u32 xk) rfl rfl (by kernel_rfl) ((hS.blk 6 rfl hg_6).cell rfl)) (hS.pick []) ?_
        by_cases h_62 : ((l.getD j nd0).key : Int) < (xk : Int)
        ·
         refine K.c 7 rfl (K.QR.nice (v := .bool (decide (((l.getD j nd0).key : Int) < (xk : Int)))) (by kernel_rfl) (congrArg Value.bool (decide_eq_true h_62))) (hS.pick []) ?_
         refine K.b 8 rfl (.bool true) (hS.pick []) ?_
         refine K.b 9 rfl (.bool true) (hS.pick []) ?_
         refine K.b 10 rfl (.bool true) (hS.pick []) ?_
         refine K.DW.done (by kernel_rfl) ?_
         refine K.t (K.h (K.g ?_))
         refine K.a (K.QR.ldN [.int .i64 c.th, .int .i64 c.sl, .int .i64 c.lo, .int .i64 c.bu] rfl rfl (by kernel_rfl) (by kernel_rfl) (K.cells (K.cl ((hS.blk 7 rfl hg_3).cell rfl) (K.cl ((hS.blk 7 rfl hg_3).cell rfl) (K.cl ((hS.blk 7 rfl hg_3).cell rfl) (K.cl ((hS.blk 7 rfl hg_3).cell rfl) K.cl0)))))) ?_
         refine K.q [.int .i64 ((j : Nat) : Int)] ?_
         refine K.l (K.OW.gcall hS [] [0, 1, 2, 3, 4, 5, 6, 7, 8] [.agg #[.int .i64 c.th, .int .i64 c.sl, .int .i64 c.lo, .int .i64 c.bu], .int .i64 ((j : Nat) : Int)] (rnext_ok _ c (by assumption) ((j : Nat) : Int)) ?_)
         clear hS; rintro _ _ w ⟨rfl, rfl⟩ hS
         replace hS : K.Sat w0 [o1, g1i, l_19, gl_26, l1i, m_28, g_5, g_2, fr] w := hS
         have hi_63 : isInt (nextS c ((j : Nat) : Int)) := next_int (by assumption) _
         refine K.q [.int .i64 (nextS c ((j : Nat) : Int))] (K.z (K.t (K.s (K.s ?_))))
         refine K.KW.gdrawn [] hS (by kernel_rfl) ?_
         clear hS; intro w hS
         refine K.b 0 rfl (.bool true) (hS.pick []) ?_
         refine K.b 1 rfl (.bool true) (hS.pick []) ?_
         refine K.p 2 rfl (.slice (some ⟨b_59, of_60, none⟩) l.length cap) (hS.pick []) ?_
         refine K.p 3 rfl (.int .i64 ((j : Nat) : Int)) (hS.pick []) ?_
         refine K.m 4 rfl (fun w hS => K.QR.ix (of_60 + j * 2) 2 rfl rfl rfl Tryz.underlying24 (by kernel_rfl) (by omega) (by first | (simp; done) | omega | (simp; omega))) (hS.pick []) ?_
         refine K.p 5 rfl (.pointer (some ⟨b_59, of_60 + j * 2, none⟩)) (hS.pick []) ?_
         refine K.o_ 6 rfl (.int .u32 ((l.getD j nd0).key)) (fun w hS => ((hx.no hS.chg).ld j (by omega) 0 _ rfl)) (hS.pick []) ?_
         refine K.b 7 rfl (.pointer (some ⟨r_4, 0, none⟩)) (hS.pick []) ?_
         refine K.c 8 rfl (K.QR.ld1 (v := .int .u32 xk) rfl rfl (by kernel_rfl) ((hS.blk 6 rfl hg_6).cell rfl)) (hS.pick []) ?_
         refine K.c 9 rfl (K.QR.nice (v := .bool (((l.getD j nd0).key : Int) == (xk : Int))) (by kernel_rfl) (congrArg Value.bool (beq_eq_false_iff_ne.2 (by omega)))) (hS.pick []) ?_
         refine K.b 10 rfl (.bool false) (hS.pick []) ?_
         refine K.DW.done (by kernel_rfl) ?_
         refine K.t (K.f (K.k (K.t (K.s (K.s ?_)))))
         refine K.KW.gdrawn [] hS (by kernel_rfl) ?_
         clear hS; intro w hS
         refine K.b 0 rfl (.int .i64 (curT l xk j)) (hS.pick []) ?_
         by_cases h_64 : ((curT l xk j) : Int) = ((-1) : Int)
         ·
          refine K.c 1 rfl (K.QR.nice (v := .bool (((curT l xk j) : Int) == ((-1) : Int))) (by kernel_rfl) (congrArg Value.bool (beq_iff_eq.2 h_64))) (hS.pick []) ?_
          refine K.b 2 rfl (.bool true) (hS.pick []) ?_
          refine K.b 3 rfl (.bool true) (hS.pick []) ?_
          refine K.b 4 rfl (.bool true) (hS.pick []) ?_
          refine K.b 5 rfl (.bool true) (hS.pick []) ?_
          refine K.p 6 rfl (.slice (some ⟨b_59, of_60, none⟩) l.length cap) (hS.pick []) ?_
          refine K.p 7 rfl (.int .i64 ((j : Nat) : Int)) (hS.pick []) ?_
          refine K.m 8 rfl (fun w hS => K.QR.ix (of_60 + j * 2) 2 rfl rfl rfl Tryz.underlying24 (by kernel_rfl) (by omega) (by first | (simp; done) | omega | (simp; omega))) (hS.pick []) ?_
          refine K.p 9 rfl (.pointer (some ⟨b_59, of_60 + j * 2, none⟩)) (hS.pick []) ?_
          refine K.o_ 10 rfl (.int .u32 ((l.getD j nd0).key)) (fun w hS => ((hx.no hS.chg).ld j (by omega) 0 _ rfl)) (hS.pick []) ?_
          refine K.b 11 rfl (.pointer (some ⟨r_4, 0, none⟩)) (hS.pick []) ?_
          refine K.c 12 rfl (K.QR.ld1 (v := .int .u32 xk) rfl rfl (by kernel_rfl) ((hS.blk 6 rfl hg_6).cell rfl)) (hS.pick []) ?_
          refine K.c 13 rfl (K.QR.nice (v := .bool (decide (((l.getD j nd0).key : Int) ≥ (xk : Int)))) (by kernel_rfl) (congrArg Value.bool (decide_eq_false (by omega)))) (hS.pick []) ?_
          refine K.b 14 rfl (.bool false) (hS.pick []) ?_
          refine K.DW.done (by kernel_rfl) ?_
          refine K.t (K.f (K.k (K.t (K.s (K.g (K.q [.bool true, .bool true] (K.n_ (K.n_ (K.q [.bool true] (K.z (K.t (K.h (K.g (K.q [.slice q1 ((wntT l xk j).length) c1, .int .i64 ((j : Nat) : Int)] ?_))))))))))))))
          refine K.l (K.OW.gbs [(0, .int .i64 ((j : Nat) : Int))] [.int .i64 ((j : Nat) : Int)] hS (fun w => K.bs_run (P := Tryz.prog) w 44 3 1 _ _ Tryz.underlying44 (by kernel_rfl)) ?_)
          clear hS; intro w r_65 g_66 hg_67 hS
          refine K.l (K.OW.gapp (P := Tryz.prog) (xs := ((wntT l xk j)).flatMap cI64) (z := .int .i64 0) (size := 1) (bytes := 8) 1 [.int .i64 ((j : Nat) : Int)] hS x_57 ?_ (fun j u hj => (by rw [Nat.zero_add]; exact (hS.blk 0 rfl hg_67).cell hj)) (K.one_cells (by rfl)) (by rfl) Tryz.underlying44 (by kernel_rfl) rfl (by decide) (by unfold maxLen; omega) (by omega))
          clear hS; intro a_68 cap_69 w l_70 o_71 hS
          have ln_72 : (((wntT l xk j) ++ [(((j : Nat) : Int) : Int)])).length = (wntT l xk j).length + 1 := by rw [List.length_append]; rfl
          have o_71c := K.OwnG.cast (xs' := (((wntT l xk j) ++ [(((j : Nat) : Int) : Int)])).flatMap cI64) o_71 rfl (K.fl_snoc cI64 (wntT l xk j) _ rfl)
          replace hS : K.Sat w0 [g_66, l_70, g1i, l_19, gl_26, l1i, m_28, g_5, g_2, fr] w := hS
          refine K.q [.slice a_68 ((wntT l xk j).length + 1) cap_69] (K.z ?_)
          refine K.blk_normal ?_
          refine K.t (K.g (K.q [.int .i64 ((j : Nat) : Int)] ?_))
          refine K.a (K.QR.n64 ((((j : Nat) : Int) : Int) + (1 : Int)) ((j + 1 : Nat) : Int) (by kernel_rfl) (by omega)) ?_
          refine K.q [.int .i64 ((j + 1 : Nat) : Int)] (K.z (K.t ?_))
          have hcj : curT l xk (j + 1) = (curT l xk j) := if_neg (by omega)
          have we_73 : wntT l xk (j + 1) = ((wntT l xk j) ++ [(((j : Nat) : Int) : Int)]) := if_pos (by omega)
          refine ⟨_, ?_, j + 1, a_68, cap_69, l_70, rfl, ⟨by rfl, by rfl, by rfl, by rfl, by rfl, by rfl, by rfl, by rfl, by rfl, by rfl, congrArg (fun m_ => Value.slice a_68 m_ cap_69) (show (wntT l xk j).length + 1 = (wntT l xk (j + 1)).length from by rw [we_73]; simp), congrArg (Value.int .i64) (show ((fndT l xk j) : Int) = fndT l xk (j + 1) from (if_neg (by omega)).symm), congrArg (Value.int .i64) (show ((nextS c ((j : Nat) : Int)) : Int) = plcT c l xk (j + 1) from (if_pos (by omega)).symm), congrArg (Value.int .i64) (show ((curT l xk j) : Int) = curT l xk (j + 1) from (if_neg (by omega)).symm), by rfl, by rfl, trivial⟩, (by omega), (by rw [we_73]; simpa using o_71c), hS.pick [1, 2, 3, 4, 5, 6, 7, 8, 9]⟩
          omega
         ·
          refine K.c 1 rfl (K.QR.nice (v := .bool (((curT l xk j) : Int) == ((-1) : Int))) (by kernel_rfl) (congrArg Value.bool (beq_eq_false_iff_ne.2 h_64))) (hS.pick []) ?_
          refine K.b 2 rfl (.bool false) (hS.pick []) ?_
          refine K.w_ 3 rfl (hS.pick []) ?_
          refine K.b 4 rfl (.bool false) (hS.pick []) ?_
          refine K.b 5 rfl (.bool false) (hS.pick []) ?_
          refine K.w_ 6 rfl (hS.pick []) ?_
          refine K.w_ 7 rfl (hS.pick []) ?_
          refine K.w_ 8 rfl (hS.pick []) ?_
          refine K.w_ 9 rfl (hS.pick []) ?_
          refine K.w_ 10 rfl (hS.pick []) ?_
          refine K.w_ 11 rfl (hS.pick []) ?_
          refine K.w_ 12 rfl (hS.pick []) ?_
          refine K.w_ 13 rfl (hS.pick []) ?_
          refine K.b 14 rfl (.bool false) (hS.pick []) ?_
          refine K.DW.done (by kernel_rfl) ?_
          refine K.t (K.f (K.k (K.t (K.s (K.g (K.q [.bool true, .bool true] (K.n_ (K.n_ (K.q [.bool true] (K.z (K.t (K.h (K.g (K.q [.slice q1 ((wntT l xk j).length) c1, .int .i64 ((j : Nat) : Int)] ?_))))))))))))))
          refine K.l (K.OW.gbs [(0, .int .i64 ((j : Nat) : Int))] [.int .i64 ((j : Nat) : Int)] hS (fun w => K.bs_run (P := Tryz.prog) w 44 3 1 _ _ Tryz.underlying44 (by kernel_rfl)) ?_)
          clear hS; intro w r_74 g_75 hg_76 hS
          refine K.l (K.OW.gapp (P := Tryz.prog) (xs := ((wntT l xk j)).flatMap cI64) (z := .int .i64 0) (size := 1) (bytes := 8) 1 [.int .i64 ((j : Nat) : Int)] hS x_57 ?_ (fun j u hj => (by rw [Nat.zero_add]; exact (hS.blk 0 rfl hg_76).cell hj)) (K.one_cells (by rfl)) (by rfl) Tryz.underlying44 (by kernel_rfl) rfl (by decide) (by unfold maxLen; omega) (by omega))
          clear hS; intro a_77 cap_78 w l_79 o_80 hS
          have ln_81 : (((wntT l xk j) ++ [(((j : Nat) : Int) : Int)])).length = (wntT l xk j).length + 1 := by rw [List.length_append]; rfl
          have o_80c := K.OwnG.cast (xs' := (((wntT l xk j) ++ [(((j : Nat) : Int) : Int)])).flatMap cI64) o_80 rfl (K.fl_snoc cI64 (wntT l xk j) _ rfl)
          replace hS : K.Sat w0 [g_75, l_79, g1i, l_19, gl_26, l1i, m_28, g_5, g_2, fr] w := hS
          refine K.q [.slice a_77 ((wntT l xk j).length + 1) cap_78] (K.z ?_)
          refine K.blk_normal ?_
          refine K.t (K.g (K.q [.int .i64 ((j : Nat) : Int)] ?_))
          refine K.a (K.QR.n64 ((((j : Nat) : Int) : Int) + (1 : Int)) ((j + 1 : Nat) : Int) (by kernel_rfl) (by omega)) ?_
          refine K.q [.int .i64 ((j + 1 : Nat) : Int)] (K.z (K.t ?_))
          have hcj : curT l xk (j + 1) = (curT l xk j) := if_neg (by omega)
          have we_82 : wntT l xk (j + 1) = ((wntT l xk j) ++ [(((j : Nat) : Int) : Int)]) := if_pos (by omega)
          refine ⟨_, ?_, j + 1, a_77, cap_78, l_79, rfl, ⟨by rfl, by rfl, by rfl, by rfl, by rfl, by rfl, by rfl, by rfl, by rfl, by rfl, congrArg (fun m_ => Value.slice a_77 m_ cap_78) (show (wntT l xk j).length + 1 = (wntT l xk (j + 1)).length from by rw [we_82]; simp), congrArg (Value.int .i64) (show ((fndT l xk j) : Int) = fndT l xk (j + 1) from (if_neg (by omega)).symm), congrArg (Value.int .i64) (show ((nextS c ((j : Nat) : Int)) : Int) = plcT c l xk (j + 1) from (if_pos (by omega)).symm), congrArg (Value.int .i64) (show ((curT l xk j) : Int) = curT l xk (j + 1) from (if_neg (by omega)).symm), by rfl, by rfl, trivial⟩, (by omega), (by rw [we_82]; simpa using o_80c), hS.pick [1, 2, 3, 4, 5, 6, 7, 8, 9]⟩
          omega
        ·
         refine K.c 7 rfl (K.QR.nice (v := .bool (decide (((l.getD j nd0).key : Int) < (xk : Int)))) (by kernel_rfl) (congrArg Value.bool (decide_eq_false h_62))) (hS.pick []) ?_
         refine K.b 8 rfl (.bool false) (hS.pick []) ?_
         refine K.w_ 9 rfl (hS.pick []) ?_
         refine K.b 10 rfl (.bool false) (hS.pick []) ?_
         refine K.DW.done (by kernel_rfl) ?_
         refine K.t (K.f (K.k (K.t (K.s (K.s ?_)))))
         refine K.KW.gdrawn [] hS (by kernel_rfl) ?_
         clear hS; intro w hS
         refine K.b 0 rfl (.bool true) (hS.pick []) ?_
         refine K.b 1 rfl (.bool true) (hS.pick []) ?_
         refine K.p 2 rfl (.slice (some ⟨b_59, of_60, none⟩) l.length cap) (hS.pick []) ?_
         refine K.p 3 rfl (.int .i64 ((j : Nat) : Int)) (hS.pick []) ?_
         refine K.m 4 rfl (fun w hS => K.QR.ix (of_60 + j * 2) 2 rfl rfl rfl Tryz.underlying24 (by kernel_rfl) (by omega) (by first | (simp; done) | omega | (simp; omega))) (hS.pick []) ?_
         refine K.p 5 rfl (.pointer (some ⟨b_59, of_60 + j * 2, none⟩)) (hS.pick []) ?_
         refine K.o_ 6 rfl (.int .u32 ((l.getD j nd0).key)) (fun w hS => ((hx.no hS.chg).ld j (by omega) 0 _ rfl)) (hS.pick []) ?_
         refine K.b 7 rfl (.pointer (some ⟨r_4, 0, none⟩)) (hS.pick []) ?_
         refine K.c 8 rfl (K.QR.ld1 (v := .int .u32 xk) rfl rfl (by kernel_rfl) ((hS.blk 6 rfl hg_6).cell rfl)) (hS.pick []) ?_
         by_cases h_83 : ((l.getD j nd0).key : Int) = (xk : Int)
         ·
          refine K.c 9 rfl (K.QR.nice (v := .bool (((l.getD j nd0).key : Int) == (xk : Int))) (by kernel_rfl) (congrArg Value.bool (beq_iff_eq.2 h_83))) (hS.pick []) ?_
          refine K.b 10 rfl (.bool true) (hS.pick []) ?_
          refine K.DW.done (by kernel_rfl) ?_
          refine K.t (K.h (K.g (K.q [.int .i64 ((j : Nat) : Int), .int .i64 ((j : Nat) : Int)] (K.z (K.t (K.s (K.s ?_)))))))
          refine K.KW.gdrawn [] hS (by kernel_rfl) ?_
          clear hS; intro w hS
          refine K.b 0 rfl (.int .i64 (curT l xk j)) (hS.pick []) ?_
          by_cases h_84 : ((curT l xk j) : Int) = ((-1) : Int)
          ·
           refine K.c 1 rfl (K.QR.nice (v := .bool (((curT l xk j) : Int) == ((-1) : Int))) (by kernel_rfl) (congrArg Value.bool (beq_iff_eq.2 h_84))) (hS.pick []) ?_
           refine K.b 2 rfl (.bool true) (hS.pick []) ?_
           refine K.b 3 rfl (.bool true) (hS.pick []) ?_
           refine K.b 4 rfl (.bool true) (hS.pick []) ?_
           refine K.b 5 rfl (.bool true) (hS.pick []) ?_
           refine K.p 6 rfl (.slice (some ⟨b_59, of_60, none⟩) l.length cap) (hS.pick []) ?_
           refine K.p 7 rfl (.int .i64 ((j : Nat) : Int)) (hS.pick []) ?_
           refine K.m 8 rfl (fun w hS => K.QR.ix (of_60 + j * 2) 2 rfl rfl rfl Tryz.underlying24 (by kernel_rfl) (by omega) (by first | (simp; done) | omega | (simp; omega))) (hS.pick []) ?_
           refine K.p 9 rfl (.pointer (some ⟨b_59, of_60 + j * 2, none⟩)) (hS.pick []) ?_
           refine K.o_ 10 rfl (.int .u32 ((l.getD j nd0).key)) (fun w hS => ((hx.no hS.chg).ld j (by omega) 0 _ rfl)) (hS.pick []) ?_
           refine K.b 11 rfl (.pointer (some ⟨r_4, 0, none⟩)) (hS.pick []) ?_
           refine K.c 12 rfl (K.QR.ld1 (v := .int .u32 xk) rfl rfl (by kernel_rfl) ((hS.blk 6 rfl hg_6).cell rfl)) (hS.pick []) ?_
           refine K.c 13 rfl (K.QR.nice (v := .bool (decide (((l.getD j nd0).key : Int) ≥ (xk : Int)))) (by kernel_rfl) (congrArg Value.bool (decide_eq_true (by omega)))) (hS.pick []) ?_
           refine K.b 14 rfl (.bool true) (hS.pick []) ?_
           refine K.DW.done (by kernel_rfl) ?_
           refine K.t (K.h (K.g (K.q [.int .i64 ((j : Nat) : Int), .int .i64 ((j : Nat) : Int)] (K.z (K.t (K.s (K.g (K.q [.bool true, .bool true] (K.n_ (K.n_ (K.q [.bool true] (K.z (K.t (K.h ?_))))))))))))))
           refine K.g (K.q [.slice q1 ((wntT l xk j).length) c1, .int .i64 ((j : Nat) : Int)] ?_)
           refine K.l (K.OW.gbs [(0, .int .i64 ((j : Nat) : Int))] [.int .i64 ((j : Nat) : Int)] hS (fun w => K.bs_run (P := Tryz.prog) w 44 3 1 _ _ Tryz.underlying44 (by kernel_rfl)) ?_)
           clear hS; intro w r_85 g_86 hg_87 hS
           refine K.l (K.OW.gapp (P := Tryz.prog) (xs := ((wntT l xk j)).flatMap cI64) (z := .int .i64 0) (size := 1) (bytes := 8) 1 [.int .i64 ((j : Nat) : Int)] hS x_57 ?_ (fun j u hj => (by rw [Nat.zero_add]; exact (hS.blk 0 rfl hg_87).cell hj)) (K.one_cells (by rfl)) (by rfl) Tryz.underlying44 (by kernel_rfl) rfl (by decide) (by unfold maxLen; omega) (by omega))
           clear hS; intro a_88 cap_89 w l_90 o_91 hS
           have ln_92 : (((wntT l xk j) ++ [(((j : Nat) : Int) : Int)])).length = (wntT l xk j).length + 1 := by rw [List.length_append]; rfl
           have o_91c := K.OwnG.cast (xs' := (((wntT l xk j) ++ [(((j : Nat) : Int) : Int)])).flatMap cI64) o_91 rfl (K.fl_snoc cI64 (wntT l xk j) _ rfl)
           replace hS : K.Sat w0 [g_86, l_90, g1i, l_19, gl_26, l1i, m_28, g_5, g_2, fr] w := hS
           refine K.q [.slice a_88 ((wntT l xk j).length + 1) cap_89] (K.z ?_)
           refine K.blk_normal ?_
           refine K.t (K.g (K.q [.int .i64 ((j : Nat) : Int)] ?_))
           refine K.a (K.QR.n64 ((((j : Nat) : Int) : Int) + (1 : Int)) ((j + 1 : Nat) : Int) (by kernel_rfl) (by omega)) ?_
           refine K.q [.int .i64 ((j + 1 : Nat) : Int)] (K.z (K.t ?_))
           have hcj : curT l xk (j + 1) = ((j : Nat) : Int) := if_pos (by omega)
           have we_93 : wntT l xk (j + 1) = ((wntT l xk j) ++ [(((j : Nat) : Int) : Int)]) := if_pos (by omega)
           refine ⟨_, ?_, j + 1, a_88, cap_89, l_90, rfl, ⟨by rfl, by rfl, by rfl, by rfl, by rfl, by rfl, by rfl, by rfl, by rfl, by rfl, congrArg (fun m_ => Value.slice a_88 m_ cap_89) (show (wntT l xk j).length + 1 = (wntT l xk (j + 1)).length from by rw [we_93]; simp), congrArg (Value.int .i64) (show (((j : Nat) : Int) : Int) = fndT l xk (j + 1) from (if_pos (by omega)).symm), congrArg (Value.int .i64) (show ((plcT c l xk j) : Int) = plcT c l xk (j + 1) from (if_neg (by omega)).symm), congrArg (Value.int .i64) (show (((j : Nat) : Int) : Int) = curT l xk (j + 1) from (if_pos (by omega)).symm), by rfl, by rfl, trivial⟩, (by omega), (by rw [we_93]; simpa using o_91c), hS.pick [1, 2, 3, 4, 5, 6, 7, 8, 9]⟩
           omega
          ·
           refine K.c 1 rfl (K.QR.nice (v := .bool (((curT l xk j) : Int) == ((-1) : Int))) (by kernel_rfl) (congrArg Value.bool (beq_eq_false_iff_ne.2 h_84))) (hS.pick []) ?_
           refine K.b 2 rfl (.bool false) (hS.pick []) ?_
           refine K.w_ 3 rfl (hS.pick []) ?_
           refine K.b 4 rfl (.bool false) (hS.pick []) ?_
           refine K.b 5 rfl (.bool false) (hS.pick []) ?_
           refine K.w_ 6 rfl (hS.pick []) ?_
           refine K.w_ 7 rfl (hS.pick []) ?_
           refine K.w_ 8 rfl (hS.pick []) ?_
           refine K.w_ 9 rfl (hS.pick []) ?_
           refine K.w_ 10 rfl (hS.pick []) ?_
           refine K.w_ 11 rfl (hS.pick []) ?_
           refine K.w_ 12 rfl (hS.pick []) ?_
           refine K.w_ 13 rfl (hS.pick []) ?_
           refine K.b 14 rfl (.bool false) (hS.pick []) ?_
           refine K.DW.done (by kernel_rfl) ?_
           refine K.t (K.f (K.k (K.t (K.s (K.g (K.q [.bool true, .bool true] (K.n_ (K.n_ (K.q [.bool true] (K.z (K.t (K.h (K.g (K.q [.slice q1 ((wntT l xk j).length) c1, .int .i64 ((j : Nat) : Int)] ?_))))))))))))))
           refine K.l (K.OW.gbs [(0, .int .i64 ((j : Nat) : Int))] [.int .i64 ((j : Nat) : Int)] hS (fun w => K.bs_run (P := Tryz.prog) w 44 3 1 _ _ Tryz.underlying44 (by kernel_rfl)) ?_)
           clear hS; intro w r_94 g_95 hg_96 hS
           refine K.l (K.OW.gapp (P := Tryz.prog) (xs := ((wntT l xk j)).flatMap cI64) (z := .int .i64 0) (size := 1) (bytes := 8) 1 [.int .i64 ((j : Nat) : Int)] hS x_57 ?_ (fun j u hj => (by rw [Nat.zero_add]; exact (hS.blk 0 rfl hg_96).cell hj)) (K.one_cells (by rfl)) (by rfl) Tryz.underlying44 (by kernel_rfl) rfl (by decide) (by unfold maxLen; omega) (by omega))
           clear hS; intro a_97 cap_98 w l_99 o_100 hS
           have ln_101 : (((wntT l xk j) ++ [(((j : Nat) : Int) : Int)])).length = (wntT l xk j).length + 1 := by rw [List.length_append]; rfl
           have o_100c := K.OwnG.cast (xs' := (((wntT l xk j) ++ [(((j : Nat) : Int) : Int)])).flatMap cI64) o_100 rfl (K.fl_snoc cI64 (wntT l xk j) _ rfl)
           replace hS : K.Sat w0 [g_95, l_99, g1i, l_19, gl_26, l1i, m_28, g_5, g_2, fr] w := hS
           refine K.q [.slice a_97 ((wntT l xk j).length + 1) cap_98] (K.z ?_)
           refine K.blk_normal ?_
           refine K.t (K.g (K.q [.int .i64 ((j : Nat) : Int)] ?_))
           refine K.a (K.QR.n64 ((((j : Nat) : Int) : Int) + (1 : Int)) ((j + 1 : Nat) : Int) (by kernel_rfl) (by omega)) ?_
           refine K.q [.int .i64 ((j + 1 : Nat) : Int)] (K.z (K.t ?_))
           have hcj : curT l xk (j + 1) = (curT l xk j) := if_neg (by omega)
           have we_102 : wntT l xk (j + 1) = ((wntT l xk j) ++ [(((j : Nat) : Int) : Int)]) := if_pos (by omega)
           refine ⟨_, ?_, j + 1, a_97, cap_98, l_99, rfl, ⟨by rfl, by rfl, by rfl, by rfl, by rfl, by rfl, by rfl, by rfl, by rfl, by rfl, congrArg (fun m_ => Value.slice a_97 m_ cap_98) (show (wntT l xk j).length + 1 = (wntT l xk (j + 1)).length from by rw [we_102]; simp), congrArg (Value.int .i64) (show (((j : Nat) : Int) : Int) = fndT l xk (j + 1) from (if_pos (by omega)).symm), congrArg (Value.int .i64) (show ((plcT c l xk j) : Int) = plcT c l xk (j + 1) from (if_neg (by omega)).symm), congrArg (Value.int .i64) (show ((curT l xk j) : Int) = curT l xk (j + 1) from (if_neg (by omega)).symm), by rfl, by rfl, trivial⟩, (by omega), (by rw [we_102]; simpa using o_100c), hS.pick [1, 2, 3, 4, 5, 6, 7, 8, 9]⟩
           omega
         ·
          refine K.c 9 rfl (K.QR.nice (v := .bool (((l.getD j nd0).key : Int) == (xk : Int))) (by kernel_rfl) (congrArg Value.bool (beq_eq_false_iff_ne.2 h_83))) (hS.pick []) ?_
          refine K.b 10 rfl (.bool false) (hS.pick []) ?_
          refine K.DW.done (by kernel_rfl) ?_
          refine K.t (K.f (K.k (K.t (K.s (K.s ?_)))))
          refine K.KW.gdrawn [] hS (by kernel_rfl) ?_
          clear hS; intro w hS
          refine K.b 0 rfl (.int .i64 (curT l xk j)) (hS.pick []) ?_
          by_cases h_103 : ((curT l xk j) : Int) = ((-1) : Int)
          ·
           refine K.c 1 rfl (K.QR.nice (v := .bool (((curT l xk j) : Int) == ((-1) : Int))) (by kernel_rfl) (congrArg Value.bool (beq_iff_eq.2 h_103))) (hS.pick []) ?_
           refine K.b 2 rfl (.bool true) (hS.pick []) ?_
           refine K.b 3 rfl (.bool true) (hS.pick []) ?_
           refine K.b 4 rfl (.bool true) (hS.pick []) ?_
           refine K.b 5 rfl (.bool true) (hS.pick []) ?_
           refine K.p 6 rfl (.slice (some ⟨b_59, of_60, none⟩) l.length cap) (hS.pick []) ?_
           refine K.p 7 rfl (.int .i64 ((j : Nat) : Int)) (hS.pick []) ?_
           refine K.m 8 rfl (fun w hS => K.QR.ix (of_60 + j * 2) 2 rfl rfl rfl Tryz.underlying24 (by kernel_rfl) (by omega) (by first | (simp; done) | omega | (simp; omega))) (hS.pick []) ?_
           refine K.p 9 rfl (.pointer (some ⟨b_59, of_60 + j * 2, none⟩)) (hS.pick []) ?_
           refine K.o_ 10 rfl (.int .u32 ((l.getD j nd0).key)) (fun w hS => ((hx.no hS.chg).ld j (by omega) 0 _ rfl)) (hS.pick []) ?_
           refine K.b 11 rfl (.pointer (some ⟨r_4, 0, none⟩)) (hS.pick []) ?_
           refine K.c 12 rfl (K.QR.ld1 (v := .int .u32 xk) rfl rfl (by kernel_rfl) ((hS.blk 6 rfl hg_6).cell rfl)) (hS.pick []) ?_
           refine K.c 13 rfl (K.QR.nice (v := .bool (decide (((l.getD j nd0).key : Int) ≥ (xk : Int)))) (by kernel_rfl) (congrArg Value.bool (decide_eq_true (by omega)))) (hS.pick []) ?_
           refine K.b 14 rfl (.bool true) (hS.pick []) ?_
           refine K.DW.done (by kernel_rfl) ?_
           refine K.t (K.h (K.g (K.q [.int .i64 ((j : Nat) : Int), .int .i64 ((j : Nat) : Int)] (K.z (K.t (K.s (K.g (K.q [.bool true, .bool true] (K.n_ (K.n_ (K.q [.bool true] (K.z (K.t (K.h ?_))))))))))))))
           refine K.g (K.q [.slice q1 ((wntT l xk j).length) c1, .int .i64 ((j : Nat) : Int)] ?_)
           refine K.l (K.OW.gbs [(0, .int .i64 ((j : Nat) : Int))] [.int .i64 ((j : Nat) : Int)] hS (fun w => K.bs_run (P := Tryz.prog) w 44 3 1 _ _ Tryz.underlying44 (by kernel_rfl)) ?_)
           clear hS; intro w r_104 g_105 hg_106 hS
           refine K.l (K.OW.gapp (P := Tryz.prog) (xs := ((wntT l xk j)).flatMap cI64) (z := .int .i64 0) (size := 1) (bytes := 8) 1 [.int .i64 ((j : Nat) : Int)] hS x_57 ?_ (fun j u hj => (by rw [Nat.zero_add]; exact (hS.blk 0 rfl hg_106).cell hj)) (K.one_cells (by rfl)) (by rfl) Tryz.underlying44 (by kernel_rfl) rfl (by decide) (by unfold maxLen; omega) (by omega))
           clear hS; intro a_107 cap_108 w l_109 o_110 hS
           have ln_111 : (((wntT l xk j) ++ [(((j : Nat) : Int) : Int)])).length = (wntT l xk j).length + 1 := by rw [List.length_append]; rfl
           have o_110c := K.OwnG.cast (xs' := (((wntT l xk j) ++ [(((j : Nat) : Int) : Int)])).flatMap cI64) o_110 rfl (K.fl_snoc cI64 (wntT l xk j) _ rfl)
           replace hS : K.Sat w0 [g_105, l_109, g1i, l_19, gl_26, l1i, m_28, g_5, g_2, fr] w := hS
           refine K.q [.slice a_107 ((wntT l xk j).length + 1) cap_108] (K.z ?_)
           refine K.blk_normal ?_
           refine K.t (K.g (K.q [.int .i64 ((j : Nat) : Int)] ?_))
           refine K.a (K.QR.n64 ((((j : Nat) : Int) : Int) + (1 : Int)) ((j + 1 : Nat) : Int) (by kernel_rfl) (by omega)) ?_
           refine K.q [.int .i64 ((j + 1 : Nat) : Int)] (K.z (K.t ?_))
           have hcj : curT l xk (j + 1) = ((j : Nat) : Int) := if_pos (by omega)
           have we_112 : wntT l xk (j + 1) = ((wntT l xk j) ++ [(((j : Nat) : Int) : Int)]) := if_pos (by omega)
           refine ⟨_, ?_, j + 1, a_107, cap_108, l_109, rfl, ⟨by rfl, by rfl, by rfl, by rfl, by rfl, by rfl, by rfl, by rfl, by rfl, by rfl, congrArg (fun m_ => Value.slice a_107 m_ cap_108) (show (wntT l xk j).length + 1 = (wntT l xk (j + 1)).length from by rw [we_112]; simp), congrArg (Value.int .i64) (show ((fndT l xk j) : Int) = fndT l xk (j + 1) from (if_neg (by omega)).symm), congrArg (Value.int .i64) (show ((plcT c l xk j) : Int) = plcT c l xk (j + 1) from (if_neg (by omega)).symm), congrArg (Value.int .i64) (show (((j : Nat) : Int) : Int) = curT l xk (j + 1) from (if_pos (by omega)).symm), by rfl, by rfl, trivial⟩, (by omega), (by rw [we_112]; simpa using o_110c), hS.pick [1, 2, 3, 4, 5, 6, 7, 8, 9]⟩
           omega
          ·
           refine K.c 1 rfl (K.QR.nice (v := .bool (((curT l xk j) : Int) == ((-1) : Int))) (by kernel_rfl) (congrArg Value.bool (beq_eq_false_iff_ne.2 h_103))) (hS.pick []) ?_
           refine K.b 2 rfl (.bool false) (hS.pick []) ?_
           refine K.w_ 3 rfl (hS.pick []) ?_
           refine K.b 4 rfl (.bool false) (hS.pick []) ?_
           refine K.b 5 rfl (.bool false) (hS.pick []) ?_
           refine K.w_ 6 rfl (hS.pick []) ?_
           refine K.w_ 7 rfl (hS.pick []) ?_
           refine K.w_ 8 rfl (hS.pick []) ?_
           refine K.w_ 9 rfl (hS.pick []) ?_
           refine K.w_ 10 rfl (hS.pick []) ?_
           refine K.w_ 11 rfl (hS.pick []) ?_
           refine K.w_ 12 rfl (hS.pick []) ?_
           refine K.w_ 13 rfl (hS.pick []) ?_
           refine K.b 14 rfl (.bool false) (hS.pick []) ?_
           refine K.DW.done (by kernel_rfl) ?_
           refine K.t (K.f (K.k (K.t (K.s (K.g (K.q [.bool true, .bool true] (K.n_ (K.n_ (K.q [.bool true] (K.z (K.t (K.h (K.g (K.q [.slice q1 ((wntT l xk j).length) c1, .int .i64 ((j : Nat) : Int)] ?_))))))))))))))
           refine K.l (K.OW.gbs [(0, .int .i64 ((j : Nat) : Int))] [.int .i64 ((j : Nat) : Int)] hS (fun w => K.bs_run (P := Tryz.prog) w 44 3 1 _ _ Tryz.underlying44 (by kernel_rfl)) ?_)
           clear hS; intro w r_113 g_114 hg_115 hS
           refine K.l (K.OW.gapp (P := Tryz.prog) (xs := ((wntT l xk j)).flatMap cI64) (z := .int .i64 0) (size := 1) (bytes := 8) 1 [.int .i64 ((j : Nat) : Int)] hS x_57 ?_ (fun j u hj => (by rw [Nat.zero_add]; exact (hS.blk 0 rfl hg_115).cell hj)) (K.one_cells (by rfl)) (by rfl) Tryz.underlying44 (by kernel_rfl) rfl (by decide) (by unfold maxLen; omega) (by omega))
           clear hS; intro a_116 cap_117 w l_118 o_119 hS
           have ln_120 : (((wntT l xk j) ++ [(((j : Nat) : Int) : Int)])).length = (wntT l xk j).length + 1 := by rw [List.length_append]; rfl
           have o_119c := K.OwnG.cast (xs' := (((wntT l xk j) ++ [(((j : Nat) : Int) : Int)])).flatMap cI64) o_119 rfl (K.fl_snoc cI64 (wntT l xk j) _ rfl)
           replace hS : K.Sat w0 [g_114, l_118, g1i, l_19, gl_26, l1i, m_28, g_5, g_2, fr] w := hS
           refine K.q [.slice a_116 ((wntT l xk j).length + 1) cap_117] (K.z ?_)
           refine K.blk_normal ?_
           refine K.t (K.g (K.q [.int .i64 ((j : Nat) : Int)] ?_))
           refine K.a (K.QR.n64 ((((j : Nat) : Int) : Int) + (1 : Int)) ((j + 1 : Nat) : Int) (by kernel_rfl) (by omega)) ?_
           refine K.q [.int .i64 ((j + 1 : Nat) : Int)] (K.z (K.t ?_))
           have hcj : curT l xk (j + 1) = (curT l xk j) := if_neg (by omega)
           have we_121 : wntT l xk (j + 1) = ((wntT l xk j) ++ [(((j : Nat) : Int) : Int)]) := if_pos (by omega)
           refine ⟨_, ?_, j + 1, a_116, cap_117, l_118, rfl, ⟨by rfl, by rfl, by rfl, by rfl, by rfl, by rfl, by rfl, by rfl, by rfl, by rfl, congrArg (fun m_ => Value.slice a_116 m_ cap_117) (show (wntT l xk j).length + 1 = (wntT l xk (j + 1)).length from by rw [we_121]; simp), congrArg (Value.int .i64) (show ((fndT l xk j) : Int) = fndT l xk (j + 1) from (if_neg (by omega)).symm), congrArg (Value.int .i64) (show ((plcT c l xk j) : Int) = plcT c l xk (j + 1) from (if_neg (by omega)).symm), congrArg (Value.int .i64) (show ((curT l xk j) : Int) = curT l xk (j + 1) from (if_neg (by omega)).symm), by rfl, by rfl, trivial⟩, (by omega), (by rw [we_121]; simpa using o_119c), hS.pick [1, 2, 3, 4, 5, 6, 7, 8, 9]⟩
           omega
       ·
        refine K.xe ((l.getD j nd0).by_ : Int) ((-1) : Int) h_61 ?_
        refine K.q [.bool false] (K.z (K.t (K.s (K.s ?_))))
        refine K.KW.gdrawn [] hS (by kernel_rfl) ?_
        clear hS; intro w hS
        refine K.p 0 rfl (.slice (some ⟨b_59, of_60, none⟩) l.length cap) (hS.pick []) ?_
        refine K.p 1 rfl (.int .i64 ((j : Nat) : Int)) (hS.pick []) ?_
        refine K.m 2 rfl (fun w hS => K.QR.ix (of_60 + j * 2) 2 rfl rfl rfl Tryz.underlying24 (by kernel_rfl) (by omega) (by first | (simp; done) | omega | (simp; omega))) (hS.pick []) ?_
        refine K.p 3 rfl (.pointer (some ⟨b_59, of_60 + j * 2, none⟩)) (hS.pick []) ?_
        refine K.o_ 4 rfl (.int .u32 ((l.getD j nd0).key)) (fun w hS => ((hx.no hS.chg).ld j (by omega) 0 _ rfl)) (hS.pick []) ?_
        refine K.b 5 rfl (.pointer (some ⟨r_4, 0, none⟩)) (hS.pick []) ?_
        refine K.c 6 rfl (K.QR.ld1 (v := .int .u32 xk) rfl rfl (by kernel_rfl) ((hS.blk 6 rfl hg_6).cell rfl)) (hS.pick []) ?_
        by_cases h_122 : ((l.getD j nd0).key : Int) < (xk : Int)
        ·
         refine K.c 7 rfl (K.QR.nice (v := .bool (decide (((l.getD j nd0).key : Int) < (xk : Int)))) (by kernel_rfl) (congrArg Value.bool (decide_eq_true h_122))) (hS.pick []) ?_
         refine K.b 8 rfl (.bool true) (hS.pick []) ?_
         refine K.b 9 rfl (.bool false) (hS.pick []) ?_
         refine K.b 10 rfl (.bool false) (hS.pick []) ?_
         refine K.DW.done (by kernel_rfl) ?_
         refine K.t (K.f (K.k (K.t (K.s (K.s ?_)))))
         refine K.KW.gdrawn [] hS (by kernel_rfl) ?_
         clear hS; intro w hS
         refine K.b 0 rfl (.bool false) (hS.pick []) ?_
         refine K.b 1 rfl (.bool false) (hS.pick []) ?_
         refine K.w_ 2 rfl (hS.pick []) ?_
         refine K.w_ 3 rfl (hS.pick []) ?_
         refine K.w_ 4 rfl (hS.pick []) ?_
         refine K.w_ 5 rfl (hS.pick []) ?_
         refine K.w_ 6 rfl (hS.pick []) ?_
         refine K.w_ 7 rfl (hS.pick []) ?_
         refine K.w_ 8 rfl (hS.pick []) ?_
         refine K.w_ 9 rfl (hS.pick []) ?_
         refine K.b 10 rfl (.bool false) (hS.pick []) ?_
         refine K.DW.done (by kernel_rfl) ?_
         refine K.t (K.f (K.k (K.t (K.s (K.s ?_)))))
         refine K.KW.gdrawn [] hS (by kernel_rfl) ?_
         clear hS; intro w hS
         refine K.b 0 rfl (.int .i64 (curT l xk j)) (hS.pick []) ?_
         by_cases h_123 : ((curT l xk j) : Int) = ((-1) : Int)
         ·
          refine K.c 1 rfl (K.QR.nice (v := .bool (((curT l xk j) : Int) == ((-1) : Int))) (by kernel_rfl) (congrArg Value.bool (beq_iff_eq.2 h_123))) (hS.pick []) ?_
          refine K.b 2 rfl (.bool true) (hS.pick []) ?_
          refine K.b 3 rfl (.bool false) (hS.pick []) ?_
          refine K.b 4 rfl (.bool false) (hS.pick []) ?_
          refine K.b 5 rfl (.bool false) (hS.pick []) ?_
          refine K.w_ 6 rfl (hS.pick []) ?_
          refine K.w_ 7 rfl (hS.pick []) ?_
          refine K.w_ 8 rfl (hS.pick []) ?_
          refine K.w_ 9 rfl (hS.pick []) ?_
          refine K.w_ 10 rfl (hS.pick []) ?_
          refine K.w_ 11 rfl (hS.pick []) ?_
          refine K.w_ 12 rfl (hS.pick []) ?_
          refine K.w_ 13 rfl (hS.pick []) ?_
          refine K.b 14 rfl (.bool false) (hS.pick []) ?_
          refine K.DW.done (by kernel_rfl) ?_
          refine K.t (K.f (K.k (K.t (K.s (K.g (K.q [.bool false, .bool false, .int .i64 (curT l xk j)] ?_))))))
          refine K.xn ((curT l xk j) : Int) ((-1) : Int) h_123 ?_
          refine K.q [.bool false] (K.z (K.t (K.f (K.k ?_))))
          refine K.blk_normal ?_
          refine K.t (K.g (K.q [.int .i64 ((j : Nat) : Int)] ?_))
          refine K.a (K.QR.n64 ((((j : Nat) : Int) : Int) + (1 : Int)) ((j + 1 : Nat) : Int) (by kernel_rfl) (by omega)) ?_
          refine K.q [.int .i64 ((j + 1 : Nat) : Int)] (K.z (K.t ?_))
          have hcj : curT l xk (j + 1) = (curT l xk j) := if_neg (by omega)
          have we_124 : wntT l xk (j + 1) = (wntT l xk j) := if_neg (by omega)
          refine ⟨_, ?_, j + 1, q1, c1, o1, rfl, ⟨by rfl, by rfl, by rfl, by rfl, by rfl, by rfl, by rfl, by rfl, by rfl, by rfl, congrArg (fun m_ => Value.slice q1 m_ c1) (show (wntT l xk j).length = (wntT l xk (j + 1)).length from by rw [we_124]), congrArg (Value.int .i64) (show ((fndT l xk j) : Int) = fndT l xk (j + 1) from (if_neg (by omega)).symm), congrArg (Value.int .i64) (show ((plcT c l xk j) : Int) = plcT c l xk (j + 1) from (if_neg (by omega)).symm), congrArg (Value.int .i64) (show ((curT l xk j) : Int) = curT l xk (j + 1) from (if_neg (by omega)).symm), by rfl, by rfl, trivial⟩, (by omega), (by rw [we_124]; simpa using x_57), hS.pick [0, 1, 2, 3, 4, 5, 6, 7, 8]⟩
          omega
         ·
          refine K.c 1 rfl (K.QR.nice (v := .bool (((curT l xk j) : Int) == ((-1) : Int))) (by kernel_rfl) (congrArg Value.bool (beq_eq_false_iff_ne.2 h_123))) (hS.pick []) ?_
          refine K.b 2 rfl (.bool false) (hS.pick []) ?_
          refine K.w_ 3 rfl (hS.pick []) ?_
          refine K.b 4 rfl (.bool false) (hS.pick []) ?_
          refine K.b 5 rfl (.bool false) (hS.pick []) ?_
          refine K.w_ 6 rfl (hS.pick []) ?_
          refine K.w_ 7 rfl (hS.pick []) ?_
          refine K.w_ 8 rfl (hS.pick []) ?_
          refine K.w_ 9 rfl (hS.pick []) ?_
          refine K.w_ 10 rfl (hS.pick []) ?_
          refine K.w_ 11 rfl (hS.pick []) ?_
          refine K.w_ 12 rfl (hS.pick []) ?_
          refine K.w_ 13 rfl (hS.pick []) ?_
          refine K.b 14 rfl (.bool false) (hS.pick []) ?_
          refine K.DW.done (by kernel_rfl) ?_
          refine K.t (K.f (K.k (K.t (K.s (K.g (K.q [.bool false, .bool false, .int .i64 (curT l xk j)] ?_))))))
          refine K.yn ((curT l xk j) : Int) ((-1) : Int) h_123 ?_
          refine K.q [.bool true] (K.z (K.t (K.h (K.g (K.q [.slice q1 ((wntT l xk j).length) c1, .int .i64 ((j : Nat) : Int)] ?_)))))
          refine K.l (K.OW.gbs [(0, .int .i64 ((j : Nat) : Int))] [.int .i64 ((j : Nat) : Int)] hS (fun w => K.bs_run (P := Tryz.prog) w 44 3 1 _ _ Tryz.underlying44 (by kernel_rfl)) ?_)
          clear hS; intro w r_125 g_126 hg_127 hS
          refine K.l (K.OW.gapp (P := Tryz.prog) (xs := ((wntT l xk j)).flatMap cI64) (z := .int .i64 0) (size := 1) (bytes := 8) 1 [.int .i64 ((j : Nat) : Int)] hS x_57 ?_ (fun j u hj => (by rw [Nat.zero_add]; exact (hS.blk 0 rfl hg_127).cell hj)) (K.one_cells (by rfl)) (by rfl) Tryz.underlying44 (by kernel_rfl) rfl (by decide) (by unfold maxLen; omega) (by omega))
          clear hS; intro a_128 cap_129 w l_130 o_131 hS
          have ln_132 : (((wntT l xk j) ++ [(((j : Nat) : Int) : Int)])).length = (wntT l xk j).length + 1 := by rw [List.length_append]; rfl
          have o_131c := K.OwnG.cast (xs' := (((wntT l xk j) ++ [(((j : Nat) : Int) : Int)])).flatMap cI64) o_131 rfl (K.fl_snoc cI64 (wntT l xk j) _ rfl)
          replace hS : K.Sat w0 [g_126, l_130, g1i, l_19, gl_26, l1i, m_28, g_5, g_2, fr] w := hS
          refine K.q [.slice a_128 ((wntT l xk j).length + 1) cap_129] (K.z ?_)
          refine K.blk_normal ?_
          refine K.t (K.g (K.q [.int .i64 ((j : Nat) : Int)] ?_))
          refine K.a (K.QR.n64 ((((j : Nat) : Int) : Int) + (1 : Int)) ((j + 1 : Nat) : Int) (by kernel_rfl) (by omega)) ?_
          refine K.q [.int .i64 ((j + 1 : Nat) : Int)] (K.z (K.t ?_))
          have hcj : curT l xk (j + 1) = (curT l xk j) := if_neg (by omega)
          have we_133 : wntT l xk (j + 1) = ((wntT l xk j) ++ [(((j : Nat) : Int) : Int)]) := if_pos (by omega)
          refine ⟨_, ?_, j + 1, a_128, cap_129, l_130, rfl, ⟨by rfl, by rfl, by rfl, by rfl, by rfl, by rfl, by rfl, by rfl, by rfl, by rfl, congrArg (fun m_ => Value.slice a_128 m_ cap_129) (show (wntT l xk j).length + 1 = (wntT l xk (j + 1)).length from by rw [we_133]; simp), congrArg (Value.int .i64) (show ((fndT l xk j) : Int) = fndT l xk (j + 1) from (if_neg (by omega)).symm), congrArg (Value.int .i64) (show ((plcT c l xk j) : Int) = plcT c l xk (j + 1) from (if_neg (by omega)).symm), congrArg (Value.int .i64) (show ((curT l xk j) : Int) = curT l xk (j + 1) from (if_neg (by omega)).symm), by rfl, by rfl, trivial⟩, (by omega), (by rw [we_133]; simpa using o_131c), hS.pick [1, 2, 3, 4, 5, 6, 7, 8, 9]⟩
          omega
        ·
         refine K.c 7 rfl (K.QR.nice (v := .bool (decide (((l.getD j nd0).key : Int) < (xk : Int)))) (by kernel_rfl) (congrArg Value.bool (decide_eq_false h_122))) (hS.pick []) ?_
         refine K.b 8 rfl (.bool false) (hS.pick []) ?_
         refine K.w_ 9 rfl (hS.pick []) ?_
         refine K.b 10 rfl (.bool false) (hS.pick []) ?_
         refine K.DW.done (by kernel_rfl) ?_
         refine K.t (K.f (K.k (K.t (K.s (K.s ?_)))))
         refine K.KW.gdrawn [] hS (by kernel_rfl) ?_
         clear hS; intro w hS
         refine K.b 0 rfl (.bool false) (hS.pick []) ?_
         refine K.b 1 rfl (.bool false) (hS.pick []) ?_
         refine K.w_ 2 rfl (hS.pick []) ?_
         refine K.w_ 3 rfl (hS.pick []) ?_
         refine K.w_ 4 rfl (hS.pick []) ?_
         refine K.w_ 5 rfl (hS.pick []) ?_
         refine K.w_ 6 rfl (hS.pick []) ?_
         refine K.w_ 7 rfl (hS.pick []) ?_
         refine K.w_ 8 rfl (hS.pick []) ?_
         refine K.w_ 9 rfl (hS.pick []) ?_
         refine K.b 10 rfl (.bool false) (hS.pick []) ?_
         refine K.DW.done (by kernel_rfl) ?_
         refine K.t (K.f (K.k (K.t (K.s (K.s ?_)))))
         refine K.KW.gdrawn [] hS (by kernel_rfl) ?_
         clear hS; intro w hS
         refine K.b 0 rfl (.int .i64 (curT l xk j)) (hS.pick []) ?_
         by_cases h_134 : ((curT l xk j) : Int) = ((-1) : Int)
         ·
          refine K.c 1 rfl (K.QR.nice (v := .bool (((curT l xk j) : Int) == ((-1) : Int))) (by kernel_rfl) (congrArg Value.bool (beq_iff_eq.2 h_134))) (hS.pick []) ?_
          refine K.b 2 rfl (.bool true) (hS.pick []) ?_
          refine K.b 3 rfl (.bool false) (hS.pick []) ?_
          refine K.b 4 rfl (.bool false) (hS.pick []) ?_
          refine K.b 5 rfl (.bool false) (hS.pick []) ?_
          refine K.w_ 6 rfl (hS.pick []) ?_
          refine K.w_ 7 rfl (hS.pick []) ?_
          refine K.w_ 8 rfl (hS.pick []) ?_
          refine K.w_ 9 rfl (hS.pick []) ?_
          refine K.w_ 10 rfl (hS.pick []) ?_
          refine K.w_ 11 rfl (hS.pick []) ?_
          refine K.w_ 12 rfl (hS.pick []) ?_
          refine K.w_ 13 rfl (hS.pick []) ?_
          refine K.b 14 rfl (.bool false) (hS.pick []) ?_
          refine K.DW.done (by kernel_rfl) ?_
          refine K.t (K.f (K.k (K.t (K.s (K.g (K.q [.bool false, .bool false, .int .i64 (curT l xk j)] ?_))))))
          refine K.xn ((curT l xk j) : Int) ((-1) : Int) h_134 ?_
          refine K.q [.bool false] (K.z (K.t (K.f (K.k ?_))))
          refine K.blk_normal ?_
          refine K.t (K.g (K.q [.int .i64 ((j : Nat) : Int)] ?_))
          refine K.a (K.QR.n64 ((((j : Nat) : Int) : Int) + (1 : Int)) ((j + 1 : Nat) : Int) (by kernel_rfl) (by omega)) ?_
          refine K.q [.int .i64 ((j + 1 : Nat) : Int)] (K.z (K.t ?_))
          have hcj : curT l xk (j + 1) = (curT l xk j) := if_neg (by omega)
          have we_135 : wntT l xk (j + 1) = (wntT l xk j) := if_neg (by omega)
          refine ⟨_, ?_, j + 1, q1, c1, o1, rfl, ⟨by rfl, by rfl, by rfl, by rfl, by rfl, by rfl, by rfl, by rfl, by rfl, by rfl, congrArg (fun m_ => Value.slice q1 m_ c1) (show (wntT l xk j).length = (wntT l xk (j + 1)).length from by rw [we_135]), congrArg (Value.int .i64) (show ((fndT l xk j) : Int) = fndT l xk (j + 1) from (if_neg (by omega)).symm), congrArg (Value.int .i64) (show ((plcT c l xk j) : Int) = plcT c l xk (j + 1) from (if_neg (by omega)).symm), congrArg (Value.int .i64) (show ((curT l xk j) : Int) = curT l xk (j + 1) from (if_neg (by omega)).symm), by rfl, by rfl, trivial⟩, (by omega), (by rw [we_135]; simpa using x_57), hS.pick [0, 1, 2, 3, 4, 5, 6, 7, 8]⟩
          omega
         ·
          refine K.c 1 rfl (K.QR.nice (v := .bool (((curT l xk j) : Int) == ((-1) : Int))) (by kernel_rfl) (congrArg Value.bool (beq_eq_false_iff_ne.2 h_134))) (hS.pick []) ?_
          refine K.b 2 rfl (.bool false) (hS.pick []) ?_
          refine K.w_ 3 rfl (hS.pick []) ?_
          refine K.b 4 rfl (.bool false) (hS.pick []) ?_
          refine K.b 5 rfl (.bool false) (hS.pick []) ?_
          refine K.w_ 6 rfl (hS.pick []) ?_
          refine K.w_ 7 rfl (hS.pick []) ?_
          refine K.w_ 8 rfl (hS.pick []) ?_
          refine K.w_ 9 rfl (hS.pick []) ?_
          refine K.w_ 10 rfl (hS.pick []) ?_
          refine K.w_ 11 rfl (hS.pick []) ?_
          refine K.w_ 12 rfl (hS.pick []) ?_
          refine K.w_ 13 rfl (hS.pick []) ?_
          refine K.b 14 rfl (.bool false) (hS.pick []) ?_
          refine K.DW.done (by kernel_rfl) ?_
          refine K.t (K.f (K.k (K.t (K.s (K.g (K.q [.bool false, .bool false, .int .i64 (curT l xk j)] ?_))))))
          refine K.yn ((curT l xk j) : Int) ((-1) : Int) h_134 ?_
          refine K.q [.bool true] (K.z (K.t (K.h (K.g (K.q [.slice q1 ((wntT l xk j).length) c1, .int .i64 ((j : Nat) : Int)] ?_)))))
          refine K.l (K.OW.gbs [(0, .int .i64 ((j : Nat) : Int))] [.int .i64 ((j : Nat) : Int)] hS (fun w => K.bs_run (P := Tryz.prog) w 44 3 1 _ _ Tryz.underlying44 (by kernel_rfl)) ?_)
          clear hS; intro w r_136 g_137 hg_138 hS
          refine K.l (K.OW.gapp (P := Tryz.prog) (xs := ((wntT l xk j)).flatMap cI64) (z := .int .i64 0) (size := 1) (bytes := 8) 1 [.int .i64 ((j : Nat) : Int)] hS x_57 ?_ (fun j u hj => (by rw [Nat.zero_add]; exact (hS.blk 0 rfl hg_138).cell hj)) (K.one_cells (by rfl)) (by rfl) Tryz.underlying44 (by kernel_rfl) rfl (by decide) (by unfold maxLen; omega) (by omega))
          clear hS; intro a_139 cap_140 w l_141 o_142 hS
          have ln_143 : (((wntT l xk j) ++ [(((j : Nat) : Int) : Int)])).length = (wntT l xk j).length + 1 := by rw [List.length_append]; rfl
          have o_142c := K.OwnG.cast (xs' := (((wntT l xk j) ++ [(((j : Nat) : Int) : Int)])).flatMap cI64) o_142 rfl (K.fl_snoc cI64 (wntT l xk j) _ rfl)
          replace hS : K.Sat w0 [g_137, l_141, g1i, l_19, gl_26, l1i, m_28, g_5, g_2, fr] w := hS
          refine K.q [.slice a_139 ((wntT l xk j).length + 1) cap_140] (K.z ?_)
          refine K.blk_normal ?_
          refine K.t (K.g (K.q [.int .i64 ((j : Nat) : Int)] ?_))
          refine K.a (K.QR.n64 ((((j : Nat) : Int) : Int) + (1 : Int)) ((j + 1 : Nat) : Int) (by kernel_rfl) (by omega)) ?_
          refine K.q [.int .i64 ((j + 1 : Nat) : Int)] (K.z (K.t ?_))
          have hcj : curT l xk (j + 1) = (curT l xk j) := if_neg (by omega)
          have we_144 : wntT l xk (j + 1) = ((wntT l xk j) ++ [(((j : Nat) : Int) : Int)]) := if_pos (by omega)
          refine ⟨_, ?_, j + 1, a_139, cap_140, l_141, rfl, ⟨by rfl, by rfl, by rfl, by rfl, by rfl, by rfl, by rfl, by rfl, by rfl, by rfl, congrArg (fun m_ => Value.slice a_139 m_ cap_140) (show (wntT l xk j).length + 1 = (wntT l xk (j + 1)).length from by rw [we_144]; simp), congrArg (Value.int .i64) (show ((fndT l xk j) : Int) = fndT l xk (j + 1) from (if_neg (by omega)).symm), congrArg (Value.int .i64) (show ((plcT c l xk j) : Int) = plcT c l xk (j + 1) from (if_neg (by omega)).symm), congrArg (Value.int .i64) (show ((curT l xk j) : Int) = curT l xk (j + 1) from (if_neg (by omega)).symm), by rfl, by rfl, trivial⟩, (by omega), (by rw [we_144]; simpa using o_142c), hS.pick [1, 2, 3, 4, 5, 6, 7, 8, 9]⟩
          omega
      ·
       refine K.x ((((j : Nat) : Int) : Int) < (((l.length : Nat) : Int) : Int)) h_58 ?_
       refine K.z (K.t (K.f ?_))
       refine K.KW.exit ?_
       refine K.thn_exit ?_
       refine K.thn_exit ?_
       refine K.blk_hit ?_
       refine K.t (K.s ?_)
       obtain rfl : j = l.length := by omega
       refine K.g (K.q [.pointer (some ⟨b_21, 0, none⟩), .pointer (some ⟨p_22, 0, none⟩)] ?_)
       refine K.l (K.OW.gcall hS [3, 4] [0, 1, 2, 5, 6, 7, 8] [.pointer (some ⟨b_21, 0, none⟩), .pointer (some ⟨p_22, 0, none⟩), .int .i64 32] (sslotsB_ok _ _ _ _ _ _ c (by assumption) hf16 ((skIt c ((lns c).toNat) (c.th.toNat) ⟨0, 32, xk, 1, false, false, 32, 0, 0, 0, 0, 0, ⟨0, 32, 0, 0, -1⟩, ⟨0, 0, 0, 0, -1, 0, false, 0⟩⟩ M0 (20 * l.length + 20)).2) _ _ hl_29 x_42 hMf 32 (by omega) rfl (wntT l xk l.length) hsl) ?_)
       clear hS; rintro _ _ w ⟨r_145, c_146, l_147, rfl, rfl, o_148⟩ hS
       replace hS : K.Sat w0 [gl_26, l1i, l_147, o1, g1i, l_19, m_28, g_5, g_2, fr] w := hS
       refine K.q [.tuple #[.slice r_145 ((wntT l xk l.length).length) c_146, .bool true], .slice r_145 ((wntT l xk l.length).length) c_146, .bool true, .slice r_145 ((wntT l xk l.length).length) c_146, .bool true] (K.z (K.t (K.s (K.s ?_))))
       by_cases h_149 : ((fndT l xk l.length) : Int) = ((-1) : Int)
       ·
        refine K.g (K.q [.bool true, .bool false, .bool false, .pointer (some ⟨p_34, 0, none⟩)] ?_)
        refine K.l (K.OW.gcall hS [4] [0, 1, 2, 3, 5, 6, 7, 8, 9] [.pointer (some ⟨p_34, 0, none⟩)] (skDoneE_ok _ _ _ ((skIt c ((lns c).toNat) (c.th.toNat) ⟨0, 32, xk, 1, false, false, 32, 0, 0, 0, 0, 0, ⟨0, 32, 0, 0, -1⟩, ⟨0, 0, 0, 0, -1, 0, false, 0⟩⟩ M0 (20 * l.length + 20)).1) _ x_41) ?_)
        clear hS; rintro _ _ w ⟨rfl, rfl⟩ hS
        replace hS : K.Sat w0 [g1i, gl_26, l1i, l_147, o1, l_19, m_28, g_5, g_2, fr] w := hS
        cases hb_150 : ((skIt c ((lns c).toNat) (c.th.toNat) ⟨0, 32, xk, 1, false, false, 32, 0, 0, 0, 0, 0, ⟨0, 32, 0, 0, -1⟩, ⟨0, 0, 0, 0, -1, 0, false, 0⟩⟩ M0 (20 * l.length + 20)).1).done
        ·cases (hb_150.symm.trans (show ((skIt c ((lns c).toNat) (c.th.toNat) ⟨0, 32, xk, 1, false, false, 32, 0, 0, 0, 0, 0, ⟨0, 32, 0, 0, -1⟩, ⟨0, 0, 0, 0, -1, 0, false, 0⟩⟩ M0 (20 * l.length + 20)).1).done = true from hF.done))
        ·
         refine K.q [.bool false, .bool false, .bool false, .bool true, .bool false, .bool false, .bool false, .slice r_145 ((wntT l xk l.length).length) c_146] ?_
         refine K.a (K.QR.len (P := Tryz.prog) rfl rfl Tryz.underlying44) ?_
         refine K.q [.slice q1 ((wntT l xk l.length).length) c1] ?_
         refine K.a (K.QR.len (P := Tryz.prog) rfl rfl Tryz.underlying44) ?_
         refine K.xn ((((wntT l xk l.length).length : Nat) : Int) : Int) ((((wntT l xk l.length).length : Nat) : Int) : Int) rfl ?_
         refine K.q [.bool false, .bool false, .pointer (some ⟨p_34, 0, none⟩)] ?_
         refine K.l (K.OW.gcall hS [0] [1, 2, 3, 4, 5, 6, 7, 8, 9] [.pointer (some ⟨p_34, 0, none⟩)] (skFoundE_ok _ _ _ ((skIt c ((lns c).toNat) (c.th.toNat) ⟨0, 32, xk, 1, false, false, 32, 0, 0, 0, 0, 0, ⟨0, 32, 0, 0, -1⟩, ⟨0, 0, 0, 0, -1, 0, false, 0⟩⟩ M0 (20 * l.length + 20)).1) _ x_41) ?_)
         clear hS; rintro _ _ w ⟨rfl, rfl⟩ hS
         replace hS : K.Sat w0 [g1i, gl_26, l1i, l_147, o1, l_19, m_28, g_5, g_2, fr] w := hS
         cases hb_151 : (((skIt c ((lns c).toNat) (c.th.toNat) ⟨0, 32, xk, 1, false, false, 32, 0, 0, 0, 0, 0, ⟨0, 32, 0, 0, -1⟩, ⟨0, 0, 0, 0, -1, 0, false, 0⟩⟩ M0 (20 * l.length + 20)).1).done && ((skIt c ((lns c).toNat) (c.th.toNat) ⟨0, 32, xk, 1, false, false, 32, 0, 0, 0, 0, 0, ⟨0, 32, 0, 0, -1⟩, ⟨0, 0, 0, 0, -1, 0, false, 0⟩⟩ M0 (20 * l.length + 20)).1).found)
         ·
          refine K.q [.int .i64 (fndT l xk l.length)] ?_
          refine K.xn ((fndT l xk l.length) : Int) ((-1) : Int) h_149 ?_
          refine K.q [.bool false, .bool false, .bool false, .pointer (some ⟨p_34, 0, none⟩)] ?_
          refine K.l (K.OW.gcall hS [0] [1, 2, 3, 4, 5, 6, 7, 8, 9] [.pointer (some ⟨p_34, 0, none⟩)] (skPrevE_ok _ _ _ ((skIt c ((lns c).toNat) (c.th.toNat) ⟨0, 32, xk, 1, false, false, 32, 0, 0, 0, 0, 0, ⟨0, 32, 0, 0, -1⟩, ⟨0, 0, 0, 0, -1, 0, false, 0⟩⟩ M0 (20 * l.length + 20)).1) _ x_41) ?_)
          clear hS; rintro _ _ w ⟨rfl, rfl⟩ hS
          replace hS : K.Sat w0 [g1i, gl_26, l1i, l_147, o1, l_19, m_28, g_5, g_2, fr] w := hS
          refine K.q [.int .i64 (plcT c l xk l.length)] ?_
          refine K.xn ((if ((skIt c ((lns c).toNat) (c.th.toNat) ⟨0, 32, xk, 1, false, false, 32, 0, 0, 0, 0, 0, ⟨0, 32, 0, 0, -1⟩, ⟨0, 0, 0, 0, -1, 0, false, 0⟩⟩ M0 (20 * l.length + 20)).1).done = true then ((skIt c ((lns c).toNat) (c.th.toNat) ⟨0, 32, xk, 1, false, false, 32, 0, 0, 0, 0, 0, ⟨0, 32, 0, 0, -1⟩, ⟨0, 0, 0, 0, -1, 0, false, 0⟩⟩ M0 (20 * l.length + 20)).1).prev else -1) : Int) ((plcT c l xk l.length) : Int) ((if_pos hF.done).trans hF.prev) ?_
          refine K.q [.bool false, .bool false, .pointer (some ⟨p_34, 0, none⟩)] ?_
          refine K.l (K.OW.gcall hS [0] [1, 2, 3, 4, 5, 6, 7, 8, 9] [.pointer (some ⟨p_34, 0, none⟩)] (skCurrE_ok _ _ _ ((skIt c ((lns c).toNat) (c.th.toNat) ⟨0, 32, xk, 1, false, false, 32, 0, 0, 0, 0, 0, ⟨0, 32, 0, 0, -1⟩, ⟨0, 0, 0, 0, -1, 0, false, 0⟩⟩ M0 (20 * l.length + 20)).1) _ x_41) ?_)
          clear hS; rintro _ _ w ⟨rfl, rfl⟩ hS
          replace hS : K.Sat w0 [g1i, gl_26, l1i, l_147, o1, l_19, m_28, g_5, g_2, fr] w := hS
          refine K.q [.int .i64 (curT l xk l.length)] ?_
          refine K.xn ((if ((skIt c ((lns c).toNat) (c.th.toNat) ⟨0, 32, xk, 1, false, false, 32, 0, 0, 0, 0, 0, ⟨0, 32, 0, 0, -1⟩, ⟨0, 0, 0, 0, -1, 0, false, 0⟩⟩ M0 (20 * l.length + 20)).1).done = true then ((skIt c ((lns c).toNat) (c.th.toNat) ⟨0, 32, xk, 1, false, false, 32, 0, 0, 0, 0, 0, ⟨0, 32, 0, 0, -1⟩, ⟨0, 0, 0, 0, -1, 0, false, 0⟩⟩ M0 (20 * l.length + 20)).1).curr else -1) : Int) ((curT l xk l.length) : Int) ((if_pos hF.done).trans hF.curr) ?_
          refine K.q [.bool false] (K.z (K.t (K.f (K.k (K.t (K.s (K.s (K.g (K.q [.int .i64 0] (K.z (K.t ?_)))))))))))
          refine K.KW.block ?_
          refine K.KW.loop (fun m_ F_ w_ => ∃ (m : Nat), m_ = (wntT l xk l.length).length - m ∧ K.Sl F_ [(0, .agg #[.int .i64 c.th, .int .i64 c.sl, .int .i64 c.lo, .int .i64 c.bu]), (1, .slice a l.length cap), (2, .agg #[.int .u32 xk, .slice a2 ds.length cap2]), (13, .slice q1 ((wntT l xk l.length).length) c1), (19, .slice r_145 ((wntT l xk l.length).length) c_146), (21, .int .i64 ((m : Nat) : Int)), (180, undef)] ∧ m ≤ (wntT l xk l.length).length ∧ K.Sat w0 [g1i, gl_26, l1i, l_147, o1, l_19, m_28, g_5, g_2, fr] w_) ((fun (m : Nat) => (wntT l xk l.length).length - m) 0) ?_ ?_
          ·
           exact ⟨0, rfl, ⟨by rfl, by rfl, by rfl, by rfl, by rfl, by rfl, by rfl, trivial⟩, (by omega), hS.pick [0, 1, 2, 3, 4, 5, 6, 7, 8, 9]⟩
          ·
           clear hS
           intro m_152 F_153 w hI
           obtain ⟨m, rfl, sl_154, p_155, hS⟩ := hI
           rw [← K.Sl.puts sl_154]; clear sl_154
           refine K.s (K.s (K.g (K.q [.int .i64 ((m : Nat) : Int), .slice q1 ((wntT l xk l.length).length) c1] ?_)))
           refine K.a (K.QR.len (P := Tryz.prog) rfl rfl Tryz.underlying44) ?_
           by_cases h_156 : (((m : Nat) : Int) : Int) < ((((wntT l xk l.length).length : Nat) : Int) : Int)
           ·
            refine K.y ((((m : Nat) : Int) : Int) < ((((wntT l xk l.length).length : Nat) : Int) : Int)) h_156 ?_
            refine K.z (K.t (K.h (K.k (K.t (K.s ?_)))))
            refine K.KW.block ?_
            refine K.s ?_
            obtain ⟨b_157, rfl⟩ := o_148.some_ (by have := o_148.le; omega)
            obtain ⟨b_159, rfl⟩ := x_57.some_ (by have := x_57.le; omega)
            refine K.KW.gdrawn [3] hS (by kernel_rfl) ?_
            clear hS; intro w hS
            refine K.p 0 rfl (.slice (some ⟨b_157, 0, none⟩) ((wntT l xk l.length).length) c_146) (hS.pick [3]) ?_
            refine K.p 1 rfl (.int .i64 ((m : Nat) : Int)) (hS.pick [3]) ?_
            refine K.m 2 rfl (fun w hS => K.QR.ix m 1 rfl rfl rfl Tryz.underlying44 (by kernel_rfl) (by omega) (by first | (simp; done) | omega | (simp; omega))) (hS.pick [3]) ?_
            refine K.o_ 3 rfl (.int .i64 ((wntT l xk l.length).getD m 0)) (fun w hS => (K.Own.atS (c := cI64) (d := 0) (fun _ => rfl) (hS.ownr 0 rfl o_148) rfl m (by omega))) (hS.pick [3]) ?_
            refine K.p 4 rfl (.slice (some ⟨b_159, 0, none⟩) ((wntT l xk l.length).length) c1) (hS.pick [3]) ?_
            refine K.b 5 rfl (.int .i64 ((m : Nat) : Int)) (hS.pick [3]) ?_
            refine K.c 6 rfl (K.QR.ix m 1 rfl rfl rfl Tryz.underlying44 (by kernel_rfl) (by omega) (by first | (simp; done) | omega | (simp; omega))) (hS.pick [3]) ?_
            refine K.c 7 rfl (K.QR.ld1 (v := .int .i64 ((wntT l xk l.length).getD m 0)) rfl rfl (by kernel_rfl) (K.Own.atS (c := cI64) (d := 0) (fun _ => rfl) (hS.ownr 4 rfl x_57) rfl m (by omega))) (hS.pick [3]) ?_
            refine K.c 8 rfl (K.QR.nice (v := .bool (((wntT l xk l.length).getD m 0 : Int) != ((wntT l xk l.length).getD m 0 : Int))) (by kernel_rfl) (congrArg Value.bool (bne_eq_false_iff_eq.2 rfl))) (hS.pick [3]) ?_
            refine K.DW.done (by kernel_rfl) ?_
            refine K.t (K.f (K.k ?_))
            refine K.blk_normal ?_
            refine K.t (K.g (K.q [.int .i64 ((m : Nat) : Int)] ?_))
            refine K.a (K.QR.n64 ((((m : Nat) : Int) : Int) + (1 : Int)) ((m + 1 : Nat) : Int) (by kernel_rfl) (by omega)) ?_
            refine K.q [.int .i64 ((m + 1 : Nat) : Int)] (K.z (K.t ?_))
            refine ⟨_, ?_, m + 1, rfl, ⟨by rfl, by rfl, by rfl, by rfl, by rfl, by rfl, by rfl, trivial⟩, (by omega), hS.pick [0, 1, 2, 3, 4, 5, 6, 7, 8, 9]⟩
            omega
           ·
            refine K.x ((((m : Nat) : Int) : Int) < ((((wntT l xk l.length).length : Nat) : Int) : Int)) h_156 ?_
            refine K.z (K.t (K.f ?_))
            refine K.KW.exit ?_
            refine K.thn_exit ?_
            refine K.thn_exit ?_
            refine K.blk_hit ?_
            refine K.t (K.s (K.g ?_))
            refine K.l (K.OW.gcall hS [] [0, 1, 2, 3, 4, 5, 6, 7, 8, 9] [] (awake14_ok _) ?_)
            clear hS; rintro _ _ w ⟨rfl, rfl⟩ hS
            replace hS : K.Sat w0 [g1i, gl_26, l1i, l_147, o1, l_19, m_28, g_5, g_2, fr] w := hS
            refine K.q [.bool true] (K.z (K.t (K.r ?_)))
            refine ⟨.inr rfl, rfl, (.bool true), K.res1 rfl rfl, [], ?_, hS.pick [9]⟩
            exact rfl
         ·cases (hb_151.symm.trans (show (((skIt c ((lns c).toNat) (c.th.toNat) ⟨0, 32, xk, 1, false, false, 32, 0, 0, 0, 0, 0, ⟨0, 32, 0, 0, -1⟩, ⟨0, 0, 0, 0, -1, 0, false, 0⟩⟩ M0 (20 * l.length + 20)).1).done && ((skIt c ((lns c).toNat) (c.th.toNat) ⟨0, 32, xk, 1, false, false, 32, 0, 0, 0, 0, 0, ⟨0, 32, 0, 0, -1⟩, ⟨0, 0, 0, 0, -1, 0, false, 0⟩⟩ M0 (20 * l.length + 20)).1).found) = false from by rw [hF.done, hF.found, decide_eq_false (by omega)]; rfl))
       ·
        refine K.g (K.q [.bool true, .bool false, .bool false, .pointer (some ⟨p_34, 0, none⟩)] ?_)
        refine K.l (K.OW.gcall hS [4] [0, 1, 2, 3, 5, 6, 7, 8, 9] [.pointer (some ⟨p_34, 0, none⟩)] (skDoneE_ok _ _ _ ((skIt c ((lns c).toNat) (c.th.toNat) ⟨0, 32, xk, 1, false, false, 32, 0, 0, 0, 0, 0, ⟨0, 32, 0, 0, -1⟩, ⟨0, 0, 0, 0, -1, 0, false, 0⟩⟩ M0 (20 * l.length + 20)).1) _ x_41) ?_)
        clear hS; rintro _ _ w ⟨rfl, rfl⟩ hS
        replace hS : K.Sat w0 [g1i, gl_26, l1i, l_147, o1, l_19, m_28, g_5, g_2, fr] w := hS
        cases hb_161 : ((skIt c ((lns c).toNat) (c.th.toNat) ⟨0, 32, xk, 1, false, false, 32, 0, 0, 0, 0, 0, ⟨0, 32, 0, 0, -1⟩, ⟨0, 0, 0, 0, -1, 0, false, 0⟩⟩ M0 (20 * l.length + 20)).1).done
        ·cases (hb_161.symm.trans (show ((skIt c ((lns c).toNat) (c.th.toNat) ⟨0, 32, xk, 1, false, false, 32, 0, 0, 0, 0, 0, ⟨0, 32, 0, 0, -1⟩, ⟨0, 0, 0, 0, -1, 0, false, 0⟩⟩ M0 (20 * l.length + 20)).1).done = true from hF.done))
        ·
         refine K.q [.bool false, .bool false, .bool false, .bool true, .bool false, .bool false, .bool false, .slice r_145 ((wntT l xk l.length).length) c_146] ?_
         refine K.a (K.QR.len (P := Tryz.prog) rfl rfl Tryz.underlying44) ?_
         refine K.q [.slice q1 ((wntT l xk l.length).length) c1] ?_
         refine K.a (K.QR.len (P := Tryz.prog) rfl rfl Tryz.underlying44) ?_
         refine K.xn ((((wntT l xk l.length).length : Nat) : Int) : Int) ((((wntT l xk l.length).length : Nat) : Int) : Int) rfl ?_
         refine K.q [.bool false, .bool false, .pointer (some ⟨p_34, 0, none⟩)] ?_
         refine K.l (K.OW.gcall hS [0] [1, 2, 3, 4, 5, 6, 7, 8, 9] [.pointer (some ⟨p_34, 0, none⟩)] (skFoundE_ok _ _ _ ((skIt c ((lns c).toNat) (c.th.toNat) ⟨0, 32, xk, 1, false, false, 32, 0, 0, 0, 0, 0, ⟨0, 32, 0, 0, -1⟩, ⟨0, 0, 0, 0, -1, 0, false, 0⟩⟩ M0 (20 * l.length + 20)).1) _ x_41) ?_)
         clear hS; rintro _ _ w ⟨rfl, rfl⟩ hS
         replace hS : K.Sat w0 [g1i, gl_26, l1i, l_147, o1, l_19, m_28, g_5, g_2, fr] w := hS
         cases hb_162 : (((skIt c ((lns c).toNat) (c.th.toNat) ⟨0, 32, xk, 1, false, false, 32, 0, 0, 0, 0, 0, ⟨0, 32, 0, 0, -1⟩, ⟨0, 0, 0, 0, -1, 0, false, 0⟩⟩ M0 (20 * l.length + 20)).1).done && ((skIt c ((lns c).toNat) (c.th.toNat) ⟨0, 32, xk, 1, false, false, 32, 0, 0, 0, 0, 0, ⟨0, 32, 0, 0, -1⟩, ⟨0, 0, 0, 0, -1, 0, false, 0⟩⟩ M0 (20 * l.length + 20)).1).found)
         ·cases (hb_162.symm.trans (show (((skIt c ((lns c).toNat) (c.th.toNat) ⟨0, 32, xk, 1, false, false, 32, 0, 0, 0, 0, 0, ⟨0, 32, 0, 0, -1⟩, ⟨0, 0, 0, 0, -1, 0, false, 0⟩⟩ M0 (20 * l.length + 20)).1).done && ((skIt c ((lns c).toNat) (c.th.toNat) ⟨0, 32, xk, 1, false, false, 32, 0, 0, 0, 0, 0, ⟨0, 32, 0, 0, -1⟩, ⟨0, 0, 0, 0, -1, 0, false, 0⟩⟩ M0 (20 * l.length + 20)).1).found) = true from by rw [hF.done, hF.found, decide_eq_true (by omega)]; rfl))
         ·
          refine K.q [.int .i64 (fndT l xk l.length)] ?_
          refine K.yn ((fndT l xk l.length) : Int) ((-1) : Int) h_149 ?_
          refine K.q [.bool false, .bool false, .bool false, .pointer (some ⟨p_34, 0, none⟩)] ?_
          refine K.l (K.OW.gcall hS [0] [1, 2, 3, 4, 5, 6, 7, 8, 9] [.pointer (some ⟨p_34, 0, none⟩)] (skPrevE_ok _ _ _ ((skIt c ((lns c).toNat) (c.th.toNat) ⟨0, 32, xk, 1, false, false, 32, 0, 0, 0, 0, 0, ⟨0, 32, 0, 0, -1⟩, ⟨0, 0, 0, 0, -1, 0, false, 0⟩⟩ M0 (20 * l.length + 20)).1) _ x_41) ?_)
          clear hS; rintro _ _ w ⟨rfl, rfl⟩ hS
          replace hS : K.Sat w0 [g1i, gl_26, l1i, l_147, o1, l_19, m_28, g_5, g_2, fr] w := hS
          refine K.q [.int .i64 (plcT c l xk l.length)] ?_
          refine K.xn ((if ((skIt c ((lns c).toNat) (c.th.toNat) ⟨0, 32, xk, 1, false, false, 32, 0, 0, 0, 0, 0, ⟨0, 32, 0, 0, -1⟩, ⟨0, 0, 0, 0, -1, 0, false, 0⟩⟩ M0 (20 * l.length + 20)).1).done = true then ((skIt c ((lns c).toNat) (c.th.toNat) ⟨0, 32, xk, 1, false, false, 32, 0, 0, 0, 0, 0, ⟨0, 32, 0, 0, -1⟩, ⟨0, 0, 0, 0, -1, 0, false, 0⟩⟩ M0 (20 * l.length + 20)).1).prev else -1) : Int) ((plcT c l xk l.length) : Int) ((if_pos hF.done).trans hF.prev) ?_
          refine K.q [.bool false, .bool false, .pointer (some ⟨p_34, 0, none⟩)] ?_
          refine K.l (K.OW.gcall hS [0] [1, 2, 3, 4, 5, 6, 7, 8, 9] [.pointer (some ⟨p_34, 0, none⟩)] (skCurrE_ok _ _ _ ((skIt c ((lns c).toNat) (c.th.toNat) ⟨0, 32, xk, 1, false, false, 32, 0, 0, 0, 0, 0, ⟨0, 32, 0, 0, -1⟩, ⟨0, 0, 0, 0, -1, 0, false, 0⟩⟩ M0 (20 * l.length + 20)).1) _ x_41) ?_)
          clear hS; rintro _ _ w ⟨rfl, rfl⟩ hS
          replace hS : K.Sat w0 [g1i, gl_26, l1i, l_147, o1, l_19, m_28, g_5, g_2, fr] w := hS
          refine K.q [.int .i64 (curT l xk l.length)] ?_
          refine K.xn ((if ((skIt c ((lns c).toNat) (c.th.toNat) ⟨0, 32, xk, 1, false, false, 32, 0, 0, 0, 0, 0, ⟨0, 32, 0, 0, -1⟩, ⟨0, 0, 0, 0, -1, 0, false, 0⟩⟩ M0 (20 * l.length + 20)).1).done = true then ((skIt c ((lns c).toNat) (c.th.toNat) ⟨0, 32, xk, 1, false, false, 32, 0, 0, 0, 0, 0, ⟨0, 32, 0, 0, -1⟩, ⟨0, 0, 0, 0, -1, 0, false, 0⟩⟩ M0 (20 * l.length + 20)).1).curr else -1) : Int) ((curT l xk l.length) : Int) ((if_pos hF.done).trans hF.curr) ?_
          refine K.q [.bool false] (K.z (K.t (K.f (K.k (K.t (K.s (K.s (K.g (K.q [.int .i64 0] (K.z (K.t ?_)))))))))))
          refine K.KW.block ?_
          refine K.KW.loop (fun m_ F_ w_ => ∃ (m : Nat), m_ = (wntT l xk l.length).length - m ∧ K.Sl F_ [(0, .agg #[.int .i64 c.th, .int .i64 c.sl, .int .i64 c.lo, .int .i64 c.bu]), (1, .slice a l.length cap), (2, .agg #[.int .u32 xk, .slice a2 ds.length cap2]), (13, .slice q1 ((wntT l xk l.length).length) c1), (19, .slice r_145 ((wntT l xk l.length).length) c_146), (21, .int .i64 ((m : Nat) : Int)), (180, undef)] ∧ m ≤ (wntT l xk l.length).length ∧ K.Sat w0 [g1i, gl_26, l1i, l_147, o1, l_19, m_28, g_5, g_2, fr] w_) ((fun (m : Nat) => (wntT l xk l.length).length - m) 0) ?_ ?_
          ·
           exact ⟨0, rfl, ⟨by rfl, by rfl, by rfl, by rfl, by rfl, by rfl, by rfl, trivial⟩, (by omega), hS.pick [0, 1, 2, 3, 4, 5, 6, 7, 8, 9]⟩
          ·
           clear hS
           intro m_163 F_164 w hI
           obtain ⟨m, rfl, sl_165, p_166, hS⟩ := hI
           rw [← K.Sl.puts sl_165]; clear sl_165
           refine K.s (K.s (K.g (K.q [.int .i64 ((m : Nat) : Int), .slice q1 ((wntT l xk l.length).length) c1] ?_)))
           refine K.a (K.QR.len (P := Tryz.prog) rfl rfl Tryz.underlying44) ?_
           by_cases h_167 : (((m : Nat) : Int) : Int) < ((((wntT l xk l.length).length : Nat) : Int) : Int)
           ·
            refine K.y ((((m : Nat) : Int) : Int) < ((((wntT l xk l.length).length : Nat) : Int) : Int)) h_167 ?_
            refine K.z (K.t (K.h (K.k (K.t (K.s ?_)))))
            refine K.KW.block ?_
            refine K.s ?_
            obtain ⟨b_168, rfl⟩ := o_148.some_ (by have := o_148.le; omega)
            obtain ⟨b_170, rfl⟩ := x_57.some_ (by have := x_57.le; omega)
            refine K.KW.gdrawn [3] hS (by kernel_rfl) ?_
            clear hS; intro w hS
            refine K.p 0 rfl (.slice (some ⟨b_168, 0, none⟩) ((wntT l xk l.length).length) c_146) (hS.pick [3]) ?_
            refine K.p 1 rfl (.int .i64 ((m : Nat) : Int)) (hS.pick [3]) ?_
            refine K.m 2 rfl (fun w hS => K.QR.ix m 1 rfl rfl rfl Tryz.underlying44 (by kernel_rfl) (by omega) (by first | (simp; done) | omega | (simp; omega))) (hS.pick [3]) ?_
            refine K.o_ 3 rfl (.int .i64 ((wntT l xk l.length).getD m 0)) (fun w hS => (K.Own.atS (c := cI64) (d := 0) (fun _ => rfl) (hS.ownr 0 rfl o_148) rfl m (by omega))) (hS.pick [3]) ?_
            refine K.p 4 rfl (.slice (some ⟨b_170, 0, none⟩) ((wntT l xk l.length).length) c1) (hS.pick [3]) ?_
            refine K.b 5 rfl (.int .i64 ((m : Nat) : Int)) (hS.pick [3]) ?_
            refine K.c 6 rfl (K.QR.ix m 1 rfl rfl rfl Tryz.underlying44 (by kernel_rfl) (by omega) (by first | (simp; done) | omega | (simp; omega))) (hS.pick [3]) ?_
            refine K.c 7 rfl (K.QR.ld1 (v := .int .i64 ((wntT l xk l.length).getD m 0)) rfl rfl (by kernel_rfl) (K.Own.atS (c := cI64) (d := 0) (fun _ => rfl) (hS.ownr 4 rfl x_57) rfl m (by omega))) (hS.pick [3]) ?_
            refine K.c 8 rfl (K.QR.nice (v := .bool (((wntT l xk l.length).getD m 0 : Int) != ((wntT l xk l.length).getD m 0 : Int))) (by kernel_rfl) (congrArg Value.bool (bne_eq_false_iff_eq.2 rfl))) (hS.pick [3]) ?_
            refine K.DW.done (by kernel_rfl) ?_
            refine K.t (K.f (K.k ?_))
            refine K.blk_normal ?_
            refine K.t (K.g (K.q [.int .i64 ((m : Nat) : Int)] ?_))
            refine K.a (K.QR.n64 ((((m : Nat) : Int) : Int) + (1 : Int)) ((m + 1 : Nat) : Int) (by kernel_rfl) (by omega)) ?_
            refine K.q [.int .i64 ((m + 1 : Nat) : Int)] (K.z (K.t ?_))
            refine ⟨_, ?_, m + 1, rfl, ⟨by rfl, by rfl, by rfl, by rfl, by rfl, by rfl, by rfl, trivial⟩, (by omega), hS.pick [0, 1, 2, 3, 4, 5, 6, 7, 8, 9]⟩
            omega
           ·
            refine K.x ((((m : Nat) : Int) : Int) < ((((wntT l xk l.length).length : Nat) : Int) : Int)) h_167 ?_
            refine K.z (K.t (K.f ?_))
            refine K.KW.exit ?_
            refine K.thn_exit ?_
            refine K.thn_exit ?_
            refine K.blk_hit ?_
            refine K.t (K.s (K.g ?_))
            refine K.l (K.OW.gcall hS [] [0, 1, 2, 3, 4, 5, 6, 7, 8, 9] [] (awake14_ok _) ?_)
            clear hS; rintro _ _ w ⟨rfl, rfl⟩ hS
            replace hS : K.Sat w0 [g1i, gl_26, l1i, l_147, o1, l_19, m_28, g_5, g_2, fr] w := hS
            refine K.q [.bool true] (K.z (K.t (K.r ?_)))
            refine ⟨.inr rfl, rfl, (.bool true), K.res1 rfl rfl, [], ?_, hS.pick [9]⟩
            exact rfl
  ·
   replace hS : K.Sat w0 [g_5, g_2, fr] w := hS.of (by simp [K.pick, K.nth])
   refine K.q [.bool true, .bool true] (K.z (K.t (K.h (K.s (K.g ?_)))))
   refine K.l (K.OW.gcall hS [] [0, 1, 2] [] (awake14_ok _) ?_)
   clear hS; rintro _ _ w ⟨rfl, rfl⟩ hS
   replace hS : K.Sat w0 [g_5, g_2, fr] w := hS
   refine K.q [.bool true] (K.z (K.t (K.r (K.u ?_))))
   refine ⟨.inr rfl, rfl, (.bool true), K.res1 rfl rfl, [], ?_, hS.pick [2]⟩
   exact rfl
 ·
  replace hS : K.Sat w0 [g_5, g_2, fr] w := hS
  refine K.q [.bool true, .bool true] (K.n_ (K.n_ (K.n_ (K.n_ (K.q [.bool true] (K.z (K.t (K.h (K.s (K.g ?_))))))))))
  refine K.l (K.OW.gcall hS [] [0, 1, 2] [] (awake14_ok _) ?_)
  clear hS; rintro _ _ w ⟨rfl, rfl⟩ hS
  replace hS : K.Sat w0 [g_5, g_2, fr] w := hS
  refine K.q [.bool true] (K.z (K.t (K.r (K.u ?_))))
  refine ⟨.inr rfl, rfl, (.bool true), K.res1 rfl rfl, [], ?_, hS.pick [2]⟩
  exact rfl
end Go.Proofs.YtbfafebfkdbglaaGreat
