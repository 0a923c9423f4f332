/- Layer 14: what the statements call; the page's example. -/
import Derived.Test.YtbfafebfkdbglaaGreatFdk
import Derived.Test.YtbfafebfkdbglaaGreatKn
namespace Go.Proofs.YtbfafebfkdbglaaGreat
open Go.RowKit
set_option linter.unusedVariables false
attribute [local irreducible] K.KW K.RW K.DW K.OW K.QR K.KC
structure NodeM where
 key : Int
 by_ : Int
def cNode (x : NodeM) : List Value := [.int .u32 x.key, .int .i64 x.by_]
def nd0 : NodeM := ⟨0, 0⟩
def rToW (l : List NodeM) (i : Nat) : Int := if i = l.length then -1 else (i : Int)
def rowBy (l : List NodeM) (i : Nat) : Int := if 0 < i then (l.getD (i - 1) nd0).by_ else -1
def rowAt (c : Cfg) (head : Int) (i : Nat) : Int := if 0 < i then nextS c ((i - 1 : Nat) : Int) else head
def rowW (l : List NodeM) (ds : List Bool) (i : Nat) : Int := if i < ds.length ∧ ds.getD i false = true then soilI (linkI (rToW l i) (rowBy l i)) else linkI (rToW l i) (rowBy l i)
def rowK (c : Cfg) (l : List NodeM) (i : Nat) : List PutM := if 0 < i then [⟨keyS c ((i - 1 : Nat) : Int), (l.getD (i - 1) nd0).key⟩] else []
/-- the words that make a list of slots -/
def rowPs (c : Cfg) (head : Int) (l : List NodeM) (ds : List Bool) : Nat → List PutM
 | 0 => []
 | j + 1 => rowPs c head l ds j ++ rowK c l j ++ [⟨rowAt c head j, rowW l ds j⟩]
theorem rowW_w (l : List NodeM) (ds : List Bool) (i : Nat) : isW (rowW l ds i) := by
 unfold rowW
 split
 ·exact soilI_w _
 ·exact linkI_w _ _
theorem rowPs_mem {c : Cfg} {head : Int} {l : List NodeM} {ds : List Bool} (hc : cfgOk c) (hh : isInt head) (hk : ∀ j, j < l.length → 0 ≤ (l.getD j nd0).key ∧ (l.getD j nd0).key ≤ 4294967295) : ∀ j, j ≤ l.length + 1 → ∀ p ∈ rowPs c head l ds j, isInt p.at_ ∧ isW p.w
 | 0, _ => fun p hp => by cases hp
 | j + 1, hj => fun p hp => by
  unfold rowPs at hp
  rcases List.mem_append.1 hp with hp | hp
  ·rcases List.mem_append.1 hp with hp | hp
   ·exact rowPs_mem hc hh hk j (by omega) p hp
   ·unfold rowK at hp
    split at hp
    ·rw [List.mem_singleton.1 hp]
     have := hk (j - 1) (by omega)
     exact ⟨key_int hc _, by show isW (l.getD (j - 1) nd0).key; unfold isW; omega⟩
    ·cases hp
  ·rw [List.mem_singleton.1 hp]
   refine ⟨?_, rowW_w _ _ _⟩
   show isInt (rowAt c head j)
   unfold rowAt
   split
   ·exact next_int hc _
   ·exact hh
theorem rowPs_len (c : Cfg) (head : Int) (l : List NodeM) (ds : List Bool) : ∀ j, (rowPs c head l ds j).length = 2 * j - 1
 | 0 => rfl
 | j + 1 => by
  unfold rowPs rowK
  rw [List.length_append, List.length_append, rowPs_len c head l ds j]
  split
  ·simp; omega
  ·simp; omega
theorem rowPs_good {c : Cfg} {head : Int} {l : List NodeM} {ds : List Bool} (hc : cfgOk c) (hh : isInt head) (hk : ∀ j, j < l.length → 0 ≤ (l.getD j nd0).key ∧ (l.getD j nd0).key ≤ 4294967295) : ∀ j, j < (rowPs c head l ds (l.length + 1)).length → isInt ((rowPs c head l ds (l.length + 1)).getD j pu0).at_ ∧ isW ((rowPs c head l ds (l.length + 1)).getD j pu0).w := fun j hj =>
 rowPs_mem (ds := ds) hc hh hk (l.length + 1) (Nat.le_refl _) _ (by simp [hj])
set_option maxHeartbeats 1000000 in
set_option maxRecDepth 100000 in
theorem row_ok (w0 : World) (c : Cfg) (hc : cfgOk c) (head : Int) (a : Option Addr) (cap : Nat) (l : List NodeM) (hl : l.length ≤ 1000) (hk : ∀ j, j < l.length → (0 ≤ (l.getD j nd0).key ∧ (l.getD j nd0).key ≤ 4294967295) ∧ isInt (l.getD j nd0).by_) (a2 : Option Addr) (cap2 : Nat) (ds : List Bool) (gl : K.Cs) (hgl : ∀ w, K.Sat w0 [gl] w → K.RowE w a l.length 2 (fun i => cNode (l.getD i nd0))) (gd : K.Cs) (hgd : ∀ w, K.Sat w0 [gd] w → K.RowE w a2 ds.length 1 (fun i => cBool (ds.getD i false))) :
  K.GC Tryz.prog w0 12 #[.agg #[.int .i64 c.th, .int .i64 c.sl, .int .i64 c.lo, .int .i64 c.bu], .int .i64 head, .slice a l.length cap, .slice a2 ds.length cap2] [gl, gd] (fun v post => ∃ r cc l2, v = .agg #[.int .i64 c.th, .int .i64 c.sl, .int .i64 c.lo, .int .i64 c.bu, .slice r (rowPs c head l ds (l.length + 1)).length cc] ∧ post = [gl, gd, l2] ∧ K.OwnG l2 117 2 r (rowPs c head l ds (l.length + 1)).length cc ((rowPs c head l ds (l.length + 1)).flatMap cPut)) := by
 refine K.GC.mk (n := 83) Tryz.func12 rfl rfl [.agg #[.int .i64 c.th, .int .i64 c.sl, .int .i64 c.lo, .int .i64 c.bu], .int .i64 head, .slice a l.length cap, .slice a2 ds.length cap2] rfl rfl ?_
 intro fr w hS
 replace hS : K.Sat w0 [gl, gd, fr] w := hS
 refine K.s (K.g ?_)
 refine K.l (K.OW.gnew 23 [.int .i64 c.th, .int .i64 c.sl, .int .i64 c.lo, .int .i64 c.bu] hS ?_)
 clear hS; intro w r_1 g_2 hg_3 hS
 refine K.l (K.OW.gnew 38 [.int .i64 0, .int .i64 0, .int .i64 0, .int .i64 0, .slice none 0 0] hS ?_)
 clear hS; intro w r_4 g_5 hg_6 hS
 refine K.z (K.t (K.s (K.g ?_)))
 refine K.a (K.QR.ldN [.int .i64 c.th, .int .i64 c.sl, .int .i64 c.lo, .int .i64 c.bu] rfl rfl (by kernel_rfl) (by kernel_rfl) (K.cells (K.cl ((hS.blk 1 rfl hg_3).cell rfl) (K.cl ((hS.blk 1 rfl hg_3).cell rfl) (K.cl ((hS.blk 1 rfl hg_3).cell rfl) (K.cl ((hS.blk 1 rfl hg_3).cell rfl) K.cl0)))))) ?_
 refine K.a (K.QR.bd [(0, .agg #[.int .i64 c.th, .int .i64 c.sl, .int .i64 c.lo, .int .i64 c.bu])] [.int .i64 c.th, .int .i64 c.sl, .int .i64 c.lo, .int .i64 c.bu, .slice none 0 0] rfl rfl (by kernel_rfl)) ?_
 refine K.l (K.OW.gnew 38 [.int .i64 0, .int .i64 0, .int .i64 0, .int .i64 0, .slice none 0 0] hS ?_)
 clear hS; intro w r_7 g_8 hg_9 hS
 refine K.l (K.OW.gst 0 [.int .i64 c.th, .int .i64 c.sl, .int .i64 c.lo, .int .i64 c.bu, .slice none 0 0] _ hS hg_9 ?_)
 clear hS; intro w g_10 hg_11 hS
 replace hS : K.Sat w0 [g_10, g_5, g_2, gl, gd, fr] w := hS
 refine K.z (K.t (K.s (K.s (K.g (K.q [.int .i64 0] (K.z (K.t ?_)))))))
 refine K.KW.block ?_
 obtain ⟨z_12, hz_13⟩ : ∃ z : K.Cs, z = [] := ⟨_, rfl⟩
 replace hS : K.Sat w0 [z_12, g_10, g_5, g_2, gl, gd, fr] w := hS.of (by simp [hz_13])
 have o_14 : K.OwnG z_12 117 2 none 0 0 [] := by rw [hz_13]; exact K.OwnG.nil _ _
 refine K.KW.loop (fun m_ F_ w_ => ∃ (j : Nat) (q1 : Option Addr) (c1 : Nat) (b9 : K.Cs) (o1 : K.Cs), m_ = (l.length + 1) - j ∧ K.Sl F_ [(0, .agg #[.int .i64 c.th, .int .i64 c.sl, .int .i64 c.lo, .int .i64 c.bu]), (1, .int .i64 head), (2, .slice a l.length cap), (3, .slice a2 ds.length cap2), (4, .pointer (some ⟨r_1, 0, none⟩)), (8, .pointer (some ⟨r_4, 0, none⟩)), (9, .pointer (some ⟨r_7, 0, none⟩)), (10, .int .i64 ((j : Nat) : Int)), (83, undef)] ∧ j ≤ l.length + 1 ∧ b9 = [K.pt r_7 38 [.int .i64 c.th, .int .i64 c.sl, .int .i64 c.lo, .int .i64 c.bu, .slice q1 (2 * j - 1) c1]] ∧ K.OwnG o1 117 2 q1 (2 * j - 1) c1 (((rowPs c head l ds j)).flatMap cPut) ∧ K.Sat w0 [o1, b9, g_5, g_2, gl, gd, fr] w_) ((fun (j : Nat) (q1 : Option Addr) (c1 : Nat) => (l.length + 1) - j) 0 none 0) ?_ ?_
 ·
  exact ⟨0, none, 0, g_10, z_12, rfl, ⟨by rfl, by rfl, by rfl, by rfl, by rfl, by rfl, by rfl, by rfl, by rfl, trivial⟩, (by omega), hg_11, o_14, hS.pick [0, 1, 2, 3, 4, 5, 6]⟩
 ·
  clear hS
  intro m_15 F_16 w hI
  obtain ⟨j, q1, c1, b9, o1, rfl, sl_17, p_18, x_19, x_20, hS⟩ := hI
  rw [← K.Sl.puts sl_17]; clear sl_17
  refine K.s (K.s (K.g (K.q [.int .i64 ((j : Nat) : Int), .slice a l.length cap] ?_)))
  refine K.a (K.QR.len (P := Tryz.prog) rfl rfl Tryz.underlying24) ?_
  by_cases h_21 : (((j : Nat) : Int) : Int) ≤ (((l.length : Nat) : Int) : Int)
  ·
   refine K.y ((((j : Nat) : Int) : Int) ≤ (((l.length : Nat) : Int) : Int)) h_21 ?_
   refine K.z (K.t (K.h (K.k (K.t (K.s ?_)))))
   refine K.KW.block ?_
   refine K.s (K.g (K.q [.int .i64 ((j : Nat) : Int), .int .i64 head, .int .i64 ((j : Nat) : Int), .int .i64 (-1), .int .i64 head] (K.z (K.t (K.s (K.s (K.g (K.q [.int .i64 ((j : Nat) : Int), .slice a l.length cap] ?_))))))))
   refine K.a (K.QR.len (P := Tryz.prog) rfl rfl Tryz.underlying24) ?_
   by_cases h_22 : (((j : Nat) : Int) : Int) = (((l.length : Nat) : Int) : Int)
   ·
    refine K.ye (((j : Nat) : Int) : Int) (((l.length : Nat) : Int) : Int) h_22 ?_
    refine K.z (K.t (K.h (K.g (K.q [.int .i64 (-1)] (K.z (K.t (K.s (K.s (K.g (K.q [.int .i64 ((j : Nat) : Int)] ?_))))))))))
    by_cases h_23 : (((j : Nat) : Int) : Int) > (0 : Int)
    ·
     refine K.y ((((j : Nat) : Int) : Int) > (0 : Int)) h_23 ?_
     refine K.z (K.t (K.h (K.s ?_)))
     obtain ⟨b_24, of_25, rfl, _⟩ := (hgl _ (hS.pick [4])).at_ (by omega)
     have hkj := hk (j - 1) (by omega)
     refine K.g (K.q [.slice (some ⟨b_24, of_25, none⟩) l.length cap, .int .i64 ((j : Nat) : Int)] ?_)
     refine K.a (K.QR.n64 ((((j : Nat) : Int) : Int) - (1 : Int)) ((j - 1 : Nat) : Int) (by kernel_rfl) (by omega)) ?_
     refine K.a (K.QR.ix (of_25 + (j - 1) * 2) 2 rfl rfl rfl Tryz.underlying24 (by kernel_rfl) (by omega) (by first | (simp; done) | omega | (simp; omega))) ?_
     refine K.q [.pointer (some ⟨b_24, of_25 + (j - 1) * 2 + 1, none⟩)] ?_
     refine K.d (.int .i64 ((l.getD (j - 1) nd0).by_)) ((hgl _ (hS.pick [4])).ld (j - 1) (by omega) 1 _ rfl) ?_
     refine K.q [.int .i64 ((l.getD (j - 1) nd0).by_)] (K.z (K.t (K.s (K.g ?_))))
     refine K.a (K.QR.ldN [.int .i64 c.th, .int .i64 c.sl, .int .i64 c.lo, .int .i64 c.bu] rfl rfl (by kernel_rfl) (by kernel_rfl) (K.cells (K.cl ((hS.blk 3 rfl hg_3).cell rfl) (K.cl ((hS.blk 3 rfl hg_3).cell rfl) (K.cl ((hS.blk 3 rfl hg_3).cell rfl) (K.cl ((hS.blk 3 rfl hg_3).cell rfl) K.cl0)))))) ?_
     refine K.q [.int .i64 ((j : Nat) : Int)] ?_
     refine K.a (K.QR.n64 ((((j : Nat) : Int) : Int) - (1 : Int)) ((j - 1 : Nat) : Int) (by kernel_rfl) (by omega)) ?_
     refine K.l (K.OW.gcall hS [] [0, 1, 2, 3, 4, 5, 6] [.agg #[.int .i64 c.th, .int .i64 c.sl, .int .i64 c.lo, .int .i64 c.bu], .int .i64 ((j - 1 : Nat) : Int)] (rnext_ok _ c (by assumption) ((j - 1 : Nat) : Int)) ?_)
     clear hS; rintro _ _ w ⟨rfl, rfl⟩ hS
     replace hS : K.Sat w0 [o1, b9, g_5, g_2, gl, gd, fr] w := hS
     have hi_26 : isInt (nextS c ((j - 1 : Nat) : Int)) := next_int (by assumption) _
     refine K.q [.int .i64 (nextS c ((j - 1 : Nat) : Int))] (K.z (K.t ?_))
     refine K.KW.gdrawn [1, 3, 4] hS (by kernel_rfl) ?_
     clear hS; intro w hS
     refine K.p 0 rfl (.pointer (some ⟨r_7, 4, none⟩)) (hS.pick [1, 3, 4]) ?_
     refine K.o_ 1 rfl (.slice q1 (2 * j - 1) c1) (fun w hS => ((hS.blk 0 rfl x_19).cell rfl)) (hS.pick [1, 3, 4]) ?_
     refine K.m 2 rfl (fun w hS => K.QR.ldN [.int .i64 c.th, .int .i64 c.sl, .int .i64 c.lo, .int .i64 c.bu] rfl rfl (by kernel_rfl) (by kernel_rfl) (K.cells (K.cl ((hS.blk 1 rfl hg_3).cell rfl) (K.cl ((hS.blk 1 rfl hg_3).cell rfl) (K.cl ((hS.blk 1 rfl hg_3).cell rfl) (K.cl ((hS.blk 1 rfl hg_3).cell rfl) K.cl0)))))) (hS.pick [1, 3, 4]) ?_
     refine K.p 3 rfl (.int .i64 ((j : Nat) : Int)) (hS.pick [1, 3, 4]) ?_
     refine K.m 4 rfl (fun w hS => K.QR.n64 ((((j : Nat) : Int) : Int) - (1 : Int)) ((j - 1 : Nat) : Int) (by kernel_rfl) (by omega)) (hS.pick [1, 3, 4]) ?_
     refine K.m 5 rfl (fun w hS => K.QR.bd [(0, .int .i64 10), (1, .int .i64 ((j - 1 : Nat) : Int))] [.int .i64 10, .int .i64 ((j - 1 : Nat) : Int), .int .i64 0] rfl rfl (by kernel_rfl)) (hS.pick [1, 3, 4]) ?_
     refine K.p 7 rfl (.slice (some ⟨b_24, of_25, none⟩) l.length cap) (hS.pick [1, 3, 4]) ?_
     refine K.p 8 rfl (.int .i64 ((j : Nat) : Int)) (hS.pick [1, 3, 4]) ?_
     refine K.m 9 rfl (fun w hS => K.QR.n64 ((((j : Nat) : Int) : Int) - (1 : Int)) ((j - 1 : Nat) : Int) (by kernel_rfl) (by omega)) (hS.pick [1, 3, 4]) ?_
     refine K.m 10 rfl (fun w hS => K.QR.ix (of_25 + (j - 1) * 2) 2 rfl rfl rfl Tryz.underlying24 (by kernel_rfl) (by omega) (by first | (simp; done) | omega | (simp; omega))) (hS.pick [1, 3, 4]) ?_
     refine K.p 11 rfl (.pointer (some ⟨b_24, of_25 + (j - 1) * 2, none⟩)) (hS.pick [1, 3, 4]) ?_
     refine K.o_ 12 rfl (.int .u32 ((l.getD (j - 1) nd0).key)) (fun w hS => ((hgl _ (hS.pick [2])).ld (j - 1) (by omega) 0 _ rfl)) (hS.pick [1, 3, 4]) ?_
     refine K.m 13 rfl (fun w hS => K.QR.nice (v := .int .u64 (IntKind.u64.wrap ((l.getD (j - 1) nd0).key))) (by kernel_rfl) (congrArg (Value.int .u64) (IntWalk.u64_in _ (by omega)))) (hS.pick [1, 3, 4]) ?_
     refine K.DW.l 6 rfl (by kernel_rfl) rfl (K.OW.gcall hS [] [0, 1, 2, 3, 4, 5, 6] [.agg #[.int .i64 c.th, .int .i64 c.sl, .int .i64 c.lo, .int .i64 c.bu], .agg #[.int .i64 10, .int .i64 ((j - 1 : Nat) : Int), .int .i64 0]] (rkey_ok _ c ((j - 1 : Nat) : Int) (by assumption)) ?_)
     clear hS; rintro _ _ w ⟨rfl, rfl⟩ hS
     replace hS : K.Sat w0 [o1, b9, g_5, g_2, gl, gd, fr] w := hS
     have hi_27 : isInt (keyS c ((j - 1 : Nat) : Int)) := key_int (by assumption) _
     refine ⟨.inl (hS.pick [1, 3, 4]), ?_⟩
     refine K.c 14 rfl (K.QR.bd [(0, .int .i64 (keyS c ((j - 1 : Nat) : Int))), (1, .int .u64 ((l.getD (j - 1) nd0).key))] [.int .i64 (keyS c ((j - 1 : Nat) : Int)), .int .u64 ((l.getD (j - 1) nd0).key)] rfl rfl (by kernel_rfl)) (hS.pick [1, 3, 4]) ?_
     refine K.DW.l 15 rfl (by kernel_rfl) rfl (K.OW.gbs [(0, .agg #[.int .i64 (keyS c ((j - 1 : Nat) : Int)), .int .u64 ((l.getD (j - 1) nd0).key)])] [.int .i64 (keyS c ((j - 1 : Nat) : Int)), .int .u64 ((l.getD (j - 1) nd0).key)] hS (fun w => K.bs_run (P := Tryz.prog) w 36 117 1 _ _ Tryz.underlying36 (by kernel_rfl)) ?_)
     clear hS; intro w r_28 g_29 hg_30 hS
     refine ⟨.inl (hS.pick [2, 4, 5]), ?_⟩
     refine K.DW.l 16 rfl (by kernel_rfl) rfl (K.OW.gapp (P := Tryz.prog) (xs := ((rowPs c head l ds j)).flatMap cPut) (z := .agg #[.int .i64 0, .int .u64 0]) (size := 2) (bytes := 16) 1 [.int .i64 (keyS c ((j - 1 : Nat) : Int)), .int .u64 ((l.getD (j - 1) nd0).key)] hS x_20 ?_ (fun j u hj => (by rw [Nat.zero_add]; exact (hS.blk 0 rfl hg_30).cell hj)) (K.one_cells (by rfl)) (by rfl) Tryz.underlying36 (by kernel_rfl) rfl (by decide) (by unfold maxLen; omega) (by omega))
     clear hS; intro a_31 cap_32 w l_33 o_34 hS
     have ln_35 : (((rowPs c head l ds j) ++ [(⟨(keyS c ((j - 1 : Nat) : Int)), (l.getD (j - 1) nd0).key⟩ : PutM)])).length = (2 * j - 1) + 1 := by rw [List.length_append, (rowPs_len c head l ds j)]; rfl
     have o_34c := K.OwnG.cast (xs' := (((rowPs c head l ds j) ++ [(⟨(keyS c ((j - 1 : Nat) : Int)), (l.getD (j - 1) nd0).key⟩ : PutM)])).flatMap cPut) o_34 rfl (K.fl_snoc cPut (rowPs c head l ds j) _ rfl)
     replace hS : K.Sat w0 [g_29, l_33, b9, g_5, g_2, gl, gd, fr] w := hS
     refine ⟨.inl (hS.pick [2, 4, 5]), ?_⟩
     refine K.b 17 rfl (.pointer (some ⟨r_7, 4, none⟩)) (hS.pick [2, 4, 5]) ?_
     refine K.DW.l 18 rfl (by kernel_rfl) rfl (K.OW.gst 2 [.slice a_31 ((2 * j - 1) + 1) cap_32] _ hS x_19 ?_)
     clear hS; intro w g_36 hg_37 hS
     replace hS : K.Sat w0 [g_29, l_33, g_36, g_5, g_2, gl, gd, fr] w := hS
     refine ⟨.inr (by kernel_rfl), ?_⟩
     refine K.DW.done (by kernel_rfl) ?_
     refine K.t (K.s (K.g (K.q [.int .i64 (-1), .int .i64 ((l.getD (j - 1) nd0).by_)] ?_)))
     refine K.l (K.OW.gcall hS [] [0, 1, 2, 3, 4, 5, 6, 7] [.int .i64 (-1), .int .i64 ((l.getD (j - 1) nd0).by_)] (link_ok _ ((-1) : Int) ((l.getD (j - 1) nd0).by_) (by omega) (by omega)) ?_)
     clear hS; rintro _ _ w ⟨rfl, rfl⟩ hS
     replace hS : K.Sat w0 [g_29, l_33, g_36, g_5, g_2, gl, gd, fr] w := hS
     have hw_38 : isW (linkI ((-1) : Int) ((l.getD (j - 1) nd0).by_)) := linkI_w _ _
     refine K.q [.int .u64 (linkI ((-1) : Int) ((l.getD (j - 1) nd0).by_))] (K.z (K.t (K.s (K.s ?_))))
     by_cases h_39 : (((j : Nat) : Int) : Int) < (((ds.length : Nat) : Int) : Int)
     ·
      obtain ⟨b_40, of_41, rfl, _⟩ := (hgd _ (hS.pick [6])).at_ (by omega)
      refine K.g (K.q [.int .i64 ((j : Nat) : Int), .slice (some ⟨b_40, of_41, none⟩) ds.length cap2] ?_)
      refine K.a (K.QR.len (P := Tryz.prog) rfl rfl Tryz.underlying26) ?_
      refine K.y ((((j : Nat) : Int) : Int) < (((ds.length : Nat) : Int) : Int)) h_39 ?_
      refine K.q [.bool true, .slice (some ⟨b_40, of_41, none⟩) ds.length cap2, .int .i64 ((j : Nat) : Int)] ?_
      refine K.a (K.QR.ix (of_41 + j * 1) 1 rfl rfl rfl Tryz.underlying26 (by kernel_rfl) (by omega) (by first | (simp; done) | omega | (simp; omega))) ?_
      refine K.d (.bool (ds.getD j false)) ((hgd _ (hS.pick [6])).ld j (by omega) 0 _ rfl) ?_
      cases hb_42 : ds.getD j false
      ·
       refine K.q [.bool false] (K.z (K.t (K.f (K.k (K.t (K.g (K.q [.pointer (some ⟨r_7, 4, none⟩)] ?_)))))))
       refine K.d (.slice a_31 ((2 * j - 1) + 1) cap_32) ((hS.blk 2 rfl hg_37).cell rfl) ?_
       refine K.q [.int .i64 (nextS c ((j - 1 : Nat) : Int)), .int .u64 (linkI ((-1) : Int) ((l.getD (j - 1) nd0).by_))] ?_
       refine K.a (K.QR.bd [(0, .int .i64 (nextS c ((j - 1 : Nat) : Int))), (1, .int .u64 (linkI ((-1) : Int) ((l.getD (j - 1) nd0).by_)))] [.int .i64 (nextS c ((j - 1 : Nat) : Int)), .int .u64 (linkI ((-1) : Int) ((l.getD (j - 1) nd0).by_))] rfl rfl (by kernel_rfl)) ?_
       refine K.l (K.OW.gbs [(0, .agg #[.int .i64 (nextS c ((j - 1 : Nat) : Int)), .int .u64 (linkI ((-1) : Int) ((l.getD (j - 1) nd0).by_))])] [.int .i64 (nextS c ((j - 1 : Nat) : Int)), .int .u64 (linkI ((-1) : Int) ((l.getD (j - 1) nd0).by_))] hS (fun w => K.bs_run (P := Tryz.prog) w 36 117 1 _ _ Tryz.underlying36 (by kernel_rfl)) ?_)
       clear hS; intro w r_43 g_44 hg_45 hS
       refine K.l (K.OW.gapp (P := Tryz.prog) (xs := (((rowPs c head l ds j) ++ [(⟨(keyS c ((j - 1 : Nat) : Int)), (l.getD (j - 1) nd0).key⟩ : PutM)])).flatMap cPut) (z := .agg #[.int .i64 0, .int .u64 0]) (size := 2) (bytes := 16) 2 [.int .i64 (nextS c ((j - 1 : Nat) : Int)), .int .u64 (linkI ((-1) : Int) ((l.getD (j - 1) nd0).by_))] hS o_34c ?_ (fun j u hj => (by rw [Nat.zero_add]; exact (hS.blk 0 rfl hg_45).cell hj)) (K.one_cells (by rfl)) (by rfl) Tryz.underlying36 (by kernel_rfl) rfl (by decide) (by unfold maxLen; omega) (by omega))
       clear hS; intro a_46 cap_47 w l_48 o_49 hS
       have ln_50 : ((((rowPs c head l ds j) ++ [(⟨(keyS c ((j - 1 : Nat) : Int)), (l.getD (j - 1) nd0).key⟩ : PutM)]) ++ [(⟨(nextS c ((j - 1 : Nat) : Int)), (linkI ((-1) : Int) ((l.getD (j - 1) nd0).by_))⟩ : PutM)])).length = (2 * j - 1) + 1 + 1 := by rw [List.length_append, ln_35]; rfl
       have o_49c := K.OwnG.cast (xs' := ((((rowPs c head l ds j) ++ [(⟨(keyS c ((j - 1 : Nat) : Int)), (l.getD (j - 1) nd0).key⟩ : PutM)]) ++ [(⟨(nextS c ((j - 1 : Nat) : Int)), (linkI ((-1) : Int) ((l.getD (j - 1) nd0).by_))⟩ : PutM)])).flatMap cPut) o_49 rfl (K.fl_snoc cPut ((rowPs c head l ds j) ++ [(⟨(keyS c ((j - 1 : Nat) : Int)), (l.getD (j - 1) nd0).key⟩ : PutM)]) _ rfl)
       replace hS : K.Sat w0 [g_44, g_29, l_48, g_36, g_5, g_2, gl, gd, fr] w := hS
       refine K.q [.pointer (some ⟨r_7, 4, none⟩)] ?_
       refine K.l (K.OW.gst 3 [.slice a_46 ((2 * j - 1) + 1 + 1) cap_47] _ hS hg_37 ?_)
       clear hS; intro w g_51 hg_52 hS
       replace hS : K.Sat w0 [g_44, g_29, l_48, g_51, g_5, g_2, gl, gd, fr] w := hS
       refine K.z ?_
       refine K.blk_normal ?_
       refine K.t (K.g (K.q [.int .i64 ((j : Nat) : Int)] ?_))
       refine K.a (K.QR.n64 ((((j : Nat) : Int) : Int) + (1 : Int)) ((j + 1 : Nat) : Int) (by kernel_rfl) (by omega)) ?_
       refine K.q [.int .i64 ((j + 1 : Nat) : Int)] (K.z (K.t ?_))
       have h0 : 0 < j := by omega
       have h1 : j = l.length := by omega
       have h2 : ¬ (j < ds.length ∧ ds.getD j false = true) := fun h => by rw [hb_42] at h; exact absurd h.2 (by decide)
       have e_53 : rowPs c head l ds (j + 1) = (((rowPs c head l ds j) ++ [(⟨(keyS c ((j - 1 : Nat) : Int)), (l.getD (j - 1) nd0).key⟩ : PutM)]) ++ [(⟨(nextS c ((j - 1 : Nat) : Int)), (linkI ((-1) : Int) ((l.getD (j - 1) nd0).by_))⟩ : PutM)]) := by
        show rowPs c head l ds j ++ rowK c l j ++ [⟨rowAt c head j, rowW l ds j⟩] = _
        unfold rowK rowAt rowW rToW rowBy
        simp only [if_pos h0, if_pos h1, if_neg h2, List.append_nil]
       refine ⟨_, ?_, j + 1, a_46, cap_47, g_51, l_48, rfl, ⟨by rfl, by rfl, by rfl, by rfl, by rfl, by rfl, by rfl, by rfl, by rfl, trivial⟩, (by omega), (by rw [show 2 * (j + 1) - 1 = (2 * j - 1) + 1 + 1 by omega]; exact hg_52), (by rw [show 2 * (j + 1) - 1 = (2 * j - 1) + 1 + 1 by omega, e_53]; exact o_49c), hS.pick [2, 3, 4, 5, 6, 7, 8]⟩
       omega
      ·
       refine K.q [.bool true] (K.z (K.t (K.h (K.g (K.q [.int .u64 (linkI ((-1) : Int) ((l.getD (j - 1) nd0).by_))] ?_)))))
       refine K.l (K.OW.gcall hS [] [0, 1, 2, 3, 4, 5, 6, 7] [.int .u64 (linkI ((-1) : Int) ((l.getD (j - 1) nd0).by_))] (soil_ok _ (linkI ((-1) : Int) ((l.getD (j - 1) nd0).by_)) (by first | assumption | exact isL.w (by assumption) | exact soilI_w _ | (unfold isW; omega))) ?_)
       clear hS; rintro _ _ w ⟨rfl, rfl⟩ hS
       replace hS : K.Sat w0 [g_29, l_33, g_36, g_5, g_2, gl, gd, fr] w := hS
       have hw_54 : isW (soilI (linkI ((-1) : Int) ((l.getD (j - 1) nd0).by_))) := soilI_w _
       refine K.q [.int .u64 (soilI (linkI ((-1) : Int) ((l.getD (j - 1) nd0).by_)))] (K.z (K.t (K.g (K.q [.pointer (some ⟨r_7, 4, none⟩)] ?_))))
       refine K.d (.slice a_31 ((2 * j - 1) + 1) cap_32) ((hS.blk 2 rfl hg_37).cell rfl) ?_
       refine K.q [.int .i64 (nextS c ((j - 1 : Nat) : Int)), .int .u64 (soilI (linkI ((-1) : Int) ((l.getD (j - 1) nd0).by_)))] ?_
       refine K.a (K.QR.bd [(0, .int .i64 (nextS c ((j - 1 : Nat) : Int))), (1, .int .u64 (soilI (linkI ((-1) : Int) ((l.getD (j - 1) nd0).by_))))] [.int .i64 (nextS c ((j - 1 : Nat) : Int)), .int .u64 (soilI (linkI ((-1) : Int) ((l.getD (j - 1) nd0).by_)))] rfl rfl (by kernel_rfl)) ?_
       refine K.l (K.OW.gbs [(0, .agg #[.int .i64 (nextS c ((j - 1 : Nat) : Int)), .int .u64 (soilI (linkI ((-1) : Int) ((l.getD (j - 1) nd0).by_)))])] [.int .i64 (nextS c ((j - 1 : Nat) : Int)), .int .u64 (soilI (linkI ((-1) : Int) ((l.getD (j - 1) nd0).by_)))] hS (fun w => K.bs_run (P := Tryz.prog) w 36 117 1 _ _ Tryz.underlying36 (by kernel_rfl)) ?_)
       clear hS; intro w r_55 g_56 hg_57 hS
       refine K.l (K.OW.gapp (P := Tryz.prog) (xs := (((rowPs c head l ds j) ++ [(⟨(keyS c ((j - 1 : Nat) : Int)), (l.getD (j - 1) nd0).key⟩ : PutM)])).flatMap cPut) (z := .agg #[.int .i64 0, .int .u64 0]) (size := 2) (bytes := 16) 2 [.int .i64 (nextS c ((j - 1 : Nat) : Int)), .int .u64 (soilI (linkI ((-1) : Int) ((l.getD (j - 1) nd0).by_)))] hS o_34c ?_ (fun j u hj => (by rw [Nat.zero_add]; exact (hS.blk 0 rfl hg_57).cell hj)) (K.one_cells (by rfl)) (by rfl) Tryz.underlying36 (by kernel_rfl) rfl (by decide) (by unfold maxLen; omega) (by omega))
       clear hS; intro a_58 cap_59 w l_60 o_61 hS
       have ln_62 : ((((rowPs c head l ds j) ++ [(⟨(keyS c ((j - 1 : Nat) : Int)), (l.getD (j - 1) nd0).key⟩ : PutM)]) ++ [(⟨(nextS c ((j - 1 : Nat) : Int)), (soilI (linkI ((-1) : Int) ((l.getD (j - 1) nd0).by_)))⟩ : PutM)])).length = (2 * j - 1) + 1 + 1 := by rw [List.length_append, ln_35]; rfl
       have o_61c := K.OwnG.cast (xs' := ((((rowPs c head l ds j) ++ [(⟨(keyS c ((j - 1 : Nat) : Int)), (l.getD (j - 1) nd0).key⟩ : PutM)]) ++ [(⟨(nextS c ((j - 1 : Nat) : Int)), (soilI (linkI ((-1) : Int) ((l.getD (j - 1) nd0).by_)))⟩ : PutM)])).flatMap cPut) o_61 rfl (K.fl_snoc cPut ((rowPs c head l ds j) ++ [(⟨(keyS c ((j - 1 : Nat) : Int)), (l.getD (j - 1) nd0).key⟩ : PutM)]) _ rfl)
       replace hS : K.Sat w0 [g_56, g_29, l_60, g_36, g_5, g_2, gl, gd, fr] w := hS
       refine K.q [.pointer (some ⟨r_7, 4, none⟩)] ?_
       refine K.l (K.OW.gst 3 [.slice a_58 ((2 * j - 1) + 1 + 1) cap_59] _ hS hg_37 ?_)
       clear hS; intro w g_63 hg_64 hS
       replace hS : K.Sat w0 [g_56, g_29, l_60, g_63, g_5, g_2, gl, gd, fr] w := hS
       refine K.z ?_
       refine K.blk_normal ?_
       refine K.t (K.g (K.q [.int .i64 ((j : Nat) : Int)] ?_))
       refine K.a (K.QR.n64 ((((j : Nat) : Int) : Int) + (1 : Int)) ((j + 1 : Nat) : Int) (by kernel_rfl) (by omega)) ?_
       refine K.q [.int .i64 ((j + 1 : Nat) : Int)] (K.z (K.t ?_))
       have h0 : 0 < j := by omega
       have h1 : j = l.length := by omega
       have h2 : (j < ds.length ∧ ds.getD j false = true) := ⟨by omega, hb_42⟩
       have e_65 : rowPs c head l ds (j + 1) = (((rowPs c head l ds j) ++ [(⟨(keyS c ((j - 1 : Nat) : Int)), (l.getD (j - 1) nd0).key⟩ : PutM)]) ++ [(⟨(nextS c ((j - 1 : Nat) : Int)), (soilI (linkI ((-1) : Int) ((l.getD (j - 1) nd0).by_)))⟩ : PutM)]) := by
        show rowPs c head l ds j ++ rowK c l j ++ [⟨rowAt c head j, rowW l ds j⟩] = _
        unfold rowK rowAt rowW rToW rowBy
        simp only [if_pos h0, if_pos h1, if_pos h2, List.append_nil]
       refine ⟨_, ?_, j + 1, a_58, cap_59, g_63, l_60, rfl, ⟨by rfl, by rfl, by rfl, by rfl, by rfl, by rfl, by rfl, by rfl, by rfl, trivial⟩, (by omega), (by rw [show 2 * (j + 1) - 1 = (2 * j - 1) + 1 + 1 by omega]; exact hg_64), (by rw [show 2 * (j + 1) - 1 = (2 * j - 1) + 1 + 1 by omega, e_65]; exact o_61c), hS.pick [2, 3, 4, 5, 6, 7, 8]⟩
       omega
     ·
      refine K.g (K.q [.int .i64 ((j : Nat) : Int), .slice a2 ds.length cap2] ?_)
      refine K.a (K.QR.len (P := Tryz.prog) rfl rfl Tryz.underlying26) ?_
      refine K.x ((((j : Nat) : Int) : Int) < (((ds.length : Nat) : Int) : Int)) h_39 ?_
      refine K.q [.bool false] (K.n_ (K.n_ (K.n_ (K.n_ (K.q [.bool false] (K.z (K.t (K.f (K.k (K.t (K.g (K.q [.pointer (some ⟨r_7, 4, none⟩)] ?_))))))))))))
      refine K.d (.slice a_31 ((2 * j - 1) + 1) cap_32) ((hS.blk 2 rfl hg_37).cell rfl) ?_
      refine K.q [.int .i64 (nextS c ((j - 1 : Nat) : Int)), .int .u64 (linkI ((-1) : Int) ((l.getD (j - 1) nd0).by_))] ?_
      refine K.a (K.QR.bd [(0, .int .i64 (nextS c ((j - 1 : Nat) : Int))), (1, .int .u64 (linkI ((-1) : Int) ((l.getD (j - 1) nd0).by_)))] [.int .i64 (nextS c ((j - 1 : Nat) : Int)), .int .u64 (linkI ((-1) : Int) ((l.getD (j - 1) nd0).by_))] rfl rfl (by kernel_rfl)) ?_
      refine K.l (K.OW.gbs [(0, .agg #[.int .i64 (nextS c ((j - 1 : Nat) : Int)), .int .u64 (linkI ((-1) : Int) ((l.getD (j - 1) nd0).by_))])] [.int .i64 (nextS c ((j - 1 : Nat) : Int)), .int .u64 (linkI ((-1) : Int) ((l.getD (j - 1) nd0).by_))] hS (fun w => K.bs_run (P := Tryz.prog) w 36 117 1 _ _ Tryz.underlying36 (by kernel_rfl)) ?_)
      clear hS; intro w r_66 g_67 hg_68 hS
      refine K.l (K.OW.gapp (P := Tryz.prog) (xs := (((rowPs c head l ds j) ++ [(⟨(keyS c ((j - 1 : Nat) : Int)), (l.getD (j - 1) nd0).key⟩ : PutM)])).flatMap cPut) (z := .agg #[.int .i64 0, .int .u64 0]) (size := 2) (bytes := 16) 2 [.int .i64 (nextS c ((j - 1 : Nat) : Int)), .int .u64 (linkI ((-1) : Int) ((l.getD (j - 1) nd0).by_))] hS o_34c ?_ (fun j u hj => (by rw [Nat.zero_add]; exact (hS.blk 0 rfl hg_68).cell hj)) (K.one_cells (by rfl)) (by rfl) Tryz.underlying36 (by kernel_rfl) rfl (by decide) (by unfold maxLen; omega) (by omega))
      clear hS; intro a_69 cap_70 w l_71 o_72 hS
      have ln_73 : ((((rowPs c head l ds j) ++ [(⟨(keyS c ((j - 1 : Nat) : Int)), (l.getD (j - 1) nd0).key⟩ : PutM)]) ++ [(⟨(nextS c ((j - 1 : Nat) : Int)), (linkI ((-1) : Int) ((l.getD (j - 1) nd0).by_))⟩ : PutM)])).length = (2 * j - 1) + 1 + 1 := by rw [List.length_append, ln_35]; rfl
      have o_72c := K.OwnG.cast (xs' := ((((rowPs c head l ds j) ++ [(⟨(keyS c ((j - 1 : Nat) : Int)), (l.getD (j - 1) nd0).key⟩ : PutM)]) ++ [(⟨(nextS c ((j - 1 : Nat) : Int)), (linkI ((-1) : Int) ((l.getD (j - 1) nd0).by_))⟩ : PutM)])).flatMap cPut) o_72 rfl (K.fl_snoc cPut ((rowPs c head l ds j) ++ [(⟨(keyS c ((j - 1 : Nat) : Int)), (l.getD (j - 1) nd0).key⟩ : PutM)]) _ rfl)
      replace hS : K.Sat w0 [g_67, g_29, l_71, g_36, g_5, g_2, gl, gd, fr] w := hS
      refine K.q [.pointer (some ⟨r_7, 4, none⟩)] ?_
      refine K.l (K.OW.gst 3 [.slice a_69 ((2 * j - 1) + 1 + 1) cap_70] _ hS hg_37 ?_)
      clear hS; intro w g_74 hg_75 hS
      replace hS : K.Sat w0 [g_67, g_29, l_71, g_74, g_5, g_2, gl, gd, fr] w := hS
      refine K.z ?_
      refine K.blk_normal ?_
      refine K.t (K.g (K.q [.int .i64 ((j : Nat) : Int)] ?_))
      refine K.a (K.QR.n64 ((((j : Nat) : Int) : Int) + (1 : Int)) ((j + 1 : Nat) : Int) (by kernel_rfl) (by omega)) ?_
      refine K.q [.int .i64 ((j + 1 : Nat) : Int)] (K.z (K.t ?_))
      have h0 : 0 < j := by omega
      have h1 : j = l.length := by omega
      have h2 : ¬ (j < ds.length ∧ ds.getD j false = true) := fun h => absurd h.1 (by omega)
      have e_76 : rowPs c head l ds (j + 1) = (((rowPs c head l ds j) ++ [(⟨(keyS c ((j - 1 : Nat) : Int)), (l.getD (j - 1) nd0).key⟩ : PutM)]) ++ [(⟨(nextS c ((j - 1 : Nat) : Int)), (linkI ((-1) : Int) ((l.getD (j - 1) nd0).by_))⟩ : PutM)]) := by
       show rowPs c head l ds j ++ rowK c l j ++ [⟨rowAt c head j, rowW l ds j⟩] = _
       unfold rowK rowAt rowW rToW rowBy
       simp only [if_pos h0, if_pos h1, if_neg h2, List.append_nil]
      refine ⟨_, ?_, j + 1, a_69, cap_70, g_74, l_71, rfl, ⟨by rfl, by rfl, by rfl, by rfl, by rfl, by rfl, by rfl, by rfl, by rfl, trivial⟩, (by omega), (by rw [show 2 * (j + 1) - 1 = (2 * j - 1) + 1 + 1 by omega]; exact hg_75), (by rw [show 2 * (j + 1) - 1 = (2 * j - 1) + 1 + 1 by omega, e_76]; exact o_72c), hS.pick [2, 3, 4, 5, 6, 7, 8]⟩
      omega
    ·
     refine K.x ((((j : Nat) : Int) : Int) > (0 : Int)) h_23 ?_
     refine K.z (K.t (K.f (K.k (K.t (K.s (K.g (K.q [.int .i64 (-1), .int .i64 (-1)] ?_)))))))
     refine K.l (K.OW.gcall hS [] [0, 1, 2, 3, 4, 5, 6] [.int .i64 (-1), .int .i64 (-1)] (link_ok _ ((-1) : Int) ((-1) : Int) (by omega) (by omega)) ?_)
     clear hS; rintro _ _ w ⟨rfl, rfl⟩ hS
     replace hS : K.Sat w0 [o1, b9, g_5, g_2, gl, gd, fr] w := hS
     have hw_77 : isW (linkI ((-1) : Int) ((-1) : Int)) := linkI_w _ _
     refine K.q [.int .u64 (linkI ((-1) : Int) ((-1) : Int))] (K.z (K.t (K.s (K.s ?_))))
     by_cases h_78 : (((j : Nat) : Int) : Int) < (((ds.length : Nat) : Int) : Int)
     ·
      obtain ⟨b_79, of_80, rfl, _⟩ := (hgd _ (hS.pick [5])).at_ (by omega)
      refine K.g (K.q [.int .i64 ((j : Nat) : Int), .slice (some ⟨b_79, of_80, none⟩) ds.length cap2] ?_)
      refine K.a (K.QR.len (P := Tryz.prog) rfl rfl Tryz.underlying26) ?_
      refine K.y ((((j : Nat) : Int) : Int) < (((ds.length : Nat) : Int) : Int)) h_78 ?_
      refine K.q [.bool true, .slice (some ⟨b_79, of_80, none⟩) ds.length cap2, .int .i64 ((j : Nat) : Int)] ?_
      refine K.a (K.QR.ix (of_80 + j * 1) 1 rfl rfl rfl Tryz.underlying26 (by kernel_rfl) (by omega) (by first | (simp; done) | omega | (simp; omega))) ?_
      refine K.d (.bool (ds.getD j false)) ((hgd _ (hS.pick [5])).ld j (by omega) 0 _ rfl) ?_
      cases hb_81 : ds.getD j false
      ·
       refine K.q [.bool false] (K.z (K.t (K.f (K.k (K.t (K.g (K.q [.pointer (some ⟨r_7, 4, none⟩)] ?_)))))))
       refine K.d (.slice q1 (2 * j - 1) c1) ((hS.blk 1 rfl x_19).cell rfl) ?_
       refine K.q [.int .i64 head, .int .u64 (linkI ((-1) : Int) ((-1) : Int))] ?_
       refine K.a (K.QR.bd [(0, .int .i64 head), (1, .int .u64 (linkI ((-1) : Int) ((-1) : Int)))] [.int .i64 head, .int .u64 (linkI ((-1) : Int) ((-1) : Int))] rfl rfl (by kernel_rfl)) ?_
       refine K.l (K.OW.gbs [(0, .agg #[.int .i64 head, .int .u64 (linkI ((-1) : Int) ((-1) : Int))])] [.int .i64 head, .int .u64 (linkI ((-1) : Int) ((-1) : Int))] hS (fun w => K.bs_run (P := Tryz.prog) w 36 117 1 _ _ Tryz.underlying36 (by kernel_rfl)) ?_)
       clear hS; intro w r_82 g_83 hg_84 hS
       refine K.l (K.OW.gapp (P := Tryz.prog) (xs := ((rowPs c head l ds j)).flatMap cPut) (z := .agg #[.int .i64 0, .int .u64 0]) (size := 2) (bytes := 16) 1 [.int .i64 head, .int .u64 (linkI ((-1) : Int) ((-1) : Int))] hS x_20 ?_ (fun j u hj => (by rw [Nat.zero_add]; exact (hS.blk 0 rfl hg_84).cell hj)) (K.one_cells (by rfl)) (by rfl) Tryz.underlying36 (by kernel_rfl) rfl (by decide) (by unfold maxLen; omega) (by omega))
       clear hS; intro a_85 cap_86 w l_87 o_88 hS
       have ln_89 : (((rowPs c head l ds j) ++ [(⟨head, (linkI ((-1) : Int) ((-1) : Int))⟩ : PutM)])).length = (2 * j - 1) + 1 := by rw [List.length_append, (rowPs_len c head l ds j)]; rfl
       have o_88c := K.OwnG.cast (xs' := (((rowPs c head l ds j) ++ [(⟨head, (linkI ((-1) : Int) ((-1) : Int))⟩ : PutM)])).flatMap cPut) o_88 rfl (K.fl_snoc cPut (rowPs c head l ds j) _ rfl)
       replace hS : K.Sat w0 [g_83, l_87, b9, g_5, g_2, gl, gd, fr] w := hS
       refine K.q [.pointer (some ⟨r_7, 4, none⟩)] ?_
       refine K.l (K.OW.gst 2 [.slice a_85 ((2 * j - 1) + 1) cap_86] _ hS x_19 ?_)
       clear hS; intro w g_90 hg_91 hS
       replace hS : K.Sat w0 [g_83, l_87, g_90, g_5, g_2, gl, gd, fr] w := hS
       refine K.z ?_
       refine K.blk_normal ?_
       refine K.t (K.g (K.q [.int .i64 ((j : Nat) : Int)] ?_))
       refine K.a (K.QR.n64 ((((j : Nat) : Int) : Int) + (1 : Int)) ((j + 1 : Nat) : Int) (by kernel_rfl) (by omega)) ?_
       refine K.q [.int .i64 ((j + 1 : Nat) : Int)] (K.z (K.t ?_))
       have h0 : ¬ 0 < j := by omega
       have h1 : j = l.length := by omega
       have h2 : ¬ (j < ds.length ∧ ds.getD j false = true) := fun h => by rw [hb_81] at h; exact absurd h.2 (by decide)
       have e_92 : rowPs c head l ds (j + 1) = ((rowPs c head l ds j) ++ [(⟨head, (linkI ((-1) : Int) ((-1) : Int))⟩ : PutM)]) := by
        show rowPs c head l ds j ++ rowK c l j ++ [⟨rowAt c head j, rowW l ds j⟩] = _
        unfold rowK rowAt rowW rToW rowBy
        simp only [if_neg h0, if_pos h1, if_neg h2, List.append_nil]
       refine ⟨_, ?_, j + 1, a_85, cap_86, g_90, l_87, rfl, ⟨by rfl, by rfl, by rfl, by rfl, by rfl, by rfl, by rfl, by rfl, by rfl, trivial⟩, (by omega), (by rw [show 2 * (j + 1) - 1 = (2 * j - 1) + 1 by omega]; exact hg_91), (by rw [show 2 * (j + 1) - 1 = (2 * j - 1) + 1 by omega, e_92]; exact o_88c), hS.pick [1, 2, 3, 4, 5, 6, 7]⟩
       omega
      ·
       refine K.q [.bool true] (K.z (K.t (K.h (K.g (K.q [.int .u64 (linkI ((-1) : Int) ((-1) : Int))] ?_)))))
       refine K.l (K.OW.gcall hS [] [0, 1, 2, 3, 4, 5, 6] [.int .u64 (linkI ((-1) : Int) ((-1) : Int))] (soil_ok _ (linkI ((-1) : Int) ((-1) : Int)) (by first | assumption | exact isL.w (by assumption) | exact soilI_w _ | (unfold isW; omega))) ?_)
       clear hS; rintro _ _ w ⟨rfl, rfl⟩ hS
       replace hS : K.Sat w0 [o1, b9, g_5, g_2, gl, gd, fr] w := hS
       have hw_93 : isW (soilI (linkI ((-1) : Int) ((-1) : Int))) := soilI_w _
       refine K.q [.int .u64 (soilI (linkI ((-1) : Int) ((-1) : Int)))] (K.z (K.t (K.g (K.q [.pointer (some ⟨r_7, 4, none⟩)] ?_))))
       refine K.d (.slice q1 (2 * j - 1) c1) ((hS.blk 1 rfl x_19).cell rfl) ?_
       refine K.q [.int .i64 head, .int .u64 (soilI (linkI ((-1) : Int) ((-1) : Int)))] ?_
       refine K.a (K.QR.bd [(0, .int .i64 head), (1, .int .u64 (soilI (linkI ((-1) : Int) ((-1) : Int))))] [.int .i64 head, .int .u64 (soilI (linkI ((-1) : Int) ((-1) : Int)))] rfl rfl (by kernel_rfl)) ?_
       refine K.l (K.OW.gbs [(0, .agg #[.int .i64 head, .int .u64 (soilI (linkI ((-1) : Int) ((-1) : Int)))])] [.int .i64 head, .int .u64 (soilI (linkI ((-1) : Int) ((-1) : Int)))] hS (fun w => K.bs_run (P := Tryz.prog) w 36 117 1 _ _ Tryz.underlying36 (by kernel_rfl)) ?_)
       clear hS; intro w r_94 g_95 hg_96 hS
       refine K.l (K.OW.gapp (P := Tryz.prog) (xs := ((rowPs c head l ds j)).flatMap cPut) (z := .agg #[.int .i64 0, .int .u64 0]) (size := 2) (bytes := 16) 1 [.int .i64 head, .int .u64 (soilI (linkI ((-1) : Int) ((-1) : Int)))] hS x_20 ?_ (fun j u hj => (by rw [Nat.zero_add]; exact (hS.blk 0 rfl hg_96).cell hj)) (K.one_cells (by rfl)) (by rfl) Tryz.underlying36 (by kernel_rfl) rfl (by decide) (by unfold maxLen; omega) (by omega))
       clear hS; intro a_97 cap_98 w l_99 o_100 hS
       have ln_101 : (((rowPs c head l ds j) ++ [(⟨head, (soilI (linkI ((-1) : Int) ((-1) : Int)))⟩ : PutM)])).length = (2 * j - 1) + 1 := by rw [List.length_append, (rowPs_len c head l ds j)]; rfl
       have o_100c := K.OwnG.cast (xs' := (((rowPs c head l ds j) ++ [(⟨head, (soilI (linkI ((-1) : Int) ((-1) : Int)))⟩ : PutM)])).flatMap cPut) o_100 rfl (K.fl_snoc cPut (rowPs c head l ds j) _ rfl)
       replace hS : K.Sat w0 [g_95, l_99, b9, g_5, g_2, gl, gd, fr] w := hS
       refine K.q [.pointer (some ⟨r_7, 4, none⟩)] ?_
       refine K.l (K.OW.gst 2 [.slice a_97 ((2 * j - 1) + 1) cap_98] _ hS x_19 ?_)
       clear hS; intro w g_102 hg_103 hS
       replace hS : K.Sat w0 [g_95, l_99, g_102, g_5, g_2, gl, gd, fr] w := hS
       refine K.z ?_
       refine K.blk_normal ?_
       refine K.t (K.g (K.q [.int .i64 ((j : Nat) : Int)] ?_))
       refine K.a (K.QR.n64 ((((j : Nat) : Int) : Int) + (1 : Int)) ((j + 1 : Nat) : Int) (by kernel_rfl) (by omega)) ?_
       refine K.q [.int .i64 ((j + 1 : Nat) : Int)] (K.z (K.t ?_))
       have h0 : ¬ 0 < j := by omega
       have h1 : j = l.length := by omega
       have h2 : (j < ds.length ∧ ds.getD j false = true) := ⟨by omega, hb_81⟩
       have e_104 : rowPs c head l ds (j + 1) = ((rowPs c head l ds j) ++ [(⟨head, (soilI (linkI ((-1) : Int) ((-1) : Int)))⟩ : PutM)]) := by
        show rowPs c head l ds j ++ rowK c l j ++ [⟨rowAt c head j, rowW l ds j⟩] = _
        unfold rowK rowAt rowW rToW rowBy
        simp only [if_neg h0, if_pos h1, if_pos h2, List.append_nil]
       refine ⟨_, ?_, j + 1, a_97, cap_98, g_102, l_99, rfl, ⟨by rfl, by rfl, by rfl, by rfl, by rfl, by rfl, by rfl, by rfl, by rfl, trivial⟩, (by omega), (by rw [show 2 * (j + 1) - 1 = (2 * j - 1) + 1 by omega]; exact hg_103), (by rw [show 2 * (j + 1) - 1 = (2 * j - 1) + 1 by omega, e_104]; exact o_100c), hS.pick [1, 2, 3, 4, 5, 6, 7]⟩
       omega
     ·
      refine K.g (K.q [.int .i64 ((j : Nat) : Int), .slice a2 ds.length cap2] ?_)
      refine K.a (K.QR.len (P := Tryz.prog) rfl rfl Tryz.underlying26) ?_
      refine K.x ((((j : Nat) : Int) : Int) < (((ds.length : Nat) : Int) : Int)) h_78 ?_
      refine K.q [.bool false] (K.n_ (K.n_ (K.n_ (K.n_ (K.q [.bool false] (K.z (K.t (K.f (K.k (K.t (K.g (K.q [.pointer (some ⟨r_7, 4, none⟩)] ?_))))))))))))
      refine K.d (.slice q1 (2 * j - 1) c1) ((hS.blk 1 rfl x_19).cell rfl) ?_
      refine K.q [.int .i64 head, .int .u64 (linkI ((-1) : Int) ((-1) : Int))] ?_
      refine K.a (K.QR.bd [(0, .int .i64 head), (1, .int .u64 (linkI ((-1) : Int) ((-1) : Int)))] [.int .i64 head, .int .u64 (linkI ((-1) : Int) ((-1) : Int))] rfl rfl (by kernel_rfl)) ?_
      refine K.l (K.OW.gbs [(0, .agg #[.int .i64 head, .int .u64 (linkI ((-1) : Int) ((-1) : Int))])] [.int .i64 head, .int .u64 (linkI ((-1) : Int) ((-1) : Int))] hS (fun w => K.bs_run (P := Tryz.prog) w 36 117 1 _ _ Tryz.underlying36 (by kernel_rfl)) ?_)
      clear hS; intro w r_105 g_106 hg_107 hS
      refine K.l (K.OW.gapp (P := Tryz.prog) (xs := ((rowPs c head l ds j)).flatMap cPut) (z := .agg #[.int .i64 0, .int .u64 0]) (size := 2) (bytes := 16) 1 [.int .i64 head, .int .u64 (linkI ((-1) : Int) ((-1) : Int))] hS x_20 ?_ (fun j u hj => (by rw [Nat.zero_add]; exact (hS.blk 0 rfl hg_107).cell hj)) (K.one_cells (by rfl)) (by rfl) Tryz.underlying36 (by kernel_rfl) rfl (by decide) (by unfold maxLen; omega) (by omega))
      clear hS; intro a_108 cap_109 w l_110 o_111 hS
      have ln_112 : (((rowPs c head l ds j) ++ [(⟨head, (linkI ((-1) : Int) ((-1) : Int))⟩ : PutM)])).length = (2 * j - 1) + 1 := by rw [List.length_append, (rowPs_len c head l ds j)]; rfl
      have o_111c := K.OwnG.cast (xs' := (((rowPs c head l ds j) ++ [(⟨head, (linkI ((-1) : Int) ((-1) : Int))⟩ : PutM)])).flatMap cPut) o_111 rfl (K.fl_snoc cPut (rowPs c head l ds j) _ rfl)
      replace hS : K.Sat w0 [g_106, l_110, b9, g_5, g_2, gl, gd, fr] w := hS
      refine K.q [.pointer (some ⟨r_7, 4, none⟩)] ?_
      refine K.l (K.OW.gst 2 [.slice a_108 ((2 * j - 1) + 1) cap_109] _ hS x_19 ?_)
      clear hS; intro w g_113 hg_114 hS
      replace hS : K.Sat w0 [g_106, l_110, g_113, g_5, g_2, gl, gd, fr] w := hS
      refine K.z ?_
      refine K.blk_normal ?_
      refine K.t (K.g (K.q [.int .i64 ((j : Nat) : Int)] ?_))
      refine K.a (K.QR.n64 ((((j : Nat) : Int) : Int) + (1 : Int)) ((j + 1 : Nat) : Int) (by kernel_rfl) (by omega)) ?_
      refine K.q [.int .i64 ((j + 1 : Nat) : Int)] (K.z (K.t ?_))
      have h0 : ¬ 0 < j := by omega
      have h1 : j = l.length := by omega
      have h2 : ¬ (j < ds.length ∧ ds.getD j false = true) := fun h => absurd h.1 (by omega)
      have e_115 : rowPs c head l ds (j + 1) = ((rowPs c head l ds j) ++ [(⟨head, (linkI ((-1) : Int) ((-1) : Int))⟩ : PutM)]) := by
       show rowPs c head l ds j ++ rowK c l j ++ [⟨rowAt c head j, rowW l ds j⟩] = _
       unfold rowK rowAt rowW rToW rowBy
       simp only [if_neg h0, if_pos h1, if_neg h2, List.append_nil]
      refine ⟨_, ?_, j + 1, a_108, cap_109, g_113, l_110, rfl, ⟨by rfl, by rfl, by rfl, by rfl, by rfl, by rfl, by rfl, by rfl, by rfl, trivial⟩, (by omega), (by rw [show 2 * (j + 1) - 1 = (2 * j - 1) + 1 by omega]; exact hg_114), (by rw [show 2 * (j + 1) - 1 = (2 * j - 1) + 1 by omega, e_115]; exact o_111c), hS.pick [1, 2, 3, 4, 5, 6, 7]⟩
      omega
   ·
    refine K.xe (((j : Nat) : Int) : Int) (((l.length : Nat) : Int) : Int) h_22 ?_
    refine K.z (K.t (K.f (K.k (K.t (K.s (K.s (K.g (K.q [.int .i64 ((j : Nat) : Int)] ?_))))))))
    by_cases h_116 : (((j : Nat) : Int) : Int) > (0 : Int)
    ·
     refine K.y ((((j : Nat) : Int) : Int) > (0 : Int)) h_116 ?_
     refine K.z (K.t (K.h (K.s ?_)))
     obtain ⟨b_117, of_118, rfl, _⟩ := (hgl _ (hS.pick [4])).at_ (by omega)
     have hkj := hk (j - 1) (by omega)
     refine K.g (K.q [.slice (some ⟨b_117, of_118, none⟩) l.length cap, .int .i64 ((j : Nat) : Int)] ?_)
     refine K.a (K.QR.n64 ((((j : Nat) : Int) : Int) - (1 : Int)) ((j - 1 : Nat) : Int) (by kernel_rfl) (by omega)) ?_
     refine K.a (K.QR.ix (of_118 + (j - 1) * 2) 2 rfl rfl rfl Tryz.underlying24 (by kernel_rfl) (by omega) (by first | (simp; done) | omega | (simp; omega))) ?_
     refine K.q [.pointer (some ⟨b_117, of_118 + (j - 1) * 2 + 1, none⟩)] ?_
     refine K.d (.int .i64 ((l.getD (j - 1) nd0).by_)) ((hgl _ (hS.pick [4])).ld (j - 1) (by omega) 1 _ rfl) ?_
     refine K.q [.int .i64 ((l.getD (j - 1) nd0).by_)] (K.z (K.t (K.s (K.g ?_))))
     refine K.a (K.QR.ldN [.int .i64 c.th, .int .i64 c.sl, .int .i64 c.lo, .int .i64 c.bu] rfl rfl (by kernel_rfl) (by kernel_rfl) (K.cells (K.cl ((hS.blk 3 rfl hg_3).cell rfl) (K.cl ((hS.blk 3 rfl hg_3).cell rfl) (K.cl ((hS.blk 3 rfl hg_3).cell rfl) (K.cl ((hS.blk 3 rfl hg_3).cell rfl) K.cl0)))))) ?_
     refine K.q [.int .i64 ((j : Nat) : Int)] ?_
     refine K.a (K.QR.n64 ((((j : Nat) : Int) : Int) - (1 : Int)) ((j - 1 : Nat) : Int) (by kernel_rfl) (by omega)) ?_
     refine K.l (K.OW.gcall hS [] [0, 1, 2, 3, 4, 5, 6] [.agg #[.int .i64 c.th, .int .i64 c.sl, .int .i64 c.lo, .int .i64 c.bu], .int .i64 ((j - 1 : Nat) : Int)] (rnext_ok _ c (by assumption) ((j - 1 : Nat) : Int)) ?_)
     clear hS; rintro _ _ w ⟨rfl, rfl⟩ hS
     replace hS : K.Sat w0 [o1, b9, g_5, g_2, gl, gd, fr] w := hS
     have hi_119 : isInt (nextS c ((j - 1 : Nat) : Int)) := next_int (by assumption) _
     refine K.q [.int .i64 (nextS c ((j - 1 : Nat) : Int))] (K.z (K.t ?_))
     refine K.KW.gdrawn [1, 3, 4] hS (by kernel_rfl) ?_
     clear hS; intro w hS
     refine K.p 0 rfl (.pointer (some ⟨r_7, 4, none⟩)) (hS.pick [1, 3, 4]) ?_
     refine K.o_ 1 rfl (.slice q1 (2 * j - 1) c1) (fun w hS => ((hS.blk 0 rfl x_19).cell rfl)) (hS.pick [1, 3, 4]) ?_
     refine K.m 2 rfl (fun w hS => K.QR.ldN [.int .i64 c.th, .int .i64 c.sl, .int .i64 c.lo, .int .i64 c.bu] rfl rfl (by kernel_rfl) (by kernel_rfl) (K.cells (K.cl ((hS.blk 1 rfl hg_3).cell rfl) (K.cl ((hS.blk 1 rfl hg_3).cell rfl) (K.cl ((hS.blk 1 rfl hg_3).cell rfl) (K.cl ((hS.blk 1 rfl hg_3).cell rfl) K.cl0)))))) (hS.pick [1, 3, 4]) ?_
     refine K.p 3 rfl (.int .i64 ((j : Nat) : Int)) (hS.pick [1, 3, 4]) ?_
     refine K.m 4 rfl (fun w hS => K.QR.n64 ((((j : Nat) : Int) : Int) - (1 : Int)) ((j - 1 : Nat) : Int) (by kernel_rfl) (by omega)) (hS.pick [1, 3, 4]) ?_
     refine K.m 5 rfl (fun w hS => K.QR.bd [(0, .int .i64 10), (1, .int .i64 ((j - 1 : Nat) : Int))] [.int .i64 10, .int .i64 ((j - 1 : Nat) : Int), .int .i64 0] rfl rfl (by kernel_rfl)) (hS.pick [1, 3, 4]) ?_
     refine K.p 7 rfl (.slice (some ⟨b_117, of_118, none⟩) l.length cap) (hS.pick [1, 3, 4]) ?_
     refine K.p 8 rfl (.int .i64 ((j : Nat) : Int)) (hS.pick [1, 3, 4]) ?_
     refine K.m 9 rfl (fun w hS => K.QR.n64 ((((j : Nat) : Int) : Int) - (1 : Int)) ((j - 1 : Nat) : Int) (by kernel_rfl) (by omega)) (hS.pick [1, 3, 4]) ?_
     refine K.m 10 rfl (fun w hS => K.QR.ix (of_118 + (j - 1) * 2) 2 rfl rfl rfl Tryz.underlying24 (by kernel_rfl) (by omega) (by first | (simp; done) | omega | (simp; omega))) (hS.pick [1, 3, 4]) ?_
     refine K.p 11 rfl (.pointer (some ⟨b_117, of_118 + (j - 1) * 2, none⟩)) (hS.pick [1, 3, 4]) ?_
     refine K.o_ 12 rfl (.int .u32 ((l.getD (j - 1) nd0).key)) (fun w hS => ((hgl _ (hS.pick [2])).ld (j - 1) (by omega) 0 _ rfl)) (hS.pick [1, 3, 4]) ?_
     refine K.m 13 rfl (fun w hS => K.QR.nice (v := .int .u64 (IntKind.u64.wrap ((l.getD (j - 1) nd0).key))) (by kernel_rfl) (congrArg (Value.int .u64) (IntWalk.u64_in _ (by omega)))) (hS.pick [1, 3, 4]) ?_
     refine K.DW.l 6 rfl (by kernel_rfl) rfl (K.OW.gcall hS [] [0, 1, 2, 3, 4, 5, 6] [.agg #[.int .i64 c.th, .int .i64 c.sl, .int .i64 c.lo, .int .i64 c.bu], .agg #[.int .i64 10, .int .i64 ((j - 1 : Nat) : Int), .int .i64 0]] (rkey_ok _ c ((j - 1 : Nat) : Int) (by assumption)) ?_)
     clear hS; rintro _ _ w ⟨rfl, rfl⟩ hS
     replace hS : K.Sat w0 [o1, b9, g_5, g_2, gl, gd, fr] w := hS
     have hi_120 : isInt (keyS c ((j - 1 : Nat) : Int)) := key_int (by assumption) _
     refine ⟨.inl (hS.pick [1, 3, 4]), ?_⟩
     refine K.c 14 rfl (K.QR.bd [(0, .int .i64 (keyS c ((j - 1 : Nat) : Int))), (1, .int .u64 ((l.getD (j - 1) nd0).key))] [.int .i64 (keyS c ((j - 1 : Nat) : Int)), .int .u64 ((l.getD (j - 1) nd0).key)] rfl rfl (by kernel_rfl)) (hS.pick [1, 3, 4]) ?_
     refine K.DW.l 15 rfl (by kernel_rfl) rfl (K.OW.gbs [(0, .agg #[.int .i64 (keyS c ((j - 1 : Nat) : Int)), .int .u64 ((l.getD (j - 1) nd0).key)])] [.int .i64 (keyS c ((j - 1 : Nat) : Int)), .int .u64 ((l.getD (j - 1) nd0).key)] hS (fun w => K.bs_run (P := Tryz.prog) w 36 117 1 _ _ Tryz.underlying36 (by kernel_rfl)) ?_)
     clear hS; intro w r_121 g_122 hg_123 hS
     refine ⟨.inl (hS.pick [2, 4, 5]), ?_⟩
     refine K.DW.l 16 rfl (by kernel_rfl) rfl (K.OW.gapp (P := Tryz.prog) (xs := ((rowPs c head l ds j)).flatMap cPut) (z := .agg #[.int .i64 0, .int .u64 0]) (size := 2) (bytes := 16) 1 [.int .i64 (keyS c ((j - 1 : Nat) : Int)), .int .u64 ((l.getD (j - 1) nd0).key)] hS x_20 ?_ (fun j u hj => (by rw [Nat.zero_add]; exact (hS.blk 0 rfl hg_123).cell hj)) (K.one_cells (by rfl)) (by rfl) Tryz.underlying36 (by kernel_rfl) rfl (by decide) (by unfold maxLen; omega) (by omega))
     clear hS; intro a_124 cap_125 w l_126 o_127 hS
     have ln_128 : (((rowPs c head l ds j) ++ [(⟨(keyS c ((j - 1 : Nat) : Int)), (l.getD (j - 1) nd0).key⟩ : PutM)])).length = (2 * j - 1) + 1 := by rw [List.length_append, (rowPs_len c head l ds j)]; rfl
     have o_127c := K.OwnG.cast (xs' := (((rowPs c head l ds j) ++ [(⟨(keyS c ((j - 1 : Nat) : Int)), (l.getD (j - 1) nd0).key⟩ : PutM)])).flatMap cPut) o_127 rfl (K.fl_snoc cPut (rowPs c head l ds j) _ rfl)
     replace hS : K.Sat w0 [g_122, l_126, b9, g_5, g_2, gl, gd, fr] w := hS
     refine ⟨.inl (hS.pick [2, 4, 5]), ?_⟩
     refine K.b 17 rfl (.pointer (some ⟨r_7, 4, none⟩)) (hS.pick [2, 4, 5]) ?_
     refine K.DW.l 18 rfl (by kernel_rfl) rfl (K.OW.gst 2 [.slice a_124 ((2 * j - 1) + 1) cap_125] _ hS x_19 ?_)
     clear hS; intro w g_129 hg_130 hS
     replace hS : K.Sat w0 [g_122, l_126, g_129, g_5, g_2, gl, gd, fr] w := hS
     refine ⟨.inr (by kernel_rfl), ?_⟩
     refine K.DW.done (by kernel_rfl) ?_
     refine K.t (K.s (K.g (K.q [.int .i64 ((j : Nat) : Int), .int .i64 ((l.getD (j - 1) nd0).by_)] ?_)))
     refine K.l (K.OW.gcall hS [] [0, 1, 2, 3, 4, 5, 6, 7] [.int .i64 ((j : Nat) : Int), .int .i64 ((l.getD (j - 1) nd0).by_)] (link_ok _ ((j : Nat) : Int) ((l.getD (j - 1) nd0).by_) (by omega) (by omega)) ?_)
     clear hS; rintro _ _ w ⟨rfl, rfl⟩ hS
     replace hS : K.Sat w0 [g_122, l_126, g_129, g_5, g_2, gl, gd, fr] w := hS
     have hw_131 : isW (linkI ((j : Nat) : Int) ((l.getD (j - 1) nd0).by_)) := linkI_w _ _
     refine K.q [.int .u64 (linkI ((j : Nat) : Int) ((l.getD (j - 1) nd0).by_))] (K.z (K.t (K.s (K.s ?_))))
     by_cases h_132 : (((j : Nat) : Int) : Int) < (((ds.length : Nat) : Int) : Int)
     ·
      obtain ⟨b_133, of_134, rfl, _⟩ := (hgd _ (hS.pick [6])).at_ (by omega)
      refine K.g (K.q [.int .i64 ((j : Nat) : Int), .slice (some ⟨b_133, of_134, none⟩) ds.length cap2] ?_)
      refine K.a (K.QR.len (P := Tryz.prog) rfl rfl Tryz.underlying26) ?_
      refine K.y ((((j : Nat) : Int) : Int) < (((ds.length : Nat) : Int) : Int)) h_132 ?_
      refine K.q [.bool true, .slice (some ⟨b_133, of_134, none⟩) ds.length cap2, .int .i64 ((j : Nat) : Int)] ?_
      refine K.a (K.QR.ix (of_134 + j * 1) 1 rfl rfl rfl Tryz.underlying26 (by kernel_rfl) (by omega) (by first | (simp; done) | omega | (simp; omega))) ?_
      refine K.d (.bool (ds.getD j false)) ((hgd _ (hS.pick [6])).ld j (by omega) 0 _ rfl) ?_
      cases hb_135 : ds.getD j false
      ·
       refine K.q [.bool false] (K.z (K.t (K.f (K.k (K.t (K.g (K.q [.pointer (some ⟨r_7, 4, none⟩)] ?_)))))))
       refine K.d (.slice a_124 ((2 * j - 1) + 1) cap_125) ((hS.blk 2 rfl hg_130).cell rfl) ?_
       refine K.q [.int .i64 (nextS c ((j - 1 : Nat) : Int)), .int .u64 (linkI ((j : Nat) : Int) ((l.getD (j - 1) nd0).by_))] ?_
       refine K.a (K.QR.bd [(0, .int .i64 (nextS c ((j - 1 : Nat) : Int))), (1, .int .u64 (linkI ((j : Nat) : Int) ((l.getD (j - 1) nd0).by_)))] [.int .i64 (nextS c ((j - 1 : Nat) : Int)), .int .u64 (linkI ((j : Nat) : Int) ((l.getD (j - 1) nd0).by_))] rfl rfl (by kernel_rfl)) ?_
       refine K.l (K.OW.gbs [(0, .agg #[.int .i64 (nextS c ((j - 1 : Nat) : Int)), .int .u64 (linkI ((j : Nat) : Int) ((l.getD (j - 1) nd0).by_))])] [.int .i64 (nextS c ((j - 1 : Nat) : Int)), .int .u64 (linkI ((j : Nat) : Int) ((l.getD (j - 1) nd0).by_))] hS (fun w => K.bs_run (P := Tryz.prog) w 36 117 1 _ _ Tryz.underlying36 (by kernel_rfl)) ?_)
       clear hS; intro w r_136 g_137 hg_138 hS
       refine K.l (K.OW.gapp (P := Tryz.prog) (xs := (((rowPs c head l ds j) ++ [(⟨(keyS c ((j - 1 : Nat) : Int)), (l.getD (j - 1) nd0).key⟩ : PutM)])).flatMap cPut) (z := .agg #[.int .i64 0, .int .u64 0]) (size := 2) (bytes := 16) 2 [.int .i64 (nextS c ((j - 1 : Nat) : Int)), .int .u64 (linkI ((j : Nat) : Int) ((l.getD (j - 1) nd0).by_))] hS o_127c ?_ (fun j u hj => (by rw [Nat.zero_add]; exact (hS.blk 0 rfl hg_138).cell hj)) (K.one_cells (by rfl)) (by rfl) Tryz.underlying36 (by kernel_rfl) rfl (by decide) (by unfold maxLen; omega) (by omega))
       clear hS; intro a_139 cap_140 w l_141 o_142 hS
       have ln_143 : ((((rowPs c head l ds j) ++ [(⟨(keyS c ((j - 1 : Nat) : Int)), (l.getD (j - 1) nd0).key⟩ : PutM)]) ++ [(⟨(nextS c ((j - 1 : Nat) : Int)), (linkI ((j : Nat) : Int) ((l.getD (j - 1) nd0).by_))⟩ : PutM)])).length = (2 * j - 1) + 1 + 1 := by rw [List.length_append, ln_128]; rfl
       have o_142c := K.OwnG.cast (xs' := ((((rowPs c head l ds j) ++ [(⟨(keyS c ((j - 1 : Nat) : Int)), (l.getD (j - 1) nd0).key⟩ : PutM)]) ++ [(⟨(nextS c ((j - 1 : Nat) : Int)), (linkI ((j : Nat) : Int) ((l.getD (j - 1) nd0).by_))⟩ : PutM)])).flatMap cPut) o_142 rfl (K.fl_snoc cPut ((rowPs c head l ds j) ++ [(⟨(keyS c ((j - 1 : Nat) : Int)), (l.getD (j - 1) nd0).key⟩ : PutM)]) _ rfl)
       replace hS : K.Sat w0 [g_137, g_122, l_141, g_129, g_5, g_2, gl, gd, fr] w := hS
       refine K.q [.pointer (some ⟨r_7, 4, none⟩)] ?_
       refine K.l (K.OW.gst 3 [.slice a_139 ((2 * j - 1) + 1 + 1) cap_140] _ hS hg_130 ?_)
       clear hS; intro w g_144 hg_145 hS
       replace hS : K.Sat w0 [g_137, g_122, l_141, g_144, g_5, g_2, gl, gd, fr] w := hS
       refine K.z ?_
       refine K.blk_normal ?_
       refine K.t (K.g (K.q [.int .i64 ((j : Nat) : Int)] ?_))
       refine K.a (K.QR.n64 ((((j : Nat) : Int) : Int) + (1 : Int)) ((j + 1 : Nat) : Int) (by kernel_rfl) (by omega)) ?_
       refine K.q [.int .i64 ((j + 1 : Nat) : Int)] (K.z (K.t ?_))
       have h0 : 0 < j := by omega
       have h1 : ¬ j = l.length := by omega
       have h2 : ¬ (j < ds.length ∧ ds.getD j false = true) := fun h => by rw [hb_135] at h; exact absurd h.2 (by decide)
       have e_146 : rowPs c head l ds (j + 1) = (((rowPs c head l ds j) ++ [(⟨(keyS c ((j - 1 : Nat) : Int)), (l.getD (j - 1) nd0).key⟩ : PutM)]) ++ [(⟨(nextS c ((j - 1 : Nat) : Int)), (linkI ((j : Nat) : Int) ((l.getD (j - 1) nd0).by_))⟩ : PutM)]) := by
        show rowPs c head l ds j ++ rowK c l j ++ [⟨rowAt c head j, rowW l ds j⟩] = _
        unfold rowK rowAt rowW rToW rowBy
        simp only [if_pos h0, if_neg h1, if_neg h2, List.append_nil]
       refine ⟨_, ?_, j + 1, a_139, cap_140, g_144, l_141, rfl, ⟨by rfl, by rfl, by rfl, by rfl, by rfl, by rfl, by rfl, by rfl, by rfl, trivial⟩, (by omega), (by rw [show 2 * (j + 1) - 1 = (2 * j - 1) + 1 + 1 by omega]; exact hg_145), (by rw [show 2 * (j + 1) - 1 = (2 * j - 1) + 1 + 1 by omega, e_146]; exact o_142c), hS.pick [2, 3, 4, 5, 6, 7, 8]⟩
       omega
      ·
       refine K.q [.bool true] (K.z (K.t (K.h (K.g (K.q [.int .u64 (linkI ((j : Nat) : Int) ((l.getD (j - 1) nd0).by_))] ?_)))))
       refine K.l (K.OW.gcall hS [] [0, 1, 2, 3, 4, 5, 6, 7] [.int .u64 (linkI ((j : Nat) : Int) ((l.getD (j - 1) nd0).by_))] (soil_ok _ (linkI ((j : Nat) : Int) ((l.getD (j - 1) nd0).by_)) (by first | assumption | exact isL.w (by assumption) | exact soilI_w _ | (unfold isW; omega))) ?_)
       clear hS; rintro _ _ w ⟨rfl, rfl⟩ hS
       replace hS : K.Sat w0 [g_122, l_126, g_129, g_5, g_2, gl, gd, fr] w := hS
       have hw_147 : isW (soilI (linkI ((j : Nat) : Int) ((l.getD (j - 1) nd0).by_))) := soilI_w _
       refine K.q [.int .u64 (soilI (linkI ((j : Nat) : Int) ((l.getD (j - 1) nd0).by_)))] (K.z (K.t (K.g (K.q [.pointer (some ⟨r_7, 4, none⟩)] ?_))))
       refine K.d (.slice a_124 ((2 * j - 1) + 1) cap_125) ((hS.blk 2 rfl hg_130).cell rfl) ?_
       refine K.q [.int .i64 (nextS c ((j - 1 : Nat) : Int)), .int .u64 (soilI (linkI ((j : Nat) : Int) ((l.getD (j - 1) nd0).by_)))] ?_
       refine K.a (K.QR.bd [(0, .int .i64 (nextS c ((j - 1 : Nat) : Int))), (1, .int .u64 (soilI (linkI ((j : Nat) : Int) ((l.getD (j - 1) nd0).by_))))] [.int .i64 (nextS c ((j - 1 : Nat) : Int)), .int .u64 (soilI (linkI ((j : Nat) : Int) ((l.getD (j - 1) nd0).by_)))] rfl rfl (by kernel_rfl)) ?_
       refine K.l (K.OW.gbs [(0, .agg #[.int .i64 (nextS c ((j - 1 : Nat) : Int)), .int .u64 (soilI (linkI ((j : Nat) : Int) ((l.getD (j - 1) nd0).by_)))])] [.int .i64 (nextS c ((j - 1 : Nat) : Int)), .int .u64 (soilI (linkI ((j : Nat) : Int) ((l.getD (j - 1) nd0).by_)))] hS (fun w => K.bs_run (P := Tryz.prog) w 36 117 1 _ _ Tryz.underlying36 (by kernel_rfl)) ?_)
       clear hS; intro w r_148 g_149 hg_150 hS
       refine K.l (K.OW.gapp (P := Tryz.prog) (xs := (((rowPs c head l ds j) ++ [(⟨(keyS c ((j - 1 : Nat) : Int)), (l.getD (j - 1) nd0).key⟩ : PutM)])).flatMap cPut) (z := .agg #[.int .i64 0, .int .u64 0]) (size := 2) (bytes := 16) 2 [.int .i64 (nextS c ((j - 1 : Nat) : Int)), .int .u64 (soilI (linkI ((j : Nat) : Int) ((l.getD (j - 1) nd0).by_)))] hS o_127c ?_ (fun j u hj => (by rw [Nat.zero_add]; exact (hS.blk 0 rfl hg_150).cell hj)) (K.one_cells (by rfl)) (by rfl) Tryz.underlying36 (by kernel_rfl) rfl (by decide) (by unfold maxLen; omega) (by omega))
       clear hS; intro a_151 cap_152 w l_153 o_154 hS
       have ln_155 : ((((rowPs c head l ds j) ++ [(⟨(keyS c ((j - 1 : Nat) : Int)), (l.getD (j - 1) nd0).key⟩ : PutM)]) ++ [(⟨(nextS c ((j - 1 : Nat) : Int)), (soilI (linkI ((j : Nat) : Int) ((l.getD (j - 1) nd0).by_)))⟩ : PutM)])).length = (2 * j - 1) + 1 + 1 := by rw [List.length_append, ln_128]; rfl
       have o_154c := K.OwnG.cast (xs' := ((((rowPs c head l ds j) ++ [(⟨(keyS c ((j - 1 : Nat) : Int)), (l.getD (j - 1) nd0).key⟩ : PutM)]) ++ [(⟨(nextS c ((j - 1 : Nat) : Int)), (soilI (linkI ((j : Nat) : Int) ((l.getD (j - 1) nd0).by_)))⟩ : PutM)])).flatMap cPut) o_154 rfl (K.fl_snoc cPut ((rowPs c head l ds j) ++ [(⟨(keyS c ((j - 1 : Nat) : Int)), (l.getD (j - 1) nd0).key⟩ : PutM)]) _ rfl)
       replace hS : K.Sat w0 [g_149, g_122, l_153, g_129, g_5, g_2, gl, gd, fr] w := hS
       refine K.q [.pointer (some ⟨r_7, 4, none⟩)] ?_
       refine K.l (K.OW.gst 3 [.slice a_151 ((2 * j - 1) + 1 + 1) cap_152] _ hS hg_130 ?_)
       clear hS; intro w g_156 hg_157 hS
       replace hS : K.Sat w0 [g_149, g_122, l_153, g_156, g_5, g_2, gl, gd, fr] w := hS
       refine K.z ?_
       refine K.blk_normal ?_
       refine K.t (K.g (K.q [.int .i64 ((j : Nat) : Int)] ?_))
       refine K.a (K.QR.n64 ((((j : Nat) : Int) : Int) + (1 : Int)) ((j + 1 : Nat) : Int) (by kernel_rfl) (by omega)) ?_
       refine K.q [.int .i64 ((j + 1 : Nat) : Int)] (K.z (K.t ?_))
       have h0 : 0 < j := by omega
       have h1 : ¬ j = l.length := by omega
       have h2 : (j < ds.length ∧ ds.getD j false = true) := ⟨by omega, hb_135⟩
       have e_158 : rowPs c head l ds (j + 1) = (((rowPs c head l ds j) ++ [(⟨(keyS c ((j - 1 : Nat) : Int)), (l.getD (j - 1) nd0).key⟩ : PutM)]) ++ [(⟨(nextS c ((j - 1 : Nat) : Int)), (soilI (linkI ((j : Nat) : Int) ((l.getD (j - 1) nd0).by_)))⟩ : PutM)]) := by
        show rowPs c head l ds j ++ rowK c l j ++ [⟨rowAt c head j, rowW l ds j⟩] = _
        unfold rowK rowAt rowW rToW rowBy
        simp only [if_pos h0, if_neg h1, if_pos h2, List.append_nil]
       refine ⟨_, ?_, j + 1, a_151, cap_152, g_156, l_153, rfl, ⟨by rfl, by rfl, by rfl, by rfl, by rfl, by rfl, by rfl, by rfl, by rfl, trivial⟩, (by omega), (by rw [show 2 * (j + 1) - 1 = (2 * j - 1) + 1 + 1 by omega]; exact hg_157), (by rw [show 2 * (j + 1) - 1 = (2 * j - 1) + 1 + 1 by omega, e_158]; exact o_154c), hS.pick [2, 3, 4, 5, 6, 7, 8]⟩
       omega
     ·
      refine K.g (K.q [.int .i64 ((j : Nat) : Int), .slice a2 ds.length cap2] ?_)
      refine K.a (K.QR.len (P := Tryz.prog) rfl rfl Tryz.underlying26) ?_
      refine K.x ((((j : Nat) : Int) : Int) < (((ds.length : Nat) : Int) : Int)) h_132 ?_
      refine K.q [.bool false] (K.n_ (K.n_ (K.n_ (K.n_ (K.q [.bool false] (K.z (K.t (K.f (K.k (K.t (K.g (K.q [.pointer (some ⟨r_7, 4, none⟩)] ?_))))))))))))
      refine K.d (.slice a_124 ((2 * j - 1) + 1) cap_125) ((hS.blk 2 rfl hg_130).cell rfl) ?_
      refine K.q [.int .i64 (nextS c ((j - 1 : Nat) : Int)), .int .u64 (linkI ((j : Nat) : Int) ((l.getD (j - 1) nd0).by_))] ?_
      refine K.a (K.QR.bd [(0, .int .i64 (nextS c ((j - 1 : Nat) : Int))), (1, .int .u64 (linkI ((j : Nat) : Int) ((l.getD (j - 1) nd0).by_)))] [.int .i64 (nextS c ((j - 1 : Nat) : Int)), .int .u64 (linkI ((j : Nat) : Int) ((l.getD (j - 1) nd0).by_))] rfl rfl (by kernel_rfl)) ?_
      refine K.l (K.OW.gbs [(0, .agg #[.int .i64 (nextS c ((j - 1 : Nat) : Int)), .int .u64 (linkI ((j : Nat) : Int) ((l.getD (j - 1) nd0).by_))])] [.int .i64 (nextS c ((j - 1 : Nat) : Int)), .int .u64 (linkI ((j : Nat) : Int) ((l.getD (j - 1) nd0).by_))] hS (fun w => K.bs_run (P := Tryz.prog) w 36 117 1 _ _ Tryz.underlying36 (by kernel_rfl)) ?_)
      clear hS; intro w r_159 g_160 hg_161 hS
      refine K.l (K.OW.gapp (P := Tryz.prog) (xs := (((rowPs c head l ds j) ++ [(⟨(keyS c ((j - 1 : Nat) : Int)), (l.getD (j - 1) nd0).key⟩ : PutM)])).flatMap cPut) (z := .agg #[.int .i64 0, .int .u64 0]) (size := 2) (bytes := 16) 2 [.int .i64 (nextS c ((j - 1 : Nat) : Int)), .int .u64 (linkI ((j : Nat) : Int) ((l.getD (j - 1) nd0).by_))] hS o_127c ?_ (fun j u hj => (by rw [Nat.zero_add]; exact (hS.blk 0 rfl hg_161).cell hj)) (K.one_cells (by rfl)) (by rfl) Tryz.underlying36 (by kernel_rfl) rfl (by decide) (by unfold maxLen; omega) (by omega))
      clear hS; intro a_162 cap_163 w l_164 o_165 hS
      have ln_166 : ((((rowPs c head l ds j) ++ [(⟨(keyS c ((j - 1 : Nat) : Int)), (l.getD (j - 1) nd0).key⟩ : PutM)]) ++ [(⟨(nextS c ((j - 1 : Nat) : Int)), (linkI ((j : Nat) : Int) ((l.getD (j - 1) nd0).by_))⟩ : PutM)])).length = (2 * j - 1) + 1 + 1 := by rw [List.length_append, ln_128]; rfl
      have o_165c := K.OwnG.cast (xs' := ((((rowPs c head l ds j) ++ [(⟨(keyS c ((j - 1 : Nat) : Int)), (l.getD (j - 1) nd0).key⟩ : PutM)]) ++ [(⟨(nextS c ((j - 1 : Nat) : Int)), (linkI ((j : Nat) : Int) ((l.getD (j - 1) nd0).by_))⟩ : PutM)])).flatMap cPut) o_165 rfl (K.fl_snoc cPut ((rowPs c head l ds j) ++ [(⟨(keyS c ((j - 1 : Nat) : Int)), (l.getD (j - 1) nd0).key⟩ : PutM)]) _ rfl)
      replace hS : K.Sat w0 [g_160, g_122, l_164, g_129, g_5, g_2, gl, gd, fr] w := hS
      refine K.q [.pointer (some ⟨r_7, 4, none⟩)] ?_
      refine K.l (K.OW.gst 3 [.slice a_162 ((2 * j - 1) + 1 + 1) cap_163] _ hS hg_130 ?_)
      clear hS; intro w g_167 hg_168 hS
      replace hS : K.Sat w0 [g_160, g_122, l_164, g_167, g_5, g_2, gl, gd, fr] w := hS
      refine K.z ?_
      refine K.blk_normal ?_
      refine K.t (K.g (K.q [.int .i64 ((j : Nat) : Int)] ?_))
      refine K.a (K.QR.n64 ((((j : Nat) : Int) : Int) + (1 : Int)) ((j + 1 : Nat) : Int) (by kernel_rfl) (by omega)) ?_
      refine K.q [.int .i64 ((j + 1 : Nat) : Int)] (K.z (K.t ?_))
      have h0 : 0 < j := by omega
      have h1 : ¬ j = l.length := by omega
      have h2 : ¬ (j < ds.length ∧ ds.getD j false = true) := fun h => absurd h.1 (by omega)
      have e_169 : rowPs c head l ds (j + 1) = (((rowPs c head l ds j) ++ [(⟨(keyS c ((j - 1 : Nat) : Int)), (l.getD (j - 1) nd0).key⟩ : PutM)]) ++ [(⟨(nextS c ((j - 1 : Nat) : Int)), (linkI ((j : Nat) : Int) ((l.getD (j - 1) nd0).by_))⟩ : PutM)]) := by
       show rowPs c head l ds j ++ rowK c l j ++ [⟨rowAt c head j, rowW l ds j⟩] = _
       unfold rowK rowAt rowW rToW rowBy
       simp only [if_pos h0, if_neg h1, if_neg h2, List.append_nil]
      refine ⟨_, ?_, j + 1, a_162, cap_163, g_167, l_164, rfl, ⟨by rfl, by rfl, by rfl, by rfl, by rfl, by rfl, by rfl, by rfl, by rfl, trivial⟩, (by omega), (by rw [show 2 * (j + 1) - 1 = (2 * j - 1) + 1 + 1 by omega]; exact hg_168), (by rw [show 2 * (j + 1) - 1 = (2 * j - 1) + 1 + 1 by omega, e_169]; exact o_165c), hS.pick [2, 3, 4, 5, 6, 7, 8]⟩
      omega
    ·
     refine K.x ((((j : Nat) : Int) : Int) > (0 : Int)) h_116 ?_
     refine K.z (K.t (K.f (K.k (K.t (K.s (K.g (K.q [.int .i64 ((j : Nat) : Int), .int .i64 (-1)] ?_)))))))
     refine K.l (K.OW.gcall hS [] [0, 1, 2, 3, 4, 5, 6] [.int .i64 ((j : Nat) : Int), .int .i64 (-1)] (link_ok _ ((j : Nat) : Int) ((-1) : Int) (by omega) (by omega)) ?_)
     clear hS; rintro _ _ w ⟨rfl, rfl⟩ hS
     replace hS : K.Sat w0 [o1, b9, g_5, g_2, gl, gd, fr] w := hS
     have hw_170 : isW (linkI ((j : Nat) : Int) ((-1) : Int)) := linkI_w _ _
     refine K.q [.int .u64 (linkI ((j : Nat) : Int) ((-1) : Int))] (K.z (K.t (K.s (K.s ?_))))
     by_cases h_171 : (((j : Nat) : Int) : Int) < (((ds.length : Nat) : Int) : Int)
     ·
      obtain ⟨b_172, of_173, rfl, _⟩ := (hgd _ (hS.pick [5])).at_ (by omega)
      refine K.g (K.q [.int .i64 ((j : Nat) : Int), .slice (some ⟨b_172, of_173, none⟩) ds.length cap2] ?_)
      refine K.a (K.QR.len (P := Tryz.prog) rfl rfl Tryz.underlying26) ?_
      refine K.y ((((j : Nat) : Int) : Int) < (((ds.length : Nat) : Int) : Int)) h_171 ?_
      refine K.q [.bool true, .slice (some ⟨b_172, of_173, none⟩) ds.length cap2, .int .i64 ((j : Nat) : Int)] ?_
      refine K.a (K.QR.ix (of_173 + j * 1) 1 rfl rfl rfl Tryz.underlying26 (by kernel_rfl) (by omega) (by first | (simp; done) | omega | (simp; omega))) ?_
      refine K.d (.bool (ds.getD j false)) ((hgd _ (hS.pick [5])).ld j (by omega) 0 _ rfl) ?_
      cases hb_174 : ds.getD j false
      ·
       refine K.q [.bool false] (K.z (K.t (K.f (K.k (K.t (K.g (K.q [.pointer (some ⟨r_7, 4, none⟩)] ?_)))))))
       refine K.d (.slice q1 (2 * j - 1) c1) ((hS.blk 1 rfl x_19).cell rfl) ?_
       refine K.q [.int .i64 head, .int .u64 (linkI ((j : Nat) : Int) ((-1) : Int))] ?_
       refine K.a (K.QR.bd [(0, .int .i64 head), (1, .int .u64 (linkI ((j : Nat) : Int) ((-1) : Int)))] [.int .i64 head, .int .u64 (linkI ((j : Nat) : Int) ((-1) : Int))] rfl rfl (by kernel_rfl)) ?_
       refine K.l (K.OW.gbs [(0, .agg #[.int .i64 head, .int .u64 (linkI ((j : Nat) : Int) ((-1) : Int))])] [.int .i64 head, .int .u64 (linkI ((j : Nat) : Int) ((-1) : Int))] hS (fun w => K.bs_run (P := Tryz.prog) w 36 117 1 _ _ Tryz.underlying36 (by kernel_rfl)) ?_)
       clear hS; intro w r_175 g_176 hg_177 hS
       refine K.l (K.OW.gapp (P := Tryz.prog) (xs := ((rowPs c head l ds j)).flatMap cPut) (z := .agg #[.int .i64 0, .int .u64 0]) (size := 2) (bytes := 16) 1 [.int .i64 head, .int .u64 (linkI ((j : Nat) : Int) ((-1) : Int))] hS x_20 ?_ (fun j u hj => (by rw [Nat.zero_add]; exact (hS.blk 0 rfl hg_177).cell hj)) (K.one_cells (by rfl)) (by rfl) Tryz.underlying36 (by kernel_rfl) rfl (by decide) (by unfold maxLen; omega) (by omega))
       clear hS; intro a_178 cap_179 w l_180 o_181 hS
       have ln_182 : (((rowPs c head l ds j) ++ [(⟨head, (linkI ((j : Nat) : Int) ((-1) : Int))⟩ : PutM)])).length = (2 * j - 1) + 1 := by rw [List.length_append, (rowPs_len c head l ds j)]; rfl
       have o_181c := K.OwnG.cast (xs' := (((rowPs c head l ds j) ++ [(⟨head, (linkI ((j : Nat) : Int) ((-1) : Int))⟩ : PutM)])).flatMap cPut) o_181 rfl (K.fl_snoc cPut (rowPs c head l ds j) _ rfl)
       replace hS : K.Sat w0 [g_176, l_180, b9, g_5, g_2, gl, gd, fr] w := hS
       refine K.q [.pointer (some ⟨r_7, 4, none⟩)] ?_
       refine K.l (K.OW.gst 2 [.slice a_178 ((2 * j - 1) + 1) cap_179] _ hS x_19 ?_)
       clear hS; intro w g_183 hg_184 hS
       replace hS : K.Sat w0 [g_176, l_180, g_183, g_5, g_2, gl, gd, fr] w := hS
       refine K.z ?_
       refine K.blk_normal ?_
       refine K.t (K.g (K.q [.int .i64 ((j : Nat) : Int)] ?_))
       refine K.a (K.QR.n64 ((((j : Nat) : Int) : Int) + (1 : Int)) ((j + 1 : Nat) : Int) (by kernel_rfl) (by omega)) ?_
       refine K.q [.int .i64 ((j + 1 : Nat) : Int)] (K.z (K.t ?_))
       have h0 : ¬ 0 < j := by omega
       have h1 : ¬ j = l.length := by omega
       have h2 : ¬ (j < ds.length ∧ ds.getD j false = true) := fun h => by rw [hb_174] at h; exact absurd h.2 (by decide)
       have e_185 : rowPs c head l ds (j + 1) = ((rowPs c head l ds j) ++ [(⟨head, (linkI ((j : Nat) : Int) ((-1) : Int))⟩ : PutM)]) := by
        show rowPs c head l ds j ++ rowK c l j ++ [⟨rowAt c head j, rowW l ds j⟩] = _
        unfold rowK rowAt rowW rToW rowBy
        simp only [if_neg h0, if_neg h1, if_neg h2, List.append_nil]
       refine ⟨_, ?_, j + 1, a_178, cap_179, g_183, l_180, rfl, ⟨by rfl, by rfl, by rfl, by rfl, by rfl, by rfl, by rfl, by rfl, by rfl, trivial⟩, (by omega), (by rw [show 2 * (j + 1) - 1 = (2 * j - 1) + 1 by omega]; exact hg_184), (by rw [show 2 * (j + 1) - 1 = (2 * j - 1) + 1 by omega, e_185]; exact o_181c), hS.pick [1, 2, 3, 4, 5, 6, 7]⟩
       omega
      ·
       refine K.q [.bool true] (K.z (K.t (K.h (K.g (K.q [.int .u64 (linkI ((j : Nat) : Int) ((-1) : Int))] ?_)))))
       refine K.l (K.OW.gcall hS [] [0, 1, 2, 3, 4, 5, 6] [.int .u64 (linkI ((j : Nat) : Int) ((-1) : Int))] (soil_ok _ (linkI ((j : Nat) : Int) ((-1) : Int)) (by first | assumption | exact isL.w (by assumption) | exact soilI_w _ | (unfold isW; omega))) ?_)
       clear hS; rintro _ _ w ⟨rfl, rfl⟩ hS
       replace hS : K.Sat w0 [o1, b9, g_5, g_2, gl, gd, fr] w := hS
       have hw_186 : isW (soilI (linkI ((j : Nat) : Int) ((-1) : Int))) := soilI_w _
       refine K.q [.int .u64 (soilI (linkI ((j : Nat) : Int) ((-1) : Int)))] (K.z (K.t (K.g (K.q [.pointer (some ⟨r_7, 4, none⟩)] ?_))))
       refine K.d (.slice q1 (2 * j - 1) c1) ((hS.blk 1 rfl x_19).cell rfl) ?_
       refine K.q [.int .i64 head, .int .u64 (soilI (linkI ((j : Nat) : Int) ((-1) : Int)))] ?_
       refine K.a (K.QR.bd [(0, .int .i64 head), (1, .int .u64 (soilI (linkI ((j : Nat) : Int) ((-1) : Int))))] [.int .i64 head, .int .u64 (soilI (linkI ((j : Nat) : Int) ((-1) : Int)))] rfl rfl (by kernel_rfl)) ?_
       refine K.l (K.OW.gbs [(0, .agg #[.int .i64 head, .int .u64 (soilI (linkI ((j : Nat) : Int) ((-1) : Int)))])] [.int .i64 head, .int .u64 (soilI (linkI ((j : Nat) : Int) ((-1) : Int)))] hS (fun w => K.bs_run (P := Tryz.prog) w 36 117 1 _ _ Tryz.underlying36 (by kernel_rfl)) ?_)
       clear hS; intro w r_187 g_188 hg_189 hS
       refine K.l (K.OW.gapp (P := Tryz.prog) (xs := ((rowPs c head l ds j)).flatMap cPut) (z := .agg #[.int .i64 0, .int .u64 0]) (size := 2) (bytes := 16) 1 [.int .i64 head, .int .u64 (soilI (linkI ((j : Nat) : Int) ((-1) : Int)))] hS x_20 ?_ (fun j u hj => (by rw [Nat.zero_add]; exact (hS.blk 0 rfl hg_189).cell hj)) (K.one_cells (by rfl)) (by rfl) Tryz.underlying36 (by kernel_rfl) rfl (by decide) (by unfold maxLen; omega) (by omega))
       clear hS; intro a_190 cap_191 w l_192 o_193 hS
       have ln_194 : (((rowPs c head l ds j) ++ [(⟨head, (soilI (linkI ((j : Nat) : Int) ((-1) : Int)))⟩ : PutM)])).length = (2 * j - 1) + 1 := by rw [List.length_append, (rowPs_len c head l ds j)]; rfl
       have o_193c := K.OwnG.cast (xs' := (((rowPs c head l ds j) ++ [(⟨head, (soilI (linkI ((j : Nat) : Int) ((-1) : Int)))⟩ : PutM)])).flatMap cPut) o_193 rfl (K.fl_snoc cPut (rowPs c head l ds j) _ rfl)
       replace hS : K.Sat w0 [g_188, l_192, b9, g_5, g_2, gl, gd, fr] w := hS
       refine K.q [.pointer (some ⟨r_7, 4, none⟩)] ?_
       refine K.l (K.OW.gst 2 [.slice a_190 ((2 * j - 1) + 1) cap_191] _ hS x_19 ?_)
       clear hS; intro w g_195 hg_196 hS
       replace hS : K.Sat w0 [g_188, l_192, g_195, g_5, g_2, gl, gd, fr] w := hS
       refine K.z ?_
       refine K.blk_normal ?_
       refine K.t (K.g (K.q [.int .i64 ((j : Nat) : Int)] ?_))
       refine K.a (K.QR.n64 ((((j : Nat) : Int) : Int) + (1 : Int)) ((j + 1 : Nat) : Int) (by kernel_rfl) (by omega)) ?_
       refine K.q [.int .i64 ((j + 1 : Nat) : Int)] (K.z (K.t ?_))
       have h0 : ¬ 0 < j := by omega
       have h1 : ¬ j = l.length := by omega
       have h2 : (j < ds.length ∧ ds.getD j false = true) := ⟨by omega, hb_174⟩
       have e_197 : rowPs c head l ds (j + 1) = ((rowPs c head l ds j) ++ [(⟨head, (soilI (linkI ((j : Nat) : Int) ((-1) : Int)))⟩ : PutM)]) := by
        show rowPs c head l ds j ++ rowK c l j ++ [⟨rowAt c head j, rowW l ds j⟩] = _
        unfold rowK rowAt rowW rToW rowBy
        simp only [if_neg h0, if_neg h1, if_pos h2, List.append_nil]
       refine ⟨_, ?_, j + 1, a_190, cap_191, g_195, l_192, rfl, ⟨by rfl, by rfl, by rfl, by rfl, by rfl, by rfl, by rfl, by rfl, by rfl, trivial⟩, (by omega), (by rw [show 2 * (j + 1) - 1 = (2 * j - 1) + 1 by omega]; exact hg_196), (by rw [show 2 * (j + 1) - 1 = (2 * j - 1) + 1 by omega, e_197]; exact o_193c), hS.pick [1, 2, 3, 4, 5, 6, 7]⟩
       omega
     ·
      refine K.g (K.q [.int .i64 ((j : Nat) : Int), .slice a2 ds.length cap2] ?_)
      refine K.a (K.QR.len (P := Tryz.prog) rfl rfl Tryz.underlying26) ?_
      refine K.x ((((j : Nat) : Int) : Int) < (((ds.length : Nat) : Int) : Int)) h_171 ?_
      refine K.q [.bool false] (K.n_ (K.n_ (K.n_ (K.n_ (K.q [.bool false] (K.z (K.t (K.f (K.k (K.t (K.g (K.q [.pointer (some ⟨r_7, 4, none⟩)] ?_))))))))))))
      refine K.d (.slice q1 (2 * j - 1) c1) ((hS.blk 1 rfl x_19).cell rfl) ?_
      refine K.q [.int .i64 head, .int .u64 (linkI ((j : Nat) : Int) ((-1) : Int))] ?_
      refine K.a (K.QR.bd [(0, .int .i64 head), (1, .int .u64 (linkI ((j : Nat) : Int) ((-1) : Int)))] [.int .i64 head, .int .u64 (linkI ((j : Nat) : Int) ((-1) : Int))] rfl rfl (by kernel_rfl)) ?_
      refine K.l (K.OW.gbs [(0, .agg #[.int .i64 head, .int .u64 (linkI ((j : Nat) : Int) ((-1) : Int))])] [.int .i64 head, .int .u64 (linkI ((j : Nat) : Int) ((-1) : Int))] hS (fun w => K.bs_run (P := Tryz.prog) w 36 117 1 _ _ Tryz.underlying36 (by kernel_rfl)) ?_)
      clear hS; intro w r_198 g_199 hg_200 hS
      refine K.l (K.OW.gapp (P := Tryz.prog) (xs := ((rowPs c head l ds j)).flatMap cPut) (z := .agg #[.int .i64 0, .int .u64 0]) (size := 2) (bytes := 16) 1 [.int .i64 head, .int .u64 (linkI ((j : Nat) : Int) ((-1) : Int))] hS x_20 ?_ (fun j u hj => (by rw [Nat.zero_add]; exact (hS.blk 0 rfl hg_200).cell hj)) (K.one_cells (by rfl)) (by rfl) Tryz.underlying36 (by kernel_rfl) rfl (by decide) (by unfold maxLen; omega) (by omega))
      clear hS; intro a_201 cap_202 w l_203 o_204 hS
      have ln_205 : (((rowPs c head l ds j) ++ [(⟨head, (linkI ((j : Nat) : Int) ((-1) : Int))⟩ : PutM)])).length = (2 * j - 1) + 1 := by rw [List.length_append, (rowPs_len c head l ds j)]; rfl
      have o_204c := K.OwnG.cast (xs' := (((rowPs c head l ds j) ++ [(⟨head, (linkI ((j : Nat) : Int) ((-1) : Int))⟩ : PutM)])).flatMap cPut) o_204 rfl (K.fl_snoc cPut (rowPs c head l ds j) _ rfl)
      replace hS : K.Sat w0 [g_199, l_203, b9, g_5, g_2, gl, gd, fr] w := hS
      refine K.q [.pointer (some ⟨r_7, 4, none⟩)] ?_
      refine K.l (K.OW.gst 2 [.slice a_201 ((2 * j - 1) + 1) cap_202] _ hS x_19 ?_)
      clear hS; intro w g_206 hg_207 hS
      replace hS : K.Sat w0 [g_199, l_203, g_206, g_5, g_2, gl, gd, fr] w := hS
      refine K.z ?_
      refine K.blk_normal ?_
      refine K.t (K.g (K.q [.int .i64 ((j : Nat) : Int)] ?_))
      refine K.a (K.QR.n64 ((((j : Nat) : Int) : Int) + (1 : Int)) ((j + 1 : Nat) : Int) (by kernel_rfl) (by omega)) ?_
      refine K.q [.int .i64 ((j + 1 : Nat) : Int)] (K.z (K.t ?_))
      have h0 : ¬ 0 < j := by omega
      have h1 : ¬ j = l.length := by omega
      have h2 : ¬ (j < ds.length ∧ ds.getD j false = true) := fun h => absurd h.1 (by omega)
      have e_208 : rowPs c head l ds (j + 1) = ((rowPs c head l ds j) ++ [(⟨head, (linkI ((j : Nat) : Int) ((-1) : Int))⟩ : PutM)]) := by
       show rowPs c head l ds j ++ rowK c l j ++ [⟨rowAt c head j, rowW l ds j⟩] = _
       unfold rowK rowAt rowW rToW rowBy
       simp only [if_neg h0, if_neg h1, if_neg h2, List.append_nil]
      refine ⟨_, ?_, j + 1, a_201, cap_202, g_206, l_203, rfl, ⟨by rfl, by rfl, by rfl, by rfl, by rfl, by rfl, by rfl, by rfl, by rfl, trivial⟩, (by omega), (by rw [show 2 * (j + 1) - 1 = (2 * j - 1) + 1 by omega]; exact hg_207), (by rw [show 2 * (j + 1) - 1 = (2 * j - 1) + 1 by omega, e_208]; exact o_204c), hS.pick [1, 2, 3, 4, 5, 6, 7]⟩
      omega
  ·
   refine K.x ((((j : Nat) : Int) : Int) ≤ (((l.length : Nat) : Int) : Int)) h_21 ?_
   refine K.z (K.t (K.f ?_))
   refine K.KW.exit ?_
   refine K.thn_exit ?_
   refine K.thn_exit ?_
   refine K.blk_hit ?_
   refine K.t (K.s (K.g ?_))
   refine K.a (K.QR.ldN [.int .i64 c.th, .int .i64 c.sl, .int .i64 c.lo, .int .i64 c.bu, .slice q1 (2 * j - 1) c1] rfl rfl (by kernel_rfl) (by kernel_rfl) (K.cells (K.cl ((hS.blk 1 rfl x_19).cell rfl) (K.cl ((hS.blk 1 rfl x_19).cell rfl) (K.cl ((hS.blk 1 rfl x_19).cell rfl) (K.cl ((hS.blk 1 rfl x_19).cell rfl) (K.cl ((hS.blk 1 rfl x_19).cell rfl) K.cl0))))))) ?_
   refine K.l (K.OW.gst 2 [.int .i64 c.th, .int .i64 c.sl, .int .i64 c.lo, .int .i64 c.bu, .slice q1 (2 * j - 1) c1] _ hS hg_6 ?_)
   clear hS; intro w g_209 hg_210 hS
   replace hS : K.Sat w0 [o1, b9, g_209, g_2, gl, gd, fr] w := hS
   refine K.z (K.t (K.r ?_))
   have ej : j = l.length + 1 := by omega
   have el := rowPs_len c head l ds j
   rw [ej] at el
   refine ⟨.inr rfl, rfl, (.agg #[.int .i64 c.th, .int .i64 c.sl, .int .i64 c.lo, .int .i64 c.bu, .slice q1 (2 * j - 1) c1]), K.resAt (rs := [.cell 8 38]) [.agg #[.int .i64 c.th, .int .i64 c.sl, .int .i64 c.lo, .int .i64 c.bu, .slice q1 (2 * j - 1) c1]] rfl ⟨⟨_, rfl, K.lvN [.int .i64 c.th, .int .i64 c.sl, .int .i64 c.lo, .int .i64 c.bu, .slice q1 (2 * j - 1) c1] (by kernel_rfl) (by kernel_rfl) (K.cells (K.cl ((hS.blk 2 rfl hg_210).cell rfl) (K.cl ((hS.blk 2 rfl hg_210).cell rfl) (K.cl ((hS.blk 2 rfl hg_210).cell rfl) (K.cl ((hS.blk 2 rfl hg_210).cell rfl) (K.cl ((hS.blk 2 rfl hg_210).cell rfl) K.cl0))))))⟩, trivial⟩, [gl, gd, o1], ?_, hS.pick [4, 5, 0, 6]⟩
   exact ⟨q1, c1, _, by rw [el, ← ej], rfl, by rw [el, ← ej]; exact x_20⟩
def skIt (c : Cfg) (n nt : Nat) (S : SkS) (M : MemM) : Nat → SkS × MemM
 | 0 => (S, M)
 | i + 1 => skStep c n nt (skIt c n nt S M i).1 (skIt c n nt S M i).2
structure SkG (S : SkS) : Prop where
 good : S.good
 sw : isInt S.se.when_
theorem skStep_sw {c : Cfg} {n nt : Nat} {S : SkS} {M : MemM} (h : isInt S.se.when_) : isInt (skStep c n nt S M).1.se.when_ := by
 have hb : ∀ S : SkS, (skBegin S).se = S.se := fun _ => rfl
 have ho : ∀ (S : SkS) (w ca : Int), (skOn c S w ca).se = S.se := fun S w ca => by unfold skOn; split <;> rfl
 unfold skStep
 split
 ·exact h
 split
 ·unfold skFirst
  split
  ·split
   ·rw [ho]; exact h
   ·exact h
  ·exact h
 split
 ·unfold skLinked
  split
  ·split
   ·exact h
   ·show isInt (-1); omega
  ·exact h
 split
 ·unfold skUnl
  split
  ·split
   ·rw [ho]; exact seStep_when h
   ·exact seStep_when h
  ·exact seStep_when h
 ·unfold skKeyed
  split
  ·rw [ho]; exact h
  split
  ·exact h
  ·exact h
theorem SkG.step {c : Cfg} (hc : cfgOk c) {n nt : Nat} {S : SkS} {M : MemM} (h : SkG S) (hM : M.good) : SkG (skStep c n nt S M).1 ∧ (skStep c n nt S M).2.good := by
 obtain ⟨h1, h2⟩ := skStep_good hc (n := n) (nt := nt) h.good hM (seStep_when h.sw)
 exact ⟨⟨h1, skStep_sw h.sw⟩, h2⟩
theorem skInitG {t h k : Int} (ht : isInt t) (hh : isInt h) (hk : 0 ≤ k ∧ k ≤ 4294967295) : SkG ⟨t, h, k, 1, false, false, h, 0, 0, 0, 0, 0, ⟨t, h, 0, 0, -1⟩, ⟨0, 0, 0, 0, -1, 0, false, 0⟩⟩ := ⟨skInit ht hh hk, by show isInt (-1); omega⟩
theorem skIt_good {c : Cfg} (hc : cfgOk c) {n nt : Nat} {S : SkS} {M : MemM} (h : SkG S) (hM : M.good) : ∀ i, SkG (skIt c n nt S M i).1 ∧ (skIt c n nt S M i).2.good
 | 0 => ⟨h, hM⟩
 | i + 1 => (skIt_good hc h hM i).1.step hc (skIt_good hc h hM i).2
theorem au_nodes : ∀ j, j < [(⟨4, -1⟩ : NodeM), (⟨7, -1⟩ : NodeM)].length → (0 ≤ ([(⟨4, -1⟩ : NodeM), (⟨7, -1⟩ : NodeM)].getD j nd0).key ∧ ([(⟨4, -1⟩ : NodeM), (⟨7, -1⟩ : NodeM)].getD j nd0).key ≤ 4294967295) ∧ isInt ([(⟨4, -1⟩ : NodeM), (⟨7, -1⟩ : NodeM)].getD j nd0).by_ := fun j hj => by
 have h : j = 0 ∨ j = 1 := by simp at hj; omega
 rcases h with rfl | rfl
 ·exact ⟨by decide, by decide⟩
 ·exact ⟨by decide, by decide⟩
def auC : Cfg := ⟨1, 2, 1, 1⟩
def au0 : MemM := groundM (lns auC).toNat auC.th.toNat (2 + auC.th + auC.sl).toNat (rowPs auC 32 [(⟨4, -1⟩ : NodeM), (⟨7, -1⟩ : NodeM)] [] 3)
set_option maxHeartbeats 4000000 in
set_option maxRecDepth 100000 in
theorem awake14_ok (w0 : World)  :
  K.GC Tryz.prog w0 11 #[] [] (fun v post => v = .bool true ∧ post = []) := by
 have hcA : cfgOk ⟨1, 2, 1, 1⟩ := by unfold cfgOk; decide
 refine K.GC.mk (n := 56) Tryz.func11 rfl rfl [] rfl rfl ?_
 intro fr w hS
 replace hS : K.Sat w0 [fr] w := hS
 refine K.s (K.g (K.q [.bool false] (K.z (K.t (K.s (K.g ?_))))))
 refine K.a (K.QR.bd [(0, .int .i64 1), (1, .int .i64 2), (2, .int .i64 1), (3, .int .i64 1)] [.int .i64 1, .int .i64 2, .int .i64 1, .int .i64 1] rfl rfl (by kernel_rfl)) ?_
 refine K.l (K.OW.gnew 23 [.int .i64 0, .int .i64 0, .int .i64 0, .int .i64 0] hS ?_)
 clear hS; intro w r_1 g_2 hg_3 hS
 refine K.l (K.OW.gst 0 [.int .i64 1, .int .i64 2, .int .i64 1, .int .i64 1] _ hS hg_3 ?_)
 clear hS; intro w g_4 hg_5 hS
 replace hS : K.Sat w0 [g_4, fr] w := hS
 refine K.z (K.t (K.s (K.g ?_)))
 refine K.a (K.QR.ldN [.int .i64 1, .int .i64 2, .int .i64 1, .int .i64 1] rfl rfl (by kernel_rfl) (by kernel_rfl) (K.cells (K.cl ((hS.blk 0 rfl hg_5).cell rfl) (K.cl ((hS.blk 0 rfl hg_5).cell rfl) (K.cl ((hS.blk 0 rfl hg_5).cell rfl) (K.cl ((hS.blk 0 rfl hg_5).cell rfl) K.cl0)))))) ?_
 refine K.a (K.QR.bd [(0, .int .u32 4), (1, .int .i64 (-1))] [.int .u32 4, .int .i64 (-1)] rfl rfl (by kernel_rfl)) ?_
 refine K.a (K.QR.bd [(0, .int .u32 7), (1, .int .i64 (-1))] [.int .u32 7, .int .i64 (-1)] rfl rfl (by kernel_rfl)) ?_
 refine K.l (K.OW.gbs [(0, .agg #[.int .u32 4, .int .i64 (-1)]), (1, .agg #[.int .u32 7, .int .i64 (-1)])] [.int .u32 4, .int .i64 (-1), .int .u32 7, .int .i64 (-1)] hS (fun w => K.bs_run (P := Tryz.prog) w 24 46 2 _ _ Tryz.underlying24 (by kernel_rfl)) ?_)
 clear hS; intro w r_6 g_7 hg_8 hS
 refine K.l (K.OW.gcall hS [0, 53] [1, 2] [.agg #[.int .i64 1, .int .i64 2, .int .i64 1, .int .i64 1], .int .i64 32, .slice (some ⟨r_6, 0, none⟩) 2 2, .slice none 0 0] (row_ok _ (⟨1, 2, 1, 1⟩ : Cfg) (by first | assumption | (unfold cfgOk; decide)) (32 : Int) _ _ [(⟨4, (-1)⟩ : NodeM), (⟨7, (-1)⟩ : NodeM)] (by first | omega | decide) au_nodes _ _ ([] : List Bool) _ (fun w h => K.Blk.rowE (c := cNode) nd0 (L := [(⟨4, (-1)⟩ : NodeM), (⟨7, (-1)⟩ : NodeM)]) (h.blk 0 rfl hg_8) (fun _ => rfl) rfl) _ (fun _ _ => K.RowE.zero _ _ _ _)) ?_)
 clear hS; rintro _ _ w ⟨r_9, c_10, l_11, rfl, rfl, o_12⟩ hS
 replace hS : K.Sat w0 [g_7, l_11, g_4, fr] w := hS.of (by simp [K.pick, K.nth])
 refine K.l (K.OW.gcall hS [1] [0, 2, 3] [.agg #[.int .i64 1, .int .i64 2, .int .i64 1, .int .i64 1, .slice r_9 ((rowPs (⟨1, 2, 1, 1⟩ : Cfg) (32 : Int) [(⟨4, (-1)⟩ : NodeM), (⟨7, (-1)⟩ : NodeM)] ([] : List Bool) ([(⟨4, (-1)⟩ : NodeM), (⟨7, (-1)⟩ : NodeM)].length + 1)).length) c_10]] (layS_ok _ (⟨1, 2, 1, 1⟩ : Cfg) _ _ (rowPs (⟨1, 2, 1, 1⟩ : Cfg) (32 : Int) [(⟨4, (-1)⟩ : NodeM), (⟨7, (-1)⟩ : NodeM)] ([] : List Bool) ([(⟨4, (-1)⟩ : NodeM), (⟨7, (-1)⟩ : NodeM)].length + 1)) (fun j hj => (rowPs_good (by unfold cfgOk; decide) (by omega) (fun j hj => (au_nodes j hj).1) j hj).1) (⟨by unfold fewC cfgOk; decide, by decide⟩) _ (fun w h => K.RowE.len (K.Own.rowE pu0 (h.ownr 0 rfl o_12) rfl (fun _ => rfl)) rfl)) ?_)
 clear hS; rintro _ _ w ⟨b_13, p_14, q_15, r_16, u_17, _, _, gl_18, l_19, m_20, rfl, rfl, hl_21, x_22, y_23, rfl, rfl, hf_24, hp_25⟩ hS
 replace hS : K.Sat w0 [l_11, gl_18, l_19, m_20, g_7, g_4, fr] w := hS
 replace x_22 : MemAt l_19 p_14 q_15 ((lns (⟨1, 2, 1, 1⟩ : Cfg)).toNat) ((⟨1, 2, 1, 1⟩ : Cfg).th.toNat) au0 := x_22
 have hM0 : au0.good := ground_good (fun j hj => (rowPs_good (ds := []) (l := [(⟨4, -1⟩ : NodeM), (⟨7, -1⟩ : NodeM)]) (by unfold cfgOk; decide) (by omega) (fun j hj => (au_nodes j hj).1) j hj).2)
 refine K.q [.tuple #[.pointer (some ⟨b_13, 0, none⟩), .pointer (some ⟨p_14, 0, none⟩), .pointer (some ⟨r_16, 0, none⟩), .bool true], .pointer (some ⟨b_13, 0, none⟩), .pointer (some ⟨p_14, 0, none⟩), .pointer (some ⟨r_16, 0, none⟩), .bool true, .pointer (some ⟨b_13, 0, none⟩), .pointer (some ⟨p_14, 0, none⟩), .pointer (some ⟨r_16, 0, none⟩), .bool true] (K.z (K.t (K.s (K.g (K.q [.pointer (some ⟨b_13, 0, none⟩)] ?_)))))
 refine K.l (K.OW.gcall hS [] [0, 1, 2, 3, 4, 5, 6] [.pointer (some ⟨b_13, 0, none⟩), .int .i64 0, .int .i64 32, .int .u32 5] (newskE_ok _ b_13 (0 : Int) (32 : Int) (5 : Int) (by omega) (by omega)) ?_)
 clear hS; rintro _ _ w ⟨p_26, g_27, rfl, rfl, h_28⟩ hS
 replace hS : K.Sat w0 [g_27, l_11, gl_18, l_19, m_20, g_7, g_4, fr] w := hS
 refine K.q [.pointer (some ⟨p_26, 0, none⟩)] (K.z (K.t (K.s (K.s (K.g (K.q [.int .i64 0] (K.z (K.t ?_))))))))
 refine K.KW.block ?_
 refine K.KW.loop (fun m_ F_ w_ => ∃ (i : Nat) (g1i : K.Cs) (l1i : K.Cs), m_ = 20 - i ∧ K.Sl F_ [(0, .bool false), (2, .pointer (some ⟨b_13, 0, none⟩)), (3, .pointer (some ⟨p_14, 0, none⟩)), (5, .bool true), (6, .pointer (some ⟨p_26, 0, none⟩)), (7, .int .i64 ((i : Nat) : Int)), (56, undef)] ∧ i ≤ 20 ∧ SkEl p_26 b_13 ((skIt auC (lns auC).toNat auC.th.toNat ⟨0, 32, 5, 1, false, false, 32, 0, 0, 0, 0, 0, ⟨0, 32, 0, 0, -1⟩, ⟨0, 0, 0, 0, -1, 0, false, 0⟩⟩ au0 i).1) g1i ∧ MemAt l1i p_14 q_15 ((lns (⟨1, 2, 1, 1⟩ : Cfg)).toNat) ((⟨1, 2, 1, 1⟩ : Cfg).th.toNat) (skIt auC (lns auC).toNat auC.th.toNat ⟨0, 32, 5, 1, false, false, 32, 0, 0, 0, 0, 0, ⟨0, 32, 0, 0, -1⟩, ⟨0, 0, 0, 0, -1, 0, false, 0⟩⟩ au0 i).2 ∧ K.Sat w0 [g1i, l_11, gl_18, l1i, m_20, g_7, g_4, fr] w_) ((fun (i : Nat) => 20 - i) 0) ?_ ?_
 ·
  exact ⟨0, g_27, l_19, rfl, ⟨by rfl, by rfl, by rfl, by rfl, by rfl, by rfl, by rfl, trivial⟩, (by omega), h_28, x_22, hS.pick [0, 1, 2, 3, 4, 5, 6, 7]⟩
 ·
  clear hS
  intro m_29 F_30 w hI
  obtain ⟨i, g1i, l1i, rfl, sl_31, p_32, x_33, x_34, hS⟩ := hI
  rw [← K.Sl.puts sl_31]; clear sl_31
  obtain ⟨hSi, hMi⟩ := skIt_good (c := auC) (n := (lns auC).toNat) (nt := auC.th.toNat) (S := ⟨0, 32, 5, 1, false, false, 32, 0, 0, 0, 0, 0, ⟨0, 32, 0, 0, -1⟩, ⟨0, 0, 0, 0, -1, 0, false, 0⟩⟩) (M := au0) (by unfold cfgOk; decide) (skInitG (by omega) (by omega) (by omega)) hM0 i
  refine K.s (K.s (K.g (K.q [.int .i64 ((i : Nat) : Int)] ?_)))
  by_cases h_35 : (((i : Nat) : Int) : Int) < (20 : Int)
  ·
   refine K.y ((((i : Nat) : Int) : Int) < (20 : Int)) h_35 ?_
   refine K.z (K.t (K.h (K.k (K.t (K.s ?_)))))
   refine K.KW.block ?_
   refine K.g (K.q [.pointer (some ⟨p_26, 0, none⟩), .pointer (some ⟨p_14, 0, none⟩)] ?_)
   refine K.l (K.OW.gcall hS [0, 2, 3] [1, 4, 5, 6, 7] [.pointer (some ⟨p_26, 0, none⟩), .pointer (some ⟨p_14, 0, none⟩)] (skStep_ok _ _ _ _ _ _ _ (⟨1, 2, 1, 1⟩ : Cfg) (by first | assumption | (unfold cfgOk; decide)) ((skIt auC (lns auC).toNat auC.th.toNat ⟨0, 32, 5, 1, false, false, 32, 0, 0, 0, 0, 0, ⟨0, 32, 0, 0, -1⟩, ⟨0, 0, 0, 0, -1, 0, false, 0⟩⟩ au0 i).1) ((skIt auC (lns auC).toNat auC.th.toNat ⟨0, 32, 5, 1, false, false, 32, 0, 0, 0, 0, 0, ⟨0, 32, 0, 0, -1⟩, ⟨0, 0, 0, 0, -1, 0, false, 0⟩⟩ au0 i).2) _ _ _ x_33 hl_21 x_34 (by assumption) (SkG.good (by assumption))) ?_)
   clear hS; rintro _ _ w ⟨g_36, l_37, rfl, rfl, h_38, x_39⟩ hS
   replace hS : K.Sat w0 [g_36, gl_18, l_37, l_11, m_20, g_7, g_4, fr] w := hS
   obtain ⟨hS_40, hM_41⟩ := (SkG.step (by first | assumption | (unfold cfgOk; decide)) (by assumption) (by assumption) : SkG (skStep (⟨1, 2, 1, 1⟩ : Cfg) ((lns (⟨1, 2, 1, 1⟩ : Cfg)).toNat) ((⟨1, 2, 1, 1⟩ : Cfg).th.toNat) ((skIt auC (lns auC).toNat auC.th.toNat ⟨0, 32, 5, 1, false, false, 32, 0, 0, 0, 0, 0, ⟨0, 32, 0, 0, -1⟩, ⟨0, 0, 0, 0, -1, 0, false, 0⟩⟩ au0 i).1) ((skIt auC (lns auC).toNat auC.th.toNat ⟨0, 32, 5, 1, false, false, 32, 0, 0, 0, 0, 0, ⟨0, 32, 0, 0, -1⟩, ⟨0, 0, 0, 0, -1, 0, false, 0⟩⟩ au0 i).2)).1 ∧ (skStep (⟨1, 2, 1, 1⟩ : Cfg) ((lns (⟨1, 2, 1, 1⟩ : Cfg)).toNat) ((⟨1, 2, 1, 1⟩ : Cfg).th.toNat) ((skIt auC (lns auC).toNat auC.th.toNat ⟨0, 32, 5, 1, false, false, 32, 0, 0, 0, 0, 0, ⟨0, 32, 0, 0, -1⟩, ⟨0, 0, 0, 0, -1, 0, false, 0⟩⟩ au0 i).1) ((skIt auC (lns auC).toNat auC.th.toNat ⟨0, 32, 5, 1, false, false, 32, 0, 0, 0, 0, 0, ⟨0, 32, 0, 0, -1⟩, ⟨0, 0, 0, 0, -1, 0, false, 0⟩⟩ au0 i).2)).2.good)
   refine K.z ?_
   refine K.blk_normal ?_
   refine K.t (K.g (K.q [.int .i64 ((i : Nat) : Int)] ?_))
   refine K.a (K.QR.n64 ((((i : Nat) : Int) : Int) + (1 : Int)) ((i + 1 : Nat) : Int) (by kernel_rfl) (by omega)) ?_
   refine K.q [.int .i64 ((i + 1 : Nat) : Int)] (K.z (K.t ?_))
   refine ⟨_, ?_, i + 1, g_36, l_37, rfl, ⟨by rfl, by rfl, by rfl, by rfl, by rfl, by rfl, by rfl, trivial⟩, (by omega), h_38, x_39, hS.pick [0, 3, 1, 2, 4, 5, 6, 7]⟩
   omega
  ·
   refine K.x ((((i : Nat) : Int) : Int) < (20 : Int)) h_35 ?_
   refine K.z (K.t (K.f ?_))
   refine K.KW.exit ?_
   refine K.thn_exit ?_
   refine K.thn_exit ?_
   refine K.blk_hit ?_
   refine K.t (K.s ?_)
   obtain rfl : i = 20 := by omega
   refine K.g (K.q [.bool true, .bool true, .pointer (some ⟨p_26, 0, none⟩)] ?_)
   refine K.l (K.OW.gcall hS [0] [1, 2, 3, 4, 5, 6, 7] [.pointer (some ⟨p_26, 0, none⟩)] (skDoneE_ok _ _ _ ((skIt auC (lns auC).toNat auC.th.toNat ⟨0, 32, 5, 1, false, false, 32, 0, 0, 0, 0, 0, ⟨0, 32, 0, 0, -1⟩, ⟨0, 0, 0, 0, -1, 0, false, 0⟩⟩ au0 20).1) _ x_33) ?_)
   clear hS; rintro _ _ w ⟨rfl, rfl⟩ hS
   replace hS : K.Sat w0 [g1i, l_11, gl_18, l1i, m_20, g_7, g_4, fr] w := hS
   cases hb_42 : ((skIt auC (lns auC).toNat auC.th.toNat ⟨0, 32, 5, 1, false, false, 32, 0, 0, 0, 0, 0, ⟨0, 32, 0, 0, -1⟩, ⟨0, 0, 0, 0, -1, 0, false, 0⟩⟩ au0 20).1).done
   ·cases (hb_42.symm.trans (show ((skIt auC (lns auC).toNat auC.th.toNat ⟨0, 32, 5, 1, false, false, 32, 0, 0, 0, 0, 0, ⟨0, 32, 0, 0, -1⟩, ⟨0, 0, 0, 0, -1, 0, false, 0⟩⟩ au0 20).1).done = true from by kernel_rfl))
   ·
    refine K.q [.bool true, .bool true, .pointer (some ⟨p_26, 0, none⟩)] ?_
    refine K.l (K.OW.gcall hS [0] [1, 2, 3, 4, 5, 6, 7] [.pointer (some ⟨p_26, 0, none⟩)] (skFoundE_ok _ _ _ ((skIt auC (lns auC).toNat auC.th.toNat ⟨0, 32, 5, 1, false, false, 32, 0, 0, 0, 0, 0, ⟨0, 32, 0, 0, -1⟩, ⟨0, 0, 0, 0, -1, 0, false, 0⟩⟩ au0 20).1) _ x_33) ?_)
    clear hS; rintro _ _ w ⟨rfl, rfl⟩ hS
    replace hS : K.Sat w0 [g1i, l_11, gl_18, l1i, m_20, g_7, g_4, fr] w := hS
    cases hb_43 : (((skIt auC (lns auC).toNat auC.th.toNat ⟨0, 32, 5, 1, false, false, 32, 0, 0, 0, 0, 0, ⟨0, 32, 0, 0, -1⟩, ⟨0, 0, 0, 0, -1, 0, false, 0⟩⟩ au0 20).1).done && ((skIt auC (lns auC).toNat auC.th.toNat ⟨0, 32, 5, 1, false, false, 32, 0, 0, 0, 0, 0, ⟨0, 32, 0, 0, -1⟩, ⟨0, 0, 0, 0, -1, 0, false, 0⟩⟩ au0 20).1).found)
    ·
     refine K.q [.bool true, .bool true, .bool true, .pointer (some ⟨p_26, 0, none⟩)] ?_
     refine K.l (K.OW.gcall hS [0] [1, 2, 3, 4, 5, 6, 7] [.pointer (some ⟨p_26, 0, none⟩)] (skCurrE_ok _ _ _ ((skIt auC (lns auC).toNat auC.th.toNat ⟨0, 32, 5, 1, false, false, 32, 0, 0, 0, 0, 0, ⟨0, 32, 0, 0, -1⟩, ⟨0, 0, 0, 0, -1, 0, false, 0⟩⟩ au0 20).1) _ x_33) ?_)
     clear hS; rintro _ _ w ⟨rfl, rfl⟩ hS
     replace hS : K.Sat w0 [g1i, l_11, gl_18, l1i, m_20, g_7, g_4, fr] w := hS
     refine K.ye ((if ((skIt auC (lns auC).toNat auC.th.toNat ⟨0, 32, 5, 1, false, false, 32, 0, 0, 0, 0, 0, ⟨0, 32, 0, 0, -1⟩, ⟨0, 0, 0, 0, -1, 0, false, 0⟩⟩ au0 20).1).done = true then ((skIt auC (lns auC).toNat auC.th.toNat ⟨0, 32, 5, 1, false, false, 32, 0, 0, 0, 0, 0, ⟨0, 32, 0, 0, -1⟩, ⟨0, 0, 0, 0, -1, 0, false, 0⟩⟩ au0 20).1).curr else -1) : Int) (1 : Int) (by kernel_rfl) ?_
     refine K.q [.bool true, .bool true, .pointer (some ⟨p_26, 0, none⟩)] ?_
     refine K.l (K.OW.gcall hS [0] [1, 2, 3, 4, 5, 6, 7] [.pointer (some ⟨p_26, 0, none⟩)] (skPrevE_ok _ _ _ ((skIt auC (lns auC).toNat auC.th.toNat ⟨0, 32, 5, 1, false, false, 32, 0, 0, 0, 0, 0, ⟨0, 32, 0, 0, -1⟩, ⟨0, 0, 0, 0, -1, 0, false, 0⟩⟩ au0 20).1) _ x_33) ?_)
     clear hS; rintro _ _ w ⟨rfl, rfl⟩ hS
     replace hS : K.Sat w0 [g1i, l_11, gl_18, l1i, m_20, g_7, g_4, fr] w := hS
     refine K.q [.pointer (some ⟨b_13, 0, none⟩)] ?_
     refine K.l (K.OW.kcall hS [.pointer (some ⟨b_13, 0, none⟩), .int .i64 0] (lNext _ (⟨1, 2, 1, 1⟩ : Cfg) 0 _ (by assumption) (hS.blk 2 rfl hl_21)) ?_)
     rintro _ w ⟨rfl, c_44⟩
     replace hS := hS.no c_44
     have hi_45 : isInt (nextS (⟨1, 2, 1, 1⟩ : Cfg) (0 : Int)) := next_int (by assumption) _
     refine K.ye ((if ((skIt auC (lns auC).toNat auC.th.toNat ⟨0, 32, 5, 1, false, false, 32, 0, 0, 0, 0, 0, ⟨0, 32, 0, 0, -1⟩, ⟨0, 0, 0, 0, -1, 0, false, 0⟩⟩ au0 20).1).done = true then ((skIt auC (lns auC).toNat auC.th.toNat ⟨0, 32, 5, 1, false, false, 32, 0, 0, 0, 0, 0, ⟨0, 32, 0, 0, -1⟩, ⟨0, 0, 0, 0, -1, 0, false, 0⟩⟩ au0 20).1).prev else -1) : Int) ((nextS (⟨1, 2, 1, 1⟩ : Cfg) (0 : Int)) : Int) (by kernel_rfl) ?_
     refine K.q [.bool true, .bool true, .pointer (some ⟨p_26, 0, none⟩)] ?_
     refine K.l (K.OW.gcall hS [0] [1, 2, 3, 4, 5, 6, 7] [.pointer (some ⟨p_26, 0, none⟩)] (skWordE_ok _ _ _ ((skIt auC (lns auC).toNat auC.th.toNat ⟨0, 32, 5, 1, false, false, 32, 0, 0, 0, 0, 0, ⟨0, 32, 0, 0, -1⟩, ⟨0, 0, 0, 0, -1, 0, false, 0⟩⟩ au0 20).1) _ x_33) ?_)
     clear hS; rintro _ _ w ⟨rfl, rfl⟩ hS
     replace hS : K.Sat w0 [g1i, l_11, gl_18, l1i, m_20, g_7, g_4, fr] w := hS
     refine K.ye ((if ((skIt auC (lns auC).toNat auC.th.toNat ⟨0, 32, 5, 1, false, false, 32, 0, 0, 0, 0, 0, ⟨0, 32, 0, 0, -1⟩, ⟨0, 0, 0, 0, -1, 0, false, 0⟩⟩ au0 20).1).done = true then ((skIt auC (lns auC).toNat auC.th.toNat ⟨0, 32, 5, 1, false, false, 32, 0, 0, 0, 0, 0, ⟨0, 32, 0, 0, -1⟩, ⟨0, 0, 0, 0, -1, 0, false, 0⟩⟩ au0 20).1).word else 0) : Int) (2 : Int) (by kernel_rfl) ?_
     refine K.q [.bool true, .bool true] (K.z (K.t (K.r ?_)))
     refine ⟨.inr rfl, rfl, (.bool true), K.res1 rfl rfl, [], ?_, hS.pick [7]⟩
     exact ⟨rfl, rfl⟩
    ·cases (hb_43.symm.trans (show (((skIt auC (lns auC).toNat auC.th.toNat ⟨0, 32, 5, 1, false, false, 32, 0, 0, 0, 0, 0, ⟨0, 32, 0, 0, -1⟩, ⟨0, 0, 0, 0, -1, 0, false, 0⟩⟩ au0 20).1).done && ((skIt auC (lns auC).toNat auC.th.toNat ⟨0, 32, 5, 1, false, false, 32, 0, 0, 0, 0, 0, ⟨0, 32, 0, 0, -1⟩, ⟨0, 0, 0, 0, -1, 0, false, 0⟩⟩ au0 20).1).found) = false from by kernel_rfl))
end Go.Proofs.YtbfafebfkdbglaaGreat
