import Derived.Test.YtbfafebfkdbglaaGreatFfr
import Derived.Test.YtbfafebfkdbglaaGreatFlist
/- The free list: the code's and the document's. -/
namespace Go.Proofs.YtbfafebfkdbglaaGreat
open Go.RowKit
set_option linter.unusedVariables false
attribute [local irreducible] K.KW K.RW K.DW K.OW K.QR K.KC
section
variable {c : Cfg} {n : Nat} {M : MemM} {m : Nat} {o : List Int} {w : Int}
end
theorem toI_ge (w : Int) : -1 ≤ toI w := by unfold toI; omega
end Go.Proofs.YtbfafebfkdbglaaGreat

/- The document's free list. -/
namespace Go.Proofs.YtbfafebfkdbglaaGreat
open Go.RowKit
set_option linter.unusedVariables false
attribute [local irreducible] K.KW K.RW K.DW K.OW K.QR K.KC
set_option maxHeartbeats 1000000 in
set_option maxRecDepth 100000 in
theorem rto_ok (w0 : World) (x : Int) (hx : isW x) :
  K.GC Tryz.prog w0 126 #[.int .u64 x] [] (fun v post => v = K.iv (toI x) ∧ post = []) := by
 have hx2 := hx
 unfold isW at hx2
 refine K.GC.mk (n := 7) Tryz.func126 rfl rfl [.int .u64 x] rfl rfl ?_
 intro fr w hS
 replace hS : K.Sat w0 [fr] w := hS
 refine K.s (K.g (K.q [K.iv 0] (K.z (K.t (K.s (K.g (K.q [.int .u64 x] ?_)))))))
 refine K.a (K.QR.remu64 (x : Int) 4294967296 ((x : Int) % 4294967296) (by kernel_rfl) (by omega) (by omega)) ?_
 refine K.a (K.QR.nice (v := K.iv (IntKind.i64.wrap ((x : Int) % 4294967296))) (by kernel_rfl) (congrArg (Value.int .i64) (IntWalk.i64_in _ (by omega)))) ?_
 refine K.a (K.QR.n64 (((x : Int) % 4294967296 : Int) + ((-1) : Int)) (((x : Int) % 4294967296 : Int) + ((-1) : Int)) (by kernel_rfl) (by omega)) ?_
 refine K.q [K.iv (((x : Int) % 4294967296 : Int) + ((-1) : Int))] (K.z (K.t (K.r ?_)))
 refine ⟨.inr rfl, rfl, (K.iv (((x : Int) % 4294967296 : Int) + ((-1) : Int))), K.res1 rfl rfl, [], ?_, hS.pick [0]⟩
 exact ⟨congrArg (Value.int .i64) (by unfold toI; omega), rfl⟩
set_option maxHeartbeats 1000000 in
set_option maxRecDepth 100000 in
theorem rafter_ok (w0 : World) (c : Cfg) (hc : cfgOk c) (s : Int) :
  K.GC Tryz.prog w0 136 #[.agg #[K.iv c.th, K.iv c.sl, K.iv c.lo, K.iv c.bu], K.iv s] [] (fun v post => v = K.iv (aftS c s) ∧ post = []) := by
 refine K.GC.mk (n := 9) Tryz.func136 rfl rfl [.agg #[K.iv c.th, K.iv c.sl, K.iv c.lo, K.iv c.bu], K.iv s] rfl rfl ?_
 intro fr w hS
 replace hS : K.Sat w0 [fr] w := hS
 refine K.s (K.g ?_)
 refine K.l (K.OW.gnew 23 [K.iv c.th, K.iv c.sl, K.iv c.lo, K.iv c.bu] hS ?_)
 clear hS; intro w r_1 g_2 hg_3 hS
 refine K.q [K.iv 0] (K.z (K.t (K.s (K.g ?_))))
 refine K.a (K.QR.ldN [K.iv c.th, K.iv c.sl, K.iv c.lo, K.iv c.bu] rfl rfl (by kernel_rfl) (by kernel_rfl) (K.cells (K.cl ((hS.blk 0 rfl hg_3).cell rfl) (K.cl ((hS.blk 0 rfl hg_3).cell rfl) (K.cl ((hS.blk 0 rfl hg_3).cell rfl) (K.cl ((hS.blk 0 rfl hg_3).cell rfl) K.cl0)))))) ?_
 refine K.q [K.iv s] ?_
 refine K.a (K.QR.bd [(0, K.iv 17), (1, K.iv s)] [K.iv 17, K.iv s, K.iv 0] rfl rfl (by kernel_rfl)) ?_
 refine K.l (K.OW.gcall hS [] [0, 1] [.agg #[K.iv c.th, K.iv c.sl, K.iv c.lo, K.iv c.bu], .agg #[K.iv 17, K.iv s, K.iv 0]] (at_ok _ c (⟨17, s, 0⟩ : Nm) (by assumption)) ?_)
 clear hS; rintro _ _ w ⟨rfl, rfl⟩ hS
 replace hS : K.Sat w0 [g_2, fr] w := hS
 refine K.q [K.iv (atT (lasting c) (passing c) (⟨17, s, 0⟩ : Nm))] (K.z (K.t (K.r ?_)))
 refine ⟨.inr rfl, rfl, (K.iv (atT (lasting c) (passing c) (⟨17, s, 0⟩ : Nm))), K.res1 rfl rfl, [], ?_, hS.pick [1]⟩
 exact ⟨congrArg (Value.int .i64) (at_aft hc s), rfl⟩
end Go.Proofs.YtbfafebfkdbglaaGreat

/- Layer 9: what the statements call. -/
namespace Go.Proofs.YtbfafebfkdbglaaGreat
open Go.RowKit
set_option linter.unusedVariables false
attribute [local irreducible] K.KW K.RW K.DW K.OW K.QR K.KC
def numW (x : Int) : Int := IntKind.u64.wrap (IntKind.u64.wrap x + 1)
def atS (c : Cfg) (ss : List Int) (j : Nat) : Int := if j = 0 then -2 else aftS c (ss.getD (j - 1) 0)
/-- the words that make a free list of slots -/
def rowsTo (c : Cfg) (ss : List Int) (j : Nat) : List PutM := (List.range j).map fun i => ⟨atS c ss i, numW (ss.getD i 0)⟩
theorem rowsTo_succ (c : Cfg) (ss : List Int) (j : Nat) : rowsTo c ss (j + 1) = rowsTo c ss j ++ [⟨atS c ss j, numW (ss.getD j 0)⟩] := by unfold rowsTo; rw [List.range_succ, List.map_append]; rfl
theorem rowsTo_len (c : Cfg) (ss : List Int) (j : Nat) : (rowsTo c ss j).length = j := by simp [rowsTo]
theorem atS_succ (c : Cfg) (ss : List Int) (j : Nat) : aftS c (ss.getD j 0) = atS c ss (j + 1) := by unfold atS; rw [if_neg (by omega)]; rfl
theorem atS_int {c : Cfg} (hc : cfgOk c) (ss : List Int) (j : Nat) : isInt (atS c ss j) := by
 unfold atS
 split
 ·omega
 ·exact aft_int hc _
theorem numW_w (x : Int) : isW (numW x) := more_w x
theorem rows_get {c : Cfg} {ss : List Int} {k j : Nat} (h : j < k) : (rowsTo c ss k).getD j pu0 = ⟨atS c ss j, numW (ss.getD j 0)⟩ := by simp [rowsTo, h]
theorem rows_good {c : Cfg} (hc : cfgOk c) (ss : List Int) (k : Nat) : ∀ j, j < (rowsTo c ss k).length → isInt ((rowsTo c ss k).getD j pu0).at_ ∧ isW ((rowsTo c ss k).getD j pu0).w := fun j hj => by
 rw [rowsTo_len] at hj
 rw [rows_get hj]
 exact ⟨atS_int hc _ _, numW_w _⟩
theorem isW0 : isW 0 := by unfold isW; omega
theorem popInit {t : Int} (h : isInt t) : PopS.good ⟨t, 0, 0, 0, -1⟩ := ⟨h, isW0, isW0⟩
theorem put_pass {M : MemM} {i w : Int} : (M.put i w).pass.length = M.pass.length := by
 unfold MemM.put; split
 ·rfl
 ·exact List.length_set
theorem accS_pass {M : MemM} {n : Nat} {th i w : Int} : (M.accS n th i w).1.pass.length = M.pass.length := by
 show (MemM.count (if (M.peek n i).isSome then M.put i w else M) _ _).pass.length = _
 split
 ·exact put_pass
 ·rfl
theorem puts_pass {n : Nat} : ∀ {ps : List PutM} {M : MemM}, (putsT n M ps).pass.length = M.pass.length
 | [], _ => rfl
 | p :: ps, M => (puts_pass (ps := ps)).trans accS_pass
theorem ground_pass {n t k : Nat} {ps : List PutM} : (groundM n t k ps).pass.length = k := puts_pass.trans List.length_replicate
set_option maxHeartbeats 1000000 in
set_option maxRecDepth 100000 in
theorem rows_ok (w0 : World) (c : Cfg) (hc : cfgOk c) (a : Option Addr) (cap : Nat) (ss : List Int) (hm : ss.length ≤ 1000) (gx : K.Cs) (hx : ∀ w, K.Sat w0 [gx] w → K.RowE w a ss.length 1 (fun i => cI64 (ss.getD i 0))) :
  K.GC Tryz.prog w0 90 #[.agg #[K.iv c.th, K.iv c.sl, K.iv c.lo, K.iv c.bu], .slice a ss.length cap] [gx] (fun v post => ∃ r cc l2, v = .agg #[K.iv c.th, K.iv c.sl, K.iv c.lo, K.iv c.bu, .slice r (rowsTo c ss ss.length).length cc] ∧ post = [gx, l2] ∧ K.OwnG l2 117 2 r (rowsTo c ss ss.length).length cc ((rowsTo c ss ss.length).flatMap cPut)) := by
 refine K.GC.mk (n := 36) Tryz.func90 rfl rfl [.agg #[K.iv c.th, K.iv c.sl, K.iv c.lo, K.iv c.bu], .slice a ss.length cap] rfl rfl ?_
 intro fr w hS
 replace hS : K.Sat w0 [gx, fr] w := hS
 refine K.s (K.g ?_)
 refine K.l (K.OW.gnew 23 [K.iv c.th, K.iv c.sl, K.iv c.lo, K.iv c.bu] hS ?_)
 clear hS; intro w r_1 g_2 hg_3 hS
 refine K.l (K.OW.gnew 38 [K.iv 0, K.iv 0, K.iv 0, K.iv 0, .slice none 0 0] hS ?_)
 clear hS; intro w r_4 g_5 hg_6 hS
 refine K.z (K.t (K.s (K.g ?_)))
 refine K.a (K.QR.ldN [K.iv c.th, K.iv c.sl, K.iv c.lo, K.iv c.bu] rfl rfl (by kernel_rfl) (by kernel_rfl) (K.cells (K.cl ((hS.blk 1 rfl hg_3).cell rfl) (K.cl ((hS.blk 1 rfl hg_3).cell rfl) (K.cl ((hS.blk 1 rfl hg_3).cell rfl) (K.cl ((hS.blk 1 rfl hg_3).cell rfl) K.cl0)))))) ?_
 refine K.a (K.QR.bd [(0, .agg #[K.iv c.th, K.iv c.sl, K.iv c.lo, K.iv c.bu])] [K.iv c.th, K.iv c.sl, K.iv c.lo, K.iv c.bu, .slice none 0 0] rfl rfl (by kernel_rfl)) ?_
 refine K.l (K.OW.gnew 38 [K.iv 0, K.iv 0, K.iv 0, K.iv 0, .slice none 0 0] hS ?_)
 clear hS; intro w r_7 g_8 hg_9 hS
 refine K.l (K.OW.gst 0 [K.iv c.th, K.iv c.sl, K.iv c.lo, K.iv c.bu, .slice none 0 0] _ hS hg_9 ?_)
 clear hS; intro w g_10 hg_11 hS
 replace hS : K.Sat w0 [g_10, g_5, g_2, gx, fr] w := hS
 refine K.z (K.t (K.s (K.g (K.q [K.iv (-2)] (K.z (K.t (K.s (K.s (K.g (K.q [K.iv 0] (K.z (K.t ?_))))))))))))
 refine K.KW.block ?_
 obtain ⟨z_12, hz_13⟩ : ∃ z : K.Cs, z = [] := ⟨_, rfl⟩
 replace hS : K.Sat w0 [z_12, g_10, g_5, g_2, gx, fr] w := hS.of (by simp [hz_13])
 have o_14 : K.OwnG z_12 117 2 none 0 0 [] := by rw [hz_13]; exact K.OwnG.nil _ _
 refine K.KW.loop (fun m_ F_ w_ => ∃ (j : Nat) (q1 : Option Addr) (c1 : Nat) (b5 : K.Cs) (o1 : K.Cs), m_ = ss.length - j ∧ K.Sl F_ [(0, .agg #[K.iv c.th, K.iv c.sl, K.iv c.lo, K.iv c.bu]), (1, .slice a ss.length cap), (2, K.pa r_1), (4, K.pa r_4), (5, K.pa r_7), (6, K.iv (atS c ss j)), (7, K.iv ((j : Nat) : Int)), (36, undef)] ∧ j ≤ ss.length ∧ b5 = [K.pt r_7 38 [K.iv c.th, K.iv c.sl, K.iv c.lo, K.iv c.bu, .slice q1 j c1]] ∧ K.OwnG o1 117 2 q1 j c1 (((rowsTo c ss j)).flatMap cPut) ∧ K.Sat w0 [o1, b5, g_5, g_2, gx, fr] w_) ((fun (j : Nat) (q1 : Option Addr) (c1 : Nat) => ss.length - j) 0 none 0) ?_ ?_
 ·
  exact ⟨0, none, 0, g_10, z_12, rfl, ⟨by rfl, by rfl, by rfl, by rfl, by rfl, by rfl, by rfl, by rfl, trivial⟩, (by omega), hg_11, o_14, hS.pick [0, 1, 2, 3, 4, 5]⟩
 ·
  clear hS
  intro m_15 F_16 w hI
  obtain ⟨j, q1, c1, b5, o1, rfl, sl_17, p_18, x_19, x_20, hS⟩ := hI
  rw [← K.Sl.puts sl_17]; clear sl_17
  refine K.s (K.s (K.g (K.q [K.iv ((j : Nat) : Int), .slice a ss.length cap] ?_)))
  refine K.a (K.QR.len (P := Tryz.prog) rfl rfl Tryz.underlying44) ?_
  by_cases h_21 : (((j : Nat) : Int) : Int) < (((ss.length : Nat) : Int) : Int)
  ·
   refine K.y ((((j : Nat) : Int) : Int) < (((ss.length : Nat) : Int) : Int)) h_21 ?_
   refine K.z (K.t (K.h (K.k (K.t (K.s ?_)))))
   refine K.KW.block ?_
   refine K.s ?_
   obtain ⟨b_22, of_23, rfl, _⟩ := (hx _ (hS.pick [4])).at_ (by omega)
   refine K.KW.gdrawn [1] hS (by kernel_rfl) ?_
   clear hS; intro w hS
   refine K.p 0 rfl (.pointer (some ⟨r_7, 4, none⟩)) (hS.pick [1]) ?_
   refine K.o_ 1 rfl (.slice q1 j c1) (fun w hS => ((hS.blk 0 rfl x_19).cell rfl)) (hS.pick [1]) ?_
   refine K.p 2 rfl (K.iv (atS c ss j)) (hS.pick [1]) ?_
   refine K.p 3 rfl (.slice (some ⟨b_22, of_23, none⟩) ss.length cap) (hS.pick [1]) ?_
   refine K.b 4 rfl (K.iv ((j : Nat) : Int)) (hS.pick [1]) ?_
   refine K.c 5 rfl (K.QR.ix (of_23 + j * 1) 1 rfl rfl rfl Tryz.underlying44 (by kernel_rfl) (by omega) (by first | (simp; done) | omega | (simp; omega))) (hS.pick [1]) ?_
   refine K.c 6 rfl (K.QR.ld1 (v := K.iv (ss.getD j 0)) rfl rfl (by kernel_rfl) ((hx _ (hS.pick [4])).ld j (by omega) 0 _ rfl)) (hS.pick [1]) ?_
   refine K.b 7 rfl (.int .u64 (IntKind.u64.wrap (ss.getD j 0))) (hS.pick [1]) ?_
   refine K.b 8 rfl (.int .u64 (IntKind.u64.wrap ((IntKind.u64.wrap (ss.getD j 0) : Int) + (1 : Int)))) (hS.pick [1]) ?_
   refine K.c 9 rfl (K.QR.bd [(0, K.iv (atS c ss j)), (1, .int .u64 (IntKind.u64.wrap ((IntKind.u64.wrap (ss.getD j 0) : Int) + (1 : Int))))] [K.iv (atS c ss j), .int .u64 (IntKind.u64.wrap ((IntKind.u64.wrap (ss.getD j 0) : Int) + (1 : Int)))] rfl rfl (by kernel_rfl)) (hS.pick [1]) ?_
   refine K.DW.l 10 rfl (by kernel_rfl) rfl (K.OW.gbs [(0, .agg #[K.iv (atS c ss j), .int .u64 (IntKind.u64.wrap ((IntKind.u64.wrap (ss.getD j 0) : Int) + (1 : Int)))])] [K.iv (atS c ss j), .int .u64 (IntKind.u64.wrap ((IntKind.u64.wrap (ss.getD j 0) : Int) + (1 : Int)))] hS (fun w => K.bs_run (P := Tryz.prog) w 36 117 1 _ _ Tryz.underlying36 (by kernel_rfl)) ?_)
   clear hS; intro w r_24 g_25 hg_26 hS
   refine ⟨.inl (hS.pick [2]), ?_⟩
   refine K.DW.l 11 rfl (by kernel_rfl) rfl (K.OW.gapp (P := Tryz.prog) (xs := ((rowsTo c ss j)).flatMap cPut) (z := .agg #[K.iv 0, .int .u64 0]) (size := 2) (bytes := 16) 1 [K.iv (atS c ss j), .int .u64 (IntKind.u64.wrap ((IntKind.u64.wrap (ss.getD j 0) : Int) + (1 : Int)))] hS x_20 ?_ (fun j u hj => (by rw [Nat.zero_add]; exact (hS.blk 0 rfl hg_26).cell hj)) (K.one_cells (by rfl)) (by rfl) Tryz.underlying36 (by kernel_rfl) rfl (by decide) (by unfold maxLen; omega) (by omega))
   clear hS; intro a_27 cap_28 w l_29 o_30 hS
   have ln_31 : (((rowsTo c ss j) ++ [(⟨(atS c ss j), IntKind.u64.wrap ((IntKind.u64.wrap (ss.getD j 0) : Int) + (1 : Int))⟩ : PutM)])).length = j + 1 := by rw [List.length_append, (rowsTo_len c ss j)]; rfl
   have o_30c := K.OwnG.cast (xs' := (((rowsTo c ss j) ++ [(⟨(atS c ss j), IntKind.u64.wrap ((IntKind.u64.wrap (ss.getD j 0) : Int) + (1 : Int))⟩ : PutM)])).flatMap cPut) o_30 rfl (K.fl_snoc cPut (rowsTo c ss j) _ rfl)
   replace hS : K.Sat w0 [g_25, l_29, b5, g_5, g_2, gx, fr] w := hS
   refine ⟨.inl (hS.pick [2]), ?_⟩
   refine K.b 12 rfl (.pointer (some ⟨r_7, 4, none⟩)) (hS.pick [2]) ?_
   refine K.DW.l 13 rfl (by kernel_rfl) rfl (K.OW.gst 2 [.slice a_27 (j + 1) cap_28] _ hS x_19 ?_)
   clear hS; intro w g_32 hg_33 hS
   replace hS : K.Sat w0 [g_25, l_29, g_32, g_5, g_2, gx, fr] w := hS
   refine ⟨.inr (by kernel_rfl), ?_⟩
   refine K.DW.done (by kernel_rfl) ?_
   refine K.t ?_
   refine K.KW.gdrawn [4] hS (by kernel_rfl) ?_
   clear hS; intro w hS
   refine K.m 0 rfl (fun w hS => K.QR.ldN [K.iv c.th, K.iv c.sl, K.iv c.lo, K.iv c.bu] rfl rfl (by kernel_rfl) (by kernel_rfl) (K.cells (K.cl ((hS.blk 0 rfl hg_3).cell rfl) (K.cl ((hS.blk 0 rfl hg_3).cell rfl) (K.cl ((hS.blk 0 rfl hg_3).cell rfl) (K.cl ((hS.blk 0 rfl hg_3).cell rfl) K.cl0)))))) (hS.pick [4]) ?_
   refine K.p 1 rfl (.slice (some ⟨b_22, of_23, none⟩) ss.length cap) (hS.pick [4]) ?_
   refine K.b 2 rfl (K.iv ((j : Nat) : Int)) (hS.pick [4]) ?_
   refine K.c 3 rfl (K.QR.ix (of_23 + j * 1) 1 rfl rfl rfl Tryz.underlying44 (by kernel_rfl) (by omega) (by first | (simp; done) | omega | (simp; omega))) (hS.pick [4]) ?_
   refine K.c 4 rfl (K.QR.ld1 (v := K.iv (ss.getD j 0)) rfl rfl (by kernel_rfl) ((hx _ (hS.pick [5])).ld j (by omega) 0 _ rfl)) (hS.pick [4]) ?_
   refine K.DW.l 5 rfl (by kernel_rfl) rfl (K.OW.gcall hS [] [0, 1, 2, 3, 4, 5, 6] [.agg #[K.iv c.th, K.iv c.sl, K.iv c.lo, K.iv c.bu], K.iv (ss.getD j 0)] (rafter_ok _ c (by assumption) (ss.getD j 0)) ?_)
   clear hS; rintro _ _ w ⟨rfl, rfl⟩ hS
   replace hS : K.Sat w0 [g_25, l_29, g_32, g_5, g_2, gx, fr] w := hS
   refine ⟨.inl (hS.pick [4]), ?_⟩
   refine K.b 6 rfl (K.iv (aftS c (ss.getD j 0))) (hS.pick [4]) ?_
   refine K.DW.done (by kernel_rfl) ?_
   refine K.blk_normal ?_
   refine K.t (K.g (K.q [K.iv ((j : Nat) : Int)] ?_))
   refine K.a (K.QR.n64 ((((j : Nat) : Int) : Int) + (1 : Int)) ((j + 1 : Nat) : Int) (by kernel_rfl) (by omega)) ?_
   refine K.q [K.iv ((j + 1 : Nat) : Int)] (K.z (K.t ?_))
   refine ⟨_, ?_, j + 1, a_27, cap_28, g_32, l_29, rfl, ⟨by rfl, by rfl, by rfl, by rfl, by rfl, congrArg (Value.int .i64) (atS_succ c ss j), by rfl, by rfl, trivial⟩, (by omega), hg_33, (by rw [rowsTo_succ]; exact o_30c), hS.pick [1, 2, 3, 4, 5, 6]⟩
   omega
  ·
   refine K.x ((((j : Nat) : Int) : Int) < (((ss.length : Nat) : Int) : Int)) h_21 ?_
   refine K.z (K.t (K.f ?_))
   refine K.KW.exit ?_
   refine K.thn_exit ?_
   refine K.thn_exit ?_
   refine K.blk_hit ?_
   refine K.t (K.s (K.g ?_))
   refine K.a (K.QR.ldN [K.iv c.th, K.iv c.sl, K.iv c.lo, K.iv c.bu, .slice q1 j c1] rfl rfl (by kernel_rfl) (by kernel_rfl) (K.cells (K.cl ((hS.blk 1 rfl x_19).cell rfl) (K.cl ((hS.blk 1 rfl x_19).cell rfl) (K.cl ((hS.blk 1 rfl x_19).cell rfl) (K.cl ((hS.blk 1 rfl x_19).cell rfl) (K.cl ((hS.blk 1 rfl x_19).cell rfl) K.cl0))))))) ?_
   refine K.l (K.OW.gst 2 [K.iv c.th, K.iv c.sl, K.iv c.lo, K.iv c.bu, .slice q1 j c1] _ hS hg_6 ?_)
   clear hS; intro w g_34 hg_35 hS
   replace hS : K.Sat w0 [o1, b5, g_34, g_2, gx, fr] w := hS
   refine K.z (K.t (K.r ?_))
   have ej : j = ss.length := by omega
   refine ⟨.inr rfl, rfl, (.agg #[K.iv c.th, K.iv c.sl, K.iv c.lo, K.iv c.bu, .slice q1 j c1]), K.resAt (rs := [.cell 4 38]) [.agg #[K.iv c.th, K.iv c.sl, K.iv c.lo, K.iv c.bu, .slice q1 j c1]] rfl ⟨⟨_, rfl, K.lvN [K.iv c.th, K.iv c.sl, K.iv c.lo, K.iv c.bu, .slice q1 j c1] (by kernel_rfl) (by kernel_rfl) (K.cells (K.cl ((hS.blk 2 rfl hg_35).cell rfl) (K.cl ((hS.blk 2 rfl hg_35).cell rfl) (K.cl ((hS.blk 2 rfl hg_35).cell rfl) (K.cl ((hS.blk 2 rfl hg_35).cell rfl) (K.cl ((hS.blk 2 rfl hg_35).cell rfl) K.cl0))))))⟩, trivial⟩, [gx, o1], ?_, hS.pick [4, 0, 5]⟩
   exact ⟨q1, c1, _, by rw [rowsTo_len, ← ej], rfl, by rw [rowsTo_len, ← ej]; exact x_20⟩
theorem layS_ok (w0 : World) (c : Cfg) (pa : Option Addr) (cp : Nat) (ps : List PutM) (hg : ∀ j, j < ps.length → isInt (ps.getD j pu0).at_) (hs : fewC c ∧ ps.length ≤ 100) (gp : K.Cs) (xp : ∀ w, K.Sat w0 [gp] w → K.RowE w pa ps.length 2 (fun i => cPut (ps.getD i pu0))) :
  K.GC Tryz.prog w0 13 #[.agg #[K.iv c.th, K.iv c.sl, K.iv c.lo, K.iv c.bu, .slice pa ps.length cp]] [gp] (fun v post => ∃ b p q r u n k gl l m, v = .tuple #[K.pa b, K.pa p, K.pa r, .bool true] ∧ post = [gp, gl, l, m] ∧ gl = layPt b c ∧ MemAt l p q n c.th.toNat (groundM n c.th.toNat k ps) ∧ RMemAt m r u n c.th.toNat (groundM n c.th.toNat k ps) ∧ n = (lns c).toNat ∧ k = (2 + c.th + c.sl).toNat ∧ fewC c ∧ ps.length ≤ 100) := by
 refine (lay_ok w0 c pa cp ps hg gp xp).mono ?_
 rintro v post (h | ⟨_, _, h⟩)
 ·exact h
 ·exact absurd hs h
set_option maxHeartbeats 1000000 in
set_option maxRecDepth 100000 in
theorem newPop_ok (w0 : World) (b : Nat) (tt : Int) :
  K.GC Tryz.prog w0 137 #[K.pa b, K.iv tt] [] (fun v post => ∃ p g, v = K.pa p ∧ post = [g] ∧ g = popPt p b ⟨tt, 0, 0, 0, -1⟩) := by
 refine K.GC.mk (n := 10) Tryz.func137 rfl rfl [K.pa b, K.iv tt] rfl rfl ?_
 intro fr w hS
 replace hS : K.Sat w0 [fr] w := hS
 refine K.s (K.g (K.q [.pointer none] (K.z (K.t (K.s (K.g (K.q [K.pa b, K.iv tt] ?_)))))))
 refine K.a (K.QR.bd [(0, K.pa b), (1, K.iv tt)] [K.pa b, K.iv tt, K.iv 0] rfl rfl (by kernel_rfl)) ?_
 refine K.a (K.QR.bd [(0, .agg #[K.pa b, K.iv tt, K.iv 0]), (3, K.iv (-1))] [K.pa b, K.iv tt, K.iv 0, .int .u64 0, .int .u64 0, K.iv (-1)] rfl rfl (by kernel_rfl)) ?_
 refine K.l (K.OW.gnew 237 [K.pa b, K.iv tt, K.iv 0, .int .u64 0, .int .u64 0, K.iv (-1)] hS ?_)
 clear hS; intro w r_1 g_2 hg_3 hS
 refine K.q [K.pa r_1] (K.z (K.t (K.r ?_)))
 refine ⟨.inr rfl, rfl, (K.pa r_1), K.res1 rfl rfl, [g_2], ?_, hS.pick [0, 1]⟩
 exact ⟨_, _, rfl, rfl, hg_3⟩
set_option maxHeartbeats 1000000 in
set_option maxRecDepth 100000 in
theorem popSlot_ok (w0 : World) (p b : Nat) (S : PopS) (gp : K.Cs) (hgp : gp = popPt p b S) :
  K.GC Tryz.prog w0 175 #[K.pa p] [gp] (fun v post => v = K.iv S.slot ∧ post = [gp]) := by
 refine K.GC.mk (n := 9) Tryz.func175 rfl rfl [K.pa p] rfl rfl ?_
 intro fr w hS
 replace hS : K.Sat w0 [gp, fr] w := hS
 refine K.s (K.g (K.q [K.iv 0] (K.z (K.t (K.s (K.s (K.g (K.q [K.pa p, .bool false] (K.z (K.t (K.f (K.k (K.t (K.s ?_))))))))))))))
 refine K.g (K.q [K.pa p, K.pa p, .pointer (some ⟨p, 5, none⟩)] ?_)
 refine K.d (K.iv S.slot) ((hS.blk 0 rfl hgp).cell rfl) ?_
 refine K.q [K.iv S.slot] (K.z (K.t (K.r ?_)))
 refine ⟨.inr rfl, rfl, (K.iv S.slot), K.res1 rfl rfl, [gp], ?_, hS.pick [0, 1]⟩
 exact ⟨rfl, rfl⟩
end Go.Proofs.YtbfafebfkdbglaaGreat
