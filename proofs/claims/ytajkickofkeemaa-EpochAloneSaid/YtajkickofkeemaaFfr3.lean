/- The document's free list. -/
import Derived.Test.YtajkickofkeemaaFfr2
import Derived.Test.YtajkickofkeemaaKn
namespace Go.Proofs.Ytajkickofkeemaa
open Go.RowKit
set_option linter.unusedVariables false
attribute [local irreducible] K.KW K.RW K.DW K.OW K.QR K.KC

def seenT (o : List Int) (N : Nat) : List Bool := (List.range N).map fun (i : Nat) => decide ((i : Int) ∈ o)
theorem seenT_len (o : List Int) (N : Nat) : (seenT o N).length = N := by simp [seenT]
theorem seenT_nil (N : Nat) : List.replicate N false = seenT [] N := by
 apply List.ext_getElem (by simp [seenT])
 intro i h1 h2
 simp [seenT]
theorem seenT_get {o : List Int} {N : Nat} {s : Int} (h : 0 ≤ s ∧ s < N) : (seenT o N).getD s.toNat false = decide (s ∈ o) := by
 have h1 : s.toNat < N := by omega
 have h2 : ((s.toNat : Nat) : Int) = s := by omega
 simp [seenT, h1, h2]
theorem seenT_set {o : List Int} {N : Nat} {s : Int} (h : 0 ≤ s ∧ s < N) : (seenT o N).set s.toNat true = seenT (o ++ [s]) N := by
 apply List.ext_getElem (by simp [seenT])
 intro i h1 h2
 rw [List.getElem_set]
 by_cases e : s.toNat = i
 ·subst e
  have h2 : ((s.toNat : Nat) : Int) = s := by omega
  simp [seenT, h2]
 ·have : ¬ (i : Int) = s := by omega
  simp [seenT, e, this]

set_option maxHeartbeats 1000000 in
set_option maxRecDepth 100000 in
theorem rto_ok (w0 : World) (x : Int) (hx : isW x) :
  K.GC Try.prog w0 67 #[.int .u64 x] [] (fun v post => v = .int .i64 (toI x) ∧ post = []) := by
 have hx2 := hx
 unfold isW at hx2
 refine K.GC.mk (n := 7) Try.func67 rfl rfl [.int .u64 x] rfl rfl ?_
 intro fr w hS
 replace hS : K.Sat w0 [fr] w := hS
 refine K.s (K.g (K.q [.int .i64 0] (K.z (K.t (K.s (K.g (K.q [.int .u64 x] ?_)))))))
 refine K.a (K.QR.remu64 (x : Int) 4294967296 ((x : Int) % 4294967296) (by kernel_rfl) (by omega) (by omega)) ?_
 refine K.a (K.QR.nice (v := .int .i64 (IntKind.i64.wrap ((x : Int) % 4294967296))) (by kernel_rfl) (congrArg (Value.int .i64) (IntWalk.i64_in _ (by omega)))) ?_
 refine K.a (K.QR.n64 (((x : Int) % 4294967296 : Int) + ((-1) : Int)) (((x : Int) % 4294967296 : Int) + ((-1) : Int)) (by kernel_rfl) (by omega)) ?_
 refine K.q [.int .i64 (((x : Int) % 4294967296 : Int) + ((-1) : Int))] (K.z (K.t (K.r ?_)))
 refine ⟨.inr rfl, rfl, (.int .i64 (((x : Int) % 4294967296 : Int) + ((-1) : Int))), K.res1 rfl rfl, [], ?_, hS.pick [0]⟩
 exact ⟨congrArg (Value.int .i64) (by unfold toI; omega), rfl⟩

set_option maxHeartbeats 1000000 in
set_option maxRecDepth 100000 in
theorem rafter_ok (w0 : World) (c : Cfg) (hc : cfgOk c) (s : Int) :
  K.GC Try.prog w0 68 #[.agg #[.int .i64 c.th, .int .i64 c.sl, .int .i64 c.lo, .int .i64 c.bu], .int .i64 s] [] (fun v post => v = .int .i64 (aftS c s) ∧ post = []) := by
 refine K.GC.mk (n := 9) Try.func68 rfl rfl [.agg #[.int .i64 c.th, .int .i64 c.sl, .int .i64 c.lo, .int .i64 c.bu], .int .i64 s] rfl rfl ?_
 intro fr w hS
 replace hS : K.Sat w0 [fr] w := hS
 refine K.s (K.g ?_)
 refine K.l (K.OW.gnew 23 [.int .i64 c.th, .int .i64 c.sl, .int .i64 c.lo, .int .i64 c.bu] hS ?_)
 clear hS; intro w r_1 g_2 hg_3 hS
 refine K.q [.int .i64 0] (K.z (K.t (K.s (K.g ?_))))
 refine K.a (K.QR.ldN [.int .i64 c.th, .int .i64 c.sl, .int .i64 c.lo, .int .i64 c.bu] rfl rfl (by kernel_rfl) (by kernel_rfl) (K.cells (K.cl ((hS.blk 0 rfl hg_3).cell rfl) (K.cl ((hS.blk 0 rfl hg_3).cell rfl) (K.cl ((hS.blk 0 rfl hg_3).cell rfl) (K.cl ((hS.blk 0 rfl hg_3).cell rfl) K.cl0)))))) ?_
 refine K.q [.int .i64 s] ?_
 refine K.a (K.QR.bd [(0, .int .i64 17), (1, .int .i64 s)] [.int .i64 17, .int .i64 s, .int .i64 0] rfl rfl (by kernel_rfl)) ?_
 refine K.l (K.OW.gcall hS [] [0, 1] [.agg #[.int .i64 c.th, .int .i64 c.sl, .int .i64 c.lo, .int .i64 c.bu], .agg #[.int .i64 17, .int .i64 s, .int .i64 0]] (at_ok _ c (⟨17, s, 0⟩ : Nm) (by assumption)) ?_)
 clear hS; rintro _ _ w ⟨rfl, rfl⟩ hS
 replace hS : K.Sat w0 [g_2, fr] w := hS
 refine K.q [.int .i64 (atT (lasting c) (passing c) (⟨17, s, 0⟩ : Nm))] (K.z (K.t (K.r ?_)))
 refine ⟨.inr rfl, rfl, (.int .i64 (atT (lasting c) (passing c) (⟨17, s, 0⟩ : Nm))), K.res1 rfl rfl, [], ?_, hS.pick [1]⟩
 exact ⟨congrArg (Value.int .i64) (at_aft hc s), rfl⟩

set_option maxHeartbeats 1000000 in
set_option maxRecDepth 100000 in
theorem rlist_ok (w0 : World) (p q n t : Nat) (c : Cfg) (hc : cfgOk c) (hf : c.sl ≤ 65536) (M : MemM) (l : K.Cs) (x : RMemAt l p q n t M) (hM : M.good) (hP : (M.pass.length : Int) = 2 + c.th + c.sl) :
  K.GC Try.prog w0 27 #[.agg #[.int .i64 c.th, .int .i64 c.sl, .int .i64 c.lo, .int .i64 c.bu], .pointer (some ⟨p, 0, none⟩)] [l] (fun v post => ∃ r cc l2, v = .tuple #[.slice r (listG c n M).1.length cc, .bool (listG c n M).2] ∧ post = [l, l2] ∧ K.OwnG l2 3 1 r (listG c n M).1.length cc ((listG c n M).1.flatMap cI64)) := by
 have hcc := hc
 unfold cfgOk at hcc
 refine K.GC.mk (n := 58) Try.func27 rfl rfl [.agg #[.int .i64 c.th, .int .i64 c.sl, .int .i64 c.lo, .int .i64 c.bu], .pointer (some ⟨p, 0, none⟩)] rfl rfl ?_
 intro fr w hS
 replace hS : K.Sat w0 [l, fr] w := hS
 refine K.s (K.g ?_)
 refine K.l (K.OW.gnew 23 [.int .i64 c.th, .int .i64 c.sl, .int .i64 c.lo, .int .i64 c.bu] hS ?_)
 clear hS; intro w r_1 g_2 hg_3 hS
 refine K.q [.slice none 0 0, .bool false] (K.z (K.t (K.s (K.g (K.q [.slice none 0 0] (K.z (K.t (K.s (K.g (K.q [.pointer (some ⟨r_1, 1, none⟩)] ?_))))))))))
 refine K.a (K.QR.turn (v := .int .i64 c.sl) (K.QR.ld1 (v := .int .i64 c.sl) rfl rfl (by kernel_rfl) ((hS.blk 0 rfl hg_3).cell rfl)) (congrArg (Value.int .i64) (show (c.sl : Int) = (((c.sl.toNat : Nat) : Int) : Int) from by omega))) ?_
 refine K.l (K.OW.gmk (P := Try.prog) (m := c.sl.toNat) (cc := cBool) (z := .bool false) (size := 1) (bytes := 1) (false : Bool) hS ?_ Try.underlying126 (by kernel_rfl) rfl rfl (by unfold maxLen; omega) (by omega))
 clear hS; intro w r_4 l_5 o_6 hS
 refine K.q [.slice (some ⟨r_4, 0, none⟩) c.sl.toNat c.sl.toNat] (K.z (K.t (K.s (K.g (K.q [.pointer (some ⟨p, 0, none⟩)] ?_)))))
 refine K.l (K.OW.gcall hS [2] [0, 1, 3] [.pointer (some ⟨p, 0, none⟩), .int .i64 (-2)] (rmPeekG_ok _ _ _ _ _ _ _ x ((-2) : Int) (by first | omega | exact aft_int (by assumption) _ | exact ann_int (by assumption) _ (by omega)) (by first | omega | (rw [aft_in (by assumption) (by omega)]; omega))) ?_)
 clear hS; rintro _ _ w ⟨rfl, rfl⟩ hS
 replace hS : K.Sat w0 [l, l_5, g_2, fr] w := hS
 have hw_7 : isW ((M.peek n ((-2) : Int)).getD 0) := peek0_W (by assumption)
 refine K.q [.tuple #[.int .u64 ((M.peek n ((-2) : Int)).getD 0), .bool true], .int .u64 ((M.peek n ((-2) : Int)).getD 0), .bool true, .int .u64 ((M.peek n ((-2) : Int)).getD 0), .bool true] (K.z (K.t (K.s (K.s (K.g (K.q [.int .i64 0] (K.z (K.t ?_))))))))
 refine K.KW.block ?_
 obtain ⟨z_8, hz_9⟩ : ∃ z : K.Cs, z = [] := ⟨_, rfl⟩
 replace hS : K.Sat w0 [z_8, l, l_5, g_2, fr] w := hS.of (by simp [hz_9])
 have o_10 : K.OwnG z_8 3 1 none 0 0 [] := by rw [hz_9]; exact K.OwnG.nil _ _
 refine K.KW.loop (fun m_ F_ w_ => ∃ (o : List Int) (ww : Int) (q1 : Option Addr) (c1 : Nat) (o1 : K.Cs) (s2 : K.Cs), m_ = c.sl.toNat + 2 - o.length ∧ K.Sl F_ [(0, .agg #[.int .i64 c.th, .int .i64 c.sl, .int .i64 c.lo, .int .i64 c.bu]), (1, .pointer (some ⟨p, 0, none⟩)), (2, .pointer (some ⟨r_1, 0, none⟩)), (6, .slice q1 o.length c1), (7, .slice (some ⟨r_4, 0, none⟩) c.sl.toNat c.sl.toNat), (8, .int .u64 ww), (10, .int .i64 ((o.length : Nat) : Int)), (58, undef)] ∧ listG c n M = listC c n M (c.sl.toNat + 2 - o.length) o ww ∧ o.Nodup ∧ ((∀ y ∈ o, 0 ≤ y ∧ y < c.sl)) ∧ isW ww ∧ o.length ≤ c.sl.toNat ∧ K.OwnG o1 3 1 q1 o.length c1 ((o).flatMap cI64) ∧ K.OwnG s2 4 1 (some ⟨r_4, 0, none⟩) c.sl.toNat c.sl.toNat (((seenT o c.sl.toNat)).flatMap cBool) ∧ K.Sat w0 [o1, l, s2, g_2, fr] w_) ((fun (o : List Int) (ww : Int) (q1 : Option Addr) (c1 : Nat) => c.sl.toNat + 2 - o.length) [] ((M.peek n (-2)).getD 0) none 0) ?_ ?_
 ·
  exact ⟨[], ((M.peek n (-2)).getD 0), none, 0, z_8, l_5, rfl, ⟨by rfl, by rfl, by rfl, by rfl, by rfl, by rfl, by rfl, by rfl, trivial⟩, (by unfold listG; rfl), (List.nodup_nil), (fun y h => by cases h), (by assumption), (by exact Nat.zero_le _), o_10, (by rw [← seenT_nil]; exact o_6), hS.pick [0, 1, 2, 3, 4]⟩
 ·
  clear hS
  intro m_11 F_12 w hI
  obtain ⟨o, ww, q1, c1, o1, s2, rfl, sl_13, hlist, hnd, hin, p_14, p_15, x_16, x_17, hS⟩ := hI
  rw [← K.Sl.puts sl_13]; clear sl_13
  refine K.s (K.s (K.g (K.q [.int .i64 ((o.length : Nat) : Int), .pointer (some ⟨r_1, 1, none⟩)] ?_)))
  refine K.d (.int .i64 c.sl) ((hS.blk 3 rfl hg_3).cell rfl) ?_
  by_cases h_18 : (((o.length : Nat) : Int) : Int) ≤ (c.sl : Int)
  ·
   refine K.y ((((o.length : Nat) : Int) : Int) ≤ (c.sl : Int)) h_18 ?_
   refine K.z (K.t (K.h (K.k (K.t (K.s ?_)))))
   refine K.KW.block ?_
   refine K.s (K.g (K.q [.int .u64 ww] ?_))
   refine K.l (K.OW.gcall hS [] [0, 1, 2, 3, 4] [.int .u64 ww] (rto_ok _ ww (by first | assumption | (unfold isW; omega))) ?_)
   clear hS; rintro _ _ w ⟨rfl, rfl⟩ hS
   replace hS : K.Sat w0 [o1, l, s2, g_2, fr] w := hS
   refine K.q [.int .i64 (toI ww)] (K.z (K.t (K.s (K.s ?_))))
   have hge := toI_ge ww
   refine K.g (K.q [.int .i64 (toI ww)] ?_)
   by_cases h_19 : ((toI ww) : Int) < (0 : Int)
   ·
    refine K.y (((toI ww) : Int) < (0 : Int)) h_19 ?_
    refine K.z (K.t (K.h (K.s (K.g (K.q [.slice q1 o.length c1, .slice q1 o.length c1, .bool true] (K.z (K.t (K.r (K.u ?_)))))))))
    refine K.blk_ret ?_
    refine K.u (K.u ?_)
    refine K.blk_ret ?_
    refine K.u ?_
    have e : listG c n M = (o, true) := hlist.trans (listC_end (by omega) (by have := toI_ge ww; omega))
    refine ⟨.inr rfl, rfl, (.tuple #[.slice q1 o.length c1, .bool true]), K.res2 rfl rfl rfl, [l, o1], ?_, hS.pick [1, 0, 4]⟩
    exact ⟨_, _, _, by rw [e], rfl, by rw [e]; exact x_16⟩
   ·
    refine K.x (((toI ww) : Int) < (0 : Int)) h_19 ?_
    refine K.z (K.t (K.f (K.k (K.t (K.s (K.s (K.g (K.q [.int .i64 (toI ww), .pointer (some ⟨r_1, 1, none⟩)] ?_))))))))
    refine K.d (.int .i64 c.sl) ((hS.blk 3 rfl hg_3).cell rfl) ?_
    by_cases h_20 : ((toI ww) : Int) ≥ (c.sl : Int)
    ·
     refine K.y (((toI ww) : Int) ≥ (c.sl : Int)) h_20 ?_
     refine K.q [.bool true] ?_
     refine K.RW.skip rfl (by kernel_rfl) ?_
     refine K.RW.skip rfl (by kernel_rfl) ?_
     refine K.RW.skip rfl (by kernel_rfl) ?_
     refine K.RW.skip rfl (by kernel_rfl) ?_
     refine K.q [.bool true] (K.z (K.t (K.h (K.s (K.g (K.q [.slice q1 o.length c1, .slice q1 o.length c1, .bool false] (K.z (K.t (K.r (K.u ?_))))))))))
     refine K.blk_ret ?_
     refine K.u (K.u ?_)
     refine K.blk_ret ?_
     refine K.u ?_
     have e : listG c n M = (o, false) := hlist.trans (listC_bad (by omega) (by have := toI_ge ww; omega) (.inl (by omega)))
     refine ⟨.inr rfl, rfl, (.tuple #[.slice q1 o.length c1, .bool false]), K.res2 rfl rfl rfl, [l, o1], ?_, hS.pick [1, 0, 4]⟩
     exact ⟨_, _, _, by rw [e], rfl, by rw [e]; exact x_16⟩
    ·
     refine K.x (((toI ww) : Int) ≥ (c.sl : Int)) h_20 ?_
     refine K.q [.bool false, .slice (some ⟨r_4, 0, none⟩) c.sl.toNat c.sl.toNat, .int .i64 (toI ww)] ?_
     refine K.a (K.QR.ix ((toI ww).toNat) 1 rfl rfl rfl Try.underlying126 (by kernel_rfl) (by omega) (by first | (simp; done) | omega | (simp; omega))) ?_
     refine K.d (.bool ((seenT o c.sl.toNat).getD ((toI ww).toNat) false)) (K.Own.atS (c := cBool) (d := false) (fun _ => rfl) (hS.ownr 2 rfl x_17) (seenT_len o c.sl.toNat) ((toI ww).toNat) (by omega)) ?_
     cases hb_21 : (seenT o c.sl.toNat).getD ((toI ww).toNat) false
     ·
      refine K.q [.bool false] (K.z (K.t (K.f (K.k (K.t (K.s ?_))))))
      have hnin : ¬ toI ww ∈ o := of_decide_eq_false ((seenT_get (by omega)).symm.trans hb_21)
      refine K.g (K.q [.slice (some ⟨r_4, 0, none⟩) c.sl.toNat c.sl.toNat, .int .i64 (toI ww)] ?_)
      refine K.a (K.QR.ix ((toI ww).toNat) 1 rfl rfl rfl Try.underlying126 (by kernel_rfl) (by omega) (by first | (simp; done) | omega | (simp; omega))) ?_
      refine K.l (K.OW.grst 2 ((toI ww).toNat) [.bool true] ((((seenT o c.sl.toNat).set ((toI ww).toNat) true)).flatMap cBool) hS x_17 ?_ (by show _ + 1 ≤ _; omega) (K.set1 (c := cBool) (seenT o c.sl.toNat) ((toI ww).toNat) true (by have := (seenT_len o c.sl.toNat); omega)))
      clear hS; intro w l_22 o_23 hS
      have ln_24 : (((seenT o c.sl.toNat).set ((toI ww).toNat) true)).length = _ := (List.length_set).trans (seenT_len o c.sl.toNat)
      replace hS : K.Sat w0 [o1, l, l_22, g_2, fr] w := hS
      refine K.z (K.t (K.s (K.g (K.q [.slice q1 o.length c1, .int .i64 (toI ww)] ?_))))
      refine K.l (K.OW.gbs [(0, .int .i64 (toI ww))] [.int .i64 (toI ww)] hS (fun w => K.bs_run (P := Try.prog) w 63 3 1 _ _ Try.underlying63 (by kernel_rfl)) ?_)
      clear hS; intro w r_25 g_26 hg_27 hS
      refine K.l (K.OW.gapp (P := Try.prog) (xs := (o).flatMap cI64) (z := .int .i64 0) (size := 1) (bytes := 8) 1 [.int .i64 (toI ww)] hS x_16 ?_ (fun j u hj => (by rw [Nat.zero_add]; exact (hS.blk 0 rfl hg_27).cell hj)) (K.one_cells (by rfl)) (by rfl) Try.underlying63 (by kernel_rfl) rfl (by decide) (by unfold maxLen; omega) (by omega))
      clear hS; intro a_28 cap_29 w l_30 o_31 hS
      have ln_32 : ((o ++ [((toI ww) : Int)])).length = o.length + 1 := by rw [List.length_append]; rfl
      have o_31c := K.OwnG.cast (xs' := ((o ++ [((toI ww) : Int)])).flatMap cI64) o_31 rfl (K.fl_snoc cI64 o _ rfl)
      replace hS : K.Sat w0 [g_26, l_30, l, l_22, g_2, fr] w := hS
      refine K.q [.slice a_28 (o.length + 1) cap_29] (K.z (K.t (K.g (K.q [.pointer (some ⟨p, 0, none⟩)] ?_))))
      refine K.a (K.QR.ldN [.int .i64 c.th, .int .i64 c.sl, .int .i64 c.lo, .int .i64 c.bu] rfl rfl (by kernel_rfl) (by kernel_rfl) (K.cells (K.cl ((hS.blk 4 rfl hg_3).cell rfl) (K.cl ((hS.blk 4 rfl hg_3).cell rfl) (K.cl ((hS.blk 4 rfl hg_3).cell rfl) (K.cl ((hS.blk 4 rfl hg_3).cell rfl) K.cl0)))))) ?_
      refine K.q [.int .i64 (toI ww)] ?_
      refine K.l (K.OW.gcall hS [] [0, 1, 2, 3, 4, 5] [.agg #[.int .i64 c.th, .int .i64 c.sl, .int .i64 c.lo, .int .i64 c.bu], .int .i64 (toI ww)] (rafter_ok _ c (by assumption) (toI ww)) ?_)
      clear hS; rintro _ _ w ⟨rfl, rfl⟩ hS
      replace hS : K.Sat w0 [g_26, l_30, l, l_22, g_2, fr] w := hS
      refine K.l (K.OW.gcall hS [2] [0, 1, 3, 4, 5] [.pointer (some ⟨p, 0, none⟩), .int .i64 (aftS c (toI ww))] (rmPeekG_ok _ _ _ _ _ _ _ x (aftS c (toI ww)) (by first | omega | exact aft_int (by assumption) _ | exact ann_int (by assumption) _ (by omega)) (by first | omega | (rw [aft_in (by assumption) (by omega)]; omega))) ?_)
      clear hS; rintro _ _ w ⟨rfl, rfl⟩ hS
      replace hS : K.Sat w0 [l, g_26, l_30, l_22, g_2, fr] w := hS
      have hw_33 : isW ((M.peek n (aftS c (toI ww))).getD 0) := peek0_W (by assumption)
      refine K.q [.tuple #[.int .u64 ((M.peek n (aftS c (toI ww))).getD 0), .bool true], .int .u64 ((M.peek n (aftS c (toI ww))).getD 0), .bool true, .int .u64 ((M.peek n (aftS c (toI ww))).getD 0)] (K.z ?_)
      refine K.blk_normal ?_
      refine K.t (K.g (K.q [.int .i64 ((o.length : Nat) : Int)] ?_))
      refine K.a (K.QR.n64 ((((o.length : Nat) : Int) : Int) + (1 : Int)) ((o.length + 1 : Nat) : Int) (by kernel_rfl) (by omega)) ?_
      refine K.q [.int .i64 ((o.length + 1 : Nat) : Int)] (K.z (K.t ?_))
      refine ⟨_, ?_, (o ++ [((toI ww) : Int)]), ((M.peek n (aftS c (toI ww))).getD 0), a_28, cap_29, l_30, l_22, rfl, ⟨by rfl, by rfl, by rfl, congrArg (fun m_ => Value.slice a_28 m_ cap_29) (by first | rfl | omega | (simp; done) : o.length + 1 = ((o ++ [((toI ww) : Int)])).length), by rfl, by rfl, congrArg (Value.int .i64) (by simp), by rfl, trivial⟩, (hlist.trans (listC_on (by (try rw [List.length_append]); simp; omega) (by omega) (by omega) hnin)), (nodup_snoc hnd hnin), (in_snoc hin (by have := toI_ge ww; omega)), (by assumption), (by have := nodup_le c.sl.toNat _ (nodup_snoc hnd hnin) (fun y hy => by have := in_snoc hin (by have := toI_ge ww; omega : 0 ≤ toI ww ∧ toI ww < c.sl) y hy; omega); exact this), (by first | exact o_31c | (have h := o_31c; simpa using h)), (by rw [← seenT_set (by omega)]; exact o_23), hS.pick [2, 0, 3, 4, 5]⟩
      (try rw [List.length_append]); simp; omega
     ·
      refine K.q [.bool true] (K.z (K.t (K.h (K.s (K.g (K.q [.slice q1 o.length c1, .slice q1 o.length c1, .bool false] (K.z (K.t (K.r (K.u ?_))))))))))
      refine K.blk_ret ?_
      refine K.u (K.u ?_)
      refine K.blk_ret ?_
      refine K.u ?_
      have e : listG c n M = (o, false) := hlist.trans (listC_bad (by omega) (by have := toI_ge ww; omega) (.inr (of_decide_eq_true ((seenT_get (by omega)).symm.trans hb_21))))
      refine ⟨.inr rfl, rfl, (.tuple #[.slice q1 o.length c1, .bool false]), K.res2 rfl rfl rfl, [l, o1], ?_, hS.pick [1, 0, 4]⟩
      exact ⟨_, _, _, by rw [e], rfl, by rw [e]; exact x_16⟩
  ·
   refine K.x ((((o.length : Nat) : Int) : Int) ≤ (c.sl : Int)) h_18 ?_
   refine K.z (K.t (K.f ?_))
   refine K.KW.exit ?_
   refine K.thn_exit ?_
   refine K.thn_exit ?_
   refine K.blk_hit ?_
   refine K.t (K.s ?_)
   exfalso
   omega

end Go.Proofs.Ytajkickofkeemaa
