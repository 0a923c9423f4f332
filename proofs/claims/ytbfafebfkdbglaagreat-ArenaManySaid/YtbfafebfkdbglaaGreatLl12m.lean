import Derived.Test.YtbfafebfkdbglaaGreatFl12m
import Derived.Test.YtbfafebfkdbglaaGreatFlist
/- The statement ArenaMany. -/
namespace Go.Proofs.YtbfafebfkdbglaaGreat
open Go.RowKit
set_option linter.unusedVariables false
attribute [local irreducible] K.KW K.RW K.DW K.OW K.QR K.KC
def startA (N j : Nat) : List HandA := ((List.range j).map fun (i : Nat) => HandA.tk (tkInit (i : Int))) ++ List.replicate (N - j) .nil
theorem startA_len {N j : Nat} (h : j ≤ N) : (startA N j).length = N := by simp [startA]; omega
theorem startA_get {N j : Nat} (h : j < N) : (startA N j)[j]? = some .nil := by
 unfold startA
 rw [List.getElem?_append_right (by simp), show N - j = (N - (j + 1)) + 1 by omega, List.replicate_succ]
 simp
theorem startA_set {N j : Nat} (h : j < N) : (startA N j).set j (.tk (tkInit (j : Int))) = startA N (j + 1) := by
 unfold startA
 rw [List.range_succ, List.map_append, List.set_append, if_neg (by simp), show N - j = (N - (j + 1)) + 1 by omega, List.replicate_succ]
 simp
theorem startA_full (N : Nat) : startA N N = (List.range N).map fun (i : Nat) => HandA.tk (tkInit (i : Int)) := by simp [startA]
theorem startA_zero (N : Nat) : startA N 0 = List.replicate N .nil := by simp [startA]
theorem MInv.llen {c : Cfg} {n : Nat} {M : MemM} {L : List Int} {j : Nat} (I : MInv c n M L j) (h : c.sl ≤ 30) : L.length ≤ 100 := by
 have := nodup_le c.sl.toNat L I.nd (fun y hy => by have := I.rg y hy; omega)
 omega
theorem logz_rows {c : Cfg} (hc : cfgOk c) {k m : Nat} (hm : (m : Int) ≤ c.sl) : ∀ j, j ≤ m → LogZ c (groundM (lns c).toNat c.th.toNat k (rowsTo c (rangeI m) j))
 | 0, _ => ⟨fresh_ok hc, fun t q h1 h2 h3 h4 => by
   have h := (log_at hc ⟨h1, h2⟩ ⟨h3, h4⟩).2
   show (MemM.of (DevM.fresh (List.replicate ((lns c).toNat * 8) 0) (lns c).toNat c.th.toNat) k).peek (lns c).toNat _ = some 0
   unfold MemM.peek
   rw [if_pos h.1]
   show (if _ < _ then some ((List.replicate ((lns c).toNat * 8) (0 : Int)).getD _ 0) else none) = some 0
   rw [if_pos h.2]
   simp [List.getD_eq_getElem?_getD, List.getElem?_replicate]
   split <;> rfl⟩
 | j + 1, hj => by
  have hth : 1 ≤ c.th := by unfold cfgOk at hc; omega
  rw [rowsTo_succ, ground_snoc]
  refine (logz_rows hc hm j (by omega)).pass hc ?_
  show atS c (rangeI m) j < 0
  unfold atS
  split
  ·omega
  ·rw [rangeI_get (by omega), aft_at (by omega)]; omega
theorem AInv.start {c : Cfg} {m : Nat} {M : MemM} (hc : cfgOk c) (F : FGround c (lns c).toNat m M) (hz : LogZ c M) (hm : (m : Int) = c.sl) : AInv c ((List.range c.th.toNat).map fun (i : Nat) => .tk (tkInit (i : Int))) M (rangeI m) 0 := by
 have hcc := hc
 unfold cfgOk at hcc
 refine ⟨?_, hz, fun k h hk => ?_⟩
 ·rw [List.map_map]
  exact FInv.start F hm (by omega)
 ·rw [List.getElem?_map, Option.map_eq_some_iff] at hk
  obtain ⟨a, ha, rfl⟩ := hk
  obtain ⟨h1, h2⟩ := List.getElem?_eq_some_iff.1 ha
  rw [List.getElem_range] at h2
  subst h2
  have h1 : k < c.th.toNat := by simpa using h1
  exact tkInit_hand hc (by omega)
section
variable {c : Cfg} {hs : List HandA} {M : MemM} {L : List Int} {j : Nat}
theorem AInv.heldb (I : AInv c hs M L j) (h0 : 0 ≤ c.sl) (h1 : 1 ≤ c.sl) : ∀ (k : Nat) h, hs[k]? = some h → -1 ≤ h.held ∧ h.held < c.sl := fun k h hk => I.f.heldb h0 h1 k h.abs (by rw [List.getElem?_map, hk]; rfl)
theorem AInv.cnt (I : AInv c hs M L j) : ∀ s : Int, 0 ≤ s → s < c.sl → L.count s + (hs.map HandA.held).count s = 1 := fun s h0 h1 => by
 have := I.f.cnt s h0 h1
 rw [List.map_map] at this
 exact this
theorem AInv.len (I : AInv c hs M L j) : hs.length = c.th.toNat := by have := I.f.len; rwa [List.length_map] at this
end
theorem tkSlotD_ok (w0 : World) (p b : Nat) (S : TkS) (g : K.Cs) (h : TkEl p b S g) (hd : S.done = true) : K.GC Tryz.prog w0 34 #[.pointer (some ⟨p, 0, none⟩)] [g] (fun v post => v = .int .i64 S.slot ∧ post = [g]) := by
 have := tkSlotE_ok w0 p b S g h
 rwa [if_pos hd] at this
set_option maxHeartbeats 1000000 in
set_option maxRecDepth 100000 in
theorem l12many_ok (w0 : World) (c : Cfg) (a : Option Addr) (cap : Nat) (xs : List Int) (hx8 : ∀ i, i < xs.length → 0 ≤ xs.getD i 0 ∧ xs.getD i 0 ≤ 255) (hm : xs.length ≤ 9223372036854775807) (hx : K.RowE w0 a xs.length 1 (fun i => cU8 (xs.getD i 0))) :
  K.GC Tryz.prog w0 7 #[.agg #[.int .i64 c.th, .int .i64 c.sl, .int .i64 c.lo, .int .i64 c.bu], .slice a xs.length cap] [] (fun v post => v = .bool true) := by
 refine K.GC.mk (n := 159) Tryz.func7 rfl rfl [.agg #[.int .i64 c.th, .int .i64 c.sl, .int .i64 c.lo, .int .i64 c.bu], .slice a xs.length cap] rfl rfl ?_
 intro fr w hS
 replace hS : K.Sat w0 [fr] w := hS
 refine K.s (K.g ?_)
 refine K.l (K.OW.gnew 23 [.int .i64 c.th, .int .i64 c.sl, .int .i64 c.lo, .int .i64 c.bu] hS ?_)
 clear hS; intro w r_1 g_2 hg_3 hS
 refine K.q [.bool false] (K.z (K.t (K.s (K.s (K.g ?_)))))
 refine K.a (K.QR.ldN [.int .i64 c.th, .int .i64 c.sl, .int .i64 c.lo, .int .i64 c.bu] rfl rfl (by kernel_rfl) (by kernel_rfl) (K.cells (K.cl ((hS.blk 0 rfl hg_3).cell rfl) (K.cl ((hS.blk 0 rfl hg_3).cell rfl) (K.cl ((hS.blk 0 rfl hg_3).cell rfl) (K.cl ((hS.blk 0 rfl hg_3).cell rfl) K.cl0)))))) ?_
 refine K.l (K.OW.gcall hS [] [0, 1] [.agg #[.int .i64 c.th, .int .i64 c.sl, .int .i64 c.lo, .int .i64 c.bu]] (few09_ok _ c) ?_)
 clear hS; rintro _ _ w ⟨rfl, (⟨rfl, h_4⟩ | ⟨rfl, h_5⟩)⟩ hS
 ·
  replace hS : K.Sat w0 [g_2, fr] w := hS
  have hc_6 := h_4.1
  obtain ⟨hf_7, hf_8, hf_9, hf_10, hf_11⟩ := (show _ from (by have h := h_4; unfold fewC cfgOk at h; exact h))
  refine K.q [.bool false, .bool false, .slice a xs.length cap] ?_
  refine K.a (K.QR.len (P := Tryz.prog) rfl rfl Tryz.underlying97) ?_
  by_cases h_12 : (((xs.length : Nat) : Int) : Int) > (300 : Int)
  ·
   refine K.y ((((xs.length : Nat) : Int) : Int) > (300 : Int)) h_12 ?_
   refine K.q [.bool true] (K.z (K.t (K.h (K.s (K.g ?_)))))
   refine K.l (K.OW.gcall hS [] [0, 1] [] (awake12_ok _) ?_)
   clear hS; rintro _ _ w ⟨rfl, rfl⟩ hS
   replace hS : K.Sat w0 [g_2, fr] w := hS
   refine K.q [.bool true] (K.z (K.t (K.r (K.u ?_))))
   refine ⟨.inr rfl, rfl, (.bool true), K.res1 rfl rfl, [], ?_, hS.pick [1]⟩
   exact rfl
  ·
   refine K.x ((((xs.length : Nat) : Int) : Int) > (300 : Int)) h_12 ?_
   refine K.q [.bool false] (K.z (K.t (K.f (K.k (K.t (K.s (K.g ?_)))))))
   refine K.a (K.QR.ldN [.int .i64 c.th, .int .i64 c.sl, .int .i64 c.lo, .int .i64 c.bu] rfl rfl (by kernel_rfl) (by kernel_rfl) (K.cells (K.cl ((hS.blk 0 rfl hg_3).cell rfl) (K.cl ((hS.blk 0 rfl hg_3).cell rfl) (K.cl ((hS.blk 0 rfl hg_3).cell rfl) (K.cl ((hS.blk 0 rfl hg_3).cell rfl) K.cl0)))))) ?_
   refine K.l (K.OW.gcall hS [] [0, 1] [.agg #[.int .i64 c.th, .int .i64 c.sl, .int .i64 c.lo, .int .i64 c.bu]] (all12_ok _ c (by first | assumption | (unfold cfgOk; decide)) (by first | omega | decide)) ?_)
   clear hS; rintro _ _ w ⟨r_13, c_14, l_15, rfl, rfl, o_16⟩ hS
   replace hS : K.Sat w0 [l_15, g_2, fr] w := hS
   refine K.l (K.OW.gcall hS [0] [1, 2] [.agg #[.int .i64 c.th, .int .i64 c.sl, .int .i64 c.lo, .int .i64 c.bu, .slice r_13 ((rowsTo c (rangeI c.sl.toNat) c.sl.toNat).length) c_14]] (layS_ok _ c _ _ (rowsTo c (rangeI c.sl.toNat) c.sl.toNat) (fun j hj => (rows_good (by assumption) _ _ j hj).1) (⟨by assumption, by rw [rowsTo_len]; omega⟩) _ (fun w h => K.RowE.len (K.Own.rowE pu0 (h.ownr 0 rfl o_16) rfl (fun _ => rfl)) rfl)) ?_)
   clear hS; rintro _ _ w ⟨b_17, p_18, q_19, r_20, u_21, _, _, gl_22, l_23, m_24, rfl, rfl, hl_25, x_26, y_27, rfl, rfl, hf_28, hp_29⟩ hS
   replace hS : K.Sat w0 [l_15, gl_22, l_23, m_24, g_2, fr] w := hS
   have hcf : cfgOk c := by assumption
   have hF := fground (c := c) (n := ((lns c).toNat)) (t := (c.th.toNat)) (k := (2 + c.th + c.sl).toNat) (m := c.sl.toNat) (by omega) (by omega) (by omega) (by omega) hcf
   have hZ := logz_rows hcf (k := (2 + c.th + c.sl).toNat) (m := c.sl.toNat) (by omega) c.sl.toNat (Nat.le_refl _)
   generalize groundM ((lns c).toNat) (c.th.toNat) (2 + c.th + c.sl).toNat (rowsTo c (rangeI c.sl.toNat) c.sl.toNat) = M0 at x_26 hF hZ
   have hM0 := hF.good
   have hcl0 := hF.cl
   refine K.q [.tuple #[.pointer (some ⟨b_17, 0, none⟩), .pointer (some ⟨p_18, 0, none⟩), .pointer (some ⟨r_20, 0, none⟩), .bool true], .pointer (some ⟨b_17, 0, none⟩), .pointer (some ⟨p_18, 0, none⟩), .pointer (some ⟨r_20, 0, none⟩), .bool true, .pointer (some ⟨b_17, 0, none⟩), .pointer (some ⟨p_18, 0, none⟩), .pointer (some ⟨r_20, 0, none⟩), .bool true] (K.z (K.t (K.s (K.g (K.q [.pointer (some ⟨r_1, 0, none⟩)] ?_)))))
   refine K.a (K.QR.turn (v := .int .i64 c.th) (K.QR.ld1 (v := .int .i64 c.th) rfl rfl (by kernel_rfl) ((hS.blk 4 rfl hg_3).cell rfl)) (congrArg (Value.int .i64) (show (c.th : Int) = (((c.th.toNat : Nat) : Int) : Int) from by omega))) ?_
   refine K.l (K.OW.gmk (P := Tryz.prog) (m := c.th.toNat) (cc := cRaw12) (z := .agg #[.pointer none, .pointer none]) (size := 2) (bytes := 16) ([.pointer none, .pointer none] : List Value) hS ?_ Tryz.underlying98 (by kernel_rfl) rfl rfl (by unfold maxLen; omega) (by omega))
   clear hS; intro w r_30 l_31 o_32 hS
   refine K.q [.slice (some ⟨r_30, 0, none⟩) c.th.toNat c.th.toNat] (K.z (K.t (K.s (K.s (K.g (K.q [.int .i64 0] (K.z (K.t ?_))))))))
   refine K.KW.block ?_
   have hd_33 : K.Hands (handElA b_17) 101 2 l_31 ((some ⟨r_30, 0, none⟩)) (List.replicate c.th.toNat (HandA.nil)) := K.Hands.init (by have h := o_32; rwa [K.rep_flat] at h) rfl ⟨rfl, rfl⟩
   rw [← startA_zero] at hd_33
   refine K.KW.loop (fun m_ F_ w_ => ∃ (j : Nat) (hd1 : K.Cs), m_ = c.th.toNat - j ∧ K.Sl F_ [(0, .agg #[.int .i64 c.th, .int .i64 c.sl, .int .i64 c.lo, .int .i64 c.bu]), (1, .slice a xs.length cap), (2, .pointer (some ⟨r_1, 0, none⟩)), (4, .bool false), (5, .pointer (some ⟨b_17, 0, none⟩)), (6, .pointer (some ⟨p_18, 0, none⟩)), (8, .bool true), (9, .slice (some ⟨r_30, 0, none⟩) c.th.toNat c.th.toNat), (10, .int .i64 ((j : Nat) : Int)), (159, undef)] ∧ j ≤ c.th.toNat ∧ K.Hands (handElA b_17) 101 2 hd1 ((some ⟨r_30, 0, none⟩)) (startA c.th.toNat j) ∧ K.Sat w0 [hd1, l_15, gl_22, l_23, m_24, g_2, fr] w_) ((fun (j : Nat) => c.th.toNat - j) 0) ?_ ?_
   ·
    exact ⟨0, l_31, rfl, ⟨by rfl, by rfl, by rfl, by rfl, by rfl, by rfl, by rfl, by rfl, by rfl, by rfl, trivial⟩, (by omega), hd_33, hS.pick [0, 1, 2, 3, 4, 5, 6]⟩
   ·
    clear hS
    intro m_34 F_35 w hI
    obtain ⟨j, hd1, rfl, sl_36, p_37, x_38, hS⟩ := hI
    rw [← K.Sl.puts sl_36]; clear sl_36
    refine K.s (K.s (K.g (K.q [.int .i64 ((j : Nat) : Int), .pointer (some ⟨r_1, 0, none⟩)] ?_)))
    refine K.d (.int .i64 c.th) ((hS.blk 5 rfl hg_3).cell rfl) ?_
    by_cases h_39 : (((j : Nat) : Int) : Int) < (c.th : Int)
    ·
     refine K.y ((((j : Nat) : Int) : Int) < (c.th : Int)) h_39 ?_
     refine K.z (K.t (K.h (K.k (K.t (K.s ?_)))))
     refine K.KW.block ?_
     have hsl := startA_len (N := c.th.toNat) (j := j) (by omega)
     obtain ⟨row_40, hA_41, hg_42, hB_43, cs_44, rfl, hcs_45, hall_46, htl_47, hct_48, hel_49, how_50, hcl_51⟩ := x_38.open_ j HandA.nil (startA_get (by omega))
     replace hS : K.Sat w0 [row_40, hA_41, hg_42, hB_43, l_15, gl_22, l_23, m_24, g_2, fr] w := hS.of
     obtain ⟨hce, _⟩ := hel_49
     rw [hce] at how_50
     refine K.g (K.q [.slice (some ⟨r_30, 0, none⟩) c.th.toNat c.th.toNat, .int .i64 ((j : Nat) : Int), .pointer (some ⟨b_17, 0, none⟩), .int .i64 ((j : Nat) : Int)] ?_)
     refine K.l (K.OW.gcall hS [] [0, 1, 2, 3, 4, 5, 6, 7, 8, 9] [.pointer (some ⟨b_17, 0, none⟩), .int .i64 ((j : Nat) : Int)] (newtkE_ok _ b_17 ((j : Nat) : Int) (by omega)) ?_)
     clear hS; rintro _ _ w ⟨p_52, g_53, rfl, rfl, h_54⟩ hS
     replace hS : K.Sat w0 [g_53, row_40, hA_41, hg_42, hB_43, l_15, gl_22, l_23, m_24, g_2, fr] w := hS
     refine K.a (K.QR.bd [(0, .pointer (some ⟨p_52, 0, none⟩))] [.pointer (some ⟨p_52, 0, none⟩), .pointer none] rfl rfl (by kernel_rfl)) ?_
     refine K.a (K.QR.ix (0 + j * 2) 2 rfl rfl rfl Tryz.underlying98 (by kernel_rfl) (by omega) (by first | (simp; done) | omega | (simp; omega))) ?_
     refine K.l (K.OW.grst 1 (0 + j * 2 + 0) [.pointer (some ⟨p_52, 0, none⟩), .pointer none] ((cs_44.set j [.pointer (some ⟨p_52, 0, none⟩), .pointer none]).flatten) hS how_50 ?_ (by show _ + 2 ≤ _; omega) (K.set_at0 (j := 0) hcs_45 hall_46 rfl htl_47 (Nat.le_of_ble_eq_true rfl) rfl))
     clear hS; intro w l_55 o_56 hS
     replace hS : K.Sat w0 [g_53, l_55, hA_41, hg_42, hB_43, l_15, gl_22, l_23, m_24, g_2, fr] w := hS
     refine K.z ?_
     refine K.blk_normal ?_
     refine K.t ?_
     have hd_57 : K.Hands (handElA b_17) 101 2 (l_55 ++ (hA_41 ++ ([g_53].flatten ++ hB_43))) ((some ⟨r_30, 0, none⟩)) ((startA c.th.toNat j).set j (.tk (tkInit (j : Int)))) := hcl_51 _ _ _ [.pointer (some ⟨p_52, 0, none⟩), .pointer none] rfl ⟨_, rfl, by simpa using h_54⟩ o_56
     replace hS : K.Sat w0 [(l_55 ++ (hA_41 ++ ([g_53].flatten ++ hB_43))), l_15, gl_22, l_23, m_24, g_2, fr] w := (hS.pick [1, 2, 0, 4, 5, 6, 7, 8, 9, 10]).of (by simp [K.pick, K.nth])
     generalize (l_55 ++ (hA_41 ++ ([g_53].flatten ++ hB_43))) = ld_58 at hS hd_57
     rw [startA_set (by omega)] at hd_57
     refine K.g (K.q [.int .i64 ((j : Nat) : Int)] ?_)
     refine K.a (K.QR.n64 ((((j : Nat) : Int) : Int) + (1 : Int)) ((j + 1 : Nat) : Int) (by kernel_rfl) (by omega)) ?_
     refine K.q [.int .i64 ((j + 1 : Nat) : Int)] (K.z (K.t ?_))
     refine ⟨_, ?_, j + 1, ld_58, rfl, ⟨by rfl, by rfl, by rfl, by rfl, by rfl, by rfl, by rfl, by rfl, by rfl, by rfl, trivial⟩, (by omega), hd_57, hS.pick [0, 1, 2, 3, 4, 5, 6]⟩
     omega
    ·
     refine K.x ((((j : Nat) : Int) : Int) < (c.th : Int)) h_39 ?_
     refine K.z (K.t (K.f ?_))
     refine K.KW.exit ?_
     refine K.thn_exit ?_
     refine K.thn_exit ?_
     refine K.blk_hit ?_
     refine K.t (K.s (K.s (K.g (K.q [.int .i64 0] (K.z (K.t ?_))))))
     refine K.KW.block ?_
     have ej : j = c.th.toNat := by omega
     have hI0 := AInv.start hcf hF hZ (by omega)
     rw [← startA_full, ← ej] at hI0
     refine K.KW.loop (fun m_ F_ w_ => ∃ (i : Nat) (hs : List HandA) (M : MemM) (L : List Int) (hd3 : K.Cs) (l1 : K.Cs), m_ = xs.length - i ∧ K.Sl F_ [(0, .agg #[.int .i64 c.th, .int .i64 c.sl, .int .i64 c.lo, .int .i64 c.bu]), (1, .slice a xs.length cap), (2, .pointer (some ⟨r_1, 0, none⟩)), (5, .pointer (some ⟨b_17, 0, none⟩)), (6, .pointer (some ⟨p_18, 0, none⟩)), (8, .bool true), (9, .slice (some ⟨r_30, 0, none⟩) c.th.toNat c.th.toNat), (11, .int .i64 ((i : Nat) : Int)), (159, undef)] ∧ i ≤ xs.length ∧ AInv c hs M L i ∧ K.Hands (handElA b_17) 101 2 hd3 ((some ⟨r_30, 0, none⟩)) hs ∧ MemAt l1 p_18 q_19 ((lns c).toNat) (c.th.toNat) M ∧ K.Sat w0 [hd3, l_15, gl_22, l1, m_24, g_2, fr] w_) ((fun (i : Nat) (hs : List HandA) (M : MemM) (L : List Int) => xs.length - i) 0 (startA c.th.toNat j) M0 (rangeI c.sl.toNat)) ?_ ?_
     ·
      exact ⟨0, (startA c.th.toNat j), M0, (rangeI c.sl.toNat), hd1, l_23, rfl, ⟨by rfl, by rfl, by rfl, by rfl, by rfl, by rfl, by rfl, by rfl, by rfl, trivial⟩, (by omega), (ej ▸ hI0), x_38, x_26, hS.pick [0, 1, 2, 3, 4, 5, 6]⟩
     ·
      clear hS
      intro m_59 F_60 w hI
      obtain ⟨i, hs, M, L, hd3, l1, rfl, sl_61, p_62, hI, x_63, x_64, hS⟩ := hI
      rw [← K.Sl.puts sl_61]; clear sl_61
      refine K.s (K.s (K.g (K.q [.int .i64 ((i : Nat) : Int), .slice a xs.length cap] ?_)))
      refine K.a (K.QR.len (P := Tryz.prog) rfl rfl Tryz.underlying97) ?_
      by_cases h_65 : (((i : Nat) : Int) : Int) < (((xs.length : Nat) : Int) : Int)
      ·
       refine K.y ((((i : Nat) : Int) : Int) < (((xs.length : Nat) : Int) : Int)) h_65 ?_
       refine K.z (K.t (K.h (K.k (K.t (K.s ?_)))))
       refine K.KW.block ?_
       refine K.s ?_
       have hx8j := hx8 i (by omega)
       have hrl : 0 ≤ ((xs.getD i 0 : Int)) % ((c.th : Int)) ∧ ((xs.getD i 0 : Int)) % ((c.th : Int)) < (c.th : Int) := ⟨Int.emod_nonneg _ (by omega), Int.emod_lt_of_pos _ (by omega)⟩
       obtain ⟨tk, htk⟩ : ∃ q : Nat, (((xs.getD i 0 : Int)) % ((c.th : Int)) : Int) = q := ⟨(((xs.getD i 0 : Int)) % ((c.th : Int)) : Int).toNat, by omega⟩
       obtain ⟨b_66, of_67, rfl, _⟩ := hx.at_ (by omega)
       refine K.KW.gdrawn [] hS (by kernel_rfl) ?_
       clear hS; intro w hS
       refine K.p 0 rfl (.slice (some ⟨b_66, of_67, none⟩) xs.length cap) (hS.pick []) ?_
       refine K.p 1 rfl (.int .i64 ((i : Nat) : Int)) (hS.pick []) ?_
       refine K.m 2 rfl (fun w hS => K.QR.ix (of_67 + i * 1) 1 rfl rfl rfl Tryz.underlying97 (by kernel_rfl) (by omega) (by first | (simp; done) | omega | (simp; omega))) (hS.pick []) ?_
       refine K.o_ 3 rfl (.int .u8 (xs.getD i 0)) (fun w hS => ((hx.no hS.chg).ld i (by omega) 0 _ rfl)) (hS.pick []) ?_
       refine K.m 4 rfl (fun w hS => K.QR.nice (v := .int .i64 (IntKind.i64.wrap (xs.getD i 0))) (by kernel_rfl) (congrArg (Value.int .i64) (IntWalk.i64_in _ (by omega)))) (hS.pick []) ?_
       refine K.b 5 rfl (.pointer (some ⟨r_1, 0, none⟩)) (hS.pick []) ?_
       refine K.c 6 rfl (K.QR.ld1 (v := .int .i64 c.th) rfl rfl (by kernel_rfl) ((hS.blk 5 rfl hg_3).cell rfl)) (hS.pick []) ?_
       refine K.c 7 rfl (K.QR.remV rfl rfl rfl (by omega) (by omega) htk) (hS.pick []) ?_
       refine K.b 8 rfl (.int .i64 ((tk : Nat) : Int)) (hS.pick []) ?_
       refine K.DW.done (by kernel_rfl) ?_
       refine K.t (K.s ?_)
       have hlen := hI.len
       obtain ⟨h0, hSo⟩ := hs_at (hs := hs) (t := tk) (by omega)
       have hok := hI.ok tk h0 hSo
       have hMg := hI.f.mi.good
       obtain ⟨L2, hI2, hem⟩ := AInv.next hcf (by omega) hI (by omega) hSo
       obtain ⟨row_68, hA_69, hg_70, hB_71, cs_72, rfl, hcs_73, hall_74, htl_75, hct_76, hel_77, how_78, hcl_79⟩ := x_63.open_ tk h0 hSo
       replace hS : K.Sat w0 [row_68, hA_69, hg_70, hB_71, l_15, gl_22, l1, m_24, g_2, fr] w := hS.of
       cases h0 with
       | nil => exact hok.elim
       | tk S =>
        obtain ⟨pS, hce, hge⟩ := hel_77
        have hSg := hok.2.1
        have hM2 : (tkStep c (lns c).toNat c.th.toNat S M).2.good := hI2.f.mi.good
        have hP2 : ((tkStep c (lns c).toNat c.th.toNat S M).2.pass.length : Int) = 2 + c.th + c.sl := hI2.f.mi.pl
        rw [hce] at how_78
        replace hS : K.Sat w0 [row_68, hA_69, hg_70, hB_71, l_15, gl_22, l1, m_24, g_2, fr] w := hS.of (by simp [K.pick, K.nth])
        refine K.g (K.q [.slice (some ⟨r_30, 0, none⟩) c.th.toNat c.th.toNat, .int .i64 ((tk : Nat) : Int)] ?_)
        refine K.a (K.QR.ix (0 + tk * 2) 2 rfl rfl rfl Tryz.underlying98 (by kernel_rfl) (by omega) (by first | (simp; done) | omega | (simp; omega))) ?_
        refine K.q [.pointer (some ⟨r_30, 0 + tk * 2, none⟩)] (K.z (K.t (K.s (K.s (K.g (K.q [.pointer (some ⟨r_30, 0 + tk * 2, none⟩), .pointer (some ⟨r_30, 0 + tk * 2, none⟩), .pointer (some ⟨r_30, 0 + tk * 2, none⟩)] ?_))))))
        refine K.d (.pointer (some ⟨pS, 0, none⟩)) (K.row_at0 (j := 0) (hS.ownr 0 rfl how_78) hcs_73 hall_74 rfl htl_75 rfl) ?_
        refine K.q [.bool true, .bool true, .pointer (some ⟨r_30, 0 + tk * 2, none⟩), .pointer (some ⟨r_30, 0 + tk * 2, none⟩), .pointer (some ⟨r_30, 0 + tk * 2, none⟩)] ?_
        refine K.d (.pointer (some ⟨pS, 0, none⟩)) (K.row_at0 (j := 0) (hS.ownr 0 rfl how_78) hcs_73 hall_74 rfl htl_75 rfl) ?_
        refine K.q [.pointer (some ⟨p_18, 0, none⟩)] ?_
        refine K.l (K.OW.gcall hS [2, 5, 6] [0, 1, 3, 4, 7, 8, 9] [.pointer (some ⟨pS, 0, none⟩), .pointer (some ⟨p_18, 0, none⟩)] (tkStep_ok _ _ _ _ _ _ _ c (by first | assumption | (unfold cfgOk; decide)) S M _ _ _ hge hl_25 x_64 (by assumption) (by assumption)) ?_)
        clear hS; rintro _ _ w ⟨g_80, l_81, rfl, rfl, h_82, x_83⟩ hS
        replace hS : K.Sat w0 [g_80, gl_22, l_81, row_68, hA_69, hB_71, l_15, m_24, g_2, fr] w := hS
        refine K.q [.bool ((tkStep c ((lns c).toNat) (c.th.toNat) S M).1.done)] ?_
        cases hb_84 : (tkStep c ((lns c).toNat) (c.th.toNat) S M).1.done
        ·
         refine K.z (K.t (K.f (K.s (K.g (K.q [.pointer (some ⟨r_30, 0 + tk * 2, none⟩), .pointer (some ⟨r_30, 0 + tk * 2, none⟩), .pointer (some ⟨r_30, 0 + tk * 2, none⟩)] ?_)))))
         refine K.d (.pointer (some ⟨pS, 0, none⟩)) (K.row_at0 (j := 0) (hS.ownr 3 rfl how_78) hcs_73 hall_74 rfl htl_75 rfl) ?_
         refine K.q [.bool false, .bool false] (K.n_ (K.n_ (K.n_ (K.n_ (K.n_ (K.n_ (K.q [.bool false] (K.z (K.t (K.f (K.k (K.t (K.s ?_)))))))))))))
         have hp3 := of_decide_eq_false hb_84
         have hd_85 : K.Hands (handElA b_17) 101 2 (row_68 ++ (hA_69 ++ ([g_80].flatten ++ hB_71))) ((some ⟨r_30, 0, none⟩)) (hs.set tk (.tk (tkStep c (lns c).toNat c.th.toNat S M).1)) := hcl_79 _ _ _ [.pointer (some ⟨pS, 0, none⟩), .pointer none] rfl ⟨_, rfl, by simpa using h_82⟩ how_78
         replace hS : K.Sat w0 [(row_68 ++ (hA_69 ++ ([g_80].flatten ++ hB_71))), gl_22, l_81, l_15, m_24, g_2, fr] w := (hS.pick [3, 4, 0, 5, 1, 2, 6, 7, 8, 9]).of (by simp [K.pick, K.nth])
         generalize (row_68 ++ (hA_69 ++ ([g_80].flatten ++ hB_71))) = ld_86 at hS hd_85
         have hst : armStep c (lns c).toNat c.th.toNat (tk : Int) (.tk S) M = ((.tk (tkStep c (lns c).toNat c.th.toNat S M).1), (tkStep c (lns c).toNat c.th.toNat S M).2) := by simp only [armStep]; rw [if_neg hp3]
         rw [hst] at hI2
         refine K.g (K.q [.pointer (some ⟨b_17, 0, none⟩), .pointer (some ⟨p_18, 0, none⟩), .slice (some ⟨r_30, 0, none⟩) c.th.toNat c.th.toNat, .pointer (some ⟨r_1, 1, none⟩)] ?_)
         refine K.d (.int .i64 c.sl) ((hS.blk 5 rfl hg_3).cell rfl) ?_
         refine K.l (K.OW.gcall hS [1, 2, 0] [3, 4, 5, 6] [.pointer (some ⟨b_17, 0, none⟩), .pointer (some ⟨p_18, 0, none⟩), .slice (some ⟨r_30, 0, none⟩) c.th.toNat c.th.toNat, .int .i64 c.sl] (once12_ok _ _ _ _ _ _ c (by first | assumption | (unfold cfgOk; decide)) (by omega) ((tkStep c ((lns c).toNat) (c.th.toNat) S M).2) _ _ _ hl_25 x_83 hI2.f.mi.good hI2.f.mi.pl _ (hs.set tk (.tk (tkStep c (lns c).toNat c.th.toNat S M).1)) _ (by rw [hI2.len]) (by omega) hd_85 L2 hI2.f.list hI2.f.mi.rg (hI2.f.mi.llen (by omega)) (hI2.heldb (by omega) (by omega)) hI2.ok hI2.cnt) ?_)
         clear hS; rintro _ _ w ⟨hd_87, rfl, rfl, x_88⟩ hS
         replace hS : K.Sat w0 [gl_22, l_81, hd_87, l_15, m_24, g_2, fr] w := hS
         refine K.q [.bool false] (K.z (K.t (K.f (K.k ?_))))
         refine K.blk_normal ?_
         refine K.t (K.g (K.q [.int .i64 ((i : Nat) : Int)] ?_))
         refine K.a (K.QR.n64 ((((i : Nat) : Int) : Int) + (1 : Int)) ((i + 1 : Nat) : Int) (by kernel_rfl) (by omega)) ?_
         refine K.q [.int .i64 ((i + 1 : Nat) : Int)] (K.z (K.t ?_))
         refine ⟨_, ?_, i + 1, (hs.set tk (.tk (tkStep c (lns c).toNat c.th.toNat S M).1)), ((tkStep c ((lns c).toNat) (c.th.toNat) S M).2), L2, hd_87, l_81, rfl, ⟨by rfl, by rfl, by rfl, by rfl, by rfl, by rfl, by rfl, by rfl, by rfl, trivial⟩, (by omega), (hI2), x_88, x_83, hS.pick [2, 3, 0, 1, 4, 5, 6]⟩
         omega
        ·
         refine K.z (K.t (K.h (K.s (K.g (K.q [.pointer (some ⟨b_17, 0, none⟩), .pointer (some ⟨p_18, 0, none⟩)] ?_)))))
         refine K.l (K.OW.gcall hS [1, 2] [0, 3, 4, 5, 6, 7, 8, 9] [.pointer (some ⟨b_17, 0, none⟩), .pointer (some ⟨p_18, 0, none⟩)] (listL_ok _ _ _ _ _ _ c (by first | assumption | (unfold cfgOk; decide)) (by omega) ((tkStep c ((lns c).toNat) (c.th.toNat) S M).2) _ _ hl_25 x_83 (by assumption) (by assumption) L2 hI2.f.list) ?_)
         clear hS; rintro _ _ w ⟨r_89, c_90, l_91, rfl, rfl, o_92⟩ hS
         replace hS : K.Sat w0 [gl_22, l_81, l_91, g_80, row_68, hA_69, hB_71, l_15, m_24, g_2, fr] w := hS
         refine K.q [.tuple #[.slice r_89 L2.length c_90, .bool true], .slice r_89 L2.length c_90, .bool true, .slice r_89 L2.length c_90, .bool true] (K.z (K.t (K.s (K.g (K.q [.pointer (some ⟨r_30, 0 + tk * 2, none⟩), .pointer (some ⟨r_30, 0 + tk * 2, none⟩), .pointer (some ⟨r_30, 0 + tk * 2, none⟩)] ?_)))))
         refine K.d (.pointer (some ⟨pS, 0, none⟩)) (K.row_at0 (j := 0) (hS.ownr 4 rfl how_78) hcs_73 hall_74 rfl htl_75 rfl) ?_
         refine K.l (K.OW.gcall hS [3] [0, 1, 2, 4, 5, 6, 7, 8, 9, 10] [.pointer (some ⟨pS, 0, none⟩)] (tkSlotD_ok _ _ _ ((tkStep c ((lns c).toNat) (c.th.toNat) S M).1) _ h_82 hb_84) ?_)
         clear hS; rintro _ _ w ⟨rfl, rfl⟩ hS
         replace hS : K.Sat w0 [g_80, gl_22, l_81, l_91, row_68, hA_69, hB_71, l_15, m_24, g_2, fr] w := hS
         refine K.q [.int .i64 (((tkStep c ((lns c).toNat) (c.th.toNat) S M).1).slot)] (K.z (K.t (K.s (K.s (K.g (K.q [.int .i64 (((tkStep c ((lns c).toNat) (c.th.toNat) S M).1).slot)] ?_))))))
         by_cases h_93 : (((tkStep c ((lns c).toNat) (c.th.toNat) S M).1).slot : Int) = ((-1) : Int)
         ·
          refine K.ye (((tkStep c ((lns c).toNat) (c.th.toNat) S M).1).slot : Int) ((-1) : Int) h_93 ?_
          refine K.q [.bool true, .slice r_89 L2.length c_90] ?_
          refine K.a (K.QR.len (P := Tryz.prog) rfl rfl Tryz.underlying44) ?_
          refine K.x ((((L2.length : Nat) : Int) : Int) > (0 : Int)) (by simp [(hem S rfl (of_decide_eq_true hb_84) h_93).1]) ?_
          refine K.q [.bool false, .pointer (some ⟨r_30, 0 + tk * 2, none⟩), .pointer (some ⟨r_30, 0 + tk * 2, none⟩), .pointer (some ⟨r_30, 0 + tk * 2, none⟩)] ?_
          refine K.d (.pointer (some ⟨pS, 0, none⟩)) (K.row_at0 (j := 0) (hS.ownr 4 rfl how_78) hcs_73 hall_74 rfl htl_75 rfl) ?_
          refine K.l (K.OW.gcall hS [0] [1, 2, 3, 4, 5, 6, 7, 8, 9, 10] [.pointer (some ⟨pS, 0, none⟩)] (tkEmptyE_ok _ _ _ ((tkStep c ((lns c).toNat) (c.th.toNat) S M).1) _ h_82) ?_)
          clear hS; rintro _ _ w ⟨rfl, rfl⟩ hS
          replace hS : K.Sat w0 [g_80, gl_22, l_81, l_91, row_68, hA_69, hB_71, l_15, m_24, g_2, fr] w := hS
          refine K.q [.pointer (some ⟨p_18, 0, none⟩)] ?_
          refine K.l (K.OW.gcall hS [2] [0, 1, 3, 4, 5, 6, 7, 8, 9, 10] [.pointer (some ⟨p_18, 0, none⟩)] (mClock_ok _ _ _ _ _ _ _ x_83 ) ?_)
          clear hS; rintro _ _ w ⟨rfl, rfl⟩ hS
          replace hS : K.Sat w0 [l_81, g_80, gl_22, l_91, row_68, hA_69, hB_71, l_15, m_24, g_2, fr] w := hS
          refine K.xn (((tkStep c ((lns c).toNat) (c.th.toNat) S M).1).empty : Int) (((tkStep c ((lns c).toNat) (c.th.toNat) S M).2).clock : Int) ((hem S rfl (of_decide_eq_true hb_84) h_93).2) ?_
          refine K.q [.bool false, .bool false] (K.z (K.t (K.f (K.k (K.t (K.s (K.g (K.q [.int .i64 (((tkStep c ((lns c).toNat) (c.th.toNat) S M).1).slot)] ?_))))))))
          refine K.xn (((tkStep c ((lns c).toNat) (c.th.toNat) S M).1).slot : Int) ((-1) : Int) h_93 ?_
          refine K.z (K.t (K.f (K.g (K.q [.pointer (some ⟨r_30, 0 + tk * 2, none⟩), .pointer (some ⟨b_17, 0, none⟩), .int .i64 ((tk : Nat) : Int)] ?_))))
          refine K.l (K.OW.gcall hS [] [0, 1, 2, 3, 4, 5, 6, 7, 8, 9, 10] [.pointer (some ⟨b_17, 0, none⟩), .int .i64 ((tk : Nat) : Int)] (newtkE_ok _ b_17 ((tk : Nat) : Int) (by omega)) ?_)
          clear hS; rintro _ _ w ⟨p_94, g_95, rfl, rfl, h_96⟩ hS
          replace hS : K.Sat w0 [g_95, l_81, g_80, gl_22, l_91, row_68, hA_69, hB_71, l_15, m_24, g_2, fr] w := hS
          refine K.q [.pointer (some ⟨r_30, 0 + tk * 2, none⟩), .pointer (some ⟨r_30, 0 + tk * 2, none⟩)] ?_
          refine K.l (K.OW.grst 5 (0 + tk * 2 + 0) [.pointer (some ⟨p_94, 0, none⟩)] ((cs_72.set tk [.pointer (some ⟨p_94, 0, none⟩), .pointer none]).flatten) hS how_78 ?_ (by show _ + 1 ≤ _; omega) (K.set_at0 (j := 0) hcs_73 hall_74 rfl htl_75 (Nat.le_of_ble_eq_true rfl) rfl))
          clear hS; intro w l_97 o_98 hS
          replace hS : K.Sat w0 [g_95, l_81, g_80, gl_22, l_91, l_97, hA_69, hB_71, l_15, m_24, g_2, fr] w := hS
          refine K.z (K.t (K.s ?_))
          have hp3 := of_decide_eq_true hb_84
          have hd_99 : K.Hands (handElA b_17) 101 2 (l_97 ++ (hA_69 ++ ([g_95].flatten ++ hB_71))) ((some ⟨r_30, 0, none⟩)) (hs.set tk (.tk (tkInit (tk : Int)))) := hcl_79 _ _ _ [.pointer (some ⟨p_94, 0, none⟩), .pointer none] rfl ⟨_, rfl, by simpa using h_96⟩ o_98
          replace hS : K.Sat w0 [(l_97 ++ (hA_69 ++ ([g_95].flatten ++ hB_71))), l_81, g_80, gl_22, l_91, l_15, m_24, g_2, fr] w := (hS.pick [5, 6, 0, 7, 1, 2, 3, 4, 8, 9, 10, 11]).of (by simp [K.pick, K.nth])
          generalize (l_97 ++ (hA_69 ++ ([g_95].flatten ++ hB_71))) = ld_100 at hS hd_99
          have hst : armStep c (lns c).toNat c.th.toNat (tk : Int) (.tk S) M = ((.tk (tkInit (tk : Int))), (tkStep c (lns c).toNat c.th.toNat S M).2) := by simp only [armStep]; rw [if_pos hp3, if_pos h_93]
          rw [hst] at hI2
          refine K.g (K.q [.pointer (some ⟨b_17, 0, none⟩), .pointer (some ⟨p_18, 0, none⟩), .slice (some ⟨r_30, 0, none⟩) c.th.toNat c.th.toNat, .pointer (some ⟨r_1, 1, none⟩)] ?_)
          refine K.d (.int .i64 c.sl) ((hS.blk 7 rfl hg_3).cell rfl) ?_
          refine K.l (K.OW.gcall hS [3, 1, 0] [2, 4, 5, 6, 7, 8] [.pointer (some ⟨b_17, 0, none⟩), .pointer (some ⟨p_18, 0, none⟩), .slice (some ⟨r_30, 0, none⟩) c.th.toNat c.th.toNat, .int .i64 c.sl] (once12_ok _ _ _ _ _ _ c (by first | assumption | (unfold cfgOk; decide)) (by omega) ((tkStep c ((lns c).toNat) (c.th.toNat) S M).2) _ _ _ hl_25 x_83 hI2.f.mi.good hI2.f.mi.pl _ (hs.set tk (.tk (tkInit (tk : Int)))) _ (by rw [hI2.len]) (by omega) hd_99 L2 hI2.f.list hI2.f.mi.rg (hI2.f.mi.llen (by omega)) (hI2.heldb (by omega) (by omega)) hI2.ok hI2.cnt) ?_)
          clear hS; rintro _ _ w ⟨hd_101, rfl, rfl, x_102⟩ hS
          replace hS : K.Sat w0 [gl_22, l_81, hd_101, g_80, l_91, l_15, m_24, g_2, fr] w := hS
          refine K.q [.bool false] (K.z (K.t (K.f (K.k ?_))))
          refine K.blk_normal ?_
          refine K.t (K.g (K.q [.int .i64 ((i : Nat) : Int)] ?_))
          refine K.a (K.QR.n64 ((((i : Nat) : Int) : Int) + (1 : Int)) ((i + 1 : Nat) : Int) (by kernel_rfl) (by omega)) ?_
          refine K.q [.int .i64 ((i + 1 : Nat) : Int)] (K.z (K.t ?_))
          refine ⟨_, ?_, i + 1, (hs.set tk (.tk (tkInit (tk : Int)))), ((tkStep c ((lns c).toNat) (c.th.toNat) S M).2), L2, hd_101, l_81, rfl, ⟨by rfl, by rfl, by rfl, by rfl, by rfl, by rfl, by rfl, by rfl, by rfl, trivial⟩, (by omega), (hI2), x_102, x_83, hS.pick [2, 5, 0, 1, 6, 7, 8]⟩
          omega
         ·
          refine K.xe (((tkStep c ((lns c).toNat) (c.th.toNat) S M).1).slot : Int) ((-1) : Int) h_93 ?_
          refine K.q [.bool false] (K.n_ (K.n_ (K.n_ (K.n_ (K.n_ (K.n_ (K.n_ (K.n_ (K.n_ (K.n_ (K.n_ (K.n_ (K.n_ (K.q [.bool false] ?_))))))))))))))
          refine K.z (K.t (K.f (K.k (K.t (K.s (K.g (K.q [.int .i64 (((tkStep c ((lns c).toNat) (c.th.toNat) S M).1).slot)] ?_)))))))
          refine K.yn (((tkStep c ((lns c).toNat) (c.th.toNat) S M).1).slot : Int) ((-1) : Int) h_93 ?_
          refine K.z (K.t (K.h (K.s (K.g (K.q [.pointer (some ⟨r_30, 0 + tk * 2, none⟩), .pointer (some ⟨r_30, 0 + tk * 2, none⟩), .pointer (some ⟨r_30, 0 + tk * 2, none⟩)] ?_)))))
          refine K.l (K.OW.grst 4 (0 + tk * 2 + 0) [.pointer none] ((cs_72.set tk [.pointer none, .pointer none]).flatten) hS how_78 ?_ (by show _ + 1 ≤ _; omega) (K.set_at0 (j := 0) hcs_73 hall_74 rfl htl_75 (Nat.le_of_ble_eq_true rfl) rfl))
          clear hS; intro w l_103 o_104 hS
          replace hS : K.Sat w0 [g_80, gl_22, l_81, l_91, l_103, hA_69, hB_71, l_15, m_24, g_2, fr] w := hS
          refine K.z (K.t (K.g (K.q [.pointer (some ⟨r_30, 0 + tk * 2, none⟩), .pointer (some ⟨b_17, 0, none⟩), .int .i64 ((tk : Nat) : Int), .int .i64 (((tkStep c ((lns c).toNat) (c.th.toNat) S M).1).slot)] ?_)))
          refine K.l (K.OW.gcall hS [] [0, 1, 2, 3, 4, 5, 6, 7, 8, 9, 10] [.pointer (some ⟨b_17, 0, none⟩), .int .i64 ((tk : Nat) : Int), .int .i64 (((tkStep c ((lns c).toNat) (c.th.toNat) S M).1).slot)] (newgvE_ok _ b_17 ((tk : Nat) : Int) (((tkStep c ((lns c).toNat) (c.th.toNat) S M).1).slot)) ?_)
          clear hS; rintro _ _ w ⟨p_105, g_106, rfl, rfl, h_107⟩ hS
          replace hS : K.Sat w0 [g_106, g_80, gl_22, l_81, l_91, l_103, hA_69, hB_71, l_15, m_24, g_2, fr] w := hS
          refine K.q [.pointer (some ⟨r_30, 0 + tk * 2, none⟩), .pointer (some ⟨r_30, 0 + tk * 2 + 1, none⟩)] ?_
          refine K.l (K.OW.grst 5 (0 + tk * 2 + 1) [.pointer (some ⟨p_105, 0, none⟩)] ((cs_72.set tk [.pointer none, .pointer (some ⟨p_105, 0, none⟩)]).flatten) hS o_104 ?_ (by show _ + 1 ≤ _; omega) (K.set_at0 (j := 1) hcs_73 hall_74 rfl htl_75 (Nat.le_of_ble_eq_true rfl) rfl))
          clear hS; intro w l_108 o_109 hS
          replace hS : K.Sat w0 [g_106, g_80, gl_22, l_81, l_91, l_108, hA_69, hB_71, l_15, m_24, g_2, fr] w := hS
          refine K.z (K.t (K.s ?_))
          have hp3 := of_decide_eq_true hb_84
          have hd_110 : K.Hands (handElA b_17) 101 2 (l_108 ++ (hA_69 ++ ([g_106].flatten ++ hB_71))) ((some ⟨r_30, 0, none⟩)) (hs.set tk (.gv ⟨(tk : Int), 1, (tkStep c (lns c).toNat c.th.toNat S M).1.slot, ⟨0, 0, 0, 0⟩⟩)) := hcl_79 _ _ _ [.pointer none, .pointer (some ⟨p_105, 0, none⟩)] rfl ⟨_, rfl, by simpa using h_107⟩ o_109
          replace hS : K.Sat w0 [(l_108 ++ (hA_69 ++ ([g_106].flatten ++ hB_71))), g_80, gl_22, l_81, l_91, l_15, m_24, g_2, fr] w := (hS.pick [5, 6, 0, 7, 1, 2, 3, 4, 8, 9, 10, 11]).of (by simp [K.pick, K.nth])
          generalize (l_108 ++ (hA_69 ++ ([g_106].flatten ++ hB_71))) = ld_111 at hS hd_110
          have hst : armStep c (lns c).toNat c.th.toNat (tk : Int) (.tk S) M = ((.gv ⟨(tk : Int), 1, (tkStep c (lns c).toNat c.th.toNat S M).1.slot, ⟨0, 0, 0, 0⟩⟩), (tkStep c (lns c).toNat c.th.toNat S M).2) := by simp only [armStep]; rw [if_pos hp3, if_neg h_93]
          rw [hst] at hI2
          refine K.g (K.q [.pointer (some ⟨b_17, 0, none⟩), .pointer (some ⟨p_18, 0, none⟩), .slice (some ⟨r_30, 0, none⟩) c.th.toNat c.th.toNat, .pointer (some ⟨r_1, 1, none⟩)] ?_)
          refine K.d (.int .i64 c.sl) ((hS.blk 7 rfl hg_3).cell rfl) ?_
          refine K.l (K.OW.gcall hS [2, 3, 0] [1, 4, 5, 6, 7, 8] [.pointer (some ⟨b_17, 0, none⟩), .pointer (some ⟨p_18, 0, none⟩), .slice (some ⟨r_30, 0, none⟩) c.th.toNat c.th.toNat, .int .i64 c.sl] (once12_ok _ _ _ _ _ _ c (by first | assumption | (unfold cfgOk; decide)) (by omega) ((tkStep c ((lns c).toNat) (c.th.toNat) S M).2) _ _ _ hl_25 x_83 hI2.f.mi.good hI2.f.mi.pl _ (hs.set tk (.gv ⟨(tk : Int), 1, (tkStep c (lns c).toNat c.th.toNat S M).1.slot, ⟨0, 0, 0, 0⟩⟩)) _ (by rw [hI2.len]) (by omega) hd_110 L2 hI2.f.list hI2.f.mi.rg (hI2.f.mi.llen (by omega)) (hI2.heldb (by omega) (by omega)) hI2.ok hI2.cnt) ?_)
          clear hS; rintro _ _ w ⟨hd_112, rfl, rfl, x_113⟩ hS
          replace hS : K.Sat w0 [gl_22, l_81, hd_112, g_80, l_91, l_15, m_24, g_2, fr] w := hS
          refine K.q [.bool false] (K.z (K.t (K.f (K.k ?_))))
          refine K.blk_normal ?_
          refine K.t (K.g (K.q [.int .i64 ((i : Nat) : Int)] ?_))
          refine K.a (K.QR.n64 ((((i : Nat) : Int) : Int) + (1 : Int)) ((i + 1 : Nat) : Int) (by kernel_rfl) (by omega)) ?_
          refine K.q [.int .i64 ((i + 1 : Nat) : Int)] (K.z (K.t ?_))
          refine ⟨_, ?_, i + 1, (hs.set tk (.gv ⟨(tk : Int), 1, (tkStep c (lns c).toNat c.th.toNat S M).1.slot, ⟨0, 0, 0, 0⟩⟩)), ((tkStep c ((lns c).toNat) (c.th.toNat) S M).2), L2, hd_112, l_81, rfl, ⟨by rfl, by rfl, by rfl, by rfl, by rfl, by rfl, by rfl, by rfl, by rfl, trivial⟩, (by omega), (hI2), x_113, x_83, hS.pick [2, 5, 0, 1, 6, 7, 8]⟩
          omega
       | gv S =>
        obtain ⟨pS, hce, hge⟩ := hel_77
        have hSg := hok.2.1
        have hM2 : (gvStep c (lns c).toNat S M).2.good := hI2.f.mi.good
        have hP2 : ((gvStep c (lns c).toNat S M).2.pass.length : Int) = 2 + c.th + c.sl := hI2.f.mi.pl
        rw [hce] at how_78
        replace hS : K.Sat w0 [row_68, hA_69, hg_70, hB_71, l_15, gl_22, l1, m_24, g_2, fr] w := hS.of (by simp [K.pick, K.nth])
        refine K.g (K.q [.slice (some ⟨r_30, 0, none⟩) c.th.toNat c.th.toNat, .int .i64 ((tk : Nat) : Int)] ?_)
        refine K.a (K.QR.ix (0 + tk * 2) 2 rfl rfl rfl Tryz.underlying98 (by kernel_rfl) (by omega) (by first | (simp; done) | omega | (simp; omega))) ?_
        refine K.q [.pointer (some ⟨r_30, 0 + tk * 2, none⟩)] (K.z (K.t (K.s (K.s (K.g (K.q [.pointer (some ⟨r_30, 0 + tk * 2, none⟩), .pointer (some ⟨r_30, 0 + tk * 2, none⟩), .pointer (some ⟨r_30, 0 + tk * 2, none⟩)] ?_))))))
        refine K.d (.pointer none) (K.row_at0 (j := 0) (hS.ownr 0 rfl how_78) hcs_73 hall_74 rfl htl_75 rfl) ?_
        refine K.q [.bool false, .bool false] (K.n_ (K.n_ (K.n_ (K.n_ (K.n_ (K.n_ (K.q [.bool false] (K.z (K.t (K.f (K.s (K.g (K.q [.pointer (some ⟨r_30, 0 + tk * 2, none⟩), .pointer (some ⟨r_30, 0 + tk * 2, none⟩), .pointer (some ⟨r_30, 0 + tk * 2, none⟩)] ?_)))))))))))))
        refine K.d (.pointer none) (K.row_at0 (j := 0) (hS.ownr 0 rfl how_78) hcs_73 hall_74 rfl htl_75 rfl) ?_
        refine K.q [.bool true, .bool true, .pointer (some ⟨r_30, 0 + tk * 2, none⟩), .pointer (some ⟨r_30, 0 + tk * 2, none⟩), .pointer (some ⟨r_30, 0 + tk * 2 + 1, none⟩)] ?_
        refine K.d (.pointer (some ⟨pS, 0, none⟩)) (K.row_at0 (j := 1) (hS.ownr 0 rfl how_78) hcs_73 hall_74 rfl htl_75 rfl) ?_
        refine K.q [.pointer (some ⟨p_18, 0, none⟩)] ?_
        refine K.l (K.OW.gcall hS [2, 5, 6] [0, 1, 3, 4, 7, 8, 9] [.pointer (some ⟨pS, 0, none⟩), .pointer (some ⟨p_18, 0, none⟩)] (gvStep_ok _ _ _ _ _ _ _ c (by first | assumption | (unfold cfgOk; decide)) S M _ _ _ hge hl_25 x_64 (by assumption) (by assumption)) ?_)
        clear hS; rintro _ _ w ⟨g_114, l_115, rfl, rfl, h_116, x_117⟩ hS
        replace hS : K.Sat w0 [g_114, gl_22, l_115, row_68, hA_69, hB_71, l_15, m_24, g_2, fr] w := hS
        refine K.q [.bool ((gvStep c ((lns c).toNat) S M).1.done)] ?_
        cases hb_118 : (gvStep c ((lns c).toNat) S M).1.done
        ·
         refine K.z (K.t (K.f (K.k (K.t (K.s ?_)))))
         have hp3 := of_decide_eq_false hb_118
         have hd_119 : K.Hands (handElA b_17) 101 2 (row_68 ++ (hA_69 ++ ([g_114].flatten ++ hB_71))) ((some ⟨r_30, 0, none⟩)) (hs.set tk (.gv (gvStep c (lns c).toNat S M).1)) := hcl_79 _ _ _ [.pointer none, .pointer (some ⟨pS, 0, none⟩)] rfl ⟨_, rfl, by simpa using h_116⟩ how_78
         replace hS : K.Sat w0 [(row_68 ++ (hA_69 ++ ([g_114].flatten ++ hB_71))), gl_22, l_115, l_15, m_24, g_2, fr] w := (hS.pick [3, 4, 0, 5, 1, 2, 6, 7, 8, 9]).of (by simp [K.pick, K.nth])
         generalize (row_68 ++ (hA_69 ++ ([g_114].flatten ++ hB_71))) = ld_120 at hS hd_119
         have hst : armStep c (lns c).toNat c.th.toNat (tk : Int) (.gv S) M = ((.gv (gvStep c (lns c).toNat S M).1), (gvStep c (lns c).toNat S M).2) := by simp only [armStep]; rw [if_neg hp3]
         rw [hst] at hI2
         refine K.g (K.q [.pointer (some ⟨b_17, 0, none⟩), .pointer (some ⟨p_18, 0, none⟩), .slice (some ⟨r_30, 0, none⟩) c.th.toNat c.th.toNat, .pointer (some ⟨r_1, 1, none⟩)] ?_)
         refine K.d (.int .i64 c.sl) ((hS.blk 5 rfl hg_3).cell rfl) ?_
         refine K.l (K.OW.gcall hS [1, 2, 0] [3, 4, 5, 6] [.pointer (some ⟨b_17, 0, none⟩), .pointer (some ⟨p_18, 0, none⟩), .slice (some ⟨r_30, 0, none⟩) c.th.toNat c.th.toNat, .int .i64 c.sl] (once12_ok _ _ _ _ _ _ c (by first | assumption | (unfold cfgOk; decide)) (by omega) ((gvStep c ((lns c).toNat) S M).2) _ _ _ hl_25 x_117 hI2.f.mi.good hI2.f.mi.pl _ (hs.set tk (.gv (gvStep c (lns c).toNat S M).1)) _ (by rw [hI2.len]) (by omega) hd_119 L2 hI2.f.list hI2.f.mi.rg (hI2.f.mi.llen (by omega)) (hI2.heldb (by omega) (by omega)) hI2.ok hI2.cnt) ?_)
         clear hS; rintro _ _ w ⟨hd_121, rfl, rfl, x_122⟩ hS
         replace hS : K.Sat w0 [gl_22, l_115, hd_121, l_15, m_24, g_2, fr] w := hS
         refine K.q [.bool false] (K.z (K.t (K.f (K.k ?_))))
         refine K.blk_normal ?_
         refine K.t (K.g (K.q [.int .i64 ((i : Nat) : Int)] ?_))
         refine K.a (K.QR.n64 ((((i : Nat) : Int) : Int) + (1 : Int)) ((i + 1 : Nat) : Int) (by kernel_rfl) (by omega)) ?_
         refine K.q [.int .i64 ((i + 1 : Nat) : Int)] (K.z (K.t ?_))
         refine ⟨_, ?_, i + 1, (hs.set tk (.gv (gvStep c (lns c).toNat S M).1)), ((gvStep c ((lns c).toNat) S M).2), L2, hd_121, l_115, rfl, ⟨by rfl, by rfl, by rfl, by rfl, by rfl, by rfl, by rfl, by rfl, by rfl, trivial⟩, (by omega), (hI2), x_122, x_117, hS.pick [2, 3, 0, 1, 4, 5, 6]⟩
         omega
        ·
         refine K.z (K.t (K.h (K.s (K.g (K.q [.pointer (some ⟨r_30, 0 + tk * 2, none⟩), .pointer (some ⟨b_17, 0, none⟩), .int .i64 ((tk : Nat) : Int)] ?_)))))
         refine K.l (K.OW.gcall hS [] [0, 1, 2, 3, 4, 5, 6, 7, 8, 9] [.pointer (some ⟨b_17, 0, none⟩), .int .i64 ((tk : Nat) : Int)] (newtkE_ok _ b_17 ((tk : Nat) : Int) (by omega)) ?_)
         clear hS; rintro _ _ w ⟨p_123, g_124, rfl, rfl, h_125⟩ hS
         replace hS : K.Sat w0 [g_124, g_114, gl_22, l_115, row_68, hA_69, hB_71, l_15, m_24, g_2, fr] w := hS
         refine K.q [.pointer (some ⟨r_30, 0 + tk * 2, none⟩), .pointer (some ⟨r_30, 0 + tk * 2, none⟩)] ?_
         refine K.l (K.OW.grst 4 (0 + tk * 2 + 0) [.pointer (some ⟨p_123, 0, none⟩)] ((cs_72.set tk [.pointer (some ⟨p_123, 0, none⟩), .pointer (some ⟨pS, 0, none⟩)]).flatten) hS how_78 ?_ (by show _ + 1 ≤ _; omega) (K.set_at0 (j := 0) hcs_73 hall_74 rfl htl_75 (Nat.le_of_ble_eq_true rfl) rfl))
         clear hS; intro w l_126 o_127 hS
         replace hS : K.Sat w0 [g_124, g_114, gl_22, l_115, l_126, hA_69, hB_71, l_15, m_24, g_2, fr] w := hS
         refine K.z (K.t (K.g (K.q [.pointer (some ⟨r_30, 0 + tk * 2, none⟩), .pointer (some ⟨r_30, 0 + tk * 2, none⟩), .pointer (some ⟨r_30, 0 + tk * 2 + 1, none⟩)] ?_)))
         refine K.l (K.OW.grst 4 (0 + tk * 2 + 1) [.pointer none] ((cs_72.set tk [.pointer (some ⟨p_123, 0, none⟩), .pointer none]).flatten) hS o_127 ?_ (by show _ + 1 ≤ _; omega) (K.set_at0 (j := 1) hcs_73 hall_74 rfl htl_75 (Nat.le_of_ble_eq_true rfl) rfl))
         clear hS; intro w l_128 o_129 hS
         replace hS : K.Sat w0 [g_124, g_114, gl_22, l_115, l_128, hA_69, hB_71, l_15, m_24, g_2, fr] w := hS
         refine K.z (K.t (K.s ?_))
         have hp3 := of_decide_eq_true hb_118
         have hd_130 : K.Hands (handElA b_17) 101 2 (l_128 ++ (hA_69 ++ ([g_124].flatten ++ hB_71))) ((some ⟨r_30, 0, none⟩)) (hs.set tk (.tk (tkInit (tk : Int)))) := hcl_79 _ _ _ [.pointer (some ⟨p_123, 0, none⟩), .pointer none] rfl ⟨_, rfl, by simpa using h_125⟩ o_129
         replace hS : K.Sat w0 [(l_128 ++ (hA_69 ++ ([g_124].flatten ++ hB_71))), g_114, gl_22, l_115, l_15, m_24, g_2, fr] w := (hS.pick [4, 5, 0, 6, 1, 2, 3, 7, 8, 9, 10]).of (by simp [K.pick, K.nth])
         generalize (l_128 ++ (hA_69 ++ ([g_124].flatten ++ hB_71))) = ld_131 at hS hd_130
         have hst : armStep c (lns c).toNat c.th.toNat (tk : Int) (.gv S) M = ((.tk (tkInit (tk : Int))), (gvStep c (lns c).toNat S M).2) := by simp only [armStep]; rw [if_pos hp3]
         rw [hst] at hI2
         refine K.g (K.q [.pointer (some ⟨b_17, 0, none⟩), .pointer (some ⟨p_18, 0, none⟩), .slice (some ⟨r_30, 0, none⟩) c.th.toNat c.th.toNat, .pointer (some ⟨r_1, 1, none⟩)] ?_)
         refine K.d (.int .i64 c.sl) ((hS.blk 6 rfl hg_3).cell rfl) ?_
         refine K.l (K.OW.gcall hS [2, 3, 0] [1, 4, 5, 6, 7] [.pointer (some ⟨b_17, 0, none⟩), .pointer (some ⟨p_18, 0, none⟩), .slice (some ⟨r_30, 0, none⟩) c.th.toNat c.th.toNat, .int .i64 c.sl] (once12_ok _ _ _ _ _ _ c (by first | assumption | (unfold cfgOk; decide)) (by omega) ((gvStep c ((lns c).toNat) S M).2) _ _ _ hl_25 x_117 hI2.f.mi.good hI2.f.mi.pl _ (hs.set tk (.tk (tkInit (tk : Int)))) _ (by rw [hI2.len]) (by omega) hd_130 L2 hI2.f.list hI2.f.mi.rg (hI2.f.mi.llen (by omega)) (hI2.heldb (by omega) (by omega)) hI2.ok hI2.cnt) ?_)
         clear hS; rintro _ _ w ⟨hd_132, rfl, rfl, x_133⟩ hS
         replace hS : K.Sat w0 [gl_22, l_115, hd_132, g_114, l_15, m_24, g_2, fr] w := hS
         refine K.q [.bool false] (K.z (K.t (K.f (K.k ?_))))
         refine K.blk_normal ?_
         refine K.t (K.g (K.q [.int .i64 ((i : Nat) : Int)] ?_))
         refine K.a (K.QR.n64 ((((i : Nat) : Int) : Int) + (1 : Int)) ((i + 1 : Nat) : Int) (by kernel_rfl) (by omega)) ?_
         refine K.q [.int .i64 ((i + 1 : Nat) : Int)] (K.z (K.t ?_))
         refine ⟨_, ?_, i + 1, (hs.set tk (.tk (tkInit (tk : Int)))), ((gvStep c ((lns c).toNat) S M).2), L2, hd_132, l_115, rfl, ⟨by rfl, by rfl, by rfl, by rfl, by rfl, by rfl, by rfl, by rfl, by rfl, trivial⟩, (by omega), (hI2), x_133, x_117, hS.pick [2, 4, 0, 1, 5, 6, 7]⟩
         omega
      ·
       refine K.x ((((i : Nat) : Int) : Int) < (((xs.length : Nat) : Int) : Int)) h_65 ?_
       refine K.z (K.t (K.f ?_))
       refine K.KW.exit ?_
       refine K.thn_exit ?_
       refine K.thn_exit ?_
       refine K.blk_hit ?_
       refine K.t (K.s (K.g ?_))
       refine K.l (K.OW.gcall hS [] [0, 1, 2, 3, 4, 5, 6] [] (awake12_ok _) ?_)
       clear hS; rintro _ _ w ⟨rfl, rfl⟩ hS
       replace hS : K.Sat w0 [hd3, l_15, gl_22, l1, m_24, g_2, fr] w := hS
       refine K.q [.bool true, .bool true, .bool true, .bool true] (K.z (K.t (K.r ?_)))
       refine ⟨.inr rfl, rfl, (.bool true), K.res1 rfl rfl, [], ?_, hS.pick [6]⟩
       exact rfl
 ·
  replace hS : K.Sat w0 [g_2, fr] w := hS
  refine K.q [.bool true, .bool true] (K.n_ (K.n_ (K.n_ (K.q [.bool true] (K.z (K.t (K.h (K.s (K.g ?_)))))))))
  refine K.l (K.OW.gcall hS [] [0, 1] [] (awake12_ok _) ?_)
  clear hS; rintro _ _ w ⟨rfl, rfl⟩ hS
  replace hS : K.Sat w0 [g_2, fr] w := hS
  refine K.q [.bool true] (K.z (K.t (K.r (K.u ?_))))
  refine ⟨.inr rfl, rfl, (.bool true), K.res1 rfl rfl, [], ?_, hS.pick [1]⟩
  exact rfl
end Go.Proofs.YtbfafebfkdbglaaGreat
