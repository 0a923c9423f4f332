/- The statement FreeMany. -/
import Derived.Test.YtajkickofkeemaaFl9g
import Derived.Test.YtajkickofkeemaaLl9w
import Derived.Test.YtajkickofkeemaaKn
namespace Go.Proofs.Ytajkickofkeemaa
open Go.RowKit
set_option linter.unusedVariables false
attribute [local irreducible] K.KW K.RW K.DW K.OW K.QR K.KC
def startH (N j : Nat) : List HandM := ((List.range j).map fun (i : Nat) => HandM.pop ⟨(i : Int), 0, 0, 0, -1⟩) ++ List.replicate (N - j) .nil
theorem startH_len {N j : Nat} (h : j ≤ N) : (startH N j).length = N := by simp [startH]; omega
theorem startH_get {N j : Nat} (h : j < N) : (startH N j)[j]? = some .nil := by
 unfold startH
 rw [List.getElem?_append_right (by simp), show N - j = (N - (j + 1)) + 1 by omega, List.replicate_succ]
 simp
theorem startH_set {N j : Nat} (h : j < N) : (startH N j).set j (.pop ⟨(j : Int), 0, 0, 0, -1⟩) = startH N (j + 1) := by
 unfold startH
 rw [List.range_succ, List.map_append, List.set_append, if_neg (by simp), show N - j = (N - (j + 1)) + 1 by omega, List.replicate_succ]
 simp
theorem startH_full (N : Nat) : startH N N = (List.range N).map fun (i : Nat) => HandM.pop ⟨(i : Int), 0, 0, 0, -1⟩ := by simp [startH]
theorem startH_zero (N : Nat) : startH N 0 = List.replicate N .nil := by simp [startH]
theorem pushStep_slot {c : Cfg} {n : Nat} {S : PushS} {M : MemM} : (pushStep c n S M).1.slot = S.slot := by
 unfold pushStep
 (repeat' split) <;> rfl
theorem popStep_slotI {c : Cfg} {n : Nat} {S : PopS} {M : MemM} (h : isInt S.slot) : isInt (popStep c n S M).1.slot := by
 unfold popStep
 (repeat' split) <;> first | exact h | (show isInt (toI S.top); unfold toI; omega)
theorem MInv.llen {c : Cfg} {n : Nat} {M : MemM} {L : List Int} {j : Nat} (I : MInv c n M L j) (h : c.sl ≤ 30) : L.length ≤ 100 := by
 have := nodup_le c.sl.toNat L I.nd (fun y hy => by have := I.rg y hy; omega)
 omega
set_option maxHeartbeats 1000000 in
set_option maxRecDepth 100000 in
theorem l9many_ok (w0 : World) (c : Cfg) (a : Option Addr) (cap : Nat) (xs : List Int) (hx8 : ∀ i, i < xs.length → 0 ≤ xs.getD i 0 ∧ xs.getD i 0 ≤ 255) (hm : xs.length ≤ 9223372036854775807) (hx : K.RowE w0 a xs.length 1 (fun i => cU8 (xs.getD i 0))) :
  K.GC Try.prog w0 8 #[.agg #[.int .i64 c.th, .int .i64 c.sl, .int .i64 c.lo, .int .i64 c.bu], .slice a xs.length cap] [] (fun v post => v = .bool true) := by
 refine K.GC.mk (n := 162) Try.func8 rfl rfl [.agg #[.int .i64 c.th, .int .i64 c.sl, .int .i64 c.lo, .int .i64 c.bu], .slice a xs.length cap] rfl rfl ?_
 intro fr w hS
 replace hS : K.Sat w0 [fr] w := hS
 refine K.s (K.g ?_)
 refine K.l (K.OW.gnew 23 [.int .i64 c.th, .int .i64 c.sl, .int .i64 c.lo, .int .i64 c.bu] hS ?_)
 clear hS; intro w r_1 g_2 hg_3 hS
 refine K.q [.bool false] (K.z (K.t (K.s (K.s (K.g ?_)))))
 refine K.a (K.QR.ldN [.int .i64 c.th, .int .i64 c.sl, .int .i64 c.lo, .int .i64 c.bu] rfl rfl (by kernel_rfl) (by kernel_rfl) (K.cells (K.cl ((hS.blk 0 rfl hg_3).cell rfl) (K.cl ((hS.blk 0 rfl hg_3).cell rfl) (K.cl ((hS.blk 0 rfl hg_3).cell rfl) (K.cl ((hS.blk 0 rfl hg_3).cell rfl) K.cl0)))))) ?_
 refine K.l (K.OW.gcall hS [] [0, 1] [.agg #[.int .i64 c.th, .int .i64 c.sl, .int .i64 c.lo, .int .i64 c.bu]] (few09_ok _ c) ?_)
 clear hS; rintro _ _ w ⟨rfl, (⟨rfl, h_4⟩ | ⟨rfl, h_5⟩)⟩ hS
 ·
  replace hS : K.Sat w0 [g_2, fr] w := hS
  have hc_6 := h_4.1
  obtain ⟨hf_7, hf_8, hf_9, hf_10, hf_11⟩ := (show _ from (by have h := h_4; unfold fewC cfgOk at h; exact h))
  refine K.q [.bool false] (K.z (K.t (K.f (K.k (K.t (K.s (K.g (K.q [.slice none 0 0] (K.z (K.t ?_))))))))))
  refine K.KW.cut (fun F_ w_ => ∃ (m : Nat) (q2 : Option Addr) (c2 : Nat) (o2 : K.Cs), K.Sl F_ [(0, .agg #[.int .i64 c.th, .int .i64 c.sl, .int .i64 c.lo, .int .i64 c.bu]), (1, .slice a xs.length cap), (2, .pointer (some ⟨r_1, 0, none⟩)), (4, .bool false), (5, .slice q2 ((rangeI m).length) c2), (162, undef)] ∧ m ≤ 30 ∧ (m : Int) ≤ c.sl ∧ (m : Int) = c.sl ∧ K.OwnG o2 3 1 q2 ((rangeI m).length) c2 (((rangeI m)).flatMap cI64) ∧ K.Sat w0 [g_2, fr, o2] w_) ?_ ?_
  ·
   refine K.s (K.g (K.q [.int .i64 0] (K.z (K.t ?_))))
   refine K.KW.block ?_
   obtain ⟨z_12, hz_13⟩ : ∃ z : K.Cs, z = [] := ⟨_, rfl⟩
   replace hS : K.Sat w0 [z_12, g_2, fr] w := hS.of (by simp [hz_13])
   have o_14 : K.OwnG z_12 3 1 none 0 0 [] := by rw [hz_13]; exact K.OwnG.nil _ _
   refine K.KW.loop (fun m_ F_ w_ => ∃ (j : Nat) (q1 : Option Addr) (c1 : Nat) (o1 : K.Cs), m_ = 30 - j ∧ K.Sl F_ [(0, .agg #[.int .i64 c.th, .int .i64 c.sl, .int .i64 c.lo, .int .i64 c.bu]), (1, .slice a xs.length cap), (2, .pointer (some ⟨r_1, 0, none⟩)), (4, .bool false), (5, .slice q1 j c1), (6, .int .i64 ((j : Nat) : Int)), (162, undef)] ∧ j ≤ 30 ∧ (j : Int) ≤ c.sl ∧ K.OwnG o1 3 1 q1 j c1 (((rangeI j)).flatMap cI64) ∧ K.Sat w0 [o1, g_2, fr] w_) ((fun (j : Nat) (q1 : Option Addr) (c1 : Nat) => 30 - j) 0 none 0) ?_ ?_
   ·
    exact ⟨0, none, 0, z_12, rfl, ⟨by rfl, by rfl, by rfl, by rfl, by rfl, by rfl, by rfl, trivial⟩, (by omega), (by omega), o_14, hS.pick [0, 1, 2]⟩
   ·
    clear hS
    intro m_15 F_16 w hI
    obtain ⟨j, q1, c1, o1, rfl, sl_17, p_18, p_19, x_20, hS⟩ := hI
    rw [← K.Sl.puts sl_17]; clear sl_17
    refine K.s (K.s (K.g (K.q [.int .i64 ((j : Nat) : Int), .pointer (some ⟨r_1, 1, none⟩)] ?_)))
    refine K.d (.int .i64 c.sl) ((hS.blk 1 rfl hg_3).cell rfl) ?_
    by_cases h_21 : (((j : Nat) : Int) : Int) < (c.sl : Int)
    ·
     refine K.y ((((j : Nat) : Int) : Int) < (c.sl : Int)) h_21 ?_
     refine K.q [.bool true, .int .i64 ((j : Nat) : Int)] ?_
     by_cases h_22 : (((j : Nat) : Int) : Int) < (30 : Int)
     ·
      refine K.y ((((j : Nat) : Int) : Int) < (30 : Int)) h_22 ?_
      refine K.q [.bool true] (K.z (K.t (K.h (K.k (K.t (K.s ?_))))))
      refine K.KW.block ?_
      refine K.g (K.q [.slice q1 j c1, .int .i64 ((j : Nat) : Int)] ?_)
      refine K.l (K.OW.gbs [(0, .int .i64 ((j : Nat) : Int))] [.int .i64 ((j : Nat) : Int)] hS (fun w => K.bs_run (P := Try.prog) w 63 3 1 _ _ Try.underlying63 (by kernel_rfl)) ?_)
      clear hS; intro w r_23 g_24 hg_25 hS
      refine K.l (K.OW.gapp (P := Try.prog) (xs := ((rangeI j)).flatMap cI64) (z := .int .i64 0) (size := 1) (bytes := 8) 1 [.int .i64 ((j : Nat) : Int)] hS x_20 ?_ (fun j u hj => (by rw [Nat.zero_add]; exact (hS.blk 0 rfl hg_25).cell hj)) (K.one_cells (by rfl)) (by rfl) Try.underlying63 (by kernel_rfl) rfl (by decide) (by unfold maxLen; omega) (by omega))
      clear hS; intro a_26 cap_27 w l_28 o_29 hS
      have ln_30 : (((rangeI j) ++ [(((j : Nat) : Int) : Int)])).length = j + 1 := by rw [List.length_append, (rangeI_len j)]; rfl
      have o_29c := K.OwnG.cast (xs' := (((rangeI j) ++ [(((j : Nat) : Int) : Int)])).flatMap cI64) o_29 rfl (K.fl_snoc cI64 (rangeI j) _ rfl)
      replace hS : K.Sat w0 [g_24, l_28, g_2, fr] w := hS
      refine K.q [.slice a_26 (j + 1) cap_27] (K.z ?_)
      refine K.blk_normal ?_
      refine K.t (K.g (K.q [.int .i64 ((j : Nat) : Int)] ?_))
      refine K.a (K.QR.n64 ((((j : Nat) : Int) : Int) + (1 : Int)) ((j + 1 : Nat) : Int) (by kernel_rfl) (by omega)) ?_
      refine K.q [.int .i64 ((j + 1 : Nat) : Int)] (K.z (K.t ?_))
      refine ⟨_, ?_, j + 1, a_26, cap_27, l_28, rfl, ⟨by rfl, by rfl, by rfl, by rfl, by rfl, by rfl, by rfl, trivial⟩, (by omega), (by omega), (by rw [rangeI_succ]; exact o_29c), hS.pick [1, 2, 3]⟩
      omega
     ·
      refine K.x ((((j : Nat) : Int) : Int) < (30 : Int)) h_22 ?_
      refine K.q [.bool false] (K.z (K.t (K.f ?_)))
      refine K.KW.exit ?_
      refine K.thn_exit ?_
      refine K.thn_exit ?_
      refine K.blk_hit ?_
      refine K.t ?_
      exact ⟨j, q1, c1, o1, ⟨by rfl, by rfl, by rfl, by rfl, congrArg (fun m_ => Value.slice q1 m_ c1) (rangeI_len j).symm, by rfl, trivial⟩, (by omega), (by omega), (by omega), (by rw [rangeI_len]; exact x_20), hS.pick [1, 2, 0]⟩
    ·
     refine K.x ((((j : Nat) : Int) : Int) < (c.sl : Int)) h_21 ?_
     refine K.q [.bool false] ?_
     refine K.RW.skip rfl (by kernel_rfl) ?_
     refine K.RW.skip rfl (by kernel_rfl) ?_
     refine K.q [.bool false] (K.z (K.t (K.f ?_)))
     refine K.KW.exit ?_
     refine K.thn_exit ?_
     refine K.thn_exit ?_
     refine K.blk_hit ?_
     refine K.t ?_
     exact ⟨j, q1, c1, o1, ⟨by rfl, by rfl, by rfl, by rfl, congrArg (fun m_ => Value.slice q1 m_ c1) (rangeI_len j).symm, by rfl, trivial⟩, (by omega), (by omega), (by omega), (by rw [rangeI_len]; exact x_20), hS.pick [1, 2, 0]⟩
  ·
   clear hS
   intro F_31 w hI
   obtain ⟨m, q2, c2, o2, sl_32, p_33, p_34, p_35, x_36, hS⟩ := hI
   rw [← K.Sl.puts sl_32]; clear sl_32
   have hrl := rangeI_len m
   refine K.s (K.g ?_)
   refine K.a (K.QR.ldN [.int .i64 c.th, .int .i64 c.sl, .int .i64 c.lo, .int .i64 c.bu] rfl rfl (by kernel_rfl) (by kernel_rfl) (K.cells (K.cl ((hS.blk 0 rfl hg_3).cell rfl) (K.cl ((hS.blk 0 rfl hg_3).cell rfl) (K.cl ((hS.blk 0 rfl hg_3).cell rfl) (K.cl ((hS.blk 0 rfl hg_3).cell rfl) K.cl0)))))) ?_
   refine K.q [.slice q2 ((rangeI m).length) c2] ?_
   refine K.l (K.OW.gcall hS [2] [0, 1] [.agg #[.int .i64 c.th, .int .i64 c.sl, .int .i64 c.lo, .int .i64 c.bu], .slice q2 ((rangeI m).length) c2] (rows_ok _ c (by first | assumption | (unfold cfgOk; decide)) _ _ (rangeI m) (by first | omega | decide | (have h := rfl; omega)) _ (fun w h => K.RowE.len (K.Own.rowE 0 (h.ownr 0 rfl x_36) rfl (fun _ => rfl)) rfl)) ?_)
   clear hS; rintro _ _ w ⟨r_37, c_38, l_39, rfl, rfl, o_40⟩ hS
   replace hS : K.Sat w0 [o2, l_39, g_2, fr] w := hS
   refine K.l (K.OW.gcall hS [1] [0, 2, 3] [.agg #[.int .i64 c.th, .int .i64 c.sl, .int .i64 c.lo, .int .i64 c.bu, .slice r_37 ((rowsTo c (rangeI m) (rangeI m).length).length) c_38]] (layS_ok _ c _ _ (rowsTo c (rangeI m) (rangeI m).length) (fun j hj => (rows_good (by assumption) _ _ j hj).1) (⟨by assumption, by rw [rowsTo_len, rangeI_len]; omega⟩) _ (fun w h => K.RowE.len (K.Own.rowE pu0 (h.ownr 0 rfl o_40) rfl (fun _ => rfl)) rfl)) ?_)
   clear hS; rintro _ _ w ⟨b_41, p_42, q_43, r_44, u_45, _, _, gl_46, l_47, m_48, rfl, rfl, hl_49, x_50, y_51, rfl, rfl, hf_52, hp_53⟩ hS
   replace hS : K.Sat w0 [l_39, gl_46, l_47, m_48, o2, g_2, fr] w := hS
   have hF := fground (c := c) (n := ((lns c).toNat)) (t := (c.th.toNat)) (k := (2 + c.th + c.sl).toNat) (m := m) (by omega) (by omega) (by omega) (by omega) (by assumption)
   rw [show (rangeI m).length = m from rangeI_len m] at x_50
   generalize groundM ((lns c).toNat) (c.th.toNat) (2 + c.th + c.sl).toNat (rowsTo c (rangeI m) m) = M0 at x_50 hF
   have hM0 := hF.good
   have hcl0 := hF.cl
   refine K.q [.tuple #[.pointer (some ⟨b_41, 0, none⟩), .pointer (some ⟨p_42, 0, none⟩), .pointer (some ⟨r_44, 0, none⟩), .bool true], .pointer (some ⟨b_41, 0, none⟩), .pointer (some ⟨p_42, 0, none⟩), .pointer (some ⟨r_44, 0, none⟩), .bool true, .pointer (some ⟨b_41, 0, none⟩), .pointer (some ⟨p_42, 0, none⟩), .pointer (some ⟨r_44, 0, none⟩), .bool true] (K.z (K.t (K.s (K.s (K.g (K.q [.bool true, .bool false, .bool false, .slice a xs.length cap] ?_))))))
   refine K.a (K.QR.len (P := Try.prog) rfl rfl Try.underlying25) ?_
   by_cases h_54 : (((xs.length : Nat) : Int) : Int) > (300 : Int)
   ·
    refine K.y ((((xs.length : Nat) : Int) : Int) > (300 : Int)) h_54 ?_
    refine K.q [.bool true] (K.z (K.t (K.h (K.s (K.g ?_)))))
    refine K.l (K.OW.gcall hS [] [0, 1, 2, 3, 4, 5, 6] [] (awake09_ok _) ?_)
    clear hS; rintro _ _ w ⟨rfl, rfl⟩ hS
    replace hS : K.Sat w0 [l_39, gl_46, l_47, m_48, o2, g_2, fr] w := hS
    refine K.q [.bool true] (K.z (K.t (K.r (K.u ?_))))
    refine ⟨.inr rfl, rfl, (.bool true), K.res1 rfl rfl, [], ?_, hS.pick [6]⟩
    exact rfl
   ·
    refine K.x ((((xs.length : Nat) : Int) : Int) > (300 : Int)) h_54 ?_
    refine K.q [.bool false] (K.z (K.t (K.f (K.k (K.t (K.s (K.g (K.q [.pointer (some ⟨r_1, 0, none⟩)] ?_))))))))
    refine K.a (K.QR.turn (v := .int .i64 c.th) (K.QR.ld1 (v := .int .i64 c.th) rfl rfl (by kernel_rfl) ((hS.blk 5 rfl hg_3).cell rfl)) (congrArg (Value.int .i64) (show (c.th : Int) = (((c.th.toNat : Nat) : Int) : Int) from by omega))) ?_
    refine K.l (K.OW.gmk (P := Try.prog) (m := c.th.toNat) (cc := cRaw9) (z := .agg #[.pointer none, .pointer none, .int .i64 0]) (size := 3) (bytes := 24) ([.pointer none, .pointer none, .int .i64 0] : List Value) hS ?_ Try.underlying69 (by kernel_rfl) rfl rfl (by unfold maxLen; omega) (by omega))
    clear hS; intro w r_55 l_56 o_57 hS
    refine K.q [.slice (some ⟨r_55, 0, none⟩) c.th.toNat c.th.toNat] (K.z (K.t (K.s (K.s (K.g (K.q [.int .i64 0] (K.z (K.t ?_))))))))
    refine K.KW.block ?_
    have hd_58 : K.Hands (handEl9 b_41) 74 3 l_56 ((some ⟨r_55, 0, none⟩)) (List.replicate c.th.toNat (HandM.nil)) := K.Hands.init (by have h := o_57; rwa [K.rep_flat] at h) rfl ⟨rfl, rfl⟩
    rw [← startH_zero] at hd_58
    refine K.KW.loop (fun m_ F_ w_ => ∃ (j : Nat) (hd1 : K.Cs), m_ = c.th.toNat - j ∧ K.Sl F_ [(0, .agg #[.int .i64 c.th, .int .i64 c.sl, .int .i64 c.lo, .int .i64 c.bu]), (1, .slice a xs.length cap), (2, .pointer (some ⟨r_1, 0, none⟩)), (4, .bool false), (7, .pointer (some ⟨b_41, 0, none⟩)), (8, .pointer (some ⟨p_42, 0, none⟩)), (11, .slice (some ⟨r_55, 0, none⟩) c.th.toNat c.th.toNat), (12, .int .i64 ((j : Nat) : Int)), (162, undef)] ∧ j ≤ c.th.toNat ∧ K.Hands (handEl9 b_41) 74 3 hd1 ((some ⟨r_55, 0, none⟩)) (startH c.th.toNat j) ∧ K.Sat w0 [hd1, l_39, gl_46, l_47, m_48, o2, g_2, fr] w_) ((fun (j : Nat) => c.th.toNat - j) 0) ?_ ?_
    ·
     exact ⟨0, l_56, rfl, ⟨by rfl, by rfl, by rfl, by rfl, by rfl, by rfl, by rfl, by rfl, by rfl, trivial⟩, (by omega), hd_58, hS.pick [0, 1, 2, 3, 4, 5, 6, 7]⟩
    ·
     clear hS
     intro m_59 F_60 w hI
     obtain ⟨j, hd1, rfl, sl_61, p_62, x_63, hS⟩ := hI
     rw [← K.Sl.puts sl_61]; clear sl_61
     refine K.s (K.s (K.g (K.q [.int .i64 ((j : Nat) : Int), .pointer (some ⟨r_1, 0, none⟩)] ?_)))
     refine K.d (.int .i64 c.th) ((hS.blk 6 rfl hg_3).cell rfl) ?_
     by_cases h_64 : (((j : Nat) : Int) : Int) < (c.th : Int)
     ·
      refine K.y ((((j : Nat) : Int) : Int) < (c.th : Int)) h_64 ?_
      refine K.z (K.t (K.h (K.k (K.t (K.s ?_)))))
      refine K.KW.block ?_
      have hsl := startH_len (N := c.th.toNat) (j := j) (by omega)
      obtain ⟨row_65, hA_66, hg_67, hB_68, cs_69, rfl, hcs_70, hall_71, htl_72, hct_73, hel_74, how_75, hcl_76⟩ := x_63.open_ j HandM.nil (startH_get (by omega))
      replace hS : K.Sat w0 [row_65, hA_66, hg_67, hB_68, l_39, gl_46, l_47, m_48, o2, g_2, fr] w := hS.of
      obtain ⟨hce, _⟩ := hel_74
      rw [hce] at how_75
      refine K.g (K.q [.slice (some ⟨r_55, 0, none⟩) c.th.toNat c.th.toNat, .int .i64 ((j : Nat) : Int), .pointer (some ⟨b_41, 0, none⟩), .int .i64 ((j : Nat) : Int)] ?_)
      refine K.l (K.OW.gcall hS [] [0, 1, 2, 3, 4, 5, 6, 7, 8, 9, 10] [.pointer (some ⟨b_41, 0, none⟩), .int .i64 ((j : Nat) : Int)] (newPop_ok _ _ ((j : Nat) : Int)) ?_)
      clear hS; rintro _ _ w ⟨p_77, g_78, rfl, rfl, h_79⟩ hS
      replace hS : K.Sat w0 [g_78, row_65, hA_66, hg_67, hB_68, l_39, gl_46, l_47, m_48, o2, g_2, fr] w := hS
      have hS_80 : PopS.good (⟨((j : Nat) : Int), 0, 0, 0, -1⟩ : PopS) := popInit (by omega)
      refine K.a (K.QR.bd [(0, .pointer (some ⟨p_77, 0, none⟩)), (2, .int .i64 (-1))] [.pointer (some ⟨p_77, 0, none⟩), .pointer none, .int .i64 (-1)] rfl rfl (by kernel_rfl)) ?_
      refine K.a (K.QR.ix (0 + j * 3) 3 rfl rfl rfl Try.underlying69 (by kernel_rfl) (by omega) (by first | (simp; done) | omega | (simp; omega))) ?_
      refine K.l (K.OW.grst 1 (0 + j * 3 + 0) [.pointer (some ⟨p_77, 0, none⟩), .pointer none, .int .i64 (-1)] ((cs_69.set j [.pointer (some ⟨p_77, 0, none⟩), .pointer none, .int .i64 (-1)]).flatten) hS how_75 ?_ (by show _ + 3 ≤ _; omega) (K.set_at0 (j := 0) hcs_70 hall_71 rfl htl_72 (Nat.le_of_ble_eq_true rfl) rfl))
      clear hS; intro w l_81 o_82 hS
      replace hS : K.Sat w0 [g_78, l_81, hA_66, hg_67, hB_68, l_39, gl_46, l_47, m_48, o2, g_2, fr] w := hS
      refine K.z ?_
      refine K.blk_normal ?_
      refine K.t ?_
      have hd_83 : K.Hands (handEl9 b_41) 74 3 (l_81 ++ (hA_66 ++ ([g_78].flatten ++ hB_68))) ((some ⟨r_55, 0, none⟩)) ((startH c.th.toNat j).set j (.pop ⟨(j : Int), 0, 0, 0, -1⟩)) := hcl_76 _ _ _ [.pointer (some ⟨p_77, 0, none⟩), .pointer none, .int .i64 (-1)] rfl ⟨_, rfl, by simp [h_79]⟩ o_82
      replace hS : K.Sat w0 [(l_81 ++ (hA_66 ++ ([g_78].flatten ++ hB_68))), l_39, gl_46, l_47, m_48, o2, g_2, fr] w := (hS.pick [1, 2, 0, 4, 5, 6, 7, 8, 9, 10, 11]).of (by simp [K.pick, K.nth])
      generalize (l_81 ++ (hA_66 ++ ([g_78].flatten ++ hB_68))) = ld_84 at hS hd_83
      rw [startH_set (by omega)] at hd_83
      refine K.g (K.q [.int .i64 ((j : Nat) : Int)] ?_)
      refine K.a (K.QR.n64 ((((j : Nat) : Int) : Int) + (1 : Int)) ((j + 1 : Nat) : Int) (by kernel_rfl) (by omega)) ?_
      refine K.q [.int .i64 ((j + 1 : Nat) : Int)] (K.z (K.t ?_))
      refine ⟨_, ?_, j + 1, ld_84, rfl, ⟨by rfl, by rfl, by rfl, by rfl, by rfl, by rfl, by rfl, by rfl, by rfl, trivial⟩, (by omega), hd_83, hS.pick [0, 1, 2, 3, 4, 5, 6, 7]⟩
      omega
     ·
      refine K.x ((((j : Nat) : Int) : Int) < (c.th : Int)) h_64 ?_
      refine K.z (K.t (K.f ?_))
      refine K.KW.exit ?_
      refine K.thn_exit ?_
      refine K.thn_exit ?_
      refine K.blk_hit ?_
      refine K.t (K.s (K.s (K.g (K.q [.int .i64 0] (K.z (K.t ?_))))))
      refine K.KW.block ?_
      have ej : j = c.th.toNat := by omega
      have hI0 := FInv.start hF (by omega) (by omega)
      rw [← startH_full, ← ej] at hI0
      refine K.KW.loop (fun m_ F_ w_ => ∃ (i : Nat) (hs : List HandM) (M : MemM) (L : List Int) (hd3 : K.Cs) (l1 : K.Cs), m_ = xs.length - i ∧ K.Sl F_ [(0, .agg #[.int .i64 c.th, .int .i64 c.sl, .int .i64 c.lo, .int .i64 c.bu]), (1, .slice a xs.length cap), (2, .pointer (some ⟨r_1, 0, none⟩)), (7, .pointer (some ⟨b_41, 0, none⟩)), (8, .pointer (some ⟨p_42, 0, none⟩)), (11, .slice (some ⟨r_55, 0, none⟩) c.th.toNat c.th.toNat), (13, .int .i64 ((i : Nat) : Int)), (162, undef)] ∧ i ≤ xs.length ∧ FInv c (lns c).toNat hs M L i ∧ K.Hands (handEl9 b_41) 74 3 hd3 ((some ⟨r_55, 0, none⟩)) hs ∧ MemAt l1 p_42 q_43 ((lns c).toNat) (c.th.toNat) M ∧ K.Sat w0 [hd3, l_39, gl_46, l1, m_48, o2, g_2, fr] w_) ((fun (i : Nat) (hs : List HandM) (M : MemM) (L : List Int) => xs.length - i) 0 (startH c.th.toNat j) M0 (rangeI m)) ?_ ?_
      ·
       exact ⟨0, (startH c.th.toNat j), M0, (rangeI m), hd1, l_47, rfl, ⟨by rfl, by rfl, by rfl, by rfl, by rfl, by rfl, by rfl, by rfl, trivial⟩, (by omega), (ej ▸ hI0), x_63, x_50, hS.pick [0, 1, 2, 3, 4, 5, 6, 7]⟩
      ·
       clear hS
       intro m_85 F_86 w hI
       obtain ⟨i, hs, M, L, hd3, l1, rfl, sl_87, p_88, hI, x_89, x_90, hS⟩ := hI
       rw [← K.Sl.puts sl_87]; clear sl_87
       refine K.s (K.s (K.g (K.q [.int .i64 ((i : Nat) : Int), .slice a xs.length cap] ?_)))
       refine K.a (K.QR.len (P := Try.prog) rfl rfl Try.underlying25) ?_
       by_cases h_91 : (((i : Nat) : Int) : Int) < (((xs.length : Nat) : Int) : Int)
       ·
        refine K.y ((((i : Nat) : Int) : Int) < (((xs.length : Nat) : Int) : Int)) h_91 ?_
        refine K.z (K.t (K.h (K.k (K.t (K.s ?_)))))
        refine K.KW.block ?_
        refine K.s ?_
        have hx8j := hx8 i (by omega)
        have hrl : 0 ≤ ((xs.getD i 0 : Int)) % ((c.th : Int)) ∧ ((xs.getD i 0 : Int)) % ((c.th : Int)) < (c.th : Int) := ⟨Int.emod_nonneg _ (by omega), Int.emod_lt_of_pos _ (by omega)⟩
        obtain ⟨tk, htk⟩ : ∃ q : Nat, (((xs.getD i 0 : Int)) % ((c.th : Int)) : Int) = q := ⟨(((xs.getD i 0 : Int)) % ((c.th : Int)) : Int).toNat, by omega⟩
        obtain ⟨b_92, of_93, rfl, _⟩ := hx.at_ (by omega)
        refine K.KW.gdrawn [] hS (by kernel_rfl) ?_
        clear hS; intro w hS
        refine K.DW.q 0 (by kernel_rfl) rfl rfl (by kernel_rfl) rfl (fun w hS => K.QR.k (v := .slice (some ⟨b_92, of_93, none⟩) xs.length cap) (by kernel_rfl)) (hS.pick []) ?_
        refine K.DW.q 1 (by kernel_rfl) rfl rfl (by kernel_rfl) rfl (fun w hS => K.QR.k (v := .int .i64 ((i : Nat) : Int)) (by kernel_rfl)) (hS.pick []) ?_
        refine K.DW.q 2 (by kernel_rfl) rfl rfl (by kernel_rfl) rfl (fun w hS => K.QR.ix (of_93 + i * 1) 1 rfl rfl rfl Try.underlying25 (by kernel_rfl) (by omega) (by first | (simp; done) | omega | (simp; omega))) (hS.pick []) ?_
        refine K.DW.q 3 (by kernel_rfl) rfl rfl (by kernel_rfl) rfl (fun w hS => K.QR.ld1 (v := .int .u8 (xs.getD i 0)) rfl rfl (by kernel_rfl) ((hx.no hS.chg).ld i (by omega) 0 _ rfl)) (hS.pick []) ?_
        refine K.DW.q 4 (by kernel_rfl) rfl rfl (by kernel_rfl) rfl (fun w hS => K.QR.nice (v := .int .i64 (IntKind.i64.wrap (xs.getD i 0))) (by kernel_rfl) (congrArg (Value.int .i64) (IntWalk.i64_in _ (by omega)))) (hS.pick []) ?_
        refine K.DW.l 5 rfl (by kernel_rfl) rfl (K.OW.q rfl (K.QR.k (v := .pointer (some ⟨r_1, 0, none⟩)) (by kernel_rfl)) ?_)
        refine ⟨.inl (hS.pick []), ?_⟩
        refine K.DW.l 6 rfl (by kernel_rfl) rfl (K.OW.q rfl (K.QR.ld1 (v := .int .i64 c.th) rfl rfl (by kernel_rfl) ((hS.blk 6 rfl hg_3).cell rfl)) ?_)
        refine ⟨.inl (hS.pick []), ?_⟩
        refine K.DW.l 7 rfl (by kernel_rfl) rfl (K.OW.q rfl (K.QR.remV rfl rfl rfl (by omega) (by omega) htk) ?_)
        refine ⟨.inl (hS.pick []), ?_⟩
        refine K.DW.l 8 rfl (by kernel_rfl) rfl (K.OW.q rfl (K.QR.k (v := .int .i64 ((tk : Nat) : Int)) (by kernel_rfl)) ?_)
        refine ⟨.inl (hS.pick []), ?_⟩
        refine K.DW.done (by kernel_rfl) ?_
        refine K.t (K.s (K.g (K.q [.slice (some ⟨r_55, 0, none⟩) c.th.toNat c.th.toNat, .int .i64 ((tk : Nat) : Int)] ?_)))
        refine K.a (K.QR.ix (0 + tk * 3) 3 rfl rfl rfl Try.underlying69 (by kernel_rfl) (by omega) (by first | (simp; done) | omega | (simp; omega))) ?_
        refine K.q [.pointer (some ⟨r_55, 0 + tk * 3, none⟩)] (K.z (K.t (K.s (K.s ?_))))
        have hlen := hI.len
        obtain ⟨h0, hSo⟩ := hs_at (hs := hs) (t := tk) (by omega)
        have hok := hI.ok tk h0 hSo
        have hMg := hI.mi.good
        obtain ⟨row_94, hA_95, hg_96, hB_97, cs_98, rfl, hcs_99, hall_100, htl_101, hct_102, hel_103, how_104, hcl_105⟩ := x_89.open_ tk h0 hSo
        replace hS : K.Sat w0 [row_94, hA_95, hg_96, hB_97, l_39, gl_46, l1, m_48, o2, g_2, fr] w := hS.of
        cases h0 with
        | nil => exact hok.elim
        | pop S =>
         obtain ⟨pS, hce, hge⟩ := hel_103
         have hSg : S.good := hok.1
         rw [hce] at how_104
         replace hS : K.Sat w0 [row_94, hA_95, hg_96, hB_97, l_39, gl_46, l1, m_48, o2, g_2, fr] w := hS.of (by simp [K.pick, K.nth])
         refine K.g (K.q [.pointer (some ⟨r_55, 0 + tk * 3, none⟩), .pointer (some ⟨r_55, 0 + tk * 3, none⟩), .pointer (some ⟨r_55, 0 + tk * 3, none⟩)] ?_)
         refine K.d (.pointer (some ⟨pS, 0, none⟩)) (K.row_at0 (j := 0) (hS.ownr 0 rfl how_104) hcs_99 hall_100 rfl htl_101 rfl) ?_
         refine K.q [.bool true, .bool true, .pointer (some ⟨r_55, 0 + tk * 3, none⟩), .pointer (some ⟨r_55, 0 + tk * 3, none⟩), .pointer (some ⟨r_55, 0 + tk * 3, none⟩)] ?_
         refine K.d (.pointer (some ⟨pS, 0, none⟩)) (K.row_at0 (j := 0) (hS.ownr 0 rfl how_104) hcs_99 hall_100 rfl htl_101 rfl) ?_
         refine K.q [.pointer (some ⟨p_42, 0, none⟩)] ?_
         refine K.l (K.OW.gcall hS [2, 5, 6] [0, 1, 3, 4, 7, 8, 9, 10] [.pointer (some ⟨pS, 0, none⟩), .pointer (some ⟨p_42, 0, none⟩)] (popStep_ok _ _ _ _ _ _ _ c (by first | assumption | (unfold cfgOk; decide)) S _ _ _ _ hge hl_49 x_90 (by assumption) (by assumption)) ?_)
         clear hS; rintro _ _ w ⟨g_106, l_107, rfl, rfl, h_108, x_109⟩ hS
         replace hS : K.Sat w0 [g_106, gl_46, l_107, row_94, hA_95, hB_97, l_39, m_48, o2, g_2, fr] w := hS
         obtain ⟨hS_110, hM_111⟩ := (popStep_good (by assumption) (by assumption) : (popStep c ((lns c).toNat) S M).1.good ∧ (popStep c ((lns c).toNat) S M).2.good)
         cases hb_112 : (decide ((popStep c ((lns c).toNat) S M).1.pc = 3))
         ·
          refine K.q [.bool false] (K.z (K.t (K.f (K.s (K.g (K.q [.pointer (some ⟨r_55, 0 + tk * 3, none⟩), .pointer (some ⟨r_55, 0 + tk * 3, none⟩), .pointer (some ⟨r_55, 0 + tk * 3, none⟩)] ?_))))))
          refine K.d (.pointer (some ⟨pS, 0, none⟩)) (K.row_at0 (j := 0) (hS.ownr 3 rfl how_104) hcs_99 hall_100 rfl htl_101 rfl) ?_
          refine K.q [.bool false, .bool false] ?_
          refine K.RW.skip rfl (by kernel_rfl) ?_
          refine K.RW.skip rfl (by kernel_rfl) ?_
          refine K.RW.skip rfl (by kernel_rfl) ?_
          refine K.RW.skip rfl (by kernel_rfl) ?_
          refine K.RW.skip rfl (by kernel_rfl) ?_
          refine K.RW.skip rfl (by kernel_rfl) ?_
          refine K.q [.bool false] (K.z (K.t (K.f (K.k (K.t (K.s ?_))))))
          have hp3 := of_decide_eq_false hb_112
          have hd_113 : K.Hands (handEl9 b_41) 74 3 (row_94 ++ (hA_95 ++ ([g_106].flatten ++ hB_97))) ((some ⟨r_55, 0, none⟩)) (hs.set tk (.pop (popStep c (lns c).toNat S M).1)) := hcl_105 _ _ _ [.pointer (some ⟨pS, 0, none⟩), .pointer none, .int .i64 (-1)] rfl ⟨_, rfl, by simp [h_108]⟩ how_104
          replace hS : K.Sat w0 [(row_94 ++ (hA_95 ++ ([g_106].flatten ++ hB_97))), gl_46, l_107, l_39, m_48, o2, g_2, fr] w := (hS.pick [3, 4, 0, 5, 1, 2, 6, 7, 8, 9, 10]).of (by simp [K.pick, K.nth])
          generalize (row_94 ++ (hA_95 ++ ([g_106].flatten ++ hB_97))) = ld_114 at hS hd_113
          have hst : handStep c (lns c).toNat (tk : Int) (.pop S) M = ((.pop (popStep c (lns c).toNat S M).1), (popStep c (lns c).toNat S M).2) := by simp only [handStep]; rw [if_neg hp3]
          obtain ⟨L_115, hI_116⟩ := FInv.next (t := (tk : Int)) (by omega) (by omega) hI (by omega) hSo
          rw [hst] at hI_116
          refine K.g (K.q [.pointer (some ⟨b_41, 0, none⟩), .pointer (some ⟨p_42, 0, none⟩), .slice (some ⟨r_55, 0, none⟩) c.th.toNat c.th.toNat, .pointer (some ⟨r_1, 1, none⟩)] ?_)
          refine K.d (.int .i64 c.sl) ((hS.blk 6 rfl hg_3).cell rfl) ?_
          refine K.l (K.OW.gcall hS [1, 2, 0] [3, 4, 5, 6, 7] [.pointer (some ⟨b_41, 0, none⟩), .pointer (some ⟨p_42, 0, none⟩), .slice (some ⟨r_55, 0, none⟩) c.th.toNat c.th.toNat, .int .i64 c.sl] (once9_ok _ _ _ _ _ _ c (by first | assumption | (unfold cfgOk; decide)) (by omega) ((popStep c ((lns c).toNat) S M).2) _ _ _ hl_49 x_109 hI_116.mi.good hI_116.mi.pl _ (hs.set tk (.pop (popStep c (lns c).toNat S M).1)) _ (by rw [hI_116.len]) (by omega) hd_113 L_115 hI_116.list hI_116.mi.rg (hI_116.mi.llen (by omega)) (hI_116.heldb (by omega) (by omega)) hI_116.nonil hI_116.cnt) ?_)
          clear hS; rintro _ _ w ⟨hd_117, rfl, rfl, x_118⟩ hS
          replace hS : K.Sat w0 [gl_46, l_107, hd_117, l_39, m_48, o2, g_2, fr] w := hS
          refine K.q [.bool false] (K.z (K.t (K.f (K.k ?_))))
          refine K.blk_normal ?_
          refine K.t (K.g (K.q [.int .i64 ((i : Nat) : Int)] ?_))
          refine K.a (K.QR.n64 ((((i : Nat) : Int) : Int) + (1 : Int)) ((i + 1 : Nat) : Int) (by kernel_rfl) (by omega)) ?_
          refine K.q [.int .i64 ((i + 1 : Nat) : Int)] (K.z (K.t ?_))
          refine ⟨_, ?_, i + 1, (hs.set tk (.pop (popStep c (lns c).toNat S M).1)), ((popStep c ((lns c).toNat) S M).2), L_115, hd_117, l_107, rfl, ⟨by rfl, by rfl, by rfl, by rfl, by rfl, by rfl, by rfl, by rfl, trivial⟩, (by omega), (hI_116), x_118, x_109, hS.pick [2, 3, 0, 1, 4, 5, 6, 7]⟩
          omega
         ·
          refine K.q [.bool true] (K.z (K.t (K.h (K.s (K.g (K.q [.pointer (some ⟨r_55, 0 + tk * 3, none⟩), .pointer (some ⟨r_55, 0 + tk * 3, none⟩), .pointer (some ⟨r_55, 0 + tk * 3, none⟩), .pointer (some ⟨r_55, 0 + tk * 3, none⟩)] ?_))))))
          refine K.d (.pointer (some ⟨pS, 0, none⟩)) (K.row_at0 (j := 0) (hS.ownr 3 rfl how_104) hcs_99 hall_100 rfl htl_101 rfl) ?_
          refine K.l (K.OW.gcall hS [0] [1, 2, 3, 4, 5, 6, 7, 8, 9, 10] [.pointer (some ⟨pS, 0, none⟩)] (popSlot_ok _ _ _ (popStep c ((lns c).toNat) S M).1 _ h_108) ?_)
          clear hS; rintro _ _ w ⟨rfl, rfl⟩ hS
          replace hS : K.Sat w0 [g_106, gl_46, l_107, row_94, hA_95, hB_97, l_39, m_48, o2, g_2, fr] w := hS
          refine K.q [.pointer (some ⟨r_55, 0 + tk * 3, none⟩), .pointer (some ⟨r_55, 0 + tk * 3 + 2, none⟩)] ?_
          refine K.l (K.OW.grst 3 (0 + tk * 3 + 2) [.int .i64 ((popStep c ((lns c).toNat) S M).1.slot)] ((cs_98.set tk [.pointer (some ⟨pS, 0, none⟩), .pointer none, .int .i64 ((popStep c ((lns c).toNat) S M).1.slot)]).flatten) hS how_104 ?_ (by show _ + 1 ≤ _; omega) (K.set_at0 (j := 2) hcs_99 hall_100 rfl htl_101 (Nat.le_of_ble_eq_true rfl) rfl))
          clear hS; intro w l_119 o_120 hS
          replace hS : K.Sat w0 [g_106, gl_46, l_107, l_119, hA_95, hB_97, l_39, m_48, o2, g_2, fr] w := hS
          refine K.z (K.t (K.s (K.g (K.q [.pointer (some ⟨r_55, 0 + tk * 3, none⟩), .pointer (some ⟨b_41, 0, none⟩), .int .i64 ((tk : Nat) : Int)] ?_))))
          refine K.l (K.OW.gcall hS [] [0, 1, 2, 3, 4, 5, 6, 7, 8, 9, 10] [.pointer (some ⟨b_41, 0, none⟩), .int .i64 ((tk : Nat) : Int)] (newPop_ok _ _ ((tk : Nat) : Int)) ?_)
          clear hS; rintro _ _ w ⟨p_121, g_122, rfl, rfl, h_123⟩ hS
          replace hS : K.Sat w0 [g_122, g_106, gl_46, l_107, l_119, hA_95, hB_97, l_39, m_48, o2, g_2, fr] w := hS
          have hS_124 : PopS.good (⟨((tk : Nat) : Int), 0, 0, 0, -1⟩ : PopS) := popInit (by omega)
          refine K.q [.pointer (some ⟨r_55, 0 + tk * 3, none⟩), .pointer (some ⟨r_55, 0 + tk * 3, none⟩)] ?_
          refine K.l (K.OW.grst 4 (0 + tk * 3 + 0) [.pointer (some ⟨p_121, 0, none⟩)] ((cs_98.set tk [.pointer (some ⟨p_121, 0, none⟩), .pointer none, .int .i64 ((popStep c ((lns c).toNat) S M).1.slot)]).flatten) hS o_120 ?_ (by show _ + 1 ≤ _; omega) (K.set_at0 (j := 0) hcs_99 hall_100 rfl htl_101 (Nat.le_of_ble_eq_true rfl) rfl))
          clear hS; intro w l_125 o_126 hS
          replace hS : K.Sat w0 [g_122, g_106, gl_46, l_107, l_125, hA_95, hB_97, l_39, m_48, o2, g_2, fr] w := hS
          refine K.z (K.t (K.s (K.g (K.q [.pointer (some ⟨r_55, 0 + tk * 3, none⟩), .pointer (some ⟨r_55, 0 + tk * 3, none⟩), .pointer (some ⟨r_55, 0 + tk * 3 + 2, none⟩)] ?_))))
          refine K.d (.int .i64 ((popStep c ((lns c).toNat) S M).1.slot)) (K.row_at0 (j := 2) (hS.ownr 4 rfl o_126) hcs_99 hall_100 rfl htl_101 rfl) ?_
          by_cases h_127 : ((popStep c ((lns c).toNat) S M).1.slot : Int) = ((-1) : Int)
          ·
           refine K.xn ((popStep c ((lns c).toNat) S M).1.slot : Int) ((-1) : Int) h_127 ?_
           refine K.z (K.t (K.f (K.k (K.t (K.s ?_)))))
           have hp3 := of_decide_eq_true hb_112
           have hd_128 : K.Hands (handEl9 b_41) 74 3 (l_125 ++ (hA_95 ++ ([g_122].flatten ++ hB_97))) ((some ⟨r_55, 0, none⟩)) (hs.set tk (.pop ⟨(tk : Int), 0, 0, 0, -1⟩)) := hcl_105 _ _ _ [.pointer (some ⟨p_121, 0, none⟩), .pointer none, .int .i64 ((popStep c ((lns c).toNat) S M).1.slot)] rfl ⟨_, by rw [h_127], by simp [h_123]⟩ o_126
           replace hS : K.Sat w0 [(l_125 ++ (hA_95 ++ ([g_122].flatten ++ hB_97))), g_106, gl_46, l_107, l_39, m_48, o2, g_2, fr] w := (hS.pick [4, 5, 0, 6, 1, 2, 3, 7, 8, 9, 10, 11]).of (by simp [K.pick, K.nth])
           generalize (l_125 ++ (hA_95 ++ ([g_122].flatten ++ hB_97))) = ld_129 at hS hd_128
           have hst : handStep c (lns c).toNat (tk : Int) (.pop S) M = ((.pop ⟨(tk : Int), 0, 0, 0, -1⟩), (popStep c (lns c).toNat S M).2) := by simp only [handStep]; rw [if_pos hp3, if_pos h_127]
           obtain ⟨L_130, hI_131⟩ := FInv.next (t := (tk : Int)) (by omega) (by omega) hI (by omega) hSo
           rw [hst] at hI_131
           refine K.g (K.q [.pointer (some ⟨b_41, 0, none⟩), .pointer (some ⟨p_42, 0, none⟩), .slice (some ⟨r_55, 0, none⟩) c.th.toNat c.th.toNat, .pointer (some ⟨r_1, 1, none⟩)] ?_)
           refine K.d (.int .i64 c.sl) ((hS.blk 7 rfl hg_3).cell rfl) ?_
           refine K.l (K.OW.gcall hS [2, 3, 0] [1, 4, 5, 6, 7, 8] [.pointer (some ⟨b_41, 0, none⟩), .pointer (some ⟨p_42, 0, none⟩), .slice (some ⟨r_55, 0, none⟩) c.th.toNat c.th.toNat, .int .i64 c.sl] (once9_ok _ _ _ _ _ _ c (by first | assumption | (unfold cfgOk; decide)) (by omega) ((popStep c ((lns c).toNat) S M).2) _ _ _ hl_49 x_109 hI_131.mi.good hI_131.mi.pl _ (hs.set tk (.pop ⟨(tk : Int), 0, 0, 0, -1⟩)) _ (by rw [hI_131.len]) (by omega) hd_128 L_130 hI_131.list hI_131.mi.rg (hI_131.mi.llen (by omega)) (hI_131.heldb (by omega) (by omega)) hI_131.nonil hI_131.cnt) ?_)
           clear hS; rintro _ _ w ⟨hd_132, rfl, rfl, x_133⟩ hS
           replace hS : K.Sat w0 [gl_46, l_107, hd_132, g_106, l_39, m_48, o2, g_2, fr] w := hS
           refine K.q [.bool false] (K.z (K.t (K.f (K.k ?_))))
           refine K.blk_normal ?_
           refine K.t (K.g (K.q [.int .i64 ((i : Nat) : Int)] ?_))
           refine K.a (K.QR.n64 ((((i : Nat) : Int) : Int) + (1 : Int)) ((i + 1 : Nat) : Int) (by kernel_rfl) (by omega)) ?_
           refine K.q [.int .i64 ((i + 1 : Nat) : Int)] (K.z (K.t ?_))
           refine ⟨_, ?_, i + 1, (hs.set tk (.pop ⟨(tk : Int), 0, 0, 0, -1⟩)), ((popStep c ((lns c).toNat) S M).2), L_130, hd_132, l_107, rfl, ⟨by rfl, by rfl, by rfl, by rfl, by rfl, by rfl, by rfl, by rfl, trivial⟩, (by omega), (hI_131), x_133, x_109, hS.pick [2, 4, 0, 1, 5, 6, 7, 8]⟩
           omega
          ·
           refine K.yn ((popStep c ((lns c).toNat) S M).1.slot : Int) ((-1) : Int) h_127 ?_
           refine K.z (K.t (K.h (K.s (K.g (K.q [.pointer (some ⟨r_55, 0 + tk * 3, none⟩), .pointer (some ⟨r_55, 0 + tk * 3, none⟩), .pointer (some ⟨r_55, 0 + tk * 3, none⟩)] ?_)))))
           refine K.l (K.OW.grst 4 (0 + tk * 3 + 0) [.pointer none] ((cs_98.set tk [.pointer none, .pointer none, .int .i64 ((popStep c ((lns c).toNat) S M).1.slot)]).flatten) hS o_126 ?_ (by show _ + 1 ≤ _; omega) (K.set_at0 (j := 0) hcs_99 hall_100 rfl htl_101 (Nat.le_of_ble_eq_true rfl) rfl))
           clear hS; intro w l_134 o_135 hS
           replace hS : K.Sat w0 [g_122, g_106, gl_46, l_107, l_134, hA_95, hB_97, l_39, m_48, o2, g_2, fr] w := hS
           refine K.z (K.t ?_)
           have hsi : isInt (popStep c (lns c).toNat S M).1.slot := popStep_slotI (by rw [hok.2.1]; omega)
           refine K.g (K.q [.pointer (some ⟨r_55, 0 + tk * 3, none⟩), .pointer (some ⟨b_41, 0, none⟩), .int .i64 ((tk : Nat) : Int), .pointer (some ⟨r_55, 0 + tk * 3, none⟩), .pointer (some ⟨r_55, 0 + tk * 3, none⟩), .pointer (some ⟨r_55, 0 + tk * 3 + 2, none⟩)] ?_)
           refine K.d (.int .i64 ((popStep c ((lns c).toNat) S M).1.slot)) (K.row_at0 (j := 2) (hS.ownr 4 rfl o_135) hcs_99 hall_100 rfl htl_101 rfl) ?_
           refine K.l (K.OW.gcall hS [] [0, 1, 2, 3, 4, 5, 6, 7, 8, 9, 10, 11] [.pointer (some ⟨b_41, 0, none⟩), .int .i64 ((tk : Nat) : Int), .int .i64 ((popStep c ((lns c).toNat) S M).1.slot)] (newPush_ok _ _ ((tk : Nat) : Int) ((popStep c ((lns c).toNat) S M).1.slot)) ?_)
           clear hS; rintro _ _ w ⟨p_136, g_137, rfl, rfl, h_138⟩ hS
           replace hS : K.Sat w0 [g_137, g_122, g_106, gl_46, l_107, l_134, hA_95, hB_97, l_39, m_48, o2, g_2, fr] w := hS
           have hS_139 : PushS.good (⟨((tk : Nat) : Int), 0, 0, (popStep c ((lns c).toNat) S M).1.slot⟩ : PushS) := pushInit (by omega) (by omega)
           refine K.q [.pointer (some ⟨r_55, 0 + tk * 3, none⟩), .pointer (some ⟨r_55, 0 + tk * 3 + 1, none⟩)] ?_
           refine K.l (K.OW.grst 5 (0 + tk * 3 + 1) [.pointer (some ⟨p_136, 0, none⟩)] ((cs_98.set tk [.pointer none, .pointer (some ⟨p_136, 0, none⟩), .int .i64 ((popStep c ((lns c).toNat) S M).1.slot)]).flatten) hS o_135 ?_ (by show _ + 1 ≤ _; omega) (K.set_at0 (j := 1) hcs_99 hall_100 rfl htl_101 (Nat.le_of_ble_eq_true rfl) rfl))
           clear hS; intro w l_140 o_141 hS
           replace hS : K.Sat w0 [g_137, g_122, g_106, gl_46, l_107, l_140, hA_95, hB_97, l_39, m_48, o2, g_2, fr] w := hS
           refine K.z (K.t (K.s ?_))
           have hp3 := of_decide_eq_true hb_112
           have hd_142 : K.Hands (handEl9 b_41) 74 3 (l_140 ++ (hA_95 ++ ([g_137].flatten ++ hB_97))) ((some ⟨r_55, 0, none⟩)) (hs.set tk (.push ⟨(tk : Int), 0, 0, (popStep c (lns c).toNat S M).1.slot⟩)) := hcl_105 _ _ _ [.pointer none, .pointer (some ⟨p_136, 0, none⟩), .int .i64 ((popStep c ((lns c).toNat) S M).1.slot)] rfl ⟨_, rfl, by simp [h_138]⟩ o_141
           replace hS : K.Sat w0 [(l_140 ++ (hA_95 ++ ([g_137].flatten ++ hB_97))), g_122, g_106, gl_46, l_107, l_39, m_48, o2, g_2, fr] w := (hS.pick [5, 6, 0, 7, 1, 2, 3, 4, 8, 9, 10, 11, 12]).of (by simp [K.pick, K.nth])
           generalize (l_140 ++ (hA_95 ++ ([g_137].flatten ++ hB_97))) = ld_143 at hS hd_142
           have hst : handStep c (lns c).toNat (tk : Int) (.pop S) M = ((.push ⟨(tk : Int), 0, 0, (popStep c (lns c).toNat S M).1.slot⟩), (popStep c (lns c).toNat S M).2) := by simp only [handStep]; rw [if_pos hp3, if_neg h_127]
           obtain ⟨L_144, hI_145⟩ := FInv.next (t := (tk : Int)) (by omega) (by omega) hI (by omega) hSo
           rw [hst] at hI_145
           refine K.g (K.q [.pointer (some ⟨b_41, 0, none⟩), .pointer (some ⟨p_42, 0, none⟩), .slice (some ⟨r_55, 0, none⟩) c.th.toNat c.th.toNat, .pointer (some ⟨r_1, 1, none⟩)] ?_)
           refine K.d (.int .i64 c.sl) ((hS.blk 8 rfl hg_3).cell rfl) ?_
           refine K.l (K.OW.gcall hS [3, 4, 0] [1, 2, 5, 6, 7, 8, 9] [.pointer (some ⟨b_41, 0, none⟩), .pointer (some ⟨p_42, 0, none⟩), .slice (some ⟨r_55, 0, none⟩) c.th.toNat c.th.toNat, .int .i64 c.sl] (once9_ok _ _ _ _ _ _ c (by first | assumption | (unfold cfgOk; decide)) (by omega) ((popStep c ((lns c).toNat) S M).2) _ _ _ hl_49 x_109 hI_145.mi.good hI_145.mi.pl _ (hs.set tk (.push ⟨(tk : Int), 0, 0, (popStep c (lns c).toNat S M).1.slot⟩)) _ (by rw [hI_145.len]) (by omega) hd_142 L_144 hI_145.list hI_145.mi.rg (hI_145.mi.llen (by omega)) (hI_145.heldb (by omega) (by omega)) hI_145.nonil hI_145.cnt) ?_)
           clear hS; rintro _ _ w ⟨hd_146, rfl, rfl, x_147⟩ hS
           replace hS : K.Sat w0 [gl_46, l_107, hd_146, g_122, g_106, l_39, m_48, o2, g_2, fr] w := hS
           refine K.q [.bool false] (K.z (K.t (K.f (K.k ?_))))
           refine K.blk_normal ?_
           refine K.t (K.g (K.q [.int .i64 ((i : Nat) : Int)] ?_))
           refine K.a (K.QR.n64 ((((i : Nat) : Int) : Int) + (1 : Int)) ((i + 1 : Nat) : Int) (by kernel_rfl) (by omega)) ?_
           refine K.q [.int .i64 ((i + 1 : Nat) : Int)] (K.z (K.t ?_))
           refine ⟨_, ?_, i + 1, (hs.set tk (.push ⟨(tk : Int), 0, 0, (popStep c (lns c).toNat S M).1.slot⟩)), ((popStep c ((lns c).toNat) S M).2), L_144, hd_146, l_107, rfl, ⟨by rfl, by rfl, by rfl, by rfl, by rfl, by rfl, by rfl, by rfl, trivial⟩, (by omega), (hI_145), x_147, x_109, hS.pick [2, 5, 0, 1, 6, 7, 8, 9]⟩
           omega
        | push S =>
         obtain ⟨pS, hce, hge⟩ := hel_103
         have hSg : S.good := hok.1
         rw [hce] at how_104
         replace hS : K.Sat w0 [row_94, hA_95, hg_96, hB_97, l_39, gl_46, l1, m_48, o2, g_2, fr] w := hS.of (by simp [K.pick, K.nth])
         refine K.g (K.q [.pointer (some ⟨r_55, 0 + tk * 3, none⟩), .pointer (some ⟨r_55, 0 + tk * 3, none⟩), .pointer (some ⟨r_55, 0 + tk * 3, none⟩)] ?_)
         refine K.d (.pointer none) (K.row_at0 (j := 0) (hS.ownr 0 rfl how_104) hcs_99 hall_100 rfl htl_101 rfl) ?_
         refine K.q [.bool false, .bool false] ?_
         refine K.RW.skip rfl (by kernel_rfl) ?_
         refine K.RW.skip rfl (by kernel_rfl) ?_
         refine K.RW.skip rfl (by kernel_rfl) ?_
         refine K.RW.skip rfl (by kernel_rfl) ?_
         refine K.RW.skip rfl (by kernel_rfl) ?_
         refine K.RW.skip rfl (by kernel_rfl) ?_
         refine K.q [.bool false] (K.z (K.t (K.f (K.s (K.g (K.q [.pointer (some ⟨r_55, 0 + tk * 3, none⟩), .pointer (some ⟨r_55, 0 + tk * 3, none⟩), .pointer (some ⟨r_55, 0 + tk * 3, none⟩)] ?_))))))
         refine K.d (.pointer none) (K.row_at0 (j := 0) (hS.ownr 0 rfl how_104) hcs_99 hall_100 rfl htl_101 rfl) ?_
         refine K.q [.bool true, .bool true, .pointer (some ⟨r_55, 0 + tk * 3, none⟩), .pointer (some ⟨r_55, 0 + tk * 3, none⟩), .pointer (some ⟨r_55, 0 + tk * 3 + 1, none⟩)] ?_
         refine K.d (.pointer (some ⟨pS, 0, none⟩)) (K.row_at0 (j := 1) (hS.ownr 0 rfl how_104) hcs_99 hall_100 rfl htl_101 rfl) ?_
         refine K.q [.pointer (some ⟨p_42, 0, none⟩)] ?_
         refine K.l (K.OW.gcall hS [2, 5, 6] [0, 1, 3, 4, 7, 8, 9, 10] [.pointer (some ⟨pS, 0, none⟩), .pointer (some ⟨p_42, 0, none⟩)] (pushStep_ok _ _ _ _ _ _ _ c (by first | assumption | (unfold cfgOk; decide)) S _ _ _ _ hge hl_49 x_90 (by assumption) (by assumption)) ?_)
         clear hS; rintro _ _ w ⟨g_148, l_149, rfl, rfl, h_150, x_151⟩ hS
         replace hS : K.Sat w0 [g_148, gl_46, l_149, row_94, hA_95, hB_97, l_39, m_48, o2, g_2, fr] w := hS
         obtain ⟨hS_152, hM_153⟩ := (pushStep_good (by assumption) (by assumption) : (pushStep c ((lns c).toNat) S M).1.good ∧ (pushStep c ((lns c).toNat) S M).2.good)
         cases hb_154 : (decide ((pushStep c ((lns c).toNat) S M).1.pc = 3))
         ·
          refine K.q [.bool false] (K.z (K.t (K.f (K.k (K.t (K.s ?_))))))
          have hp3 := of_decide_eq_false hb_154
          have hd_155 : K.Hands (handEl9 b_41) 74 3 (row_94 ++ (hA_95 ++ ([g_148].flatten ++ hB_97))) ((some ⟨r_55, 0, none⟩)) (hs.set tk (.push (pushStep c (lns c).toNat S M).1)) := hcl_105 _ _ _ [.pointer none, .pointer (some ⟨pS, 0, none⟩), .int .i64 S.slot] rfl ⟨_, by rw [pushStep_slot], by simp [h_150]⟩ how_104
          replace hS : K.Sat w0 [(row_94 ++ (hA_95 ++ ([g_148].flatten ++ hB_97))), gl_46, l_149, l_39, m_48, o2, g_2, fr] w := (hS.pick [3, 4, 0, 5, 1, 2, 6, 7, 8, 9, 10]).of (by simp [K.pick, K.nth])
          generalize (row_94 ++ (hA_95 ++ ([g_148].flatten ++ hB_97))) = ld_156 at hS hd_155
          have hst : handStep c (lns c).toNat (tk : Int) (.push S) M = ((.push (pushStep c (lns c).toNat S M).1), (pushStep c (lns c).toNat S M).2) := by simp only [handStep]; rw [if_neg hp3]
          obtain ⟨L_157, hI_158⟩ := FInv.next (t := (tk : Int)) (by omega) (by omega) hI (by omega) hSo
          rw [hst] at hI_158
          refine K.g (K.q [.pointer (some ⟨b_41, 0, none⟩), .pointer (some ⟨p_42, 0, none⟩), .slice (some ⟨r_55, 0, none⟩) c.th.toNat c.th.toNat, .pointer (some ⟨r_1, 1, none⟩)] ?_)
          refine K.d (.int .i64 c.sl) ((hS.blk 6 rfl hg_3).cell rfl) ?_
          refine K.l (K.OW.gcall hS [1, 2, 0] [3, 4, 5, 6, 7] [.pointer (some ⟨b_41, 0, none⟩), .pointer (some ⟨p_42, 0, none⟩), .slice (some ⟨r_55, 0, none⟩) c.th.toNat c.th.toNat, .int .i64 c.sl] (once9_ok _ _ _ _ _ _ c (by first | assumption | (unfold cfgOk; decide)) (by omega) ((pushStep c ((lns c).toNat) S M).2) _ _ _ hl_49 x_151 hI_158.mi.good hI_158.mi.pl _ (hs.set tk (.push (pushStep c (lns c).toNat S M).1)) _ (by rw [hI_158.len]) (by omega) hd_155 L_157 hI_158.list hI_158.mi.rg (hI_158.mi.llen (by omega)) (hI_158.heldb (by omega) (by omega)) hI_158.nonil hI_158.cnt) ?_)
          clear hS; rintro _ _ w ⟨hd_159, rfl, rfl, x_160⟩ hS
          replace hS : K.Sat w0 [gl_46, l_149, hd_159, l_39, m_48, o2, g_2, fr] w := hS
          refine K.q [.bool false] (K.z (K.t (K.f (K.k ?_))))
          refine K.blk_normal ?_
          refine K.t (K.g (K.q [.int .i64 ((i : Nat) : Int)] ?_))
          refine K.a (K.QR.n64 ((((i : Nat) : Int) : Int) + (1 : Int)) ((i + 1 : Nat) : Int) (by kernel_rfl) (by omega)) ?_
          refine K.q [.int .i64 ((i + 1 : Nat) : Int)] (K.z (K.t ?_))
          refine ⟨_, ?_, i + 1, (hs.set tk (.push (pushStep c (lns c).toNat S M).1)), ((pushStep c ((lns c).toNat) S M).2), L_157, hd_159, l_149, rfl, ⟨by rfl, by rfl, by rfl, by rfl, by rfl, by rfl, by rfl, by rfl, trivial⟩, (by omega), (hI_158), x_160, x_151, hS.pick [2, 3, 0, 1, 4, 5, 6, 7]⟩
          omega
         ·
          refine K.q [.bool true] (K.z (K.t (K.h (K.s (K.g (K.q [.pointer (some ⟨r_55, 0 + tk * 3, none⟩), .pointer (some ⟨r_55, 0 + tk * 3, none⟩), .pointer (some ⟨r_55, 0 + tk * 3 + 1, none⟩)] ?_))))))
          refine K.l (K.OW.grst 3 (0 + tk * 3 + 1) [.pointer none] ((cs_98.set tk [.pointer none, .pointer none, .int .i64 S.slot]).flatten) hS how_104 ?_ (by show _ + 1 ≤ _; omega) (K.set_at0 (j := 1) hcs_99 hall_100 rfl htl_101 (Nat.le_of_ble_eq_true rfl) rfl))
          clear hS; intro w l_161 o_162 hS
          replace hS : K.Sat w0 [g_148, gl_46, l_149, l_161, hA_95, hB_97, l_39, m_48, o2, g_2, fr] w := hS
          refine K.z (K.t (K.s (K.g (K.q [.pointer (some ⟨r_55, 0 + tk * 3, none⟩), .pointer (some ⟨r_55, 0 + tk * 3, none⟩), .pointer (some ⟨r_55, 0 + tk * 3 + 2, none⟩)] ?_))))
          refine K.l (K.OW.grst 3 (0 + tk * 3 + 2) [.int .i64 (-1)] ((cs_98.set tk [.pointer none, .pointer none, .int .i64 (-1)]).flatten) hS o_162 ?_ (by show _ + 1 ≤ _; omega) (K.set_at0 (j := 2) hcs_99 hall_100 rfl htl_101 (Nat.le_of_ble_eq_true rfl) rfl))
          clear hS; intro w l_163 o_164 hS
          replace hS : K.Sat w0 [g_148, gl_46, l_149, l_163, hA_95, hB_97, l_39, m_48, o2, g_2, fr] w := hS
          refine K.z (K.t (K.g (K.q [.pointer (some ⟨r_55, 0 + tk * 3, none⟩), .pointer (some ⟨b_41, 0, none⟩), .int .i64 ((tk : Nat) : Int)] ?_)))
          refine K.l (K.OW.gcall hS [] [0, 1, 2, 3, 4, 5, 6, 7, 8, 9, 10] [.pointer (some ⟨b_41, 0, none⟩), .int .i64 ((tk : Nat) : Int)] (newPop_ok _ _ ((tk : Nat) : Int)) ?_)
          clear hS; rintro _ _ w ⟨p_165, g_166, rfl, rfl, h_167⟩ hS
          replace hS : K.Sat w0 [g_166, g_148, gl_46, l_149, l_163, hA_95, hB_97, l_39, m_48, o2, g_2, fr] w := hS
          have hS_168 : PopS.good (⟨((tk : Nat) : Int), 0, 0, 0, -1⟩ : PopS) := popInit (by omega)
          refine K.q [.pointer (some ⟨r_55, 0 + tk * 3, none⟩), .pointer (some ⟨r_55, 0 + tk * 3, none⟩)] ?_
          refine K.l (K.OW.grst 4 (0 + tk * 3 + 0) [.pointer (some ⟨p_165, 0, none⟩)] ((cs_98.set tk [.pointer (some ⟨p_165, 0, none⟩), .pointer none, .int .i64 (-1)]).flatten) hS o_164 ?_ (by show _ + 1 ≤ _; omega) (K.set_at0 (j := 0) hcs_99 hall_100 rfl htl_101 (Nat.le_of_ble_eq_true rfl) rfl))
          clear hS; intro w l_169 o_170 hS
          replace hS : K.Sat w0 [g_166, g_148, gl_46, l_149, l_169, hA_95, hB_97, l_39, m_48, o2, g_2, fr] w := hS
          refine K.z (K.t (K.s ?_))
          have hp3 := of_decide_eq_true hb_154
          have hd_171 : K.Hands (handEl9 b_41) 74 3 (l_169 ++ (hA_95 ++ ([g_166].flatten ++ hB_97))) ((some ⟨r_55, 0, none⟩)) (hs.set tk (.pop ⟨(tk : Int), 0, 0, 0, -1⟩)) := hcl_105 _ _ _ [.pointer (some ⟨p_165, 0, none⟩), .pointer none, .int .i64 (-1)] rfl ⟨_, rfl, by simp [h_167]⟩ o_170
          replace hS : K.Sat w0 [(l_169 ++ (hA_95 ++ ([g_166].flatten ++ hB_97))), g_148, gl_46, l_149, l_39, m_48, o2, g_2, fr] w := (hS.pick [4, 5, 0, 6, 1, 2, 3, 7, 8, 9, 10, 11]).of (by simp [K.pick, K.nth])
          generalize (l_169 ++ (hA_95 ++ ([g_166].flatten ++ hB_97))) = ld_172 at hS hd_171
          have hst : handStep c (lns c).toNat (tk : Int) (.push S) M = ((.pop ⟨(tk : Int), 0, 0, 0, -1⟩), (pushStep c (lns c).toNat S M).2) := by simp only [handStep]; rw [if_pos hp3]
          obtain ⟨L_173, hI_174⟩ := FInv.next (t := (tk : Int)) (by omega) (by omega) hI (by omega) hSo
          rw [hst] at hI_174
          refine K.g (K.q [.pointer (some ⟨b_41, 0, none⟩), .pointer (some ⟨p_42, 0, none⟩), .slice (some ⟨r_55, 0, none⟩) c.th.toNat c.th.toNat, .pointer (some ⟨r_1, 1, none⟩)] ?_)
          refine K.d (.int .i64 c.sl) ((hS.blk 7 rfl hg_3).cell rfl) ?_
          refine K.l (K.OW.gcall hS [2, 3, 0] [1, 4, 5, 6, 7, 8] [.pointer (some ⟨b_41, 0, none⟩), .pointer (some ⟨p_42, 0, none⟩), .slice (some ⟨r_55, 0, none⟩) c.th.toNat c.th.toNat, .int .i64 c.sl] (once9_ok _ _ _ _ _ _ c (by first | assumption | (unfold cfgOk; decide)) (by omega) ((pushStep c ((lns c).toNat) S M).2) _ _ _ hl_49 x_151 hI_174.mi.good hI_174.mi.pl _ (hs.set tk (.pop ⟨(tk : Int), 0, 0, 0, -1⟩)) _ (by rw [hI_174.len]) (by omega) hd_171 L_173 hI_174.list hI_174.mi.rg (hI_174.mi.llen (by omega)) (hI_174.heldb (by omega) (by omega)) hI_174.nonil hI_174.cnt) ?_)
          clear hS; rintro _ _ w ⟨hd_175, rfl, rfl, x_176⟩ hS
          replace hS : K.Sat w0 [gl_46, l_149, hd_175, g_148, l_39, m_48, o2, g_2, fr] w := hS
          refine K.q [.bool false] (K.z (K.t (K.f (K.k ?_))))
          refine K.blk_normal ?_
          refine K.t (K.g (K.q [.int .i64 ((i : Nat) : Int)] ?_))
          refine K.a (K.QR.n64 ((((i : Nat) : Int) : Int) + (1 : Int)) ((i + 1 : Nat) : Int) (by kernel_rfl) (by omega)) ?_
          refine K.q [.int .i64 ((i + 1 : Nat) : Int)] (K.z (K.t ?_))
          refine ⟨_, ?_, i + 1, (hs.set tk (.pop ⟨(tk : Int), 0, 0, 0, -1⟩)), ((pushStep c ((lns c).toNat) S M).2), L_173, hd_175, l_149, rfl, ⟨by rfl, by rfl, by rfl, by rfl, by rfl, by rfl, by rfl, by rfl, trivial⟩, (by omega), (hI_174), x_176, x_151, hS.pick [2, 4, 0, 1, 5, 6, 7, 8]⟩
          omega
       ·
        refine K.x ((((i : Nat) : Int) : Int) < (((xs.length : Nat) : Int) : Int)) h_91 ?_
        refine K.z (K.t (K.f ?_))
        refine K.KW.exit ?_
        refine K.thn_exit ?_
        refine K.thn_exit ?_
        refine K.blk_hit ?_
        refine K.t (K.s (K.g ?_))
        refine K.l (K.OW.gcall hS [] [0, 1, 2, 3, 4, 5, 6, 7] [] (awake09_ok _) ?_)
        clear hS; rintro _ _ w ⟨rfl, rfl⟩ hS
        replace hS : K.Sat w0 [hd3, l_39, gl_46, l1, m_48, o2, g_2, fr] w := hS
        refine K.q [.bool true] (K.z (K.t (K.r ?_)))
        refine ⟨.inr rfl, rfl, (.bool true), K.res1 rfl rfl, [], ?_, hS.pick [7]⟩
        exact rfl
 ·
  replace hS : K.Sat w0 [g_2, fr] w := hS
  refine K.q [.bool true] (K.z (K.t (K.h (K.s (K.g ?_)))))
  refine K.l (K.OW.gcall hS [] [0, 1] [] (awake09_ok _) ?_)
  clear hS; rintro _ _ w ⟨rfl, rfl⟩ hS
  replace hS : K.Sat w0 [g_2, fr] w := hS
  refine K.q [.bool true] (K.z (K.t (K.r (K.u ?_))))
  refine ⟨.inr rfl, rfl, (.bool true), K.res1 rfl rfl, [], ?_, hS.pick [1]⟩
  exact rfl
end Go.Proofs.Ytajkickofkeemaa
