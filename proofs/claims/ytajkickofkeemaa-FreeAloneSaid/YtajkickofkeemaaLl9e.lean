/- The statement FreeAlone. -/
import Derived.Test.YtajkickofkeemaaFl9e
import Derived.Test.YtajkickofkeemaaLl9w
import Derived.Test.YtajkickofkeemaaKn
namespace Go.Proofs.Ytajkickofkeemaa
open Go.RowKit
set_option linter.unusedVariables false
attribute [local irreducible] K.KW K.RW K.DW K.OW K.QR K.KC
set_option maxHeartbeats 1000000 in
set_option maxRecDepth 100000 in
theorem l9alone_ok (w0 : World) (c : Cfg) (many tt : Int) (hmany : isInt many) (htt : isInt tt) :
  K.GC Try.prog w0 9 #[.agg #[.int .i64 c.th, .int .i64 c.sl, .int .i64 c.lo, .int .i64 c.bu], .int .i64 many, .int .i64 tt] [] (fun v post => v = .bool true) := by
 refine K.GC.mk (n := 158) Try.func9 rfl rfl [.agg #[.int .i64 c.th, .int .i64 c.sl, .int .i64 c.lo, .int .i64 c.bu], .int .i64 many, .int .i64 tt] rfl rfl ?_
 intro fr w hS
 replace hS : K.Sat w0 [fr] w := hS
 refine K.s (K.g ?_)
 refine K.l (K.OW.gnew 23 [.int .i64 c.th, .int .i64 c.sl, .int .i64 c.lo, .int .i64 c.bu] hS ?_)
 clear hS; intro w r_1 g_2 hg_3 hS
 refine K.q [.bool false] (K.z (K.t (K.s (K.s (K.g ?_)))))
 refine K.a (K.QR.ldN [.int .i64 c.th, .int .i64 c.sl, .int .i64 c.lo, .int .i64 c.bu] rfl rfl (by kernel_rfl) (by kernel_rfl) (K.cells (K.cl ((hS.blk 0 rfl hg_3).cell rfl) (K.cl ((hS.blk 0 rfl hg_3).cell rfl) (K.cl ((hS.blk 0 rfl hg_3).cell rfl) (K.cl ((hS.blk 0 rfl hg_3).cell rfl) K.cl0)))))) ?_
 refine K.l (K.OW.gcall hS [] [0, 1] [.agg #[.int .i64 c.th, .int .i64 c.sl, .int .i64 c.lo, .int .i64 c.bu]] (few09_ok _ c) ?_)
 clear hS; rintro _ _ w ⟨rfl, (⟨rfl, h_4⟩ | ⟨rfl, h_5⟩)⟩ hS
 ·
  replace hS : K.Sat w0 [g_2, fr] w := hS
  have hc_6 := h_4.1
  obtain ⟨hf_7, hf_8, hf_9, hf_10, hf_11⟩ := (show _ from (by have h := h_4; unfold fewC cfgOk at h; exact h))
  refine K.q [.bool false] (K.z (K.t (K.f (K.k (K.t (K.s (K.g (K.q [.slice none 0 0] (K.z (K.t ?_))))))))))
  refine K.KW.cut (fun F_ w_ => ∃ (m : Nat) (q2 : Option Addr) (c2 : Nat) (o2 : K.Cs), K.Sl F_ [(0, .agg #[.int .i64 c.th, .int .i64 c.sl, .int .i64 c.lo, .int .i64 c.bu]), (1, .int .i64 many), (2, .int .i64 tt), (3, .pointer (some ⟨r_1, 0, none⟩)), (6, .bool false), (7, .slice q2 ((rangeI m).length) c2), (158, undef)] ∧ m ≤ 30 ∧ (m : Int) ≤ c.sl ∧ K.OwnG o2 3 1 q2 ((rangeI m).length) c2 (((rangeI m)).flatMap cI64) ∧ K.Sat w0 [g_2, fr, o2] w_) ?_ ?_
  ·
   refine K.s (K.g (K.q [.int .i64 0] (K.z (K.t ?_))))
   refine K.KW.block ?_
   obtain ⟨z_12, hz_13⟩ : ∃ z : K.Cs, z = [] := ⟨_, rfl⟩
   replace hS : K.Sat w0 [z_12, g_2, fr] w := hS.of (by simp [hz_13])
   have o_14 : K.OwnG z_12 3 1 none 0 0 [] := by rw [hz_13]; exact K.OwnG.nil _ _
   refine K.KW.loop (fun m_ F_ w_ => ∃ (j : Nat) (q1 : Option Addr) (c1 : Nat) (o1 : K.Cs), m_ = 30 - j ∧ K.Sl F_ [(0, .agg #[.int .i64 c.th, .int .i64 c.sl, .int .i64 c.lo, .int .i64 c.bu]), (1, .int .i64 many), (2, .int .i64 tt), (3, .pointer (some ⟨r_1, 0, none⟩)), (6, .bool false), (7, .slice q1 j c1), (8, .int .i64 ((j : Nat) : Int)), (158, undef)] ∧ j ≤ 30 ∧ (j : Int) ≤ c.sl ∧ K.OwnG o1 3 1 q1 j c1 (((rangeI j)).flatMap cI64) ∧ K.Sat w0 [o1, g_2, fr] w_) ((fun (j : Nat) (q1 : Option Addr) (c1 : Nat) => 30 - j) 0 none 0) ?_ ?_
   ·
    exact ⟨0, none, 0, z_12, rfl, ⟨by rfl, by rfl, by rfl, by rfl, by rfl, by rfl, by rfl, by rfl, trivial⟩, (by omega), (by omega), o_14, hS.pick [0, 1, 2]⟩
   ·
    clear hS
    intro m_15 F_16 w hI
    obtain ⟨j, q1, c1, o1, rfl, sl_17, p_18, p_19, x_20, hS⟩ := hI
    rw [← K.Sl.puts sl_17]; clear sl_17
    refine K.s (K.s (K.g (K.q [.int .i64 ((j : Nat) : Int), .pointer (some ⟨r_1, 1, none⟩)] ?_)))
    refine K.d (.int .i64 c.sl) ((hS.blk 1 rfl hg_3).cell rfl) ?_
    by_cases h_21 : (((j : Nat) : Int) : Int) < (c.sl : Int)
    ·
     refine K.y ((((j : Nat) : Int) : Int) < (c.sl : Int)) h_21 ?_
     refine K.q [.bool true, .int .i64 ((j : Nat) : Int), .int .i64 many] ?_
     by_cases h_22 : (((j : Nat) : Int) : Int) < (many : Int)
     ·
      refine K.y ((((j : Nat) : Int) : Int) < (many : Int)) h_22 ?_
      refine K.q [.bool true, .bool true, .int .i64 ((j : Nat) : Int)] ?_
      by_cases h_23 : (((j : Nat) : Int) : Int) < (30 : Int)
      ·
       refine K.y ((((j : Nat) : Int) : Int) < (30 : Int)) h_23 ?_
       refine K.q [.bool true] (K.z (K.t (K.h (K.k (K.t (K.s ?_))))))
       refine K.KW.block ?_
       refine K.g (K.q [.slice q1 j c1, .int .i64 ((j : Nat) : Int)] ?_)
       refine K.l (K.OW.gbs [(0, .int .i64 ((j : Nat) : Int))] [.int .i64 ((j : Nat) : Int)] hS (fun w => K.bs_run (P := Try.prog) w 63 3 1 _ _ Try.underlying63 (by kernel_rfl)) ?_)
       clear hS; intro w r_24 g_25 hg_26 hS
       refine K.l (K.OW.gapp (P := Try.prog) (xs := ((rangeI j)).flatMap cI64) (z := .int .i64 0) (size := 1) (bytes := 8) 1 [.int .i64 ((j : Nat) : Int)] hS x_20 ?_ (fun j u hj => (by rw [Nat.zero_add]; exact (hS.blk 0 rfl hg_26).cell hj)) (K.one_cells (by rfl)) (by rfl) Try.underlying63 (by kernel_rfl) rfl (by decide) (by unfold maxLen; omega) (by omega))
       clear hS; intro a_27 cap_28 w l_29 o_30 hS
       have ln_31 : (((rangeI j) ++ [(((j : Nat) : Int) : Int)])).length = j + 1 := by rw [List.length_append, (rangeI_len j)]; rfl
       have o_30c := K.OwnG.cast (xs' := (((rangeI j) ++ [(((j : Nat) : Int) : Int)])).flatMap cI64) o_30 rfl (K.fl_snoc cI64 (rangeI j) _ rfl)
       replace hS : K.Sat w0 [g_25, l_29, g_2, fr] w := hS
       refine K.q [.slice a_27 (j + 1) cap_28] (K.z ?_)
       refine K.blk_normal ?_
       refine K.t (K.g (K.q [.int .i64 ((j : Nat) : Int)] ?_))
       refine K.a (K.QR.n64 ((((j : Nat) : Int) : Int) + (1 : Int)) ((j + 1 : Nat) : Int) (by kernel_rfl) (by omega)) ?_
       refine K.q [.int .i64 ((j + 1 : Nat) : Int)] (K.z (K.t ?_))
       refine ⟨_, ?_, j + 1, a_27, cap_28, l_29, rfl, ⟨by rfl, by rfl, by rfl, by rfl, by rfl, by rfl, by rfl, by rfl, trivial⟩, (by omega), (by omega), (by rw [rangeI_succ]; exact o_30c), hS.pick [1, 2, 3]⟩
       omega
      ·
       refine K.x ((((j : Nat) : Int) : Int) < (30 : Int)) h_23 ?_
       refine K.q [.bool false] (K.z (K.t (K.f ?_)))
       refine K.KW.exit ?_
       refine K.thn_exit ?_
       refine K.thn_exit ?_
       refine K.blk_hit ?_
       refine K.t ?_
       exact ⟨j, q1, c1, o1, ⟨by rfl, by rfl, by rfl, by rfl, by rfl, congrArg (fun m_ => Value.slice q1 m_ c1) (rangeI_len j).symm, by rfl, trivial⟩, (by omega), (by omega), (by rw [rangeI_len]; exact x_20), hS.pick [1, 2, 0]⟩
     ·
      refine K.x ((((j : Nat) : Int) : Int) < (many : Int)) h_22 ?_
      refine K.q [.bool false, .bool false] ?_
      refine K.RW.skip rfl (by kernel_rfl) ?_
      refine K.RW.skip rfl (by kernel_rfl) ?_
      refine K.q [.bool false] (K.z (K.t (K.f ?_)))
      refine K.KW.exit ?_
      refine K.thn_exit ?_
      refine K.thn_exit ?_
      refine K.blk_hit ?_
      refine K.t ?_
      exact ⟨j, q1, c1, o1, ⟨by rfl, by rfl, by rfl, by rfl, by rfl, congrArg (fun m_ => Value.slice q1 m_ c1) (rangeI_len j).symm, by rfl, trivial⟩, (by omega), (by omega), (by rw [rangeI_len]; exact x_20), hS.pick [1, 2, 0]⟩
    ·
     refine K.x ((((j : Nat) : Int) : Int) < (c.sl : Int)) h_21 ?_
     refine K.q [.bool false] ?_
     refine K.RW.skip rfl (by kernel_rfl) ?_
     refine K.RW.skip rfl (by kernel_rfl) ?_
     refine K.RW.skip rfl (by kernel_rfl) ?_
     refine K.q [.bool false, .bool false] ?_
     refine K.RW.skip rfl (by kernel_rfl) ?_
     refine K.RW.skip rfl (by kernel_rfl) ?_
     refine K.q [.bool false] (K.z (K.t (K.f ?_)))
     refine K.KW.exit ?_
     refine K.thn_exit ?_
     refine K.thn_exit ?_
     refine K.blk_hit ?_
     refine K.t ?_
     exact ⟨j, q1, c1, o1, ⟨by rfl, by rfl, by rfl, by rfl, by rfl, congrArg (fun m_ => Value.slice q1 m_ c1) (rangeI_len j).symm, by rfl, trivial⟩, (by omega), (by omega), (by rw [rangeI_len]; exact x_20), hS.pick [1, 2, 0]⟩
  ·
   clear hS
   intro F_32 w hI
   obtain ⟨m, q2, c2, o2, sl_33, p_34, p_35, x_36, hS⟩ := hI
   rw [← K.Sl.puts sl_33]; clear sl_33
   have hrl := rangeI_len m
   refine K.s (K.g ?_)
   refine K.a (K.QR.ldN [.int .i64 c.th, .int .i64 c.sl, .int .i64 c.lo, .int .i64 c.bu] rfl rfl (by kernel_rfl) (by kernel_rfl) (K.cells (K.cl ((hS.blk 0 rfl hg_3).cell rfl) (K.cl ((hS.blk 0 rfl hg_3).cell rfl) (K.cl ((hS.blk 0 rfl hg_3).cell rfl) (K.cl ((hS.blk 0 rfl hg_3).cell rfl) K.cl0)))))) ?_
   refine K.q [.slice q2 ((rangeI m).length) c2] ?_
   refine K.l (K.OW.gcall hS [2] [0, 1] [.agg #[.int .i64 c.th, .int .i64 c.sl, .int .i64 c.lo, .int .i64 c.bu], .slice q2 ((rangeI m).length) c2] (rows_ok _ c (by first | assumption | (unfold cfgOk; decide)) _ _ (rangeI m) (by first | omega | decide | (have h := rfl; omega)) _ (fun w h => K.RowE.len (K.Own.rowE 0 (h.ownr 0 rfl x_36) rfl (fun _ => rfl)) rfl)) ?_)
   clear hS; rintro _ _ w ⟨r_37, c_38, l_39, rfl, rfl, o_40⟩ hS
   replace hS : K.Sat w0 [o2, l_39, g_2, fr] w := hS
   refine K.l (K.OW.gcall hS [1] [0, 2, 3] [.agg #[.int .i64 c.th, .int .i64 c.sl, .int .i64 c.lo, .int .i64 c.bu, .slice r_37 ((rowsTo c (rangeI m) (rangeI m).length).length) c_38]] (layS_ok _ c _ _ (rowsTo c (rangeI m) (rangeI m).length) (fun j hj => (rows_good (by assumption) _ _ j hj).1) (⟨by assumption, by rw [rowsTo_len, rangeI_len]; omega⟩) _ (fun w h => K.RowE.len (K.Own.rowE pu0 (h.ownr 0 rfl o_40) rfl (fun _ => rfl)) rfl)) ?_)
   clear hS; rintro _ _ w ⟨b_41, p_42, q_43, r_44, u_45, _, _, gl_46, l_47, m_48, rfl, rfl, hl_49, x_50, y_51, rfl, rfl, hf_52, hp_53⟩ hS
   replace hS : K.Sat w0 [l_39, gl_46, l_47, m_48, o2, g_2, fr] w := hS
   have hF := fground (c := c) (n := ((lns c).toNat)) (t := (c.th.toNat)) (k := (2 + c.th + c.sl).toNat) (m := m) (by omega) (by omega) (by omega) (by omega) (by assumption)
   rw [show (rangeI m).length = m from rangeI_len m] at x_50
   generalize groundM ((lns c).toNat) (c.th.toNat) (2 + c.th + c.sl).toNat (rowsTo c (rangeI m) m) = M0 at x_50 hF
   have hM0 := hF.good
   have hcl0 := hF.cl
   refine K.q [.tuple #[.pointer (some ⟨b_41, 0, none⟩), .pointer (some ⟨p_42, 0, none⟩), .pointer (some ⟨r_44, 0, none⟩), .bool true], .pointer (some ⟨b_41, 0, none⟩), .pointer (some ⟨p_42, 0, none⟩), .pointer (some ⟨r_44, 0, none⟩), .bool true, .pointer (some ⟨b_41, 0, none⟩), .pointer (some ⟨p_42, 0, none⟩), .pointer (some ⟨r_44, 0, none⟩), .bool true] (K.z (K.t (K.s (K.s (K.g (K.q [.bool true, .bool false, .bool false, .int .i64 tt] ?_))))))
   by_cases h_54 : (tt : Int) < (0 : Int)
   ·
    refine K.y ((tt : Int) < (0 : Int)) h_54 ?_
    refine K.q [.bool true, .bool true] ?_
    refine K.RW.skip rfl (by kernel_rfl) ?_
    refine K.RW.skip rfl (by kernel_rfl) ?_
    refine K.RW.skip rfl (by kernel_rfl) ?_
    refine K.RW.skip rfl (by kernel_rfl) ?_
    refine K.q [.bool true] (K.z (K.t (K.h (K.s (K.g ?_)))))
    refine K.l (K.OW.gcall hS [] [0, 1, 2, 3, 4, 5, 6] [] (awake09_ok _) ?_)
    clear hS; rintro _ _ w ⟨rfl, rfl⟩ hS
    replace hS : K.Sat w0 [l_39, gl_46, l_47, m_48, o2, g_2, fr] w := hS
    refine K.q [.bool true] (K.z (K.t (K.r (K.u ?_))))
    refine ⟨.inr rfl, rfl, (.bool true), K.res1 rfl rfl, [], ?_, hS.pick [6]⟩
    exact rfl
   ·
    refine K.x ((tt : Int) < (0 : Int)) h_54 ?_
    refine K.q [.bool false, .bool false, .int .i64 tt, .pointer (some ⟨r_1, 0, none⟩)] ?_
    refine K.d (.int .i64 c.th) ((hS.blk 5 rfl hg_3).cell rfl) ?_
    by_cases h_55 : (tt : Int) ≥ (c.th : Int)
    ·
     refine K.y ((tt : Int) ≥ (c.th : Int)) h_55 ?_
     refine K.q [.bool true] (K.z (K.t (K.h (K.s (K.g ?_)))))
     refine K.l (K.OW.gcall hS [] [0, 1, 2, 3, 4, 5, 6] [] (awake09_ok _) ?_)
     clear hS; rintro _ _ w ⟨rfl, rfl⟩ hS
     replace hS : K.Sat w0 [l_39, gl_46, l_47, m_48, o2, g_2, fr] w := hS
     refine K.q [.bool true] (K.z (K.t (K.r (K.u ?_))))
     refine ⟨.inr rfl, rfl, (.bool true), K.res1 rfl rfl, [], ?_, hS.pick [6]⟩
     exact rfl
    ·
     refine K.x ((tt : Int) ≥ (c.th : Int)) h_55 ?_
     refine K.q [.bool false] (K.z (K.t (K.f (K.k (K.t (K.s (K.g (K.q [.pointer (some ⟨b_41, 0, none⟩), .int .i64 tt] ?_))))))))
     refine K.l (K.OW.gcall hS [] [0, 1, 2, 3, 4, 5, 6] [.pointer (some ⟨b_41, 0, none⟩), .int .i64 tt] (newPop_ok _ _ tt) ?_)
     clear hS; rintro _ _ w ⟨p_56, g_57, rfl, rfl, h_58⟩ hS
     replace hS : K.Sat w0 [g_57, l_39, gl_46, l_47, m_48, o2, g_2, fr] w := hS
     have hS_59 : PopS.good (⟨tt, 0, 0, 0, -1⟩ : PopS) := popInit (by omega)
     refine K.q [.pointer (some ⟨p_56, 0, none⟩)] (K.z (K.t (K.s (K.g (K.q [.pointer (some ⟨p_42, 0, none⟩)] ?_)))))
     refine K.l (K.OW.gcall hS [3] [0, 1, 2, 4, 5, 6, 7] [.pointer (some ⟨p_42, 0, none⟩)] (mClock_ok _ _ _ _ _ _ _ x_50 ) ?_)
     clear hS; rintro _ _ w ⟨rfl, rfl⟩ hS
     replace hS : K.Sat w0 [l_47, g_57, l_39, gl_46, m_48, o2, g_2, fr] w := hS
     refine K.q [.int .i64 M0.clock] (K.z (K.t (K.s (K.s (K.g (K.q [.int .i64 0] (K.z (K.t ?_))))))))
     refine K.KW.block ?_
     refine K.KW.loop (fun m_ F_ w_ => ∃ (i : Nat) (g1i : K.Cs) (l1i : K.Cs), m_ = 9 - i ∧ K.Sl F_ [(0, .agg #[.int .i64 c.th, .int .i64 c.sl, .int .i64 c.lo, .int .i64 c.bu]), (1, .int .i64 many), (2, .int .i64 tt), (6, .bool false), (7, .slice q2 ((rangeI m).length) c2), (9, .pointer (some ⟨b_41, 0, none⟩)), (10, .pointer (some ⟨p_42, 0, none⟩)), (13, .pointer (some ⟨p_56, 0, none⟩)), (14, .int .i64 M0.clock), (15, .int .i64 ((i : Nat) : Int)), (158, undef)] ∧ i ≤ 9 ∧ g1i = [K.pt p_56 130 [.pointer (some ⟨b_41, 0, none⟩), .int .i64 ((popIt c (lns c).toNat ⟨tt, 0, 0, 0, -1⟩ M0 i).1.t), .int .i64 ((popIt c (lns c).toNat ⟨tt, 0, 0, 0, -1⟩ M0 i).1.pc), .int .u64 ((popIt c (lns c).toNat ⟨tt, 0, 0, 0, -1⟩ M0 i).1.top), .int .u64 ((popIt c (lns c).toNat ⟨tt, 0, 0, 0, -1⟩ M0 i).1.next), .int .i64 ((popIt c (lns c).toNat ⟨tt, 0, 0, 0, -1⟩ M0 i).1.slot)]] ∧ MemAt l1i p_42 q_43 ((lns c).toNat) (c.th.toNat) (popIt c (lns c).toNat ⟨tt, 0, 0, 0, -1⟩ M0 i).2 ∧ K.Sat w0 [l1i, g1i, l_39, gl_46, m_48, o2, g_2, fr] w_) ((fun (i : Nat) => 9 - i) 0) ?_ ?_
     ·
      exact ⟨0, g_57, l_47, rfl, ⟨by rfl, by rfl, by rfl, by rfl, by rfl, by rfl, by rfl, by rfl, by rfl, by rfl, by rfl, trivial⟩, (by omega), h_58, x_50, hS.pick [0, 1, 2, 3, 4, 5, 6, 7]⟩
     ·
      clear hS
      intro m_60 F_61 w hI
      obtain ⟨i, g1i, l1i, rfl, sl_62, p_63, x_64, x_65, hS⟩ := hI
      rw [← K.Sl.puts sl_62]; clear sl_62
      obtain ⟨hSi, hMi⟩ := popIt_good (c := c) (n := (lns c).toNat) (S := ⟨tt, 0, 0, 0, -1⟩) (M := M0) (by assumption) (by assumption) i
      refine K.s (K.s (K.g (K.q [.int .i64 ((i : Nat) : Int)] ?_)))
      by_cases h_66 : (((i : Nat) : Int) : Int) < (9 : Int)
      ·
       refine K.y ((((i : Nat) : Int) : Int) < (9 : Int)) h_66 ?_
       refine K.z (K.t (K.h (K.k (K.t (K.s ?_)))))
       refine K.KW.block ?_
       refine K.g (K.q [.pointer (some ⟨p_56, 0, none⟩), .pointer (some ⟨p_42, 0, none⟩)] ?_)
       refine K.l (K.OW.gcall hS [1, 3, 0] [2, 4, 5, 6, 7] [.pointer (some ⟨p_56, 0, none⟩), .pointer (some ⟨p_42, 0, none⟩)] (popStep_ok _ _ _ _ _ _ _ c (by first | assumption | (unfold cfgOk; decide)) (popIt c (lns c).toNat ⟨tt, 0, 0, 0, -1⟩ M0 i).1 _ _ _ _ x_64 hl_49 x_65 (by assumption) (by assumption)) ?_)
       clear hS; rintro _ _ w ⟨g_67, l_68, rfl, rfl, h_69, x_70⟩ hS
       replace hS : K.Sat w0 [g_67, gl_46, l_68, l_39, m_48, o2, g_2, fr] w := hS
       obtain ⟨hS_71, hM_72⟩ := (popStep_good (by assumption) (by assumption) : (popStep c ((lns c).toNat) (popIt c (lns c).toNat ⟨tt, 0, 0, 0, -1⟩ M0 i).1 ((popIt c (lns c).toNat ⟨tt, 0, 0, 0, -1⟩ M0 i).2)).1.good ∧ (popStep c ((lns c).toNat) (popIt c (lns c).toNat ⟨tt, 0, 0, 0, -1⟩ M0 i).1 ((popIt c (lns c).toNat ⟨tt, 0, 0, 0, -1⟩ M0 i).2)).2.good)
       refine K.z ?_
       refine K.blk_normal ?_
       refine K.t (K.g (K.q [.int .i64 ((i : Nat) : Int)] ?_))
       refine K.a (K.QR.n64 ((((i : Nat) : Int) : Int) + (1 : Int)) ((i + 1 : Nat) : Int) (by kernel_rfl) (by omega)) ?_
       refine K.q [.int .i64 ((i + 1 : Nat) : Int)] (K.z (K.t ?_))
       refine ⟨_, ?_, i + 1, g_67, l_68, rfl, ⟨by rfl, by rfl, by rfl, by rfl, by rfl, by rfl, by rfl, by rfl, by rfl, by rfl, by rfl, trivial⟩, (by omega), h_69, x_70, hS.pick [2, 0, 3, 1, 4, 5, 6, 7]⟩
       omega
      ·
       refine K.x ((((i : Nat) : Int) : Int) < (9 : Int)) h_66 ?_
       refine K.z (K.t (K.f ?_))
       refine K.KW.exit ?_
       refine K.thn_exit ?_
       refine K.thn_exit ?_
       refine K.blk_hit ?_
       refine K.t (K.s (K.s ?_))
       obtain rfl : i = 9 := by omega
       obtain ⟨hPg, hPm⟩ := popIt_good (c := c) (n := (lns c).toNat) (S := ⟨tt, 0, 0, 0, -1⟩) (M := M0) (by assumption) (by assumption) 9
       refine K.g (K.q [.slice q2 ((rangeI m).length) c2] ?_)
       refine K.a (K.QR.len (P := Try.prog) rfl rfl Try.underlying63) ?_
       by_cases h_73 : ((((rangeI m).length : Nat) : Int) : Int) = (0 : Int)
       ·
        refine K.ye ((((rangeI m).length : Nat) : Int) : Int) (0 : Int) h_73 ?_
        refine K.z (K.t (K.h (K.s ?_)))
        obtain rfl : m = 0 := by omega
        obtain ⟨hp1, hp2, hp3⟩ := alone_none (t := tt) hF
        refine K.g ?_
        refine K.l (K.OW.gcall hS [] [0, 1, 2, 3, 4, 5, 6, 7] [] (awake09_ok _) ?_)
        clear hS; rintro _ _ w ⟨rfl, rfl⟩ hS
        replace hS : K.Sat w0 [l1i, g1i, l_39, gl_46, m_48, o2, g_2, fr] w := hS
        refine K.q [.bool true, .pointer (some ⟨p_56, 0, none⟩)] ?_
        refine K.l (K.OW.gcall hS [1] [0, 2, 3, 4, 5, 6, 7] [.pointer (some ⟨p_56, 0, none⟩)] (popDoneK_ok _ _ _ (popIt c (lns c).toNat ⟨tt, 0, 0, 0, -1⟩ M0 9).1 _ x_64 (hp1)) ?_)
        clear hS; rintro _ _ w ⟨rfl, rfl⟩ hS
        replace hS : K.Sat w0 [g1i, l1i, l_39, gl_46, m_48, o2, g_2, fr] w := hS
        refine K.q [.bool true, .bool true, .pointer (some ⟨p_56, 0, none⟩)] ?_
        refine K.l (K.OW.gcall hS [0] [1, 2, 3, 4, 5, 6, 7] [.pointer (some ⟨p_56, 0, none⟩)] (popSlot_ok _ _ _ (popIt c (lns c).toNat ⟨tt, 0, 0, 0, -1⟩ M0 9).1 _ x_64) ?_)
        clear hS; rintro _ _ w ⟨rfl, rfl⟩ hS
        replace hS : K.Sat w0 [g1i, l1i, l_39, gl_46, m_48, o2, g_2, fr] w := hS
        refine K.ye ((popIt c (lns c).toNat ⟨tt, 0, 0, 0, -1⟩ M0 9).1.slot : Int) ((-1) : Int) (hp2) ?_
        refine K.q [.bool true, .bool true, .pointer (some ⟨p_42, 0, none⟩)] ?_
        refine K.l (K.OW.gcall hS [1] [0, 2, 3, 4, 5, 6, 7] [.pointer (some ⟨p_42, 0, none⟩)] (mClock_ok _ _ _ _ _ _ _ x_65 ) ?_)
        clear hS; rintro _ _ w ⟨rfl, rfl⟩ hS
        replace hS : K.Sat w0 [l1i, g1i, l_39, gl_46, m_48, o2, g_2, fr] w := hS
        refine K.q [.int .i64 M0.clock] ?_
        refine K.a (K.QR.n64 ((M0.clock : Int) + (1 : Int)) ((M0.clock : Int) + (1 : Int)) (by kernel_rfl) (by omega)) ?_
        refine K.ye (((popIt c (lns c).toNat ⟨tt, 0, 0, 0, -1⟩ M0 9).2).clock : Int) ((M0.clock : Int) + (1 : Int) : Int) (by omega) ?_
        refine K.q [.bool true, .bool true] (K.z (K.t (K.r (K.u ?_))))
        refine ⟨.inr rfl, rfl, (.bool true), K.res1 rfl rfl, [], ?_, hS.pick [7]⟩
        exact rfl
       ·
        refine K.xe ((((rangeI m).length : Nat) : Int) : Int) (0 : Int) h_73 ?_
        refine K.z (K.t (K.f (K.k (K.t (K.s ?_)))))
        obtain ⟨hp1, hp2, hp3, hq1, hq2, hq3⟩ := alone_law (t := tt) hF (by omega) (by omega) (by omega) (by omega)
        have hsl : isInt (popIt c (lns c).toNat ⟨tt, 0, 0, 0, -1⟩ M0 9).1.slot := by rw [hp2]; omega
        have hpl2 : ((pushIt c (lns c).toNat ⟨tt, 0, 0, (popIt c (lns c).toNat ⟨tt, 0, 0, 0, -1⟩ M0 9).1.slot⟩ (popIt c (lns c).toNat ⟨tt, 0, 0, 0, -1⟩ M0 9).2 9).2.pass.length : Int) = 2 + c.th + c.sl := by rw [pushIt_pass, popIt_pass]; exact hF.pl
        refine K.g (K.q [.pointer (some ⟨b_41, 0, none⟩), .int .i64 tt, .pointer (some ⟨p_56, 0, none⟩)] ?_)
        refine K.l (K.OW.gcall hS [1] [0, 2, 3, 4, 5, 6, 7] [.pointer (some ⟨p_56, 0, none⟩)] (popSlot_ok _ _ _ (popIt c (lns c).toNat ⟨tt, 0, 0, 0, -1⟩ M0 9).1 _ x_64) ?_)
        clear hS; rintro _ _ w ⟨rfl, rfl⟩ hS
        replace hS : K.Sat w0 [g1i, l1i, l_39, gl_46, m_48, o2, g_2, fr] w := hS
        refine K.l (K.OW.gcall hS [] [0, 1, 2, 3, 4, 5, 6, 7] [.pointer (some ⟨b_41, 0, none⟩), .int .i64 tt, .int .i64 ((popIt c (lns c).toNat ⟨tt, 0, 0, 0, -1⟩ M0 9).1.slot)] (newPush_ok _ _ tt ((popIt c (lns c).toNat ⟨tt, 0, 0, 0, -1⟩ M0 9).1.slot)) ?_)
        clear hS; rintro _ _ w ⟨p_74, g_75, rfl, rfl, h_76⟩ hS
        replace hS : K.Sat w0 [g_75, g1i, l1i, l_39, gl_46, m_48, o2, g_2, fr] w := hS
        have hS_77 : PushS.good (⟨tt, 0, 0, (popIt c (lns c).toNat ⟨tt, 0, 0, 0, -1⟩ M0 9).1.slot⟩ : PushS) := pushInit (by omega) (by omega)
        refine K.q [.pointer (some ⟨p_74, 0, none⟩)] (K.z (K.t (K.s (K.s (K.g (K.q [.pointer (some ⟨p_56, 0, none⟩)] ?_))))))
        refine K.l (K.OW.gcall hS [1] [0, 2, 3, 4, 5, 6, 7, 8] [.pointer (some ⟨p_56, 0, none⟩)] (popDoneK_ok _ _ _ (popIt c (lns c).toNat ⟨tt, 0, 0, 0, -1⟩ M0 9).1 _ x_64 (hp1)) ?_)
        clear hS; rintro _ _ w ⟨rfl, rfl⟩ hS
        replace hS : K.Sat w0 [g1i, g_75, l1i, l_39, gl_46, m_48, o2, g_2, fr] w := hS
        refine K.q [.bool false, .bool false, .pointer (some ⟨p_56, 0, none⟩)] ?_
        refine K.l (K.OW.gcall hS [0] [1, 2, 3, 4, 5, 6, 7, 8] [.pointer (some ⟨p_56, 0, none⟩)] (popSlot_ok _ _ _ (popIt c (lns c).toNat ⟨tt, 0, 0, 0, -1⟩ M0 9).1 _ x_64) ?_)
        clear hS; rintro _ _ w ⟨rfl, rfl⟩ hS
        replace hS : K.Sat w0 [g1i, g_75, l1i, l_39, gl_46, m_48, o2, g_2, fr] w := hS
        refine K.xn ((popIt c (lns c).toNat ⟨tt, 0, 0, 0, -1⟩ M0 9).1.slot : Int) (0 : Int) (hp2) ?_
        refine K.q [.bool false, .bool false, .pointer (some ⟨p_42, 0, none⟩)] ?_
        refine K.l (K.OW.gcall hS [2] [0, 1, 3, 4, 5, 6, 7, 8] [.pointer (some ⟨p_42, 0, none⟩)] (mClock_ok _ _ _ _ _ _ _ x_65 ) ?_)
        clear hS; rintro _ _ w ⟨rfl, rfl⟩ hS
        replace hS : K.Sat w0 [l1i, g1i, g_75, l_39, gl_46, m_48, o2, g_2, fr] w := hS
        refine K.q [.int .i64 M0.clock] ?_
        refine K.a (K.QR.n64 ((M0.clock : Int) + (3 : Int)) ((M0.clock : Int) + (3 : Int)) (by kernel_rfl) (by omega)) ?_
        refine K.xn (((popIt c (lns c).toNat ⟨tt, 0, 0, 0, -1⟩ M0 9).2).clock : Int) ((M0.clock : Int) + (3 : Int) : Int) (by omega) ?_
        refine K.q [.bool false] (K.z (K.t (K.f (K.k (K.t (K.s (K.s (K.g (K.q [.int .i64 0] (K.z (K.t ?_)))))))))))
        refine K.KW.block ?_
        refine K.KW.loop (fun m_ F_ w_ => ∃ (k : Nat) (g1k : K.Cs) (l1k : K.Cs), m_ = 9 - k ∧ K.Sl F_ [(0, .agg #[.int .i64 c.th, .int .i64 c.sl, .int .i64 c.lo, .int .i64 c.bu]), (1, .int .i64 many), (2, .int .i64 tt), (6, .bool false), (7, .slice q2 ((rangeI m).length) c2), (9, .pointer (some ⟨b_41, 0, none⟩)), (10, .pointer (some ⟨p_42, 0, none⟩)), (14, .int .i64 M0.clock), (16, .pointer (some ⟨p_74, 0, none⟩)), (17, .int .i64 ((k : Nat) : Int)), (158, undef)] ∧ k ≤ 9 ∧ g1k = [K.pt p_74 133 [.pointer (some ⟨b_41, 0, none⟩), .int .i64 ((pushIt c (lns c).toNat ⟨tt, 0, 0, (popIt c (lns c).toNat ⟨tt, 0, 0, 0, -1⟩ M0 9).1.slot⟩ (popIt c (lns c).toNat ⟨tt, 0, 0, 0, -1⟩ M0 9).2 k).1.t), .int .i64 ((pushIt c (lns c).toNat ⟨tt, 0, 0, (popIt c (lns c).toNat ⟨tt, 0, 0, 0, -1⟩ M0 9).1.slot⟩ (popIt c (lns c).toNat ⟨tt, 0, 0, 0, -1⟩ M0 9).2 k).1.pc), .int .u64 ((pushIt c (lns c).toNat ⟨tt, 0, 0, (popIt c (lns c).toNat ⟨tt, 0, 0, 0, -1⟩ M0 9).1.slot⟩ (popIt c (lns c).toNat ⟨tt, 0, 0, 0, -1⟩ M0 9).2 k).1.top), .int .i64 ((pushIt c (lns c).toNat ⟨tt, 0, 0, (popIt c (lns c).toNat ⟨tt, 0, 0, 0, -1⟩ M0 9).1.slot⟩ (popIt c (lns c).toNat ⟨tt, 0, 0, 0, -1⟩ M0 9).2 k).1.slot)]] ∧ MemAt l1k p_42 q_43 ((lns c).toNat) (c.th.toNat) (pushIt c (lns c).toNat ⟨tt, 0, 0, (popIt c (lns c).toNat ⟨tt, 0, 0, 0, -1⟩ M0 9).1.slot⟩ (popIt c (lns c).toNat ⟨tt, 0, 0, 0, -1⟩ M0 9).2 k).2 ∧ K.Sat w0 [l1k, g1i, g1k, l_39, gl_46, m_48, o2, g_2, fr] w_) ((fun (k : Nat) => 9 - k) 0) ?_ ?_
        ·
         exact ⟨0, g_75, l1i, rfl, ⟨by rfl, by rfl, by rfl, by rfl, by rfl, by rfl, by rfl, by rfl, by rfl, by rfl, by rfl, trivial⟩, (by omega), h_76, x_65, hS.pick [0, 1, 2, 3, 4, 5, 6, 7, 8]⟩
        ·
         clear hS
         intro m_78 F_79 w hI
         obtain ⟨k, g1k, l1k, rfl, sl_80, p_81, x_82, x_83, hS⟩ := hI
         rw [← K.Sl.puts sl_80]; clear sl_80
         obtain ⟨hSi, hMi⟩ := pushIt_good (c := c) (n := (lns c).toNat) (S := ⟨tt, 0, 0, (popIt c (lns c).toNat ⟨tt, 0, 0, 0, -1⟩ M0 9).1.slot⟩) (M := (popIt c (lns c).toNat ⟨tt, 0, 0, 0, -1⟩ M0 9).2) (by assumption) (by assumption) k
         refine K.s (K.s (K.g (K.q [.int .i64 ((k : Nat) : Int)] ?_)))
         by_cases h_84 : (((k : Nat) : Int) : Int) < (9 : Int)
         ·
          refine K.y ((((k : Nat) : Int) : Int) < (9 : Int)) h_84 ?_
          refine K.z (K.t (K.h (K.k (K.t (K.s ?_)))))
          refine K.KW.block ?_
          refine K.g (K.q [.pointer (some ⟨p_74, 0, none⟩), .pointer (some ⟨p_42, 0, none⟩)] ?_)
          refine K.l (K.OW.gcall hS [2, 4, 0] [1, 3, 5, 6, 7, 8] [.pointer (some ⟨p_74, 0, none⟩), .pointer (some ⟨p_42, 0, none⟩)] (pushStep_ok _ _ _ _ _ _ _ c (by first | assumption | (unfold cfgOk; decide)) (pushIt c (lns c).toNat ⟨tt, 0, 0, (popIt c (lns c).toNat ⟨tt, 0, 0, 0, -1⟩ M0 9).1.slot⟩ (popIt c (lns c).toNat ⟨tt, 0, 0, 0, -1⟩ M0 9).2 k).1 _ _ _ _ x_82 hl_49 x_83 (by assumption) (by assumption)) ?_)
          clear hS; rintro _ _ w ⟨g_85, l_86, rfl, rfl, h_87, x_88⟩ hS
          replace hS : K.Sat w0 [g_85, gl_46, l_86, g1i, l_39, m_48, o2, g_2, fr] w := hS
          obtain ⟨hS_89, hM_90⟩ := (pushStep_good (by assumption) (by assumption) : (pushStep c ((lns c).toNat) (pushIt c (lns c).toNat ⟨tt, 0, 0, (popIt c (lns c).toNat ⟨tt, 0, 0, 0, -1⟩ M0 9).1.slot⟩ (popIt c (lns c).toNat ⟨tt, 0, 0, 0, -1⟩ M0 9).2 k).1 ((pushIt c (lns c).toNat ⟨tt, 0, 0, (popIt c (lns c).toNat ⟨tt, 0, 0, 0, -1⟩ M0 9).1.slot⟩ (popIt c (lns c).toNat ⟨tt, 0, 0, 0, -1⟩ M0 9).2 k).2)).1.good ∧ (pushStep c ((lns c).toNat) (pushIt c (lns c).toNat ⟨tt, 0, 0, (popIt c (lns c).toNat ⟨tt, 0, 0, 0, -1⟩ M0 9).1.slot⟩ (popIt c (lns c).toNat ⟨tt, 0, 0, 0, -1⟩ M0 9).2 k).1 ((pushIt c (lns c).toNat ⟨tt, 0, 0, (popIt c (lns c).toNat ⟨tt, 0, 0, 0, -1⟩ M0 9).1.slot⟩ (popIt c (lns c).toNat ⟨tt, 0, 0, 0, -1⟩ M0 9).2 k).2)).2.good)
          refine K.z ?_
          refine K.blk_normal ?_
          refine K.t (K.g (K.q [.int .i64 ((k : Nat) : Int)] ?_))
          refine K.a (K.QR.n64 ((((k : Nat) : Int) : Int) + (1 : Int)) ((k + 1 : Nat) : Int) (by kernel_rfl) (by omega)) ?_
          refine K.q [.int .i64 ((k + 1 : Nat) : Int)] (K.z (K.t ?_))
          refine ⟨_, ?_, k + 1, g_85, l_86, rfl, ⟨by rfl, by rfl, by rfl, by rfl, by rfl, by rfl, by rfl, by rfl, by rfl, by rfl, by rfl, trivial⟩, (by omega), h_87, x_88, hS.pick [2, 3, 0, 4, 1, 5, 6, 7, 8]⟩
          omega
         ·
          refine K.x ((((k : Nat) : Int) : Int) < (9 : Int)) h_84 ?_
          refine K.z (K.t (K.f ?_))
          refine K.KW.exit ?_
          refine K.thn_exit ?_
          refine K.thn_exit ?_
          refine K.blk_hit ?_
          refine K.t (K.s ?_)
          obtain rfl : k = 9 := by omega
          obtain ⟨hQg, hQm⟩ := pushIt_good (c := c) (n := (lns c).toNat) (S := ⟨tt, 0, 0, (popIt c (lns c).toNat ⟨tt, 0, 0, 0, -1⟩ M0 9).1.slot⟩) (M := (popIt c (lns c).toNat ⟨tt, 0, 0, 0, -1⟩ M0 9).2) (by assumption) (by assumption) 9
          refine K.g (K.q [.pointer (some ⟨b_41, 0, none⟩), .pointer (some ⟨p_42, 0, none⟩)] ?_)
          refine K.l (K.OW.gcall hS [4, 0] [1, 2, 3, 5, 6, 7, 8] [.pointer (some ⟨b_41, 0, none⟩), .pointer (some ⟨p_42, 0, none⟩)] (listB_ok _ _ _ _ _ _ c (by first | assumption | (unfold cfgOk; decide)) (by first | omega | decide) ((pushIt c (lns c).toNat ⟨tt, 0, 0, (popIt c (lns c).toNat ⟨tt, 0, 0, 0, -1⟩ M0 9).1.slot⟩ (popIt c (lns c).toNat ⟨tt, 0, 0, 0, -1⟩ M0 9).2 9).2) _ _ hl_49 x_83 (by assumption) hpl2 true (by rw [hq3])) ?_)
          clear hS; rintro _ _ w ⟨r_91, c_92, l_93, rfl, rfl, o_94⟩ hS
          replace hS : K.Sat w0 [gl_46, l1k, l_93, g1i, g1k, l_39, m_48, o2, g_2, fr] w := hS
          have hL1 : (listG c (lns c).toNat (pushIt c (lns c).toNat ⟨tt, 0, 0, (popIt c (lns c).toNat ⟨tt, 0, 0, 0, -1⟩ M0 9).1.slot⟩ (popIt c (lns c).toNat ⟨tt, 0, 0, 0, -1⟩ M0 9).2 9).2).1 = rangeI m := by rw [hq3]
          have hL2 : (listG c (lns c).toNat (pushIt c (lns c).toNat ⟨tt, 0, 0, (popIt c (lns c).toNat ⟨tt, 0, 0, 0, -1⟩ M0 9).1.slot⟩ (popIt c (lns c).toNat ⟨tt, 0, 0, 0, -1⟩ M0 9).2 9).2).1.length = m := by rw [hL1, rangeI_len]
          obtain ⟨b_95, rfl⟩ := o_94.some_ (by have := o_94.le; omega)
          refine K.q [.tuple #[.slice (some ⟨b_95, 0, none⟩) ((listG c ((lns c).toNat) ((pushIt c (lns c).toNat ⟨tt, 0, 0, (popIt c (lns c).toNat ⟨tt, 0, 0, 0, -1⟩ M0 9).1.slot⟩ (popIt c (lns c).toNat ⟨tt, 0, 0, 0, -1⟩ M0 9).2 9).2)).1.length) c_92, .bool true], .slice (some ⟨b_95, 0, none⟩) ((listG c ((lns c).toNat) ((pushIt c (lns c).toNat ⟨tt, 0, 0, (popIt c (lns c).toNat ⟨tt, 0, 0, 0, -1⟩ M0 9).1.slot⟩ (popIt c (lns c).toNat ⟨tt, 0, 0, 0, -1⟩ M0 9).2 9).2)).1.length) c_92, .bool true, .slice (some ⟨b_95, 0, none⟩) ((listG c ((lns c).toNat) ((pushIt c (lns c).toNat ⟨tt, 0, 0, (popIt c (lns c).toNat ⟨tt, 0, 0, 0, -1⟩ M0 9).1.slot⟩ (popIt c (lns c).toNat ⟨tt, 0, 0, 0, -1⟩ M0 9).2 9).2)).1.length) c_92, .bool true] (K.z (K.t (K.s (K.g ?_))))
          refine K.l (K.OW.gcall hS [] [0, 1, 2, 3, 4, 5, 6, 7, 8, 9] [] (awake09_ok _) ?_)
          clear hS; rintro _ _ w ⟨rfl, rfl⟩ hS
          replace hS : K.Sat w0 [gl_46, l1k, l_93, g1i, g1k, l_39, m_48, o2, g_2, fr] w := hS
          refine K.q [.bool true, .pointer (some ⟨p_74, 0, none⟩)] ?_
          refine K.l (K.OW.gcall hS [4] [0, 1, 2, 3, 5, 6, 7, 8, 9] [.pointer (some ⟨p_74, 0, none⟩)] (pushDoneK_ok _ _ _ (pushIt c (lns c).toNat ⟨tt, 0, 0, (popIt c (lns c).toNat ⟨tt, 0, 0, 0, -1⟩ M0 9).1.slot⟩ (popIt c (lns c).toNat ⟨tt, 0, 0, 0, -1⟩ M0 9).2 9).1 _ x_82 (hq1)) ?_)
          clear hS; rintro _ _ w ⟨rfl, rfl⟩ hS
          replace hS : K.Sat w0 [g1k, gl_46, l1k, l_93, g1i, l_39, m_48, o2, g_2, fr] w := hS
          refine K.q [.bool true, .bool true, .pointer (some ⟨p_42, 0, none⟩)] ?_
          refine K.l (K.OW.gcall hS [2] [0, 1, 3, 4, 5, 6, 7, 8, 9] [.pointer (some ⟨p_42, 0, none⟩)] (mClock_ok _ _ _ _ _ _ _ x_83 ) ?_)
          clear hS; rintro _ _ w ⟨rfl, rfl⟩ hS
          replace hS : K.Sat w0 [l1k, g1k, gl_46, l_93, g1i, l_39, m_48, o2, g_2, fr] w := hS
          refine K.q [.int .i64 M0.clock] ?_
          refine K.a (K.QR.n64 ((M0.clock : Int) + (6 : Int)) ((M0.clock : Int) + (6 : Int)) (by kernel_rfl) (by omega)) ?_
          refine K.ye (((pushIt c (lns c).toNat ⟨tt, 0, 0, (popIt c (lns c).toNat ⟨tt, 0, 0, 0, -1⟩ M0 9).1.slot⟩ (popIt c (lns c).toNat ⟨tt, 0, 0, 0, -1⟩ M0 9).2 9).2).clock : Int) ((M0.clock : Int) + (6 : Int) : Int) (by omega) ?_
          refine K.q [.bool true, .bool true, .bool true, .bool true, .bool true, .slice (some ⟨b_95, 0, none⟩) ((listG c ((lns c).toNat) ((pushIt c (lns c).toNat ⟨tt, 0, 0, (popIt c (lns c).toNat ⟨tt, 0, 0, 0, -1⟩ M0 9).1.slot⟩ (popIt c (lns c).toNat ⟨tt, 0, 0, 0, -1⟩ M0 9).2 9).2)).1.length) c_92] ?_
          refine K.a (K.QR.len (P := Try.prog) rfl rfl Try.underlying63) ?_
          refine K.q [.slice q2 ((rangeI m).length) c2] ?_
          refine K.a (K.QR.len (P := Try.prog) rfl rfl Try.underlying63) ?_
          refine K.ye ((((listG c ((lns c).toNat) ((pushIt c (lns c).toNat ⟨tt, 0, 0, (popIt c (lns c).toNat ⟨tt, 0, 0, 0, -1⟩ M0 9).1.slot⟩ (popIt c (lns c).toNat ⟨tt, 0, 0, 0, -1⟩ M0 9).2 9).2)).1.length : Nat) : Int) : Int) ((((rangeI m).length : Nat) : Int) : Int) (by omega) ?_
          refine K.q [.bool true, .bool true, .slice (some ⟨b_95, 0, none⟩) ((listG c ((lns c).toNat) ((pushIt c (lns c).toNat ⟨tt, 0, 0, (popIt c (lns c).toNat ⟨tt, 0, 0, 0, -1⟩ M0 9).1.slot⟩ (popIt c (lns c).toNat ⟨tt, 0, 0, 0, -1⟩ M0 9).2 9).2)).1.length) c_92] ?_
          refine K.a (K.QR.ix 0 1 rfl rfl rfl Try.underlying63 (by kernel_rfl) (by omega) (by first | (simp; done) | omega | (simp; omega))) ?_
          refine K.d (.int .i64 (((listG c ((lns c).toNat) ((pushIt c (lns c).toNat ⟨tt, 0, 0, (popIt c (lns c).toNat ⟨tt, 0, 0, 0, -1⟩ M0 9).1.slot⟩ (popIt c (lns c).toNat ⟨tt, 0, 0, 0, -1⟩ M0 9).2 9).2)).1).getD 0 0)) (K.Own.atS (c := cI64) (d := 0) (fun _ => rfl) (hS.ownr 3 rfl o_94) rfl 0 (by omega)) ?_
          refine K.ye (((listG c ((lns c).toNat) ((pushIt c (lns c).toNat ⟨tt, 0, 0, (popIt c (lns c).toNat ⟨tt, 0, 0, 0, -1⟩ M0 9).1.slot⟩ (popIt c (lns c).toNat ⟨tt, 0, 0, 0, -1⟩ M0 9).2 9).2)).1).getD 0 0 : Int) (0 : Int) (by rw [hL1, rangeI_get (by omega)]; rfl) ?_
          refine K.q [.bool true, .bool true] (K.z (K.t (K.r ?_)))
          refine ⟨.inr rfl, rfl, (.bool true), K.res1 rfl rfl, [], ?_, hS.pick [9]⟩
          exact rfl
 ·
  replace hS : K.Sat w0 [g_2, fr] w := hS
  refine K.q [.bool true] (K.z (K.t (K.h (K.s (K.g ?_)))))
  refine K.l (K.OW.gcall hS [] [0, 1] [] (awake09_ok _) ?_)
  clear hS; rintro _ _ w ⟨rfl, rfl⟩ hS
  replace hS : K.Sat w0 [g_2, fr] w := hS
  refine K.q [.bool true] (K.z (K.t (K.r (K.u ?_))))
  refine ⟨.inr rfl, rfl, (.bool true), K.res1 rfl rfl, [], ?_, hS.pick [1]⟩
  exact rfl
end Go.Proofs.Ytajkickofkeemaa
