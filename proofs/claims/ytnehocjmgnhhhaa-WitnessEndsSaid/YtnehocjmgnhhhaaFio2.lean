import Derived.Test.YtnehocjmgnhhhaaFio
import Derived.Test.YtnehocjmgnhhhaaKn
/- Witness: all orders. -/
namespace Go.Proofs.Ytnehocjmgnhhhaa
open Go.RowKit
set_option linter.unusedVariables false
attribute [local irreducible] K.KW K.RW K.DW K.OW K.QR K.KC
set_option maxHeartbeats 16000000 in
set_option maxRecDepth 100000 in
theorem ords_step (w0 : World) (m : Nat) (hm : m ≤ 4) (IH : K.GC Try.prog w0 37 #[K.iv ((m : Nat) : Int)] [] (fun v post => ∃ g go ra c Lo, post = [g, go] ∧ v = .slice ra Lo.length c ∧ K.OwnG go 23 1 ra Lo.length c (Lo.flatMap cInE) ∧ AllRi w0 g Lo ∧ lsI Lo = ordN m)) :
  K.GC Try.prog w0 37 #[K.iv ((m + 1 : Nat) : Int)] [] (fun v post => ∃ g go ra c Lo, post = [g, go] ∧ v = .slice ra Lo.length c ∧ K.OwnG go 23 1 ra Lo.length c (Lo.flatMap cInE) ∧ AllRi w0 g Lo ∧ lsI Lo = ordN (m + 1)) := by
 refine K.GC.mk (n := 76) Try.func37 rfl rfl [K.iv ((m + 1 : Nat) : Int)] rfl rfl ?_
 intro fr w hS
 replace hS : K.Sat w0 [fr] w := hS
 refine K.s (K.g (K.q [.slice none 0 0] (K.z (K.t (K.s (K.s (K.g (K.q [K.iv ((m + 1 : Nat) : Int)] ?_))))))))
 refine K.x ((((m + 1 : Nat) : Int) : Int) ≤ (0 : Int)) ((by omega)) ?_
 refine K.z (K.t (K.f (K.k (K.t (K.s (K.g (K.q [K.iv ((m + 1 : Nat) : Int)] ?_)))))))
 refine K.a (K.QR.turn (v := K.iv ((m + 1 - 1 : Nat) : Int)) (K.QR.n64 ((((m + 1 : Nat) : Int) : Int) - (1 : Int)) ((m + 1 - 1 : Nat) : Int) (by kernel_rfl) (by omega)) (congrArg (Value.int .i64) (show (((m + 1 - 1 : Nat) : Int) : Int) = (((m : Nat) : Int) : Int) from by omega))) ?_
 refine K.l (K.OW.gcall hS [] [0] [K.iv ((m : Nat) : Int)] IH ?_)
 clear hS; rintro _ _ w ⟨g_1, go_2, ra_3, c_4, Lo_5, rfl, rfl, o_6, hal_7, hls_8⟩ hS
 have hr_9 : ∀ w, K.Sat w0 [go_2] w → K.RowE w ra_3 Lo_5.length 1 (fun i => cInE (Lo_5.getD i dInE)) := fun w h => K.RowE.len (K.Own.rowE dInE (h.ownr 0 rfl o_6) rfl (fun _ => rfl)) rfl
 replace hS : K.Sat w0 [g_1, go_2, fr] w := hS
 refine K.q [.slice ra_3 Lo_5.length c_4] (K.z (K.t (K.s (K.g (K.q [.slice none 0 0] (K.z (K.t (K.s (K.s (K.g (K.q [K.iv 0] (K.z (K.t ?_)))))))))))))
 refine K.KW.block ?_
 obtain ⟨z_10, hz_11⟩ : ∃ z : K.Cs, z = [] := ⟨_, rfl⟩
 replace hS : K.Sat w0 [z_10, g_1, go_2, fr] w := hS.of (by simp [hz_11])
 have o_12 : K.OwnG z_10 23 1 none 0 0 [] := by rw [hz_11]; exact K.OwnG.nil _ _
 have hless := ordN_cnt (n := m) (by omega)
 rw [← hls_8, lsI_len] at hless
 refine K.KW.loop (fun m_ F_ w_ => ∃ (i : Nat) (Lo : List InE) (q1 : Option Addr) (c1 : Nat) (go1 : K.Cs) (og : K.Cs), m_ = 1000 - i ∧ K.Sl F_ [(0, K.iv ((m + 1 : Nat) : Int)), (2, .slice none 0 0), (3, .slice ra_3 Lo_5.length c_4), (4, .slice q1 Lo.length c1), (5, K.iv ((i : Nat) : Int)), (76, undef)] ∧ i ≤ Lo_5.length ∧ lsI Lo = ((lsI Lo_5).take i).flatMap (insAll m) ∧ AllRi w0 og Lo ∧ AllRi w0 og Lo_5 ∧ Lo.length ≤ 5 * i ∧ K.OwnG go1 23 1 q1 Lo.length c1 ((Lo).flatMap cInE) ∧ True ∧ K.Sat w0 [go1, og, go_2, fr] w_) ((fun (i : Nat) (Lo : List InE) (q1 : Option Addr) (c1 : Nat) => 1000 - i) 0 [] none 0) ?_ ?_
 ·
  exact ⟨0, [], none, 0, z_10, g_1, rfl, ⟨by rfl, by rfl, by rfl, by rfl, by rfl, by rfl, trivial⟩, (by omega), (rfl), (AllRi.nil), (hal_7), (by simp), o_12, trivial, hS.pick [0, 1, 2, 3]⟩
 ·
  clear hS
  intro m_13 F_14 w hI
  obtain ⟨i, Lo, q1, c1, go1, og, rfl, sl_15, p_16, hlo, hao, hlm, hll, x_17, x_18, hS⟩ := hI
  rw [← K.Sl.puts sl_15]; clear sl_15
  refine K.s (K.s (K.g (K.q [K.iv ((i : Nat) : Int), .slice ra_3 Lo_5.length c_4] ?_)))
  refine K.a (K.QR.len (P := Try.prog) rfl rfl Try.underlying70) ?_
  by_cases h_19 : (((i : Nat) : Int) : Int) < (((Lo_5.length : Nat) : Int) : Int)
  ·
   refine K.y ((((i : Nat) : Int) : Int) < (((Lo_5.length : Nat) : Int) : Int)) h_19 ?_
   refine K.z (K.t (K.h (K.k (K.t (K.s ?_)))))
   refine K.KW.block ?_
   refine K.s (K.g (K.q [K.iv 0] (K.z (K.t ?_))))
   refine K.KW.block ?_
   have hi9 : i < Lo_5.length := by omega
   obtain ⟨a9, c9, p9, he9⟩ : ∃ a c p, Lo_5.getD i dInE = InE.mk a c p := ⟨_, _, _, rfl⟩
   have hp9 : p9.length = m := by have h := ords_at hls_8 hi9; rw [he9] at h; exact h
   have hpe : p9 = (Lo_5.getD i dInE).L := by rw [he9]
   refine K.KW.loop (fun m_ F_ w_ => ∃ (k9 : Nat) (Lo : List InE) (q1 : Option Addr) (c1 : Nat) (go1 : K.Cs) (og : K.Cs), m_ = 10 - k9 ∧ K.Sl F_ [(0, K.iv ((m + 1 : Nat) : Int)), (2, .slice none 0 0), (3, .slice ra_3 Lo_5.length c_4), (4, .slice q1 Lo.length c1), (5, K.iv ((i : Nat) : Int)), (6, K.iv ((k9 : Nat) : Int)), (76, undef)] ∧ k9 ≤ m + 1 ∧ lsI Lo = ((lsI Lo_5).take i).flatMap (insAll m) ++ (List.range k9).map (insA m p9) ∧ AllRi w0 og Lo ∧ AllRi w0 og Lo_5 ∧ Lo.length ≤ 5 * i + k9 ∧ K.OwnG go1 23 1 q1 Lo.length c1 ((Lo).flatMap cInE) ∧ True ∧ K.Sat w0 [go1, og, go_2, fr] w_) ((fun (k9 : Nat) (Lo : List InE) (q1 : Option Addr) (c1 : Nat) => 10 - k9) 0 Lo q1 c1) ?_ ?_
   ·
    exact ⟨0, Lo, q1, c1, go1, og, rfl, ⟨by rfl, by rfl, by rfl, by rfl, by rfl, by rfl, by rfl, trivial⟩, (by omega), (by rw [hlo]; simp), (hao), (hlm), (by omega), x_17, trivial, hS.pick [0, 1, 2, 3]⟩
   ·
    clear hS
    intro m_20 F_21 w hI
    obtain ⟨k9, Lo, q1, c1, go1, og, rfl, sl_22, p_23, hlo, hao, hlm, hll, x_24, x_25, hS⟩ := hI
    rw [← K.Sl.puts sl_22]; clear sl_22
    refine K.s (K.s ?_)
    have h9_26 : ∀ w, K.Sat w0 [og] w → K.RowE w a9 p9.length 1 (fun i => cI64 (p9.getD i 0)) := by have h := (hlm i hi9).1; rw [he9] at h; exact h
    have hc9_27 : p9.length ≤ c9 := by have h := (hlm i hi9).2; rw [he9] at h; exact h
    obtain ⟨b_28, of_29, rfl, _⟩ := (hr_9 _ (hS.pick [2])).at_ (by omega)
    refine K.g (K.q [K.iv ((k9 : Nat) : Int), .slice (some ⟨b_28, of_29, none⟩) Lo_5.length c_4, K.iv ((i : Nat) : Int)] ?_)
    refine K.a (K.QR.ix (of_29 + i * 1) 1 rfl rfl rfl Try.underlying70 (by kernel_rfl) (by omega) (by first | (simp; done) | omega | (simp; omega))) ?_
    refine K.a (K.QR.turn (v := .slice ((Lo_5.getD i dInE).a) ((Lo_5.getD i dInE).L.length) ((Lo_5.getD i dInE).c)) (v' := .slice a9 p9.length c9) (K.QR.ld1 (v := .slice ((Lo_5.getD i dInE).a) ((Lo_5.getD i dInE).L.length) ((Lo_5.getD i dInE).c)) rfl rfl (by kernel_rfl) ((hr_9 _ (hS.pick [2])).ld i (by omega) 0 _ rfl)) (by rw [he9])) ?_
    refine K.a (K.QR.len (P := Try.prog) rfl rfl Try.underlying23) ?_
    by_cases h_30 : (((k9 : Nat) : Int) : Int) ≤ (((p9.length : Nat) : Int) : Int)
    ·
     refine K.y ((((k9 : Nat) : Int) : Int) ≤ (((p9.length : Nat) : Int) : Int)) h_30 ?_
     refine K.z (K.t (K.h (K.k (K.t (K.s ?_)))))
     refine K.KW.block ?_
     refine K.s (K.g (K.q [.slice none 0 0] (K.z (K.t (K.s (K.s (K.g (K.q [K.iv 0] (K.z (K.t ?_))))))))))
     refine K.KW.block ?_
     obtain ⟨z_31, hz_32⟩ : ∃ z : K.Cs, z = [] := ⟨_, rfl⟩
     replace hS : K.Sat w0 [z_31, go1, og, go_2, fr] w := hS.of (by simp [hz_32])
     have o_33 : K.OwnG z_31 3 1 none 0 0 [] := by rw [hz_32]; exact K.OwnG.nil _ _
     refine K.KW.loop (fun m_ F_ w_ => ∃ (k : Nat) (o : List Int) (q2 : Option Addr) (c2 : Nat) (oo1 : K.Cs), m_ = 10 - k ∧ K.Sl F_ [(0, K.iv ((m + 1 : Nat) : Int)), (2, .slice none 0 0), (3, .slice (some ⟨b_28, of_29, none⟩) Lo_5.length c_4), (4, .slice q1 Lo.length c1), (5, K.iv ((i : Nat) : Int)), (6, K.iv ((k9 : Nat) : Int)), (7, .slice q2 o.length c2), (8, K.iv ((k : Nat) : Int)), (76, undef)] ∧ k ≤ k9 ∧ o = p9.take k ∧ K.OwnG oo1 3 1 q2 o.length c2 ((o).flatMap cI64) ∧ K.Sat w0 [oo1, go1, og, go_2, fr] w_) ((fun (k : Nat) (o : List Int) (q2 : Option Addr) (c2 : Nat) => 10 - k) 0 [] none 0) ?_ ?_
     ·
      exact ⟨0, [], none, 0, z_31, rfl, ⟨by rfl, by rfl, by rfl, by rfl, by rfl, by rfl, by rfl, by rfl, by rfl, trivial⟩, (by omega), (rfl), o_33, hS.pick [0, 1, 2, 3, 4]⟩
     ·
      clear hS
      intro m_34 F_35 w hI
      obtain ⟨k, o, q2, c2, oo1, rfl, sl_36, p_37, hoe, x_38, hS⟩ := hI
      rw [← K.Sl.puts sl_36]; clear sl_36
      have hol : o.length = k := by rw [hoe, tk_len (by omega)]
      refine K.s (K.s (K.g (K.q [K.iv ((k : Nat) : Int), K.iv ((k9 : Nat) : Int)] ?_)))
      by_cases h_39 : (((k : Nat) : Int) : Int) < (((k9 : Nat) : Int) : Int)
      ·
       refine K.y ((((k : Nat) : Int) : Int) < (((k9 : Nat) : Int) : Int)) h_39 ?_
       refine K.z (K.t (K.h (K.k (K.t (K.s ?_)))))
       refine K.KW.block ?_
       have h9_40 : ∀ w, K.Sat w0 [og] w → K.RowE w a9 p9.length 1 (fun i => cI64 (p9.getD i 0)) := by have h := (hlm i hi9).1; rw [he9] at h; exact h
       have hc9_41 : p9.length ≤ c9 := by have h := (hlm i hi9).2; rw [he9] at h; exact h
       obtain ⟨b_42, of_43, rfl, _⟩ := (h9_40 _ (hS.pick [2])).at_ (by omega)
       refine K.g (K.q [.slice q2 o.length c2, .slice (some ⟨b_28, of_29, none⟩) Lo_5.length c_4, K.iv ((i : Nat) : Int)] ?_)
       refine K.a (K.QR.ix (of_29 + i * 1) 1 rfl rfl rfl Try.underlying70 (by kernel_rfl) (by omega) (by first | (simp; done) | omega | (simp; omega))) ?_
       refine K.a (K.QR.turn (v := .slice ((Lo_5.getD i dInE).a) ((Lo_5.getD i dInE).L.length) ((Lo_5.getD i dInE).c)) (v' := .slice (some ⟨b_42, of_43, none⟩) p9.length c9) (K.QR.ld1 (v := .slice ((Lo_5.getD i dInE).a) ((Lo_5.getD i dInE).L.length) ((Lo_5.getD i dInE).c)) rfl rfl (by kernel_rfl) ((hr_9 _ (hS.pick [3])).ld i (by omega) 0 _ rfl)) (by rw [he9])) ?_
       refine K.q [K.iv ((k : Nat) : Int)] ?_
       refine K.a (K.QR.ix (of_43 + k * 1) 1 rfl rfl rfl Try.underlying23 (by kernel_rfl) (by omega) (by first | (simp; done) | omega | (simp; omega))) ?_
       refine K.d (K.iv (p9.getD k 0)) ((h9_40 _ (hS.pick [2])).ld k (by omega) 0 _ rfl) ?_
       refine K.l (K.OW.gbs [(0, K.iv (p9.getD k 0))] [K.iv (p9.getD k 0)] hS (fun w => K.bs_run (P := Try.prog) w 23 3 1 _ _ Try.underlying23 (by kernel_rfl)) ?_)
       clear hS; intro w r_44 g_45 hg_46 hS
       refine K.l (K.OW.gapp (P := Try.prog) (xs := (o).flatMap cI64) (z := K.iv 0) (size := 1) (bytes := 8) 1 [K.iv (p9.getD k 0)] hS x_38 ?_ (fun j u hj => (by rw [Nat.zero_add]; exact (hS.blk 0 rfl hg_46).cell hj)) (K.one_cells (by rfl)) (by rfl) Try.underlying23 (by kernel_rfl) rfl (by decide) (by unfold maxLen; omega) (by omega))
       clear hS; intro a_47 cap_48 w l_49 o_50 hS
       have ln_51 : ((o ++ [(p9.getD k 0 : Int)])).length = o.length + 1 := by rw [List.length_append]; rfl
       have o_50c := K.OwnG.cast (xs' := ((o ++ [(p9.getD k 0 : Int)])).flatMap cI64) o_50 rfl (K.fl_snoc cI64 o (p9.getD k 0 : Int) rfl)
       replace hS : K.Sat w0 [g_45, l_49, go1, og, go_2, fr] w := hS
       refine K.q [.slice a_47 (o.length + 1) cap_48] (K.z ?_)
       refine K.blk_normal ?_
       refine K.t (K.g (K.q [K.iv ((k : Nat) : Int)] ?_))
       refine K.a (K.QR.n64 ((((k : Nat) : Int) : Int) + (1 : Int)) ((k + 1 : Nat) : Int) (by kernel_rfl) (by omega)) ?_
       refine K.q [K.iv ((k + 1 : Nat) : Int)] (K.z (K.t ?_))
       refine ⟨_, ?_, k + 1, (o ++ [(p9.getD k 0 : Int)]), a_47, cap_48, l_49, rfl, ⟨by rfl, by rfl, by rfl, by rfl, by rfl, by rfl, congrArg (fun m_ => Value.slice a_47 m_ cap_48) (by first | rfl | (rw [List.length_append]; rfl) : o.length + 1 = ((o ++ [(p9.getD k 0 : Int)])).length), by rfl, by rfl, trivial⟩, (by omega), (by rw [hoe, tk_int (by omega)]), (K.OwnG.cast o_50c (by first | rfl | (rw [List.length_append]; rfl)) rfl), hS.pick [1, 2, 3, 4, 5]⟩
       omega
      ·
       refine K.x ((((k : Nat) : Int) : Int) < (((k9 : Nat) : Int) : Int)) h_39 ?_
       refine K.z (K.t (K.f ?_))
       refine K.KW.exit ?_
       refine K.thn_exit ?_
       refine K.thn_exit ?_
       refine K.blk_hit ?_
       refine K.t (K.s (K.g (K.q [.slice q2 o.length c2, K.iv ((m + 1 : Nat) : Int)] ?_)))
       refine K.a (K.QR.turn (v := K.iv ((m + 1 - 1 : Nat) : Int)) (K.QR.n64 ((((m + 1 : Nat) : Int) : Int) - (1 : Int)) ((m + 1 - 1 : Nat) : Int) (by kernel_rfl) (by omega)) (congrArg (Value.int .i64) (show (((m + 1 - 1 : Nat) : Int) : Int) = (((m : Nat) : Int) : Int) from by omega))) ?_
       refine K.l (K.OW.gbs [(0, K.iv ((m : Nat) : Int))] [K.iv ((m : Nat) : Int)] hS (fun w => K.bs_run (P := Try.prog) w 23 3 1 _ _ Try.underlying23 (by kernel_rfl)) ?_)
       clear hS; intro w r_52 g_53 hg_54 hS
       refine K.l (K.OW.gapp (P := Try.prog) (xs := (o).flatMap cI64) (z := K.iv 0) (size := 1) (bytes := 8) 1 [K.iv ((m : Nat) : Int)] hS x_38 ?_ (fun j u hj => (by rw [Nat.zero_add]; exact (hS.blk 0 rfl hg_54).cell hj)) (K.one_cells (by rfl)) (by rfl) Try.underlying23 (by kernel_rfl) rfl (by decide) (by unfold maxLen; omega) (by omega))
       clear hS; intro a_55 cap_56 w l_57 o_58 hS
       have ln_59 : ((o ++ [(((m : Nat) : Int) : Int)])).length = o.length + 1 := by rw [List.length_append]; rfl
       have o_58c := K.OwnG.cast (xs' := ((o ++ [(((m : Nat) : Int) : Int)])).flatMap cI64) o_58 rfl (K.fl_snoc cI64 o (((m : Nat) : Int) : Int) rfl)
       replace hS : K.Sat w0 [g_53, l_57, go1, og, go_2, fr] w := hS
       refine K.q [.slice a_55 (o.length + 1) cap_56] (K.z (K.t (K.s (K.s (K.g (K.q [K.iv ((k9 : Nat) : Int), K.iv ((k9 : Nat) : Int)] (K.z (K.t ?_))))))))
       refine K.KW.block ?_
       refine K.KW.loop (fun m_ F_ w_ => ∃ (k : Nat) (o : List Int) (q2 : Option Addr) (c2 : Nat) (oo1 : K.Cs), m_ = 10 - k ∧ K.Sl F_ [(0, K.iv ((m + 1 : Nat) : Int)), (2, .slice none 0 0), (3, .slice (some ⟨b_28, of_29, none⟩) Lo_5.length c_4), (4, .slice q1 Lo.length c1), (5, K.iv ((i : Nat) : Int)), (6, K.iv ((k9 : Nat) : Int)), (7, .slice q2 o.length c2), (9, K.iv ((k : Nat) : Int)), (76, undef)] ∧ (k9 ≤ k ∧ k ≤ m) ∧ o = p9.take k9 ++ [((m : Nat) : Int)] ++ (p9.drop k9).take (k - k9) ∧ K.OwnG oo1 3 1 q2 o.length c2 ((o).flatMap cI64) ∧ K.Sat w0 [g_53, oo1, go1, og, go_2, fr] w_) ((fun (k : Nat) (o : List Int) (q2 : Option Addr) (c2 : Nat) => 10 - k) k9 (o ++ [(((m : Nat) : Int) : Int)]) a_55 cap_56) ?_ ?_
       ·
        exact ⟨k9, (o ++ [(((m : Nat) : Int) : Int)]), a_55, cap_56, l_57, rfl, ⟨by rfl, by rfl, by rfl, by rfl, by rfl, by rfl, congrArg (fun m_ => Value.slice a_55 m_ cap_56) (by first | rfl | (rw [List.length_append]; rfl) : o.length + 1 = ((o ++ [(((m : Nat) : Int) : Int)])).length), by rfl, by rfl, trivial⟩, (by omega), (by rw [hoe, show k = k9 by omega, Nat.sub_self]; simp), (K.OwnG.cast o_58c (by first | rfl | (rw [List.length_append]; rfl)) rfl), hS.pick [0, 1, 2, 3, 4, 5]⟩
       ·
        clear hS
        intro m_60 F_61 w hI
        obtain ⟨k, o, q2, c2, oo1, rfl, sl_62, p_63, hoe, x_64, hS⟩ := hI
        rw [← K.Sl.puts sl_62]; clear sl_62
        have hol : o.length = k + 1 := by rw [hoe]; simp; omega
        refine K.s (K.s ?_)
        have h9_65 : ∀ w, K.Sat w0 [og] w → K.RowE w a9 p9.length 1 (fun i => cI64 (p9.getD i 0)) := by have h := (hlm i hi9).1; rw [he9] at h; exact h
        have hc9_66 : p9.length ≤ c9 := by have h := (hlm i hi9).2; rw [he9] at h; exact h
        refine K.g (K.q [K.iv ((k : Nat) : Int), .slice (some ⟨b_28, of_29, none⟩) Lo_5.length c_4, K.iv ((i : Nat) : Int)] ?_)
        refine K.a (K.QR.ix (of_29 + i * 1) 1 rfl rfl rfl Try.underlying70 (by kernel_rfl) (by omega) (by first | (simp; done) | omega | (simp; omega))) ?_
        refine K.a (K.QR.turn (v := .slice ((Lo_5.getD i dInE).a) ((Lo_5.getD i dInE).L.length) ((Lo_5.getD i dInE).c)) (v' := .slice a9 p9.length c9) (K.QR.ld1 (v := .slice ((Lo_5.getD i dInE).a) ((Lo_5.getD i dInE).L.length) ((Lo_5.getD i dInE).c)) rfl rfl (by kernel_rfl) ((hr_9 _ (hS.pick [4])).ld i (by omega) 0 _ rfl)) (by rw [he9])) ?_
        refine K.a (K.QR.len (P := Try.prog) rfl rfl Try.underlying23) ?_
        by_cases h_67 : (((k : Nat) : Int) : Int) < (((p9.length : Nat) : Int) : Int)
        ·
         refine K.y ((((k : Nat) : Int) : Int) < (((p9.length : Nat) : Int) : Int)) h_67 ?_
         refine K.z (K.t (K.h (K.k (K.t (K.s ?_)))))
         refine K.KW.block ?_
         have h9_68 : ∀ w, K.Sat w0 [og] w → K.RowE w a9 p9.length 1 (fun i => cI64 (p9.getD i 0)) := by have h := (hlm i hi9).1; rw [he9] at h; exact h
         have hc9_69 : p9.length ≤ c9 := by have h := (hlm i hi9).2; rw [he9] at h; exact h
         obtain ⟨b_70, of_71, rfl, _⟩ := (h9_68 _ (hS.pick [3])).at_ (by omega)
         refine K.g (K.q [.slice q2 o.length c2, .slice (some ⟨b_28, of_29, none⟩) Lo_5.length c_4, K.iv ((i : Nat) : Int)] ?_)
         refine K.a (K.QR.ix (of_29 + i * 1) 1 rfl rfl rfl Try.underlying70 (by kernel_rfl) (by omega) (by first | (simp; done) | omega | (simp; omega))) ?_
         refine K.a (K.QR.turn (v := .slice ((Lo_5.getD i dInE).a) ((Lo_5.getD i dInE).L.length) ((Lo_5.getD i dInE).c)) (v' := .slice (some ⟨b_70, of_71, none⟩) p9.length c9) (K.QR.ld1 (v := .slice ((Lo_5.getD i dInE).a) ((Lo_5.getD i dInE).L.length) ((Lo_5.getD i dInE).c)) rfl rfl (by kernel_rfl) ((hr_9 _ (hS.pick [4])).ld i (by omega) 0 _ rfl)) (by rw [he9])) ?_
         refine K.q [K.iv ((k : Nat) : Int)] ?_
         refine K.a (K.QR.ix (of_71 + k * 1) 1 rfl rfl rfl Try.underlying23 (by kernel_rfl) (by omega) (by first | (simp; done) | omega | (simp; omega))) ?_
         refine K.d (K.iv (p9.getD k 0)) ((h9_68 _ (hS.pick [3])).ld k (by omega) 0 _ rfl) ?_
         refine K.l (K.OW.gbs [(0, K.iv (p9.getD k 0))] [K.iv (p9.getD k 0)] hS (fun w => K.bs_run (P := Try.prog) w 23 3 1 _ _ Try.underlying23 (by kernel_rfl)) ?_)
         clear hS; intro w r_72 g_73 hg_74 hS
         refine K.l (K.OW.gapp (P := Try.prog) (xs := (o).flatMap cI64) (z := K.iv 0) (size := 1) (bytes := 8) 2 [K.iv (p9.getD k 0)] hS x_64 ?_ (fun j u hj => (by rw [Nat.zero_add]; exact (hS.blk 0 rfl hg_74).cell hj)) (K.one_cells (by rfl)) (by rfl) Try.underlying23 (by kernel_rfl) rfl (by decide) (by unfold maxLen; omega) (by omega))
         clear hS; intro a_75 cap_76 w l_77 o_78 hS
         have ln_79 : ((o ++ [(p9.getD k 0 : Int)])).length = o.length + 1 := by rw [List.length_append]; rfl
         have o_78c := K.OwnG.cast (xs' := ((o ++ [(p9.getD k 0 : Int)])).flatMap cI64) o_78 rfl (K.fl_snoc cI64 o (p9.getD k 0 : Int) rfl)
         replace hS : K.Sat w0 [g_73, g_53, l_77, go1, og, go_2, fr] w := hS
         refine K.q [.slice a_75 (o.length + 1) cap_76] (K.z ?_)
         refine K.blk_normal ?_
         refine K.t (K.g (K.q [K.iv ((k : Nat) : Int)] ?_))
         refine K.a (K.QR.n64 ((((k : Nat) : Int) : Int) + (1 : Int)) ((k + 1 : Nat) : Int) (by kernel_rfl) (by omega)) ?_
         refine K.q [K.iv ((k + 1 : Nat) : Int)] (K.z (K.t ?_))
         refine ⟨_, ?_, k + 1, (o ++ [(p9.getD k 0 : Int)]), a_75, cap_76, l_77, rfl, ⟨by rfl, by rfl, by rfl, by rfl, by rfl, by rfl, congrArg (fun m_ => Value.slice a_75 m_ cap_76) (by first | rfl | (rw [List.length_append]; rfl) : o.length + 1 = ((o ++ [(p9.getD k 0 : Int)])).length), by rfl, by rfl, trivial⟩, (by omega), (by rw [hoe, ins_step (by omega) (by omega)]), (K.OwnG.cast o_78c (by first | rfl | (rw [List.length_append]; rfl)) rfl), hS.pick [1, 2, 3, 4, 5, 6]⟩
         omega
        ·
         refine K.x ((((k : Nat) : Int) : Int) < (((p9.length : Nat) : Int) : Int)) h_67 ?_
         refine K.z (K.t (K.f ?_))
         refine K.KW.exit ?_
         refine K.thn_exit ?_
         refine K.thn_exit ?_
         refine K.blk_hit ?_
         refine K.t (K.g (K.q [.slice q1 Lo.length c1, .slice q2 o.length c2] ?_))
         refine K.l (K.OW.gbs [(0, .slice q2 o.length c2)] [.slice q2 o.length c2] hS (fun w => K.bs_run (P := Try.prog) w 70 23 1 _ _ Try.underlying70 (by kernel_rfl)) ?_)
         clear hS; intro w r_80 g_81 hg_82 hS
         refine K.l (K.OW.gapp (P := Try.prog) (xs := (Lo).flatMap cInE) (z := .slice none 0 0) (size := 1) (bytes := 24) 3 [.slice q2 o.length c2] hS x_24 ?_ (fun j u hj => (by rw [Nat.zero_add]; exact (hS.blk 0 rfl hg_82).cell hj)) (K.one_cells (by rfl)) (by rfl) Try.underlying70 (by kernel_rfl) rfl (by decide) (by unfold maxLen; omega) (by omega))
         clear hS; intro a_83 cap_84 w l_85 o_86 hS
         have ln_87 : ((Lo ++ [(⟨q2, c2, o⟩ : InE)])).length = Lo.length + 1 := by rw [List.length_append]; rfl
         have o_86c := K.OwnG.cast (xs' := ((Lo ++ [(⟨q2, c2, o⟩ : InE)])).flatMap cInE) o_86 rfl (K.fl_snoc cInE Lo (⟨q2, c2, o⟩ : InE) rfl)
         replace hS : K.Sat w0 [g_81, g_53, oo1, l_85, og, go_2, fr] w := hS
         refine K.q [.slice a_83 (Lo.length + 1) cap_84] (K.z ?_)
         refine K.blk_normal ?_
         refine K.t (K.g (K.q [K.iv ((k9 : Nat) : Int)] ?_))
         refine K.a (K.QR.n64 ((((k9 : Nat) : Int) : Int) + (1 : Int)) ((k9 + 1 : Nat) : Int) (by kernel_rfl) (by omega)) ?_
         refine K.q [K.iv ((k9 + 1 : Nat) : Int)] (K.z (K.t ?_))
         replace hS : K.Sat w0 [[og, oo1].flatten, g_81, g_53, l_85, go_2, fr] w := (hS.pick [4, 2, 0, 1, 3, 5, 6]).of
         have hal_89 := AllRi.snoc (e := ⟨q2, c2, o⟩) (hao.mono (Grow.add w0 og oo1)) ((rdI_own x_64 rfl).mono (Grow.add2 w0 og oo1)) x_64.le.1
         refine ⟨_, ?_, k9 + 1, (Lo ++ [(⟨q2, c2, o⟩ : InE)]), a_83, cap_84, l_85, [og, oo1].flatten, rfl, ⟨by rfl, by rfl, by rfl, congrArg (fun m_ => Value.slice a_83 m_ cap_84) (by first | rfl | (rw [List.length_append]; rfl) : Lo.length + 1 = ((Lo ++ [(⟨q2, c2, o⟩ : InE)])).length), by rfl, by rfl, by rfl, trivial⟩, (by omega), (by rw [lsI_snoc, hlo, insAll_snoc, ← List.append_assoc, hoe, ins_end (by omega) (by omega)]), (hal_89), ((hlm.mono (Grow.add w0 og oo1))), (by rw [List.length_append, List.length_singleton]; omega), (K.OwnG.cast o_86c (by first | rfl | (rw [List.length_append]; rfl)) rfl), trivial, hS.pick [3, 0, 4, 5]⟩
         omega
    ·
     refine K.x ((((k9 : Nat) : Int) : Int) ≤ (((p9.length : Nat) : Int) : Int)) h_30 ?_
     refine K.z (K.t (K.f ?_))
     refine K.KW.exit ?_
     refine K.thn_exit ?_
     refine K.thn_exit ?_
     refine K.blk_hit ?_
     refine K.blk_normal ?_
     refine K.t (K.g (K.q [K.iv ((i : Nat) : Int)] ?_))
     refine K.a (K.QR.n64 ((((i : Nat) : Int) : Int) + (1 : Int)) ((i + 1 : Nat) : Int) (by kernel_rfl) (by omega)) ?_
     refine K.q [K.iv ((i + 1 : Nat) : Int)] (K.z (K.t ?_))
     refine ⟨_, ?_, i + 1, Lo, q1, c1, go1, og, rfl, ⟨by rfl, by rfl, by rfl, by rfl, by rfl, by rfl, trivial⟩, (by omega), (by rw [hlo, take_fm (d := []) (by rw [lsI_len]; omega), lsI_get hi9, ← hpe, show k9 = p9.length + 1 by omega]; rfl), (hao), (hlm), (by omega), (K.OwnG.cast x_24 (by first | rfl | (rw [List.length_append]; rfl)) rfl), trivial, hS.pick [0, 1, 2, 3]⟩
     omega
  ·
   refine K.x ((((i : Nat) : Int) : Int) < (((Lo_5.length : Nat) : Int) : Int)) h_19 ?_
   refine K.z (K.t (K.f ?_))
   refine K.KW.exit ?_
   refine K.thn_exit ?_
   refine K.thn_exit ?_
   refine K.blk_hit ?_
   refine K.t (K.s (K.g (K.q [.slice q1 Lo.length c1, .slice q1 Lo.length c1] (K.z (K.t (K.r ?_))))))
   refine ⟨.inr rfl, rfl, (.slice q1 Lo.length c1), K.res1 rfl rfl, [og, go1], ?_, hS.pick [1, 0, 3]⟩
   exact ⟨_, _, _, _, Lo, rfl, rfl, x_17, hao, by rw [hlo, List.take_of_length_le (by rw [lsI_len]; omega), hls_8]; rfl⟩
set_option maxHeartbeats 1000000 in
set_option maxRecDepth 100000 in
theorem ords_zero (w0 : World)  :
  K.GC Try.prog w0 37 #[K.iv ((0 : Nat) : Int)] [] (fun v post => ∃ g go ra c Lo, post = [g, go] ∧ v = .slice ra Lo.length c ∧ K.OwnG go 23 1 ra Lo.length c (Lo.flatMap cInE) ∧ AllRi w0 g Lo ∧ lsI Lo = ordN 0) := by
 refine K.GC.mk (n := 76) Try.func37 rfl rfl [K.iv ((0 : Nat) : Int)] rfl rfl ?_
 intro fr w hS
 replace hS : K.Sat w0 [fr] w := hS
 refine K.s (K.g (K.q [.slice none 0 0] (K.z (K.t (K.s (K.s (K.g (K.q [K.iv ((0 : Nat) : Int)] ?_))))))))
 refine K.y ((((0 : Nat) : Int) : Int) ≤ (0 : Int)) ((by omega)) ?_
 refine K.z (K.t (K.h (K.s (K.g ?_))))
 refine K.l (K.OW.gbs [(0, .slice none 0 0)] [.slice none 0 0] hS (fun w => K.bs_run (P := Try.prog) w 70 23 1 _ _ Try.underlying70 (by kernel_rfl)) ?_)
 clear hS; intro w r_1 g_2 hg_3 hS
 refine K.q [.slice (some ⟨r_1, 0, none⟩) 1 1] (K.z (K.t (K.r (K.u ?_))))
 obtain ⟨g_4, hg_5⟩ : ∃ g : K.Cs, g = [] := ⟨_, rfl⟩
 replace hS : K.Sat w0 [g_4, g_2, fr] w := hS.of (by simp [hg_5])
 refine ⟨.inr rfl, rfl, (.slice (some ⟨r_1, 0, none⟩) 1 1), K.res1 rfl rfl, [g_4, g_2], ?_, hS.pick [0, 1, 2]⟩
 exact ⟨_, _, _, _, [⟨none, 0, []⟩], rfl, rfl, K.OwnG.ofPt hg_3 1 (by unfold maxLen; omega) rfl, AllRi.snoc AllRi.nil (fun _ _ => K.RowE.zero _ _ _ _) (Nat.le_refl _), rfl⟩
theorem ords_ok (w0 : World) : ∀ n : Nat, n ≤ 5 → K.GC Try.prog w0 37 #[K.iv ((n : Nat) : Int)] [] (fun v post => ∃ g go ra c Lo, post = [g, go] ∧ v = .slice ra Lo.length c ∧ K.OwnG go 23 1 ra Lo.length c (Lo.flatMap cInE) ∧ AllRi w0 g Lo ∧ lsI Lo = ordN n)
 | 0, _ => ords_zero w0
 | m + 1, h => ords_step w0 m (by omega) (ords_ok w0 m (by omega))
end Go.Proofs.Ytnehocjmgnhhhaa
