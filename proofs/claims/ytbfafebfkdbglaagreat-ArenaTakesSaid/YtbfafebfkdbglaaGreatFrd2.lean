import Derived.Test.YtbfafebfkdbglaaGreatFrd
import Derived.Test.YtbfafebfkdbglaaGreatFlist
/- The document's device: one that is made. -/
namespace Go.Proofs.YtbfafebfkdbglaaGreat
open Go.RowKit
set_option linter.unusedVariables false
attribute [local irreducible] K.KW K.RW K.DW K.OW K.QR K.KC
theorem take_len {α : Type} {xs : List α} {j : Nat} (h : j ≤ xs.length) : (xs.take j).length = j := by rw [List.length_take]; omega
theorem take_snocI {xs : List Int} {j : Nat} (h : j < xs.length) : xs.take (j + 1) = xs.take j ++ [xs.getD j 0] := by
 rw [List.take_succ_eq_append_getElem h]; simp [h]
theorem boolNew {g : K.Cs} {r n : Nat} (h : K.OwnG g 4 1 (some ⟨r, 0, none⟩) n n ((List.replicate n false).flatMap cBool)) : BoolG g (.slice (some ⟨r, 0, none⟩) n n) (List.replicate n false) :=
 ⟨_, _, by rw [List.length_replicate], by rw [List.length_replicate]; exact h⟩
set_option maxHeartbeats 1000000 in
set_option maxRecDepth 100000 in
theorem rdOpen_ok (w0 : World) (a : Option Addr) (cap n : Nat) (xs : List Int) (t : Int) (ht : 1 ≤ t ∧ t ≤ 64) (hn : 1 ≤ n ∧ n ≤ 262144) (lx : xs.length = n * 8) (gx : K.Cs) (hx : ∀ w, K.Sat w0 [gx] w → K.RowE w a xs.length 1 (fun i => cU64 (xs.getD i 0))) :
  K.GC Tryz.prog w0 116 #[.slice a (n * 8) cap, K.iv t] [gx] (fun v post => ∃ p l', v = K.pa p ∧ post = [gx, l'] ∧ RDevAt l' p n t.toNat (DevM.fresh xs n t.toNat)) := by
 refine K.GC.mk (n := 68) Tryz.func116 rfl rfl [.slice a (n * 8) cap, K.iv t] rfl rfl ?_
 intro fr w hS
 replace hS : K.Sat w0 [gx, fr] w := hS
 refine K.s (K.g (K.q [.pointer none] (K.z (K.t (K.s (K.g ?_))))))
 refine K.a (K.QR.bd [] [.slice none 0 0, .slice none 0 0, .slice none 0 0, .slice none 0 0] rfl rfl (by kernel_rfl)) ?_
 refine K.l (K.OW.gnew 160 [.slice none 0 0, .slice none 0 0, .slice none 0 0, .slice none 0 0] hS ?_)
 clear hS; intro w r_1 g_2 hg_3 hS
 refine K.q [K.pa r_1] (K.z (K.t (K.s (K.s (K.g (K.q [K.iv 0] (K.z (K.t ?_))))))))
 refine K.KW.block ?_
 obtain ⟨z_4, hz_5⟩ : ∃ z : K.Cs, z = [] := ⟨_, rfl⟩
 replace hS : K.Sat w0 [z_4, g_2, gx, fr] w := hS.of (by simp [hz_5])
 have o_6 : K.OwnG z_4 57 1 none 0 0 [] := by rw [hz_5]; exact K.OwnG.nil _ _
 obtain ⟨z_7, hz_8⟩ : ∃ z : K.Cs, z = [] := ⟨_, rfl⟩
 replace hS : K.Sat w0 [z_7, z_4, g_2, gx, fr] w := hS.of (by simp [hz_8])
 have o_9 : K.OwnG z_7 57 1 none 0 0 [] := by rw [hz_8]; exact K.OwnG.nil _ _
 refine K.KW.loop (fun m_ F_ w_ => ∃ (j : Nat) (q1 : Option Addr) (c1 : Nat) (q2 : Option Addr) (c2 : Nat) (g1 : K.Cs) (k1 : K.Cs) (k2 : K.Cs), m_ = n * 8 - j ∧ K.Sl F_ [(0, .slice a (n * 8) cap), (1, K.iv t), (4, .pointer none), (5, K.pa r_1), (6, K.iv ((j : Nat) : Int)), (68, undef)] ∧ j ≤ n * 8 ∧ g1 = [K.pt r_1 160 [.slice q1 j c1, .slice q2 j c2, .slice none 0 0, .slice none 0 0]] ∧ K.OwnG k1 57 1 q1 j c1 (((xs.take j)).flatMap cU64) ∧ K.OwnG k2 57 1 q2 j c2 (((xs.take j)).flatMap cU64) ∧ K.Sat w0 [k2, k1, g1, gx, fr] w_) ((fun (j : Nat) (q1 : Option Addr) (c1 : Nat) (q2 : Option Addr) (c2 : Nat) => n * 8 - j) 0 none 0 none 0) ?_ ?_
 ·
  exact ⟨0, none, 0, none, 0, g_2, z_4, z_7, rfl, ⟨by rfl, by rfl, by rfl, by rfl, by rfl, by rfl, trivial⟩, (by omega), hg_3, o_6, o_9, hS.pick [0, 1, 2, 3, 4]⟩
 ·
  clear hS
  intro m_10 F_11 w hI
  obtain ⟨j, q1, c1, q2, c2, g1, k1, k2, rfl, sl_12, p_13, x_14, x_15, x_16, hS⟩ := hI
  rw [← K.Sl.puts sl_12]; clear sl_12
  refine K.s (K.s (K.g (K.q [K.iv ((j : Nat) : Int), .slice a (n * 8) cap] ?_)))
  refine K.a (K.QR.len (P := Tryz.prog) rfl rfl Tryz.underlying78) ?_
  by_cases h_17 : (((j : Nat) : Int) : Int) < (((n * 8 : Nat) : Int) : Int)
  ·
   refine K.y ((((j : Nat) : Int) : Int) < (((n * 8 : Nat) : Int) : Int)) h_17 ?_
   refine K.z (K.t (K.h (K.k (K.t (K.s ?_)))))
   refine K.KW.block ?_
   refine K.s ?_
   obtain ⟨b_18, of_19, rfl, _⟩ := (hx _ (hS.pick [3])).at_ (by omega)
   refine K.KW.gdrawn [2] hS (by kernel_rfl) ?_
   clear hS; intro w hS
   refine K.p 0 rfl (K.pa r_1) (hS.pick [2]) ?_
   refine K.p 1 rfl (K.pa r_1) (hS.pick [2]) ?_
   refine K.p 2 rfl (K.pa r_1) (hS.pick [2]) ?_
   refine K.p 3 rfl (K.pa r_1) (hS.pick [2]) ?_
   refine K.o_ 4 rfl (.slice q1 j c1) (fun w hS => ((hS.blk 0 rfl x_14).cell rfl)) (hS.pick [2]) ?_
   refine K.p 5 rfl (.slice (some ⟨b_18, of_19, none⟩) (n * 8) cap) (hS.pick [2]) ?_
   refine K.b 6 rfl (K.iv ((j : Nat) : Int)) (hS.pick [2]) ?_
   refine K.c 7 rfl (K.QR.ix (of_19 + j * 1) 1 rfl rfl rfl Tryz.underlying78 (by kernel_rfl) (by omega) (by first | (simp; done) | omega | (simp; omega))) (hS.pick [2]) ?_
   refine K.c 8 rfl (K.QR.ld1 (v := .int .u64 (xs.getD j 0)) rfl rfl (by kernel_rfl) ((hx _ (hS.pick [3])).ld j (by omega) 0 _ rfl)) (hS.pick [2]) ?_
   refine K.DW.l 9 rfl (by kernel_rfl) rfl (K.OW.gbs [(0, .int .u64 (xs.getD j 0))] [.int .u64 (xs.getD j 0)] hS (fun w => K.bs_run (P := Tryz.prog) w 78 57 1 _ _ Tryz.underlying78 (by kernel_rfl)) ?_)
   clear hS; intro w r_20 g_21 hg_22 hS
   refine ⟨.inl (hS.pick [3]), ?_⟩
   refine K.DW.l 10 rfl (by kernel_rfl) rfl (K.OW.gapp (P := Tryz.prog) (xs := ((xs.take j)).flatMap cU64) (z := .int .u64 0) (size := 1) (bytes := 8) 2 [.int .u64 (xs.getD j 0)] hS x_15 ?_ (fun j u hj => (by rw [Nat.zero_add]; exact (hS.blk 0 rfl hg_22).cell hj)) (K.one_cells (by rfl)) (by rfl) Tryz.underlying78 (by kernel_rfl) rfl (by decide) (by unfold maxLen; omega) (by omega))
   clear hS; intro a_23 cap_24 w l_25 o_26 hS
   have ln_27 : (((xs.take j) ++ [(xs.getD j 0 : Int)])).length = j + 1 := by rw [List.length_append, (take_len (by omega))]; rfl
   have o_26c := K.OwnG.cast (xs' := (((xs.take j) ++ [(xs.getD j 0 : Int)])).flatMap cU64) o_26 rfl (K.fl_snoc cU64 (xs.take j) _ rfl)
   replace hS : K.Sat w0 [g_21, k2, l_25, g1, gx, fr] w := hS
   refine ⟨.inl (hS.pick [3]), ?_⟩
   refine K.b 11 rfl (K.pa r_1) (hS.pick [3]) ?_
   refine K.b 12 rfl (K.pa r_1) (hS.pick [3]) ?_
   refine K.DW.l 13 rfl (by kernel_rfl) rfl (K.OW.gst 3 [.slice a_23 (j + 1) cap_24] _ hS x_14 ?_)
   clear hS; intro w g_28 hg_29 hS
   replace hS : K.Sat w0 [g_21, k2, l_25, g_28, gx, fr] w := hS
   refine ⟨.inr (by kernel_rfl), ?_⟩
   refine K.DW.done (by kernel_rfl) ?_
   refine K.t ?_
   refine K.KW.gdrawn [3] hS (by kernel_rfl) ?_
   clear hS; intro w hS
   refine K.p 0 rfl (K.pa r_1) (hS.pick [3]) ?_
   refine K.p 1 rfl (K.pa r_1) (hS.pick [3]) ?_
   refine K.p 2 rfl (K.pa r_1) (hS.pick [3]) ?_
   refine K.p 3 rfl (.pointer (some ⟨r_1, 1, none⟩)) (hS.pick [3]) ?_
   refine K.o_ 4 rfl (.slice q2 j c2) (fun w hS => ((hS.blk 0 rfl hg_29).cell rfl)) (hS.pick [3]) ?_
   refine K.p 5 rfl (.slice (some ⟨b_18, of_19, none⟩) (n * 8) cap) (hS.pick [3]) ?_
   refine K.b 6 rfl (K.iv ((j : Nat) : Int)) (hS.pick [3]) ?_
   refine K.c 7 rfl (K.QR.ix (of_19 + j * 1) 1 rfl rfl rfl Tryz.underlying78 (by kernel_rfl) (by omega) (by first | (simp; done) | omega | (simp; omega))) (hS.pick [3]) ?_
   refine K.c 8 rfl (K.QR.ld1 (v := .int .u64 (xs.getD j 0)) rfl rfl (by kernel_rfl) ((hx _ (hS.pick [4])).ld j (by omega) 0 _ rfl)) (hS.pick [3]) ?_
   refine K.DW.l 9 rfl (by kernel_rfl) rfl (K.OW.gbs [(0, .int .u64 (xs.getD j 0))] [.int .u64 (xs.getD j 0)] hS (fun w => K.bs_run (P := Tryz.prog) w 78 57 1 _ _ Tryz.underlying78 (by kernel_rfl)) ?_)
   clear hS; intro w r_30 g_31 hg_32 hS
   refine ⟨.inl (hS.pick [4]), ?_⟩
   refine K.DW.l 10 rfl (by kernel_rfl) rfl (K.OW.gapp (P := Tryz.prog) (xs := ((xs.take j)).flatMap cU64) (z := .int .u64 0) (size := 1) (bytes := 8) 2 [.int .u64 (xs.getD j 0)] hS x_16 ?_ (fun j u hj => (by rw [Nat.zero_add]; exact (hS.blk 0 rfl hg_32).cell hj)) (K.one_cells (by rfl)) (by rfl) Tryz.underlying78 (by kernel_rfl) rfl (by decide) (by unfold maxLen; omega) (by omega))
   clear hS; intro a_33 cap_34 w l_35 o_36 hS
   have ln_37 : (((xs.take j) ++ [(xs.getD j 0 : Int)])).length = j + 1 := by rw [List.length_append, (take_len (by omega))]; rfl
   have o_36c := K.OwnG.cast (xs' := (((xs.take j) ++ [(xs.getD j 0 : Int)])).flatMap cU64) o_36 rfl (K.fl_snoc cU64 (xs.take j) _ rfl)
   replace hS : K.Sat w0 [g_31, g_21, l_35, l_25, g_28, gx, fr] w := hS
   refine ⟨.inl (hS.pick [4]), ?_⟩
   refine K.b 11 rfl (K.pa r_1) (hS.pick [4]) ?_
   refine K.b 12 rfl (.pointer (some ⟨r_1, 1, none⟩)) (hS.pick [4]) ?_
   refine K.DW.l 13 rfl (by kernel_rfl) rfl (K.OW.gst 4 [.slice a_33 (j + 1) cap_34] _ hS hg_29 ?_)
   clear hS; intro w g_38 hg_39 hS
   replace hS : K.Sat w0 [g_31, g_21, l_35, l_25, g_38, gx, fr] w := hS
   refine ⟨.inr (by kernel_rfl), ?_⟩
   refine K.DW.done (by kernel_rfl) ?_
   refine K.blk_normal ?_
   refine K.t (K.g (K.q [K.iv ((j : Nat) : Int)] ?_))
   refine K.a (K.QR.n64 ((((j : Nat) : Int) : Int) + (1 : Int)) ((j + 1 : Nat) : Int) (by kernel_rfl) (by omega)) ?_
   refine K.q [K.iv ((j + 1 : Nat) : Int)] (K.z (K.t ?_))
   refine ⟨_, ?_, j + 1, a_23, cap_24, a_33, cap_34, g_38, l_25, l_35, rfl, ⟨by rfl, by rfl, by rfl, by rfl, by rfl, by rfl, trivial⟩, (by omega), hg_39, (by rw [take_snocI (by omega)]; exact o_26c), (by rw [take_snocI (by omega)]; exact o_36c), hS.pick [2, 3, 4, 5, 6]⟩
   omega
  ·
   refine K.x ((((j : Nat) : Int) : Int) < (((n * 8 : Nat) : Int) : Int)) h_17 ?_
   refine K.z (K.t (K.f ?_))
   refine K.KW.exit ?_
   refine K.thn_exit ?_
   refine K.thn_exit ?_
   refine K.blk_hit ?_
   refine K.t (K.s (K.g (K.q [K.pa r_1, .slice a (n * 8) cap] ?_)))
   refine K.a (K.QR.len (P := Tryz.prog) rfl rfl Tryz.underlying78) ?_
   refine K.a (K.QR.turn (v := K.iv (((n * 8) / 8 : Nat) : Int)) (K.QR.quoi64 (((n * 8 : Nat) : Int) : Int) 8 (((n * 8) / 8 : Nat) : Int) (by kernel_rfl) (by omega) (by omega)) (congrArg (Value.int .i64) (show ((((n * 8) / 8 : Nat) : Int) : Int) = (((n : Nat) : Int) : Int) from by omega))) ?_
   refine K.l (K.OW.gmk (P := Tryz.prog) (m := n) (cc := cI64) (z := K.iv 0) (size := 1) (bytes := 8) (0 : Int) hS ?_ Tryz.underlying44 (by kernel_rfl) rfl rfl (by unfold maxLen; omega) (by omega))
   clear hS; intro w r_40 l_41 o_42 hS
   refine K.q [K.pa r_1, .pointer (some ⟨r_1, 2, none⟩)] ?_
   refine K.l (K.OW.gst 3 [.slice (some ⟨r_40, 0, none⟩) n n] _ hS x_14 ?_)
   clear hS; intro w g_43 hg_44 hS
   replace hS : K.Sat w0 [l_41, k2, k1, g_43, gx, fr] w := hS
   refine K.z (K.t (K.s (K.s (K.g (K.q [K.iv 0] (K.z (K.t ?_)))))))
   refine K.KW.block ?_
   obtain ⟨z_45, hz_46⟩ : ∃ z : K.Cs, z = [] := ⟨_, rfl⟩
   replace hS : K.Sat w0 [z_45, l_41, k2, k1, g_43, gx, fr] w := hS.of (by simp [hz_46])
   have o_47 : K.OwnG z_45 26 1 none 0 0 [] := by rw [hz_46]; exact K.OwnG.nil _ _
   obtain ⟨z_48, hz_49⟩ : ∃ z : K.Cs, z = [] := ⟨_, rfl⟩
   replace hS : K.Sat w0 [z_48, z_45, l_41, k2, k1, g_43, gx, fr] w := hS.of (by simp [hz_49])
   have o_50 : K.OwnG z_48 26 1 none 0 0 [] := by rw [hz_49]; exact K.OwnG.nil _ _
   refine K.KW.loop (fun m_ F_ w_ => ∃ (j_1 : Nat) (q3 : Option Addr) (c3 : Nat) (vs : List Value) (g3 : K.Cs) (f1 : K.Cs) (z1 : K.Cs), m_ = t.toNat - j_1 ∧ K.Sl F_ [(0, .slice a (n * 8) cap), (1, K.iv t), (4, .pointer none), (5, K.pa r_1), (7, K.iv ((j_1 : Nat) : Int)), (68, undef)] ∧ j_1 ≤ t.toNat ∧ vs.length = j_1 ∧ g3 = [K.pt r_1 160 [.slice q1 j c1, .slice q2 j c2, .slice (some ⟨r_40, 0, none⟩) n n, .slice q3 j_1 c3]] ∧ K.OwnG f1 26 1 q3 j_1 c3 ((vs).flatMap cV) ∧ RowsG BoolG z1 vs (List.replicate j_1 (List.replicate n false)) ∧ K.Sat w0 [z1, f1, l_41, k2, k1, g3, gx, fr] w_) ((fun (j_1 : Nat) (q3 : Option Addr) (c3 : Nat) (vs : List Value) => t.toNat - j_1) 0 none 0 []) ?_ ?_
   ·
    exact ⟨0, none, 0, [], g_43, z_45, z_48, rfl, ⟨by rfl, by rfl, by rfl, by rfl, by rfl, by rfl, trivial⟩, (by omega), (rfl), hg_44, o_47, (by rw [hz_49]; exact RowsG.nil), hS.pick [0, 1, 2, 3, 4, 5, 6, 7]⟩
   ·
    clear hS
    intro m_51 F_52 w hI
    obtain ⟨j_1, q3, c3, vs, g3, f1, z1, rfl, sl_53, p_54, p_55, x_56, x_57, x_58, hS⟩ := hI
    rw [← K.Sl.puts sl_53]; clear sl_53
    refine K.s (K.s (K.g (K.q [K.iv ((j_1 : Nat) : Int), K.iv t] ?_)))
    by_cases h_59 : (((j_1 : Nat) : Int) : Int) < (t : Int)
    ·
     refine K.y ((((j_1 : Nat) : Int) : Int) < (t : Int)) h_59 ?_
     refine K.z (K.t (K.h (K.k (K.t (K.s ?_)))))
     refine K.KW.block ?_
     refine K.KW.gdrawn [5] hS (by kernel_rfl) ?_
     clear hS; intro w hS
     refine K.p 0 rfl (K.pa r_1) (hS.pick [5]) ?_
     refine K.p 1 rfl (K.pa r_1) (hS.pick [5]) ?_
     refine K.p 2 rfl (K.pa r_1) (hS.pick [5]) ?_
     refine K.p 3 rfl (.pointer (some ⟨r_1, 3, none⟩)) (hS.pick [5]) ?_
     refine K.o_ 4 rfl (.slice q3 j_1 c3) (fun w hS => ((hS.blk 0 rfl x_56).cell rfl)) (hS.pick [5]) ?_
     refine K.b 5 rfl (.slice a (n * 8) cap) (hS.pick [5]) ?_
     refine K.c 6 rfl (K.QR.len (P := Tryz.prog) rfl rfl Tryz.underlying78) (hS.pick [5]) ?_
     refine K.c 7 rfl (K.QR.turn (v := K.iv (((n * 8) / 8 : Nat) : Int)) (K.QR.quoi64 (((n * 8 : Nat) : Int) : Int) 8 (((n * 8) / 8 : Nat) : Int) (by kernel_rfl) (by omega) (by omega)) (congrArg (Value.int .i64) (show ((((n * 8) / 8 : Nat) : Int) : Int) = (((n : Nat) : Int) : Int) from by omega))) (hS.pick [5]) ?_
     refine K.DW.l 8 rfl (by kernel_rfl) rfl (K.OW.gmk (P := Tryz.prog) (m := n) (cc := cBool) (z := .bool false) (size := 1) (bytes := 1) (false : Bool) hS ?_ Tryz.underlying26 (by kernel_rfl) rfl rfl (by unfold maxLen; omega) (by omega))
     clear hS; intro w r_60 l_61 o_62 hS
     refine ⟨.inl (hS.pick [6]), ?_⟩
     refine K.DW.l 9 rfl (by kernel_rfl) rfl (K.OW.gbs [(0, .slice (some ⟨r_60, 0, none⟩) n n)] [.slice (some ⟨r_60, 0, none⟩) n n] hS (fun w => K.bs_run (P := Tryz.prog) w 158 26 1 _ _ Tryz.underlying158 (by kernel_rfl)) ?_)
     clear hS; intro w r_63 g_64 hg_65 hS
     refine ⟨.inl (hS.pick [7]), ?_⟩
     refine K.DW.l 10 rfl (by kernel_rfl) rfl (K.OW.gapp (P := Tryz.prog) (xs := (vs).flatMap cV) (z := .slice none 0 0) (size := 1) (bytes := 24) 3 [.slice (some ⟨r_60, 0, none⟩) n n] hS x_57 ?_ (fun j u hj => (by rw [Nat.zero_add]; exact (hS.blk 0 rfl hg_65).cell hj)) (K.one_cells (by rfl)) (by rfl) Tryz.underlying158 (by kernel_rfl) rfl (by decide) (by unfold maxLen; omega) (by omega))
     clear hS; intro a_66 cap_67 w l_68 o_69 hS
     have ln_70 : ((vs ++ [(.slice (some ⟨r_60, 0, none⟩) n n : Value)])).length = j_1 + 1 := by rw [List.length_append, p_55]; rfl
     have o_69c := K.OwnG.cast (xs' := ((vs ++ [(.slice (some ⟨r_60, 0, none⟩) n n : Value)])).flatMap cV) o_69 rfl (K.fl_snoc cV vs _ rfl)
     replace hS : K.Sat w0 [g_64, l_61, z1, l_68, l_41, k2, k1, g3, gx, fr] w := hS
     refine ⟨.inl (hS.pick [7]), ?_⟩
     refine K.b 11 rfl (K.pa r_1) (hS.pick [7]) ?_
     refine K.b 12 rfl (.pointer (some ⟨r_1, 3, none⟩)) (hS.pick [7]) ?_
     refine K.DW.l 13 rfl (by kernel_rfl) rfl (K.OW.gst 7 [.slice a_66 (j_1 + 1) cap_67] _ hS x_56 ?_)
     clear hS; intro w g_71 hg_72 hS
     replace hS : K.Sat w0 [g_64, l_61, z1, l_68, l_41, k2, k1, g_71, gx, fr] w := hS
     refine ⟨.inr (by kernel_rfl), ?_⟩
     refine K.DW.done (by kernel_rfl) ?_
     refine K.blk_normal ?_
     refine K.t (K.g (K.q [K.iv ((j_1 : Nat) : Int)] ?_))
     refine K.a (K.QR.n64 ((((j_1 : Nat) : Int) : Int) + (1 : Int)) ((j_1 + 1 : Nat) : Int) (by kernel_rfl) (by omega)) ?_
     refine K.q [K.iv ((j_1 + 1 : Nat) : Int)] (K.z (K.t ?_))
     replace hS : K.Sat w0 [[z1, l_61].flatten, g_64, l_68, l_41, k2, k1, g_71, gx, fr] w := (hS.pick [2, 1, 0, 3, 4, 5, 6, 7, 8, 9]).of
     refine ⟨_, ?_, j_1 + 1, a_66, cap_67, (vs ++ [(.slice (some ⟨r_60, 0, none⟩) n n : Value)]), g_71, l_68, [z1, l_61].flatten, rfl, ⟨by rfl, by rfl, by rfl, by rfl, by rfl, by rfl, trivial⟩, (by omega), (ln_70), hg_72, o_69c, (by rw [List.replicate_succ']; exact (RowsG.snoc x_58 (boolNew o_62))), hS.pick [0, 2, 3, 4, 5, 6, 7, 8]⟩
     omega
    ·
     refine K.x ((((j_1 : Nat) : Int) : Int) < (t : Int)) h_59 ?_
     refine K.z (K.t (K.f ?_))
     refine K.KW.exit ?_
     refine K.thn_exit ?_
     refine K.thn_exit ?_
     refine K.blk_hit ?_
     refine K.t (K.s (K.g (K.q [K.pa r_1, K.pa r_1] (K.z (K.t (K.r ?_))))))
     replace hS : K.Sat w0 [[g3, k1, k2, l_41, f1, z1].flatten, gx, fr] w := (hS.pick [5, 4, 3, 2, 1, 0, 6, 7]).of
     obtain rfl : j = n * 8 := by omega
     have e8 : xs.take (n * 8) = xs := List.take_of_length_le (by omega)
     obtain rfl : j_1 = t.toNat := by omega
     refine ⟨.inr rfl, rfl, (K.pa r_1), K.res1 rfl rfl, [gx, [g3, k1, k2, l_41, f1, z1].flatten], ?_, hS.pick [1, 0, 2]⟩
     exact ⟨_, _, rfl, rfl, _, _, _, _, _, _, _, _, _, _, _, _, _, _, _, rfl, x_56, (by have h := x_15; rw [e8] at h; exact h), (by have h := x_16; rw [e8] at h; exact h), o_42, x_57, by assumption, x_58, DevM.ok.fresh (by omega) (by omega) (by omega) (by omega) (by omega)⟩
theorem rdOpen_okm (w0 : World) (a : Option Addr) (m cap n : Nat) (xs : List Int) (t : Int) (ht : 1 ≤ t ∧ t ≤ 64) (hn : 1 ≤ n ∧ n ≤ 262144) (lx : xs.length = m) (hm : m = n * 8) (gx : K.Cs) (hx : ∀ w, K.Sat w0 [gx] w → K.RowE w a xs.length 1 (fun i => cU64 (xs.getD i 0))) :
  K.GC Tryz.prog w0 116 #[.slice a m cap, K.iv t] [gx] (fun v post => ∃ p l', v = K.pa p ∧ post = [gx, l'] ∧ RDevAt l' p n t.toNat (DevM.fresh xs n t.toNat)) := by
 subst hm
 exact rdOpen_ok w0 a cap n xs t ht hn lx gx hx
end Go.Proofs.YtbfafebfkdbglaaGreat
