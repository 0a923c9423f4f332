import Derived.Test.YtbfafebfkdbglaaGreatFdv4
import Derived.Test.YtbfafebfkdbglaaGreatFlist
/- The device: devices that are made. -/
namespace Go.Proofs.YtbfafebfkdbglaaGreat
open Go.RowKit
set_option linter.unusedVariables false
attribute [local irreducible] K.KW K.RW K.DW K.OW K.QR K.KC
set_option maxHeartbeats 1000000 in
set_option maxRecDepth 100000 in
theorem dvMade_ok (w0 : World) (n t c : Nat) (a : Option Addr) (W : List Int) (gl : K.Cs) (lw0 : W.length = n * 8) (hn : 1 ≤ n ∧ n ≤ 262144) (ht : 1 ≤ t ∧ t ≤ 64) (ol : K.OwnG gl 206 8 a n c (W.flatMap cU64)) :
  K.GC Tryz.prog w0 115 #[.slice a n c, K.iv ((t : Nat) : Int)] [gl] (fun v post => ∃ p l', v = K.pa p ∧ post = [l'] ∧ DevAt l' p n t (DevM.fresh W n t)) := by
 refine K.GC.mk (n := 15) Tryz.func115 rfl rfl [.slice a n c, K.iv ((t : Nat) : Int)] rfl rfl ?_
 intro fr w hS
 replace hS : K.Sat w0 [gl, fr] w := hS
 refine K.s (K.g (K.q [.pointer none] (K.z (K.t (K.s ?_)))))
 refine K.KW.gdrawn [] hS (by kernel_rfl) ?_
 clear hS; intro w hS
 refine K.p 0 rfl (.slice a n c) (hS.pick []) ?_
 refine K.p 1 rfl (.slice a n c) (hS.pick []) ?_
 refine K.p 3 rfl (.slice a n c) (hS.pick []) ?_
 refine K.m 4 rfl (fun w hS => K.QR.len (P := Tryz.prog) rfl rfl Tryz.underlying177) (hS.pick []) ?_
 refine K.p 6 rfl (K.iv ((t : Nat) : Int)) (hS.pick []) ?_
 refine K.DW.l3 2 5 7 rfl rfl rfl (by kernel_rfl) rfl rfl rfl ?_ ?_ ?_
 ·
  refine (K.OW.kcall hS [.slice a n c] (cloneW_ok _ _ _ _ W _ (by omega) lw0 (hS.ownr 0 rfl ol)) ?_)
  rintro _ w ⟨r_1, cc_2, rfl, c_3, o_4⟩
  obtain ⟨l_5, o_6, hS⟩ := hS.rnew c_3 o_4 (by omega)
  refine ⟨.inl (hS.pick []), ?_⟩
  refine K.DW.l2 5 7 rfl rfl (by kernel_rfl) rfl rfl ?_ ?_
  ·
   refine (K.OW.gmk (P := Tryz.prog) (m := n) (cc := cI64) (z := K.iv 0) (size := 1) (bytes := 8) (0 : Int) hS ?_ Tryz.underlying44 (by kernel_rfl) rfl rfl (by unfold maxLen; omega) (by omega))
   clear hS; intro w r_7 l_8 o_9 hS
   refine ⟨.inl (hS.pick []), ?_⟩
   refine K.DW.l 7 rfl (by kernel_rfl) rfl (K.OW.gmk (P := Tryz.prog) (m := t) (cc := cV) (z := .agg #[.slice none 0 0]) (size := 1) (bytes := 24) ((.slice none 0 0) : Value) hS ?_ Tryz.underlying178 (by kernel_rfl) rfl rfl (by unfold maxLen; omega) (by omega))
   clear hS; intro w r_10 l_11 o_12 hS
   refine ⟨.inl (hS.pick []), ?_⟩
   refine K.c 8 rfl (K.QR.bd [(0, .slice a n c), (1, .slice r_1 n cc_2), (2, .slice (some ⟨r_7, 0, none⟩) n n), (3, .slice (some ⟨r_10, 0, none⟩) t t)] [.slice a n c, .slice r_1 n cc_2, .slice (some ⟨r_7, 0, none⟩) n n, .slice (some ⟨r_10, 0, none⟩) t t] rfl rfl (by kernel_rfl)) (hS.pick []) ?_
   refine K.DW.l 9 rfl (by kernel_rfl) rfl (K.OW.gnew 180 [.slice a n c, .slice r_1 n cc_2, .slice (some ⟨r_7, 0, none⟩) n n, .slice (some ⟨r_10, 0, none⟩) t t] hS ?_)
   clear hS; intro w r_13 g_14 hg_15 hS
   refine ⟨.inl (hS.pick []), ?_⟩
   refine K.b 10 rfl (K.pa r_13) (hS.pick []) ?_
   refine K.DW.done (by kernel_rfl) ?_
   refine K.t (K.r ?_)
   replace hS : K.Sat w0 [[g_14, gl, l_5, l_8, l_11, []].flatten, fr] w := (hS.pick [0, 4, 3, 2, 1, 5]).of
   refine ⟨.inr rfl, rfl, (K.pa r_13), K.res1 rfl rfl, [[g_14, gl, l_5, l_8, l_11, []].flatten], ?_, hS.pick [0, 1]⟩
   exact ⟨_, _, rfl, rfl, _, _, _, _, _, _, _, _, _, _, _, _, _, _, _, rfl, hg_15, ol, o_6, o_9, o_12, List.length_replicate, setsNew _ _, DevM.ok.fresh lw0 hn.1 hn.2 ht.1 ht.2⟩
  ·
   refine (K.OW.gmk (P := Tryz.prog) (m := t) (cc := cV) (z := .agg #[.slice none 0 0]) (size := 1) (bytes := 24) ((.slice none 0 0) : Value) hS ?_ Tryz.underlying178 (by kernel_rfl) rfl rfl (by unfold maxLen; omega) (by omega))
   clear hS; intro w r_16 l_17 o_18 hS
   refine ⟨.inl (hS.pick []), ?_⟩
   refine K.DW.l 5 rfl (by kernel_rfl) rfl (K.OW.gmk (P := Tryz.prog) (m := n) (cc := cI64) (z := K.iv 0) (size := 1) (bytes := 8) (0 : Int) hS ?_ Tryz.underlying44 (by kernel_rfl) rfl rfl (by unfold maxLen; omega) (by omega))
   clear hS; intro w r_19 l_20 o_21 hS
   refine ⟨.inl (hS.pick []), ?_⟩
   refine K.c 8 rfl (K.QR.bd [(0, .slice a n c), (1, .slice r_1 n cc_2), (2, .slice (some ⟨r_19, 0, none⟩) n n), (3, .slice (some ⟨r_16, 0, none⟩) t t)] [.slice a n c, .slice r_1 n cc_2, .slice (some ⟨r_19, 0, none⟩) n n, .slice (some ⟨r_16, 0, none⟩) t t] rfl rfl (by kernel_rfl)) (hS.pick []) ?_
   refine K.DW.l 9 rfl (by kernel_rfl) rfl (K.OW.gnew 180 [.slice a n c, .slice r_1 n cc_2, .slice (some ⟨r_19, 0, none⟩) n n, .slice (some ⟨r_16, 0, none⟩) t t] hS ?_)
   clear hS; intro w r_22 g_23 hg_24 hS
   refine ⟨.inl (hS.pick []), ?_⟩
   refine K.b 10 rfl (K.pa r_22) (hS.pick []) ?_
   refine K.DW.done (by kernel_rfl) ?_
   refine K.t (K.r ?_)
   replace hS : K.Sat w0 [[g_23, gl, l_5, l_20, l_17, []].flatten, fr] w := (hS.pick [0, 4, 3, 1, 2, 5]).of
   refine ⟨.inr rfl, rfl, (K.pa r_22), K.res1 rfl rfl, [[g_23, gl, l_5, l_20, l_17, []].flatten], ?_, hS.pick [0, 1]⟩
   exact ⟨_, _, rfl, rfl, _, _, _, _, _, _, _, _, _, _, _, _, _, _, _, rfl, hg_24, ol, o_6, o_21, o_18, List.length_replicate, setsNew _ _, DevM.ok.fresh lw0 hn.1 hn.2 ht.1 ht.2⟩
 ·
  refine (K.OW.gmk (P := Tryz.prog) (m := n) (cc := cI64) (z := K.iv 0) (size := 1) (bytes := 8) (0 : Int) hS ?_ Tryz.underlying44 (by kernel_rfl) rfl rfl (by unfold maxLen; omega) (by omega))
  clear hS; intro w r_25 l_26 o_27 hS
  refine ⟨.inl (hS.pick []), ?_⟩
  refine K.DW.l2 2 7 rfl rfl (by kernel_rfl) rfl rfl ?_ ?_
  ·
   refine (K.OW.kcall hS [.slice a n c] (cloneW_ok _ _ _ _ W _ (by omega) lw0 (hS.ownr 1 rfl ol)) ?_)
   rintro _ w ⟨r_28, cc_29, rfl, c_30, o_31⟩
   obtain ⟨l_32, o_33, hS⟩ := hS.rnew c_30 o_31 (by omega)
   refine ⟨.inl (hS.pick []), ?_⟩
   refine K.DW.l 7 rfl (by kernel_rfl) rfl (K.OW.gmk (P := Tryz.prog) (m := t) (cc := cV) (z := .agg #[.slice none 0 0]) (size := 1) (bytes := 24) ((.slice none 0 0) : Value) hS ?_ Tryz.underlying178 (by kernel_rfl) rfl rfl (by unfold maxLen; omega) (by omega))
   clear hS; intro w r_34 l_35 o_36 hS
   refine ⟨.inl (hS.pick []), ?_⟩
   refine K.c 8 rfl (K.QR.bd [(0, .slice a n c), (1, .slice r_28 n cc_29), (2, .slice (some ⟨r_25, 0, none⟩) n n), (3, .slice (some ⟨r_34, 0, none⟩) t t)] [.slice a n c, .slice r_28 n cc_29, .slice (some ⟨r_25, 0, none⟩) n n, .slice (some ⟨r_34, 0, none⟩) t t] rfl rfl (by kernel_rfl)) (hS.pick []) ?_
   refine K.DW.l 9 rfl (by kernel_rfl) rfl (K.OW.gnew 180 [.slice a n c, .slice r_28 n cc_29, .slice (some ⟨r_25, 0, none⟩) n n, .slice (some ⟨r_34, 0, none⟩) t t] hS ?_)
   clear hS; intro w r_37 g_38 hg_39 hS
   refine ⟨.inl (hS.pick []), ?_⟩
   refine K.b 10 rfl (K.pa r_37) (hS.pick []) ?_
   refine K.DW.done (by kernel_rfl) ?_
   refine K.t (K.r ?_)
   replace hS : K.Sat w0 [[g_38, gl, l_32, l_26, l_35, []].flatten, fr] w := (hS.pick [0, 4, 2, 3, 1, 5]).of
   refine ⟨.inr rfl, rfl, (K.pa r_37), K.res1 rfl rfl, [[g_38, gl, l_32, l_26, l_35, []].flatten], ?_, hS.pick [0, 1]⟩
   exact ⟨_, _, rfl, rfl, _, _, _, _, _, _, _, _, _, _, _, _, _, _, _, rfl, hg_39, ol, o_33, o_27, o_36, List.length_replicate, setsNew _ _, DevM.ok.fresh lw0 hn.1 hn.2 ht.1 ht.2⟩
  ·
   refine (K.OW.gmk (P := Tryz.prog) (m := t) (cc := cV) (z := .agg #[.slice none 0 0]) (size := 1) (bytes := 24) ((.slice none 0 0) : Value) hS ?_ Tryz.underlying178 (by kernel_rfl) rfl rfl (by unfold maxLen; omega) (by omega))
   clear hS; intro w r_40 l_41 o_42 hS
   refine ⟨.inl (hS.pick []), ?_⟩
   refine K.DW.l 2 rfl (by kernel_rfl) rfl (K.OW.kcall hS [.slice a n c] (cloneW_ok _ _ _ _ W _ (by omega) lw0 (hS.ownr 2 rfl ol)) ?_)
   rintro _ w ⟨r_43, cc_44, rfl, c_45, o_46⟩
   obtain ⟨l_47, o_48, hS⟩ := hS.rnew c_45 o_46 (by omega)
   refine ⟨.inl (hS.pick []), ?_⟩
   refine K.c 8 rfl (K.QR.bd [(0, .slice a n c), (1, .slice r_43 n cc_44), (2, .slice (some ⟨r_25, 0, none⟩) n n), (3, .slice (some ⟨r_40, 0, none⟩) t t)] [.slice a n c, .slice r_43 n cc_44, .slice (some ⟨r_25, 0, none⟩) n n, .slice (some ⟨r_40, 0, none⟩) t t] rfl rfl (by kernel_rfl)) (hS.pick []) ?_
   refine K.DW.l 9 rfl (by kernel_rfl) rfl (K.OW.gnew 180 [.slice a n c, .slice r_43 n cc_44, .slice (some ⟨r_25, 0, none⟩) n n, .slice (some ⟨r_40, 0, none⟩) t t] hS ?_)
   clear hS; intro w r_49 g_50 hg_51 hS
   refine ⟨.inl (hS.pick []), ?_⟩
   refine K.b 10 rfl (K.pa r_49) (hS.pick []) ?_
   refine K.DW.done (by kernel_rfl) ?_
   refine K.t (K.r ?_)
   replace hS : K.Sat w0 [[g_50, gl, l_47, l_26, l_41, []].flatten, fr] w := (hS.pick [0, 4, 1, 3, 2, 5]).of
   refine ⟨.inr rfl, rfl, (K.pa r_49), K.res1 rfl rfl, [[g_50, gl, l_47, l_26, l_41, []].flatten], ?_, hS.pick [0, 1]⟩
   exact ⟨_, _, rfl, rfl, _, _, _, _, _, _, _, _, _, _, _, _, _, _, _, rfl, hg_51, ol, o_48, o_27, o_42, List.length_replicate, setsNew _ _, DevM.ok.fresh lw0 hn.1 hn.2 ht.1 ht.2⟩
 ·
  refine (K.OW.gmk (P := Tryz.prog) (m := t) (cc := cV) (z := .agg #[.slice none 0 0]) (size := 1) (bytes := 24) ((.slice none 0 0) : Value) hS ?_ Tryz.underlying178 (by kernel_rfl) rfl rfl (by unfold maxLen; omega) (by omega))
  clear hS; intro w r_52 l_53 o_54 hS
  refine ⟨.inl (hS.pick []), ?_⟩
  refine K.DW.l2 2 5 rfl rfl (by kernel_rfl) rfl rfl ?_ ?_
  ·
   refine (K.OW.kcall hS [.slice a n c] (cloneW_ok _ _ _ _ W _ (by omega) lw0 (hS.ownr 1 rfl ol)) ?_)
   rintro _ w ⟨r_55, cc_56, rfl, c_57, o_58⟩
   obtain ⟨l_59, o_60, hS⟩ := hS.rnew c_57 o_58 (by omega)
   refine ⟨.inl (hS.pick []), ?_⟩
   refine K.DW.l 5 rfl (by kernel_rfl) rfl (K.OW.gmk (P := Tryz.prog) (m := n) (cc := cI64) (z := K.iv 0) (size := 1) (bytes := 8) (0 : Int) hS ?_ Tryz.underlying44 (by kernel_rfl) rfl rfl (by unfold maxLen; omega) (by omega))
   clear hS; intro w r_61 l_62 o_63 hS
   refine ⟨.inl (hS.pick []), ?_⟩
   refine K.c 8 rfl (K.QR.bd [(0, .slice a n c), (1, .slice r_55 n cc_56), (2, .slice (some ⟨r_61, 0, none⟩) n n), (3, .slice (some ⟨r_52, 0, none⟩) t t)] [.slice a n c, .slice r_55 n cc_56, .slice (some ⟨r_61, 0, none⟩) n n, .slice (some ⟨r_52, 0, none⟩) t t] rfl rfl (by kernel_rfl)) (hS.pick []) ?_
   refine K.DW.l 9 rfl (by kernel_rfl) rfl (K.OW.gnew 180 [.slice a n c, .slice r_55 n cc_56, .slice (some ⟨r_61, 0, none⟩) n n, .slice (some ⟨r_52, 0, none⟩) t t] hS ?_)
   clear hS; intro w r_64 g_65 hg_66 hS
   refine ⟨.inl (hS.pick []), ?_⟩
   refine K.b 10 rfl (K.pa r_64) (hS.pick []) ?_
   refine K.DW.done (by kernel_rfl) ?_
   refine K.t (K.r ?_)
   replace hS : K.Sat w0 [[g_65, gl, l_59, l_62, l_53, []].flatten, fr] w := (hS.pick [0, 4, 2, 1, 3, 5]).of
   refine ⟨.inr rfl, rfl, (K.pa r_64), K.res1 rfl rfl, [[g_65, gl, l_59, l_62, l_53, []].flatten], ?_, hS.pick [0, 1]⟩
   exact ⟨_, _, rfl, rfl, _, _, _, _, _, _, _, _, _, _, _, _, _, _, _, rfl, hg_66, ol, o_60, o_63, o_54, List.length_replicate, setsNew _ _, DevM.ok.fresh lw0 hn.1 hn.2 ht.1 ht.2⟩
  ·
   refine (K.OW.gmk (P := Tryz.prog) (m := n) (cc := cI64) (z := K.iv 0) (size := 1) (bytes := 8) (0 : Int) hS ?_ Tryz.underlying44 (by kernel_rfl) rfl rfl (by unfold maxLen; omega) (by omega))
   clear hS; intro w r_67 l_68 o_69 hS
   refine ⟨.inl (hS.pick []), ?_⟩
   refine K.DW.l 2 rfl (by kernel_rfl) rfl (K.OW.kcall hS [.slice a n c] (cloneW_ok _ _ _ _ W _ (by omega) lw0 (hS.ownr 2 rfl ol)) ?_)
   rintro _ w ⟨r_70, cc_71, rfl, c_72, o_73⟩
   obtain ⟨l_74, o_75, hS⟩ := hS.rnew c_72 o_73 (by omega)
   refine ⟨.inl (hS.pick []), ?_⟩
   refine K.c 8 rfl (K.QR.bd [(0, .slice a n c), (1, .slice r_70 n cc_71), (2, .slice (some ⟨r_67, 0, none⟩) n n), (3, .slice (some ⟨r_52, 0, none⟩) t t)] [.slice a n c, .slice r_70 n cc_71, .slice (some ⟨r_67, 0, none⟩) n n, .slice (some ⟨r_52, 0, none⟩) t t] rfl rfl (by kernel_rfl)) (hS.pick []) ?_
   refine K.DW.l 9 rfl (by kernel_rfl) rfl (K.OW.gnew 180 [.slice a n c, .slice r_70 n cc_71, .slice (some ⟨r_67, 0, none⟩) n n, .slice (some ⟨r_52, 0, none⟩) t t] hS ?_)
   clear hS; intro w r_76 g_77 hg_78 hS
   refine ⟨.inl (hS.pick []), ?_⟩
   refine K.b 10 rfl (K.pa r_76) (hS.pick []) ?_
   refine K.DW.done (by kernel_rfl) ?_
   refine K.t (K.r ?_)
   replace hS : K.Sat w0 [[g_77, gl, l_74, l_68, l_53, []].flatten, fr] w := (hS.pick [0, 4, 1, 2, 3, 5]).of
   refine ⟨.inr rfl, rfl, (K.pa r_76), K.res1 rfl rfl, [[g_77, gl, l_74, l_68, l_53, []].flatten], ?_, hS.pick [0, 1]⟩
   exact ⟨_, _, rfl, rfl, _, _, _, _, _, _, _, _, _, _, _, _, _, _, _, rfl, hg_78, ol, o_75, o_69, o_54, List.length_replicate, setsNew _ _, DevM.ok.fresh lw0 hn.1 hn.2 ht.1 ht.2⟩
theorem flat_cutW {W : List Int} {n : Nat} (h : W.length = n * 8) : flatL (cutT W n) = W := by
 have key : ∀ k, k ≤ n → flatL (cutT W k) = W.take (k * 8) := by
  intro k
  induction k with
  | zero => intro _; simp [cutT, flatL]
  | succ k ih =>
   intro hk
   rw [cutT_succ, flatL_snoc, ih (by omega), ln8_self (by rw [List.length_take, List.length_drop]; omega), Nat.succ_mul, ← List.take_add]
 rw [key n (Nat.le_refl _), List.take_of_length_le (by omega)]
/-- lines.Cut, said by words -/
theorem cutW_ok (a : Option Addr) (cap : Nat) (xs : List Int) (w : World) (hm : xs.length ≤ 9223372036854775807) (hc : xs.length ≤ cap) (hx : RU64 w a xs) :
  K.KC Tryz.prog 114 #[.slice a xs.length cap] w (fun v w' => ∃ r m c, v = .tuple #[.slice r m c, K.iv (mayR xs.length 8)] ∧ K.Chg K.No w w' ∧ (mayR xs.length 8 = 0 → K.Own w' w.heap.size 206 8 r m c (xs.flatMap cU64) ∧ xs.length = m * 8 ∧ m ≤ 262144)) := by
 refine (cut_ok a cap xs w hm hc hx).mono fun v w' h => ?_
 obtain ⟨r, m, c, h1, h2, h3, h4⟩ := h
 refine ⟨r, m, c, h1, h2, fun h0 => ?_⟩
 rw [if_pos h0] at h3 h4
 have h5 : xs.length % 8 = 0 := by
  unfold mayR at h0; split at h0
  ·assumption
  ·omega
 have h6 := mayR_small (n := xs.length) (s := 8) h0
 rw [cutT_len] at h4
 have h7 : xs.length = m * 8 := by omega
 refine ⟨?_, h7, by omega⟩
 rw [lines_cells, h4, flat_cutW h7] at h3
 exact h3
/-- which words may be a device -/
def mayOpenM (n : Nat) (t : Int) : Int := if ¬(1 ≤ t ∧ t ≤ 64) then 1 else if n % 8 ≠ 0 then 3 else if n / 8 > 262144 then 2 else if n = 0 then 3 else 0
set_option maxHeartbeats 1000000 in
set_option maxRecDepth 100000 in
theorem tMay_ok (w0 : World) (i : Int) (hi : isInt i) :
  K.GC Tryz.prog w0 113 #[K.iv i] [] (fun v post => post = [] ∧ ((v = .bool true ∧ 1 ≤ i ∧ i ≤ 64) ∨ (v = .bool false ∧ ¬(1 ≤ i ∧ i ≤ 64)))) := by
 refine K.GC.mk (n := 9) Tryz.func113 rfl rfl [K.iv i] rfl rfl ?_
 intro fr w hS
 replace hS : K.Sat w0 [fr] w := hS
 refine K.s (K.g (K.q [.bool false] (K.z (K.t (K.s (K.g (K.q [K.iv i] ?_)))))))
 by_cases h_1 : (i : Int) ≥ (1 : Int)
 ·
  refine K.y ((i : Int) ≥ (1 : Int)) h_1 ?_
  refine K.q [.bool true, K.iv i] ?_
  by_cases h_2 : (i : Int) ≤ (64 : Int)
  ·
   refine K.y ((i : Int) ≤ (64 : Int)) h_2 ?_
   refine K.q [.bool true, .bool true] (K.z (K.t (K.r ?_)))
   refine ⟨.inr rfl, rfl, (.bool true), K.res1 rfl rfl, [], ?_, hS.pick [0]⟩
   exact ⟨rfl, .inl ⟨rfl, by omega⟩⟩
  ·
   refine K.x ((i : Int) ≤ (64 : Int)) h_2 ?_
   refine K.q [.bool false, .bool false] (K.z (K.t (K.r ?_)))
   refine ⟨.inr rfl, rfl, (.bool false), K.res1 rfl rfl, [], ?_, hS.pick [0]⟩
   exact ⟨rfl, .inr ⟨rfl, by omega⟩⟩
 ·
  refine K.x ((i : Int) ≥ (1 : Int)) h_1 ?_
  refine K.q [.bool false] (K.n_ (K.n_ (K.q [.bool false, .bool false] (K.z (K.t (K.r ?_))))))
  refine ⟨.inr rfl, rfl, (.bool false), K.res1 rfl rfl, [], ?_, hS.pick [0]⟩
  exact ⟨rfl, .inr ⟨rfl, by omega⟩⟩
theorem mayOpen_cut {n : Nat} {t : Int} (h : 1 ≤ t ∧ t ≤ 64) (h2 : ¬ mayR n 8 = 0) : mayOpenM n t = mayR n 8 := by
 unfold mayOpenM mayR at *
 rw [if_neg (by omega)]
 split at h2 <;> rename_i h3
 ·rw [if_neg (by omega), if_pos h3]
  split at h2 <;> rename_i h4
  ·rw [if_pos h4, if_pos h4]
  ·exact absurd rfl h2
 ·rw [if_pos h3, if_neg h3]
theorem mayOpen_zero {n : Nat} {t : Int} (h : 1 ≤ t ∧ t ≤ 64) (h2 : n = 0) : mayOpenM n t = 3 := by
 subst h2; unfold mayOpenM; rw [if_neg (by omega)]; simp
theorem mayOpen_ok {n : Nat} {t : Int} (h : 1 ≤ t ∧ t ≤ 64) (h2 : n ≠ 0) (h3 : mayR n 8 = 0) : mayOpenM n t = 0 := by
 unfold mayOpenM mayR at *
 rw [if_neg (by omega)]
 split at h3 <;> rename_i h4
 ·split at h3 <;> rename_i h5
  ·omega
  ·rw [if_neg (by omega), if_neg h5, if_neg h2]
 ·omega
end Go.Proofs.YtbfafebfkdbglaaGreat
