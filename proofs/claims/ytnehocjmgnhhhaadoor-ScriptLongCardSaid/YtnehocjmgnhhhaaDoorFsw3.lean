import Derived.Test.YtnehocjmgnhhhaaDoorFsw2
/- Scripts: words, alike. -/
namespace Go.Proofs.YtnehocjmgnhhhaaDoor
open Go.RowKit
set_option linter.unusedVariables false
attribute [local irreducible] K.KW K.RW K.DW K.OW K.QR K.KC
set_option maxHeartbeats 4000000 in
set_option maxRecDepth 100000 in
theorem words_ok (w0 : World) (a : ActM) (n : Nat) (hf : a.fits) (hr : rightO a) (hn : n ≤ 10000) :
    K.GC Tryd.prog w0 69 #[.agg #[.int .i64 a.k, .int .i64 a.th, .int .i64 a.ln, .int .i64 a.ok, .int .u32 a.key, .int .u32 a.val], .int .i64 ((n : Nat) : Int)] [] (fun v post => ∃ r g k, post = [g] ∧ v = .slice r (wordsA a n).length k ∧ K.OwnG g 9 1 r (wordsA a n).length k ((wordsA a n).flatMap K.cStr)) := by
  have hr0 := hr
  unfold rightO at hr0
  have hf0 := hf
  unfold ActM.fits isI64 at hf0
  have hx8 : opNm.tail.length = 8 := rfl
  refine K.GC.mk (n := 69) Tryd.func69 rfl rfl [.agg #[.int .i64 a.k, .int .i64 a.th, .int .i64 a.ln, .int .i64 a.ok, .int .u32 a.key, .int .u32 a.val], .int .i64 ((n : Nat) : Int)] rfl rfl ?_
  intro fr w hS
  replace hS : K.Sat w0 [fr] w := hS
  refine K.KW.seq ?_
  -- 0 :210
  refine K.KW.region ?_
  refine K.RW.l rfl (K.OW.gnew 57 [.int .i64 a.k, .int .i64 a.th, .int .i64 a.ln, .int .i64 a.ok, .int .u32 a.key, .int .u32 a.val] hS ?_)
  clear hS; intro w r_1 g_2 hg_3 hS
  refine K.RW.qs [.slice none 0 0] (by kernel_rfl) ?_
  refine K.RW.nil ?_
  refine K.thn_normal ?_
  refine K.KW.seq ?_
  refine K.KW.seq ?_
  -- 1 :211
  refine K.KW.region ?_
  refine K.RW.qs [.pointer (some ⟨r_1, 0, none⟩)] (by kernel_rfl) ?_
  refine K.RW.q rfl rfl (K.QR.ld1 (v := .int .i64 a.k) rfl rfl (by kernel_rfl) ((hS.blk 0 rfl hg_3).cell rfl)) ?_
  refine K.RW.nil ?_
  refine K.thn_normal ?_
  refine K.KW.block ?_
  refine K.KW.seq ?_
  -- 2 :212
  refine K.KW.region ?_
  by_cases h_4 : (a.k : Int) = (1 : Int)
  ·  -- yes
    refine K.RW.q rfl rfl (K.QR.nice (v := .bool ((a.k : Int) == (1 : Int))) (by kernel_rfl) (congrArg Value.bool (beq_iff_eq.2 h_4))) ?_
    refine K.RW.qs [.bool true] (by kernel_rfl) ?_
    refine K.RW.nil ?_
    refine K.thn_normal ?_
    refine K.KW.ifT rfl ?_
    refine K.KW.seq ?_
    -- 3 :213
    refine K.KW.gdrawn [0] hS (by kernel_rfl) ?_
    clear hS; intro w hS
    refine K.DW.q 0 (by kernel_rfl) rfl rfl (by kernel_rfl) rfl (fun w hS => K.QR.k (v := .pointer (some ⟨r_1, 1, none⟩)) (by kernel_rfl)) (hS.pick [0]) ?_
    refine K.DW.q 1 (by kernel_rfl) rfl rfl (by kernel_rfl) rfl (fun w hS => K.QR.ld1 (v := .int .i64 a.th) rfl rfl (by kernel_rfl) ((hS.blk 0 rfl hg_3).cell rfl)) (hS.pick [0]) ?_
    refine K.DW.q 4 (by kernel_rfl) rfl rfl (by kernel_rfl) rfl (fun w hS => K.QR.k (v := .pointer (some ⟨r_1, 3, none⟩)) (by kernel_rfl)) (hS.pick [0]) ?_
    refine K.DW.q 5 (by kernel_rfl) rfl rfl (by kernel_rfl) rfl (fun w hS => K.QR.k (v := .pointer (some ⟨r_1, 3, none⟩)) (by kernel_rfl)) (hS.pick [0]) ?_
    refine K.DW.q 6 (by kernel_rfl) rfl rfl (by kernel_rfl) rfl (fun w hS => K.QR.ld1 (v := .int .i64 a.ok) rfl rfl (by kernel_rfl) ((hS.blk 0 rfl hg_3).cell rfl)) (hS.pick [0]) ?_
    refine K.DW.q 7 (by kernel_rfl) rfl rfl (by kernel_rfl) rfl (fun w hS => K.QR.n64 ((a.ok : Int) - (1 : Int)) ((a.ok : Int) - (1 : Int)) (by kernel_rfl) (by omega)) (hS.pick [0]) ?_
    refine K.DW.l 2 rfl (by kernel_rfl) rfl (K.OW.gcall hS [] [0, 1] [.int .i64 a.th] (sdigitsI_ok _ a.th (by omega) (by omega)) ?_)
    clear hS; rintro _ _ w ⟨rfl, rfl⟩ hS
    replace hS : K.Sat w0 [g_2, fr] w := hS
    refine ⟨.inl (hS.pick [0]), ?_⟩
    refine K.DW.l 3 rfl (by kernel_rfl) rfl (K.OW.gcall hS [] [0, 1] [] (snames_ok _) ?_)
    clear hS; rintro _ _ w ⟨r_5, g_6, rfl, rfl, h_7⟩ hS
    have h_7o : K.OwnG g_6 9 1 (some ⟨r_5, 0, none⟩) 8 8 (opNm.tail.flatMap K.cStr) := K.OwnG.ofPt h_7 8 (by unfold maxLen; omega) rfl
    replace hS : K.Sat w0 [g_6, g_2, fr] w := hS
    refine ⟨.inl (hS.pick [1]), ?_⟩
    refine K.DW.l 8 rfl (by kernel_rfl) rfl (K.OW.q rfl (K.QR.ix (((a.ok : Int) - (1 : Int)).toNat) 1 rfl rfl rfl Tryd.underlying68 (by kernel_rfl) (by omega) (by first | (simp; done) | omega | (simp; omega))) ?_)
    refine ⟨.inl (hS.pick [1]), ?_⟩
    refine K.DW.l 9 rfl (by kernel_rfl) rfl (K.OW.q rfl (K.QR.ld1 (v := .string (K.sb (opNm.tail.getD (((a.ok : Int) - (1 : Int)).toNat) []))) rfl rfl (by kernel_rfl) (K.Own.atS (c := K.cStr) (d := []) (fun _ => rfl) (hS.ownr 0 rfl h_7o) rfl (((a.ok : Int) - (1 : Int)).toNat) (by omega))) ?_)
    refine ⟨.inl (hS.pick [1]), ?_⟩
    refine K.DW.l 10 rfl (by kernel_rfl) rfl (K.OW.gbs [(0, .string (K.sb [99, 97, 108, 108])), (1, .string (K.sb (dg a.th.toNat))), (2, .string (K.sb (opNm.tail.getD (((a.ok : Int) - (1 : Int)).toNat) [])))] [.string (K.sb [99, 97, 108, 108]), .string (K.sb (dg a.th.toNat)), .string (K.sb (opNm.tail.getD (((a.ok : Int) - (1 : Int)).toNat) []))] hS (fun w => K.bs_run (P := Tryd.prog) w 68 9 3 _ _ Tryd.underlying68 (by kernel_rfl)) ?_)
    clear hS; intro w r_8 g_9 hg_10 hS
    refine ⟨.inl (hS.pick [2]), ?_⟩
    refine K.DW.l 11 rfl (by kernel_rfl) rfl (K.OW.q rfl (K.QR.k (v := .slice (some ⟨r_8, 0, none⟩) 3 3) (by kernel_rfl)) ?_)
    refine ⟨.inl (hS.pick [2]), ?_⟩
    refine K.DW.done (by kernel_rfl) ?_
    refine K.thn_normal ?_
    refine K.KW.seq ?_
    -- 4 :214
    refine K.KW.region ?_
    refine K.RW.qs [.pointer (some ⟨r_1, 3, none⟩), .pointer (some ⟨r_1, 3, none⟩)] (by kernel_rfl) ?_
    refine K.RW.q rfl rfl (K.QR.ld1 (v := .int .i64 a.ok) rfl rfl (by kernel_rfl) ((hS.blk 2 rfl hg_3).cell rfl)) ?_
    refine K.RW.l rfl (K.OW.gcall hS [] [0, 1, 2, 3] [.int .i64 a.ok] (fields_ok _ a.ok) ?_)
    clear hS; rintro _ _ w ⟨rfl, (⟨h_11, rfl⟩ | ⟨h_12, rfl⟩ | ⟨h_13, rfl⟩ | ⟨h_14, rfl⟩)⟩ hS
    ·
      replace hS : K.Sat w0 [g_9, g_6, g_2, fr] w := hS
      refine K.RW.qs [.tuple #[.bool false, .bool true], .bool false, .bool true, .bool false, .bool true] (by kernel_rfl) ?_
      refine K.RW.nil ?_
      refine K.thn_normal ?_
      refine K.KW.seq ?_
      refine K.KW.seq ?_
      -- 5 :215
      refine K.KW.region ?_
      refine K.RW.qs [.bool false] (by kernel_rfl) ?_
      refine K.RW.nil ?_
      refine K.thn_normal ?_
      refine K.KW.ifF rfl ?_
      refine K.KW.skip ?_
      refine K.thn_normal ?_
      refine K.KW.seq ?_
      refine K.KW.seq ?_
      -- 7 :218
      refine K.KW.region ?_
      refine K.RW.qs [.bool true] (by kernel_rfl) ?_
      refine K.RW.nil ?_
      refine K.thn_normal ?_
      refine K.KW.ifT rfl ?_
      -- 8 :219
      refine K.KW.region ?_
      refine K.RW.qs [.slice (some ⟨r_8, 0, none⟩) 3 3, .pointer (some ⟨r_1, 3, none⟩), .pointer (some ⟨r_1, 5, none⟩)] (by kernel_rfl) ?_
      refine K.RW.q rfl rfl (K.QR.ld1 (v := .int .u32 a.val) rfl rfl (by kernel_rfl) ((hS.blk 2 rfl hg_3).cell rfl)) ?_
      refine K.RW.q rfl rfl (K.QR.nice (v := .int .i64 (IntKind.i64.wrap a.val)) (by kernel_rfl) (congrArg (Value.int .i64) (IntWalk.i64_in _ (by omega)))) ?_
      refine K.RW.l rfl (K.OW.gcall hS [] [0, 1, 2, 3] [.int .i64 a.val] (sdigitsI_ok _ a.val (by omega) (by omega)) ?_)
      clear hS; rintro _ _ w ⟨rfl, rfl⟩ hS
      replace hS : K.Sat w0 [g_9, g_6, g_2, fr] w := hS
      refine K.RW.l rfl (K.OW.gbs [(0, .string (K.sb (dg a.val.toNat)))] [.string (K.sb (dg a.val.toNat))] hS (fun w => K.bs_run (P := Tryd.prog) w 68 9 1 _ _ Tryd.underlying68 (by kernel_rfl)) ?_)
      clear hS; intro w r_15 g_16 hg_17 hS
      have o_18 : K.OwnG g_9 9 1 (some ⟨r_8, 0, none⟩) 3 3 (([(([99, 97, 108, 108] : List UInt8) : List UInt8), ((dg a.th.toNat) : List UInt8), (opNm.tail.getD (((a.ok : Int) - (1 : Int)).toNat) [] : List UInt8)]).flatMap K.cStr) := K.OwnG.ofPt hg_10 3 (by unfold maxLen; omega) rfl
      refine K.RW.l rfl (K.OW.gapp (P := Tryd.prog) (xs := ([(([99, 97, 108, 108] : List UInt8) : List UInt8), ((dg a.th.toNat) : List UInt8), (opNm.tail.getD (((a.ok : Int) - (1 : Int)).toNat) [] : List UInt8)]).flatMap K.cStr) (z := .string (K.sb [])) (size := 1) (bytes := 16) 1 [.string (K.sb (dg a.val.toNat))] hS o_18 ?_ (fun j u hj => (by rw [Nat.zero_add]; exact (hS.blk 0 rfl hg_17).cell hj)) (K.one_cells (by rfl)) (by rfl) Tryd.underlying68 (by kernel_rfl) rfl (by decide) (by unfold maxLen; omega) (by omega))
      clear hS; intro a_19 cap_20 w l_21 o_22 hS
      have ln_23 : (([(([99, 97, 108, 108] : List UInt8) : List UInt8), ((dg a.th.toNat) : List UInt8), (opNm.tail.getD (((a.ok : Int) - (1 : Int)).toNat) [] : List UInt8)] ++ [((dg a.val.toNat) : List UInt8)])).length = 3 + 1 := by rw [List.length_append]; rfl
      have o_22c := K.OwnG.cast (xs' := (([(([99, 97, 108, 108] : List UInt8) : List UInt8), ((dg a.th.toNat) : List UInt8), (opNm.tail.getD (((a.ok : Int) - (1 : Int)).toNat) [] : List UInt8)] ++ [((dg a.val.toNat) : List UInt8)])).flatMap K.cStr) o_22 rfl (K.fl_snoc K.cStr [(([99, 97, 108, 108] : List UInt8) : List UInt8), ((dg a.th.toNat) : List UInt8), (opNm.tail.getD (((a.ok : Int) - (1 : Int)).toNat) [] : List UInt8)] ((dg a.val.toNat) : List UInt8) rfl)
      replace hS : K.Sat w0 [g_16, l_21, g_6, g_2, fr] w := hS
      refine K.RW.qs [.slice a_19 (3 + 1) cap_20] (by kernel_rfl) ?_
      refine K.RW.nil ?_
      refine K.thn_normal ?_
      refine K.KW.seq ?_
      -- 9 :221
      refine K.KW.region ?_
      refine K.RW.qs [.slice a_19 (3 + 1) cap_20, .slice a_19 (3 + 1) cap_20] (by kernel_rfl) ?_
      refine K.RW.nil ?_
      refine K.thn_normal ?_
      refine K.KW.ret ?_
      refine K.blk_ret ?_
      refine K.thn_ret ?_
      have hk9 := h_11
      have hw9 := hr
      unfold rightO at hw9
      have hw : wordsA a n = ([(([99, 97, 108, 108] : List UInt8) : List UInt8), ((dg a.th.toNat) : List UInt8), (opNm.tail.getD (((a.ok : Int) - (1 : Int)).toNat) [] : List UInt8)] ++ [((dg a.val.toNat) : List UInt8)]) := by unfold wordsA; rw [if_pos (by omega), show keyA a = _ from if_neg (by omega), show valA a = _ from if_pos (by omega)]; rfl
      refine ⟨.inr rfl, rfl, (.slice a_19 (3 + 1) cap_20), K.res1 rfl rfl, [l_21], ?_, hS.pick [1, 4]⟩
      exact ⟨_, _, _, rfl, by rw [hw]; rfl, by rw [hw]; exact o_22c⟩
    ·
      replace hS : K.Sat w0 [g_9, g_6, g_2, fr] w := hS
      refine K.RW.qs [.tuple #[.bool false, .bool false], .bool false, .bool false, .bool false, .bool false] (by kernel_rfl) ?_
      refine K.RW.nil ?_
      refine K.thn_normal ?_
      refine K.KW.seq ?_
      refine K.KW.seq ?_
      -- 5 :215
      refine K.KW.region ?_
      refine K.RW.qs [.bool false] (by kernel_rfl) ?_
      refine K.RW.nil ?_
      refine K.thn_normal ?_
      refine K.KW.ifF rfl ?_
      refine K.KW.skip ?_
      refine K.thn_normal ?_
      refine K.KW.seq ?_
      refine K.KW.seq ?_
      -- 7 :218
      refine K.KW.region ?_
      refine K.RW.qs [.bool false] (by kernel_rfl) ?_
      refine K.RW.nil ?_
      refine K.thn_normal ?_
      refine K.KW.ifF rfl ?_
      refine K.KW.skip ?_
      refine K.thn_normal ?_
      refine K.KW.seq ?_
      -- 9 :221
      refine K.KW.region ?_
      refine K.RW.qs [.slice (some ⟨r_8, 0, none⟩) 3 3, .slice (some ⟨r_8, 0, none⟩) 3 3] (by kernel_rfl) ?_
      refine K.RW.nil ?_
      refine K.thn_normal ?_
      refine K.KW.ret ?_
      refine K.blk_ret ?_
      refine K.thn_ret ?_
      have hk9 := h_12
      have hw9 := hr
      unfold rightO at hw9
      have o_24 : K.OwnG g_9 9 1 (some ⟨r_8, 0, none⟩) 3 3 (([([99, 97, 108, 108] : List UInt8), (dg a.th.toNat), opNm.tail.getD (((a.ok : Int) - (1 : Int)).toNat) []]).flatMap K.cStr) := K.OwnG.ofPt hg_10 3 (by unfold maxLen; omega) rfl
      have hw : wordsA a n = [([99, 97, 108, 108] : List UInt8), (dg a.th.toNat), opNm.tail.getD (((a.ok : Int) - (1 : Int)).toNat) []] := by unfold wordsA; rw [if_pos (by omega), show keyA a = _ from if_neg (by omega), show valA a = _ from if_neg (by omega)]; rfl
      refine ⟨.inr rfl, rfl, (.slice (some ⟨r_8, 0, none⟩) 3 3), K.res1 rfl rfl, [g_9], ?_, hS.pick [0, 3]⟩
      exact ⟨_, _, _, rfl, by rw [hw]; rfl, by rw [hw]; exact o_24⟩
    ·
      replace hS : K.Sat w0 [g_9, g_6, g_2, fr] w := hS
      refine K.RW.qs [.tuple #[.bool true, .bool true], .bool true, .bool true, .bool true, .bool true] (by kernel_rfl) ?_
      refine K.RW.nil ?_
      refine K.thn_normal ?_
      refine K.KW.seq ?_
      refine K.KW.seq ?_
      -- 5 :215
      refine K.KW.region ?_
      refine K.RW.qs [.bool true] (by kernel_rfl) ?_
      refine K.RW.nil ?_
      refine K.thn_normal ?_
      refine K.KW.ifT rfl ?_
      -- 6 :216
      refine K.KW.region ?_
      refine K.RW.qs [.slice (some ⟨r_8, 0, none⟩) 3 3, .pointer (some ⟨r_1, 3, none⟩), .pointer (some ⟨r_1, 4, none⟩)] (by kernel_rfl) ?_
      refine K.RW.q rfl rfl (K.QR.ld1 (v := .int .u32 a.key) rfl rfl (by kernel_rfl) ((hS.blk 2 rfl hg_3).cell rfl)) ?_
      refine K.RW.q rfl rfl (K.QR.nice (v := .int .i64 (IntKind.i64.wrap a.key)) (by kernel_rfl) (congrArg (Value.int .i64) (IntWalk.i64_in _ (by omega)))) ?_
      refine K.RW.l rfl (K.OW.gcall hS [] [0, 1, 2, 3] [.int .i64 a.key] (sdigitsI_ok _ a.key (by omega) (by omega)) ?_)
      clear hS; rintro _ _ w ⟨rfl, rfl⟩ hS
      replace hS : K.Sat w0 [g_9, g_6, g_2, fr] w := hS
      refine K.RW.l rfl (K.OW.gbs [(0, .string (K.sb (dg a.key.toNat)))] [.string (K.sb (dg a.key.toNat))] hS (fun w => K.bs_run (P := Tryd.prog) w 68 9 1 _ _ Tryd.underlying68 (by kernel_rfl)) ?_)
      clear hS; intro w r_25 g_26 hg_27 hS
      have o_28 : K.OwnG g_9 9 1 (some ⟨r_8, 0, none⟩) 3 3 (([(([99, 97, 108, 108] : List UInt8) : List UInt8), ((dg a.th.toNat) : List UInt8), (opNm.tail.getD (((a.ok : Int) - (1 : Int)).toNat) [] : List UInt8)]).flatMap K.cStr) := K.OwnG.ofPt hg_10 3 (by unfold maxLen; omega) rfl
      refine K.RW.l rfl (K.OW.gapp (P := Tryd.prog) (xs := ([(([99, 97, 108, 108] : List UInt8) : List UInt8), ((dg a.th.toNat) : List UInt8), (opNm.tail.getD (((a.ok : Int) - (1 : Int)).toNat) [] : List UInt8)]).flatMap K.cStr) (z := .string (K.sb [])) (size := 1) (bytes := 16) 1 [.string (K.sb (dg a.key.toNat))] hS o_28 ?_ (fun j u hj => (by rw [Nat.zero_add]; exact (hS.blk 0 rfl hg_27).cell hj)) (K.one_cells (by rfl)) (by rfl) Tryd.underlying68 (by kernel_rfl) rfl (by decide) (by unfold maxLen; omega) (by omega))
      clear hS; intro a_29 cap_30 w l_31 o_32 hS
      have ln_33 : (([(([99, 97, 108, 108] : List UInt8) : List UInt8), ((dg a.th.toNat) : List UInt8), (opNm.tail.getD (((a.ok : Int) - (1 : Int)).toNat) [] : List UInt8)] ++ [((dg a.key.toNat) : List UInt8)])).length = 3 + 1 := by rw [List.length_append]; rfl
      have o_32c := K.OwnG.cast (xs' := (([(([99, 97, 108, 108] : List UInt8) : List UInt8), ((dg a.th.toNat) : List UInt8), (opNm.tail.getD (((a.ok : Int) - (1 : Int)).toNat) [] : List UInt8)] ++ [((dg a.key.toNat) : List UInt8)])).flatMap K.cStr) o_32 rfl (K.fl_snoc K.cStr [(([99, 97, 108, 108] : List UInt8) : List UInt8), ((dg a.th.toNat) : List UInt8), (opNm.tail.getD (((a.ok : Int) - (1 : Int)).toNat) [] : List UInt8)] ((dg a.key.toNat) : List UInt8) rfl)
      replace hS : K.Sat w0 [g_26, l_31, g_6, g_2, fr] w := hS
      refine K.RW.qs [.slice a_29 (3 + 1) cap_30] (by kernel_rfl) ?_
      refine K.RW.nil ?_
      refine K.thn_normal ?_
      refine K.KW.seq ?_
      refine K.KW.seq ?_
      -- 7 :218
      refine K.KW.region ?_
      refine K.RW.qs [.bool true] (by kernel_rfl) ?_
      refine K.RW.nil ?_
      refine K.thn_normal ?_
      refine K.KW.ifT rfl ?_
      -- 8 :219
      refine K.KW.region ?_
      refine K.RW.qs [.slice a_29 (3 + 1) cap_30, .pointer (some ⟨r_1, 3, none⟩), .pointer (some ⟨r_1, 5, none⟩)] (by kernel_rfl) ?_
      refine K.RW.q rfl rfl (K.QR.ld1 (v := .int .u32 a.val) rfl rfl (by kernel_rfl) ((hS.blk 3 rfl hg_3).cell rfl)) ?_
      refine K.RW.q rfl rfl (K.QR.nice (v := .int .i64 (IntKind.i64.wrap a.val)) (by kernel_rfl) (congrArg (Value.int .i64) (IntWalk.i64_in _ (by omega)))) ?_
      refine K.RW.l rfl (K.OW.gcall hS [] [0, 1, 2, 3, 4] [.int .i64 a.val] (sdigitsI_ok _ a.val (by omega) (by omega)) ?_)
      clear hS; rintro _ _ w ⟨rfl, rfl⟩ hS
      replace hS : K.Sat w0 [g_26, l_31, g_6, g_2, fr] w := hS
      refine K.RW.l rfl (K.OW.gbs [(0, .string (K.sb (dg a.val.toNat)))] [.string (K.sb (dg a.val.toNat))] hS (fun w => K.bs_run (P := Tryd.prog) w 68 9 1 _ _ Tryd.underlying68 (by kernel_rfl)) ?_)
      clear hS; intro w r_34 g_35 hg_36 hS
      refine K.RW.l rfl (K.OW.gapp (P := Tryd.prog) (xs := (([(([99, 97, 108, 108] : List UInt8) : List UInt8), ((dg a.th.toNat) : List UInt8), (opNm.tail.getD (((a.ok : Int) - (1 : Int)).toNat) [] : List UInt8)] ++ [((dg a.key.toNat) : List UInt8)])).flatMap K.cStr) (z := .string (K.sb [])) (size := 1) (bytes := 16) 2 [.string (K.sb (dg a.val.toNat))] hS o_32c ?_ (fun j u hj => (by rw [Nat.zero_add]; exact (hS.blk 0 rfl hg_36).cell hj)) (K.one_cells (by rfl)) (by rfl) Tryd.underlying68 (by kernel_rfl) rfl (by decide) (by unfold maxLen; omega) (by omega))
      clear hS; intro a_37 cap_38 w l_39 o_40 hS
      have ln_41 : ((([(([99, 97, 108, 108] : List UInt8) : List UInt8), ((dg a.th.toNat) : List UInt8), (opNm.tail.getD (((a.ok : Int) - (1 : Int)).toNat) [] : List UInt8)] ++ [((dg a.key.toNat) : List UInt8)]) ++ [((dg a.val.toNat) : List UInt8)])).length = 3 + 1 + 1 := by rw [List.length_append, ln_33]; rfl
      have o_40c := K.OwnG.cast (xs' := ((([(([99, 97, 108, 108] : List UInt8) : List UInt8), ((dg a.th.toNat) : List UInt8), (opNm.tail.getD (((a.ok : Int) - (1 : Int)).toNat) [] : List UInt8)] ++ [((dg a.key.toNat) : List UInt8)]) ++ [((dg a.val.toNat) : List UInt8)])).flatMap K.cStr) o_40 rfl (K.fl_snoc K.cStr ([(([99, 97, 108, 108] : List UInt8) : List UInt8), ((dg a.th.toNat) : List UInt8), (opNm.tail.getD (((a.ok : Int) - (1 : Int)).toNat) [] : List UInt8)] ++ [((dg a.key.toNat) : List UInt8)]) ((dg a.val.toNat) : List UInt8) rfl)
      replace hS : K.Sat w0 [g_35, g_26, l_39, g_6, g_2, fr] w := hS
      refine K.RW.qs [.slice a_37 (3 + 1 + 1) cap_38] (by kernel_rfl) ?_
      refine K.RW.nil ?_
      refine K.thn_normal ?_
      refine K.KW.seq ?_
      -- 9 :221
      refine K.KW.region ?_
      refine K.RW.qs [.slice a_37 (3 + 1 + 1) cap_38, .slice a_37 (3 + 1 + 1) cap_38] (by kernel_rfl) ?_
      refine K.RW.nil ?_
      refine K.thn_normal ?_
      refine K.KW.ret ?_
      refine K.blk_ret ?_
      refine K.thn_ret ?_
      have hk9 := h_13
      have hw9 := hr
      unfold rightO at hw9
      have hw : wordsA a n = (([(([99, 97, 108, 108] : List UInt8) : List UInt8), ((dg a.th.toNat) : List UInt8), (opNm.tail.getD (((a.ok : Int) - (1 : Int)).toNat) [] : List UInt8)] ++ [((dg a.key.toNat) : List UInt8)]) ++ [((dg a.val.toNat) : List UInt8)]) := by unfold wordsA; rw [if_pos (by omega), show keyA a = _ from if_pos (by omega), show valA a = _ from if_pos (by omega)]; rfl
      refine ⟨.inr rfl, rfl, (.slice a_37 (3 + 1 + 1) cap_38), K.res1 rfl rfl, [l_39], ?_, hS.pick [2, 5]⟩
      exact ⟨_, _, _, rfl, by rw [hw]; rfl, by rw [hw]; exact o_40c⟩
    ·
      replace hS : K.Sat w0 [g_9, g_6, g_2, fr] w := hS
      refine K.RW.qs [.tuple #[.bool true, .bool false], .bool true, .bool false, .bool true, .bool false] (by kernel_rfl) ?_
      refine K.RW.nil ?_
      refine K.thn_normal ?_
      refine K.KW.seq ?_
      refine K.KW.seq ?_
      -- 5 :215
      refine K.KW.region ?_
      refine K.RW.qs [.bool true] (by kernel_rfl) ?_
      refine K.RW.nil ?_
      refine K.thn_normal ?_
      refine K.KW.ifT rfl ?_
      -- 6 :216
      refine K.KW.region ?_
      refine K.RW.qs [.slice (some ⟨r_8, 0, none⟩) 3 3, .pointer (some ⟨r_1, 3, none⟩), .pointer (some ⟨r_1, 4, none⟩)] (by kernel_rfl) ?_
      refine K.RW.q rfl rfl (K.QR.ld1 (v := .int .u32 a.key) rfl rfl (by kernel_rfl) ((hS.blk 2 rfl hg_3).cell rfl)) ?_
      refine K.RW.q rfl rfl (K.QR.nice (v := .int .i64 (IntKind.i64.wrap a.key)) (by kernel_rfl) (congrArg (Value.int .i64) (IntWalk.i64_in _ (by omega)))) ?_
      refine K.RW.l rfl (K.OW.gcall hS [] [0, 1, 2, 3] [.int .i64 a.key] (sdigitsI_ok _ a.key (by omega) (by omega)) ?_)
      clear hS; rintro _ _ w ⟨rfl, rfl⟩ hS
      replace hS : K.Sat w0 [g_9, g_6, g_2, fr] w := hS
      refine K.RW.l rfl (K.OW.gbs [(0, .string (K.sb (dg a.key.toNat)))] [.string (K.sb (dg a.key.toNat))] hS (fun w => K.bs_run (P := Tryd.prog) w 68 9 1 _ _ Tryd.underlying68 (by kernel_rfl)) ?_)
      clear hS; intro w r_42 g_43 hg_44 hS
      have o_45 : K.OwnG g_9 9 1 (some ⟨r_8, 0, none⟩) 3 3 (([(([99, 97, 108, 108] : List UInt8) : List UInt8), ((dg a.th.toNat) : List UInt8), (opNm.tail.getD (((a.ok : Int) - (1 : Int)).toNat) [] : List UInt8)]).flatMap K.cStr) := K.OwnG.ofPt hg_10 3 (by unfold maxLen; omega) rfl
      refine K.RW.l rfl (K.OW.gapp (P := Tryd.prog) (xs := ([(([99, 97, 108, 108] : List UInt8) : List UInt8), ((dg a.th.toNat) : List UInt8), (opNm.tail.getD (((a.ok : Int) - (1 : Int)).toNat) [] : List UInt8)]).flatMap K.cStr) (z := .string (K.sb [])) (size := 1) (bytes := 16) 1 [.string (K.sb (dg a.key.toNat))] hS o_45 ?_ (fun j u hj => (by rw [Nat.zero_add]; exact (hS.blk 0 rfl hg_44).cell hj)) (K.one_cells (by rfl)) (by rfl) Tryd.underlying68 (by kernel_rfl) rfl (by decide) (by unfold maxLen; omega) (by omega))
      clear hS; intro a_46 cap_47 w l_48 o_49 hS
      have ln_50 : (([(([99, 97, 108, 108] : List UInt8) : List UInt8), ((dg a.th.toNat) : List UInt8), (opNm.tail.getD (((a.ok : Int) - (1 : Int)).toNat) [] : List UInt8)] ++ [((dg a.key.toNat) : List UInt8)])).length = 3 + 1 := by rw [List.length_append]; rfl
      have o_49c := K.OwnG.cast (xs' := (([(([99, 97, 108, 108] : List UInt8) : List UInt8), ((dg a.th.toNat) : List UInt8), (opNm.tail.getD (((a.ok : Int) - (1 : Int)).toNat) [] : List UInt8)] ++ [((dg a.key.toNat) : List UInt8)])).flatMap K.cStr) o_49 rfl (K.fl_snoc K.cStr [(([99, 97, 108, 108] : List UInt8) : List UInt8), ((dg a.th.toNat) : List UInt8), (opNm.tail.getD (((a.ok : Int) - (1 : Int)).toNat) [] : List UInt8)] ((dg a.key.toNat) : List UInt8) rfl)
      replace hS : K.Sat w0 [g_43, l_48, g_6, g_2, fr] w := hS
      refine K.RW.qs [.slice a_46 (3 + 1) cap_47] (by kernel_rfl) ?_
      refine K.RW.nil ?_
      refine K.thn_normal ?_
      refine K.KW.seq ?_
      refine K.KW.seq ?_
      -- 7 :218
      refine K.KW.region ?_
      refine K.RW.qs [.bool false] (by kernel_rfl) ?_
      refine K.RW.nil ?_
      refine K.thn_normal ?_
      refine K.KW.ifF rfl ?_
      refine K.KW.skip ?_
      refine K.thn_normal ?_
      refine K.KW.seq ?_
      -- 9 :221
      refine K.KW.region ?_
      refine K.RW.qs [.slice a_46 (3 + 1) cap_47, .slice a_46 (3 + 1) cap_47] (by kernel_rfl) ?_
      refine K.RW.nil ?_
      refine K.thn_normal ?_
      refine K.KW.ret ?_
      refine K.blk_ret ?_
      refine K.thn_ret ?_
      have hk9 := h_14
      have hw9 := hr
      unfold rightO at hw9
      have hw : wordsA a n = ([(([99, 97, 108, 108] : List UInt8) : List UInt8), ((dg a.th.toNat) : List UInt8), (opNm.tail.getD (((a.ok : Int) - (1 : Int)).toNat) [] : List UInt8)] ++ [((dg a.key.toNat) : List UInt8)]) := by unfold wordsA; rw [if_pos (by omega), show keyA a = _ from if_pos (by omega), show valA a = _ from if_neg (by omega)]; rfl
      refine ⟨.inr rfl, rfl, (.slice a_46 (3 + 1) cap_47), K.res1 rfl rfl, [l_48], ?_, hS.pick [1, 4]⟩
      exact ⟨_, _, _, rfl, by rw [hw]; rfl, by rw [hw]; exact o_49c⟩
  ·  -- no
    refine K.RW.q rfl rfl (K.QR.nice (v := .bool ((a.k : Int) == (1 : Int))) (by kernel_rfl) (congrArg Value.bool (beq_eq_false_iff_ne.2 h_4))) ?_
    refine K.RW.qs [.bool false] (by kernel_rfl) ?_
    refine K.RW.nil ?_
    refine K.thn_normal ?_
    refine K.KW.ifF rfl ?_
    refine K.KW.seq ?_
    -- 10 :222
    refine K.KW.region ?_
    by_cases h_51 : (a.k : Int) = (2 : Int)
    ·  -- yes
      refine K.RW.q rfl rfl (K.QR.nice (v := .bool ((a.k : Int) == (2 : Int))) (by kernel_rfl) (congrArg Value.bool (beq_iff_eq.2 h_51))) ?_
      refine K.RW.qs [.bool true] (by kernel_rfl) ?_
      refine K.RW.nil ?_
      refine K.thn_normal ?_
      refine K.KW.ifT rfl ?_
      refine K.KW.seq ?_
      -- 11 :223
      refine K.KW.region ?_
      refine K.RW.qs [.pointer (some ⟨r_1, 1, none⟩)] (by kernel_rfl) ?_
      refine K.RW.q rfl rfl (K.QR.ld1 (v := .int .i64 a.th) rfl rfl (by kernel_rfl) ((hS.blk 0 rfl hg_3).cell rfl)) ?_
      refine K.RW.l rfl (K.OW.gcall hS [] [0, 1] [.int .i64 a.th] (sdigitsI_ok _ a.th (by omega) (by omega)) ?_)
      clear hS; rintro _ _ w ⟨rfl, rfl⟩ hS
      replace hS : K.Sat w0 [g_2, fr] w := hS
      refine K.RW.qs [.int .i64 ((n : Nat) : Int)] (by kernel_rfl) ?_
      refine K.RW.l rfl (K.OW.gcall hS [] [0, 1] [.int .i64 ((n : Nat) : Int)] (sdigits_nat _ n (by omega)) ?_)
      clear hS; rintro _ _ w ⟨rfl, rfl⟩ hS
      replace hS : K.Sat w0 [g_2, fr] w := hS
      refine K.RW.l rfl (K.OW.gbs [(0, .string (K.sb [115, 116, 101, 112])), (1, .string (K.sb (dg a.th.toNat))), (2, .string (K.sb (dg n)))] [.string (K.sb [115, 116, 101, 112]), .string (K.sb (dg a.th.toNat)), .string (K.sb (dg n))] hS (fun w => K.bs_run (P := Tryd.prog) w 68 9 3 _ _ Tryd.underlying68 (by kernel_rfl)) ?_)
      clear hS; intro w r_52 g_53 hg_54 hS
      refine K.RW.qs [.slice (some ⟨r_52, 0, none⟩) 3 3] (by kernel_rfl) ?_
      refine K.RW.nil ?_
      refine K.thn_normal ?_
      refine K.KW.ret ?_
      refine K.blk_ret ?_
      refine K.thn_ret ?_
      have hw9 := hr
      unfold rightO at hw9
      have o_55 : K.OwnG g_53 9 1 (some ⟨r_52, 0, none⟩) 3 3 (([([115, 116, 101, 112] : List UInt8), (dg a.th.toNat), (dg n)]).flatMap K.cStr) := K.OwnG.ofPt hg_54 3 (by unfold maxLen; omega) rfl
      have hw : wordsA a n = [([115, 116, 101, 112] : List UInt8), (dg a.th.toNat), (dg n)] := by unfold wordsA; rw [if_neg (by omega), if_pos (by omega)]; rfl
      refine ⟨.inr rfl, rfl, (.slice (some ⟨r_52, 0, none⟩) 3 3), K.res1 rfl rfl, [g_53], ?_, hS.pick [0, 2]⟩
      exact ⟨_, _, _, rfl, by rw [hw]; rfl, by rw [hw]; exact o_55⟩
    ·  -- no
      refine K.RW.q rfl rfl (K.QR.nice (v := .bool ((a.k : Int) == (2 : Int))) (by kernel_rfl) (congrArg Value.bool (beq_eq_false_iff_ne.2 h_51))) ?_
      refine K.RW.qs [.bool false] (by kernel_rfl) ?_
      refine K.RW.nil ?_
      refine K.thn_normal ?_
      refine K.KW.ifF rfl ?_
      refine K.KW.seq ?_
      -- 12 :224
      refine K.KW.region ?_
      by_cases h_56 : (a.k : Int) = (3 : Int)
      ·  -- yes
        refine K.RW.q rfl rfl (K.QR.nice (v := .bool ((a.k : Int) == (3 : Int))) (by kernel_rfl) (congrArg Value.bool (beq_iff_eq.2 h_56))) ?_
        refine K.RW.qs [.bool true] (by kernel_rfl) ?_
        refine K.RW.nil ?_
        refine K.thn_normal ?_
        refine K.KW.ifT rfl ?_
        refine K.KW.seq ?_
        -- 13 :225
        refine K.KW.region ?_
        refine K.RW.qs [.pointer (some ⟨r_1, 2, none⟩)] (by kernel_rfl) ?_
        refine K.RW.q rfl rfl (K.QR.ld1 (v := .int .i64 a.ln) rfl rfl (by kernel_rfl) ((hS.blk 0 rfl hg_3).cell rfl)) ?_
        refine K.RW.l rfl (K.OW.gcall hS [] [0, 1] [.int .i64 a.ln] (sdigitsI_ok _ a.ln (by omega) (by omega)) ?_)
        clear hS; rintro _ _ w ⟨rfl, rfl⟩ hS
        replace hS : K.Sat w0 [g_2, fr] w := hS
        refine K.RW.l rfl (K.OW.gbs [(0, .string (K.sb [101, 118, 105, 99, 116])), (1, .string (K.sb (dg a.ln.toNat)))] [.string (K.sb [101, 118, 105, 99, 116]), .string (K.sb (dg a.ln.toNat))] hS (fun w => K.bs_run (P := Tryd.prog) w 68 9 2 _ _ Tryd.underlying68 (by kernel_rfl)) ?_)
        clear hS; intro w r_57 g_58 hg_59 hS
        refine K.RW.qs [.slice (some ⟨r_57, 0, none⟩) 2 2] (by kernel_rfl) ?_
        refine K.RW.nil ?_
        refine K.thn_normal ?_
        refine K.KW.ret ?_
        refine K.blk_ret ?_
        refine K.thn_ret ?_
        have hw9 := hr
        unfold rightO at hw9
        have o_60 : K.OwnG g_58 9 1 (some ⟨r_57, 0, none⟩) 2 2 (([([101, 118, 105, 99, 116] : List UInt8), (dg a.ln.toNat)]).flatMap K.cStr) := K.OwnG.ofPt hg_59 2 (by unfold maxLen; omega) rfl
        have hw : wordsA a n = [([101, 118, 105, 99, 116] : List UInt8), (dg a.ln.toNat)] := by unfold wordsA; rw [if_neg (by omega), if_neg (by omega), if_pos (by omega)]; rfl
        refine ⟨.inr rfl, rfl, (.slice (some ⟨r_57, 0, none⟩) 2 2), K.res1 rfl rfl, [g_58], ?_, hS.pick [0, 2]⟩
        exact ⟨_, _, _, rfl, by rw [hw]; rfl, by rw [hw]; exact o_60⟩
      ·  -- no
        refine K.RW.q rfl rfl (K.QR.nice (v := .bool ((a.k : Int) == (3 : Int))) (by kernel_rfl) (congrArg Value.bool (beq_eq_false_iff_ne.2 h_56))) ?_
        refine K.RW.qs [.bool false] (by kernel_rfl) ?_
        refine K.RW.nil ?_
        refine K.thn_normal ?_
        refine K.KW.ifF rfl ?_
        refine K.KW.seq ?_
        -- 14 :226
        refine K.KW.region ?_
        by_cases h_61 : (a.k : Int) = (5 : Int)
        ·  -- yes
          refine K.RW.q rfl rfl (K.QR.nice (v := .bool ((a.k : Int) == (5 : Int))) (by kernel_rfl) (congrArg Value.bool (beq_iff_eq.2 h_61))) ?_
          refine K.RW.qs [.bool true] (by kernel_rfl) ?_
          refine K.RW.nil ?_
          refine K.thn_normal ?_
          refine K.KW.ifT rfl ?_
          refine K.KW.seq ?_
          -- 15 :227
          refine K.KW.region ?_
          refine K.RW.qs [.int .i64 ((n : Nat) : Int)] (by kernel_rfl) ?_
          refine K.RW.l rfl (K.OW.gcall hS [] [0, 1] [.int .i64 ((n : Nat) : Int)] (sdigits_nat _ n (by omega)) ?_)
          clear hS; rintro _ _ w ⟨rfl, rfl⟩ hS
          replace hS : K.Sat w0 [g_2, fr] w := hS
          refine K.RW.l rfl (K.OW.gbs [(0, .string (K.sb [114, 101, 118, 105, 118, 101])), (1, .string (K.sb (dg n)))] [.string (K.sb [114, 101, 118, 105, 118, 101]), .string (K.sb (dg n))] hS (fun w => K.bs_run (P := Tryd.prog) w 68 9 2 _ _ Tryd.underlying68 (by kernel_rfl)) ?_)
          clear hS; intro w r_62 g_63 hg_64 hS
          refine K.RW.qs [.slice (some ⟨r_62, 0, none⟩) 2 2] (by kernel_rfl) ?_
          refine K.RW.nil ?_
          refine K.thn_normal ?_
          refine K.KW.ret ?_
          refine K.blk_ret ?_
          refine K.thn_ret ?_
          have hw9 := hr
          unfold rightO at hw9
          have o_65 : K.OwnG g_63 9 1 (some ⟨r_62, 0, none⟩) 2 2 (([([114, 101, 118, 105, 118, 101] : List UInt8), (dg n)]).flatMap K.cStr) := K.OwnG.ofPt hg_64 2 (by unfold maxLen; omega) rfl
          have hw : wordsA a n = [([114, 101, 118, 105, 118, 101] : List UInt8), (dg n)] := by unfold wordsA; rw [if_neg (by omega), if_neg (by omega), if_neg (by omega), if_pos (by omega)]; rfl
          refine ⟨.inr rfl, rfl, (.slice (some ⟨r_62, 0, none⟩) 2 2), K.res1 rfl rfl, [g_63], ?_, hS.pick [0, 2]⟩
          exact ⟨_, _, _, rfl, by rw [hw]; rfl, by rw [hw]; exact o_65⟩
        ·  -- no
          refine K.RW.q rfl rfl (K.QR.nice (v := .bool ((a.k : Int) == (5 : Int))) (by kernel_rfl) (congrArg Value.bool (beq_eq_false_iff_ne.2 h_61))) ?_
          refine K.RW.qs [.bool false] (by kernel_rfl) ?_
          refine K.RW.nil ?_
          refine K.thn_normal ?_
          refine K.KW.ifF rfl ?_
          refine K.KW.skip ?_
          refine K.blk_normal ?_
          refine K.thn_normal ?_
          refine K.KW.seq ?_
          -- 16 :229
          refine K.KW.region ?_
          refine K.RW.l rfl (K.OW.gbs [(0, .string (K.sb [99, 114, 97, 115, 104]))] [.string (K.sb [99, 114, 97, 115, 104])] hS (fun w => K.bs_run (P := Tryd.prog) w 68 9 1 _ _ Tryd.underlying68 (by kernel_rfl)) ?_)
          clear hS; intro w r_66 g_67 hg_68 hS
          refine K.RW.qs [.slice (some ⟨r_66, 0, none⟩) 1 1] (by kernel_rfl) ?_
          refine K.RW.nil ?_
          refine K.thn_normal ?_
          refine K.KW.ret ?_
          have hw9 := hr
          unfold rightO at hw9
          have o_69 : K.OwnG g_67 9 1 (some ⟨r_66, 0, none⟩) 1 1 (([([99, 114, 97, 115, 104] : List UInt8)]).flatMap K.cStr) := K.OwnG.ofPt hg_68 1 (by unfold maxLen; omega) rfl
          have hw : wordsA a n = [([99, 114, 97, 115, 104] : List UInt8)] := by unfold wordsA; rw [if_neg (by omega), if_neg (by omega), if_neg (by omega), if_neg (by omega)]; rfl
          refine ⟨.inr rfl, rfl, (.slice (some ⟨r_66, 0, none⟩) 1 1), K.res1 rfl rfl, [g_67], ?_, hS.pick [0, 2]⟩
          exact ⟨_, _, _, rfl, by rw [hw]; rfl, by rw [hw]; exact o_69⟩
set_option maxHeartbeats 4000000 in
set_option maxRecDepth 100000 in
theorem alike_ok (w0 : World) (a : Option Addr) (cap : Nat) (L : List ActM) (h0 : 0 < L.length) (hm : L.length ≤ 1000000) (gx : K.Cs) (hx : ∀ w, K.Sat w0 [gx] w → K.RowE w a L.length 6 (fun i => cAct (L.getD i act0))) :
    K.GC Tryd.prog w0 68 #[.slice a L.length cap] [gx] (fun v post => post = [gx] ∧ v = .int .i64 ((alk L : Nat) : Int)) := by
  refine K.GC.mk (n := 37) Tryd.func68 rfl rfl [.slice a L.length cap] rfl rfl ?_
  intro fr w hS
  replace hS : K.Sat w0 [gx, fr] w := hS
  refine K.KW.seq ?_
  -- 0 :233
  refine K.KW.region ?_
  refine K.RW.qs [.int .i64 0] (by kernel_rfl) ?_
  refine K.RW.nil ?_
  refine K.thn_normal ?_
  refine K.KW.seq ?_
  refine K.KW.seq ?_
  -- 1 :234
  obtain ⟨b_1, of_2, rfl, _⟩ := (hx _ (hS.pick [0])).at_ (by omega)
  refine K.KW.region ?_
  refine K.RW.qs [.slice (some ⟨b_1, of_2, none⟩) L.length cap] (by kernel_rfl) ?_
  refine K.RW.q rfl rfl (K.QR.ix (of_2 + 0 * 6) 6 rfl rfl rfl Tryd.underlying54 (by kernel_rfl) (by omega) (by first | (simp; done) | omega | (simp; omega))) ?_
  refine K.RW.qs [.pointer (some ⟨b_1, of_2 + 0 * 6, none⟩)] (by kernel_rfl) ?_
  refine K.RW.q rfl rfl (K.QR.ld1 (v := .int .i64 ((L.getD 0 act0).k)) rfl rfl (by kernel_rfl) ((hx _ (hS.pick [0])).ld 0 (by omega) 0 _ rfl)) ?_
  by_cases h_3 : ((L.getD 0 act0).k : Int) = (2 : Int)
  ·  -- yes
    refine K.RW.q rfl rfl (K.QR.nice (v := .bool (((L.getD 0 act0).k : Int) != (2 : Int))) (by kernel_rfl) (congrArg Value.bool (bne_eq_false_iff_eq.2 h_3))) ?_
    refine K.RW.qs [.bool false] (by kernel_rfl) ?_
    refine K.RW.skip rfl (by kernel_rfl) ?_
    refine K.RW.skip rfl (by kernel_rfl) ?_
    refine K.RW.skip rfl (by kernel_rfl) ?_
    refine K.RW.skip rfl (by kernel_rfl) ?_
    refine K.RW.skip rfl (by kernel_rfl) ?_
    refine K.RW.qs [.bool false] (by kernel_rfl) ?_
    refine K.RW.nil ?_
    refine K.thn_normal ?_
    refine K.KW.ifF rfl ?_
    refine K.KW.skip ?_
    refine K.thn_normal ?_
    refine K.KW.seq ?_
    -- 3 :237
    refine K.KW.region ?_
    refine K.RW.qs [.int .i64 1] (by kernel_rfl) ?_
    refine K.RW.nil ?_
    refine K.thn_normal ?_
    refine K.KW.seq ?_
    refine K.KW.block ?_
    refine K.KW.loop (fun m_ F_ w_ => ∃ (n : Nat), m_ = L.length - n ∧ K.Sl F_ [(0, .slice (some ⟨b_1, of_2, none⟩) L.length cap), (2, .int .i64 0), (3, .int .i64 ((n : Nat) : Int)), (37, undef)] ∧ (1 ≤ n ∧ n ≤ L.length ∧ n ≤ 10000) ∧ (∀ q, q < n → L.getD q act0 = L.getD 0 act0) ∧ K.Sat w0 [gx, fr] w_) ((fun (n : Nat) => L.length - n) 1) ?_ ?_
    · -- begins
      exact ⟨1, rfl, ⟨by rfl, by rfl, by rfl, by rfl, trivial⟩, (by omega), (fun q hq => by rw [show q = 0 by omega]), hS.pick [0, 1]⟩
    · -- a round
      clear hS
      intro m_4 F_5 w hI
      obtain ⟨n, rfl, sl_6, p_7, hsm, hS⟩ := hI
      rw [← K.Sl.puts sl_6]; clear sl_6
      refine K.KW.seq ?_
      refine K.KW.seq ?_
      -- 4 :238
      refine K.KW.gdrawn [0] hS (by kernel_rfl) ?_
      clear hS; intro w hS
      refine K.DW.q 0 (by kernel_rfl) rfl rfl (by kernel_rfl) rfl (fun w hS => K.QR.k (v := .int .i64 ((n : Nat) : Int)) (by kernel_rfl)) (hS.pick [0]) ?_
      refine K.DW.l 1 rfl (by kernel_rfl) rfl (K.OW.q rfl (K.QR.k (v := .slice (some ⟨b_1, of_2, none⟩) L.length cap) (by kernel_rfl)) ?_)
      refine ⟨.inl (hS.pick [0]), ?_⟩
      refine K.DW.l 2 rfl (by kernel_rfl) rfl (K.OW.q rfl (K.QR.len (P := Tryd.prog) rfl rfl Tryd.underlying54) ?_)
      refine ⟨.inl (hS.pick [0]), ?_⟩
      by_cases h_8 : (((n : Nat) : Int) : Int) < (((L.length : Nat) : Int) : Int)
      ·  -- yes
        refine K.DW.l 3 rfl (by kernel_rfl) rfl (K.OW.q rfl (K.QR.nice (v := .bool (decide ((((n : Nat) : Int) : Int) < (((L.length : Nat) : Int) : Int)))) (by kernel_rfl) (congrArg Value.bool (decide_eq_true h_8))) ?_)
        refine ⟨.inl (hS.pick [0]), ?_⟩
        refine K.DW.l 4 rfl (by kernel_rfl) rfl (K.OW.q rfl (K.QR.k (v := .bool true) (by kernel_rfl)) ?_)
        refine ⟨.inl (hS.pick [0]), ?_⟩
        refine K.DW.l 5 rfl (by kernel_rfl) (by kernel_rfl) (K.OW.q rfl (K.QR.k (v := .int .i64 ((n : Nat) : Int)) (by kernel_rfl)) ?_)
        refine ⟨.inl (hS.pick [0]), ?_⟩
        by_cases h_9 : (((n : Nat) : Int) : Int) < (10000 : Int)
        ·  -- yes
          refine K.DW.l 6 rfl (by kernel_rfl) (by kernel_rfl) (K.OW.q rfl (K.QR.nice (v := .bool (decide ((((n : Nat) : Int) : Int) < (10000 : Int)))) (by kernel_rfl) (congrArg Value.bool (decide_eq_true h_9))) ?_)
          refine ⟨.inl (hS.pick [0]), ?_⟩
          refine K.DW.l 7 rfl (by kernel_rfl) rfl (K.OW.q rfl (K.QR.k (v := .bool true) (by kernel_rfl)) ?_)
          refine ⟨.inl (hS.pick [0]), ?_⟩
          refine K.DW.l 8 rfl (by kernel_rfl) rfl (K.OW.q rfl (K.QR.k (v := .bool true) (by kernel_rfl)) ?_)
          refine ⟨.inl (hS.pick [0]), ?_⟩
          refine K.DW.q 9 (by kernel_rfl) rfl rfl (by kernel_rfl) (by kernel_rfl) (fun w hS => K.QR.k (v := .slice (some ⟨b_1, of_2, none⟩) L.length cap) (by kernel_rfl)) (hS.pick [0]) ?_
          refine K.DW.q 10 (by kernel_rfl) rfl rfl (by kernel_rfl) (by kernel_rfl) (fun w hS => K.QR.k (v := .int .i64 ((n : Nat) : Int)) (by kernel_rfl)) (hS.pick [0]) ?_
          refine K.DW.q 11 (by kernel_rfl) rfl rfl (by kernel_rfl) (by kernel_rfl) (fun w hS => K.QR.ix (of_2 + n * 6) 6 rfl rfl rfl Tryd.underlying54 (by kernel_rfl) (by omega) (by first | (simp; done) | omega | (simp; omega))) (hS.pick [0]) ?_
          refine K.DW.q 12 (by kernel_rfl) rfl rfl (by kernel_rfl) (by kernel_rfl) (fun w hS => K.QR.ldN [.int .i64 ((L.getD n act0).k), .int .i64 ((L.getD n act0).th), .int .i64 ((L.getD n act0).ln), .int .i64 ((L.getD n act0).ok), .int .u32 ((L.getD n act0).key), .int .u32 ((L.getD n act0).val)] rfl rfl (by kernel_rfl) (by kernel_rfl) (K.cells (K.cl ((hx _ (hS.pick [0])).ld n (by omega) 0 _ rfl) (K.cl ((hx _ (hS.pick [0])).ld n (by omega) 1 _ rfl) (K.cl ((hx _ (hS.pick [0])).ld n (by omega) 2 _ rfl) (K.cl ((hx _ (hS.pick [0])).ld n (by omega) 3 _ rfl) (K.cl ((hx _ (hS.pick [0])).ld n (by omega) 4 _ rfl) (K.cl ((hx _ (hS.pick [0])).ld n (by omega) 5 _ rfl) K.cl0)))))))) (hS.pick [0]) ?_
          refine K.DW.l 13 rfl (by kernel_rfl) (by kernel_rfl) (K.OW.q rfl (K.QR.k (v := .slice (some ⟨b_1, of_2, none⟩) L.length cap) (by kernel_rfl)) ?_)
          refine ⟨.inl (hS.pick [0]), ?_⟩
          refine K.DW.l 14 rfl (by kernel_rfl) (by kernel_rfl) (K.OW.q rfl (K.QR.ix (of_2 + 0 * 6) 6 rfl rfl rfl Tryd.underlying54 (by kernel_rfl) (by omega) (by first | (simp; done) | omega | (simp; omega))) ?_)
          refine ⟨.inl (hS.pick [0]), ?_⟩
          refine K.DW.l 15 rfl (by kernel_rfl) (by kernel_rfl) (K.OW.q rfl (K.QR.ldN [.int .i64 ((L.getD 0 act0).k), .int .i64 ((L.getD 0 act0).th), .int .i64 ((L.getD 0 act0).ln), .int .i64 ((L.getD 0 act0).ok), .int .u32 ((L.getD 0 act0).key), .int .u32 ((L.getD 0 act0).val)] rfl rfl (by kernel_rfl) (by kernel_rfl) (K.cells (K.cl ((hx _ (hS.pick [0])).ld 0 (by omega) 0 _ rfl) (K.cl ((hx _ (hS.pick [0])).ld 0 (by omega) 1 _ rfl) (K.cl ((hx _ (hS.pick [0])).ld 0 (by omega) 2 _ rfl) (K.cl ((hx _ (hS.pick [0])).ld 0 (by omega) 3 _ rfl) (K.cl ((hx _ (hS.pick [0])).ld 0 (by omega) 4 _ rfl) (K.cl ((hx _ (hS.pick [0])).ld 0 (by omega) 5 _ rfl) K.cl0)))))))) ?_)
          refine ⟨.inl (hS.pick [0]), ?_⟩
          by_cases h_10 : ((L.getD n act0).k : Int) = (L.getD 0 act0).k ∧ ((L.getD n act0).th : Int) = (L.getD 0 act0).th ∧ ((L.getD n act0).ln : Int) = (L.getD 0 act0).ln ∧ ((L.getD n act0).ok : Int) = (L.getD 0 act0).ok ∧ ((L.getD n act0).key : Int) = (L.getD 0 act0).key ∧ ((L.getD n act0).val : Int) = (L.getD 0 act0).val
          ·  -- yes
            refine K.DW.l 16 rfl (by kernel_rfl) (by kernel_rfl) (K.OW.q rfl (K.QR.eqS (by kernel_rfl) rfl rfl rfl (eqAct_t h_10)) ?_)
            refine ⟨.inl (hS.pick [0]), ?_⟩
            refine K.DW.l 17 rfl (by kernel_rfl) rfl (K.OW.q rfl (K.QR.k (v := .bool true) (by kernel_rfl)) ?_)
            refine ⟨.inl (hS.pick [0]), ?_⟩
            refine K.DW.done (by kernel_rfl) ?_
            refine K.thn_normal ?_
            refine K.KW.ifT rfl ?_
            refine K.KW.skip ?_
            refine K.thn_normal ?_
            refine K.KW.block ?_
            -- 5 :239
            refine K.KW.region ?_
            refine K.RW.qs [.int .i64 ((n : Nat) : Int)] (by kernel_rfl) ?_
            refine K.RW.q rfl rfl (K.QR.n64 ((((n : Nat) : Int) : Int) + (1 : Int)) ((n + 1 : Nat) : Int) (by kernel_rfl) (by omega)) ?_
            refine K.RW.qs [.int .i64 ((n + 1 : Nat) : Int)] (by kernel_rfl) ?_
            refine K.RW.nil ?_
            refine K.blk_normal ?_
            refine K.thn_normal ?_
            refine ⟨_, ?_, n + 1, rfl, ⟨by rfl, by rfl, by rfl, by rfl, trivial⟩, (by omega), (K.all_snoc hsm (act_eq.1 (by assumption))), hS.pick [0, 1]⟩
            omega
          ·  -- no
            refine K.DW.l 16 rfl (by kernel_rfl) (by kernel_rfl) (K.OW.q rfl (K.QR.eqS (by kernel_rfl) rfl rfl rfl (eqAct_f h_10)) ?_)
            refine ⟨.inl (hS.pick [0]), ?_⟩
            refine K.DW.l 17 rfl (by kernel_rfl) rfl (K.OW.q rfl (K.QR.k (v := .bool false) (by kernel_rfl)) ?_)
            refine ⟨.inl (hS.pick [0]), ?_⟩
            refine K.DW.done (by kernel_rfl) ?_
            refine K.thn_normal ?_
            refine K.KW.ifF rfl ?_
            refine K.KW.exit ?_
            refine K.thn_exit ?_
            refine K.thn_exit ?_
            refine K.blk_hit ?_
            refine K.thn_normal ?_
            refine K.KW.seq ?_
            -- 6 :241
            refine K.KW.region ?_
            refine K.RW.qs [.int .i64 ((n : Nat) : Int), .int .i64 ((n : Nat) : Int)] (by kernel_rfl) ?_
            refine K.RW.nil ?_
            refine K.thn_normal ?_
            refine K.KW.ret ?_
            refine ⟨.inr rfl, rfl, (.int .i64 ((n : Nat) : Int)), K.res1 rfl rfl, [gx], ?_, hS.pick [0, 1]⟩
            exact ⟨rfl, by rw [← alk_uniq (L := L) (n := n) ⟨by omega, by omega, by omega, hsm, .inl (by unfold kind25; omega), .inr (.inr (.inr (fun e => h_10 (act_eq.2 e))))⟩]⟩
        ·  -- no
          refine K.DW.l 6 rfl (by kernel_rfl) (by kernel_rfl) (K.OW.q rfl (K.QR.nice (v := .bool (decide ((((n : Nat) : Int) : Int) < (10000 : Int)))) (by kernel_rfl) (congrArg Value.bool (decide_eq_false h_9))) ?_)
          refine ⟨.inl (hS.pick [0]), ?_⟩
          refine K.DW.l 7 rfl (by kernel_rfl) rfl (K.OW.q rfl (K.QR.k (v := .bool false) (by kernel_rfl)) ?_)
          refine ⟨.inl (hS.pick [0]), ?_⟩
          refine K.DW.l 8 rfl (by kernel_rfl) rfl (K.OW.q rfl (K.QR.k (v := .bool false) (by kernel_rfl)) ?_)
          refine ⟨.inl (hS.pick [0]), ?_⟩
          refine K.DW.skip 9 (by kernel_rfl) rfl rfl (by kernel_rfl) (by kernel_rfl) (hS.pick [0]) ?_
          refine K.DW.skip 10 (by kernel_rfl) rfl rfl (by kernel_rfl) (by kernel_rfl) (hS.pick [0]) ?_
          refine K.DW.skip 11 (by kernel_rfl) rfl rfl (by kernel_rfl) (by kernel_rfl) (hS.pick [0]) ?_
          refine K.DW.skip 12 (by kernel_rfl) rfl rfl (by kernel_rfl) (by kernel_rfl) (hS.pick [0]) ?_
          refine K.DW.skip 13 (by kernel_rfl) rfl rfl (by kernel_rfl) (by kernel_rfl) (hS.pick [0]) ?_
          refine K.DW.skip 14 (by kernel_rfl) rfl rfl (by kernel_rfl) (by kernel_rfl) (hS.pick [0]) ?_
          refine K.DW.skip 15 (by kernel_rfl) rfl rfl (by kernel_rfl) (by kernel_rfl) (hS.pick [0]) ?_
          refine K.DW.skip 16 (by kernel_rfl) rfl rfl (by kernel_rfl) (by kernel_rfl) (hS.pick [0]) ?_
          refine K.DW.l 17 rfl (by kernel_rfl) rfl (K.OW.q rfl (K.QR.k (v := .bool false) (by kernel_rfl)) ?_)
          refine ⟨.inl (hS.pick [0]), ?_⟩
          refine K.DW.done (by kernel_rfl) ?_
          refine K.thn_normal ?_
          refine K.KW.ifF rfl ?_
          refine K.KW.exit ?_
          refine K.thn_exit ?_
          refine K.thn_exit ?_
          refine K.blk_hit ?_
          refine K.thn_normal ?_
          refine K.KW.seq ?_
          -- 6 :241
          refine K.KW.region ?_
          refine K.RW.qs [.int .i64 ((n : Nat) : Int), .int .i64 ((n : Nat) : Int)] (by kernel_rfl) ?_
          refine K.RW.nil ?_
          refine K.thn_normal ?_
          refine K.KW.ret ?_
          refine ⟨.inr rfl, rfl, (.int .i64 ((n : Nat) : Int)), K.res1 rfl rfl, [gx], ?_, hS.pick [0, 1]⟩
          exact ⟨rfl, by rw [← alk_uniq (L := L) (n := n) ⟨by omega, by omega, by omega, hsm, .inl (by unfold kind25; omega), .inr (by omega)⟩]⟩
      ·  -- no
        refine K.DW.l 3 rfl (by kernel_rfl) rfl (K.OW.q rfl (K.QR.nice (v := .bool (decide ((((n : Nat) : Int) : Int) < (((L.length : Nat) : Int) : Int)))) (by kernel_rfl) (congrArg Value.bool (decide_eq_false h_8))) ?_)
        refine ⟨.inl (hS.pick [0]), ?_⟩
        refine K.DW.l 4 rfl (by kernel_rfl) rfl (K.OW.q rfl (K.QR.k (v := .bool false) (by kernel_rfl)) ?_)
        refine ⟨.inl (hS.pick [0]), ?_⟩
        refine K.DW.skip 5 (by kernel_rfl) rfl rfl (by kernel_rfl) (by kernel_rfl) (hS.pick [0]) ?_
        refine K.DW.skip 6 (by kernel_rfl) rfl rfl (by kernel_rfl) (by kernel_rfl) (hS.pick [0]) ?_
        refine K.DW.l 7 rfl (by kernel_rfl) rfl (K.OW.q rfl (K.QR.k (v := .bool false) (by kernel_rfl)) ?_)
        refine ⟨.inl (hS.pick [0]), ?_⟩
        refine K.DW.l 8 rfl (by kernel_rfl) rfl (K.OW.q rfl (K.QR.k (v := .bool false) (by kernel_rfl)) ?_)
        refine ⟨.inl (hS.pick [0]), ?_⟩
        refine K.DW.skip 9 (by kernel_rfl) rfl rfl (by kernel_rfl) (by kernel_rfl) (hS.pick [0]) ?_
        refine K.DW.skip 10 (by kernel_rfl) rfl rfl (by kernel_rfl) (by kernel_rfl) (hS.pick [0]) ?_
        refine K.DW.skip 11 (by kernel_rfl) rfl rfl (by kernel_rfl) (by kernel_rfl) (hS.pick [0]) ?_
        refine K.DW.skip 12 (by kernel_rfl) rfl rfl (by kernel_rfl) (by kernel_rfl) (hS.pick [0]) ?_
        refine K.DW.skip 13 (by kernel_rfl) rfl rfl (by kernel_rfl) (by kernel_rfl) (hS.pick [0]) ?_
        refine K.DW.skip 14 (by kernel_rfl) rfl rfl (by kernel_rfl) (by kernel_rfl) (hS.pick [0]) ?_
        refine K.DW.skip 15 (by kernel_rfl) rfl rfl (by kernel_rfl) (by kernel_rfl) (hS.pick [0]) ?_
        refine K.DW.skip 16 (by kernel_rfl) rfl rfl (by kernel_rfl) (by kernel_rfl) (hS.pick [0]) ?_
        refine K.DW.l 17 rfl (by kernel_rfl) rfl (K.OW.q rfl (K.QR.k (v := .bool false) (by kernel_rfl)) ?_)
        refine ⟨.inl (hS.pick [0]), ?_⟩
        refine K.DW.done (by kernel_rfl) ?_
        refine K.thn_normal ?_
        refine K.KW.ifF rfl ?_
        refine K.KW.exit ?_
        refine K.thn_exit ?_
        refine K.thn_exit ?_
        refine K.blk_hit ?_
        refine K.thn_normal ?_
        refine K.KW.seq ?_
        -- 6 :241
        refine K.KW.region ?_
        refine K.RW.qs [.int .i64 ((n : Nat) : Int), .int .i64 ((n : Nat) : Int)] (by kernel_rfl) ?_
        refine K.RW.nil ?_
        refine K.thn_normal ?_
        refine K.KW.ret ?_
        refine ⟨.inr rfl, rfl, (.int .i64 ((n : Nat) : Int)), K.res1 rfl rfl, [gx], ?_, hS.pick [0, 1]⟩
        exact ⟨rfl, by rw [← alk_uniq (L := L) (n := n) ⟨by omega, by omega, by omega, hsm, .inl (by unfold kind25; omega), .inr (by omega)⟩]⟩
  ·  -- no
    refine K.RW.q rfl rfl (K.QR.nice (v := .bool (((L.getD 0 act0).k : Int) != (2 : Int))) (by kernel_rfl) (congrArg Value.bool (bne_iff_ne.2 h_3))) ?_
    refine K.RW.qs [.bool true, .slice (some ⟨b_1, of_2, none⟩) L.length cap] (by kernel_rfl) ?_
    refine K.RW.q rfl (by kernel_rfl) (K.QR.ix (of_2 + 0 * 6) 6 rfl rfl rfl Tryd.underlying54 (by kernel_rfl) (by omega) (by first | (simp; done) | omega | (simp; omega))) ?_
    refine K.RW.qs [.pointer (some ⟨b_1, of_2 + 0 * 6, none⟩)] (by kernel_rfl) ?_
    refine K.RW.q rfl (by kernel_rfl) (K.QR.ld1 (v := .int .i64 ((L.getD 0 act0).k)) rfl rfl (by kernel_rfl) ((hx _ (hS.pick [0])).ld 0 (by omega) 0 _ rfl)) ?_
    by_cases h_11 : ((L.getD 0 act0).k : Int) = (5 : Int)
    ·  -- yes
      refine K.RW.q rfl (by kernel_rfl) (K.QR.nice (v := .bool (((L.getD 0 act0).k : Int) != (5 : Int))) (by kernel_rfl) (congrArg Value.bool (bne_eq_false_iff_eq.2 h_11))) ?_
      refine K.RW.qs [.bool false] (by kernel_rfl) ?_
      refine K.RW.nil ?_
      refine K.thn_normal ?_
      refine K.KW.ifF rfl ?_
      refine K.KW.skip ?_
      refine K.thn_normal ?_
      refine K.KW.seq ?_
      -- 3 :237
      refine K.KW.region ?_
      refine K.RW.qs [.int .i64 1] (by kernel_rfl) ?_
      refine K.RW.nil ?_
      refine K.thn_normal ?_
      refine K.KW.seq ?_
      refine K.KW.block ?_
      refine K.KW.loop (fun m_ F_ w_ => ∃ (n : Nat), m_ = L.length - n ∧ K.Sl F_ [(0, .slice (some ⟨b_1, of_2, none⟩) L.length cap), (2, .int .i64 0), (3, .int .i64 ((n : Nat) : Int)), (37, undef)] ∧ (1 ≤ n ∧ n ≤ L.length ∧ n ≤ 10000) ∧ (∀ q, q < n → L.getD q act0 = L.getD 0 act0) ∧ K.Sat w0 [gx, fr] w_) ((fun (n : Nat) => L.length - n) 1) ?_ ?_
      · -- begins
        exact ⟨1, rfl, ⟨by rfl, by rfl, by rfl, by rfl, trivial⟩, (by omega), (fun q hq => by rw [show q = 0 by omega]), hS.pick [0, 1]⟩
      · -- a round
        clear hS
        intro m_12 F_13 w hI
        obtain ⟨n, rfl, sl_14, p_15, hsm, hS⟩ := hI
        rw [← K.Sl.puts sl_14]; clear sl_14
        refine K.KW.seq ?_
        refine K.KW.seq ?_
        -- 4 :238
        refine K.KW.gdrawn [0] hS (by kernel_rfl) ?_
        clear hS; intro w hS
        refine K.DW.q 0 (by kernel_rfl) rfl rfl (by kernel_rfl) rfl (fun w hS => K.QR.k (v := .int .i64 ((n : Nat) : Int)) (by kernel_rfl)) (hS.pick [0]) ?_
        refine K.DW.l 1 rfl (by kernel_rfl) rfl (K.OW.q rfl (K.QR.k (v := .slice (some ⟨b_1, of_2, none⟩) L.length cap) (by kernel_rfl)) ?_)
        refine ⟨.inl (hS.pick [0]), ?_⟩
        refine K.DW.l 2 rfl (by kernel_rfl) rfl (K.OW.q rfl (K.QR.len (P := Tryd.prog) rfl rfl Tryd.underlying54) ?_)
        refine ⟨.inl (hS.pick [0]), ?_⟩
        by_cases h_16 : (((n : Nat) : Int) : Int) < (((L.length : Nat) : Int) : Int)
        ·  -- yes
          refine K.DW.l 3 rfl (by kernel_rfl) rfl (K.OW.q rfl (K.QR.nice (v := .bool (decide ((((n : Nat) : Int) : Int) < (((L.length : Nat) : Int) : Int)))) (by kernel_rfl) (congrArg Value.bool (decide_eq_true h_16))) ?_)
          refine ⟨.inl (hS.pick [0]), ?_⟩
          refine K.DW.l 4 rfl (by kernel_rfl) rfl (K.OW.q rfl (K.QR.k (v := .bool true) (by kernel_rfl)) ?_)
          refine ⟨.inl (hS.pick [0]), ?_⟩
          refine K.DW.l 5 rfl (by kernel_rfl) (by kernel_rfl) (K.OW.q rfl (K.QR.k (v := .int .i64 ((n : Nat) : Int)) (by kernel_rfl)) ?_)
          refine ⟨.inl (hS.pick [0]), ?_⟩
          by_cases h_17 : (((n : Nat) : Int) : Int) < (10000 : Int)
          ·  -- yes
            refine K.DW.l 6 rfl (by kernel_rfl) (by kernel_rfl) (K.OW.q rfl (K.QR.nice (v := .bool (decide ((((n : Nat) : Int) : Int) < (10000 : Int)))) (by kernel_rfl) (congrArg Value.bool (decide_eq_true h_17))) ?_)
            refine ⟨.inl (hS.pick [0]), ?_⟩
            refine K.DW.l 7 rfl (by kernel_rfl) rfl (K.OW.q rfl (K.QR.k (v := .bool true) (by kernel_rfl)) ?_)
            refine ⟨.inl (hS.pick [0]), ?_⟩
            refine K.DW.l 8 rfl (by kernel_rfl) rfl (K.OW.q rfl (K.QR.k (v := .bool true) (by kernel_rfl)) ?_)
            refine ⟨.inl (hS.pick [0]), ?_⟩
            refine K.DW.q 9 (by kernel_rfl) rfl rfl (by kernel_rfl) (by kernel_rfl) (fun w hS => K.QR.k (v := .slice (some ⟨b_1, of_2, none⟩) L.length cap) (by kernel_rfl)) (hS.pick [0]) ?_
            refine K.DW.q 10 (by kernel_rfl) rfl rfl (by kernel_rfl) (by kernel_rfl) (fun w hS => K.QR.k (v := .int .i64 ((n : Nat) : Int)) (by kernel_rfl)) (hS.pick [0]) ?_
            refine K.DW.q 11 (by kernel_rfl) rfl rfl (by kernel_rfl) (by kernel_rfl) (fun w hS => K.QR.ix (of_2 + n * 6) 6 rfl rfl rfl Tryd.underlying54 (by kernel_rfl) (by omega) (by first | (simp; done) | omega | (simp; omega))) (hS.pick [0]) ?_
            refine K.DW.q 12 (by kernel_rfl) rfl rfl (by kernel_rfl) (by kernel_rfl) (fun w hS => K.QR.ldN [.int .i64 ((L.getD n act0).k), .int .i64 ((L.getD n act0).th), .int .i64 ((L.getD n act0).ln), .int .i64 ((L.getD n act0).ok), .int .u32 ((L.getD n act0).key), .int .u32 ((L.getD n act0).val)] rfl rfl (by kernel_rfl) (by kernel_rfl) (K.cells (K.cl ((hx _ (hS.pick [0])).ld n (by omega) 0 _ rfl) (K.cl ((hx _ (hS.pick [0])).ld n (by omega) 1 _ rfl) (K.cl ((hx _ (hS.pick [0])).ld n (by omega) 2 _ rfl) (K.cl ((hx _ (hS.pick [0])).ld n (by omega) 3 _ rfl) (K.cl ((hx _ (hS.pick [0])).ld n (by omega) 4 _ rfl) (K.cl ((hx _ (hS.pick [0])).ld n (by omega) 5 _ rfl) K.cl0)))))))) (hS.pick [0]) ?_
            refine K.DW.l 13 rfl (by kernel_rfl) (by kernel_rfl) (K.OW.q rfl (K.QR.k (v := .slice (some ⟨b_1, of_2, none⟩) L.length cap) (by kernel_rfl)) ?_)
            refine ⟨.inl (hS.pick [0]), ?_⟩
            refine K.DW.l 14 rfl (by kernel_rfl) (by kernel_rfl) (K.OW.q rfl (K.QR.ix (of_2 + 0 * 6) 6 rfl rfl rfl Tryd.underlying54 (by kernel_rfl) (by omega) (by first | (simp; done) | omega | (simp; omega))) ?_)
            refine ⟨.inl (hS.pick [0]), ?_⟩
            refine K.DW.l 15 rfl (by kernel_rfl) (by kernel_rfl) (K.OW.q rfl (K.QR.ldN [.int .i64 ((L.getD 0 act0).k), .int .i64 ((L.getD 0 act0).th), .int .i64 ((L.getD 0 act0).ln), .int .i64 ((L.getD 0 act0).ok), .int .u32 ((L.getD 0 act0).key), .int .u32 ((L.getD 0 act0).val)] rfl rfl (by kernel_rfl) (by kernel_rfl) (K.cells (K.cl ((hx _ (hS.pick [0])).ld 0 (by omega) 0 _ rfl) (K.cl ((hx _ (hS.pick [0])).ld 0 (by omega) 1 _ rfl) (K.cl ((hx _ (hS.pick [0])).ld 0 (by omega) 2 _ rfl) (K.cl ((hx _ (hS.pick [0])).ld 0 (by omega) 3 _ rfl) (K.cl ((hx _ (hS.pick [0])).ld 0 (by omega) 4 _ rfl) (K.cl ((hx _ (hS.pick [0])).ld 0 (by omega) 5 _ rfl) K.cl0)))))))) ?_)
            refine ⟨.inl (hS.pick [0]), ?_⟩
            by_cases h_18 : ((L.getD n act0).k : Int) = (L.getD 0 act0).k ∧ ((L.getD n act0).th : Int) = (L.getD 0 act0).th ∧ ((L.getD n act0).ln : Int) = (L.getD 0 act0).ln ∧ ((L.getD n act0).ok : Int) = (L.getD 0 act0).ok ∧ ((L.getD n act0).key : Int) = (L.getD 0 act0).key ∧ ((L.getD n act0).val : Int) = (L.getD 0 act0).val
            ·  -- yes
              refine K.DW.l 16 rfl (by kernel_rfl) (by kernel_rfl) (K.OW.q rfl (K.QR.eqS (by kernel_rfl) rfl rfl rfl (eqAct_t h_18)) ?_)
              refine ⟨.inl (hS.pick [0]), ?_⟩
              refine K.DW.l 17 rfl (by kernel_rfl) rfl (K.OW.q rfl (K.QR.k (v := .bool true) (by kernel_rfl)) ?_)
              refine ⟨.inl (hS.pick [0]), ?_⟩
              refine K.DW.done (by kernel_rfl) ?_
              refine K.thn_normal ?_
              refine K.KW.ifT rfl ?_
              refine K.KW.skip ?_
              refine K.thn_normal ?_
              refine K.KW.block ?_
              -- 5 :239
              refine K.KW.region ?_
              refine K.RW.qs [.int .i64 ((n : Nat) : Int)] (by kernel_rfl) ?_
              refine K.RW.q rfl rfl (K.QR.n64 ((((n : Nat) : Int) : Int) + (1 : Int)) ((n + 1 : Nat) : Int) (by kernel_rfl) (by omega)) ?_
              refine K.RW.qs [.int .i64 ((n + 1 : Nat) : Int)] (by kernel_rfl) ?_
              refine K.RW.nil ?_
              refine K.blk_normal ?_
              refine K.thn_normal ?_
              refine ⟨_, ?_, n + 1, rfl, ⟨by rfl, by rfl, by rfl, by rfl, trivial⟩, (by omega), (K.all_snoc hsm (act_eq.1 (by assumption))), hS.pick [0, 1]⟩
              omega
            ·  -- no
              refine K.DW.l 16 rfl (by kernel_rfl) (by kernel_rfl) (K.OW.q rfl (K.QR.eqS (by kernel_rfl) rfl rfl rfl (eqAct_f h_18)) ?_)
              refine ⟨.inl (hS.pick [0]), ?_⟩
              refine K.DW.l 17 rfl (by kernel_rfl) rfl (K.OW.q rfl (K.QR.k (v := .bool false) (by kernel_rfl)) ?_)
              refine ⟨.inl (hS.pick [0]), ?_⟩
              refine K.DW.done (by kernel_rfl) ?_
              refine K.thn_normal ?_
              refine K.KW.ifF rfl ?_
              refine K.KW.exit ?_
              refine K.thn_exit ?_
              refine K.thn_exit ?_
              refine K.blk_hit ?_
              refine K.thn_normal ?_
              refine K.KW.seq ?_
              -- 6 :241
              refine K.KW.region ?_
              refine K.RW.qs [.int .i64 ((n : Nat) : Int), .int .i64 ((n : Nat) : Int)] (by kernel_rfl) ?_
              refine K.RW.nil ?_
              refine K.thn_normal ?_
              refine K.KW.ret ?_
              refine ⟨.inr rfl, rfl, (.int .i64 ((n : Nat) : Int)), K.res1 rfl rfl, [gx], ?_, hS.pick [0, 1]⟩
              exact ⟨rfl, by rw [← alk_uniq (L := L) (n := n) ⟨by omega, by omega, by omega, hsm, .inl (by unfold kind25; omega), .inr (.inr (.inr (fun e => h_18 (act_eq.2 e))))⟩]⟩
          ·  -- no
            refine K.DW.l 6 rfl (by kernel_rfl) (by kernel_rfl) (K.OW.q rfl (K.QR.nice (v := .bool (decide ((((n : Nat) : Int) : Int) < (10000 : Int)))) (by kernel_rfl) (congrArg Value.bool (decide_eq_false h_17))) ?_)
            refine ⟨.inl (hS.pick [0]), ?_⟩
            refine K.DW.l 7 rfl (by kernel_rfl) rfl (K.OW.q rfl (K.QR.k (v := .bool false) (by kernel_rfl)) ?_)
            refine ⟨.inl (hS.pick [0]), ?_⟩
            refine K.DW.l 8 rfl (by kernel_rfl) rfl (K.OW.q rfl (K.QR.k (v := .bool false) (by kernel_rfl)) ?_)
            refine ⟨.inl (hS.pick [0]), ?_⟩
            refine K.DW.skip 9 (by kernel_rfl) rfl rfl (by kernel_rfl) (by kernel_rfl) (hS.pick [0]) ?_
            refine K.DW.skip 10 (by kernel_rfl) rfl rfl (by kernel_rfl) (by kernel_rfl) (hS.pick [0]) ?_
            refine K.DW.skip 11 (by kernel_rfl) rfl rfl (by kernel_rfl) (by kernel_rfl) (hS.pick [0]) ?_
            refine K.DW.skip 12 (by kernel_rfl) rfl rfl (by kernel_rfl) (by kernel_rfl) (hS.pick [0]) ?_
            refine K.DW.skip 13 (by kernel_rfl) rfl rfl (by kernel_rfl) (by kernel_rfl) (hS.pick [0]) ?_
            refine K.DW.skip 14 (by kernel_rfl) rfl rfl (by kernel_rfl) (by kernel_rfl) (hS.pick [0]) ?_
            refine K.DW.skip 15 (by kernel_rfl) rfl rfl (by kernel_rfl) (by kernel_rfl) (hS.pick [0]) ?_
            refine K.DW.skip 16 (by kernel_rfl) rfl rfl (by kernel_rfl) (by kernel_rfl) (hS.pick [0]) ?_
            refine K.DW.l 17 rfl (by kernel_rfl) rfl (K.OW.q rfl (K.QR.k (v := .bool false) (by kernel_rfl)) ?_)
            refine ⟨.inl (hS.pick [0]), ?_⟩
            refine K.DW.done (by kernel_rfl) ?_
            refine K.thn_normal ?_
            refine K.KW.ifF rfl ?_
            refine K.KW.exit ?_
            refine K.thn_exit ?_
            refine K.thn_exit ?_
            refine K.blk_hit ?_
            refine K.thn_normal ?_
            refine K.KW.seq ?_
            -- 6 :241
            refine K.KW.region ?_
            refine K.RW.qs [.int .i64 ((n : Nat) : Int), .int .i64 ((n : Nat) : Int)] (by kernel_rfl) ?_
            refine K.RW.nil ?_
            refine K.thn_normal ?_
            refine K.KW.ret ?_
            refine ⟨.inr rfl, rfl, (.int .i64 ((n : Nat) : Int)), K.res1 rfl rfl, [gx], ?_, hS.pick [0, 1]⟩
            exact ⟨rfl, by rw [← alk_uniq (L := L) (n := n) ⟨by omega, by omega, by omega, hsm, .inl (by unfold kind25; omega), .inr (by omega)⟩]⟩
        ·  -- no
          refine K.DW.l 3 rfl (by kernel_rfl) rfl (K.OW.q rfl (K.QR.nice (v := .bool (decide ((((n : Nat) : Int) : Int) < (((L.length : Nat) : Int) : Int)))) (by kernel_rfl) (congrArg Value.bool (decide_eq_false h_16))) ?_)
          refine ⟨.inl (hS.pick [0]), ?_⟩
          refine K.DW.l 4 rfl (by kernel_rfl) rfl (K.OW.q rfl (K.QR.k (v := .bool false) (by kernel_rfl)) ?_)
          refine ⟨.inl (hS.pick [0]), ?_⟩
          refine K.DW.skip 5 (by kernel_rfl) rfl rfl (by kernel_rfl) (by kernel_rfl) (hS.pick [0]) ?_
          refine K.DW.skip 6 (by kernel_rfl) rfl rfl (by kernel_rfl) (by kernel_rfl) (hS.pick [0]) ?_
          refine K.DW.l 7 rfl (by kernel_rfl) rfl (K.OW.q rfl (K.QR.k (v := .bool false) (by kernel_rfl)) ?_)
          refine ⟨.inl (hS.pick [0]), ?_⟩
          refine K.DW.l 8 rfl (by kernel_rfl) rfl (K.OW.q rfl (K.QR.k (v := .bool false) (by kernel_rfl)) ?_)
          refine ⟨.inl (hS.pick [0]), ?_⟩
          refine K.DW.skip 9 (by kernel_rfl) rfl rfl (by kernel_rfl) (by kernel_rfl) (hS.pick [0]) ?_
          refine K.DW.skip 10 (by kernel_rfl) rfl rfl (by kernel_rfl) (by kernel_rfl) (hS.pick [0]) ?_
          refine K.DW.skip 11 (by kernel_rfl) rfl rfl (by kernel_rfl) (by kernel_rfl) (hS.pick [0]) ?_
          refine K.DW.skip 12 (by kernel_rfl) rfl rfl (by kernel_rfl) (by kernel_rfl) (hS.pick [0]) ?_
          refine K.DW.skip 13 (by kernel_rfl) rfl rfl (by kernel_rfl) (by kernel_rfl) (hS.pick [0]) ?_
          refine K.DW.skip 14 (by kernel_rfl) rfl rfl (by kernel_rfl) (by kernel_rfl) (hS.pick [0]) ?_
          refine K.DW.skip 15 (by kernel_rfl) rfl rfl (by kernel_rfl) (by kernel_rfl) (hS.pick [0]) ?_
          refine K.DW.skip 16 (by kernel_rfl) rfl rfl (by kernel_rfl) (by kernel_rfl) (hS.pick [0]) ?_
          refine K.DW.l 17 rfl (by kernel_rfl) rfl (K.OW.q rfl (K.QR.k (v := .bool false) (by kernel_rfl)) ?_)
          refine ⟨.inl (hS.pick [0]), ?_⟩
          refine K.DW.done (by kernel_rfl) ?_
          refine K.thn_normal ?_
          refine K.KW.ifF rfl ?_
          refine K.KW.exit ?_
          refine K.thn_exit ?_
          refine K.thn_exit ?_
          refine K.blk_hit ?_
          refine K.thn_normal ?_
          refine K.KW.seq ?_
          -- 6 :241
          refine K.KW.region ?_
          refine K.RW.qs [.int .i64 ((n : Nat) : Int), .int .i64 ((n : Nat) : Int)] (by kernel_rfl) ?_
          refine K.RW.nil ?_
          refine K.thn_normal ?_
          refine K.KW.ret ?_
          refine ⟨.inr rfl, rfl, (.int .i64 ((n : Nat) : Int)), K.res1 rfl rfl, [gx], ?_, hS.pick [0, 1]⟩
          exact ⟨rfl, by rw [← alk_uniq (L := L) (n := n) ⟨by omega, by omega, by omega, hsm, .inl (by unfold kind25; omega), .inr (by omega)⟩]⟩
    ·  -- no
      refine K.RW.q rfl (by kernel_rfl) (K.QR.nice (v := .bool (((L.getD 0 act0).k : Int) != (5 : Int))) (by kernel_rfl) (congrArg Value.bool (bne_iff_ne.2 h_11))) ?_
      refine K.RW.qs [.bool true] (by kernel_rfl) ?_
      refine K.RW.nil ?_
      refine K.thn_normal ?_
      refine K.KW.ifT rfl ?_
      refine K.KW.seq ?_
      -- 2 :235
      refine K.KW.region ?_
      refine K.RW.qs [.int .i64 1] (by kernel_rfl) ?_
      refine K.RW.nil ?_
      refine K.thn_normal ?_
      refine K.KW.ret ?_
      refine K.thn_ret ?_
      refine ⟨.inr rfl, rfl, (.int .i64 1), K.res1 rfl rfl, [gx], ?_, hS.pick [0, 1]⟩
      exact ⟨rfl, by rw [← alk_uniq (L := L) (n := 1) ⟨by omega, by omega, by omega, fun q hq => by rw [show q = 0 by omega], .inr rfl, .inl (by unfold kind25; omega)⟩]; rfl⟩
set_option maxHeartbeats 1000000 in
set_option maxRecDepth 100000 in
theorem ixact_ok (w0 : World) (a : Option Addr) (cap : Nat) (L : List ActM) (hm : L.length ≤ 9223372036854775807) (gx : K.Cs) (hx : ∀ w, K.Sat w0 [gx] w → K.RowE w a L.length 6 (fun i => cAct (L.getD i act0))) :
    K.GC Tryd.prog w0 85 #[.slice a L.length cap, .func (.func 67) [].toArray [].toArray] [gx] (fun v post => post = [gx] ∧ ((allRt L ∧ v = .int .i64 (-1)) ∨ (∃ i : Nat, ¬ allRt L ∧ v = .int .i64 ((i : Nat) : Int)))) := by
  refine K.GC.mk (n := 19) Tryd.func85 rfl rfl [.slice a L.length cap, .func (.func 67) [].toArray [].toArray] rfl rfl ?_
  intro fr w hS
  replace hS : K.Sat w0 [gx, fr] w := hS
  refine K.KW.seq ?_
  -- 0 :107
  refine K.KW.region ?_
  refine K.RW.qs [.int .i64 0] (by kernel_rfl) ?_
  refine K.RW.nil ?_
  refine K.thn_normal ?_
  refine K.KW.seq ?_
  refine K.KW.seq ?_
  -- 1 :108
  refine K.KW.region ?_
  refine K.RW.qs [.slice a L.length cap] (by kernel_rfl) ?_
  refine K.RW.q rfl rfl (K.QR.len (P := Tryd.prog) rfl rfl Tryd.underlying54) ?_
  refine K.RW.qs [.int .i64 0] (by kernel_rfl) ?_
  refine K.RW.nil ?_
  refine K.thn_normal ?_
  refine K.KW.block ?_
  refine K.KW.loop (fun m_ F_ w_ => ∃ (i : Nat), m_ = L.length - i ∧ K.Sl F_ [(0, .slice a L.length cap), (1, .func (.func 67) [].toArray [].toArray), (7, .int .i64 ((L.length : Nat) : Int)), (8, .int .i64 ((i : Nat) : Int)), (19, undef)] ∧ i ≤ L.length ∧ (∀ q, q < i → rightO (L.getD q act0)) ∧ K.Sat w0 [gx, fr] w_) ((fun (i : Nat) => L.length - i) 0) ?_ ?_
  · -- begins
    exact ⟨0, rfl, ⟨by rfl, by rfl, by rfl, by rfl, by rfl, trivial⟩, (by omega), (fun q hq => by omega), hS.pick [0, 1]⟩
  · -- a round
    clear hS
    intro m_1 F_2 w hI
    obtain ⟨i, rfl, sl_3, p_4, hrt, hS⟩ := hI
    rw [← K.Sl.puts sl_3]; clear sl_3
    refine K.KW.seq ?_
    -- 2 :108
    refine K.KW.region ?_
    by_cases h_5 : (((i : Nat) : Int) : Int) < (((L.length : Nat) : Int) : Int)
    ·  -- yes
      refine K.RW.q rfl rfl (K.QR.nice (v := .bool (decide ((((i : Nat) : Int) : Int) < (((L.length : Nat) : Int) : Int)))) (by kernel_rfl) (congrArg Value.bool (decide_eq_true h_5))) ?_
      refine K.RW.nil ?_
      refine K.thn_normal ?_
      refine K.KW.seq ?_
      refine K.KW.ifT rfl ?_
      refine K.KW.skip ?_
      refine K.thn_normal ?_
      refine K.KW.seq ?_
      refine K.KW.block ?_
      refine K.KW.seq ?_
      -- 3 :108
      refine K.KW.region ?_
      refine K.RW.qs [.int .i64 ((i : Nat) : Int), .int .i64 ((i : Nat) : Int)] (by kernel_rfl) ?_
      refine K.RW.nil ?_
      refine K.thn_normal ?_
      refine K.KW.seq ?_
      -- 4 :109
      obtain ⟨b_6, of_7, rfl, _⟩ := (hx _ (hS.pick [0])).at_ (by omega)
      refine K.KW.region ?_
      refine K.RW.qs [.func (.func 67) [].toArray [].toArray, .slice (some ⟨b_6, of_7, none⟩) L.length cap, .int .i64 ((i : Nat) : Int)] (by kernel_rfl) ?_
      refine K.RW.q rfl rfl (K.QR.ix (of_7 + i * 6) 6 rfl rfl rfl Tryd.underlying54 (by kernel_rfl) (by omega) (by first | (simp; done) | omega | (simp; omega))) ?_
      refine K.RW.q rfl rfl (K.QR.ldN [.int .i64 ((L.getD i act0).k), .int .i64 ((L.getD i act0).th), .int .i64 ((L.getD i act0).ln), .int .i64 ((L.getD i act0).ok), .int .u32 ((L.getD i act0).key), .int .u32 ((L.getD i act0).val)] rfl rfl (by kernel_rfl) (by kernel_rfl) (K.cells (K.cl ((hx _ (hS.pick [0])).ld i (by omega) 0 _ rfl) (K.cl ((hx _ (hS.pick [0])).ld i (by omega) 1 _ rfl) (K.cl ((hx _ (hS.pick [0])).ld i (by omega) 2 _ rfl) (K.cl ((hx _ (hS.pick [0])).ld i (by omega) 3 _ rfl) (K.cl ((hx _ (hS.pick [0])).ld i (by omega) 4 _ rfl) (K.cl ((hx _ (hS.pick [0])).ld i (by omega) 5 _ rfl) K.cl0)))))))) ?_
      refine K.RW.l rfl (K.OW.gcallw hS [] [0, 1] [.agg #[.int .i64 ((L.getD i act0).k), .int .i64 ((L.getD i act0).th), .int .i64 ((L.getD i act0).ln), .int .i64 ((L.getD i act0).ok), .int .u32 ((L.getD i act0).key), .int .u32 ((L.getD i act0).val)]] (swrite1_ok _ (L.getD i act0)) ?_)
      clear hS; rintro _ _ w ⟨rfl, (⟨h_8, rfl⟩ | ⟨h_9, rfl⟩)⟩ hS
      ·
        replace hS : K.Sat w0 [gx, fr] w := hS
        refine K.RW.nil ?_
        refine K.thn_normal ?_
        refine K.KW.ifT rfl ?_
        refine K.KW.seq ?_
        -- 5 :110
        refine K.KW.region ?_
        refine K.RW.qs [.int .i64 ((i : Nat) : Int), .int .i64 ((i : Nat) : Int)] (by kernel_rfl) ?_
        refine K.RW.nil ?_
        refine K.thn_normal ?_
        refine K.KW.ret ?_
        refine K.blk_ret ?_
        refine K.thn_ret ?_
        refine K.thn_ret ?_
        refine K.blk_ret ?_
        refine K.thn_ret ?_
        refine ⟨.inr rfl, rfl, (.int .i64 ((i : Nat) : Int)), K.res1 rfl rfl, [gx], ?_, hS.pick [0, 1]⟩
        exact ⟨rfl, .inr ⟨i, fun hh => h_8 (hh i (by omega)), rfl⟩⟩
      ·
        replace hS : K.Sat w0 [gx, fr] w := hS
        refine K.RW.nil ?_
        refine K.thn_normal ?_
        refine K.KW.ifF rfl ?_
        refine K.KW.skip ?_
        refine K.blk_normal ?_
        refine K.thn_normal ?_
        -- 6 :108
        refine K.KW.region ?_
        refine K.RW.q rfl rfl (K.QR.n64 ((((i : Nat) : Int) : Int) + (1 : Int)) ((i + 1 : Nat) : Int) (by kernel_rfl) (by omega)) ?_
        refine K.RW.qs [.int .i64 ((i + 1 : Nat) : Int)] (by kernel_rfl) ?_
        refine K.RW.nil ?_
        refine K.thn_normal ?_
        refine ⟨_, ?_, i + 1, rfl, ⟨by rfl, by rfl, by rfl, by rfl, by rfl, trivial⟩, (by omega), (K.all_snoc hrt (Classical.byContradiction fun hh => h_9 hh)), hS.pick [0, 1]⟩
        omega
    ·  -- no
      refine K.RW.q rfl rfl (K.QR.nice (v := .bool (decide ((((i : Nat) : Int) : Int) < (((L.length : Nat) : Int) : Int)))) (by kernel_rfl) (congrArg Value.bool (decide_eq_false h_5))) ?_
      refine K.RW.nil ?_
      refine K.thn_normal ?_
      refine K.KW.seq ?_
      refine K.KW.ifF rfl ?_
      refine K.KW.exit ?_
      refine K.thn_exit ?_
      refine K.thn_exit ?_
      refine K.blk_hit ?_
      refine K.thn_normal ?_
      refine K.KW.seq ?_
      -- 7 :113
      refine K.KW.region ?_
      refine K.RW.qs [.int .i64 (-1)] (by kernel_rfl) ?_
      refine K.RW.nil ?_
      refine K.thn_normal ?_
      refine K.KW.ret ?_
      refine ⟨.inr rfl, rfl, (.int .i64 (-1)), K.res1 rfl rfl, [gx], ?_, hS.pick [0, 1]⟩
      exact ⟨rfl, .inl ⟨fun q hq => hrt q (by omega), rfl⟩⟩
set_option maxHeartbeats 1000000 in
set_option maxRecDepth 100000 in
theorem ctact_ok (w0 : World) (a : Option Addr) (cap : Nat) (L : List ActM) (hm : L.length ≤ 9223372036854775807) (gx : K.Cs) (hx : ∀ w, K.Sat w0 [gx] w → K.RowE w a L.length 6 (fun i => cAct (L.getD i act0))) :
    K.GC Tryd.prog w0 66 #[.slice a L.length cap, .func (.func 67) [].toArray [].toArray] [gx] (fun v post => post = [gx] ∧ ((¬ allRt L ∧ v = .bool true) ∨ (¬ (¬ allRt L) ∧ v = .bool false))) := by
  refine K.GC.mk (n := 9) Tryd.func66 rfl rfl [.slice a L.length cap, .func (.func 67) [].toArray [].toArray] rfl rfl ?_
  intro fr w hS
  replace hS : K.Sat w0 [gx, fr] w := hS
  refine K.KW.seq ?_
  -- 0 :124
  refine K.KW.region ?_
  refine K.RW.qs [.bool false] (by kernel_rfl) ?_
  refine K.RW.nil ?_
  refine K.thn_normal ?_
  refine K.KW.seq ?_
  -- 1 :125
  refine K.KW.region ?_
  refine K.RW.qs [.slice a L.length cap, .func (.func 67) [].toArray [].toArray] (by kernel_rfl) ?_
  refine K.RW.l rfl (K.OW.gcall hS [0] [1] [.slice a L.length cap, .func (.func 67) [].toArray [].toArray] (ixact_ok _ _ _ L (by omega) _ hx) ?_)
  clear hS; rintro _ _ w ⟨rfl, (⟨h_1, rfl⟩ | ⟨i_2, h_3, rfl⟩)⟩ hS
  ·
    replace hS : K.Sat w0 [gx, fr] w := hS
    refine K.RW.qs [.bool false, .bool false] (by kernel_rfl) ?_
    refine K.RW.nil ?_
    refine K.thn_normal ?_
    refine K.KW.ret ?_
    refine ⟨.inr rfl, rfl, (.bool false), K.res1 rfl rfl, [gx], ?_, hS.pick [0, 1]⟩
    exact ⟨rfl, .inr ⟨fun hh => hh h_1, rfl⟩⟩
  ·
    replace hS : K.Sat w0 [gx, fr] w := hS
    refine K.RW.q rfl rfl (K.QR.nice (v := .bool (decide ((((i_2 : Nat) : Int) : Int) ≥ (0 : Int)))) (by kernel_rfl) (congrArg Value.bool (decide_eq_true (by omega)))) ?_
    refine K.RW.qs [.bool true] (by kernel_rfl) ?_
    refine K.RW.nil ?_
    refine K.thn_normal ?_
    refine K.KW.ret ?_
    refine ⟨.inr rfl, rfl, (.bool true), K.res1 rfl rfl, [gx], ?_, hS.pick [0, 1]⟩
    exact ⟨rfl, .inl ⟨h_3, rfl⟩⟩
end Go.Proofs.YtnehocjmgnhhhaaDoor
