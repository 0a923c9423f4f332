import Derived.Test.YtnehocjmgnhhhaaDoorFsw4
/- Scripts: the document's Write. -/
namespace Go.Proofs.YtnehocjmgnhhhaaDoor
open Go.RowKit
set_option linter.unusedVariables false
attribute [local irreducible] K.KW K.RW K.DW K.OW K.QR K.KC
set_option maxHeartbeats 4000000 in
set_option maxRecDepth 100000 in
theorem drow_ok (w0 : World) (a : ActM) (n : Nat) (hf : a.fits) (hr : rightO a) (hn : n ≤ 10000) :
    K.GC Tryd.prog w0 73 #[.agg #[.int .i64 a.k, .int .i64 a.th, .int .i64 a.ln, .int .i64 a.ok, .int .u32 a.key, .int .u32 a.val], .int .i64 ((n : Nat) : Int)] [] (fun v post => post = [] ∧ v = .string (K.sb (rowA a n))) := by
  have hr0 := hr
  unfold rightO at hr0
  have hf0 := hf
  unfold ActM.fits isI64 at hf0
  have q1 := dg_len20 (n := a.th.toNat) (by omega)
  have q2 := opNm_len a.ok.toNat
  have q3 := dg_len20 (n := a.key.toNat) (by omega)
  have q4 := dg_len20 (n := a.val.toNat) (by omega)
  have q5 := dg_len20 (n := n) (by omega)
  have q6 := dg_len20 (n := a.ln.toNat) (by omega)
  refine K.GC.mk (n := 78) Tryd.func73 rfl rfl [.agg #[.int .i64 a.k, .int .i64 a.th, .int .i64 a.ln, .int .i64 a.ok, .int .u32 a.key, .int .u32 a.val], .int .i64 ((n : Nat) : Int)] rfl rfl ?_
  intro fr w hS
  replace hS : K.Sat w0 [fr] w := hS
  refine K.KW.seq ?_
  -- 0 :170
  refine K.KW.region ?_
  refine K.RW.l rfl (K.OW.gnew 57 [.int .i64 a.k, .int .i64 a.th, .int .i64 a.ln, .int .i64 a.ok, .int .u32 a.key, .int .u32 a.val] hS ?_)
  clear hS; intro w r_1 g_2 hg_3 hS
  refine K.RW.qs [.string (K.sb [])] (by kernel_rfl) ?_
  refine K.RW.nil ?_
  refine K.thn_normal ?_
  refine K.KW.seq ?_
  refine K.KW.seq ?_
  -- 1 :171
  refine K.KW.region ?_
  refine K.RW.qs [.pointer (some ⟨r_1, 0, none⟩)] (by kernel_rfl) ?_
  refine K.RW.q rfl rfl (K.QR.ld1 (v := .int .i64 a.k) rfl rfl (by kernel_rfl) ((hS.blk 0 rfl hg_3).cell rfl)) ?_
  by_cases h_4 : (a.k : Int) = (1 : Int)
  ·  -- yes
    refine K.RW.q rfl rfl (K.QR.nice (v := .bool ((a.k : Int) == (1 : Int))) (by kernel_rfl) (congrArg Value.bool (beq_iff_eq.2 h_4))) ?_
    refine K.RW.nil ?_
    refine K.thn_normal ?_
    refine K.KW.ifT rfl ?_
    refine K.KW.seq ?_
    -- 2 :172
    refine K.KW.gdrawn [0] hS (by kernel_rfl) ?_
    clear hS; intro w hS
    refine K.DW.q 0 (by kernel_rfl) rfl rfl (by kernel_rfl) rfl (fun w hS => K.QR.k (v := .pointer (some ⟨r_1, 1, none⟩)) (by kernel_rfl)) (hS.pick [0]) ?_
    refine K.DW.q 1 (by kernel_rfl) rfl rfl (by kernel_rfl) rfl (fun w hS => K.QR.ld1 (v := .int .i64 a.th) rfl rfl (by kernel_rfl) ((hS.blk 0 rfl hg_3).cell rfl)) (hS.pick [0]) ?_
    refine K.DW.q 5 (by kernel_rfl) rfl rfl (by kernel_rfl) rfl (fun w hS => K.QR.k (v := .pointer (some ⟨r_1, 3, none⟩)) (by kernel_rfl)) (hS.pick [0]) ?_
    refine K.DW.q 6 (by kernel_rfl) rfl rfl (by kernel_rfl) rfl (fun w hS => K.QR.k (v := .pointer (some ⟨r_1, 3, none⟩)) (by kernel_rfl)) (hS.pick [0]) ?_
    refine K.DW.q 7 (by kernel_rfl) rfl rfl (by kernel_rfl) rfl (fun w hS => K.QR.ld1 (v := .int .i64 a.ok) rfl rfl (by kernel_rfl) ((hS.blk 0 rfl hg_3).cell rfl)) (hS.pick [0]) ?_
    refine K.DW.l 2 rfl (by kernel_rfl) rfl (K.OW.gcall hS [] [0, 1] [.int .i64 a.th] (rdigitsI_ok _ a.th (by omega) (by omega)) ?_)
    clear hS; rintro _ _ w ⟨rfl, rfl⟩ hS
    replace hS : K.Sat w0 [g_2, fr] w := hS
    refine ⟨.inl (hS.pick [0]), ?_⟩
    refine K.DW.q 3 (by kernel_rfl) rfl rfl (by kernel_rfl) rfl (fun w hS => K.QR.sAdd (xs := [99, 97, 108, 108, 32]) (ys := (dg a.th.toNat)) rfl rfl rfl (by (try simp only [List.length_append, List.length_cons, List.length_nil] at *); omega)) (hS.pick [0]) ?_
    refine K.DW.q 4 (by kernel_rfl) rfl rfl (by kernel_rfl) rfl (fun w hS => K.QR.sAdd (xs := (([99, 97, 108, 108, 32] : List UInt8) ++ (dg a.th.toNat))) (ys := [32]) rfl rfl rfl (by (try simp only [List.length_append, List.length_cons, List.length_nil] at *); omega)) (hS.pick [0]) ?_
    refine K.DW.l 8 rfl (by kernel_rfl) rfl (K.OW.gcall hS [] [0, 1] [.int .i64 a.ok] (rname_ok _ a.ok (by omega)) ?_)
    clear hS; rintro _ _ w ⟨rfl, rfl⟩ hS
    replace hS : K.Sat w0 [g_2, fr] w := hS
    refine ⟨.inl (hS.pick [0]), ?_⟩
    refine K.DW.l 9 rfl (by kernel_rfl) rfl (K.OW.q rfl (K.QR.sAdd (xs := ((([99, 97, 108, 108, 32] : List UInt8) ++ (dg a.th.toNat)) ++ ([32] : List UInt8))) (ys := (opNm.getD a.ok.toNat [])) rfl rfl rfl (by (try simp only [List.length_append, List.length_cons, List.length_nil] at *); omega)) ?_)
    refine ⟨.inl (hS.pick [0]), ?_⟩
    refine K.DW.l 10 rfl (by kernel_rfl) rfl (K.OW.q rfl (K.QR.k (v := .string (K.sb (((([99, 97, 108, 108, 32] : List UInt8) ++ (dg a.th.toNat)) ++ ([32] : List UInt8)) ++ (opNm.getD a.ok.toNat [])))) (by kernel_rfl)) ?_)
    refine ⟨.inl (hS.pick [0]), ?_⟩
    refine K.DW.done (by kernel_rfl) ?_
    refine K.thn_normal ?_
    refine K.KW.seq ?_
    refine K.KW.seq ?_
    -- 3 :173
    refine K.KW.region ?_
    refine K.RW.qs [.pointer (some ⟨r_1, 3, none⟩), .pointer (some ⟨r_1, 3, none⟩)] (by kernel_rfl) ?_
    refine K.RW.q rfl rfl (K.QR.ld1 (v := .int .i64 a.ok) rfl rfl (by kernel_rfl) ((hS.blk 0 rfl hg_3).cell rfl)) ?_
    by_cases h_5 : (a.ok : Int) > (2 : Int)
    ·  -- yes
      refine K.RW.q rfl rfl (K.QR.nice (v := .bool (decide ((a.ok : Int) > (2 : Int)))) (by kernel_rfl) (congrArg Value.bool (decide_eq_true h_5))) ?_
      refine K.RW.nil ?_
      refine K.thn_normal ?_
      refine K.KW.ifT rfl ?_
      -- 4 :174
      refine K.KW.region ?_
      refine K.RW.qs [.string (K.sb (((([99, 97, 108, 108, 32] : List UInt8) ++ (dg a.th.toNat)) ++ ([32] : List UInt8)) ++ (opNm.getD a.ok.toNat [])))] (by kernel_rfl) ?_
      refine K.RW.q rfl rfl (K.QR.sAdd (xs := (((([99, 97, 108, 108, 32] : List UInt8) ++ (dg a.th.toNat)) ++ ([32] : List UInt8)) ++ (opNm.getD a.ok.toNat []))) (ys := [32]) rfl rfl rfl (by (try simp only [List.length_append, List.length_cons, List.length_nil] at *); omega)) ?_
      refine K.RW.qs [.pointer (some ⟨r_1, 3, none⟩), .pointer (some ⟨r_1, 4, none⟩)] (by kernel_rfl) ?_
      refine K.RW.q rfl rfl (K.QR.ld1 (v := .int .u32 a.key) rfl rfl (by kernel_rfl) ((hS.blk 0 rfl hg_3).cell rfl)) ?_
      refine K.RW.q rfl rfl (K.QR.nice (v := .int .i64 (IntKind.i64.wrap a.key)) (by kernel_rfl) (congrArg (Value.int .i64) (IntWalk.i64_in _ (by omega)))) ?_
      refine K.RW.l rfl (K.OW.gcall hS [] [0, 1] [.int .i64 a.key] (rdigitsI_ok _ a.key (by omega) (by omega)) ?_)
      clear hS; rintro _ _ w ⟨rfl, rfl⟩ hS
      replace hS : K.Sat w0 [g_2, fr] w := hS
      refine K.RW.q rfl rfl (K.QR.sAdd (xs := ((((([99, 97, 108, 108, 32] : List UInt8) ++ (dg a.th.toNat)) ++ ([32] : List UInt8)) ++ (opNm.getD a.ok.toNat [])) ++ ([32] : List UInt8))) (ys := (dg a.key.toNat)) rfl rfl rfl (by (try simp only [List.length_append, List.length_cons, List.length_nil] at *); omega)) ?_
      refine K.RW.qs [.string (K.sb (((((([99, 97, 108, 108, 32] : List UInt8) ++ (dg a.th.toNat)) ++ ([32] : List UInt8)) ++ (opNm.getD a.ok.toNat [])) ++ ([32] : List UInt8)) ++ (dg a.key.toNat)))] (by kernel_rfl) ?_
      refine K.RW.nil ?_
      refine K.thn_normal ?_
      refine K.KW.seq ?_
      refine K.KW.seq ?_
      -- 5 :176
      refine K.KW.region ?_
      refine K.RW.qs [.pointer (some ⟨r_1, 3, none⟩), .pointer (some ⟨r_1, 3, none⟩)] (by kernel_rfl) ?_
      refine K.RW.q rfl rfl (K.QR.ld1 (v := .int .i64 a.ok) rfl rfl (by kernel_rfl) ((hS.blk 0 rfl hg_3).cell rfl)) ?_
      by_cases h_6 : (a.ok : Int) = (1 : Int)
      ·  -- yes
        refine K.RW.q rfl rfl (K.QR.nice (v := .bool ((a.ok : Int) == (1 : Int))) (by kernel_rfl) (congrArg Value.bool (beq_iff_eq.2 h_6))) ?_
        refine K.RW.qs [.bool true] (by kernel_rfl) ?_
        refine K.RW.skip rfl (by kernel_rfl) ?_
        refine K.RW.skip rfl (by kernel_rfl) ?_
        refine K.RW.skip rfl (by kernel_rfl) ?_
        refine K.RW.skip rfl (by kernel_rfl) ?_
        refine K.RW.qs [.bool true] (by kernel_rfl) ?_
        refine K.RW.nil ?_
        refine K.thn_normal ?_
        refine K.KW.ifT rfl ?_
        -- 6 :177
        refine K.KW.region ?_
        refine K.RW.qs [.string (K.sb (((((([99, 97, 108, 108, 32] : List UInt8) ++ (dg a.th.toNat)) ++ ([32] : List UInt8)) ++ (opNm.getD a.ok.toNat [])) ++ ([32] : List UInt8)) ++ (dg a.key.toNat)))] (by kernel_rfl) ?_
        refine K.RW.q rfl rfl (K.QR.sAdd (xs := (((((([99, 97, 108, 108, 32] : List UInt8) ++ (dg a.th.toNat)) ++ ([32] : List UInt8)) ++ (opNm.getD a.ok.toNat [])) ++ ([32] : List UInt8)) ++ (dg a.key.toNat))) (ys := [32]) rfl rfl rfl (by (try simp only [List.length_append, List.length_cons, List.length_nil] at *); omega)) ?_
        refine K.RW.qs [.pointer (some ⟨r_1, 3, none⟩), .pointer (some ⟨r_1, 5, none⟩)] (by kernel_rfl) ?_
        refine K.RW.q rfl rfl (K.QR.ld1 (v := .int .u32 a.val) rfl rfl (by kernel_rfl) ((hS.blk 0 rfl hg_3).cell rfl)) ?_
        refine K.RW.q rfl rfl (K.QR.nice (v := .int .i64 (IntKind.i64.wrap a.val)) (by kernel_rfl) (congrArg (Value.int .i64) (IntWalk.i64_in _ (by omega)))) ?_
        refine K.RW.l rfl (K.OW.gcall hS [] [0, 1] [.int .i64 a.val] (rdigitsI_ok _ a.val (by omega) (by omega)) ?_)
        clear hS; rintro _ _ w ⟨rfl, rfl⟩ hS
        replace hS : K.Sat w0 [g_2, fr] w := hS
        refine K.RW.q rfl rfl (K.QR.sAdd (xs := ((((((([99, 97, 108, 108, 32] : List UInt8) ++ (dg a.th.toNat)) ++ ([32] : List UInt8)) ++ (opNm.getD a.ok.toNat [])) ++ ([32] : List UInt8)) ++ (dg a.key.toNat)) ++ ([32] : List UInt8))) (ys := (dg a.val.toNat)) rfl rfl rfl (by (try simp only [List.length_append, List.length_cons, List.length_nil] at *); omega)) ?_
        refine K.RW.qs [.string (K.sb (((((((([99, 97, 108, 108, 32] : List UInt8) ++ (dg a.th.toNat)) ++ ([32] : List UInt8)) ++ (opNm.getD a.ok.toNat [])) ++ ([32] : List UInt8)) ++ (dg a.key.toNat)) ++ ([32] : List UInt8)) ++ (dg a.val.toNat)))] (by kernel_rfl) ?_
        refine K.RW.nil ?_
        refine K.thn_normal ?_
        refine K.KW.seq ?_
        -- 7 :179
        refine K.KW.region ?_
        refine K.RW.qs [.string (K.sb (((((((([99, 97, 108, 108, 32] : List UInt8) ++ (dg a.th.toNat)) ++ ([32] : List UInt8)) ++ (opNm.getD a.ok.toNat [])) ++ ([32] : List UInt8)) ++ (dg a.key.toNat)) ++ ([32] : List UInt8)) ++ (dg a.val.toNat)))] (by kernel_rfl) ?_
        refine K.RW.q rfl rfl (K.QR.sAdd (xs := (((((((([99, 97, 108, 108, 32] : List UInt8) ++ (dg a.th.toNat)) ++ ([32] : List UInt8)) ++ (opNm.getD a.ok.toNat [])) ++ ([32] : List UInt8)) ++ (dg a.key.toNat)) ++ ([32] : List UInt8)) ++ (dg a.val.toNat))) (ys := [10]) rfl rfl rfl (by (try simp only [List.length_append, List.length_cons, List.length_nil] at *); omega)) ?_
        refine K.RW.qs [.string (K.sb ((((((((([99, 97, 108, 108, 32] : List UInt8) ++ (dg a.th.toNat)) ++ ([32] : List UInt8)) ++ (opNm.getD a.ok.toNat [])) ++ ([32] : List UInt8)) ++ (dg a.key.toNat)) ++ ([32] : List UInt8)) ++ (dg a.val.toNat)) ++ ([10] : List UInt8)))] (by kernel_rfl) ?_
        refine K.RW.nil ?_
        refine K.thn_normal ?_
        refine K.KW.ret ?_
        refine K.thn_ret ?_
        have hk : a.k = 1 := by omega
        have hw : wordsA a n = [callN, dg a.th.toNat, opNm.getD a.ok.toNat []] ++ [dg a.key.toNat] ++ [dg a.val.toNat] := by
          rw [← opNm_up (by omega)]; unfold wordsA; rw [if_pos hk, show keyA a = _ from if_pos (by omega), show valA a = _ from if_pos (by omega)]; try rfl
        refine ⟨.inr rfl, rfl, (.string (K.sb ((((((((([99, 97, 108, 108, 32] : List UInt8) ++ (dg a.th.toNat)) ++ ([32] : List UInt8)) ++ (opNm.getD a.ok.toNat [])) ++ ([32] : List UInt8)) ++ (dg a.key.toNat)) ++ ([32] : List UInt8)) ++ (dg a.val.toNat)) ++ ([10] : List UInt8)))), K.res1 rfl rfl, [], ?_, hS.pick [1]⟩
        exact ⟨rfl, by unfold rowA; rw [hw]; simp [K.jn, callN, stepN, evictN, reviveN, crashN]⟩
      ·  -- no
        refine K.RW.q rfl rfl (K.QR.nice (v := .bool ((a.ok : Int) == (1 : Int))) (by kernel_rfl) (congrArg Value.bool (beq_eq_false_iff_ne.2 h_6))) ?_
        refine K.RW.qs [.bool false, .pointer (some ⟨r_1, 3, none⟩), .pointer (some ⟨r_1, 3, none⟩)] (by kernel_rfl) ?_
        refine K.RW.q rfl (by kernel_rfl) (K.QR.ld1 (v := .int .i64 a.ok) rfl rfl (by kernel_rfl) ((hS.blk 0 rfl hg_3).cell rfl)) ?_
        by_cases h_7 : (a.ok : Int) = (6 : Int)
        ·  -- yes
          refine K.RW.q rfl (by kernel_rfl) (K.QR.nice (v := .bool ((a.ok : Int) == (6 : Int))) (by kernel_rfl) (congrArg Value.bool (beq_iff_eq.2 h_7))) ?_
          refine K.RW.qs [.bool true] (by kernel_rfl) ?_
          refine K.RW.nil ?_
          refine K.thn_normal ?_
          refine K.KW.ifT rfl ?_
          -- 6 :177
          refine K.KW.region ?_
          refine K.RW.qs [.string (K.sb (((((([99, 97, 108, 108, 32] : List UInt8) ++ (dg a.th.toNat)) ++ ([32] : List UInt8)) ++ (opNm.getD a.ok.toNat [])) ++ ([32] : List UInt8)) ++ (dg a.key.toNat)))] (by kernel_rfl) ?_
          refine K.RW.q rfl rfl (K.QR.sAdd (xs := (((((([99, 97, 108, 108, 32] : List UInt8) ++ (dg a.th.toNat)) ++ ([32] : List UInt8)) ++ (opNm.getD a.ok.toNat [])) ++ ([32] : List UInt8)) ++ (dg a.key.toNat))) (ys := [32]) rfl rfl rfl (by (try simp only [List.length_append, List.length_cons, List.length_nil] at *); omega)) ?_
          refine K.RW.qs [.pointer (some ⟨r_1, 3, none⟩), .pointer (some ⟨r_1, 5, none⟩)] (by kernel_rfl) ?_
          refine K.RW.q rfl rfl (K.QR.ld1 (v := .int .u32 a.val) rfl rfl (by kernel_rfl) ((hS.blk 0 rfl hg_3).cell rfl)) ?_
          refine K.RW.q rfl rfl (K.QR.nice (v := .int .i64 (IntKind.i64.wrap a.val)) (by kernel_rfl) (congrArg (Value.int .i64) (IntWalk.i64_in _ (by omega)))) ?_
          refine K.RW.l rfl (K.OW.gcall hS [] [0, 1] [.int .i64 a.val] (rdigitsI_ok _ a.val (by omega) (by omega)) ?_)
          clear hS; rintro _ _ w ⟨rfl, rfl⟩ hS
          replace hS : K.Sat w0 [g_2, fr] w := hS
          refine K.RW.q rfl rfl (K.QR.sAdd (xs := ((((((([99, 97, 108, 108, 32] : List UInt8) ++ (dg a.th.toNat)) ++ ([32] : List UInt8)) ++ (opNm.getD a.ok.toNat [])) ++ ([32] : List UInt8)) ++ (dg a.key.toNat)) ++ ([32] : List UInt8))) (ys := (dg a.val.toNat)) rfl rfl rfl (by (try simp only [List.length_append, List.length_cons, List.length_nil] at *); omega)) ?_
          refine K.RW.qs [.string (K.sb (((((((([99, 97, 108, 108, 32] : List UInt8) ++ (dg a.th.toNat)) ++ ([32] : List UInt8)) ++ (opNm.getD a.ok.toNat [])) ++ ([32] : List UInt8)) ++ (dg a.key.toNat)) ++ ([32] : List UInt8)) ++ (dg a.val.toNat)))] (by kernel_rfl) ?_
          refine K.RW.nil ?_
          refine K.thn_normal ?_
          refine K.KW.seq ?_
          -- 7 :179
          refine K.KW.region ?_
          refine K.RW.qs [.string (K.sb (((((((([99, 97, 108, 108, 32] : List UInt8) ++ (dg a.th.toNat)) ++ ([32] : List UInt8)) ++ (opNm.getD a.ok.toNat [])) ++ ([32] : List UInt8)) ++ (dg a.key.toNat)) ++ ([32] : List UInt8)) ++ (dg a.val.toNat)))] (by kernel_rfl) ?_
          refine K.RW.q rfl rfl (K.QR.sAdd (xs := (((((((([99, 97, 108, 108, 32] : List UInt8) ++ (dg a.th.toNat)) ++ ([32] : List UInt8)) ++ (opNm.getD a.ok.toNat [])) ++ ([32] : List UInt8)) ++ (dg a.key.toNat)) ++ ([32] : List UInt8)) ++ (dg a.val.toNat))) (ys := [10]) rfl rfl rfl (by (try simp only [List.length_append, List.length_cons, List.length_nil] at *); omega)) ?_
          refine K.RW.qs [.string (K.sb ((((((((([99, 97, 108, 108, 32] : List UInt8) ++ (dg a.th.toNat)) ++ ([32] : List UInt8)) ++ (opNm.getD a.ok.toNat [])) ++ ([32] : List UInt8)) ++ (dg a.key.toNat)) ++ ([32] : List UInt8)) ++ (dg a.val.toNat)) ++ ([10] : List UInt8)))] (by kernel_rfl) ?_
          refine K.RW.nil ?_
          refine K.thn_normal ?_
          refine K.KW.ret ?_
          refine K.thn_ret ?_
          have hk : a.k = 1 := by omega
          have hw : wordsA a n = [callN, dg a.th.toNat, opNm.getD a.ok.toNat []] ++ [dg a.key.toNat] ++ [dg a.val.toNat] := by
            rw [← opNm_up (by omega)]; unfold wordsA; rw [if_pos hk, show keyA a = _ from if_pos (by omega), show valA a = _ from if_pos (by omega)]; try rfl
          refine ⟨.inr rfl, rfl, (.string (K.sb ((((((((([99, 97, 108, 108, 32] : List UInt8) ++ (dg a.th.toNat)) ++ ([32] : List UInt8)) ++ (opNm.getD a.ok.toNat [])) ++ ([32] : List UInt8)) ++ (dg a.key.toNat)) ++ ([32] : List UInt8)) ++ (dg a.val.toNat)) ++ ([10] : List UInt8)))), K.res1 rfl rfl, [], ?_, hS.pick [1]⟩
          exact ⟨rfl, by unfold rowA; rw [hw]; simp [K.jn, callN, stepN, evictN, reviveN, crashN]⟩
        ·  -- no
          refine K.RW.q rfl (by kernel_rfl) (K.QR.nice (v := .bool ((a.ok : Int) == (6 : Int))) (by kernel_rfl) (congrArg Value.bool (beq_eq_false_iff_ne.2 h_7))) ?_
          refine K.RW.qs [.bool false] (by kernel_rfl) ?_
          refine K.RW.nil ?_
          refine K.thn_normal ?_
          refine K.KW.ifF rfl ?_
          refine K.KW.skip ?_
          refine K.thn_normal ?_
          refine K.KW.seq ?_
          -- 7 :179
          refine K.KW.region ?_
          refine K.RW.qs [.string (K.sb (((((([99, 97, 108, 108, 32] : List UInt8) ++ (dg a.th.toNat)) ++ ([32] : List UInt8)) ++ (opNm.getD a.ok.toNat [])) ++ ([32] : List UInt8)) ++ (dg a.key.toNat)))] (by kernel_rfl) ?_
          refine K.RW.q rfl rfl (K.QR.sAdd (xs := (((((([99, 97, 108, 108, 32] : List UInt8) ++ (dg a.th.toNat)) ++ ([32] : List UInt8)) ++ (opNm.getD a.ok.toNat [])) ++ ([32] : List UInt8)) ++ (dg a.key.toNat))) (ys := [10]) rfl rfl rfl (by (try simp only [List.length_append, List.length_cons, List.length_nil] at *); omega)) ?_
          refine K.RW.qs [.string (K.sb ((((((([99, 97, 108, 108, 32] : List UInt8) ++ (dg a.th.toNat)) ++ ([32] : List UInt8)) ++ (opNm.getD a.ok.toNat [])) ++ ([32] : List UInt8)) ++ (dg a.key.toNat)) ++ ([10] : List UInt8)))] (by kernel_rfl) ?_
          refine K.RW.nil ?_
          refine K.thn_normal ?_
          refine K.KW.ret ?_
          refine K.thn_ret ?_
          have hk : a.k = 1 := by omega
          have hw : wordsA a n = [callN, dg a.th.toNat, opNm.getD a.ok.toNat []] ++ [dg a.key.toNat] := by
            rw [← opNm_up (by omega)]; unfold wordsA; rw [if_pos hk, show keyA a = _ from if_pos (by omega), show valA a = _ from if_neg (by omega)]; try rfl
          refine ⟨.inr rfl, rfl, (.string (K.sb ((((((([99, 97, 108, 108, 32] : List UInt8) ++ (dg a.th.toNat)) ++ ([32] : List UInt8)) ++ (opNm.getD a.ok.toNat [])) ++ ([32] : List UInt8)) ++ (dg a.key.toNat)) ++ ([10] : List UInt8)))), K.res1 rfl rfl, [], ?_, hS.pick [1]⟩
          exact ⟨rfl, by unfold rowA; rw [hw]; simp [K.jn, callN, stepN, evictN, reviveN, crashN]⟩
    ·  -- no
      refine K.RW.q rfl rfl (K.QR.nice (v := .bool (decide ((a.ok : Int) > (2 : Int)))) (by kernel_rfl) (congrArg Value.bool (decide_eq_false h_5))) ?_
      refine K.RW.nil ?_
      refine K.thn_normal ?_
      refine K.KW.ifF rfl ?_
      refine K.KW.skip ?_
      refine K.thn_normal ?_
      refine K.KW.seq ?_
      refine K.KW.seq ?_
      -- 5 :176
      refine K.KW.region ?_
      refine K.RW.qs [.pointer (some ⟨r_1, 3, none⟩), .pointer (some ⟨r_1, 3, none⟩)] (by kernel_rfl) ?_
      refine K.RW.q rfl rfl (K.QR.ld1 (v := .int .i64 a.ok) rfl rfl (by kernel_rfl) ((hS.blk 0 rfl hg_3).cell rfl)) ?_
      by_cases h_8 : (a.ok : Int) = (1 : Int)
      ·  -- yes
        refine K.RW.q rfl rfl (K.QR.nice (v := .bool ((a.ok : Int) == (1 : Int))) (by kernel_rfl) (congrArg Value.bool (beq_iff_eq.2 h_8))) ?_
        refine K.RW.qs [.bool true] (by kernel_rfl) ?_
        refine K.RW.skip rfl (by kernel_rfl) ?_
        refine K.RW.skip rfl (by kernel_rfl) ?_
        refine K.RW.skip rfl (by kernel_rfl) ?_
        refine K.RW.skip rfl (by kernel_rfl) ?_
        refine K.RW.qs [.bool true] (by kernel_rfl) ?_
        refine K.RW.nil ?_
        refine K.thn_normal ?_
        refine K.KW.ifT rfl ?_
        -- 6 :177
        refine K.KW.region ?_
        refine K.RW.qs [.string (K.sb (((([99, 97, 108, 108, 32] : List UInt8) ++ (dg a.th.toNat)) ++ ([32] : List UInt8)) ++ (opNm.getD a.ok.toNat [])))] (by kernel_rfl) ?_
        refine K.RW.q rfl rfl (K.QR.sAdd (xs := (((([99, 97, 108, 108, 32] : List UInt8) ++ (dg a.th.toNat)) ++ ([32] : List UInt8)) ++ (opNm.getD a.ok.toNat []))) (ys := [32]) rfl rfl rfl (by (try simp only [List.length_append, List.length_cons, List.length_nil] at *); omega)) ?_
        refine K.RW.qs [.pointer (some ⟨r_1, 3, none⟩), .pointer (some ⟨r_1, 5, none⟩)] (by kernel_rfl) ?_
        refine K.RW.q rfl rfl (K.QR.ld1 (v := .int .u32 a.val) rfl rfl (by kernel_rfl) ((hS.blk 0 rfl hg_3).cell rfl)) ?_
        refine K.RW.q rfl rfl (K.QR.nice (v := .int .i64 (IntKind.i64.wrap a.val)) (by kernel_rfl) (congrArg (Value.int .i64) (IntWalk.i64_in _ (by omega)))) ?_
        refine K.RW.l rfl (K.OW.gcall hS [] [0, 1] [.int .i64 a.val] (rdigitsI_ok _ a.val (by omega) (by omega)) ?_)
        clear hS; rintro _ _ w ⟨rfl, rfl⟩ hS
        replace hS : K.Sat w0 [g_2, fr] w := hS
        refine K.RW.q rfl rfl (K.QR.sAdd (xs := ((((([99, 97, 108, 108, 32] : List UInt8) ++ (dg a.th.toNat)) ++ ([32] : List UInt8)) ++ (opNm.getD a.ok.toNat [])) ++ ([32] : List UInt8))) (ys := (dg a.val.toNat)) rfl rfl rfl (by (try simp only [List.length_append, List.length_cons, List.length_nil] at *); omega)) ?_
        refine K.RW.qs [.string (K.sb (((((([99, 97, 108, 108, 32] : List UInt8) ++ (dg a.th.toNat)) ++ ([32] : List UInt8)) ++ (opNm.getD a.ok.toNat [])) ++ ([32] : List UInt8)) ++ (dg a.val.toNat)))] (by kernel_rfl) ?_
        refine K.RW.nil ?_
        refine K.thn_normal ?_
        refine K.KW.seq ?_
        -- 7 :179
        refine K.KW.region ?_
        refine K.RW.qs [.string (K.sb (((((([99, 97, 108, 108, 32] : List UInt8) ++ (dg a.th.toNat)) ++ ([32] : List UInt8)) ++ (opNm.getD a.ok.toNat [])) ++ ([32] : List UInt8)) ++ (dg a.val.toNat)))] (by kernel_rfl) ?_
        refine K.RW.q rfl rfl (K.QR.sAdd (xs := (((((([99, 97, 108, 108, 32] : List UInt8) ++ (dg a.th.toNat)) ++ ([32] : List UInt8)) ++ (opNm.getD a.ok.toNat [])) ++ ([32] : List UInt8)) ++ (dg a.val.toNat))) (ys := [10]) rfl rfl rfl (by (try simp only [List.length_append, List.length_cons, List.length_nil] at *); omega)) ?_
        refine K.RW.qs [.string (K.sb ((((((([99, 97, 108, 108, 32] : List UInt8) ++ (dg a.th.toNat)) ++ ([32] : List UInt8)) ++ (opNm.getD a.ok.toNat [])) ++ ([32] : List UInt8)) ++ (dg a.val.toNat)) ++ ([10] : List UInt8)))] (by kernel_rfl) ?_
        refine K.RW.nil ?_
        refine K.thn_normal ?_
        refine K.KW.ret ?_
        refine K.thn_ret ?_
        have hk : a.k = 1 := by omega
        have hw : wordsA a n = [callN, dg a.th.toNat, opNm.getD a.ok.toNat []] ++ [dg a.val.toNat] := by
          rw [← opNm_up (by omega)]; unfold wordsA; rw [if_pos hk, show keyA a = _ from if_neg (by omega), show valA a = _ from if_pos (by omega)]; try rfl
        refine ⟨.inr rfl, rfl, (.string (K.sb ((((((([99, 97, 108, 108, 32] : List UInt8) ++ (dg a.th.toNat)) ++ ([32] : List UInt8)) ++ (opNm.getD a.ok.toNat [])) ++ ([32] : List UInt8)) ++ (dg a.val.toNat)) ++ ([10] : List UInt8)))), K.res1 rfl rfl, [], ?_, hS.pick [1]⟩
        exact ⟨rfl, by unfold rowA; rw [hw]; simp [K.jn, callN, stepN, evictN, reviveN, crashN]⟩
      ·  -- no
        refine K.RW.q rfl rfl (K.QR.nice (v := .bool ((a.ok : Int) == (1 : Int))) (by kernel_rfl) (congrArg Value.bool (beq_eq_false_iff_ne.2 h_8))) ?_
        refine K.RW.qs [.bool false, .pointer (some ⟨r_1, 3, none⟩), .pointer (some ⟨r_1, 3, none⟩)] (by kernel_rfl) ?_
        refine K.RW.q rfl (by kernel_rfl) (K.QR.ld1 (v := .int .i64 a.ok) rfl rfl (by kernel_rfl) ((hS.blk 0 rfl hg_3).cell rfl)) ?_
        by_cases h_9 : (a.ok : Int) = (6 : Int)
        ·  -- yes
          refine K.RW.q rfl (by kernel_rfl) (K.QR.nice (v := .bool ((a.ok : Int) == (6 : Int))) (by kernel_rfl) (congrArg Value.bool (beq_iff_eq.2 h_9))) ?_
          refine K.RW.qs [.bool true] (by kernel_rfl) ?_
          refine K.RW.nil ?_
          refine K.thn_normal ?_
          refine K.KW.ifT rfl ?_
          -- 6 :177
          refine K.KW.region ?_
          refine K.RW.qs [.string (K.sb (((([99, 97, 108, 108, 32] : List UInt8) ++ (dg a.th.toNat)) ++ ([32] : List UInt8)) ++ (opNm.getD a.ok.toNat [])))] (by kernel_rfl) ?_
          refine K.RW.q rfl rfl (K.QR.sAdd (xs := (((([99, 97, 108, 108, 32] : List UInt8) ++ (dg a.th.toNat)) ++ ([32] : List UInt8)) ++ (opNm.getD a.ok.toNat []))) (ys := [32]) rfl rfl rfl (by (try simp only [List.length_append, List.length_cons, List.length_nil] at *); omega)) ?_
          refine K.RW.qs [.pointer (some ⟨r_1, 3, none⟩), .pointer (some ⟨r_1, 5, none⟩)] (by kernel_rfl) ?_
          refine K.RW.q rfl rfl (K.QR.ld1 (v := .int .u32 a.val) rfl rfl (by kernel_rfl) ((hS.blk 0 rfl hg_3).cell rfl)) ?_
          refine K.RW.q rfl rfl (K.QR.nice (v := .int .i64 (IntKind.i64.wrap a.val)) (by kernel_rfl) (congrArg (Value.int .i64) (IntWalk.i64_in _ (by omega)))) ?_
          refine K.RW.l rfl (K.OW.gcall hS [] [0, 1] [.int .i64 a.val] (rdigitsI_ok _ a.val (by omega) (by omega)) ?_)
          clear hS; rintro _ _ w ⟨rfl, rfl⟩ hS
          replace hS : K.Sat w0 [g_2, fr] w := hS
          refine K.RW.q rfl rfl (K.QR.sAdd (xs := ((((([99, 97, 108, 108, 32] : List UInt8) ++ (dg a.th.toNat)) ++ ([32] : List UInt8)) ++ (opNm.getD a.ok.toNat [])) ++ ([32] : List UInt8))) (ys := (dg a.val.toNat)) rfl rfl rfl (by (try simp only [List.length_append, List.length_cons, List.length_nil] at *); omega)) ?_
          refine K.RW.qs [.string (K.sb (((((([99, 97, 108, 108, 32] : List UInt8) ++ (dg a.th.toNat)) ++ ([32] : List UInt8)) ++ (opNm.getD a.ok.toNat [])) ++ ([32] : List UInt8)) ++ (dg a.val.toNat)))] (by kernel_rfl) ?_
          refine K.RW.nil ?_
          refine K.thn_normal ?_
          refine K.KW.seq ?_
          -- 7 :179
          refine K.KW.region ?_
          refine K.RW.qs [.string (K.sb (((((([99, 97, 108, 108, 32] : List UInt8) ++ (dg a.th.toNat)) ++ ([32] : List UInt8)) ++ (opNm.getD a.ok.toNat [])) ++ ([32] : List UInt8)) ++ (dg a.val.toNat)))] (by kernel_rfl) ?_
          refine K.RW.q rfl rfl (K.QR.sAdd (xs := (((((([99, 97, 108, 108, 32] : List UInt8) ++ (dg a.th.toNat)) ++ ([32] : List UInt8)) ++ (opNm.getD a.ok.toNat [])) ++ ([32] : List UInt8)) ++ (dg a.val.toNat))) (ys := [10]) rfl rfl rfl (by (try simp only [List.length_append, List.length_cons, List.length_nil] at *); omega)) ?_
          refine K.RW.qs [.string (K.sb ((((((([99, 97, 108, 108, 32] : List UInt8) ++ (dg a.th.toNat)) ++ ([32] : List UInt8)) ++ (opNm.getD a.ok.toNat [])) ++ ([32] : List UInt8)) ++ (dg a.val.toNat)) ++ ([10] : List UInt8)))] (by kernel_rfl) ?_
          refine K.RW.nil ?_
          refine K.thn_normal ?_
          refine K.KW.ret ?_
          refine K.thn_ret ?_
          have hk : a.k = 1 := by omega
          have hw : wordsA a n = [callN, dg a.th.toNat, opNm.getD a.ok.toNat []] ++ [dg a.val.toNat] := by
            rw [← opNm_up (by omega)]; unfold wordsA; rw [if_pos hk, show keyA a = _ from if_neg (by omega), show valA a = _ from if_pos (by omega)]; try rfl
          refine ⟨.inr rfl, rfl, (.string (K.sb ((((((([99, 97, 108, 108, 32] : List UInt8) ++ (dg a.th.toNat)) ++ ([32] : List UInt8)) ++ (opNm.getD a.ok.toNat [])) ++ ([32] : List UInt8)) ++ (dg a.val.toNat)) ++ ([10] : List UInt8)))), K.res1 rfl rfl, [], ?_, hS.pick [1]⟩
          exact ⟨rfl, by unfold rowA; rw [hw]; simp [K.jn, callN, stepN, evictN, reviveN, crashN]⟩
        ·  -- no
          refine K.RW.q rfl (by kernel_rfl) (K.QR.nice (v := .bool ((a.ok : Int) == (6 : Int))) (by kernel_rfl) (congrArg Value.bool (beq_eq_false_iff_ne.2 h_9))) ?_
          refine K.RW.qs [.bool false] (by kernel_rfl) ?_
          refine K.RW.nil ?_
          refine K.thn_normal ?_
          refine K.KW.ifF rfl ?_
          refine K.KW.skip ?_
          refine K.thn_normal ?_
          refine K.KW.seq ?_
          -- 7 :179
          refine K.KW.region ?_
          refine K.RW.qs [.string (K.sb (((([99, 97, 108, 108, 32] : List UInt8) ++ (dg a.th.toNat)) ++ ([32] : List UInt8)) ++ (opNm.getD a.ok.toNat [])))] (by kernel_rfl) ?_
          refine K.RW.q rfl rfl (K.QR.sAdd (xs := (((([99, 97, 108, 108, 32] : List UInt8) ++ (dg a.th.toNat)) ++ ([32] : List UInt8)) ++ (opNm.getD a.ok.toNat []))) (ys := [10]) rfl rfl rfl (by (try simp only [List.length_append, List.length_cons, List.length_nil] at *); omega)) ?_
          refine K.RW.qs [.string (K.sb ((((([99, 97, 108, 108, 32] : List UInt8) ++ (dg a.th.toNat)) ++ ([32] : List UInt8)) ++ (opNm.getD a.ok.toNat [])) ++ ([10] : List UInt8)))] (by kernel_rfl) ?_
          refine K.RW.nil ?_
          refine K.thn_normal ?_
          refine K.KW.ret ?_
          refine K.thn_ret ?_
          have hk : a.k = 1 := by omega
          have hw : wordsA a n = [callN, dg a.th.toNat, opNm.getD a.ok.toNat []] := by
            rw [← opNm_up (by omega)]; unfold wordsA; rw [if_pos hk, show keyA a = _ from if_neg (by omega), show valA a = _ from if_neg (by omega)]; try rfl
          refine ⟨.inr rfl, rfl, (.string (K.sb ((((([99, 97, 108, 108, 32] : List UInt8) ++ (dg a.th.toNat)) ++ ([32] : List UInt8)) ++ (opNm.getD a.ok.toNat [])) ++ ([10] : List UInt8)))), K.res1 rfl rfl, [], ?_, hS.pick [1]⟩
          exact ⟨rfl, by unfold rowA; rw [hw]; simp [K.jn, callN, stepN, evictN, reviveN, crashN]⟩
  ·  -- no
    refine K.RW.q rfl rfl (K.QR.nice (v := .bool ((a.k : Int) == (1 : Int))) (by kernel_rfl) (congrArg Value.bool (beq_eq_false_iff_ne.2 h_4))) ?_
    refine K.RW.nil ?_
    refine K.thn_normal ?_
    refine K.KW.ifF rfl ?_
    refine K.KW.skip ?_
    refine K.thn_normal ?_
    refine K.KW.seq ?_
    refine K.KW.seq ?_
    -- 8 :181
    refine K.KW.region ?_
    refine K.RW.qs [.pointer (some ⟨r_1, 0, none⟩)] (by kernel_rfl) ?_
    refine K.RW.q rfl rfl (K.QR.ld1 (v := .int .i64 a.k) rfl rfl (by kernel_rfl) ((hS.blk 0 rfl hg_3).cell rfl)) ?_
    by_cases h_10 : (a.k : Int) = (2 : Int)
    ·  -- yes
      refine K.RW.q rfl rfl (K.QR.nice (v := .bool ((a.k : Int) == (2 : Int))) (by kernel_rfl) (congrArg Value.bool (beq_iff_eq.2 h_10))) ?_
      refine K.RW.nil ?_
      refine K.thn_normal ?_
      refine K.KW.ifT rfl ?_
      refine K.KW.seq ?_
      -- 9 :182
      refine K.KW.region ?_
      refine K.RW.qs [.pointer (some ⟨r_1, 1, none⟩)] (by kernel_rfl) ?_
      refine K.RW.q rfl rfl (K.QR.ld1 (v := .int .i64 a.th) rfl rfl (by kernel_rfl) ((hS.blk 0 rfl hg_3).cell rfl)) ?_
      refine K.RW.l rfl (K.OW.gcall hS [] [0, 1] [.int .i64 a.th] (rdigitsI_ok _ a.th (by omega) (by omega)) ?_)
      clear hS; rintro _ _ w ⟨rfl, rfl⟩ hS
      replace hS : K.Sat w0 [g_2, fr] w := hS
      refine K.RW.q rfl rfl (K.QR.sAdd (xs := [115, 116, 101, 112, 32]) (ys := (dg a.th.toNat)) rfl rfl rfl (by (try simp only [List.length_append, List.length_cons, List.length_nil] at *); omega)) ?_
      refine K.RW.q rfl rfl (K.QR.sAdd (xs := (([115, 116, 101, 112, 32] : List UInt8) ++ (dg a.th.toNat))) (ys := [32]) rfl rfl rfl (by (try simp only [List.length_append, List.length_cons, List.length_nil] at *); omega)) ?_
      refine K.RW.qs [.int .i64 ((n : Nat) : Int)] (by kernel_rfl) ?_
      refine K.RW.l rfl (K.OW.gcall hS [] [0, 1] [.int .i64 ((n : Nat) : Int)] (rdigits_ok _ n (by omega)) ?_)
      clear hS; rintro _ _ w ⟨rfl, rfl⟩ hS
      replace hS : K.Sat w0 [g_2, fr] w := hS
      refine K.RW.q rfl rfl (K.QR.sAdd (xs := ((([115, 116, 101, 112, 32] : List UInt8) ++ (dg a.th.toNat)) ++ ([32] : List UInt8))) (ys := (dg n)) rfl rfl rfl (by (try simp only [List.length_append, List.length_cons, List.length_nil] at *); omega)) ?_
      refine K.RW.q rfl rfl (K.QR.sAdd (xs := (((([115, 116, 101, 112, 32] : List UInt8) ++ (dg a.th.toNat)) ++ ([32] : List UInt8)) ++ (dg n))) (ys := [10]) rfl rfl rfl (by (try simp only [List.length_append, List.length_cons, List.length_nil] at *); omega)) ?_
      refine K.RW.qs [.string (K.sb ((((([115, 116, 101, 112, 32] : List UInt8) ++ (dg a.th.toNat)) ++ ([32] : List UInt8)) ++ (dg n)) ++ ([10] : List UInt8)))] (by kernel_rfl) ?_
      refine K.RW.nil ?_
      refine K.thn_normal ?_
      refine K.KW.ret ?_
      refine K.thn_ret ?_
      have hw : wordsA a n = [stepN, dg a.th.toNat, dg n] := by unfold wordsA; rw [if_neg (by omega), if_pos (by omega)]
      refine ⟨.inr rfl, rfl, (.string (K.sb ((((([115, 116, 101, 112, 32] : List UInt8) ++ (dg a.th.toNat)) ++ ([32] : List UInt8)) ++ (dg n)) ++ ([10] : List UInt8)))), K.res1 rfl rfl, [], ?_, hS.pick [1]⟩
      exact ⟨rfl, by unfold rowA; rw [hw]; simp [K.jn, callN, stepN, evictN, reviveN, crashN]⟩
    ·  -- no
      refine K.RW.q rfl rfl (K.QR.nice (v := .bool ((a.k : Int) == (2 : Int))) (by kernel_rfl) (congrArg Value.bool (beq_eq_false_iff_ne.2 h_10))) ?_
      refine K.RW.nil ?_
      refine K.thn_normal ?_
      refine K.KW.ifF rfl ?_
      refine K.KW.skip ?_
      refine K.thn_normal ?_
      refine K.KW.seq ?_
      refine K.KW.seq ?_
      -- 10 :184
      refine K.KW.region ?_
      refine K.RW.qs [.pointer (some ⟨r_1, 0, none⟩)] (by kernel_rfl) ?_
      refine K.RW.q rfl rfl (K.QR.ld1 (v := .int .i64 a.k) rfl rfl (by kernel_rfl) ((hS.blk 0 rfl hg_3).cell rfl)) ?_
      by_cases h_11 : (a.k : Int) = (3 : Int)
      ·  -- yes
        refine K.RW.q rfl rfl (K.QR.nice (v := .bool ((a.k : Int) == (3 : Int))) (by kernel_rfl) (congrArg Value.bool (beq_iff_eq.2 h_11))) ?_
        refine K.RW.nil ?_
        refine K.thn_normal ?_
        refine K.KW.ifT rfl ?_
        refine K.KW.seq ?_
        -- 11 :185
        refine K.KW.region ?_
        refine K.RW.qs [.pointer (some ⟨r_1, 2, none⟩)] (by kernel_rfl) ?_
        refine K.RW.q rfl rfl (K.QR.ld1 (v := .int .i64 a.ln) rfl rfl (by kernel_rfl) ((hS.blk 0 rfl hg_3).cell rfl)) ?_
        refine K.RW.l rfl (K.OW.gcall hS [] [0, 1] [.int .i64 a.ln] (rdigitsI_ok _ a.ln (by omega) (by omega)) ?_)
        clear hS; rintro _ _ w ⟨rfl, rfl⟩ hS
        replace hS : K.Sat w0 [g_2, fr] w := hS
        refine K.RW.q rfl rfl (K.QR.sAdd (xs := [101, 118, 105, 99, 116, 32]) (ys := (dg a.ln.toNat)) rfl rfl rfl (by (try simp only [List.length_append, List.length_cons, List.length_nil] at *); omega)) ?_
        refine K.RW.q rfl rfl (K.QR.sAdd (xs := (([101, 118, 105, 99, 116, 32] : List UInt8) ++ (dg a.ln.toNat))) (ys := [10]) rfl rfl rfl (by (try simp only [List.length_append, List.length_cons, List.length_nil] at *); omega)) ?_
        refine K.RW.qs [.string (K.sb ((([101, 118, 105, 99, 116, 32] : List UInt8) ++ (dg a.ln.toNat)) ++ ([10] : List UInt8)))] (by kernel_rfl) ?_
        refine K.RW.nil ?_
        refine K.thn_normal ?_
        refine K.KW.ret ?_
        refine K.thn_ret ?_
        have hw : wordsA a n = [evictN, dg a.ln.toNat] := by unfold wordsA; rw [if_neg (by omega), if_neg (by omega), if_pos (by omega)]
        refine ⟨.inr rfl, rfl, (.string (K.sb ((([101, 118, 105, 99, 116, 32] : List UInt8) ++ (dg a.ln.toNat)) ++ ([10] : List UInt8)))), K.res1 rfl rfl, [], ?_, hS.pick [1]⟩
        exact ⟨rfl, by unfold rowA; rw [hw]; simp [K.jn, callN, stepN, evictN, reviveN, crashN]⟩
      ·  -- no
        refine K.RW.q rfl rfl (K.QR.nice (v := .bool ((a.k : Int) == (3 : Int))) (by kernel_rfl) (congrArg Value.bool (beq_eq_false_iff_ne.2 h_11))) ?_
        refine K.RW.nil ?_
        refine K.thn_normal ?_
        refine K.KW.ifF rfl ?_
        refine K.KW.skip ?_
        refine K.thn_normal ?_
        refine K.KW.seq ?_
        refine K.KW.seq ?_
        -- 12 :187
        refine K.KW.region ?_
        refine K.RW.qs [.pointer (some ⟨r_1, 0, none⟩)] (by kernel_rfl) ?_
        refine K.RW.q rfl rfl (K.QR.ld1 (v := .int .i64 a.k) rfl rfl (by kernel_rfl) ((hS.blk 0 rfl hg_3).cell rfl)) ?_
        by_cases h_12 : (a.k : Int) = (4 : Int)
        ·  -- yes
          refine K.RW.q rfl rfl (K.QR.nice (v := .bool ((a.k : Int) == (4 : Int))) (by kernel_rfl) (congrArg Value.bool (beq_iff_eq.2 h_12))) ?_
          refine K.RW.nil ?_
          refine K.thn_normal ?_
          refine K.KW.ifT rfl ?_
          refine K.KW.seq ?_
          -- 13 :188
          refine K.KW.region ?_
          refine K.RW.qs [.string (K.sb [99, 114, 97, 115, 104, 10])] (by kernel_rfl) ?_
          refine K.RW.nil ?_
          refine K.thn_normal ?_
          refine K.KW.ret ?_
          refine K.thn_ret ?_
          have hw : wordsA a n = [crashN] := by unfold wordsA; rw [if_neg (by omega), if_neg (by omega), if_neg (by omega), if_neg (by omega)]
          refine ⟨.inr rfl, rfl, (.string (K.sb [99, 114, 97, 115, 104, 10])), K.res1 rfl rfl, [], ?_, hS.pick [1]⟩
          exact ⟨rfl, by unfold rowA; rw [hw]; simp [K.jn, callN, stepN, evictN, reviveN, crashN]⟩
        ·  -- no
          refine K.RW.q rfl rfl (K.QR.nice (v := .bool ((a.k : Int) == (4 : Int))) (by kernel_rfl) (congrArg Value.bool (beq_eq_false_iff_ne.2 h_12))) ?_
          refine K.RW.nil ?_
          refine K.thn_normal ?_
          refine K.KW.ifF rfl ?_
          refine K.KW.skip ?_
          refine K.thn_normal ?_
          refine K.KW.seq ?_
          -- 14 :190
          refine K.KW.region ?_
          refine K.RW.qs [.int .i64 ((n : Nat) : Int)] (by kernel_rfl) ?_
          refine K.RW.l rfl (K.OW.gcall hS [] [0, 1] [.int .i64 ((n : Nat) : Int)] (rdigits_ok _ n (by omega)) ?_)
          clear hS; rintro _ _ w ⟨rfl, rfl⟩ hS
          replace hS : K.Sat w0 [g_2, fr] w := hS
          refine K.RW.q rfl rfl (K.QR.sAdd (xs := [114, 101, 118, 105, 118, 101, 32]) (ys := (dg n)) rfl rfl rfl (by (try simp only [List.length_append, List.length_cons, List.length_nil] at *); omega)) ?_
          refine K.RW.q rfl rfl (K.QR.sAdd (xs := (([114, 101, 118, 105, 118, 101, 32] : List UInt8) ++ (dg n))) (ys := [10]) rfl rfl rfl (by (try simp only [List.length_append, List.length_cons, List.length_nil] at *); omega)) ?_
          refine K.RW.qs [.string (K.sb ((([114, 101, 118, 105, 118, 101, 32] : List UInt8) ++ (dg n)) ++ ([10] : List UInt8)))] (by kernel_rfl) ?_
          refine K.RW.nil ?_
          refine K.thn_normal ?_
          refine K.KW.ret ?_
          have hw : wordsA a n = [reviveN, dg n] := by unfold wordsA; rw [if_neg (by omega), if_neg (by omega), if_neg (by omega), if_pos (by omega)]
          refine ⟨.inr rfl, rfl, (.string (K.sb ((([114, 101, 118, 105, 118, 101, 32] : List UInt8) ++ (dg n)) ++ ([10] : List UInt8)))), K.res1 rfl rfl, [], ?_, hS.pick [1]⟩
          exact ⟨rfl, by unfold rowA; rw [hw]; simp [K.jn, callN, stepN, evictN, reviveN, crashN]⟩
set_option maxHeartbeats 8000000 in
set_option maxRecDepth 100000 in
theorem dwr_ok (w0 : World) (a : Option Addr) (cap : Nat) (L : List ActM) (hm : L.length ≤ 1000000) (haf : allAf L) (hall : allRt L) (gx : K.Cs) (hx : ∀ w, K.Sat w0 [gx] w → K.RowE w a L.length 6 (fun i => cAct (L.getD i act0))) :
    K.GC Tryd.prog w0 28 #[.slice a L.length cap] [gx] (fun v post => post = [gx] ∧ v = .string (K.sb (wrM L))) := by
  refine K.GC.mk (n := 63) Tryd.func28 rfl rfl [.slice a L.length cap] rfl rfl ?_
  intro fr w hS
  replace hS : K.Sat w0 [gx, fr] w := hS
  refine K.KW.seq ?_
  -- 0 :194
  refine K.KW.region ?_
  refine K.RW.qs [.string (K.sb [])] (by kernel_rfl) ?_
  refine K.RW.nil ?_
  refine K.thn_normal ?_
  refine K.KW.seq ?_
  -- 1 :195
  refine K.KW.region ?_
  refine K.RW.qs [.string (K.sb [])] (by kernel_rfl) ?_
  refine K.RW.nil ?_
  refine K.thn_normal ?_
  refine K.KW.seq ?_
  -- 2 :196
  refine K.KW.region ?_
  refine K.RW.qs [.int .i64 0] (by kernel_rfl) ?_
  refine K.RW.nil ?_
  refine K.thn_normal ?_
  refine K.KW.seq ?_
  refine K.KW.block ?_
  refine K.KW.loop (fun m_ F_ w_ => ∃ (i : Nat) (o : List UInt8), m_ = L.length - i ∧ K.Sl F_ [(0, .slice a L.length cap), (2, .string (K.sb [])), (3, .string (K.sb o)), (4, .int .i64 ((i : Nat) : Int)), (63, undef)] ∧ i ≤ L.length ∧ o ++ wrM (L.drop i) = wrM L ∧ o.length ≤ 110 * i ∧ K.Sat w0 [gx, fr] w_) ((fun (i : Nat) (o : List UInt8) => L.length - i) 0 []) ?_ ?_
  · -- begins
    exact ⟨0, [], rfl, ⟨by rfl, by rfl, by rfl, by rfl, by rfl, trivial⟩, (by omega), (rfl), (by simp), hS.pick [0, 1]⟩
  · -- a round
    clear hS
    intro m_1 F_2 w hI
    obtain ⟨i, o, rfl, sl_3, p_4, ho, hol, hS⟩ := hI
    rw [← K.Sl.puts sl_3]; clear sl_3
    refine K.KW.seq ?_
    refine K.KW.seq ?_
    -- 3 :197
    refine K.KW.region ?_
    refine K.RW.qs [.int .i64 ((i : Nat) : Int), .slice a L.length cap] (by kernel_rfl) ?_
    refine K.RW.q rfl rfl (K.QR.len (P := Tryd.prog) rfl rfl Tryd.underlying54) ?_
    by_cases h_5 : (((i : Nat) : Int) : Int) < (((L.length : Nat) : Int) : Int)
    ·  -- yes
      refine K.RW.q rfl rfl (K.QR.nice (v := .bool (decide ((((i : Nat) : Int) : Int) < (((L.length : Nat) : Int) : Int)))) (by kernel_rfl) (congrArg Value.bool (decide_eq_true h_5))) ?_
      refine K.RW.nil ?_
      refine K.thn_normal ?_
      refine K.KW.ifT rfl ?_
      refine K.KW.skip ?_
      refine K.thn_normal ?_
      refine K.KW.block ?_
      refine K.KW.seq ?_
      -- 4 :198
      refine K.KW.region ?_
      refine K.RW.qs [.int .i64 1] (by kernel_rfl) ?_
      refine K.RW.nil ?_
      refine K.thn_normal ?_
      refine K.KW.seq ?_
      refine K.KW.block ?_
      refine K.KW.loop (fun m_ F_ w_ => ∃ (n : Nat), m_ = L.length - n ∧ K.Sl F_ [(0, .slice a L.length cap), (2, .string (K.sb [])), (3, .string (K.sb o)), (4, .int .i64 ((i : Nat) : Int)), (5, .int .i64 ((n : Nat) : Int)), (63, undef)] ∧ (1 ≤ n ∧ i + n ≤ L.length ∧ n ≤ 10000) ∧ (∀ q, q < n → L.getD (i + q) act0 = L.getD i act0) ∧ (kind25 (L.getD i act0) ∨ n = 1) ∧ K.Sat w0 [gx, fr] w_) ((fun (n : Nat) => L.length - n) 1) ?_ ?_
      · -- begins
        exact ⟨1, rfl, ⟨by rfl, by rfl, by rfl, by rfl, by rfl, by rfl, trivial⟩, (by omega), (fun q hq => by rw [show q = 0 by omega]; rfl), (.inr rfl), hS.pick [0, 1]⟩
      · -- a round
        clear hS
        intro m_6 F_7 w hI
        obtain ⟨n, rfl, sl_8, p_9, hsm, hkn, hS⟩ := hI
        rw [← K.Sl.puts sl_8]; clear sl_8
        refine K.KW.seq ?_
        refine K.KW.seq ?_
        -- 5 :199
        obtain ⟨b_10, of_11, rfl, _⟩ := (hx _ (hS.pick [0])).at_ (by omega)
        refine K.KW.gdrawn [0] hS (by kernel_rfl) ?_
        clear hS; intro w hS
        refine K.DW.q 0 (by kernel_rfl) rfl rfl (by kernel_rfl) rfl (fun w hS => K.QR.k (v := .slice (some ⟨b_10, of_11, none⟩) L.length cap) (by kernel_rfl)) (hS.pick [0]) ?_
        refine K.DW.l 1 rfl (by kernel_rfl) rfl (K.OW.q rfl (K.QR.k (v := .int .i64 ((i : Nat) : Int)) (by kernel_rfl)) ?_)
        refine ⟨.inl (hS.pick [0]), ?_⟩
        refine K.DW.l 2 rfl (by kernel_rfl) rfl (K.OW.q rfl (K.QR.ix (of_11 + i * 6) 6 rfl rfl rfl Tryd.underlying54 (by kernel_rfl) (by omega) (by first | (simp; done) | omega | (simp; omega))) ?_)
        refine ⟨.inl (hS.pick [0]), ?_⟩
        refine K.DW.l 3 rfl (by kernel_rfl) rfl (K.OW.q rfl (K.QR.k (v := .pointer (some ⟨b_10, of_11 + i * 6, none⟩)) (by kernel_rfl)) ?_)
        refine ⟨.inl (hS.pick [0]), ?_⟩
        refine K.DW.l 4 rfl (by kernel_rfl) rfl (K.OW.q rfl (K.QR.ld1 (v := .int .i64 ((L.getD i act0).k)) rfl rfl (by kernel_rfl) ((hx _ (hS.pick [0])).ld i (by omega) 0 _ rfl)) ?_)
        refine ⟨.inl (hS.pick [0]), ?_⟩
        by_cases h_12 : ((L.getD i act0).k : Int) = (2 : Int)
        ·  -- yes
          refine K.DW.l 5 rfl (by kernel_rfl) rfl (K.OW.q rfl (K.QR.nice (v := .bool (((L.getD i act0).k : Int) == (2 : Int))) (by kernel_rfl) (congrArg Value.bool (beq_iff_eq.2 h_12))) ?_)
          refine ⟨.inl (hS.pick [0]), ?_⟩
          refine K.DW.l 6 rfl (by kernel_rfl) rfl (K.OW.q rfl (K.QR.k (v := .bool true) (by kernel_rfl)) ?_)
          refine ⟨.inl (hS.pick [0]), ?_⟩
          refine K.DW.skip 7 (by kernel_rfl) rfl rfl (by kernel_rfl) (by kernel_rfl) (hS.pick [0]) ?_
          refine K.DW.skip 8 (by kernel_rfl) rfl rfl (by kernel_rfl) (by kernel_rfl) (hS.pick [0]) ?_
          refine K.DW.skip 9 (by kernel_rfl) rfl rfl (by kernel_rfl) (by kernel_rfl) (hS.pick [0]) ?_
          refine K.DW.skip 10 (by kernel_rfl) rfl rfl (by kernel_rfl) (by kernel_rfl) (hS.pick [0]) ?_
          refine K.DW.skip 11 (by kernel_rfl) rfl rfl (by kernel_rfl) (by kernel_rfl) (hS.pick [0]) ?_
          refine K.DW.skip 12 (by kernel_rfl) rfl rfl (by kernel_rfl) (by kernel_rfl) (hS.pick [0]) ?_
          refine K.DW.l 13 rfl (by kernel_rfl) rfl (K.OW.q rfl (K.QR.k (v := .bool true) (by kernel_rfl)) ?_)
          refine ⟨.inl (hS.pick [0]), ?_⟩
          refine K.DW.l 14 rfl (by kernel_rfl) rfl (K.OW.q rfl (K.QR.k (v := .bool true) (by kernel_rfl)) ?_)
          refine ⟨.inl (hS.pick [0]), ?_⟩
          refine K.DW.q 15 (by kernel_rfl) rfl rfl (by kernel_rfl) (by kernel_rfl) (fun w hS => K.QR.k (v := .int .i64 ((i : Nat) : Int)) (by kernel_rfl)) (hS.pick [0]) ?_
          refine K.DW.q 16 (by kernel_rfl) rfl rfl (by kernel_rfl) (by kernel_rfl) (fun w hS => K.QR.k (v := .int .i64 ((n : Nat) : Int)) (by kernel_rfl)) (hS.pick [0]) ?_
          refine K.DW.q 17 (by kernel_rfl) rfl rfl (by kernel_rfl) (by kernel_rfl) (fun w hS => K.QR.n64 ((((i : Nat) : Int) : Int) + (((n : Nat) : Int) : Int)) ((i + n : Nat) : Int) (by kernel_rfl) (by omega)) (hS.pick [0]) ?_
          refine K.DW.l 18 rfl (by kernel_rfl) (by kernel_rfl) (K.OW.q rfl (K.QR.k (v := .slice (some ⟨b_10, of_11, none⟩) L.length cap) (by kernel_rfl)) ?_)
          refine ⟨.inl (hS.pick [0]), ?_⟩
          refine K.DW.l 19 rfl (by kernel_rfl) (by kernel_rfl) (K.OW.q rfl (K.QR.len (P := Tryd.prog) rfl rfl Tryd.underlying54) ?_)
          refine ⟨.inl (hS.pick [0]), ?_⟩
          by_cases h_13 : (((i + n : Nat) : Int) : Int) < (((L.length : Nat) : Int) : Int)
          ·  -- yes
            refine K.DW.l 20 rfl (by kernel_rfl) (by kernel_rfl) (K.OW.q rfl (K.QR.nice (v := .bool (decide ((((i + n : Nat) : Int) : Int) < (((L.length : Nat) : Int) : Int)))) (by kernel_rfl) (congrArg Value.bool (decide_eq_true h_13))) ?_)
            refine ⟨.inl (hS.pick [0]), ?_⟩
            refine K.DW.l 21 rfl (by kernel_rfl) rfl (K.OW.q rfl (K.QR.k (v := .bool true) (by kernel_rfl)) ?_)
            refine ⟨.inl (hS.pick [0]), ?_⟩
            refine K.DW.l 22 rfl (by kernel_rfl) rfl (K.OW.q rfl (K.QR.k (v := .bool true) (by kernel_rfl)) ?_)
            refine ⟨.inl (hS.pick [0]), ?_⟩
            refine K.DW.l 23 rfl (by kernel_rfl) (by kernel_rfl) (K.OW.q rfl (K.QR.k (v := .int .i64 ((n : Nat) : Int)) (by kernel_rfl)) ?_)
            refine ⟨.inl (hS.pick [0]), ?_⟩
            by_cases h_14 : (((n : Nat) : Int) : Int) < (10000 : Int)
            ·  -- yes
              refine K.DW.l 24 rfl (by kernel_rfl) (by kernel_rfl) (K.OW.q rfl (K.QR.nice (v := .bool (decide ((((n : Nat) : Int) : Int) < (10000 : Int)))) (by kernel_rfl) (congrArg Value.bool (decide_eq_true h_14))) ?_)
              refine ⟨.inl (hS.pick [0]), ?_⟩
              refine K.DW.l 25 rfl (by kernel_rfl) rfl (K.OW.q rfl (K.QR.k (v := .bool true) (by kernel_rfl)) ?_)
              refine ⟨.inl (hS.pick [0]), ?_⟩
              refine K.DW.l 26 rfl (by kernel_rfl) rfl (K.OW.q rfl (K.QR.k (v := .bool true) (by kernel_rfl)) ?_)
              refine ⟨.inl (hS.pick [0]), ?_⟩
              refine K.DW.q 27 (by kernel_rfl) rfl rfl (by kernel_rfl) (by kernel_rfl) (fun w hS => K.QR.k (v := .slice (some ⟨b_10, of_11, none⟩) L.length cap) (by kernel_rfl)) (hS.pick [0]) ?_
              refine K.DW.q 28 (by kernel_rfl) rfl rfl (by kernel_rfl) (by kernel_rfl) (fun w hS => K.QR.k (v := .int .i64 ((i : Nat) : Int)) (by kernel_rfl)) (hS.pick [0]) ?_
              refine K.DW.q 29 (by kernel_rfl) rfl rfl (by kernel_rfl) (by kernel_rfl) (fun w hS => K.QR.k (v := .int .i64 ((n : Nat) : Int)) (by kernel_rfl)) (hS.pick [0]) ?_
              refine K.DW.q 30 (by kernel_rfl) rfl rfl (by kernel_rfl) (by kernel_rfl) (fun w hS => K.QR.n64 ((((i : Nat) : Int) : Int) + (((n : Nat) : Int) : Int)) ((i + n : Nat) : Int) (by kernel_rfl) (by omega)) (hS.pick [0]) ?_
              refine K.DW.q 31 (by kernel_rfl) rfl rfl (by kernel_rfl) (by kernel_rfl) (fun w hS => K.QR.ix (of_11 + (i + n) * 6) 6 rfl rfl rfl Tryd.underlying54 (by kernel_rfl) (by omega) (by first | (simp; done) | omega | (simp; omega))) (hS.pick [0]) ?_
              refine K.DW.q 32 (by kernel_rfl) rfl rfl (by kernel_rfl) (by kernel_rfl) (fun w hS => K.QR.ldN [.int .i64 ((L.getD (i + n) act0).k), .int .i64 ((L.getD (i + n) act0).th), .int .i64 ((L.getD (i + n) act0).ln), .int .i64 ((L.getD (i + n) act0).ok), .int .u32 ((L.getD (i + n) act0).key), .int .u32 ((L.getD (i + n) act0).val)] rfl rfl (by kernel_rfl) (by kernel_rfl) (K.cells (K.cl ((hx _ (hS.pick [0])).ld (i + n) (by omega) 0 _ rfl) (K.cl ((hx _ (hS.pick [0])).ld (i + n) (by omega) 1 _ rfl) (K.cl ((hx _ (hS.pick [0])).ld (i + n) (by omega) 2 _ rfl) (K.cl ((hx _ (hS.pick [0])).ld (i + n) (by omega) 3 _ rfl) (K.cl ((hx _ (hS.pick [0])).ld (i + n) (by omega) 4 _ rfl) (K.cl ((hx _ (hS.pick [0])).ld (i + n) (by omega) 5 _ rfl) K.cl0)))))))) (hS.pick [0]) ?_
              refine K.DW.q 33 (by kernel_rfl) rfl rfl (by kernel_rfl) (by kernel_rfl) (fun w hS => K.QR.k (v := .slice (some ⟨b_10, of_11, none⟩) L.length cap) (by kernel_rfl)) (hS.pick [0]) ?_
              refine K.DW.l 34 rfl (by kernel_rfl) (by kernel_rfl) (K.OW.q rfl (K.QR.k (v := .int .i64 ((i : Nat) : Int)) (by kernel_rfl)) ?_)
              refine ⟨.inl (hS.pick [0]), ?_⟩
              refine K.DW.l 35 rfl (by kernel_rfl) (by kernel_rfl) (K.OW.q rfl (K.QR.ix (of_11 + i * 6) 6 rfl rfl rfl Tryd.underlying54 (by kernel_rfl) (by omega) (by first | (simp; done) | omega | (simp; omega))) ?_)
              refine ⟨.inl (hS.pick [0]), ?_⟩
              refine K.DW.l 36 rfl (by kernel_rfl) (by kernel_rfl) (K.OW.q rfl (K.QR.ldN [.int .i64 ((L.getD i act0).k), .int .i64 ((L.getD i act0).th), .int .i64 ((L.getD i act0).ln), .int .i64 ((L.getD i act0).ok), .int .u32 ((L.getD i act0).key), .int .u32 ((L.getD i act0).val)] rfl rfl (by kernel_rfl) (by kernel_rfl) (K.cells (K.cl ((hx _ (hS.pick [0])).ld i (by omega) 0 _ rfl) (K.cl ((hx _ (hS.pick [0])).ld i (by omega) 1 _ rfl) (K.cl ((hx _ (hS.pick [0])).ld i (by omega) 2 _ rfl) (K.cl ((hx _ (hS.pick [0])).ld i (by omega) 3 _ rfl) (K.cl ((hx _ (hS.pick [0])).ld i (by omega) 4 _ rfl) (K.cl ((hx _ (hS.pick [0])).ld i (by omega) 5 _ rfl) K.cl0)))))))) ?_)
              refine ⟨.inl (hS.pick [0]), ?_⟩
              by_cases h_15 : ((L.getD (i + n) act0).k : Int) = (L.getD i act0).k ∧ ((L.getD (i + n) act0).th : Int) = (L.getD i act0).th ∧ ((L.getD (i + n) act0).ln : Int) = (L.getD i act0).ln ∧ ((L.getD (i + n) act0).ok : Int) = (L.getD i act0).ok ∧ ((L.getD (i + n) act0).key : Int) = (L.getD i act0).key ∧ ((L.getD (i + n) act0).val : Int) = (L.getD i act0).val
              ·  -- yes
                refine K.DW.l 37 rfl (by kernel_rfl) (by kernel_rfl) (K.OW.q rfl (K.QR.eqS (by kernel_rfl) rfl rfl rfl (eqAct_t h_15)) ?_)
                refine ⟨.inl (hS.pick [0]), ?_⟩
                refine K.DW.l 38 rfl (by kernel_rfl) rfl (K.OW.q rfl (K.QR.k (v := .bool true) (by kernel_rfl)) ?_)
                refine ⟨.inl (hS.pick [0]), ?_⟩
                refine K.DW.done (by kernel_rfl) ?_
                refine K.thn_normal ?_
                refine K.KW.ifT rfl ?_
                refine K.KW.skip ?_
                refine K.thn_normal ?_
                refine K.KW.block ?_
                -- 6 :200
                refine K.KW.region ?_
                refine K.RW.qs [.int .i64 ((n : Nat) : Int)] (by kernel_rfl) ?_
                refine K.RW.q rfl rfl (K.QR.n64 ((((n : Nat) : Int) : Int) + (1 : Int)) ((n + 1 : Nat) : Int) (by kernel_rfl) (by omega)) ?_
                refine K.RW.qs [.int .i64 ((n + 1 : Nat) : Int)] (by kernel_rfl) ?_
                refine K.RW.nil ?_
                refine K.blk_normal ?_
                refine K.thn_normal ?_
                refine ⟨_, ?_, n + 1, rfl, ⟨by rfl, by rfl, by rfl, by rfl, by rfl, by rfl, trivial⟩, (by omega), (K.all_snoc (p := fun q => L.getD (i + q) act0 = L.getD i act0) hsm (act_eq.1 (by assumption))), (by unfold kind25; omega), hS.pick [0, 1]⟩
                omega
              ·  -- no
                refine K.DW.l 37 rfl (by kernel_rfl) (by kernel_rfl) (K.OW.q rfl (K.QR.eqS (by kernel_rfl) rfl rfl rfl (eqAct_f h_15)) ?_)
                refine ⟨.inl (hS.pick [0]), ?_⟩
                refine K.DW.l 38 rfl (by kernel_rfl) rfl (K.OW.q rfl (K.QR.k (v := .bool false) (by kernel_rfl)) ?_)
                refine ⟨.inl (hS.pick [0]), ?_⟩
                refine K.DW.done (by kernel_rfl) ?_
                refine K.thn_normal ?_
                refine K.KW.ifF rfl ?_
                refine K.KW.exit ?_
                refine K.thn_exit ?_
                refine K.thn_exit ?_
                refine K.blk_hit ?_
                refine K.thn_normal ?_
                refine K.KW.seq ?_
                -- 7 :202
                have hn9 : n = alk (L.drop i) := alk_at (by omega) (by omega) (by omega) hsm hkn (.inr (.inr (.inr (fun e => h_15 (act_eq.2 e)))))
                have hro : rowA (L.getD i act0) n = rowA ((L.drop i).getD 0 act0) (alk (L.drop i)) := by rw [getD_drop, ← hn9]; rfl
                have hri := hall i (by omega)
                have hrl := (wordsA_sum (n := n) hri (haf i) (by omega)).1
                have hrl2 : (rowA (L.getD i act0) n).length ≤ 106 := by unfold rowA; rw [List.length_append, List.length_singleton]; omega
                have hst := wrM_step (L := L.drop i) (by rw [List.length_drop]; omega)
                rw [← hro, ← hn9, List.drop_drop] at hst
                refine K.KW.region ?_
                refine K.RW.qs [.string (K.sb o), .slice (some ⟨b_10, of_11, none⟩) L.length cap, .int .i64 ((i : Nat) : Int)] (by kernel_rfl) ?_
                refine K.RW.q rfl rfl (K.QR.ix (of_11 + i * 6) 6 rfl rfl rfl Tryd.underlying54 (by kernel_rfl) (by omega) (by first | (simp; done) | omega | (simp; omega))) ?_
                refine K.RW.q rfl rfl (K.QR.ldN [.int .i64 ((L.getD i act0).k), .int .i64 ((L.getD i act0).th), .int .i64 ((L.getD i act0).ln), .int .i64 ((L.getD i act0).ok), .int .u32 ((L.getD i act0).key), .int .u32 ((L.getD i act0).val)] rfl rfl (by kernel_rfl) (by kernel_rfl) (K.cells (K.cl ((hx _ (hS.pick [0])).ld i (by omega) 0 _ rfl) (K.cl ((hx _ (hS.pick [0])).ld i (by omega) 1 _ rfl) (K.cl ((hx _ (hS.pick [0])).ld i (by omega) 2 _ rfl) (K.cl ((hx _ (hS.pick [0])).ld i (by omega) 3 _ rfl) (K.cl ((hx _ (hS.pick [0])).ld i (by omega) 4 _ rfl) (K.cl ((hx _ (hS.pick [0])).ld i (by omega) 5 _ rfl) K.cl0)))))))) ?_
                refine K.RW.qs [.int .i64 ((n : Nat) : Int)] (by kernel_rfl) ?_
                refine K.RW.l rfl (K.OW.gcall hS [] [0, 1] [.agg #[.int .i64 ((L.getD i act0).k), .int .i64 ((L.getD i act0).th), .int .i64 ((L.getD i act0).ln), .int .i64 ((L.getD i act0).ok), .int .u32 ((L.getD i act0).key), .int .u32 ((L.getD i act0).val)], .int .i64 ((n : Nat) : Int)] (drow_ok _ (L.getD i act0) n (haf i) hri (by omega)) ?_)
                clear hS; rintro _ _ w ⟨rfl, rfl⟩ hS
                replace hS : K.Sat w0 [gx, fr] w := hS
                refine K.RW.q rfl rfl (K.QR.sAdd (xs := o) (ys := (rowA (L.getD i act0) n)) rfl rfl rfl (by (try simp only [List.length_append, List.length_cons, List.length_nil] at *); omega)) ?_
                refine K.RW.qs [.string (K.sb (o ++ (rowA (L.getD i act0) n)))] (by kernel_rfl) ?_
                refine K.RW.nil ?_
                refine K.thn_normal ?_
                -- 8 :203
                refine K.KW.region ?_
                refine K.RW.qs [.int .i64 ((i : Nat) : Int), .int .i64 ((n : Nat) : Int)] (by kernel_rfl) ?_
                refine K.RW.q rfl rfl (K.QR.n64 ((((i : Nat) : Int) : Int) + (((n : Nat) : Int) : Int)) ((i + n : Nat) : Int) (by kernel_rfl) (by omega)) ?_
                refine K.RW.qs [.int .i64 ((i + n : Nat) : Int)] (by kernel_rfl) ?_
                refine K.RW.nil ?_
                refine K.blk_normal ?_
                refine K.thn_normal ?_
                refine ⟨_, ?_, i + n, (o ++ (rowA (L.getD i act0) n)), rfl, ⟨by rfl, by rfl, by rfl, by rfl, by rfl, trivial⟩, (by omega), (by rw [← ho, hst, List.append_assoc]), (by rw [List.length_append]; omega), hS.pick [0, 1]⟩
                omega
            ·  -- no
              refine K.DW.l 24 rfl (by kernel_rfl) (by kernel_rfl) (K.OW.q rfl (K.QR.nice (v := .bool (decide ((((n : Nat) : Int) : Int) < (10000 : Int)))) (by kernel_rfl) (congrArg Value.bool (decide_eq_false h_14))) ?_)
              refine ⟨.inl (hS.pick [0]), ?_⟩
              refine K.DW.l 25 rfl (by kernel_rfl) rfl (K.OW.q rfl (K.QR.k (v := .bool false) (by kernel_rfl)) ?_)
              refine ⟨.inl (hS.pick [0]), ?_⟩
              refine K.DW.l 26 rfl (by kernel_rfl) rfl (K.OW.q rfl (K.QR.k (v := .bool false) (by kernel_rfl)) ?_)
              refine ⟨.inl (hS.pick [0]), ?_⟩
              refine K.DW.skip 27 (by kernel_rfl) rfl rfl (by kernel_rfl) (by kernel_rfl) (hS.pick [0]) ?_
              refine K.DW.skip 28 (by kernel_rfl) rfl rfl (by kernel_rfl) (by kernel_rfl) (hS.pick [0]) ?_
              refine K.DW.skip 29 (by kernel_rfl) rfl rfl (by kernel_rfl) (by kernel_rfl) (hS.pick [0]) ?_
              refine K.DW.skip 30 (by kernel_rfl) rfl rfl (by kernel_rfl) (by kernel_rfl) (hS.pick [0]) ?_
              refine K.DW.skip 31 (by kernel_rfl) rfl rfl (by kernel_rfl) (by kernel_rfl) (hS.pick [0]) ?_
              refine K.DW.skip 32 (by kernel_rfl) rfl rfl (by kernel_rfl) (by kernel_rfl) (hS.pick [0]) ?_
              refine K.DW.skip 33 (by kernel_rfl) rfl rfl (by kernel_rfl) (by kernel_rfl) (hS.pick [0]) ?_
              refine K.DW.skip 34 (by kernel_rfl) rfl rfl (by kernel_rfl) (by kernel_rfl) (hS.pick [0]) ?_
              refine K.DW.skip 35 (by kernel_rfl) rfl rfl (by kernel_rfl) (by kernel_rfl) (hS.pick [0]) ?_
              refine K.DW.skip 36 (by kernel_rfl) rfl rfl (by kernel_rfl) (by kernel_rfl) (hS.pick [0]) ?_
              refine K.DW.skip 37 (by kernel_rfl) rfl rfl (by kernel_rfl) (by kernel_rfl) (hS.pick [0]) ?_
              refine K.DW.l 38 rfl (by kernel_rfl) rfl (K.OW.q rfl (K.QR.k (v := .bool false) (by kernel_rfl)) ?_)
              refine ⟨.inl (hS.pick [0]), ?_⟩
              refine K.DW.done (by kernel_rfl) ?_
              refine K.thn_normal ?_
              refine K.KW.ifF rfl ?_
              refine K.KW.exit ?_
              refine K.thn_exit ?_
              refine K.thn_exit ?_
              refine K.blk_hit ?_
              refine K.thn_normal ?_
              refine K.KW.seq ?_
              -- 7 :202
              have hn9 : n = alk (L.drop i) := alk_at (by omega) (by omega) (by omega) hsm hkn (by unfold kind25; omega)
              have hro : rowA (L.getD i act0) n = rowA ((L.drop i).getD 0 act0) (alk (L.drop i)) := by rw [getD_drop, ← hn9]; rfl
              have hri := hall i (by omega)
              have hrl := (wordsA_sum (n := n) hri (haf i) (by omega)).1
              have hrl2 : (rowA (L.getD i act0) n).length ≤ 106 := by unfold rowA; rw [List.length_append, List.length_singleton]; omega
              have hst := wrM_step (L := L.drop i) (by rw [List.length_drop]; omega)
              rw [← hro, ← hn9, List.drop_drop] at hst
              refine K.KW.region ?_
              refine K.RW.qs [.string (K.sb o), .slice (some ⟨b_10, of_11, none⟩) L.length cap, .int .i64 ((i : Nat) : Int)] (by kernel_rfl) ?_
              refine K.RW.q rfl rfl (K.QR.ix (of_11 + i * 6) 6 rfl rfl rfl Tryd.underlying54 (by kernel_rfl) (by omega) (by first | (simp; done) | omega | (simp; omega))) ?_
              refine K.RW.q rfl rfl (K.QR.ldN [.int .i64 ((L.getD i act0).k), .int .i64 ((L.getD i act0).th), .int .i64 ((L.getD i act0).ln), .int .i64 ((L.getD i act0).ok), .int .u32 ((L.getD i act0).key), .int .u32 ((L.getD i act0).val)] rfl rfl (by kernel_rfl) (by kernel_rfl) (K.cells (K.cl ((hx _ (hS.pick [0])).ld i (by omega) 0 _ rfl) (K.cl ((hx _ (hS.pick [0])).ld i (by omega) 1 _ rfl) (K.cl ((hx _ (hS.pick [0])).ld i (by omega) 2 _ rfl) (K.cl ((hx _ (hS.pick [0])).ld i (by omega) 3 _ rfl) (K.cl ((hx _ (hS.pick [0])).ld i (by omega) 4 _ rfl) (K.cl ((hx _ (hS.pick [0])).ld i (by omega) 5 _ rfl) K.cl0)))))))) ?_
              refine K.RW.qs [.int .i64 ((n : Nat) : Int)] (by kernel_rfl) ?_
              refine K.RW.l rfl (K.OW.gcall hS [] [0, 1] [.agg #[.int .i64 ((L.getD i act0).k), .int .i64 ((L.getD i act0).th), .int .i64 ((L.getD i act0).ln), .int .i64 ((L.getD i act0).ok), .int .u32 ((L.getD i act0).key), .int .u32 ((L.getD i act0).val)], .int .i64 ((n : Nat) : Int)] (drow_ok _ (L.getD i act0) n (haf i) hri (by omega)) ?_)
              clear hS; rintro _ _ w ⟨rfl, rfl⟩ hS
              replace hS : K.Sat w0 [gx, fr] w := hS
              refine K.RW.q rfl rfl (K.QR.sAdd (xs := o) (ys := (rowA (L.getD i act0) n)) rfl rfl rfl (by (try simp only [List.length_append, List.length_cons, List.length_nil] at *); omega)) ?_
              refine K.RW.qs [.string (K.sb (o ++ (rowA (L.getD i act0) n)))] (by kernel_rfl) ?_
              refine K.RW.nil ?_
              refine K.thn_normal ?_
              -- 8 :203
              refine K.KW.region ?_
              refine K.RW.qs [.int .i64 ((i : Nat) : Int), .int .i64 ((n : Nat) : Int)] (by kernel_rfl) ?_
              refine K.RW.q rfl rfl (K.QR.n64 ((((i : Nat) : Int) : Int) + (((n : Nat) : Int) : Int)) ((i + n : Nat) : Int) (by kernel_rfl) (by omega)) ?_
              refine K.RW.qs [.int .i64 ((i + n : Nat) : Int)] (by kernel_rfl) ?_
              refine K.RW.nil ?_
              refine K.blk_normal ?_
              refine K.thn_normal ?_
              refine ⟨_, ?_, i + n, (o ++ (rowA (L.getD i act0) n)), rfl, ⟨by rfl, by rfl, by rfl, by rfl, by rfl, trivial⟩, (by omega), (by rw [← ho, hst, List.append_assoc]), (by rw [List.length_append]; omega), hS.pick [0, 1]⟩
              omega
          ·  -- no
            refine K.DW.l 20 rfl (by kernel_rfl) (by kernel_rfl) (K.OW.q rfl (K.QR.nice (v := .bool (decide ((((i + n : Nat) : Int) : Int) < (((L.length : Nat) : Int) : Int)))) (by kernel_rfl) (congrArg Value.bool (decide_eq_false h_13))) ?_)
            refine ⟨.inl (hS.pick [0]), ?_⟩
            refine K.DW.l 21 rfl (by kernel_rfl) rfl (K.OW.q rfl (K.QR.k (v := .bool false) (by kernel_rfl)) ?_)
            refine ⟨.inl (hS.pick [0]), ?_⟩
            refine K.DW.l 22 rfl (by kernel_rfl) rfl (K.OW.q rfl (K.QR.k (v := .bool false) (by kernel_rfl)) ?_)
            refine ⟨.inl (hS.pick [0]), ?_⟩
            refine K.DW.skip 23 (by kernel_rfl) rfl rfl (by kernel_rfl) (by kernel_rfl) (hS.pick [0]) ?_
            refine K.DW.skip 24 (by kernel_rfl) rfl rfl (by kernel_rfl) (by kernel_rfl) (hS.pick [0]) ?_
            refine K.DW.l 25 rfl (by kernel_rfl) rfl (K.OW.q rfl (K.QR.k (v := .bool false) (by kernel_rfl)) ?_)
            refine ⟨.inl (hS.pick [0]), ?_⟩
            refine K.DW.l 26 rfl (by kernel_rfl) rfl (K.OW.q rfl (K.QR.k (v := .bool false) (by kernel_rfl)) ?_)
            refine ⟨.inl (hS.pick [0]), ?_⟩
            refine K.DW.skip 27 (by kernel_rfl) rfl rfl (by kernel_rfl) (by kernel_rfl) (hS.pick [0]) ?_
            refine K.DW.skip 28 (by kernel_rfl) rfl rfl (by kernel_rfl) (by kernel_rfl) (hS.pick [0]) ?_
            refine K.DW.skip 29 (by kernel_rfl) rfl rfl (by kernel_rfl) (by kernel_rfl) (hS.pick [0]) ?_
            refine K.DW.skip 30 (by kernel_rfl) rfl rfl (by kernel_rfl) (by kernel_rfl) (hS.pick [0]) ?_
            refine K.DW.skip 31 (by kernel_rfl) rfl rfl (by kernel_rfl) (by kernel_rfl) (hS.pick [0]) ?_
            refine K.DW.skip 32 (by kernel_rfl) rfl rfl (by kernel_rfl) (by kernel_rfl) (hS.pick [0]) ?_
            refine K.DW.skip 33 (by kernel_rfl) rfl rfl (by kernel_rfl) (by kernel_rfl) (hS.pick [0]) ?_
            refine K.DW.skip 34 (by kernel_rfl) rfl rfl (by kernel_rfl) (by kernel_rfl) (hS.pick [0]) ?_
            refine K.DW.skip 35 (by kernel_rfl) rfl rfl (by kernel_rfl) (by kernel_rfl) (hS.pick [0]) ?_
            refine K.DW.skip 36 (by kernel_rfl) rfl rfl (by kernel_rfl) (by kernel_rfl) (hS.pick [0]) ?_
            refine K.DW.skip 37 (by kernel_rfl) rfl rfl (by kernel_rfl) (by kernel_rfl) (hS.pick [0]) ?_
            refine K.DW.l 38 rfl (by kernel_rfl) rfl (K.OW.q rfl (K.QR.k (v := .bool false) (by kernel_rfl)) ?_)
            refine ⟨.inl (hS.pick [0]), ?_⟩
            refine K.DW.done (by kernel_rfl) ?_
            refine K.thn_normal ?_
            refine K.KW.ifF rfl ?_
            refine K.KW.exit ?_
            refine K.thn_exit ?_
            refine K.thn_exit ?_
            refine K.blk_hit ?_
            refine K.thn_normal ?_
            refine K.KW.seq ?_
            -- 7 :202
            have hn9 : n = alk (L.drop i) := alk_at (by omega) (by omega) (by omega) hsm hkn (by unfold kind25; omega)
            have hro : rowA (L.getD i act0) n = rowA ((L.drop i).getD 0 act0) (alk (L.drop i)) := by rw [getD_drop, ← hn9]; rfl
            have hri := hall i (by omega)
            have hrl := (wordsA_sum (n := n) hri (haf i) (by omega)).1
            have hrl2 : (rowA (L.getD i act0) n).length ≤ 106 := by unfold rowA; rw [List.length_append, List.length_singleton]; omega
            have hst := wrM_step (L := L.drop i) (by rw [List.length_drop]; omega)
            rw [← hro, ← hn9, List.drop_drop] at hst
            refine K.KW.region ?_
            refine K.RW.qs [.string (K.sb o), .slice (some ⟨b_10, of_11, none⟩) L.length cap, .int .i64 ((i : Nat) : Int)] (by kernel_rfl) ?_
            refine K.RW.q rfl rfl (K.QR.ix (of_11 + i * 6) 6 rfl rfl rfl Tryd.underlying54 (by kernel_rfl) (by omega) (by first | (simp; done) | omega | (simp; omega))) ?_
            refine K.RW.q rfl rfl (K.QR.ldN [.int .i64 ((L.getD i act0).k), .int .i64 ((L.getD i act0).th), .int .i64 ((L.getD i act0).ln), .int .i64 ((L.getD i act0).ok), .int .u32 ((L.getD i act0).key), .int .u32 ((L.getD i act0).val)] rfl rfl (by kernel_rfl) (by kernel_rfl) (K.cells (K.cl ((hx _ (hS.pick [0])).ld i (by omega) 0 _ rfl) (K.cl ((hx _ (hS.pick [0])).ld i (by omega) 1 _ rfl) (K.cl ((hx _ (hS.pick [0])).ld i (by omega) 2 _ rfl) (K.cl ((hx _ (hS.pick [0])).ld i (by omega) 3 _ rfl) (K.cl ((hx _ (hS.pick [0])).ld i (by omega) 4 _ rfl) (K.cl ((hx _ (hS.pick [0])).ld i (by omega) 5 _ rfl) K.cl0)))))))) ?_
            refine K.RW.qs [.int .i64 ((n : Nat) : Int)] (by kernel_rfl) ?_
            refine K.RW.l rfl (K.OW.gcall hS [] [0, 1] [.agg #[.int .i64 ((L.getD i act0).k), .int .i64 ((L.getD i act0).th), .int .i64 ((L.getD i act0).ln), .int .i64 ((L.getD i act0).ok), .int .u32 ((L.getD i act0).key), .int .u32 ((L.getD i act0).val)], .int .i64 ((n : Nat) : Int)] (drow_ok _ (L.getD i act0) n (haf i) hri (by omega)) ?_)
            clear hS; rintro _ _ w ⟨rfl, rfl⟩ hS
            replace hS : K.Sat w0 [gx, fr] w := hS
            refine K.RW.q rfl rfl (K.QR.sAdd (xs := o) (ys := (rowA (L.getD i act0) n)) rfl rfl rfl (by (try simp only [List.length_append, List.length_cons, List.length_nil] at *); omega)) ?_
            refine K.RW.qs [.string (K.sb (o ++ (rowA (L.getD i act0) n)))] (by kernel_rfl) ?_
            refine K.RW.nil ?_
            refine K.thn_normal ?_
            -- 8 :203
            refine K.KW.region ?_
            refine K.RW.qs [.int .i64 ((i : Nat) : Int), .int .i64 ((n : Nat) : Int)] (by kernel_rfl) ?_
            refine K.RW.q rfl rfl (K.QR.n64 ((((i : Nat) : Int) : Int) + (((n : Nat) : Int) : Int)) ((i + n : Nat) : Int) (by kernel_rfl) (by omega)) ?_
            refine K.RW.qs [.int .i64 ((i + n : Nat) : Int)] (by kernel_rfl) ?_
            refine K.RW.nil ?_
            refine K.blk_normal ?_
            refine K.thn_normal ?_
            refine ⟨_, ?_, i + n, (o ++ (rowA (L.getD i act0) n)), rfl, ⟨by rfl, by rfl, by rfl, by rfl, by rfl, trivial⟩, (by omega), (by rw [← ho, hst, List.append_assoc]), (by rw [List.length_append]; omega), hS.pick [0, 1]⟩
            omega
        ·  -- no
          refine K.DW.l 5 rfl (by kernel_rfl) rfl (K.OW.q rfl (K.QR.nice (v := .bool (((L.getD i act0).k : Int) == (2 : Int))) (by kernel_rfl) (congrArg Value.bool (beq_eq_false_iff_ne.2 h_12))) ?_)
          refine ⟨.inl (hS.pick [0]), ?_⟩
          refine K.DW.l 6 rfl (by kernel_rfl) rfl (K.OW.q rfl (K.QR.k (v := .bool false) (by kernel_rfl)) ?_)
          refine ⟨.inl (hS.pick [0]), ?_⟩
          refine K.DW.q 7 (by kernel_rfl) rfl rfl (by kernel_rfl) (by kernel_rfl) (fun w hS => K.QR.k (v := .slice (some ⟨b_10, of_11, none⟩) L.length cap) (by kernel_rfl)) (hS.pick [0]) ?_
          refine K.DW.l 8 rfl (by kernel_rfl) (by kernel_rfl) (K.OW.q rfl (K.QR.k (v := .int .i64 ((i : Nat) : Int)) (by kernel_rfl)) ?_)
          refine ⟨.inl (hS.pick [0]), ?_⟩
          refine K.DW.l 9 rfl (by kernel_rfl) (by kernel_rfl) (K.OW.q rfl (K.QR.ix (of_11 + i * 6) 6 rfl rfl rfl Tryd.underlying54 (by kernel_rfl) (by omega) (by first | (simp; done) | omega | (simp; omega))) ?_)
          refine ⟨.inl (hS.pick [0]), ?_⟩
          refine K.DW.l 10 rfl (by kernel_rfl) (by kernel_rfl) (K.OW.q rfl (K.QR.k (v := .pointer (some ⟨b_10, of_11 + i * 6, none⟩)) (by kernel_rfl)) ?_)
          refine ⟨.inl (hS.pick [0]), ?_⟩
          refine K.DW.l 11 rfl (by kernel_rfl) (by kernel_rfl) (K.OW.q rfl (K.QR.ld1 (v := .int .i64 ((L.getD i act0).k)) rfl rfl (by kernel_rfl) ((hx _ (hS.pick [0])).ld i (by omega) 0 _ rfl)) ?_)
          refine ⟨.inl (hS.pick [0]), ?_⟩
          by_cases h_16 : ((L.getD i act0).k : Int) = (5 : Int)
          ·  -- yes
            refine K.DW.l 12 rfl (by kernel_rfl) (by kernel_rfl) (K.OW.q rfl (K.QR.nice (v := .bool (((L.getD i act0).k : Int) == (5 : Int))) (by kernel_rfl) (congrArg Value.bool (beq_iff_eq.2 h_16))) ?_)
            refine ⟨.inl (hS.pick [0]), ?_⟩
            refine K.DW.l 13 rfl (by kernel_rfl) rfl (K.OW.q rfl (K.QR.k (v := .bool true) (by kernel_rfl)) ?_)
            refine ⟨.inl (hS.pick [0]), ?_⟩
            refine K.DW.l 14 rfl (by kernel_rfl) rfl (K.OW.q rfl (K.QR.k (v := .bool true) (by kernel_rfl)) ?_)
            refine ⟨.inl (hS.pick [0]), ?_⟩
            refine K.DW.q 15 (by kernel_rfl) rfl rfl (by kernel_rfl) (by kernel_rfl) (fun w hS => K.QR.k (v := .int .i64 ((i : Nat) : Int)) (by kernel_rfl)) (hS.pick [0]) ?_
            refine K.DW.q 16 (by kernel_rfl) rfl rfl (by kernel_rfl) (by kernel_rfl) (fun w hS => K.QR.k (v := .int .i64 ((n : Nat) : Int)) (by kernel_rfl)) (hS.pick [0]) ?_
            refine K.DW.q 17 (by kernel_rfl) rfl rfl (by kernel_rfl) (by kernel_rfl) (fun w hS => K.QR.n64 ((((i : Nat) : Int) : Int) + (((n : Nat) : Int) : Int)) ((i + n : Nat) : Int) (by kernel_rfl) (by omega)) (hS.pick [0]) ?_
            refine K.DW.l 18 rfl (by kernel_rfl) (by kernel_rfl) (K.OW.q rfl (K.QR.k (v := .slice (some ⟨b_10, of_11, none⟩) L.length cap) (by kernel_rfl)) ?_)
            refine ⟨.inl (hS.pick [0]), ?_⟩
            refine K.DW.l 19 rfl (by kernel_rfl) (by kernel_rfl) (K.OW.q rfl (K.QR.len (P := Tryd.prog) rfl rfl Tryd.underlying54) ?_)
            refine ⟨.inl (hS.pick [0]), ?_⟩
            by_cases h_17 : (((i + n : Nat) : Int) : Int) < (((L.length : Nat) : Int) : Int)
            ·  -- yes
              refine K.DW.l 20 rfl (by kernel_rfl) (by kernel_rfl) (K.OW.q rfl (K.QR.nice (v := .bool (decide ((((i + n : Nat) : Int) : Int) < (((L.length : Nat) : Int) : Int)))) (by kernel_rfl) (congrArg Value.bool (decide_eq_true h_17))) ?_)
              refine ⟨.inl (hS.pick [0]), ?_⟩
              refine K.DW.l 21 rfl (by kernel_rfl) rfl (K.OW.q rfl (K.QR.k (v := .bool true) (by kernel_rfl)) ?_)
              refine ⟨.inl (hS.pick [0]), ?_⟩
              refine K.DW.l 22 rfl (by kernel_rfl) rfl (K.OW.q rfl (K.QR.k (v := .bool true) (by kernel_rfl)) ?_)
              refine ⟨.inl (hS.pick [0]), ?_⟩
              refine K.DW.l 23 rfl (by kernel_rfl) (by kernel_rfl) (K.OW.q rfl (K.QR.k (v := .int .i64 ((n : Nat) : Int)) (by kernel_rfl)) ?_)
              refine ⟨.inl (hS.pick [0]), ?_⟩
              by_cases h_18 : (((n : Nat) : Int) : Int) < (10000 : Int)
              ·  -- yes
                refine K.DW.l 24 rfl (by kernel_rfl) (by kernel_rfl) (K.OW.q rfl (K.QR.nice (v := .bool (decide ((((n : Nat) : Int) : Int) < (10000 : Int)))) (by kernel_rfl) (congrArg Value.bool (decide_eq_true h_18))) ?_)
                refine ⟨.inl (hS.pick [0]), ?_⟩
                refine K.DW.l 25 rfl (by kernel_rfl) rfl (K.OW.q rfl (K.QR.k (v := .bool true) (by kernel_rfl)) ?_)
                refine ⟨.inl (hS.pick [0]), ?_⟩
                refine K.DW.l 26 rfl (by kernel_rfl) rfl (K.OW.q rfl (K.QR.k (v := .bool true) (by kernel_rfl)) ?_)
                refine ⟨.inl (hS.pick [0]), ?_⟩
                refine K.DW.q 27 (by kernel_rfl) rfl rfl (by kernel_rfl) (by kernel_rfl) (fun w hS => K.QR.k (v := .slice (some ⟨b_10, of_11, none⟩) L.length cap) (by kernel_rfl)) (hS.pick [0]) ?_
                refine K.DW.q 28 (by kernel_rfl) rfl rfl (by kernel_rfl) (by kernel_rfl) (fun w hS => K.QR.k (v := .int .i64 ((i : Nat) : Int)) (by kernel_rfl)) (hS.pick [0]) ?_
                refine K.DW.q 29 (by kernel_rfl) rfl rfl (by kernel_rfl) (by kernel_rfl) (fun w hS => K.QR.k (v := .int .i64 ((n : Nat) : Int)) (by kernel_rfl)) (hS.pick [0]) ?_
                refine K.DW.q 30 (by kernel_rfl) rfl rfl (by kernel_rfl) (by kernel_rfl) (fun w hS => K.QR.n64 ((((i : Nat) : Int) : Int) + (((n : Nat) : Int) : Int)) ((i + n : Nat) : Int) (by kernel_rfl) (by omega)) (hS.pick [0]) ?_
                refine K.DW.q 31 (by kernel_rfl) rfl rfl (by kernel_rfl) (by kernel_rfl) (fun w hS => K.QR.ix (of_11 + (i + n) * 6) 6 rfl rfl rfl Tryd.underlying54 (by kernel_rfl) (by omega) (by first | (simp; done) | omega | (simp; omega))) (hS.pick [0]) ?_
                refine K.DW.q 32 (by kernel_rfl) rfl rfl (by kernel_rfl) (by kernel_rfl) (fun w hS => K.QR.ldN [.int .i64 ((L.getD (i + n) act0).k), .int .i64 ((L.getD (i + n) act0).th), .int .i64 ((L.getD (i + n) act0).ln), .int .i64 ((L.getD (i + n) act0).ok), .int .u32 ((L.getD (i + n) act0).key), .int .u32 ((L.getD (i + n) act0).val)] rfl rfl (by kernel_rfl) (by kernel_rfl) (K.cells (K.cl ((hx _ (hS.pick [0])).ld (i + n) (by omega) 0 _ rfl) (K.cl ((hx _ (hS.pick [0])).ld (i + n) (by omega) 1 _ rfl) (K.cl ((hx _ (hS.pick [0])).ld (i + n) (by omega) 2 _ rfl) (K.cl ((hx _ (hS.pick [0])).ld (i + n) (by omega) 3 _ rfl) (K.cl ((hx _ (hS.pick [0])).ld (i + n) (by omega) 4 _ rfl) (K.cl ((hx _ (hS.pick [0])).ld (i + n) (by omega) 5 _ rfl) K.cl0)))))))) (hS.pick [0]) ?_
                refine K.DW.q 33 (by kernel_rfl) rfl rfl (by kernel_rfl) (by kernel_rfl) (fun w hS => K.QR.k (v := .slice (some ⟨b_10, of_11, none⟩) L.length cap) (by kernel_rfl)) (hS.pick [0]) ?_
                refine K.DW.l 34 rfl (by kernel_rfl) (by kernel_rfl) (K.OW.q rfl (K.QR.k (v := .int .i64 ((i : Nat) : Int)) (by kernel_rfl)) ?_)
                refine ⟨.inl (hS.pick [0]), ?_⟩
                refine K.DW.l 35 rfl (by kernel_rfl) (by kernel_rfl) (K.OW.q rfl (K.QR.ix (of_11 + i * 6) 6 rfl rfl rfl Tryd.underlying54 (by kernel_rfl) (by omega) (by first | (simp; done) | omega | (simp; omega))) ?_)
                refine ⟨.inl (hS.pick [0]), ?_⟩
                refine K.DW.l 36 rfl (by kernel_rfl) (by kernel_rfl) (K.OW.q rfl (K.QR.ldN [.int .i64 ((L.getD i act0).k), .int .i64 ((L.getD i act0).th), .int .i64 ((L.getD i act0).ln), .int .i64 ((L.getD i act0).ok), .int .u32 ((L.getD i act0).key), .int .u32 ((L.getD i act0).val)] rfl rfl (by kernel_rfl) (by kernel_rfl) (K.cells (K.cl ((hx _ (hS.pick [0])).ld i (by omega) 0 _ rfl) (K.cl ((hx _ (hS.pick [0])).ld i (by omega) 1 _ rfl) (K.cl ((hx _ (hS.pick [0])).ld i (by omega) 2 _ rfl) (K.cl ((hx _ (hS.pick [0])).ld i (by omega) 3 _ rfl) (K.cl ((hx _ (hS.pick [0])).ld i (by omega) 4 _ rfl) (K.cl ((hx _ (hS.pick [0])).ld i (by omega) 5 _ rfl) K.cl0)))))))) ?_)
                refine ⟨.inl (hS.pick [0]), ?_⟩
                by_cases h_19 : ((L.getD (i + n) act0).k : Int) = (L.getD i act0).k ∧ ((L.getD (i + n) act0).th : Int) = (L.getD i act0).th ∧ ((L.getD (i + n) act0).ln : Int) = (L.getD i act0).ln ∧ ((L.getD (i + n) act0).ok : Int) = (L.getD i act0).ok ∧ ((L.getD (i + n) act0).key : Int) = (L.getD i act0).key ∧ ((L.getD (i + n) act0).val : Int) = (L.getD i act0).val
                ·  -- yes
                  refine K.DW.l 37 rfl (by kernel_rfl) (by kernel_rfl) (K.OW.q rfl (K.QR.eqS (by kernel_rfl) rfl rfl rfl (eqAct_t h_19)) ?_)
                  refine ⟨.inl (hS.pick [0]), ?_⟩
                  refine K.DW.l 38 rfl (by kernel_rfl) rfl (K.OW.q rfl (K.QR.k (v := .bool true) (by kernel_rfl)) ?_)
                  refine ⟨.inl (hS.pick [0]), ?_⟩
                  refine K.DW.done (by kernel_rfl) ?_
                  refine K.thn_normal ?_
                  refine K.KW.ifT rfl ?_
                  refine K.KW.skip ?_
                  refine K.thn_normal ?_
                  refine K.KW.block ?_
                  -- 6 :200
                  refine K.KW.region ?_
                  refine K.RW.qs [.int .i64 ((n : Nat) : Int)] (by kernel_rfl) ?_
                  refine K.RW.q rfl rfl (K.QR.n64 ((((n : Nat) : Int) : Int) + (1 : Int)) ((n + 1 : Nat) : Int) (by kernel_rfl) (by omega)) ?_
                  refine K.RW.qs [.int .i64 ((n + 1 : Nat) : Int)] (by kernel_rfl) ?_
                  refine K.RW.nil ?_
                  refine K.blk_normal ?_
                  refine K.thn_normal ?_
                  refine ⟨_, ?_, n + 1, rfl, ⟨by rfl, by rfl, by rfl, by rfl, by rfl, by rfl, trivial⟩, (by omega), (K.all_snoc (p := fun q => L.getD (i + q) act0 = L.getD i act0) hsm (act_eq.1 (by assumption))), (by unfold kind25; omega), hS.pick [0, 1]⟩
                  omega
                ·  -- no
                  refine K.DW.l 37 rfl (by kernel_rfl) (by kernel_rfl) (K.OW.q rfl (K.QR.eqS (by kernel_rfl) rfl rfl rfl (eqAct_f h_19)) ?_)
                  refine ⟨.inl (hS.pick [0]), ?_⟩
                  refine K.DW.l 38 rfl (by kernel_rfl) rfl (K.OW.q rfl (K.QR.k (v := .bool false) (by kernel_rfl)) ?_)
                  refine ⟨.inl (hS.pick [0]), ?_⟩
                  refine K.DW.done (by kernel_rfl) ?_
                  refine K.thn_normal ?_
                  refine K.KW.ifF rfl ?_
                  refine K.KW.exit ?_
                  refine K.thn_exit ?_
                  refine K.thn_exit ?_
                  refine K.blk_hit ?_
                  refine K.thn_normal ?_
                  refine K.KW.seq ?_
                  -- 7 :202
                  have hn9 : n = alk (L.drop i) := alk_at (by omega) (by omega) (by omega) hsm hkn (.inr (.inr (.inr (fun e => h_19 (act_eq.2 e)))))
                  have hro : rowA (L.getD i act0) n = rowA ((L.drop i).getD 0 act0) (alk (L.drop i)) := by rw [getD_drop, ← hn9]; rfl
                  have hri := hall i (by omega)
                  have hrl := (wordsA_sum (n := n) hri (haf i) (by omega)).1
                  have hrl2 : (rowA (L.getD i act0) n).length ≤ 106 := by unfold rowA; rw [List.length_append, List.length_singleton]; omega
                  have hst := wrM_step (L := L.drop i) (by rw [List.length_drop]; omega)
                  rw [← hro, ← hn9, List.drop_drop] at hst
                  refine K.KW.region ?_
                  refine K.RW.qs [.string (K.sb o), .slice (some ⟨b_10, of_11, none⟩) L.length cap, .int .i64 ((i : Nat) : Int)] (by kernel_rfl) ?_
                  refine K.RW.q rfl rfl (K.QR.ix (of_11 + i * 6) 6 rfl rfl rfl Tryd.underlying54 (by kernel_rfl) (by omega) (by first | (simp; done) | omega | (simp; omega))) ?_
                  refine K.RW.q rfl rfl (K.QR.ldN [.int .i64 ((L.getD i act0).k), .int .i64 ((L.getD i act0).th), .int .i64 ((L.getD i act0).ln), .int .i64 ((L.getD i act0).ok), .int .u32 ((L.getD i act0).key), .int .u32 ((L.getD i act0).val)] rfl rfl (by kernel_rfl) (by kernel_rfl) (K.cells (K.cl ((hx _ (hS.pick [0])).ld i (by omega) 0 _ rfl) (K.cl ((hx _ (hS.pick [0])).ld i (by omega) 1 _ rfl) (K.cl ((hx _ (hS.pick [0])).ld i (by omega) 2 _ rfl) (K.cl ((hx _ (hS.pick [0])).ld i (by omega) 3 _ rfl) (K.cl ((hx _ (hS.pick [0])).ld i (by omega) 4 _ rfl) (K.cl ((hx _ (hS.pick [0])).ld i (by omega) 5 _ rfl) K.cl0)))))))) ?_
                  refine K.RW.qs [.int .i64 ((n : Nat) : Int)] (by kernel_rfl) ?_
                  refine K.RW.l rfl (K.OW.gcall hS [] [0, 1] [.agg #[.int .i64 ((L.getD i act0).k), .int .i64 ((L.getD i act0).th), .int .i64 ((L.getD i act0).ln), .int .i64 ((L.getD i act0).ok), .int .u32 ((L.getD i act0).key), .int .u32 ((L.getD i act0).val)], .int .i64 ((n : Nat) : Int)] (drow_ok _ (L.getD i act0) n (haf i) hri (by omega)) ?_)
                  clear hS; rintro _ _ w ⟨rfl, rfl⟩ hS
                  replace hS : K.Sat w0 [gx, fr] w := hS
                  refine K.RW.q rfl rfl (K.QR.sAdd (xs := o) (ys := (rowA (L.getD i act0) n)) rfl rfl rfl (by (try simp only [List.length_append, List.length_cons, List.length_nil] at *); omega)) ?_
                  refine K.RW.qs [.string (K.sb (o ++ (rowA (L.getD i act0) n)))] (by kernel_rfl) ?_
                  refine K.RW.nil ?_
                  refine K.thn_normal ?_
                  -- 8 :203
                  refine K.KW.region ?_
                  refine K.RW.qs [.int .i64 ((i : Nat) : Int), .int .i64 ((n : Nat) : Int)] (by kernel_rfl) ?_
                  refine K.RW.q rfl rfl (K.QR.n64 ((((i : Nat) : Int) : Int) + (((n : Nat) : Int) : Int)) ((i + n : Nat) : Int) (by kernel_rfl) (by omega)) ?_
                  refine K.RW.qs [.int .i64 ((i + n : Nat) : Int)] (by kernel_rfl) ?_
                  refine K.RW.nil ?_
                  refine K.blk_normal ?_
                  refine K.thn_normal ?_
                  refine ⟨_, ?_, i + n, (o ++ (rowA (L.getD i act0) n)), rfl, ⟨by rfl, by rfl, by rfl, by rfl, by rfl, trivial⟩, (by omega), (by rw [← ho, hst, List.append_assoc]), (by rw [List.length_append]; omega), hS.pick [0, 1]⟩
                  omega
              ·  -- no
                refine K.DW.l 24 rfl (by kernel_rfl) (by kernel_rfl) (K.OW.q rfl (K.QR.nice (v := .bool (decide ((((n : Nat) : Int) : Int) < (10000 : Int)))) (by kernel_rfl) (congrArg Value.bool (decide_eq_false h_18))) ?_)
                refine ⟨.inl (hS.pick [0]), ?_⟩
                refine K.DW.l 25 rfl (by kernel_rfl) rfl (K.OW.q rfl (K.QR.k (v := .bool false) (by kernel_rfl)) ?_)
                refine ⟨.inl (hS.pick [0]), ?_⟩
                refine K.DW.l 26 rfl (by kernel_rfl) rfl (K.OW.q rfl (K.QR.k (v := .bool false) (by kernel_rfl)) ?_)
                refine ⟨.inl (hS.pick [0]), ?_⟩
                refine K.DW.skip 27 (by kernel_rfl) rfl rfl (by kernel_rfl) (by kernel_rfl) (hS.pick [0]) ?_
                refine K.DW.skip 28 (by kernel_rfl) rfl rfl (by kernel_rfl) (by kernel_rfl) (hS.pick [0]) ?_
                refine K.DW.skip 29 (by kernel_rfl) rfl rfl (by kernel_rfl) (by kernel_rfl) (hS.pick [0]) ?_
                refine K.DW.skip 30 (by kernel_rfl) rfl rfl (by kernel_rfl) (by kernel_rfl) (hS.pick [0]) ?_
                refine K.DW.skip 31 (by kernel_rfl) rfl rfl (by kernel_rfl) (by kernel_rfl) (hS.pick [0]) ?_
                refine K.DW.skip 32 (by kernel_rfl) rfl rfl (by kernel_rfl) (by kernel_rfl) (hS.pick [0]) ?_
                refine K.DW.skip 33 (by kernel_rfl) rfl rfl (by kernel_rfl) (by kernel_rfl) (hS.pick [0]) ?_
                refine K.DW.skip 34 (by kernel_rfl) rfl rfl (by kernel_rfl) (by kernel_rfl) (hS.pick [0]) ?_
                refine K.DW.skip 35 (by kernel_rfl) rfl rfl (by kernel_rfl) (by kernel_rfl) (hS.pick [0]) ?_
                refine K.DW.skip 36 (by kernel_rfl) rfl rfl (by kernel_rfl) (by kernel_rfl) (hS.pick [0]) ?_
                refine K.DW.skip 37 (by kernel_rfl) rfl rfl (by kernel_rfl) (by kernel_rfl) (hS.pick [0]) ?_
                refine K.DW.l 38 rfl (by kernel_rfl) rfl (K.OW.q rfl (K.QR.k (v := .bool false) (by kernel_rfl)) ?_)
                refine ⟨.inl (hS.pick [0]), ?_⟩
                refine K.DW.done (by kernel_rfl) ?_
                refine K.thn_normal ?_
                refine K.KW.ifF rfl ?_
                refine K.KW.exit ?_
                refine K.thn_exit ?_
                refine K.thn_exit ?_
                refine K.blk_hit ?_
                refine K.thn_normal ?_
                refine K.KW.seq ?_
                -- 7 :202
                have hn9 : n = alk (L.drop i) := alk_at (by omega) (by omega) (by omega) hsm hkn (by unfold kind25; omega)
                have hro : rowA (L.getD i act0) n = rowA ((L.drop i).getD 0 act0) (alk (L.drop i)) := by rw [getD_drop, ← hn9]; rfl
                have hri := hall i (by omega)
                have hrl := (wordsA_sum (n := n) hri (haf i) (by omega)).1
                have hrl2 : (rowA (L.getD i act0) n).length ≤ 106 := by unfold rowA; rw [List.length_append, List.length_singleton]; omega
                have hst := wrM_step (L := L.drop i) (by rw [List.length_drop]; omega)
                rw [← hro, ← hn9, List.drop_drop] at hst
                refine K.KW.region ?_
                refine K.RW.qs [.string (K.sb o), .slice (some ⟨b_10, of_11, none⟩) L.length cap, .int .i64 ((i : Nat) : Int)] (by kernel_rfl) ?_
                refine K.RW.q rfl rfl (K.QR.ix (of_11 + i * 6) 6 rfl rfl rfl Tryd.underlying54 (by kernel_rfl) (by omega) (by first | (simp; done) | omega | (simp; omega))) ?_
                refine K.RW.q rfl rfl (K.QR.ldN [.int .i64 ((L.getD i act0).k), .int .i64 ((L.getD i act0).th), .int .i64 ((L.getD i act0).ln), .int .i64 ((L.getD i act0).ok), .int .u32 ((L.getD i act0).key), .int .u32 ((L.getD i act0).val)] rfl rfl (by kernel_rfl) (by kernel_rfl) (K.cells (K.cl ((hx _ (hS.pick [0])).ld i (by omega) 0 _ rfl) (K.cl ((hx _ (hS.pick [0])).ld i (by omega) 1 _ rfl) (K.cl ((hx _ (hS.pick [0])).ld i (by omega) 2 _ rfl) (K.cl ((hx _ (hS.pick [0])).ld i (by omega) 3 _ rfl) (K.cl ((hx _ (hS.pick [0])).ld i (by omega) 4 _ rfl) (K.cl ((hx _ (hS.pick [0])).ld i (by omega) 5 _ rfl) K.cl0)))))))) ?_
                refine K.RW.qs [.int .i64 ((n : Nat) : Int)] (by kernel_rfl) ?_
                refine K.RW.l rfl (K.OW.gcall hS [] [0, 1] [.agg #[.int .i64 ((L.getD i act0).k), .int .i64 ((L.getD i act0).th), .int .i64 ((L.getD i act0).ln), .int .i64 ((L.getD i act0).ok), .int .u32 ((L.getD i act0).key), .int .u32 ((L.getD i act0).val)], .int .i64 ((n : Nat) : Int)] (drow_ok _ (L.getD i act0) n (haf i) hri (by omega)) ?_)
                clear hS; rintro _ _ w ⟨rfl, rfl⟩ hS
                replace hS : K.Sat w0 [gx, fr] w := hS
                refine K.RW.q rfl rfl (K.QR.sAdd (xs := o) (ys := (rowA (L.getD i act0) n)) rfl rfl rfl (by (try simp only [List.length_append, List.length_cons, List.length_nil] at *); omega)) ?_
                refine K.RW.qs [.string (K.sb (o ++ (rowA (L.getD i act0) n)))] (by kernel_rfl) ?_
                refine K.RW.nil ?_
                refine K.thn_normal ?_
                -- 8 :203
                refine K.KW.region ?_
                refine K.RW.qs [.int .i64 ((i : Nat) : Int), .int .i64 ((n : Nat) : Int)] (by kernel_rfl) ?_
                refine K.RW.q rfl rfl (K.QR.n64 ((((i : Nat) : Int) : Int) + (((n : Nat) : Int) : Int)) ((i + n : Nat) : Int) (by kernel_rfl) (by omega)) ?_
                refine K.RW.qs [.int .i64 ((i + n : Nat) : Int)] (by kernel_rfl) ?_
                refine K.RW.nil ?_
                refine K.blk_normal ?_
                refine K.thn_normal ?_
                refine ⟨_, ?_, i + n, (o ++ (rowA (L.getD i act0) n)), rfl, ⟨by rfl, by rfl, by rfl, by rfl, by rfl, trivial⟩, (by omega), (by rw [← ho, hst, List.append_assoc]), (by rw [List.length_append]; omega), hS.pick [0, 1]⟩
                omega
            ·  -- no
              refine K.DW.l 20 rfl (by kernel_rfl) (by kernel_rfl) (K.OW.q rfl (K.QR.nice (v := .bool (decide ((((i + n : Nat) : Int) : Int) < (((L.length : Nat) : Int) : Int)))) (by kernel_rfl) (congrArg Value.bool (decide_eq_false h_17))) ?_)
              refine ⟨.inl (hS.pick [0]), ?_⟩
              refine K.DW.l 21 rfl (by kernel_rfl) rfl (K.OW.q rfl (K.QR.k (v := .bool false) (by kernel_rfl)) ?_)
              refine ⟨.inl (hS.pick [0]), ?_⟩
              refine K.DW.l 22 rfl (by kernel_rfl) rfl (K.OW.q rfl (K.QR.k (v := .bool false) (by kernel_rfl)) ?_)
              refine ⟨.inl (hS.pick [0]), ?_⟩
              refine K.DW.skip 23 (by kernel_rfl) rfl rfl (by kernel_rfl) (by kernel_rfl) (hS.pick [0]) ?_
              refine K.DW.skip 24 (by kernel_rfl) rfl rfl (by kernel_rfl) (by kernel_rfl) (hS.pick [0]) ?_
              refine K.DW.l 25 rfl (by kernel_rfl) rfl (K.OW.q rfl (K.QR.k (v := .bool false) (by kernel_rfl)) ?_)
              refine ⟨.inl (hS.pick [0]), ?_⟩
              refine K.DW.l 26 rfl (by kernel_rfl) rfl (K.OW.q rfl (K.QR.k (v := .bool false) (by kernel_rfl)) ?_)
              refine ⟨.inl (hS.pick [0]), ?_⟩
              refine K.DW.skip 27 (by kernel_rfl) rfl rfl (by kernel_rfl) (by kernel_rfl) (hS.pick [0]) ?_
              refine K.DW.skip 28 (by kernel_rfl) rfl rfl (by kernel_rfl) (by kernel_rfl) (hS.pick [0]) ?_
              refine K.DW.skip 29 (by kernel_rfl) rfl rfl (by kernel_rfl) (by kernel_rfl) (hS.pick [0]) ?_
              refine K.DW.skip 30 (by kernel_rfl) rfl rfl (by kernel_rfl) (by kernel_rfl) (hS.pick [0]) ?_
              refine K.DW.skip 31 (by kernel_rfl) rfl rfl (by kernel_rfl) (by kernel_rfl) (hS.pick [0]) ?_
              refine K.DW.skip 32 (by kernel_rfl) rfl rfl (by kernel_rfl) (by kernel_rfl) (hS.pick [0]) ?_
              refine K.DW.skip 33 (by kernel_rfl) rfl rfl (by kernel_rfl) (by kernel_rfl) (hS.pick [0]) ?_
              refine K.DW.skip 34 (by kernel_rfl) rfl rfl (by kernel_rfl) (by kernel_rfl) (hS.pick [0]) ?_
              refine K.DW.skip 35 (by kernel_rfl) rfl rfl (by kernel_rfl) (by kernel_rfl) (hS.pick [0]) ?_
              refine K.DW.skip 36 (by kernel_rfl) rfl rfl (by kernel_rfl) (by kernel_rfl) (hS.pick [0]) ?_
              refine K.DW.skip 37 (by kernel_rfl) rfl rfl (by kernel_rfl) (by kernel_rfl) (hS.pick [0]) ?_
              refine K.DW.l 38 rfl (by kernel_rfl) rfl (K.OW.q rfl (K.QR.k (v := .bool false) (by kernel_rfl)) ?_)
              refine ⟨.inl (hS.pick [0]), ?_⟩
              refine K.DW.done (by kernel_rfl) ?_
              refine K.thn_normal ?_
              refine K.KW.ifF rfl ?_
              refine K.KW.exit ?_
              refine K.thn_exit ?_
              refine K.thn_exit ?_
              refine K.blk_hit ?_
              refine K.thn_normal ?_
              refine K.KW.seq ?_
              -- 7 :202
              have hn9 : n = alk (L.drop i) := alk_at (by omega) (by omega) (by omega) hsm hkn (by unfold kind25; omega)
              have hro : rowA (L.getD i act0) n = rowA ((L.drop i).getD 0 act0) (alk (L.drop i)) := by rw [getD_drop, ← hn9]; rfl
              have hri := hall i (by omega)
              have hrl := (wordsA_sum (n := n) hri (haf i) (by omega)).1
              have hrl2 : (rowA (L.getD i act0) n).length ≤ 106 := by unfold rowA; rw [List.length_append, List.length_singleton]; omega
              have hst := wrM_step (L := L.drop i) (by rw [List.length_drop]; omega)
              rw [← hro, ← hn9, List.drop_drop] at hst
              refine K.KW.region ?_
              refine K.RW.qs [.string (K.sb o), .slice (some ⟨b_10, of_11, none⟩) L.length cap, .int .i64 ((i : Nat) : Int)] (by kernel_rfl) ?_
              refine K.RW.q rfl rfl (K.QR.ix (of_11 + i * 6) 6 rfl rfl rfl Tryd.underlying54 (by kernel_rfl) (by omega) (by first | (simp; done) | omega | (simp; omega))) ?_
              refine K.RW.q rfl rfl (K.QR.ldN [.int .i64 ((L.getD i act0).k), .int .i64 ((L.getD i act0).th), .int .i64 ((L.getD i act0).ln), .int .i64 ((L.getD i act0).ok), .int .u32 ((L.getD i act0).key), .int .u32 ((L.getD i act0).val)] rfl rfl (by kernel_rfl) (by kernel_rfl) (K.cells (K.cl ((hx _ (hS.pick [0])).ld i (by omega) 0 _ rfl) (K.cl ((hx _ (hS.pick [0])).ld i (by omega) 1 _ rfl) (K.cl ((hx _ (hS.pick [0])).ld i (by omega) 2 _ rfl) (K.cl ((hx _ (hS.pick [0])).ld i (by omega) 3 _ rfl) (K.cl ((hx _ (hS.pick [0])).ld i (by omega) 4 _ rfl) (K.cl ((hx _ (hS.pick [0])).ld i (by omega) 5 _ rfl) K.cl0)))))))) ?_
              refine K.RW.qs [.int .i64 ((n : Nat) : Int)] (by kernel_rfl) ?_
              refine K.RW.l rfl (K.OW.gcall hS [] [0, 1] [.agg #[.int .i64 ((L.getD i act0).k), .int .i64 ((L.getD i act0).th), .int .i64 ((L.getD i act0).ln), .int .i64 ((L.getD i act0).ok), .int .u32 ((L.getD i act0).key), .int .u32 ((L.getD i act0).val)], .int .i64 ((n : Nat) : Int)] (drow_ok _ (L.getD i act0) n (haf i) hri (by omega)) ?_)
              clear hS; rintro _ _ w ⟨rfl, rfl⟩ hS
              replace hS : K.Sat w0 [gx, fr] w := hS
              refine K.RW.q rfl rfl (K.QR.sAdd (xs := o) (ys := (rowA (L.getD i act0) n)) rfl rfl rfl (by (try simp only [List.length_append, List.length_cons, List.length_nil] at *); omega)) ?_
              refine K.RW.qs [.string (K.sb (o ++ (rowA (L.getD i act0) n)))] (by kernel_rfl) ?_
              refine K.RW.nil ?_
              refine K.thn_normal ?_
              -- 8 :203
              refine K.KW.region ?_
              refine K.RW.qs [.int .i64 ((i : Nat) : Int), .int .i64 ((n : Nat) : Int)] (by kernel_rfl) ?_
              refine K.RW.q rfl rfl (K.QR.n64 ((((i : Nat) : Int) : Int) + (((n : Nat) : Int) : Int)) ((i + n : Nat) : Int) (by kernel_rfl) (by omega)) ?_
              refine K.RW.qs [.int .i64 ((i + n : Nat) : Int)] (by kernel_rfl) ?_
              refine K.RW.nil ?_
              refine K.blk_normal ?_
              refine K.thn_normal ?_
              refine ⟨_, ?_, i + n, (o ++ (rowA (L.getD i act0) n)), rfl, ⟨by rfl, by rfl, by rfl, by rfl, by rfl, trivial⟩, (by omega), (by rw [← ho, hst, List.append_assoc]), (by rw [List.length_append]; omega), hS.pick [0, 1]⟩
              omega
          ·  -- no
            refine K.DW.l 12 rfl (by kernel_rfl) (by kernel_rfl) (K.OW.q rfl (K.QR.nice (v := .bool (((L.getD i act0).k : Int) == (5 : Int))) (by kernel_rfl) (congrArg Value.bool (beq_eq_false_iff_ne.2 h_16))) ?_)
            refine ⟨.inl (hS.pick [0]), ?_⟩
            refine K.DW.l 13 rfl (by kernel_rfl) rfl (K.OW.q rfl (K.QR.k (v := .bool false) (by kernel_rfl)) ?_)
            refine ⟨.inl (hS.pick [0]), ?_⟩
            refine K.DW.l 14 rfl (by kernel_rfl) rfl (K.OW.q rfl (K.QR.k (v := .bool false) (by kernel_rfl)) ?_)
            refine ⟨.inl (hS.pick [0]), ?_⟩
            refine K.DW.skip 15 (by kernel_rfl) rfl rfl (by kernel_rfl) (by kernel_rfl) (hS.pick [0]) ?_
            refine K.DW.skip 16 (by kernel_rfl) rfl rfl (by kernel_rfl) (by kernel_rfl) (hS.pick [0]) ?_
            refine K.DW.skip 17 (by kernel_rfl) rfl rfl (by kernel_rfl) (by kernel_rfl) (hS.pick [0]) ?_
            refine K.DW.skip 18 (by kernel_rfl) rfl rfl (by kernel_rfl) (by kernel_rfl) (hS.pick [0]) ?_
            refine K.DW.skip 19 (by kernel_rfl) rfl rfl (by kernel_rfl) (by kernel_rfl) (hS.pick [0]) ?_
            refine K.DW.skip 20 (by kernel_rfl) rfl rfl (by kernel_rfl) (by kernel_rfl) (hS.pick [0]) ?_
            refine K.DW.l 21 rfl (by kernel_rfl) rfl (K.OW.q rfl (K.QR.k (v := .bool false) (by kernel_rfl)) ?_)
            refine ⟨.inl (hS.pick [0]), ?_⟩
            refine K.DW.l 22 rfl (by kernel_rfl) rfl (K.OW.q rfl (K.QR.k (v := .bool false) (by kernel_rfl)) ?_)
            refine ⟨.inl (hS.pick [0]), ?_⟩
            refine K.DW.skip 23 (by kernel_rfl) rfl rfl (by kernel_rfl) (by kernel_rfl) (hS.pick [0]) ?_
            refine K.DW.skip 24 (by kernel_rfl) rfl rfl (by kernel_rfl) (by kernel_rfl) (hS.pick [0]) ?_
            refine K.DW.l 25 rfl (by kernel_rfl) rfl (K.OW.q rfl (K.QR.k (v := .bool false) (by kernel_rfl)) ?_)
            refine ⟨.inl (hS.pick [0]), ?_⟩
            refine K.DW.l 26 rfl (by kernel_rfl) rfl (K.OW.q rfl (K.QR.k (v := .bool false) (by kernel_rfl)) ?_)
            refine ⟨.inl (hS.pick [0]), ?_⟩
            refine K.DW.skip 27 (by kernel_rfl) rfl rfl (by kernel_rfl) (by kernel_rfl) (hS.pick [0]) ?_
            refine K.DW.skip 28 (by kernel_rfl) rfl rfl (by kernel_rfl) (by kernel_rfl) (hS.pick [0]) ?_
            refine K.DW.skip 29 (by kernel_rfl) rfl rfl (by kernel_rfl) (by kernel_rfl) (hS.pick [0]) ?_
            refine K.DW.skip 30 (by kernel_rfl) rfl rfl (by kernel_rfl) (by kernel_rfl) (hS.pick [0]) ?_
            refine K.DW.skip 31 (by kernel_rfl) rfl rfl (by kernel_rfl) (by kernel_rfl) (hS.pick [0]) ?_
            refine K.DW.skip 32 (by kernel_rfl) rfl rfl (by kernel_rfl) (by kernel_rfl) (hS.pick [0]) ?_
            refine K.DW.skip 33 (by kernel_rfl) rfl rfl (by kernel_rfl) (by kernel_rfl) (hS.pick [0]) ?_
            refine K.DW.skip 34 (by kernel_rfl) rfl rfl (by kernel_rfl) (by kernel_rfl) (hS.pick [0]) ?_
            refine K.DW.skip 35 (by kernel_rfl) rfl rfl (by kernel_rfl) (by kernel_rfl) (hS.pick [0]) ?_
            refine K.DW.skip 36 (by kernel_rfl) rfl rfl (by kernel_rfl) (by kernel_rfl) (hS.pick [0]) ?_
            refine K.DW.skip 37 (by kernel_rfl) rfl rfl (by kernel_rfl) (by kernel_rfl) (hS.pick [0]) ?_
            refine K.DW.l 38 rfl (by kernel_rfl) rfl (K.OW.q rfl (K.QR.k (v := .bool false) (by kernel_rfl)) ?_)
            refine ⟨.inl (hS.pick [0]), ?_⟩
            refine K.DW.done (by kernel_rfl) ?_
            refine K.thn_normal ?_
            refine K.KW.ifF rfl ?_
            refine K.KW.exit ?_
            refine K.thn_exit ?_
            refine K.thn_exit ?_
            refine K.blk_hit ?_
            refine K.thn_normal ?_
            refine K.KW.seq ?_
            -- 7 :202
            have hn9 : n = alk (L.drop i) := alk_at (by omega) (by omega) (by omega) hsm hkn (by unfold kind25; omega)
            have hro : rowA (L.getD i act0) n = rowA ((L.drop i).getD 0 act0) (alk (L.drop i)) := by rw [getD_drop, ← hn9]; rfl
            have hri := hall i (by omega)
            have hrl := (wordsA_sum (n := n) hri (haf i) (by omega)).1
            have hrl2 : (rowA (L.getD i act0) n).length ≤ 106 := by unfold rowA; rw [List.length_append, List.length_singleton]; omega
            have hst := wrM_step (L := L.drop i) (by rw [List.length_drop]; omega)
            rw [← hro, ← hn9, List.drop_drop] at hst
            refine K.KW.region ?_
            refine K.RW.qs [.string (K.sb o), .slice (some ⟨b_10, of_11, none⟩) L.length cap, .int .i64 ((i : Nat) : Int)] (by kernel_rfl) ?_
            refine K.RW.q rfl rfl (K.QR.ix (of_11 + i * 6) 6 rfl rfl rfl Tryd.underlying54 (by kernel_rfl) (by omega) (by first | (simp; done) | omega | (simp; omega))) ?_
            refine K.RW.q rfl rfl (K.QR.ldN [.int .i64 ((L.getD i act0).k), .int .i64 ((L.getD i act0).th), .int .i64 ((L.getD i act0).ln), .int .i64 ((L.getD i act0).ok), .int .u32 ((L.getD i act0).key), .int .u32 ((L.getD i act0).val)] rfl rfl (by kernel_rfl) (by kernel_rfl) (K.cells (K.cl ((hx _ (hS.pick [0])).ld i (by omega) 0 _ rfl) (K.cl ((hx _ (hS.pick [0])).ld i (by omega) 1 _ rfl) (K.cl ((hx _ (hS.pick [0])).ld i (by omega) 2 _ rfl) (K.cl ((hx _ (hS.pick [0])).ld i (by omega) 3 _ rfl) (K.cl ((hx _ (hS.pick [0])).ld i (by omega) 4 _ rfl) (K.cl ((hx _ (hS.pick [0])).ld i (by omega) 5 _ rfl) K.cl0)))))))) ?_
            refine K.RW.qs [.int .i64 ((n : Nat) : Int)] (by kernel_rfl) ?_
            refine K.RW.l rfl (K.OW.gcall hS [] [0, 1] [.agg #[.int .i64 ((L.getD i act0).k), .int .i64 ((L.getD i act0).th), .int .i64 ((L.getD i act0).ln), .int .i64 ((L.getD i act0).ok), .int .u32 ((L.getD i act0).key), .int .u32 ((L.getD i act0).val)], .int .i64 ((n : Nat) : Int)] (drow_ok _ (L.getD i act0) n (haf i) hri (by omega)) ?_)
            clear hS; rintro _ _ w ⟨rfl, rfl⟩ hS
            replace hS : K.Sat w0 [gx, fr] w := hS
            refine K.RW.q rfl rfl (K.QR.sAdd (xs := o) (ys := (rowA (L.getD i act0) n)) rfl rfl rfl (by (try simp only [List.length_append, List.length_cons, List.length_nil] at *); omega)) ?_
            refine K.RW.qs [.string (K.sb (o ++ (rowA (L.getD i act0) n)))] (by kernel_rfl) ?_
            refine K.RW.nil ?_
            refine K.thn_normal ?_
            -- 8 :203
            refine K.KW.region ?_
            refine K.RW.qs [.int .i64 ((i : Nat) : Int), .int .i64 ((n : Nat) : Int)] (by kernel_rfl) ?_
            refine K.RW.q rfl rfl (K.QR.n64 ((((i : Nat) : Int) : Int) + (((n : Nat) : Int) : Int)) ((i + n : Nat) : Int) (by kernel_rfl) (by omega)) ?_
            refine K.RW.qs [.int .i64 ((i + n : Nat) : Int)] (by kernel_rfl) ?_
            refine K.RW.nil ?_
            refine K.blk_normal ?_
            refine K.thn_normal ?_
            refine ⟨_, ?_, i + n, (o ++ (rowA (L.getD i act0) n)), rfl, ⟨by rfl, by rfl, by rfl, by rfl, by rfl, trivial⟩, (by omega), (by rw [← ho, hst, List.append_assoc]), (by rw [List.length_append]; omega), hS.pick [0, 1]⟩
            omega
    ·  -- no
      refine K.RW.q rfl rfl (K.QR.nice (v := .bool (decide ((((i : Nat) : Int) : Int) < (((L.length : Nat) : Int) : Int)))) (by kernel_rfl) (congrArg Value.bool (decide_eq_false h_5))) ?_
      refine K.RW.nil ?_
      refine K.thn_normal ?_
      refine K.KW.ifF rfl ?_
      refine K.KW.exit ?_
      refine K.thn_exit ?_
      refine K.thn_exit ?_
      refine K.blk_hit ?_
      refine K.thn_normal ?_
      refine K.KW.seq ?_
      -- 9 :205
      refine K.KW.region ?_
      refine K.RW.qs [.string (K.sb o), .string (K.sb o)] (by kernel_rfl) ?_
      refine K.RW.nil ?_
      refine K.thn_normal ?_
      refine K.KW.ret ?_
      refine ⟨.inr rfl, rfl, (.string (K.sb o)), K.res1 rfl rfl, [gx], ?_, hS.pick [0, 1]⟩
      exact ⟨rfl, by rw [← ho, List.drop_of_length_le (by omega), wrM_nil, List.append_nil]⟩
set_option maxHeartbeats 1000000 in
set_option maxRecDepth 100000 in
theorem lright_ok (w0 : World) (a : Option Addr) (cap : Nat) (L : List ActM) (hm : L.length ≤ 1000000) (gx : K.Cs) (hx : ∀ w, K.Sat w0 [gx] w → K.RowE w a L.length 6 (fun i => cAct (L.getD i act0))) :
    K.GC Tryd.prog w0 26 #[.slice a L.length cap] [gx] (fun v post => post = [gx] ∧ ((allRt L ∧ v = .bool true) ∨ (¬ (allRt L) ∧ v = .bool false))) := by
  refine K.GC.mk (n := 16) Tryd.func26 rfl rfl [.slice a L.length cap] rfl rfl ?_
  intro fr w hS
  replace hS : K.Sat w0 [gx, fr] w := hS
  refine K.KW.seq ?_
  -- 0 :41
  refine K.KW.region ?_
  refine K.RW.qs [.bool false] (by kernel_rfl) ?_
  refine K.RW.nil ?_
  refine K.thn_normal ?_
  refine K.KW.seq ?_
  refine K.KW.seq ?_
  -- 1 :42
  refine K.KW.region ?_
  refine K.RW.qs [.int .i64 0] (by kernel_rfl) ?_
  refine K.RW.nil ?_
  refine K.thn_normal ?_
  refine K.KW.block ?_
  refine K.KW.loop (fun m_ F_ w_ => ∃ (i : Nat), m_ = L.length - i ∧ K.Sl F_ [(0, .slice a L.length cap), (3, .int .i64 ((i : Nat) : Int)), (16, undef)] ∧ i ≤ L.length ∧ (∀ q, q < i → rightO (L.getD q act0)) ∧ K.Sat w0 [gx, fr] w_) ((fun (i : Nat) => L.length - i) 0) ?_ ?_
  · -- begins
    exact ⟨0, rfl, ⟨by rfl, by rfl, by rfl, trivial⟩, (by omega), (fun q hq => by omega), hS.pick [0, 1]⟩
  · -- a round
    clear hS
    intro m_1 F_2 w hI
    obtain ⟨i, rfl, sl_3, p_4, hrt, hS⟩ := hI
    rw [← K.Sl.puts sl_3]; clear sl_3
    refine K.KW.seq ?_
    refine K.KW.seq ?_
    -- 2 :42
    refine K.KW.region ?_
    refine K.RW.qs [.int .i64 ((i : Nat) : Int), .slice a L.length cap] (by kernel_rfl) ?_
    refine K.RW.q rfl rfl (K.QR.len (P := Tryd.prog) rfl rfl Tryd.underlying54) ?_
    by_cases h_5 : (((i : Nat) : Int) : Int) < (((L.length : Nat) : Int) : Int)
    ·  -- yes
      refine K.RW.q rfl rfl (K.QR.nice (v := .bool (decide ((((i : Nat) : Int) : Int) < (((L.length : Nat) : Int) : Int)))) (by kernel_rfl) (congrArg Value.bool (decide_eq_true h_5))) ?_
      refine K.RW.nil ?_
      refine K.thn_normal ?_
      refine K.KW.ifT rfl ?_
      refine K.KW.skip ?_
      refine K.thn_normal ?_
      refine K.KW.seq ?_
      refine K.KW.block ?_
      refine K.KW.seq ?_
      -- 4 :43
      obtain ⟨b_6, of_7, rfl, _⟩ := (hx _ (hS.pick [0])).at_ (by omega)
      refine K.KW.region ?_
      refine K.RW.qs [.slice (some ⟨b_6, of_7, none⟩) L.length cap, .int .i64 ((i : Nat) : Int)] (by kernel_rfl) ?_
      refine K.RW.q rfl rfl (K.QR.ix (of_7 + i * 6) 6 rfl rfl rfl Tryd.underlying54 (by kernel_rfl) (by omega) (by first | (simp; done) | omega | (simp; omega))) ?_
      refine K.RW.q rfl rfl (K.QR.ldN [.int .i64 ((L.getD i act0).k), .int .i64 ((L.getD i act0).th), .int .i64 ((L.getD i act0).ln), .int .i64 ((L.getD i act0).ok), .int .u32 ((L.getD i act0).key), .int .u32 ((L.getD i act0).val)] rfl rfl (by kernel_rfl) (by kernel_rfl) (K.cells (K.cl ((hx _ (hS.pick [0])).ld i (by omega) 0 _ rfl) (K.cl ((hx _ (hS.pick [0])).ld i (by omega) 1 _ rfl) (K.cl ((hx _ (hS.pick [0])).ld i (by omega) 2 _ rfl) (K.cl ((hx _ (hS.pick [0])).ld i (by omega) 3 _ rfl) (K.cl ((hx _ (hS.pick [0])).ld i (by omega) 4 _ rfl) (K.cl ((hx _ (hS.pick [0])).ld i (by omega) 5 _ rfl) K.cl0)))))))) ?_
      refine K.RW.l rfl (K.OW.gcall hS [] [0, 1] [.agg #[.int .i64 ((L.getD i act0).k), .int .i64 ((L.getD i act0).th), .int .i64 ((L.getD i act0).ln), .int .i64 ((L.getD i act0).ok), .int .u32 ((L.getD i act0).key), .int .u32 ((L.getD i act0).val)]] (dright_ok _ (L.getD i act0)) ?_)
      clear hS; rintro _ _ w ⟨rfl, (⟨h_8, rfl⟩ | ⟨h_9, rfl⟩)⟩ hS
      ·
        replace hS : K.Sat w0 [gx, fr] w := hS
        refine K.RW.qs [.bool false] (by kernel_rfl) ?_
        refine K.RW.nil ?_
        refine K.thn_normal ?_
        refine K.KW.ifF rfl ?_
        refine K.KW.skip ?_
        refine K.blk_normal ?_
        refine K.thn_normal ?_
        -- 3 :42
        refine K.KW.region ?_
        refine K.RW.qs [.int .i64 ((i : Nat) : Int)] (by kernel_rfl) ?_
        refine K.RW.q rfl rfl (K.QR.n64 ((((i : Nat) : Int) : Int) + (1 : Int)) ((i + 1 : Nat) : Int) (by kernel_rfl) (by omega)) ?_
        refine K.RW.qs [.int .i64 ((i + 1 : Nat) : Int)] (by kernel_rfl) ?_
        refine K.RW.nil ?_
        refine K.thn_normal ?_
        refine ⟨_, ?_, i + 1, rfl, ⟨by rfl, by rfl, by rfl, trivial⟩, (by omega), (K.all_snoc hrt h_8), hS.pick [0, 1]⟩
        omega
      ·
        replace hS : K.Sat w0 [gx, fr] w := hS
        refine K.RW.qs [.bool true] (by kernel_rfl) ?_
        refine K.RW.nil ?_
        refine K.thn_normal ?_
        refine K.KW.ifT rfl ?_
        refine K.KW.seq ?_
        -- 5 :44
        refine K.KW.region ?_
        refine K.RW.qs [.bool false] (by kernel_rfl) ?_
        refine K.RW.nil ?_
        refine K.thn_normal ?_
        refine K.KW.ret ?_
        refine K.blk_ret ?_
        refine K.thn_ret ?_
        refine K.thn_ret ?_
        refine K.blk_ret ?_
        refine K.thn_ret ?_
        refine ⟨.inr rfl, rfl, (.bool false), K.res1 rfl rfl, [gx], ?_, hS.pick [0, 1]⟩
        exact ⟨rfl, .inr ⟨fun hh => h_9 (hh i (by omega)), rfl⟩⟩
    ·  -- no
      refine K.RW.q rfl rfl (K.QR.nice (v := .bool (decide ((((i : Nat) : Int) : Int) < (((L.length : Nat) : Int) : Int)))) (by kernel_rfl) (congrArg Value.bool (decide_eq_false h_5))) ?_
      refine K.RW.nil ?_
      refine K.thn_normal ?_
      refine K.KW.ifF rfl ?_
      refine K.KW.exit ?_
      refine K.thn_exit ?_
      refine K.thn_exit ?_
      refine K.blk_hit ?_
      refine K.thn_normal ?_
      refine K.KW.seq ?_
      -- 6 :47
      refine K.KW.region ?_
      refine K.RW.qs [.bool true] (by kernel_rfl) ?_
      refine K.RW.nil ?_
      refine K.thn_normal ?_
      refine K.KW.ret ?_
      refine ⟨.inr rfl, rfl, (.bool true), K.res1 rfl rfl, [gx], ?_, hS.pick [0, 1]⟩
      exact ⟨rfl, .inl ⟨fun q hq => hrt q (by omega), rfl⟩⟩
theorem list_eq {L M : List ActM} (h : L.length = M.length) (h2 : ∀ q, q < L.length → L.getD q act0 = M.getD q act0) : L = M := by
  refine List.ext_getElem h fun i h1 h3 => ?_
  have := h2 i h1
  simpa [List.getD_eq_getElem?_getD, h1, h3] using this
set_option maxHeartbeats 1000000 in
set_option maxRecDepth 100000 in
theorem lsame_ok (w0 : World) (a b : Option Addr) (ca cb : Nat) (L M : List ActM) (hl : L.length ≤ 1000000) (hm : M.length ≤ 1000000) (gx : K.Cs) (hx : ∀ w, K.Sat w0 [gx] w → K.RowE w a L.length 6 (fun i => cAct (L.getD i act0))) (gy : K.Cs) (hy : ∀ w, K.Sat w0 [gy] w → K.RowE w b M.length 6 (fun i => cAct (M.getD i act0))) :
    K.GC Tryd.prog w0 29 #[.slice a L.length ca, .slice b M.length cb] [gx, gy] (fun v post => post = [gx, gy] ∧ ((L = M ∧ v = .bool true) ∨ (¬ (L = M) ∧ v = .bool false))) := by
  refine K.GC.mk (n := 26) Tryd.func29 rfl rfl [.slice a L.length ca, .slice b M.length cb] rfl rfl ?_
  intro fr w hS
  replace hS : K.Sat w0 [gx, gy, fr] w := hS
  refine K.KW.seq ?_
  -- 0 :18
  refine K.KW.region ?_
  refine K.RW.qs [.bool false] (by kernel_rfl) ?_
  refine K.RW.nil ?_
  refine K.thn_normal ?_
  refine K.KW.seq ?_
  refine K.KW.seq ?_
  -- 1 :19
  refine K.KW.region ?_
  refine K.RW.qs [.slice a L.length ca] (by kernel_rfl) ?_
  refine K.RW.q rfl rfl (K.QR.len (P := Tryd.prog) rfl rfl Tryd.underlying54) ?_
  refine K.RW.qs [.slice b M.length cb] (by kernel_rfl) ?_
  refine K.RW.q rfl rfl (K.QR.len (P := Tryd.prog) rfl rfl Tryd.underlying54) ?_
  by_cases h_1 : (((L.length : Nat) : Int) : Int) = (((M.length : Nat) : Int) : Int)
  ·  -- yes
    refine K.RW.q rfl rfl (K.QR.nice (v := .bool ((((L.length : Nat) : Int) : Int) != (((M.length : Nat) : Int) : Int))) (by kernel_rfl) (congrArg Value.bool (bne_eq_false_iff_eq.2 h_1))) ?_
    refine K.RW.nil ?_
    refine K.thn_normal ?_
    refine K.KW.ifF rfl ?_
    refine K.KW.skip ?_
    refine K.thn_normal ?_
    refine K.KW.seq ?_
    refine K.KW.seq ?_
    -- 3 :22
    refine K.KW.region ?_
    refine K.RW.qs [.int .i64 0] (by kernel_rfl) ?_
    refine K.RW.nil ?_
    refine K.thn_normal ?_
    refine K.KW.block ?_
    refine K.KW.loop (fun m_ F_ w_ => ∃ (i : Nat), m_ = L.length - i ∧ K.Sl F_ [(0, .slice a L.length ca), (1, .slice b M.length cb), (5, .int .i64 ((i : Nat) : Int)), (26, undef)] ∧ i ≤ L.length ∧ (∀ q, q < i → L.getD q act0 = M.getD q act0) ∧ K.Sat w0 [gx, gy, fr] w_) ((fun (i : Nat) => L.length - i) 0) ?_ ?_
    · -- begins
      exact ⟨0, rfl, ⟨by rfl, by rfl, by rfl, by rfl, trivial⟩, (by omega), (fun q hq => by omega), hS.pick [0, 1, 2]⟩
    · -- a round
      clear hS
      intro m_2 F_3 w hI
      obtain ⟨i, rfl, sl_4, p_5, hsm, hS⟩ := hI
      rw [← K.Sl.puts sl_4]; clear sl_4
      refine K.KW.seq ?_
      refine K.KW.seq ?_
      -- 4 :22
      refine K.KW.region ?_
      refine K.RW.qs [.int .i64 ((i : Nat) : Int), .slice a L.length ca] (by kernel_rfl) ?_
      refine K.RW.q rfl rfl (K.QR.len (P := Tryd.prog) rfl rfl Tryd.underlying54) ?_
      by_cases h_6 : (((i : Nat) : Int) : Int) < (((L.length : Nat) : Int) : Int)
      ·  -- yes
        refine K.RW.q rfl rfl (K.QR.nice (v := .bool (decide ((((i : Nat) : Int) : Int) < (((L.length : Nat) : Int) : Int)))) (by kernel_rfl) (congrArg Value.bool (decide_eq_true h_6))) ?_
        refine K.RW.nil ?_
        refine K.thn_normal ?_
        refine K.KW.ifT rfl ?_
        refine K.KW.skip ?_
        refine K.thn_normal ?_
        refine K.KW.seq ?_
        refine K.KW.block ?_
        refine K.KW.seq ?_
        -- 6 :23
        obtain ⟨b_7, of_8, rfl, _⟩ := (hx _ (hS.pick [0])).at_ (by omega)
        obtain ⟨b_9, of_10, rfl, _⟩ := (hy _ (hS.pick [1])).at_ (by omega)
        refine K.KW.gdrawn [0] hS (by kernel_rfl) ?_
        clear hS; intro w hS
        refine K.DW.q 0 (by kernel_rfl) rfl rfl (by kernel_rfl) rfl (fun w hS => K.QR.k (v := .slice (some ⟨b_7, of_8, none⟩) L.length ca) (by kernel_rfl)) (hS.pick [0]) ?_
        refine K.DW.q 1 (by kernel_rfl) rfl rfl (by kernel_rfl) rfl (fun w hS => K.QR.k (v := .int .i64 ((i : Nat) : Int)) (by kernel_rfl)) (hS.pick [0]) ?_
        refine K.DW.q 2 (by kernel_rfl) rfl rfl (by kernel_rfl) rfl (fun w hS => K.QR.ix (of_8 + i * 6) 6 rfl rfl rfl Tryd.underlying54 (by kernel_rfl) (by omega) (by first | (simp; done) | omega | (simp; omega))) (hS.pick [0]) ?_
        refine K.DW.q 3 (by kernel_rfl) rfl rfl (by kernel_rfl) rfl (fun w hS => K.QR.ldN [.int .i64 ((L.getD i act0).k), .int .i64 ((L.getD i act0).th), .int .i64 ((L.getD i act0).ln), .int .i64 ((L.getD i act0).ok), .int .u32 ((L.getD i act0).key), .int .u32 ((L.getD i act0).val)] rfl rfl (by kernel_rfl) (by kernel_rfl) (K.cells (K.cl ((hx _ (hS.pick [0])).ld i (by omega) 0 _ rfl) (K.cl ((hx _ (hS.pick [0])).ld i (by omega) 1 _ rfl) (K.cl ((hx _ (hS.pick [0])).ld i (by omega) 2 _ rfl) (K.cl ((hx _ (hS.pick [0])).ld i (by omega) 3 _ rfl) (K.cl ((hx _ (hS.pick [0])).ld i (by omega) 4 _ rfl) (K.cl ((hx _ (hS.pick [0])).ld i (by omega) 5 _ rfl) K.cl0)))))))) (hS.pick [0]) ?_
        refine K.DW.q 4 (by kernel_rfl) rfl rfl (by kernel_rfl) rfl (fun w hS => K.QR.k (v := .slice (some ⟨b_9, of_10, none⟩) M.length cb) (by kernel_rfl)) (hS.pick [0]) ?_
        refine K.DW.l 5 rfl (by kernel_rfl) rfl (K.OW.q rfl (K.QR.k (v := .int .i64 ((i : Nat) : Int)) (by kernel_rfl)) ?_)
        refine ⟨.inl (hS.pick [0]), ?_⟩
        refine K.DW.l 6 rfl (by kernel_rfl) rfl (K.OW.q rfl (K.QR.ix (of_10 + i * 6) 6 rfl rfl rfl Tryd.underlying54 (by kernel_rfl) (by omega) (by first | (simp; done) | omega | (simp; omega))) ?_)
        refine ⟨.inl (hS.pick [0]), ?_⟩
        refine K.DW.l 7 rfl (by kernel_rfl) rfl (K.OW.q rfl (K.QR.ldN [.int .i64 ((M.getD i act0).k), .int .i64 ((M.getD i act0).th), .int .i64 ((M.getD i act0).ln), .int .i64 ((M.getD i act0).ok), .int .u32 ((M.getD i act0).key), .int .u32 ((M.getD i act0).val)] rfl rfl (by kernel_rfl) (by kernel_rfl) (K.cells (K.cl ((hy _ (hS.pick [1])).ld i (by omega) 0 _ rfl) (K.cl ((hy _ (hS.pick [1])).ld i (by omega) 1 _ rfl) (K.cl ((hy _ (hS.pick [1])).ld i (by omega) 2 _ rfl) (K.cl ((hy _ (hS.pick [1])).ld i (by omega) 3 _ rfl) (K.cl ((hy _ (hS.pick [1])).ld i (by omega) 4 _ rfl) (K.cl ((hy _ (hS.pick [1])).ld i (by omega) 5 _ rfl) K.cl0)))))))) ?_)
        refine ⟨.inl (hS.pick [0]), ?_⟩
        by_cases h_11 : ((L.getD i act0).k : Int) = (M.getD i act0).k ∧ ((L.getD i act0).th : Int) = (M.getD i act0).th ∧ ((L.getD i act0).ln : Int) = (M.getD i act0).ln ∧ ((L.getD i act0).ok : Int) = (M.getD i act0).ok ∧ ((L.getD i act0).key : Int) = (M.getD i act0).key ∧ ((L.getD i act0).val : Int) = (M.getD i act0).val
        ·  -- yes
          refine K.DW.l 8 rfl (by kernel_rfl) rfl (K.OW.q rfl (K.QR.neS (by kernel_rfl) rfl rfl rfl (eqAct_t h_11)) ?_)
          refine ⟨.inl (hS.pick [0]), ?_⟩
          refine K.DW.done (by kernel_rfl) ?_
          refine K.thn_normal ?_
          refine K.KW.ifF rfl ?_
          refine K.KW.skip ?_
          refine K.blk_normal ?_
          refine K.thn_normal ?_
          -- 5 :22
          refine K.KW.region ?_
          refine K.RW.qs [.int .i64 ((i : Nat) : Int)] (by kernel_rfl) ?_
          refine K.RW.q rfl rfl (K.QR.n64 ((((i : Nat) : Int) : Int) + (1 : Int)) ((i + 1 : Nat) : Int) (by kernel_rfl) (by omega)) ?_
          refine K.RW.qs [.int .i64 ((i + 1 : Nat) : Int)] (by kernel_rfl) ?_
          refine K.RW.nil ?_
          refine K.thn_normal ?_
          refine ⟨_, ?_, i + 1, rfl, ⟨by rfl, by rfl, by rfl, by rfl, trivial⟩, (by omega), (K.all_snoc hsm (act_eq.1 (by assumption))), hS.pick [0, 1, 2]⟩
          omega
        ·  -- no
          refine K.DW.l 8 rfl (by kernel_rfl) rfl (K.OW.q rfl (K.QR.neS (by kernel_rfl) rfl rfl rfl (eqAct_f h_11)) ?_)
          refine ⟨.inl (hS.pick [0]), ?_⟩
          refine K.DW.done (by kernel_rfl) ?_
          refine K.thn_normal ?_
          refine K.KW.ifT rfl ?_
          refine K.KW.seq ?_
          -- 7 :24
          refine K.KW.region ?_
          refine K.RW.qs [.bool false] (by kernel_rfl) ?_
          refine K.RW.nil ?_
          refine K.thn_normal ?_
          refine K.KW.ret ?_
          refine K.blk_ret ?_
          refine K.thn_ret ?_
          refine K.thn_ret ?_
          refine K.blk_ret ?_
          refine K.thn_ret ?_
          refine ⟨.inr rfl, rfl, (.bool false), K.res1 rfl rfl, [gx, gy], ?_, hS.pick [0, 1, 2]⟩
          exact ⟨rfl, .inr ⟨fun hh => h_11 (act_eq.2 (congrArg (fun z : List ActM => z.getD i act0) hh)), rfl⟩⟩
      ·  -- no
        refine K.RW.q rfl rfl (K.QR.nice (v := .bool (decide ((((i : Nat) : Int) : Int) < (((L.length : Nat) : Int) : Int)))) (by kernel_rfl) (congrArg Value.bool (decide_eq_false h_6))) ?_
        refine K.RW.nil ?_
        refine K.thn_normal ?_
        refine K.KW.ifF rfl ?_
        refine K.KW.exit ?_
        refine K.thn_exit ?_
        refine K.thn_exit ?_
        refine K.blk_hit ?_
        refine K.thn_normal ?_
        refine K.KW.seq ?_
        -- 8 :27
        refine K.KW.region ?_
        refine K.RW.qs [.bool true] (by kernel_rfl) ?_
        refine K.RW.nil ?_
        refine K.thn_normal ?_
        refine K.KW.ret ?_
        refine ⟨.inr rfl, rfl, (.bool true), K.res1 rfl rfl, [gx, gy], ?_, hS.pick [0, 1, 2]⟩
        exact ⟨rfl, .inl ⟨list_eq (by omega) (fun q hq => hsm q (by omega)), rfl⟩⟩
  ·  -- no
    refine K.RW.q rfl rfl (K.QR.nice (v := .bool ((((L.length : Nat) : Int) : Int) != (((M.length : Nat) : Int) : Int))) (by kernel_rfl) (congrArg Value.bool (bne_iff_ne.2 h_1))) ?_
    refine K.RW.nil ?_
    refine K.thn_normal ?_
    refine K.KW.ifT rfl ?_
    refine K.KW.seq ?_
    -- 2 :20
    refine K.KW.region ?_
    refine K.RW.qs [.bool false] (by kernel_rfl) ?_
    refine K.RW.nil ?_
    refine K.thn_normal ?_
    refine K.KW.ret ?_
    refine K.thn_ret ?_
    refine ⟨.inr rfl, rfl, (.bool false), K.res1 rfl rfl, [gx, gy], ?_, hS.pick [0, 1, 2]⟩
    exact ⟨rfl, .inr ⟨fun hh => (by have := congrArg List.length hh; omega), rfl⟩⟩
end Go.Proofs.YtnehocjmgnhhhaaDoor
