import Derived.Test.YtnehocjmgnhhhaaDoorFrp2
/- Reports: the line of a call. -/
namespace Go.Proofs.YtnehocjmgnhhhaaDoor
open Go.RowKit
set_option linter.unusedVariables false
attribute [local irreducible] K.KW K.RW K.DW K.OW K.QR K.KC
structure CallM where
  th : Int
  ok : Int
  key : Int
  val : Int
  rk : Int
  rv : Int
  beg : Int
  en : Int
  wh : Int
  cr : Bool
  kp : Bool
deriving DecidableEq
def call0 : CallM := ⟨0, 0, 0, 0, 0, 0, 0, 0, 0, false, false⟩
def cCall (c : CallM) : List Value := [.int .i64 c.th, .int .i64 c.ok, .int .u32 c.key, .int .u32 c.val, .int .i64 c.rk, .int .u32 c.rv, .int .i64 c.beg, .int .i64 c.en, .int .i64 c.wh, .bool c.cr, .bool c.kp]
def isI64 (x : Int) : Prop := -9223372036854775808 ≤ x ∧ x ≤ 9223372036854775807
/-- a call's numbers may be: those of the kinds of its fields -/
def CallM.fits (c : CallM) : Prop := isI64 c.th ∧ isI64 c.ok ∧ (0 ≤ c.key ∧ c.key ≤ 4294967295) ∧ (0 ≤ c.val ∧ c.val ≤ 4294967295) ∧ isI64 c.rk ∧ (0 ≤ c.rv ∧ c.rv ≤ 4294967295) ∧ isI64 c.beg ∧ isI64 c.en ∧ isI64 c.wh
def CallM.nums (c : CallM) : Prop := (1 ≤ c.ok ∧ c.ok ≤ 8) ∧ (0 ≤ c.rk ∧ c.rk ≤ 5) ∧ (-1 ≤ c.beg ∧ c.beg ≤ 1099511627776) ∧ (-1 ≤ c.wh ∧ c.wh ≤ 1099511627776) ∧ (-1 ≤ c.en ∧ c.en ≤ 1099511627776) ∧ (0 ≤ c.th ∧ c.th ≤ 63)
/-- a call that may be written -/
def CallM.may (c : CallM) : Prop := c.nums ∧ (c.cr = true ∨ c.kp = false)
instance (c : CallM) : Decidable c.nums := inferInstanceAs (Decidable (_ ∧ _))
instance (c : CallM) : Decidable c.may := inferInstanceAs (Decidable (_ ∧ _))
def opNm : List (List UInt8) := [[], [101, 110, 113], [100, 101, 113], [97, 100, 100], [100, 101, 108], [104, 97, 115], [112, 117, 116], [103, 101, 116], [99, 117, 116]]
def resNm : List (List UInt8) := [[110, 111, 110, 101], [111, 107], [101, 109, 112, 116, 121], [116, 104, 101, 114, 101], [103, 111, 110, 101], [102, 117, 108, 108]]
def endR (c : CallM) : List UInt8 := if c.kp = true then [107, 101, 112, 116] else if c.cr = true then [99, 114, 97, 115, 104, 101, 100] else [45]
/-- a call's words -/
def wordsR (c : CallM) : List (List UInt8) := [dgR c.th, opNm.getD c.ok.toNat [], dgR c.key, dgR c.val, resNm.getD c.rk.toNat [], dgR c.rv, dgR c.beg, dgR c.wh, dgR c.en, endR c]
def lineR (c : CallM) : List UInt8 := K.jn 32 (wordsR c)
set_option maxHeartbeats 4000000 in
set_option maxRecDepth 100000 in
theorem repright_ok (w0 : World) (c : CallM) :
    K.GC Tryd.prog w0 46 #[.agg #[.int .i64 c.th, .int .i64 c.ok, .int .u32 c.key, .int .u32 c.val, .int .i64 c.rk, .int .u32 c.rv, .int .i64 c.beg, .int .i64 c.en, .int .i64 c.wh, .bool c.cr, .bool c.kp]] [] (fun v post => post = [] ∧ ((c.may ∧ v = .bool true) ∨ (¬ (c.may) ∧ v = .bool false))) := by
  refine K.GC.mk (n := 57) Tryd.func46 rfl rfl [.agg #[.int .i64 c.th, .int .i64 c.ok, .int .u32 c.key, .int .u32 c.val, .int .i64 c.rk, .int .u32 c.rv, .int .i64 c.beg, .int .i64 c.en, .int .i64 c.wh, .bool c.cr, .bool c.kp]] rfl rfl ?_
  intro fr w hS
  replace hS : K.Sat w0 [fr] w := hS
  refine K.KW.seq ?_
  -- 0 :37
  refine K.KW.region ?_
  refine K.RW.l rfl (K.OW.gnew 29 [.int .i64 c.th, .int .i64 c.ok, .int .u32 c.key, .int .u32 c.val, .int .i64 c.rk, .int .u32 c.rv, .int .i64 c.beg, .int .i64 c.en, .int .i64 c.wh, .bool c.cr, .bool c.kp] hS ?_)
  clear hS; intro w r_1 g_2 hg_3 hS
  refine K.RW.qs [.bool false] (by kernel_rfl) ?_
  refine K.RW.nil ?_
  refine K.thn_normal ?_
  refine K.KW.seq ?_
  -- 1 :38
  refine K.KW.region ?_
  refine K.RW.qs [.pointer (some ⟨r_1, 1, none⟩), .pointer (some ⟨r_1, 1, none⟩)] (by kernel_rfl) ?_
  refine K.RW.q rfl rfl (K.QR.ld1 (v := .int .i64 c.ok) rfl rfl (by kernel_rfl) ((hS.blk 0 rfl hg_3).cell rfl)) ?_
  refine K.RW.l rfl (K.OW.gcall hS [] [0, 1] [.int .i64 c.ok] (kind_ok _ c.ok) ?_)
  clear hS; rintro _ _ w ⟨rfl, (⟨h_4, rfl⟩ | ⟨h_5, rfl⟩)⟩ hS
  ·
    replace hS : K.Sat w0 [g_2, fr] w := hS
    refine K.RW.qs [.bool true, .pointer (some ⟨r_1, 4, none⟩), .pointer (some ⟨r_1, 4, none⟩)] (by kernel_rfl) ?_
    refine K.RW.q rfl (by kernel_rfl) (K.QR.ld1 (v := .int .i64 c.rk) rfl rfl (by kernel_rfl) ((hS.blk 0 rfl hg_3).cell rfl)) ?_
    by_cases h_6 : (c.rk : Int) ≥ (0 : Int)
    ·  -- yes
      refine K.RW.q rfl (by kernel_rfl) (K.QR.nice (v := .bool (decide ((c.rk : Int) ≥ (0 : Int)))) (by kernel_rfl) (congrArg Value.bool (decide_eq_true h_6))) ?_
      refine K.RW.qs [.bool true, .bool true, .pointer (some ⟨r_1, 4, none⟩), .pointer (some ⟨r_1, 4, none⟩)] (by kernel_rfl) ?_
      refine K.RW.q rfl (by kernel_rfl) (K.QR.ld1 (v := .int .i64 c.rk) rfl rfl (by kernel_rfl) ((hS.blk 0 rfl hg_3).cell rfl)) ?_
      by_cases h_7 : (c.rk : Int) ≤ (5 : Int)
      ·  -- yes
        refine K.RW.q rfl (by kernel_rfl) (K.QR.nice (v := .bool (decide ((c.rk : Int) ≤ (5 : Int)))) (by kernel_rfl) (congrArg Value.bool (decide_eq_true h_7))) ?_
        refine K.RW.qs [.bool true, .bool true] (by kernel_rfl) ?_
        refine K.RW.nil ?_
        refine K.thn_normal ?_
        refine K.KW.seq ?_
        -- 2 :39
        refine K.KW.region ?_
        refine K.RW.qs [.pointer (some ⟨r_1, 6, none⟩)] (by kernel_rfl) ?_
        refine K.RW.q rfl rfl (K.QR.ld1 (v := .int .i64 c.beg) rfl rfl (by kernel_rfl) ((hS.blk 0 rfl hg_3).cell rfl)) ?_
        refine K.RW.l rfl (K.OW.gcall hS [] [0, 1] [.int .i64 c.beg] (rtime_ok _ c.beg) ?_)
        clear hS; rintro _ _ w ⟨rfl, (⟨h_8, rfl⟩ | ⟨h_9, rfl⟩)⟩ hS
        ·
          replace hS : K.Sat w0 [g_2, fr] w := hS
          refine K.RW.qs [.bool true, .pointer (some ⟨r_1, 8, none⟩)] (by kernel_rfl) ?_
          refine K.RW.q rfl (by kernel_rfl) (K.QR.ld1 (v := .int .i64 c.wh) rfl rfl (by kernel_rfl) ((hS.blk 0 rfl hg_3).cell rfl)) ?_
          refine K.RW.l (by kernel_rfl) (K.OW.gcall hS [] [0, 1] [.int .i64 c.wh] (rtime_ok _ c.wh) ?_)
          clear hS; rintro _ _ w ⟨rfl, (⟨h_10, rfl⟩ | ⟨h_11, rfl⟩)⟩ hS
          ·
            replace hS : K.Sat w0 [g_2, fr] w := hS
            refine K.RW.qs [.bool true, .bool true, .pointer (some ⟨r_1, 7, none⟩)] (by kernel_rfl) ?_
            refine K.RW.q rfl (by kernel_rfl) (K.QR.ld1 (v := .int .i64 c.en) rfl rfl (by kernel_rfl) ((hS.blk 0 rfl hg_3).cell rfl)) ?_
            refine K.RW.l (by kernel_rfl) (K.OW.gcall hS [] [0, 1] [.int .i64 c.en] (rtime_ok _ c.en) ?_)
            clear hS; rintro _ _ w ⟨rfl, (⟨h_12, rfl⟩ | ⟨h_13, rfl⟩)⟩ hS
            ·
              replace hS : K.Sat w0 [g_2, fr] w := hS
              refine K.RW.qs [.bool true, .bool true] (by kernel_rfl) ?_
              refine K.RW.nil ?_
              refine K.thn_normal ?_
              refine K.KW.seq ?_
              -- 3 :40
              refine K.KW.region ?_
              refine K.RW.qs [.bool true, .bool true, .bool true, .bool true, .bool true, .pointer (some ⟨r_1, 0, none⟩)] (by kernel_rfl) ?_
              refine K.RW.q rfl (by kernel_rfl) (K.QR.ld1 (v := .int .i64 c.th) rfl rfl (by kernel_rfl) ((hS.blk 0 rfl hg_3).cell rfl)) ?_
              by_cases h_14 : (c.th : Int) ≥ (0 : Int)
              ·  -- yes
                refine K.RW.q rfl (by kernel_rfl) (K.QR.nice (v := .bool (decide ((c.th : Int) ≥ (0 : Int)))) (by kernel_rfl) (congrArg Value.bool (decide_eq_true h_14))) ?_
                refine K.RW.qs [.bool true, .bool true, .pointer (some ⟨r_1, 0, none⟩)] (by kernel_rfl) ?_
                refine K.RW.q rfl (by kernel_rfl) (K.QR.ld1 (v := .int .i64 c.th) rfl rfl (by kernel_rfl) ((hS.blk 0 rfl hg_3).cell rfl)) ?_
                by_cases h_15 : (c.th : Int) ≤ (63 : Int)
                ·  -- yes
                  refine K.RW.q rfl (by kernel_rfl) (K.QR.nice (v := .bool (decide ((c.th : Int) ≤ (63 : Int)))) (by kernel_rfl) (congrArg Value.bool (decide_eq_true h_15))) ?_
                  refine K.RW.qs [.bool true, .bool true, .pointer (some ⟨r_1, 9, none⟩)] (by kernel_rfl) ?_
                  refine K.RW.q rfl (by kernel_rfl) (K.QR.ld1 (v := .bool c.cr) rfl rfl (by kernel_rfl) ((hS.blk 0 rfl hg_3).cell rfl)) ?_
                  cases hb_16 : c.cr
                  ·
                    refine K.RW.qs [.bool false, .pointer (some ⟨r_1, 10, none⟩)] (by kernel_rfl) ?_
                    refine K.RW.q rfl (by kernel_rfl) (K.QR.ld1 (v := .bool c.kp) rfl rfl (by kernel_rfl) ((hS.blk 0 rfl hg_3).cell rfl)) ?_
                    cases hb_17 : c.kp
                    ·
                      refine K.RW.qs [.bool true, .bool true, .bool true, .bool true] (by kernel_rfl) ?_
                      refine K.RW.nil ?_
                      refine K.thn_normal ?_
                      refine K.KW.ret ?_
                      refine ⟨.inr rfl, rfl, (.bool true), K.res1 rfl rfl, [], ?_, hS.pick [1]⟩
                      exact ⟨rfl, .inl ⟨⟨by unfold CallM.nums; omega, by first | exact .inl (by assumption) | exact .inr (by assumption)⟩, rfl⟩⟩
                    ·
                      refine K.RW.qs [.bool false, .bool false, .bool false, .bool false] (by kernel_rfl) ?_
                      refine K.RW.nil ?_
                      refine K.thn_normal ?_
                      refine K.KW.ret ?_
                      refine ⟨.inr rfl, rfl, (.bool false), K.res1 rfl rfl, [], ?_, hS.pick [1]⟩
                      exact ⟨rfl, .inr ⟨fun hh => by first | (have h9 := hh.1; unfold CallM.nums at h9; omega) | (have h9 := hh.2; simp_all), rfl⟩⟩
                  ·
                    refine K.RW.qs [.bool true] (by kernel_rfl) ?_
                    refine K.RW.skip rfl (by kernel_rfl) ?_
                    refine K.RW.skip rfl (by kernel_rfl) ?_
                    refine K.RW.skip rfl (by kernel_rfl) ?_
                    refine K.RW.qs [.bool true, .bool true, .bool true] (by kernel_rfl) ?_
                    refine K.RW.nil ?_
                    refine K.thn_normal ?_
                    refine K.KW.ret ?_
                    refine ⟨.inr rfl, rfl, (.bool true), K.res1 rfl rfl, [], ?_, hS.pick [1]⟩
                    exact ⟨rfl, .inl ⟨⟨by unfold CallM.nums; omega, by first | exact .inl (by assumption) | exact .inr (by assumption)⟩, rfl⟩⟩
                ·  -- no
                  refine K.RW.q rfl (by kernel_rfl) (K.QR.nice (v := .bool (decide ((c.th : Int) ≤ (63 : Int)))) (by kernel_rfl) (congrArg Value.bool (decide_eq_false h_15))) ?_
                  refine K.RW.qs [.bool false, .bool false] (by kernel_rfl) ?_
                  refine K.RW.skip rfl (by kernel_rfl) ?_
                  refine K.RW.skip rfl (by kernel_rfl) ?_
                  refine K.RW.skip rfl (by kernel_rfl) ?_
                  refine K.RW.skip rfl (by kernel_rfl) ?_
                  refine K.RW.skip rfl (by kernel_rfl) ?_
                  refine K.RW.skip rfl (by kernel_rfl) ?_
                  refine K.RW.skip rfl (by kernel_rfl) ?_
                  refine K.RW.qs [.bool false, .bool false] (by kernel_rfl) ?_
                  refine K.RW.nil ?_
                  refine K.thn_normal ?_
                  refine K.KW.ret ?_
                  refine ⟨.inr rfl, rfl, (.bool false), K.res1 rfl rfl, [], ?_, hS.pick [1]⟩
                  exact ⟨rfl, .inr ⟨fun hh => by first | (have h9 := hh.1; unfold CallM.nums at h9; omega) | (have h9 := hh.2; simp_all), rfl⟩⟩
              ·  -- no
                refine K.RW.q rfl (by kernel_rfl) (K.QR.nice (v := .bool (decide ((c.th : Int) ≥ (0 : Int)))) (by kernel_rfl) (congrArg Value.bool (decide_eq_false h_14))) ?_
                refine K.RW.qs [.bool false, .bool false] (by kernel_rfl) ?_
                refine K.RW.skip rfl (by kernel_rfl) ?_
                refine K.RW.skip rfl (by kernel_rfl) ?_
                refine K.RW.skip rfl (by kernel_rfl) ?_
                refine K.RW.qs [.bool false, .bool false] (by kernel_rfl) ?_
                refine K.RW.skip rfl (by kernel_rfl) ?_
                refine K.RW.skip rfl (by kernel_rfl) ?_
                refine K.RW.skip rfl (by kernel_rfl) ?_
                refine K.RW.skip rfl (by kernel_rfl) ?_
                refine K.RW.skip rfl (by kernel_rfl) ?_
                refine K.RW.skip rfl (by kernel_rfl) ?_
                refine K.RW.skip rfl (by kernel_rfl) ?_
                refine K.RW.qs [.bool false, .bool false] (by kernel_rfl) ?_
                refine K.RW.nil ?_
                refine K.thn_normal ?_
                refine K.KW.ret ?_
                refine ⟨.inr rfl, rfl, (.bool false), K.res1 rfl rfl, [], ?_, hS.pick [1]⟩
                exact ⟨rfl, .inr ⟨fun hh => by first | (have h9 := hh.1; unfold CallM.nums at h9; omega) | (have h9 := hh.2; simp_all), rfl⟩⟩
            ·
              replace hS : K.Sat w0 [g_2, fr] w := hS
              refine K.RW.qs [.bool false, .bool false] (by kernel_rfl) ?_
              refine K.RW.nil ?_
              refine K.thn_normal ?_
              refine K.KW.seq ?_
              -- 3 :40
              refine K.KW.region ?_
              refine K.RW.qs [.bool true, .bool true, .bool false, .bool false, .bool false] (by kernel_rfl) ?_
              refine K.RW.skip rfl (by kernel_rfl) ?_
              refine K.RW.skip rfl (by kernel_rfl) ?_
              refine K.RW.skip rfl (by kernel_rfl) ?_
              refine K.RW.qs [.bool false, .bool false] (by kernel_rfl) ?_
              refine K.RW.skip rfl (by kernel_rfl) ?_
              refine K.RW.skip rfl (by kernel_rfl) ?_
              refine K.RW.skip rfl (by kernel_rfl) ?_
              refine K.RW.qs [.bool false, .bool false] (by kernel_rfl) ?_
              refine K.RW.skip rfl (by kernel_rfl) ?_
              refine K.RW.skip rfl (by kernel_rfl) ?_
              refine K.RW.skip rfl (by kernel_rfl) ?_
              refine K.RW.skip rfl (by kernel_rfl) ?_
              refine K.RW.skip rfl (by kernel_rfl) ?_
              refine K.RW.skip rfl (by kernel_rfl) ?_
              refine K.RW.skip rfl (by kernel_rfl) ?_
              refine K.RW.qs [.bool false, .bool false] (by kernel_rfl) ?_
              refine K.RW.nil ?_
              refine K.thn_normal ?_
              refine K.KW.ret ?_
              refine ⟨.inr rfl, rfl, (.bool false), K.res1 rfl rfl, [], ?_, hS.pick [1]⟩
              exact ⟨rfl, .inr ⟨fun hh => by first | (have h9 := hh.1; unfold CallM.nums at h9; omega) | (have h9 := hh.2; simp_all), rfl⟩⟩
          ·
            replace hS : K.Sat w0 [g_2, fr] w := hS
            refine K.RW.qs [.bool false, .bool false] (by kernel_rfl) ?_
            refine K.RW.skip rfl (by kernel_rfl) ?_
            refine K.RW.skip rfl (by kernel_rfl) ?_
            refine K.RW.skip rfl (by kernel_rfl) ?_
            refine K.RW.qs [.bool false, .bool false] (by kernel_rfl) ?_
            refine K.RW.nil ?_
            refine K.thn_normal ?_
            refine K.KW.seq ?_
            -- 3 :40
            refine K.KW.region ?_
            refine K.RW.qs [.bool true, .bool true, .bool false, .bool false, .bool false] (by kernel_rfl) ?_
            refine K.RW.skip rfl (by kernel_rfl) ?_
            refine K.RW.skip rfl (by kernel_rfl) ?_
            refine K.RW.skip rfl (by kernel_rfl) ?_
            refine K.RW.qs [.bool false, .bool false] (by kernel_rfl) ?_
            refine K.RW.skip rfl (by kernel_rfl) ?_
            refine K.RW.skip rfl (by kernel_rfl) ?_
            refine K.RW.skip rfl (by kernel_rfl) ?_
            refine K.RW.qs [.bool false, .bool false] (by kernel_rfl) ?_
            refine K.RW.skip rfl (by kernel_rfl) ?_
            refine K.RW.skip rfl (by kernel_rfl) ?_
            refine K.RW.skip rfl (by kernel_rfl) ?_
            refine K.RW.skip rfl (by kernel_rfl) ?_
            refine K.RW.skip rfl (by kernel_rfl) ?_
            refine K.RW.skip rfl (by kernel_rfl) ?_
            refine K.RW.skip rfl (by kernel_rfl) ?_
            refine K.RW.qs [.bool false, .bool false] (by kernel_rfl) ?_
            refine K.RW.nil ?_
            refine K.thn_normal ?_
            refine K.KW.ret ?_
            refine ⟨.inr rfl, rfl, (.bool false), K.res1 rfl rfl, [], ?_, hS.pick [1]⟩
            exact ⟨rfl, .inr ⟨fun hh => by first | (have h9 := hh.1; unfold CallM.nums at h9; omega) | (have h9 := hh.2; simp_all), rfl⟩⟩
        ·
          replace hS : K.Sat w0 [g_2, fr] w := hS
          refine K.RW.qs [.bool false] (by kernel_rfl) ?_
          refine K.RW.skip rfl (by kernel_rfl) ?_
          refine K.RW.skip rfl (by kernel_rfl) ?_
          refine K.RW.skip rfl (by kernel_rfl) ?_
          refine K.RW.qs [.bool false, .bool false] (by kernel_rfl) ?_
          refine K.RW.skip rfl (by kernel_rfl) ?_
          refine K.RW.skip rfl (by kernel_rfl) ?_
          refine K.RW.skip rfl (by kernel_rfl) ?_
          refine K.RW.qs [.bool false, .bool false] (by kernel_rfl) ?_
          refine K.RW.nil ?_
          refine K.thn_normal ?_
          refine K.KW.seq ?_
          -- 3 :40
          refine K.KW.region ?_
          refine K.RW.qs [.bool true, .bool true, .bool false, .bool false, .bool false] (by kernel_rfl) ?_
          refine K.RW.skip rfl (by kernel_rfl) ?_
          refine K.RW.skip rfl (by kernel_rfl) ?_
          refine K.RW.skip rfl (by kernel_rfl) ?_
          refine K.RW.qs [.bool false, .bool false] (by kernel_rfl) ?_
          refine K.RW.skip rfl (by kernel_rfl) ?_
          refine K.RW.skip rfl (by kernel_rfl) ?_
          refine K.RW.skip rfl (by kernel_rfl) ?_
          refine K.RW.qs [.bool false, .bool false] (by kernel_rfl) ?_
          refine K.RW.skip rfl (by kernel_rfl) ?_
          refine K.RW.skip rfl (by kernel_rfl) ?_
          refine K.RW.skip rfl (by kernel_rfl) ?_
          refine K.RW.skip rfl (by kernel_rfl) ?_
          refine K.RW.skip rfl (by kernel_rfl) ?_
          refine K.RW.skip rfl (by kernel_rfl) ?_
          refine K.RW.skip rfl (by kernel_rfl) ?_
          refine K.RW.qs [.bool false, .bool false] (by kernel_rfl) ?_
          refine K.RW.nil ?_
          refine K.thn_normal ?_
          refine K.KW.ret ?_
          refine ⟨.inr rfl, rfl, (.bool false), K.res1 rfl rfl, [], ?_, hS.pick [1]⟩
          exact ⟨rfl, .inr ⟨fun hh => by first | (have h9 := hh.1; unfold CallM.nums at h9; omega) | (have h9 := hh.2; simp_all), rfl⟩⟩
      ·  -- no
        refine K.RW.q rfl (by kernel_rfl) (K.QR.nice (v := .bool (decide ((c.rk : Int) ≤ (5 : Int)))) (by kernel_rfl) (congrArg Value.bool (decide_eq_false h_7))) ?_
        refine K.RW.qs [.bool false, .bool false] (by kernel_rfl) ?_
        refine K.RW.nil ?_
        refine K.thn_normal ?_
        refine K.KW.seq ?_
        -- 2 :39
        refine K.KW.region ?_
        refine K.RW.qs [.pointer (some ⟨r_1, 6, none⟩)] (by kernel_rfl) ?_
        refine K.RW.q rfl rfl (K.QR.ld1 (v := .int .i64 c.beg) rfl rfl (by kernel_rfl) ((hS.blk 0 rfl hg_3).cell rfl)) ?_
        refine K.RW.l rfl (K.OW.gcall hS [] [0, 1] [.int .i64 c.beg] (rtime_ok _ c.beg) ?_)
        clear hS; rintro _ _ w ⟨rfl, (⟨h_18, rfl⟩ | ⟨h_19, rfl⟩)⟩ hS
        ·
          replace hS : K.Sat w0 [g_2, fr] w := hS
          refine K.RW.qs [.bool true, .pointer (some ⟨r_1, 8, none⟩)] (by kernel_rfl) ?_
          refine K.RW.q rfl (by kernel_rfl) (K.QR.ld1 (v := .int .i64 c.wh) rfl rfl (by kernel_rfl) ((hS.blk 0 rfl hg_3).cell rfl)) ?_
          refine K.RW.l (by kernel_rfl) (K.OW.gcall hS [] [0, 1] [.int .i64 c.wh] (rtime_ok _ c.wh) ?_)
          clear hS; rintro _ _ w ⟨rfl, (⟨h_20, rfl⟩ | ⟨h_21, rfl⟩)⟩ hS
          ·
            replace hS : K.Sat w0 [g_2, fr] w := hS
            refine K.RW.qs [.bool true, .bool true, .pointer (some ⟨r_1, 7, none⟩)] (by kernel_rfl) ?_
            refine K.RW.q rfl (by kernel_rfl) (K.QR.ld1 (v := .int .i64 c.en) rfl rfl (by kernel_rfl) ((hS.blk 0 rfl hg_3).cell rfl)) ?_
            refine K.RW.l (by kernel_rfl) (K.OW.gcall hS [] [0, 1] [.int .i64 c.en] (rtime_ok _ c.en) ?_)
            clear hS; rintro _ _ w ⟨rfl, (⟨h_22, rfl⟩ | ⟨h_23, rfl⟩)⟩ hS
            ·
              replace hS : K.Sat w0 [g_2, fr] w := hS
              refine K.RW.qs [.bool true, .bool true] (by kernel_rfl) ?_
              refine K.RW.nil ?_
              refine K.thn_normal ?_
              refine K.KW.seq ?_
              -- 3 :40
              refine K.KW.region ?_
              refine K.RW.qs [.bool false, .bool false] (by kernel_rfl) ?_
              refine K.RW.skip rfl (by kernel_rfl) ?_
              refine K.RW.qs [.bool false, .bool false] (by kernel_rfl) ?_
              refine K.RW.skip rfl (by kernel_rfl) ?_
              refine K.RW.skip rfl (by kernel_rfl) ?_
              refine K.RW.skip rfl (by kernel_rfl) ?_
              refine K.RW.qs [.bool false, .bool false] (by kernel_rfl) ?_
              refine K.RW.skip rfl (by kernel_rfl) ?_
              refine K.RW.skip rfl (by kernel_rfl) ?_
              refine K.RW.skip rfl (by kernel_rfl) ?_
              refine K.RW.qs [.bool false, .bool false] (by kernel_rfl) ?_
              refine K.RW.skip rfl (by kernel_rfl) ?_
              refine K.RW.skip rfl (by kernel_rfl) ?_
              refine K.RW.skip rfl (by kernel_rfl) ?_
              refine K.RW.skip rfl (by kernel_rfl) ?_
              refine K.RW.skip rfl (by kernel_rfl) ?_
              refine K.RW.skip rfl (by kernel_rfl) ?_
              refine K.RW.skip rfl (by kernel_rfl) ?_
              refine K.RW.qs [.bool false, .bool false] (by kernel_rfl) ?_
              refine K.RW.nil ?_
              refine K.thn_normal ?_
              refine K.KW.ret ?_
              refine ⟨.inr rfl, rfl, (.bool false), K.res1 rfl rfl, [], ?_, hS.pick [1]⟩
              exact ⟨rfl, .inr ⟨fun hh => by first | (have h9 := hh.1; unfold CallM.nums at h9; omega) | (have h9 := hh.2; simp_all), rfl⟩⟩
            ·
              replace hS : K.Sat w0 [g_2, fr] w := hS
              refine K.RW.qs [.bool false, .bool false] (by kernel_rfl) ?_
              refine K.RW.nil ?_
              refine K.thn_normal ?_
              refine K.KW.seq ?_
              -- 3 :40
              refine K.KW.region ?_
              refine K.RW.qs [.bool false, .bool false] (by kernel_rfl) ?_
              refine K.RW.skip rfl (by kernel_rfl) ?_
              refine K.RW.qs [.bool false, .bool false] (by kernel_rfl) ?_
              refine K.RW.skip rfl (by kernel_rfl) ?_
              refine K.RW.skip rfl (by kernel_rfl) ?_
              refine K.RW.skip rfl (by kernel_rfl) ?_
              refine K.RW.qs [.bool false, .bool false] (by kernel_rfl) ?_
              refine K.RW.skip rfl (by kernel_rfl) ?_
              refine K.RW.skip rfl (by kernel_rfl) ?_
              refine K.RW.skip rfl (by kernel_rfl) ?_
              refine K.RW.qs [.bool false, .bool false] (by kernel_rfl) ?_
              refine K.RW.skip rfl (by kernel_rfl) ?_
              refine K.RW.skip rfl (by kernel_rfl) ?_
              refine K.RW.skip rfl (by kernel_rfl) ?_
              refine K.RW.skip rfl (by kernel_rfl) ?_
              refine K.RW.skip rfl (by kernel_rfl) ?_
              refine K.RW.skip rfl (by kernel_rfl) ?_
              refine K.RW.skip rfl (by kernel_rfl) ?_
              refine K.RW.qs [.bool false, .bool false] (by kernel_rfl) ?_
              refine K.RW.nil ?_
              refine K.thn_normal ?_
              refine K.KW.ret ?_
              refine ⟨.inr rfl, rfl, (.bool false), K.res1 rfl rfl, [], ?_, hS.pick [1]⟩
              exact ⟨rfl, .inr ⟨fun hh => by first | (have h9 := hh.1; unfold CallM.nums at h9; omega) | (have h9 := hh.2; simp_all), rfl⟩⟩
          ·
            replace hS : K.Sat w0 [g_2, fr] w := hS
            refine K.RW.qs [.bool false, .bool false] (by kernel_rfl) ?_
            refine K.RW.skip rfl (by kernel_rfl) ?_
            refine K.RW.skip rfl (by kernel_rfl) ?_
            refine K.RW.skip rfl (by kernel_rfl) ?_
            refine K.RW.qs [.bool false, .bool false] (by kernel_rfl) ?_
            refine K.RW.nil ?_
            refine K.thn_normal ?_
            refine K.KW.seq ?_
            -- 3 :40
            refine K.KW.region ?_
            refine K.RW.qs [.bool false, .bool false] (by kernel_rfl) ?_
            refine K.RW.skip rfl (by kernel_rfl) ?_
            refine K.RW.qs [.bool false, .bool false] (by kernel_rfl) ?_
            refine K.RW.skip rfl (by kernel_rfl) ?_
            refine K.RW.skip rfl (by kernel_rfl) ?_
            refine K.RW.skip rfl (by kernel_rfl) ?_
            refine K.RW.qs [.bool false, .bool false] (by kernel_rfl) ?_
            refine K.RW.skip rfl (by kernel_rfl) ?_
            refine K.RW.skip rfl (by kernel_rfl) ?_
            refine K.RW.skip rfl (by kernel_rfl) ?_
            refine K.RW.qs [.bool false, .bool false] (by kernel_rfl) ?_
            refine K.RW.skip rfl (by kernel_rfl) ?_
            refine K.RW.skip rfl (by kernel_rfl) ?_
            refine K.RW.skip rfl (by kernel_rfl) ?_
            refine K.RW.skip rfl (by kernel_rfl) ?_
            refine K.RW.skip rfl (by kernel_rfl) ?_
            refine K.RW.skip rfl (by kernel_rfl) ?_
            refine K.RW.skip rfl (by kernel_rfl) ?_
            refine K.RW.qs [.bool false, .bool false] (by kernel_rfl) ?_
            refine K.RW.nil ?_
            refine K.thn_normal ?_
            refine K.KW.ret ?_
            refine ⟨.inr rfl, rfl, (.bool false), K.res1 rfl rfl, [], ?_, hS.pick [1]⟩
            exact ⟨rfl, .inr ⟨fun hh => by first | (have h9 := hh.1; unfold CallM.nums at h9; omega) | (have h9 := hh.2; simp_all), rfl⟩⟩
        ·
          replace hS : K.Sat w0 [g_2, fr] w := hS
          refine K.RW.qs [.bool false] (by kernel_rfl) ?_
          refine K.RW.skip rfl (by kernel_rfl) ?_
          refine K.RW.skip rfl (by kernel_rfl) ?_
          refine K.RW.skip rfl (by kernel_rfl) ?_
          refine K.RW.qs [.bool false, .bool false] (by kernel_rfl) ?_
          refine K.RW.skip rfl (by kernel_rfl) ?_
          refine K.RW.skip rfl (by kernel_rfl) ?_
          refine K.RW.skip rfl (by kernel_rfl) ?_
          refine K.RW.qs [.bool false, .bool false] (by kernel_rfl) ?_
          refine K.RW.nil ?_
          refine K.thn_normal ?_
          refine K.KW.seq ?_
          -- 3 :40
          refine K.KW.region ?_
          refine K.RW.qs [.bool false, .bool false] (by kernel_rfl) ?_
          refine K.RW.skip rfl (by kernel_rfl) ?_
          refine K.RW.qs [.bool false, .bool false] (by kernel_rfl) ?_
          refine K.RW.skip rfl (by kernel_rfl) ?_
          refine K.RW.skip rfl (by kernel_rfl) ?_
          refine K.RW.skip rfl (by kernel_rfl) ?_
          refine K.RW.qs [.bool false, .bool false] (by kernel_rfl) ?_
          refine K.RW.skip rfl (by kernel_rfl) ?_
          refine K.RW.skip rfl (by kernel_rfl) ?_
          refine K.RW.skip rfl (by kernel_rfl) ?_
          refine K.RW.qs [.bool false, .bool false] (by kernel_rfl) ?_
          refine K.RW.skip rfl (by kernel_rfl) ?_
          refine K.RW.skip rfl (by kernel_rfl) ?_
          refine K.RW.skip rfl (by kernel_rfl) ?_
          refine K.RW.skip rfl (by kernel_rfl) ?_
          refine K.RW.skip rfl (by kernel_rfl) ?_
          refine K.RW.skip rfl (by kernel_rfl) ?_
          refine K.RW.skip rfl (by kernel_rfl) ?_
          refine K.RW.qs [.bool false, .bool false] (by kernel_rfl) ?_
          refine K.RW.nil ?_
          refine K.thn_normal ?_
          refine K.KW.ret ?_
          refine ⟨.inr rfl, rfl, (.bool false), K.res1 rfl rfl, [], ?_, hS.pick [1]⟩
          exact ⟨rfl, .inr ⟨fun hh => by first | (have h9 := hh.1; unfold CallM.nums at h9; omega) | (have h9 := hh.2; simp_all), rfl⟩⟩
    ·  -- no
      refine K.RW.q rfl (by kernel_rfl) (K.QR.nice (v := .bool (decide ((c.rk : Int) ≥ (0 : Int)))) (by kernel_rfl) (congrArg Value.bool (decide_eq_false h_6))) ?_
      refine K.RW.qs [.bool false, .bool false] (by kernel_rfl) ?_
      refine K.RW.skip rfl (by kernel_rfl) ?_
      refine K.RW.skip rfl (by kernel_rfl) ?_
      refine K.RW.skip rfl (by kernel_rfl) ?_
      refine K.RW.skip rfl (by kernel_rfl) ?_
      refine K.RW.qs [.bool false, .bool false] (by kernel_rfl) ?_
      refine K.RW.nil ?_
      refine K.thn_normal ?_
      refine K.KW.seq ?_
      -- 2 :39
      refine K.KW.region ?_
      refine K.RW.qs [.pointer (some ⟨r_1, 6, none⟩)] (by kernel_rfl) ?_
      refine K.RW.q rfl rfl (K.QR.ld1 (v := .int .i64 c.beg) rfl rfl (by kernel_rfl) ((hS.blk 0 rfl hg_3).cell rfl)) ?_
      refine K.RW.l rfl (K.OW.gcall hS [] [0, 1] [.int .i64 c.beg] (rtime_ok _ c.beg) ?_)
      clear hS; rintro _ _ w ⟨rfl, (⟨h_24, rfl⟩ | ⟨h_25, rfl⟩)⟩ hS
      ·
        replace hS : K.Sat w0 [g_2, fr] w := hS
        refine K.RW.qs [.bool true, .pointer (some ⟨r_1, 8, none⟩)] (by kernel_rfl) ?_
        refine K.RW.q rfl (by kernel_rfl) (K.QR.ld1 (v := .int .i64 c.wh) rfl rfl (by kernel_rfl) ((hS.blk 0 rfl hg_3).cell rfl)) ?_
        refine K.RW.l (by kernel_rfl) (K.OW.gcall hS [] [0, 1] [.int .i64 c.wh] (rtime_ok _ c.wh) ?_)
        clear hS; rintro _ _ w ⟨rfl, (⟨h_26, rfl⟩ | ⟨h_27, rfl⟩)⟩ hS
        ·
          replace hS : K.Sat w0 [g_2, fr] w := hS
          refine K.RW.qs [.bool true, .bool true, .pointer (some ⟨r_1, 7, none⟩)] (by kernel_rfl) ?_
          refine K.RW.q rfl (by kernel_rfl) (K.QR.ld1 (v := .int .i64 c.en) rfl rfl (by kernel_rfl) ((hS.blk 0 rfl hg_3).cell rfl)) ?_
          refine K.RW.l (by kernel_rfl) (K.OW.gcall hS [] [0, 1] [.int .i64 c.en] (rtime_ok _ c.en) ?_)
          clear hS; rintro _ _ w ⟨rfl, (⟨h_28, rfl⟩ | ⟨h_29, rfl⟩)⟩ hS
          ·
            replace hS : K.Sat w0 [g_2, fr] w := hS
            refine K.RW.qs [.bool true, .bool true] (by kernel_rfl) ?_
            refine K.RW.nil ?_
            refine K.thn_normal ?_
            refine K.KW.seq ?_
            -- 3 :40
            refine K.KW.region ?_
            refine K.RW.qs [.bool false, .bool false] (by kernel_rfl) ?_
            refine K.RW.skip rfl (by kernel_rfl) ?_
            refine K.RW.qs [.bool false, .bool false] (by kernel_rfl) ?_
            refine K.RW.skip rfl (by kernel_rfl) ?_
            refine K.RW.skip rfl (by kernel_rfl) ?_
            refine K.RW.skip rfl (by kernel_rfl) ?_
            refine K.RW.qs [.bool false, .bool false] (by kernel_rfl) ?_
            refine K.RW.skip rfl (by kernel_rfl) ?_
            refine K.RW.skip rfl (by kernel_rfl) ?_
            refine K.RW.skip rfl (by kernel_rfl) ?_
            refine K.RW.qs [.bool false, .bool false] (by kernel_rfl) ?_
            refine K.RW.skip rfl (by kernel_rfl) ?_
            refine K.RW.skip rfl (by kernel_rfl) ?_
            refine K.RW.skip rfl (by kernel_rfl) ?_
            refine K.RW.skip rfl (by kernel_rfl) ?_
            refine K.RW.skip rfl (by kernel_rfl) ?_
            refine K.RW.skip rfl (by kernel_rfl) ?_
            refine K.RW.skip rfl (by kernel_rfl) ?_
            refine K.RW.qs [.bool false, .bool false] (by kernel_rfl) ?_
            refine K.RW.nil ?_
            refine K.thn_normal ?_
            refine K.KW.ret ?_
            refine ⟨.inr rfl, rfl, (.bool false), K.res1 rfl rfl, [], ?_, hS.pick [1]⟩
            exact ⟨rfl, .inr ⟨fun hh => by first | (have h9 := hh.1; unfold CallM.nums at h9; omega) | (have h9 := hh.2; simp_all), rfl⟩⟩
          ·
            replace hS : K.Sat w0 [g_2, fr] w := hS
            refine K.RW.qs [.bool false, .bool false] (by kernel_rfl) ?_
            refine K.RW.nil ?_
            refine K.thn_normal ?_
            refine K.KW.seq ?_
            -- 3 :40
            refine K.KW.region ?_
            refine K.RW.qs [.bool false, .bool false] (by kernel_rfl) ?_
            refine K.RW.skip rfl (by kernel_rfl) ?_
            refine K.RW.qs [.bool false, .bool false] (by kernel_rfl) ?_
            refine K.RW.skip rfl (by kernel_rfl) ?_
            refine K.RW.skip rfl (by kernel_rfl) ?_
            refine K.RW.skip rfl (by kernel_rfl) ?_
            refine K.RW.qs [.bool false, .bool false] (by kernel_rfl) ?_
            refine K.RW.skip rfl (by kernel_rfl) ?_
            refine K.RW.skip rfl (by kernel_rfl) ?_
            refine K.RW.skip rfl (by kernel_rfl) ?_
            refine K.RW.qs [.bool false, .bool false] (by kernel_rfl) ?_
            refine K.RW.skip rfl (by kernel_rfl) ?_
            refine K.RW.skip rfl (by kernel_rfl) ?_
            refine K.RW.skip rfl (by kernel_rfl) ?_
            refine K.RW.skip rfl (by kernel_rfl) ?_
            refine K.RW.skip rfl (by kernel_rfl) ?_
            refine K.RW.skip rfl (by kernel_rfl) ?_
            refine K.RW.skip rfl (by kernel_rfl) ?_
            refine K.RW.qs [.bool false, .bool false] (by kernel_rfl) ?_
            refine K.RW.nil ?_
            refine K.thn_normal ?_
            refine K.KW.ret ?_
            refine ⟨.inr rfl, rfl, (.bool false), K.res1 rfl rfl, [], ?_, hS.pick [1]⟩
            exact ⟨rfl, .inr ⟨fun hh => by first | (have h9 := hh.1; unfold CallM.nums at h9; omega) | (have h9 := hh.2; simp_all), rfl⟩⟩
        ·
          replace hS : K.Sat w0 [g_2, fr] w := hS
          refine K.RW.qs [.bool false, .bool false] (by kernel_rfl) ?_
          refine K.RW.skip rfl (by kernel_rfl) ?_
          refine K.RW.skip rfl (by kernel_rfl) ?_
          refine K.RW.skip rfl (by kernel_rfl) ?_
          refine K.RW.qs [.bool false, .bool false] (by kernel_rfl) ?_
          refine K.RW.nil ?_
          refine K.thn_normal ?_
          refine K.KW.seq ?_
          -- 3 :40
          refine K.KW.region ?_
          refine K.RW.qs [.bool false, .bool false] (by kernel_rfl) ?_
          refine K.RW.skip rfl (by kernel_rfl) ?_
          refine K.RW.qs [.bool false, .bool false] (by kernel_rfl) ?_
          refine K.RW.skip rfl (by kernel_rfl) ?_
          refine K.RW.skip rfl (by kernel_rfl) ?_
          refine K.RW.skip rfl (by kernel_rfl) ?_
          refine K.RW.qs [.bool false, .bool false] (by kernel_rfl) ?_
          refine K.RW.skip rfl (by kernel_rfl) ?_
          refine K.RW.skip rfl (by kernel_rfl) ?_
          refine K.RW.skip rfl (by kernel_rfl) ?_
          refine K.RW.qs [.bool false, .bool false] (by kernel_rfl) ?_
          refine K.RW.skip rfl (by kernel_rfl) ?_
          refine K.RW.skip rfl (by kernel_rfl) ?_
          refine K.RW.skip rfl (by kernel_rfl) ?_
          refine K.RW.skip rfl (by kernel_rfl) ?_
          refine K.RW.skip rfl (by kernel_rfl) ?_
          refine K.RW.skip rfl (by kernel_rfl) ?_
          refine K.RW.skip rfl (by kernel_rfl) ?_
          refine K.RW.qs [.bool false, .bool false] (by kernel_rfl) ?_
          refine K.RW.nil ?_
          refine K.thn_normal ?_
          refine K.KW.ret ?_
          refine ⟨.inr rfl, rfl, (.bool false), K.res1 rfl rfl, [], ?_, hS.pick [1]⟩
          exact ⟨rfl, .inr ⟨fun hh => by first | (have h9 := hh.1; unfold CallM.nums at h9; omega) | (have h9 := hh.2; simp_all), rfl⟩⟩
      ·
        replace hS : K.Sat w0 [g_2, fr] w := hS
        refine K.RW.qs [.bool false] (by kernel_rfl) ?_
        refine K.RW.skip rfl (by kernel_rfl) ?_
        refine K.RW.skip rfl (by kernel_rfl) ?_
        refine K.RW.skip rfl (by kernel_rfl) ?_
        refine K.RW.qs [.bool false, .bool false] (by kernel_rfl) ?_
        refine K.RW.skip rfl (by kernel_rfl) ?_
        refine K.RW.skip rfl (by kernel_rfl) ?_
        refine K.RW.skip rfl (by kernel_rfl) ?_
        refine K.RW.qs [.bool false, .bool false] (by kernel_rfl) ?_
        refine K.RW.nil ?_
        refine K.thn_normal ?_
        refine K.KW.seq ?_
        -- 3 :40
        refine K.KW.region ?_
        refine K.RW.qs [.bool false, .bool false] (by kernel_rfl) ?_
        refine K.RW.skip rfl (by kernel_rfl) ?_
        refine K.RW.qs [.bool false, .bool false] (by kernel_rfl) ?_
        refine K.RW.skip rfl (by kernel_rfl) ?_
        refine K.RW.skip rfl (by kernel_rfl) ?_
        refine K.RW.skip rfl (by kernel_rfl) ?_
        refine K.RW.qs [.bool false, .bool false] (by kernel_rfl) ?_
        refine K.RW.skip rfl (by kernel_rfl) ?_
        refine K.RW.skip rfl (by kernel_rfl) ?_
        refine K.RW.skip rfl (by kernel_rfl) ?_
        refine K.RW.qs [.bool false, .bool false] (by kernel_rfl) ?_
        refine K.RW.skip rfl (by kernel_rfl) ?_
        refine K.RW.skip rfl (by kernel_rfl) ?_
        refine K.RW.skip rfl (by kernel_rfl) ?_
        refine K.RW.skip rfl (by kernel_rfl) ?_
        refine K.RW.skip rfl (by kernel_rfl) ?_
        refine K.RW.skip rfl (by kernel_rfl) ?_
        refine K.RW.skip rfl (by kernel_rfl) ?_
        refine K.RW.qs [.bool false, .bool false] (by kernel_rfl) ?_
        refine K.RW.nil ?_
        refine K.thn_normal ?_
        refine K.KW.ret ?_
        refine ⟨.inr rfl, rfl, (.bool false), K.res1 rfl rfl, [], ?_, hS.pick [1]⟩
        exact ⟨rfl, .inr ⟨fun hh => by first | (have h9 := hh.1; unfold CallM.nums at h9; omega) | (have h9 := hh.2; simp_all), rfl⟩⟩
  ·
    replace hS : K.Sat w0 [g_2, fr] w := hS
    refine K.RW.qs [.bool false] (by kernel_rfl) ?_
    refine K.RW.skip rfl (by kernel_rfl) ?_
    refine K.RW.skip rfl (by kernel_rfl) ?_
    refine K.RW.skip rfl (by kernel_rfl) ?_
    refine K.RW.skip rfl (by kernel_rfl) ?_
    refine K.RW.qs [.bool false, .bool false] (by kernel_rfl) ?_
    refine K.RW.skip rfl (by kernel_rfl) ?_
    refine K.RW.skip rfl (by kernel_rfl) ?_
    refine K.RW.skip rfl (by kernel_rfl) ?_
    refine K.RW.skip rfl (by kernel_rfl) ?_
    refine K.RW.qs [.bool false, .bool false] (by kernel_rfl) ?_
    refine K.RW.nil ?_
    refine K.thn_normal ?_
    refine K.KW.seq ?_
    -- 2 :39
    refine K.KW.region ?_
    refine K.RW.qs [.pointer (some ⟨r_1, 6, none⟩)] (by kernel_rfl) ?_
    refine K.RW.q rfl rfl (K.QR.ld1 (v := .int .i64 c.beg) rfl rfl (by kernel_rfl) ((hS.blk 0 rfl hg_3).cell rfl)) ?_
    refine K.RW.l rfl (K.OW.gcall hS [] [0, 1] [.int .i64 c.beg] (rtime_ok _ c.beg) ?_)
    clear hS; rintro _ _ w ⟨rfl, (⟨h_30, rfl⟩ | ⟨h_31, rfl⟩)⟩ hS
    ·
      replace hS : K.Sat w0 [g_2, fr] w := hS
      refine K.RW.qs [.bool true, .pointer (some ⟨r_1, 8, none⟩)] (by kernel_rfl) ?_
      refine K.RW.q rfl (by kernel_rfl) (K.QR.ld1 (v := .int .i64 c.wh) rfl rfl (by kernel_rfl) ((hS.blk 0 rfl hg_3).cell rfl)) ?_
      refine K.RW.l (by kernel_rfl) (K.OW.gcall hS [] [0, 1] [.int .i64 c.wh] (rtime_ok _ c.wh) ?_)
      clear hS; rintro _ _ w ⟨rfl, (⟨h_32, rfl⟩ | ⟨h_33, rfl⟩)⟩ hS
      ·
        replace hS : K.Sat w0 [g_2, fr] w := hS
        refine K.RW.qs [.bool true, .bool true, .pointer (some ⟨r_1, 7, none⟩)] (by kernel_rfl) ?_
        refine K.RW.q rfl (by kernel_rfl) (K.QR.ld1 (v := .int .i64 c.en) rfl rfl (by kernel_rfl) ((hS.blk 0 rfl hg_3).cell rfl)) ?_
        refine K.RW.l (by kernel_rfl) (K.OW.gcall hS [] [0, 1] [.int .i64 c.en] (rtime_ok _ c.en) ?_)
        clear hS; rintro _ _ w ⟨rfl, (⟨h_34, rfl⟩ | ⟨h_35, rfl⟩)⟩ hS
        ·
          replace hS : K.Sat w0 [g_2, fr] w := hS
          refine K.RW.qs [.bool true, .bool true] (by kernel_rfl) ?_
          refine K.RW.nil ?_
          refine K.thn_normal ?_
          refine K.KW.seq ?_
          -- 3 :40
          refine K.KW.region ?_
          refine K.RW.qs [.bool false, .bool false] (by kernel_rfl) ?_
          refine K.RW.skip rfl (by kernel_rfl) ?_
          refine K.RW.qs [.bool false, .bool false] (by kernel_rfl) ?_
          refine K.RW.skip rfl (by kernel_rfl) ?_
          refine K.RW.skip rfl (by kernel_rfl) ?_
          refine K.RW.skip rfl (by kernel_rfl) ?_
          refine K.RW.qs [.bool false, .bool false] (by kernel_rfl) ?_
          refine K.RW.skip rfl (by kernel_rfl) ?_
          refine K.RW.skip rfl (by kernel_rfl) ?_
          refine K.RW.skip rfl (by kernel_rfl) ?_
          refine K.RW.qs [.bool false, .bool false] (by kernel_rfl) ?_
          refine K.RW.skip rfl (by kernel_rfl) ?_
          refine K.RW.skip rfl (by kernel_rfl) ?_
          refine K.RW.skip rfl (by kernel_rfl) ?_
          refine K.RW.skip rfl (by kernel_rfl) ?_
          refine K.RW.skip rfl (by kernel_rfl) ?_
          refine K.RW.skip rfl (by kernel_rfl) ?_
          refine K.RW.skip rfl (by kernel_rfl) ?_
          refine K.RW.qs [.bool false, .bool false] (by kernel_rfl) ?_
          refine K.RW.nil ?_
          refine K.thn_normal ?_
          refine K.KW.ret ?_
          refine ⟨.inr rfl, rfl, (.bool false), K.res1 rfl rfl, [], ?_, hS.pick [1]⟩
          exact ⟨rfl, .inr ⟨fun hh => by first | (have h9 := hh.1; unfold CallM.nums at h9; omega) | (have h9 := hh.2; simp_all), rfl⟩⟩
        ·
          replace hS : K.Sat w0 [g_2, fr] w := hS
          refine K.RW.qs [.bool false, .bool false] (by kernel_rfl) ?_
          refine K.RW.nil ?_
          refine K.thn_normal ?_
          refine K.KW.seq ?_
          -- 3 :40
          refine K.KW.region ?_
          refine K.RW.qs [.bool false, .bool false] (by kernel_rfl) ?_
          refine K.RW.skip rfl (by kernel_rfl) ?_
          refine K.RW.qs [.bool false, .bool false] (by kernel_rfl) ?_
          refine K.RW.skip rfl (by kernel_rfl) ?_
          refine K.RW.skip rfl (by kernel_rfl) ?_
          refine K.RW.skip rfl (by kernel_rfl) ?_
          refine K.RW.qs [.bool false, .bool false] (by kernel_rfl) ?_
          refine K.RW.skip rfl (by kernel_rfl) ?_
          refine K.RW.skip rfl (by kernel_rfl) ?_
          refine K.RW.skip rfl (by kernel_rfl) ?_
          refine K.RW.qs [.bool false, .bool false] (by kernel_rfl) ?_
          refine K.RW.skip rfl (by kernel_rfl) ?_
          refine K.RW.skip rfl (by kernel_rfl) ?_
          refine K.RW.skip rfl (by kernel_rfl) ?_
          refine K.RW.skip rfl (by kernel_rfl) ?_
          refine K.RW.skip rfl (by kernel_rfl) ?_
          refine K.RW.skip rfl (by kernel_rfl) ?_
          refine K.RW.skip rfl (by kernel_rfl) ?_
          refine K.RW.qs [.bool false, .bool false] (by kernel_rfl) ?_
          refine K.RW.nil ?_
          refine K.thn_normal ?_
          refine K.KW.ret ?_
          refine ⟨.inr rfl, rfl, (.bool false), K.res1 rfl rfl, [], ?_, hS.pick [1]⟩
          exact ⟨rfl, .inr ⟨fun hh => by first | (have h9 := hh.1; unfold CallM.nums at h9; omega) | (have h9 := hh.2; simp_all), rfl⟩⟩
      ·
        replace hS : K.Sat w0 [g_2, fr] w := hS
        refine K.RW.qs [.bool false, .bool false] (by kernel_rfl) ?_
        refine K.RW.skip rfl (by kernel_rfl) ?_
        refine K.RW.skip rfl (by kernel_rfl) ?_
        refine K.RW.skip rfl (by kernel_rfl) ?_
        refine K.RW.qs [.bool false, .bool false] (by kernel_rfl) ?_
        refine K.RW.nil ?_
        refine K.thn_normal ?_
        refine K.KW.seq ?_
        -- 3 :40
        refine K.KW.region ?_
        refine K.RW.qs [.bool false, .bool false] (by kernel_rfl) ?_
        refine K.RW.skip rfl (by kernel_rfl) ?_
        refine K.RW.qs [.bool false, .bool false] (by kernel_rfl) ?_
        refine K.RW.skip rfl (by kernel_rfl) ?_
        refine K.RW.skip rfl (by kernel_rfl) ?_
        refine K.RW.skip rfl (by kernel_rfl) ?_
        refine K.RW.qs [.bool false, .bool false] (by kernel_rfl) ?_
        refine K.RW.skip rfl (by kernel_rfl) ?_
        refine K.RW.skip rfl (by kernel_rfl) ?_
        refine K.RW.skip rfl (by kernel_rfl) ?_
        refine K.RW.qs [.bool false, .bool false] (by kernel_rfl) ?_
        refine K.RW.skip rfl (by kernel_rfl) ?_
        refine K.RW.skip rfl (by kernel_rfl) ?_
        refine K.RW.skip rfl (by kernel_rfl) ?_
        refine K.RW.skip rfl (by kernel_rfl) ?_
        refine K.RW.skip rfl (by kernel_rfl) ?_
        refine K.RW.skip rfl (by kernel_rfl) ?_
        refine K.RW.skip rfl (by kernel_rfl) ?_
        refine K.RW.qs [.bool false, .bool false] (by kernel_rfl) ?_
        refine K.RW.nil ?_
        refine K.thn_normal ?_
        refine K.KW.ret ?_
        refine ⟨.inr rfl, rfl, (.bool false), K.res1 rfl rfl, [], ?_, hS.pick [1]⟩
        exact ⟨rfl, .inr ⟨fun hh => by first | (have h9 := hh.1; unfold CallM.nums at h9; omega) | (have h9 := hh.2; simp_all), rfl⟩⟩
    ·
      replace hS : K.Sat w0 [g_2, fr] w := hS
      refine K.RW.qs [.bool false] (by kernel_rfl) ?_
      refine K.RW.skip rfl (by kernel_rfl) ?_
      refine K.RW.skip rfl (by kernel_rfl) ?_
      refine K.RW.skip rfl (by kernel_rfl) ?_
      refine K.RW.qs [.bool false, .bool false] (by kernel_rfl) ?_
      refine K.RW.skip rfl (by kernel_rfl) ?_
      refine K.RW.skip rfl (by kernel_rfl) ?_
      refine K.RW.skip rfl (by kernel_rfl) ?_
      refine K.RW.qs [.bool false, .bool false] (by kernel_rfl) ?_
      refine K.RW.nil ?_
      refine K.thn_normal ?_
      refine K.KW.seq ?_
      -- 3 :40
      refine K.KW.region ?_
      refine K.RW.qs [.bool false, .bool false] (by kernel_rfl) ?_
      refine K.RW.skip rfl (by kernel_rfl) ?_
      refine K.RW.qs [.bool false, .bool false] (by kernel_rfl) ?_
      refine K.RW.skip rfl (by kernel_rfl) ?_
      refine K.RW.skip rfl (by kernel_rfl) ?_
      refine K.RW.skip rfl (by kernel_rfl) ?_
      refine K.RW.qs [.bool false, .bool false] (by kernel_rfl) ?_
      refine K.RW.skip rfl (by kernel_rfl) ?_
      refine K.RW.skip rfl (by kernel_rfl) ?_
      refine K.RW.skip rfl (by kernel_rfl) ?_
      refine K.RW.qs [.bool false, .bool false] (by kernel_rfl) ?_
      refine K.RW.skip rfl (by kernel_rfl) ?_
      refine K.RW.skip rfl (by kernel_rfl) ?_
      refine K.RW.skip rfl (by kernel_rfl) ?_
      refine K.RW.skip rfl (by kernel_rfl) ?_
      refine K.RW.skip rfl (by kernel_rfl) ?_
      refine K.RW.skip rfl (by kernel_rfl) ?_
      refine K.RW.skip rfl (by kernel_rfl) ?_
      refine K.RW.qs [.bool false, .bool false] (by kernel_rfl) ?_
      refine K.RW.nil ?_
      refine K.thn_normal ?_
      refine K.KW.ret ?_
      refine ⟨.inr rfl, rfl, (.bool false), K.res1 rfl rfl, [], ?_, hS.pick [1]⟩
      exact ⟨rfl, .inr ⟨fun hh => by first | (have h9 := hh.1; unfold CallM.nums at h9; omega) | (have h9 := hh.2; simp_all), rfl⟩⟩
set_option maxHeartbeats 1000000 in
set_option maxRecDepth 100000 in
theorem ending_ok (w0 : World) (c : CallM) :
    K.GC Tryd.prog w0 40 #[.agg #[.int .i64 c.th, .int .i64 c.ok, .int .u32 c.key, .int .u32 c.val, .int .i64 c.rk, .int .u32 c.rv, .int .i64 c.beg, .int .i64 c.en, .int .i64 c.wh, .bool c.cr, .bool c.kp]] [] (fun v post => post = [] ∧ v = .string (K.sb (endR c))) := by
  refine K.GC.mk (n := 9) Tryd.func40 rfl rfl [.agg #[.int .i64 c.th, .int .i64 c.ok, .int .u32 c.key, .int .u32 c.val, .int .i64 c.rk, .int .u32 c.rv, .int .i64 c.beg, .int .i64 c.en, .int .i64 c.wh, .bool c.cr, .bool c.kp]] rfl rfl ?_
  intro fr w hS
  replace hS : K.Sat w0 [fr] w := hS
  refine K.KW.seq ?_
  -- 0 :55
  refine K.KW.region ?_
  refine K.RW.l rfl (K.OW.gnew 29 [.int .i64 c.th, .int .i64 c.ok, .int .u32 c.key, .int .u32 c.val, .int .i64 c.rk, .int .u32 c.rv, .int .i64 c.beg, .int .i64 c.en, .int .i64 c.wh, .bool c.cr, .bool c.kp] hS ?_)
  clear hS; intro w r_1 g_2 hg_3 hS
  refine K.RW.qs [.string (K.sb [])] (by kernel_rfl) ?_
  refine K.RW.nil ?_
  refine K.thn_normal ?_
  refine K.KW.seq ?_
  refine K.KW.block ?_
  refine K.KW.seq ?_
  -- 1 :57
  refine K.KW.region ?_
  refine K.RW.qs [.pointer (some ⟨r_1, 10, none⟩)] (by kernel_rfl) ?_
  refine K.RW.q rfl rfl (K.QR.ld1 (v := .bool c.kp) rfl rfl (by kernel_rfl) ((hS.blk 0 rfl hg_3).cell rfl)) ?_
  cases hb_4 : c.kp
  ·
    refine K.RW.qs [.bool false] (by kernel_rfl) ?_
    refine K.RW.nil ?_
    refine K.thn_normal ?_
    refine K.KW.ifF rfl ?_
    refine K.KW.seq ?_
    -- 3 :59
    refine K.KW.region ?_
    refine K.RW.qs [.pointer (some ⟨r_1, 9, none⟩)] (by kernel_rfl) ?_
    refine K.RW.q rfl rfl (K.QR.ld1 (v := .bool c.cr) rfl rfl (by kernel_rfl) ((hS.blk 0 rfl hg_3).cell rfl)) ?_
    cases hb_5 : c.cr
    ·
      refine K.RW.qs [.bool false] (by kernel_rfl) ?_
      refine K.RW.nil ?_
      refine K.thn_normal ?_
      refine K.KW.ifF rfl ?_
      refine K.KW.skip ?_
      refine K.blk_normal ?_
      refine K.thn_normal ?_
      refine K.KW.seq ?_
      -- 5 :62
      refine K.KW.region ?_
      refine K.RW.qs [.string (K.sb [45])] (by kernel_rfl) ?_
      refine K.RW.nil ?_
      refine K.thn_normal ?_
      refine K.KW.ret ?_
      refine ⟨.inr rfl, rfl, (.string (K.sb [45])), K.res1 rfl rfl, [], ?_, hS.pick [1]⟩
      exact ⟨rfl, by unfold endR; simp [*]⟩
    ·
      refine K.RW.qs [.bool true] (by kernel_rfl) ?_
      refine K.RW.nil ?_
      refine K.thn_normal ?_
      refine K.KW.ifT rfl ?_
      refine K.KW.seq ?_
      -- 4 :60
      refine K.KW.region ?_
      refine K.RW.qs [.string (K.sb [99, 114, 97, 115, 104, 101, 100])] (by kernel_rfl) ?_
      refine K.RW.nil ?_
      refine K.thn_normal ?_
      refine K.KW.ret ?_
      refine K.blk_ret ?_
      refine K.thn_ret ?_
      refine ⟨.inr rfl, rfl, (.string (K.sb [99, 114, 97, 115, 104, 101, 100])), K.res1 rfl rfl, [], ?_, hS.pick [1]⟩
      exact ⟨rfl, by unfold endR; simp [*]⟩
  ·
    refine K.RW.qs [.bool true] (by kernel_rfl) ?_
    refine K.RW.nil ?_
    refine K.thn_normal ?_
    refine K.KW.ifT rfl ?_
    refine K.KW.seq ?_
    -- 2 :58
    refine K.KW.region ?_
    refine K.RW.qs [.string (K.sb [107, 101, 112, 116])] (by kernel_rfl) ?_
    refine K.RW.nil ?_
    refine K.thn_normal ?_
    refine K.KW.ret ?_
    refine K.blk_ret ?_
    refine K.thn_ret ?_
    refine ⟨.inr rfl, rfl, (.string (K.sb [107, 101, 112, 116])), K.res1 rfl rfl, [], ?_, hS.pick [1]⟩
    exact ⟨rfl, by unfold endR; simp [*]⟩
set_option maxHeartbeats 1000000 in
set_option maxRecDepth 100000 in
theorem opn_ok (w0 : World)  :
    K.GC Tryd.prog w0 38 #[] [] (fun v post => ∃ r g, post = [g] ∧ v = .slice (some ⟨r, 0, none⟩) 9 9 ∧ g = [K.pt r 9 (opNm.flatMap K.cStr)]) := by
  refine K.GC.mk (n := 2) Tryd.func38 rfl rfl [] rfl rfl ?_
  intro fr w hS
  replace hS : K.Sat w0 [fr] w := hS
  refine K.KW.seq ?_
  -- 0 :27
  refine K.KW.region ?_
  refine K.RW.qs [.slice none 0 0] (by kernel_rfl) ?_
  refine K.RW.nil ?_
  refine K.thn_normal ?_
  refine K.KW.seq ?_
  -- 1 :28
  refine K.KW.region ?_
  refine K.RW.l rfl (K.OW.gbs [(0, .string (K.sb [])), (1, .string (K.sb [101, 110, 113])), (2, .string (K.sb [100, 101, 113])), (3, .string (K.sb [97, 100, 100])), (4, .string (K.sb [100, 101, 108])), (5, .string (K.sb [104, 97, 115])), (6, .string (K.sb [112, 117, 116])), (7, .string (K.sb [103, 101, 116])), (8, .string (K.sb [99, 117, 116]))] [.string (K.sb []), .string (K.sb [101, 110, 113]), .string (K.sb [100, 101, 113]), .string (K.sb [97, 100, 100]), .string (K.sb [100, 101, 108]), .string (K.sb [104, 97, 115]), .string (K.sb [112, 117, 116]), .string (K.sb [103, 101, 116]), .string (K.sb [99, 117, 116])] hS (fun w => K.bs_run (P := Tryd.prog) w 68 9 9 _ _ Tryd.underlying68 (by kernel_rfl)) ?_)
  clear hS; intro w r_1 g_2 hg_3 hS
  refine K.RW.qs [.slice (some ⟨r_1, 0, none⟩) 9 9] (by kernel_rfl) ?_
  refine K.RW.nil ?_
  refine K.thn_normal ?_
  refine K.KW.ret ?_
  refine ⟨.inr rfl, rfl, (.slice (some ⟨r_1, 0, none⟩) 9 9), K.res1 rfl rfl, [g_2], ?_, hS.pick [0, 1]⟩
  exact ⟨_, _, rfl, rfl, hg_3⟩
set_option maxHeartbeats 1000000 in
set_option maxRecDepth 100000 in
theorem resn_ok (w0 : World)  :
    K.GC Tryd.prog w0 39 #[] [] (fun v post => ∃ r g, post = [g] ∧ v = .slice (some ⟨r, 0, none⟩) 6 6 ∧ g = [K.pt r 9 (resNm.flatMap K.cStr)]) := by
  refine K.GC.mk (n := 2) Tryd.func39 rfl rfl [] rfl rfl ?_
  intro fr w hS
  replace hS : K.Sat w0 [fr] w := hS
  refine K.KW.seq ?_
  -- 0 :31
  refine K.KW.region ?_
  refine K.RW.qs [.slice none 0 0] (by kernel_rfl) ?_
  refine K.RW.nil ?_
  refine K.thn_normal ?_
  refine K.KW.seq ?_
  -- 1 :31
  refine K.KW.region ?_
  refine K.RW.l rfl (K.OW.gbs [(0, .string (K.sb [110, 111, 110, 101])), (1, .string (K.sb [111, 107])), (2, .string (K.sb [101, 109, 112, 116, 121])), (3, .string (K.sb [116, 104, 101, 114, 101])), (4, .string (K.sb [103, 111, 110, 101])), (5, .string (K.sb [102, 117, 108, 108]))] [.string (K.sb [110, 111, 110, 101]), .string (K.sb [111, 107]), .string (K.sb [101, 109, 112, 116, 121]), .string (K.sb [116, 104, 101, 114, 101]), .string (K.sb [103, 111, 110, 101]), .string (K.sb [102, 117, 108, 108])] hS (fun w => K.bs_run (P := Tryd.prog) w 68 9 6 _ _ Tryd.underlying68 (by kernel_rfl)) ?_)
  clear hS; intro w r_1 g_2 hg_3 hS
  refine K.RW.qs [.slice (some ⟨r_1, 0, none⟩) 6 6] (by kernel_rfl) ?_
  refine K.RW.nil ?_
  refine K.thn_normal ?_
  refine K.KW.ret ?_
  refine ⟨.inr rfl, rfl, (.slice (some ⟨r_1, 0, none⟩) 6 6), K.res1 rfl rfl, [g_2], ?_, hS.pick [0, 1]⟩
  exact ⟨_, _, rfl, rfl, hg_3⟩
theorem opNm_len (k : Nat) : (opNm.getD k []).length ≤ 3 := by
  rcases Nat.lt_or_ge k 9 with h | h
  · revert k; decide
  · rw [List.getD_eq_getElem?_getD, List.getElem?_eq_none (by simpa [opNm] using h)]; simp
theorem resNm_len (k : Nat) : (resNm.getD k []).length ≤ 5 := by
  rcases Nat.lt_or_ge k 6 with h | h
  · revert k; decide
  · rw [List.getD_eq_getElem?_getD, List.getElem?_eq_none (by simpa [resNm] using h)]; simp
theorem dgR_len {n : Int} (h : -1 ≤ n) (h2 : n ≤ 9223372036854775807) : (dgR n).length ≤ 20 := by
  unfold dgR
  split
  · simp
  · exact dg_len20 (by omega)
theorem endR_len (c : CallM) : (endR c).length ≤ 7 := by
  unfold endR
  (repeat' split) <;> simp
theorem lineR_len {c : CallM} (hm : c.may) (hf : c.fits) : (lineR c).length ≤ 300 := by
  have hn := hm.1
  unfold CallM.nums at hn
  unfold CallM.fits isI64 at hf
  have h := K.jn_len 32 (wordsR c)
  have h1 := dgR_len (n := c.th) (by omega) (by omega)
  have h2 := opNm_len c.ok.toNat
  have h3 := dgR_len (n := c.key) (by omega) (by omega)
  have h4 := dgR_len (n := c.val) (by omega) (by omega)
  have h5 := resNm_len c.rk.toNat
  have h6 := dgR_len (n := c.rv) (by omega) (by omega)
  have h7 := dgR_len (n := c.beg) (by omega) (by omega)
  have h8 := dgR_len (n := c.wh) (by omega) (by omega)
  have h9 := dgR_len (n := c.en) (by omega) (by omega)
  have h10 := endR_len c
  unfold lineR
  have e : ((wordsR c).map List.length).sum + (wordsR c).length = (dgR c.th).length + ((opNm.getD c.ok.toNat []).length + ((dgR c.key).length + ((dgR c.val).length + ((resNm.getD c.rk.toNat []).length + ((dgR c.rv).length + ((dgR c.beg).length + ((dgR c.wh).length + ((dgR c.en).length + ((endR c).length + 0))))))))) + 10 := rfl
  rw [e] at h
  omega
set_option maxHeartbeats 4000000 in
set_option maxRecDepth 100000 in
theorem line_ok (w0 : World) (c : CallM) (hf : c.fits) :
    K.GC Tryd.prog w0 12 #[.agg #[.int .i64 c.th, .int .i64 c.ok, .int .u32 c.key, .int .u32 c.val, .int .i64 c.rk, .int .u32 c.rv, .int .i64 c.beg, .int .i64 c.en, .int .i64 c.wh, .bool c.cr, .bool c.kp]] [] (fun v post => post = [] ∧ ((c.may ∧ v = .tuple #[.string (K.sb (lineR c)), .int .i64 0]) ∨ (¬ c.may ∧ v = .tuple #[.string (K.sb []), .int .i64 1]))) := by
  refine K.GC.mk (n := 52) Tryd.func12 rfl rfl [.agg #[.int .i64 c.th, .int .i64 c.ok, .int .u32 c.key, .int .u32 c.val, .int .i64 c.rk, .int .u32 c.rv, .int .i64 c.beg, .int .i64 c.en, .int .i64 c.wh, .bool c.cr, .bool c.kp]] rfl rfl ?_
  intro fr w hS
  replace hS : K.Sat w0 [fr] w := hS
  refine K.KW.seq ?_
  -- 0 :66
  refine K.KW.region ?_
  refine K.RW.l rfl (K.OW.gnew 29 [.int .i64 c.th, .int .i64 c.ok, .int .u32 c.key, .int .u32 c.val, .int .i64 c.rk, .int .u32 c.rv, .int .i64 c.beg, .int .i64 c.en, .int .i64 c.wh, .bool c.cr, .bool c.kp] hS ?_)
  clear hS; intro w r_1 g_2 hg_3 hS
  refine K.RW.qs [.string (K.sb []), .int .i64 0] (by kernel_rfl) ?_
  refine K.RW.nil ?_
  refine K.thn_normal ?_
  refine K.KW.seq ?_
  refine K.KW.seq ?_
  -- 1 :67
  refine K.KW.region ?_
  refine K.RW.q rfl rfl (K.QR.ldN [.int .i64 c.th, .int .i64 c.ok, .int .u32 c.key, .int .u32 c.val, .int .i64 c.rk, .int .u32 c.rv, .int .i64 c.beg, .int .i64 c.en, .int .i64 c.wh, .bool c.cr, .bool c.kp] rfl rfl (by kernel_rfl) (by kernel_rfl) (K.cells (K.cl ((hS.blk 0 rfl hg_3).cell rfl) (K.cl ((hS.blk 0 rfl hg_3).cell rfl) (K.cl ((hS.blk 0 rfl hg_3).cell rfl) (K.cl ((hS.blk 0 rfl hg_3).cell rfl) (K.cl ((hS.blk 0 rfl hg_3).cell rfl) (K.cl ((hS.blk 0 rfl hg_3).cell rfl) (K.cl ((hS.blk 0 rfl hg_3).cell rfl) (K.cl ((hS.blk 0 rfl hg_3).cell rfl) (K.cl ((hS.blk 0 rfl hg_3).cell rfl) (K.cl ((hS.blk 0 rfl hg_3).cell rfl) (K.cl ((hS.blk 0 rfl hg_3).cell rfl) K.cl0))))))))))))) ?_
  refine K.RW.l rfl (K.OW.gcall hS [] [0, 1] [.agg #[.int .i64 c.th, .int .i64 c.ok, .int .u32 c.key, .int .u32 c.val, .int .i64 c.rk, .int .u32 c.rv, .int .i64 c.beg, .int .i64 c.en, .int .i64 c.wh, .bool c.cr, .bool c.kp]] (repright_ok _ c) ?_)
  clear hS; rintro _ _ w ⟨rfl, (⟨h_4, rfl⟩ | ⟨h_5, rfl⟩)⟩ hS
  ·
    replace hS : K.Sat w0 [g_2, fr] w := hS
    refine K.RW.qs [.bool false] (by kernel_rfl) ?_
    refine K.RW.nil ?_
    refine K.thn_normal ?_
    refine K.KW.ifF rfl ?_
    refine K.KW.skip ?_
    refine K.thn_normal ?_
    refine K.KW.seq ?_
    -- 3 :70
    have hmay : c.may := by assumption
    have hn := hmay.1
    unfold CallM.nums at hn
    have hff := hf
    unfold CallM.fits isI64 at hff
    refine K.KW.gdrawn [0] hS (by kernel_rfl) ?_
    clear hS; intro w hS
    refine K.DW.q 0 (by kernel_rfl) rfl rfl (by kernel_rfl) rfl (fun w hS => K.QR.k (v := .pointer (some ⟨r_1, 0, none⟩)) (by kernel_rfl)) (hS.pick [0]) ?_
    refine K.DW.q 1 (by kernel_rfl) rfl rfl (by kernel_rfl) rfl (fun w hS => K.QR.ld1 (v := .int .i64 c.th) rfl rfl (by kernel_rfl) ((hS.blk 0 rfl hg_3).cell rfl)) (hS.pick [0]) ?_
    refine K.DW.q 4 (by kernel_rfl) rfl rfl (by kernel_rfl) rfl (fun w hS => K.QR.k (v := .pointer (some ⟨r_1, 1, none⟩)) (by kernel_rfl)) (hS.pick [0]) ?_
    refine K.DW.q 5 (by kernel_rfl) rfl rfl (by kernel_rfl) rfl (fun w hS => K.QR.k (v := .pointer (some ⟨r_1, 1, none⟩)) (by kernel_rfl)) (hS.pick [0]) ?_
    refine K.DW.q 6 (by kernel_rfl) rfl rfl (by kernel_rfl) rfl (fun w hS => K.QR.ld1 (v := .int .i64 c.ok) rfl rfl (by kernel_rfl) ((hS.blk 0 rfl hg_3).cell rfl)) (hS.pick [0]) ?_
    refine K.DW.q 9 (by kernel_rfl) rfl rfl (by kernel_rfl) rfl (fun w hS => K.QR.k (v := .pointer (some ⟨r_1, 1, none⟩)) (by kernel_rfl)) (hS.pick [0]) ?_
    refine K.DW.q 10 (by kernel_rfl) rfl rfl (by kernel_rfl) rfl (fun w hS => K.QR.k (v := .pointer (some ⟨r_1, 2, none⟩)) (by kernel_rfl)) (hS.pick [0]) ?_
    refine K.DW.q 11 (by kernel_rfl) rfl rfl (by kernel_rfl) rfl (fun w hS => K.QR.ld1 (v := .int .u32 c.key) rfl rfl (by kernel_rfl) ((hS.blk 0 rfl hg_3).cell rfl)) (hS.pick [0]) ?_
    refine K.DW.q 12 (by kernel_rfl) rfl rfl (by kernel_rfl) rfl (fun w hS => K.QR.nice (v := .int .i64 (IntKind.i64.wrap c.key)) (by kernel_rfl) (congrArg (Value.int .i64) (IntWalk.i64_in _ (by omega)))) (hS.pick [0]) ?_
    refine K.DW.q 14 (by kernel_rfl) rfl rfl (by kernel_rfl) rfl (fun w hS => K.QR.k (v := .pointer (some ⟨r_1, 1, none⟩)) (by kernel_rfl)) (hS.pick [0]) ?_
    refine K.DW.q 15 (by kernel_rfl) rfl rfl (by kernel_rfl) rfl (fun w hS => K.QR.k (v := .pointer (some ⟨r_1, 3, none⟩)) (by kernel_rfl)) (hS.pick [0]) ?_
    refine K.DW.q 16 (by kernel_rfl) rfl rfl (by kernel_rfl) rfl (fun w hS => K.QR.ld1 (v := .int .u32 c.val) rfl rfl (by kernel_rfl) ((hS.blk 0 rfl hg_3).cell rfl)) (hS.pick [0]) ?_
    refine K.DW.q 17 (by kernel_rfl) rfl rfl (by kernel_rfl) rfl (fun w hS => K.QR.nice (v := .int .i64 (IntKind.i64.wrap c.val)) (by kernel_rfl) (congrArg (Value.int .i64) (IntWalk.i64_in _ (by omega)))) (hS.pick [0]) ?_
    refine K.DW.q 20 (by kernel_rfl) rfl rfl (by kernel_rfl) rfl (fun w hS => K.QR.k (v := .pointer (some ⟨r_1, 4, none⟩)) (by kernel_rfl)) (hS.pick [0]) ?_
    refine K.DW.q 21 (by kernel_rfl) rfl rfl (by kernel_rfl) rfl (fun w hS => K.QR.k (v := .pointer (some ⟨r_1, 4, none⟩)) (by kernel_rfl)) (hS.pick [0]) ?_
    refine K.DW.q 22 (by kernel_rfl) rfl rfl (by kernel_rfl) rfl (fun w hS => K.QR.ld1 (v := .int .i64 c.rk) rfl rfl (by kernel_rfl) ((hS.blk 0 rfl hg_3).cell rfl)) (hS.pick [0]) ?_
    refine K.DW.q 25 (by kernel_rfl) rfl rfl (by kernel_rfl) rfl (fun w hS => K.QR.k (v := .pointer (some ⟨r_1, 4, none⟩)) (by kernel_rfl)) (hS.pick [0]) ?_
    refine K.DW.q 26 (by kernel_rfl) rfl rfl (by kernel_rfl) rfl (fun w hS => K.QR.k (v := .pointer (some ⟨r_1, 5, none⟩)) (by kernel_rfl)) (hS.pick [0]) ?_
    refine K.DW.q 27 (by kernel_rfl) rfl rfl (by kernel_rfl) rfl (fun w hS => K.QR.ld1 (v := .int .u32 c.rv) rfl rfl (by kernel_rfl) ((hS.blk 0 rfl hg_3).cell rfl)) (hS.pick [0]) ?_
    refine K.DW.q 28 (by kernel_rfl) rfl rfl (by kernel_rfl) rfl (fun w hS => K.QR.nice (v := .int .i64 (IntKind.i64.wrap c.rv)) (by kernel_rfl) (congrArg (Value.int .i64) (IntWalk.i64_in _ (by omega)))) (hS.pick [0]) ?_
    refine K.DW.q 30 (by kernel_rfl) rfl rfl (by kernel_rfl) rfl (fun w hS => K.QR.k (v := .pointer (some ⟨r_1, 6, none⟩)) (by kernel_rfl)) (hS.pick [0]) ?_
    refine K.DW.q 31 (by kernel_rfl) rfl rfl (by kernel_rfl) rfl (fun w hS => K.QR.ld1 (v := .int .i64 c.beg) rfl rfl (by kernel_rfl) ((hS.blk 0 rfl hg_3).cell rfl)) (hS.pick [0]) ?_
    refine K.DW.q 33 (by kernel_rfl) rfl rfl (by kernel_rfl) rfl (fun w hS => K.QR.k (v := .pointer (some ⟨r_1, 8, none⟩)) (by kernel_rfl)) (hS.pick [0]) ?_
    refine K.DW.q 34 (by kernel_rfl) rfl rfl (by kernel_rfl) rfl (fun w hS => K.QR.ld1 (v := .int .i64 c.wh) rfl rfl (by kernel_rfl) ((hS.blk 0 rfl hg_3).cell rfl)) (hS.pick [0]) ?_
    refine K.DW.q 36 (by kernel_rfl) rfl rfl (by kernel_rfl) rfl (fun w hS => K.QR.k (v := .pointer (some ⟨r_1, 7, none⟩)) (by kernel_rfl)) (hS.pick [0]) ?_
    refine K.DW.q 37 (by kernel_rfl) rfl rfl (by kernel_rfl) rfl (fun w hS => K.QR.ld1 (v := .int .i64 c.en) rfl rfl (by kernel_rfl) ((hS.blk 0 rfl hg_3).cell rfl)) (hS.pick [0]) ?_
    refine K.DW.q 39 (by kernel_rfl) rfl rfl (by kernel_rfl) rfl (fun w hS => K.QR.ldN [.int .i64 c.th, .int .i64 c.ok, .int .u32 c.key, .int .u32 c.val, .int .i64 c.rk, .int .u32 c.rv, .int .i64 c.beg, .int .i64 c.en, .int .i64 c.wh, .bool c.cr, .bool c.kp] rfl rfl (by kernel_rfl) (by kernel_rfl) (K.cells (K.cl ((hS.blk 0 rfl hg_3).cell rfl) (K.cl ((hS.blk 0 rfl hg_3).cell rfl) (K.cl ((hS.blk 0 rfl hg_3).cell rfl) (K.cl ((hS.blk 0 rfl hg_3).cell rfl) (K.cl ((hS.blk 0 rfl hg_3).cell rfl) (K.cl ((hS.blk 0 rfl hg_3).cell rfl) (K.cl ((hS.blk 0 rfl hg_3).cell rfl) (K.cl ((hS.blk 0 rfl hg_3).cell rfl) (K.cl ((hS.blk 0 rfl hg_3).cell rfl) (K.cl ((hS.blk 0 rfl hg_3).cell rfl) (K.cl ((hS.blk 0 rfl hg_3).cell rfl) K.cl0))))))))))))) (hS.pick [0]) ?_
    refine K.DW.l 2 rfl (by kernel_rfl) rfl (K.OW.gcall hS [] [0, 1] [.int .i64 c.th] (digits_ok _ c.th (by omega) (by omega)) ?_)
    clear hS; rintro _ _ w ⟨rfl, rfl⟩ hS
    replace hS : K.Sat w0 [g_2, fr] w := hS
    refine ⟨.inl (hS.pick [0]), ?_⟩
    refine K.DW.l 3 rfl (by kernel_rfl) rfl (K.OW.gcall hS [] [0, 1] [] (opn_ok _) ?_)
    clear hS; rintro _ _ w ⟨r_6, g_7, rfl, rfl, h_8⟩ hS
    have h_8o : K.OwnG g_7 9 1 (some ⟨r_6, 0, none⟩) 9 9 (opNm.flatMap K.cStr) := K.OwnG.ofPt h_8 9 (by unfold maxLen; omega) rfl
    replace hS : K.Sat w0 [g_7, g_2, fr] w := hS
    refine ⟨.inl (hS.pick [1]), ?_⟩
    refine K.DW.q 7 (by kernel_rfl) rfl rfl (by kernel_rfl) rfl (fun w hS => K.QR.ix c.ok.toNat 1 rfl rfl rfl Tryd.underlying68 (by kernel_rfl) (by omega) (by first | (simp; done) | omega | (simp; omega))) (hS.pick [1]) ?_
    refine K.DW.reS (fun w => K.Sat w0 [g_2, g_7] w) (fun w h => h.pick [0]) ?_
    refine K.DW.q 8 (by kernel_rfl) rfl rfl (by kernel_rfl) rfl (fun w hS => K.QR.ld1 (v := .string (K.sb (opNm.getD c.ok.toNat []))) rfl rfl (by kernel_rfl) (K.Own.atS (c := K.cStr) (d := []) (fun _ => rfl) (hS.ownr 1 rfl h_8o) rfl c.ok.toNat (by omega))) (hS.pick [1, 0]) ?_
    refine K.DW.l 13 rfl (by kernel_rfl) rfl (K.OW.gcall hS [] [0, 1, 2] [.int .i64 c.key] (digits_ok _ c.key (by omega) (by omega)) ?_)
    clear hS; rintro _ _ w ⟨rfl, rfl⟩ hS
    replace hS : K.Sat w0 [g_7, g_2, fr] w := hS
    refine ⟨.inl (hS.pick [1, 0]), ?_⟩
    refine K.DW.l 18 rfl (by kernel_rfl) rfl (K.OW.gcall hS [] [0, 1, 2] [.int .i64 c.val] (digits_ok _ c.val (by omega) (by omega)) ?_)
    clear hS; rintro _ _ w ⟨rfl, rfl⟩ hS
    replace hS : K.Sat w0 [g_7, g_2, fr] w := hS
    refine ⟨.inl (hS.pick [1, 0]), ?_⟩
    refine K.DW.l 19 rfl (by kernel_rfl) rfl (K.OW.gcall hS [] [0, 1, 2] [] (resn_ok _) ?_)
    clear hS; rintro _ _ w ⟨r_9, g_10, rfl, rfl, h_11⟩ hS
    have h_11o : K.OwnG g_10 9 1 (some ⟨r_9, 0, none⟩) 6 6 (resNm.flatMap K.cStr) := K.OwnG.ofPt h_11 6 (by unfold maxLen; omega) rfl
    replace hS : K.Sat w0 [g_10, g_7, g_2, fr] w := hS
    refine ⟨.inl (hS.pick [2, 1]), ?_⟩
    refine K.DW.q 23 (by kernel_rfl) rfl rfl (by kernel_rfl) rfl (fun w hS => K.QR.ix c.rk.toNat 1 rfl rfl rfl Tryd.underlying68 (by kernel_rfl) (by omega) (by first | (simp; done) | omega | (simp; omega))) (hS.pick [2, 1]) ?_
    refine K.DW.reS (fun w => K.Sat w0 [g_2, g_7, g_10] w) (fun w h => h.pick [0, 1]) ?_
    refine K.DW.q 24 (by kernel_rfl) rfl rfl (by kernel_rfl) rfl (fun w hS => K.QR.ld1 (v := .string (K.sb (resNm.getD c.rk.toNat []))) rfl rfl (by kernel_rfl) (K.Own.atS (c := K.cStr) (d := []) (fun _ => rfl) (hS.ownr 2 rfl h_11o) rfl c.rk.toNat (by omega))) (hS.pick [2, 1, 0]) ?_
    refine K.DW.l 29 rfl (by kernel_rfl) rfl (K.OW.gcall hS [] [0, 1, 2, 3] [.int .i64 c.rv] (digits_ok _ c.rv (by omega) (by omega)) ?_)
    clear hS; rintro _ _ w ⟨rfl, rfl⟩ hS
    replace hS : K.Sat w0 [g_10, g_7, g_2, fr] w := hS
    refine ⟨.inl (hS.pick [2, 1, 0]), ?_⟩
    refine K.DW.l 32 rfl (by kernel_rfl) rfl (K.OW.gcall hS [] [0, 1, 2, 3] [.int .i64 c.beg] (digits_ok _ c.beg (by omega) (by omega)) ?_)
    clear hS; rintro _ _ w ⟨rfl, rfl⟩ hS
    replace hS : K.Sat w0 [g_10, g_7, g_2, fr] w := hS
    refine ⟨.inl (hS.pick [2, 1, 0]), ?_⟩
    refine K.DW.l 35 rfl (by kernel_rfl) rfl (K.OW.gcall hS [] [0, 1, 2, 3] [.int .i64 c.wh] (digits_ok _ c.wh (by omega) (by omega)) ?_)
    clear hS; rintro _ _ w ⟨rfl, rfl⟩ hS
    replace hS : K.Sat w0 [g_10, g_7, g_2, fr] w := hS
    refine ⟨.inl (hS.pick [2, 1, 0]), ?_⟩
    refine K.DW.l 38 rfl (by kernel_rfl) rfl (K.OW.gcall hS [] [0, 1, 2, 3] [.int .i64 c.en] (digits_ok _ c.en (by omega) (by omega)) ?_)
    clear hS; rintro _ _ w ⟨rfl, rfl⟩ hS
    replace hS : K.Sat w0 [g_10, g_7, g_2, fr] w := hS
    refine ⟨.inl (hS.pick [2, 1, 0]), ?_⟩
    refine K.DW.l 40 rfl (by kernel_rfl) rfl (K.OW.gcall hS [] [0, 1, 2, 3] [.agg #[.int .i64 c.th, .int .i64 c.ok, .int .u32 c.key, .int .u32 c.val, .int .i64 c.rk, .int .u32 c.rv, .int .i64 c.beg, .int .i64 c.en, .int .i64 c.wh, .bool c.cr, .bool c.kp]] (ending_ok _ c) ?_)
    clear hS; rintro _ _ w ⟨rfl, rfl⟩ hS
    replace hS : K.Sat w0 [g_10, g_7, g_2, fr] w := hS
    refine ⟨.inl (hS.pick [2, 1, 0]), ?_⟩
    refine K.DW.l 41 rfl (by kernel_rfl) rfl (K.OW.gbs [(0, .string (K.sb (dgR c.th))), (1, .string (K.sb (opNm.getD c.ok.toNat []))), (2, .string (K.sb (dgR c.key))), (3, .string (K.sb (dgR c.val))), (4, .string (K.sb (resNm.getD c.rk.toNat []))), (5, .string (K.sb (dgR c.rv))), (6, .string (K.sb (dgR c.beg))), (7, .string (K.sb (dgR c.wh))), (8, .string (K.sb (dgR c.en))), (9, .string (K.sb (endR c)))] [.string (K.sb (dgR c.th)), .string (K.sb (opNm.getD c.ok.toNat [])), .string (K.sb (dgR c.key)), .string (K.sb (dgR c.val)), .string (K.sb (resNm.getD c.rk.toNat [])), .string (K.sb (dgR c.rv)), .string (K.sb (dgR c.beg)), .string (K.sb (dgR c.wh)), .string (K.sb (dgR c.en)), .string (K.sb (endR c))] hS (fun w => K.bs_run (P := Tryd.prog) w 68 9 10 _ _ Tryd.underlying68 (by kernel_rfl)) ?_)
    clear hS; intro w r_12 g_13 hg_14 hS
    refine ⟨.inl (hS.pick [3, 2, 1]), ?_⟩
    refine K.DW.l 42 rfl (by kernel_rfl) rfl (K.OW.q rfl (K.QR.k (v := .slice (some ⟨r_12, 0, none⟩) 10 10) (by kernel_rfl)) ?_)
    refine ⟨.inl (hS.pick [3, 2, 1]), ?_⟩
    refine K.DW.done (by kernel_rfl) ?_
    refine K.thn_normal ?_
    refine K.KW.seq ?_
    -- 4 :71
    refine K.KW.region ?_
    refine K.RW.qs [.slice (some ⟨r_12, 0, none⟩) 10 10] (by kernel_rfl) ?_
    refine K.RW.l rfl (K.OW.gcall hS [0] [1, 2, 3, 4] [.slice (some ⟨r_12, 0, none⟩) 10 10, .string (K.sb [32])] (join_ok _ _ _ 32 [((dgR c.th) : List UInt8), (opNm.getD c.ok.toNat [] : List UInt8), ((dgR c.key) : List UInt8), ((dgR c.val) : List UInt8), (resNm.getD c.rk.toNat [] : List UInt8), ((dgR c.rv) : List UInt8), ((dgR c.beg) : List UInt8), ((dgR c.wh) : List UInt8), ((dgR c.en) : List UInt8), ((endR c) : List UInt8)] _ (fun w h => K.Blk.rowE (c := K.cStr) [] (L := [((dgR c.th) : List UInt8), (opNm.getD c.ok.toNat [] : List UInt8), ((dgR c.key) : List UInt8), ((dgR c.val) : List UInt8), (resNm.getD c.rk.toNat [] : List UInt8), ((dgR c.rv) : List UInt8), ((dgR c.beg) : List UInt8), ((dgR c.wh) : List UInt8), ((dgR c.en) : List UInt8), ((endR c) : List UInt8)]) (h.blk 0 rfl hg_14) (fun _ => rfl) rfl) (by first | omega | (simp; done) | (simp; omega)) (by first | omega | (simp; done) | (simp; omega)) (by first | omega | (simp; done) | (simp; omega)) (by exact Nat.le_trans (lineR_len hmay hf) (by omega))) ?_)
    clear hS; rintro _ _ w ⟨rfl, rfl⟩ hS
    replace hS : K.Sat w0 [g_13, g_10, g_7, g_2, fr] w := hS
    refine K.RW.qs [.string (K.sb (K.jn 32 [((dgR c.th) : List UInt8), (opNm.getD c.ok.toNat [] : List UInt8), ((dgR c.key) : List UInt8), ((dgR c.val) : List UInt8), (resNm.getD c.rk.toNat [] : List UInt8), ((dgR c.rv) : List UInt8), ((dgR c.beg) : List UInt8), ((dgR c.wh) : List UInt8), ((dgR c.en) : List UInt8), ((endR c) : List UInt8)])), .int .i64 0] (by kernel_rfl) ?_
    refine K.RW.nil ?_
    refine K.thn_normal ?_
    refine K.KW.ret ?_
    refine ⟨.inr rfl, rfl, (.tuple #[.string (K.sb (K.jn 32 [((dgR c.th) : List UInt8), (opNm.getD c.ok.toNat [] : List UInt8), ((dgR c.key) : List UInt8), ((dgR c.val) : List UInt8), (resNm.getD c.rk.toNat [] : List UInt8), ((dgR c.rv) : List UInt8), ((dgR c.beg) : List UInt8), ((dgR c.wh) : List UInt8), ((dgR c.en) : List UInt8), ((endR c) : List UInt8)])), .int .i64 0]), K.res2 rfl rfl rfl, [], ?_, hS.pick [4]⟩
    exact ⟨rfl, .inl ⟨hmay, rfl⟩⟩
  ·
    replace hS : K.Sat w0 [g_2, fr] w := hS
    refine K.RW.qs [.bool true] (by kernel_rfl) ?_
    refine K.RW.nil ?_
    refine K.thn_normal ?_
    refine K.KW.ifT rfl ?_
    refine K.KW.seq ?_
    -- 2 :68
    refine K.KW.region ?_
    refine K.RW.qs [.string (K.sb []), .int .i64 1] (by kernel_rfl) ?_
    refine K.RW.nil ?_
    refine K.thn_normal ?_
    refine K.KW.ret ?_
    refine K.thn_ret ?_
    refine ⟨.inr rfl, rfl, (.tuple #[.string (K.sb []), .int .i64 1]), K.res2 rfl rfl rfl, [], ?_, hS.pick [1]⟩
    exact ⟨rfl, .inr ⟨by assumption, rfl⟩⟩
end Go.Proofs.YtnehocjmgnhhhaaDoor
