import Derived.Test.YtnehocjmgnhhhaaDoorFsc3
/- Scripts: which acts may be written, words. -/
namespace Go.Proofs.YtnehocjmgnhhhaaDoor
open Go.RowKit
set_option linter.unusedVariables false
attribute [local irreducible] K.KW K.RW K.DW K.OW K.QR K.KC
/-- an act's numbers may be: those of the kinds of its fields -/
def ActM.fits (a : ActM) : Prop := isI64 a.k ∧ isI64 a.th ∧ isI64 a.ln ∧ isI64 a.ok ∧ (0 ≤ a.key ∧ a.key ≤ 4294967295) ∧ (0 ≤ a.val ∧ a.val ≤ 4294967295)
/-- an act without what its kind has no use for -/
def plainA (a : ActM) : ActM :=
  if a.k = 1 then ⟨1, a.th, 0, a.ok, if ¬ a.ok = 1 ∧ ¬ a.ok = 2 then a.key else 0, if a.ok = 1 ∨ a.ok = 6 then a.val else 0⟩
  else if a.k = 2 then ⟨2, a.th, 0, 0, 0, 0⟩ else if a.k = 3 then ⟨3, 0, a.ln, 0, 0, 0⟩ else ⟨a.k, 0, 0, 0, 0, 0⟩
/-- an act that may be written -/
def rightO (a : ActM) : Prop := (0 ≤ a.th ∧ a.th ≤ 63) ∧ (0 ≤ a.ln ∧ a.ln ≤ 262143) ∧ (1 ≤ a.k ∧ a.k ≤ 5) ∧ (¬ a.k = 1 ∨ (a.ln = 0 ∧ (1 ≤ a.ok ∧ a.ok ≤ 8) ∧ (¬ a.ok ≤ 2 ∨ a.key = 0) ∧ (a.ok = 1 ∨ a.ok = 6 ∨ a.val = 0))) ∧ (a.k = 1 ∨ (a.ok = 0 ∧ a.key = 0 ∧ a.val = 0 ∧ (a.k = 2 ∨ a.th = 0) ∧ (a.k = 3 ∨ a.ln = 0)))
instance (a : ActM) : Decidable (rightO a) := inferInstanceAs (Decidable (_ ∧ _))
theorem rightA_iff {a : ActM} : ((1 ≤ a.k ∧ a.k ≤ 5) ∧ (¬ a.k = 1 ∨ (1 ≤ a.ok ∧ a.ok ≤ 8)) ∧ ((plainA a).k = a.k ∧ (plainA a).th = a.th ∧ (plainA a).ln = a.ln ∧ (plainA a).ok = a.ok ∧ (plainA a).key = a.key ∧ (plainA a).val = a.val) ∧ (0 ≤ a.th ∧ a.th ≤ 63) ∧ (0 ≤ a.ln ∧ a.ln ≤ 262143)) ↔ rightO a := by
  unfold rightO plainA
  by_cases h1 : a.k = 1
  · by_cases h2 : a.ok = 1 <;> by_cases h3 : a.ok = 2 <;> by_cases h4 : a.ok = 6 <;> simp [h1, h2, h3, h4] <;> omega
  · by_cases h2 : a.k = 2
    · simp [h2]; omega
    · by_cases h3 : a.k = 3
      · simp [h3]; omega
      · simp [h1, h2, h3]; omega
def keyA (a : ActM) : List (List UInt8) := if ¬ a.ok = 1 ∧ ¬ a.ok = 2 then [dg a.key.toNat] else []
def valA (a : ActM) : List (List UInt8) := if a.ok = 1 ∨ a.ok = 6 then [dg a.val.toNat] else []
/-- an act's words -/
def wordsA (a : ActM) (n : Nat) : List (List UInt8) :=
  if a.k = 1 then [callN, dg a.th.toNat, opNm.tail.getD (a.ok - 1).toNat []] ++ keyA a ++ valA a
  else if a.k = 2 then [stepN, dg a.th.toNat, dg n] else if a.k = 3 then [evictN, dg a.ln.toNat] else if a.k = 5 then [reviveN, dg n] else [crashN]
theorem eqAct_any {a0 a1 a2 a3 a4 a5 b0 b1 b2 b3 b4 b5 : Int} (w : World) :
    (Op.equal 57 (.agg #[.int .i64 a0, .int .i64 a1, .int .i64 a2, .int .i64 a3, .int .u32 a4, .int .u32 a5]) (.agg #[.int .i64 b0, .int .i64 b1, .int .i64 b2, .int .i64 b3, .int .u32 b4, .int .u32 b5])).run Tryd.prog w
      = .ok (decide (a0 = b0 ∧ a1 = b1 ∧ a2 = b2 ∧ a3 = b3 ∧ a4 = b4 ∧ a5 = b5)) w := by
  simp [go_sem, Op.equal, Op.maxDepth]
  (repeat' split) <;> simp_all
theorem eqAct_t {a0 a1 a2 a3 a4 a5 b0 b1 b2 b3 b4 b5 : Int} (h : a0 = b0 ∧ a1 = b1 ∧ a2 = b2 ∧ a3 = b3 ∧ a4 = b4 ∧ a5 = b5) (w : World) :
    (Op.equal 57 (.agg #[.int .i64 a0, .int .i64 a1, .int .i64 a2, .int .i64 a3, .int .u32 a4, .int .u32 a5]) (.agg #[.int .i64 b0, .int .i64 b1, .int .i64 b2, .int .i64 b3, .int .u32 b4, .int .u32 b5])).run Tryd.prog w = .ok true w :=
  (eqAct_any w).trans (by rw [decide_eq_true h])
theorem eqAct_f {a0 a1 a2 a3 a4 a5 b0 b1 b2 b3 b4 b5 : Int} (h : ¬ (a0 = b0 ∧ a1 = b1 ∧ a2 = b2 ∧ a3 = b3 ∧ a4 = b4 ∧ a5 = b5)) (w : World) :
    (Op.equal 57 (.agg #[.int .i64 a0, .int .i64 a1, .int .i64 a2, .int .i64 a3, .int .u32 a4, .int .u32 a5]) (.agg #[.int .i64 b0, .int .i64 b1, .int .i64 b2, .int .i64 b3, .int .u32 b4, .int .u32 b5])).run Tryd.prog w = .ok false w :=
  (eqAct_any w).trans (by rw [decide_eq_false h])
theorem act_eq {a b : ActM} : (a.k = b.k ∧ a.th = b.th ∧ a.ln = b.ln ∧ a.ok = b.ok ∧ a.key = b.key ∧ a.val = b.val) ↔ a = b := by
  cases a; cases b; simp
set_option maxHeartbeats 1000000 in
set_option maxRecDepth 100000 in
theorem plain_ok (w0 : World) (a : ActM) :
    K.GC Tryd.prog w0 65 #[.agg #[.int .i64 a.k, .int .i64 a.th, .int .i64 a.ln, .int .i64 a.ok, .int .u32 a.key, .int .u32 a.val]] [] (fun v post => post = [] ∧ v = actA (plainA a)) := by
  refine K.GC.mk (n := 51) Tryd.func65 rfl rfl [.agg #[.int .i64 a.k, .int .i64 a.th, .int .i64 a.ln, .int .i64 a.ok, .int .u32 a.key, .int .u32 a.val]] rfl rfl ?_
  intro fr w hS
  replace hS : K.Sat w0 [fr] w := hS
  refine K.KW.seq ?_
  -- 0 :183
  refine K.KW.region ?_
  refine K.RW.l rfl (K.OW.gnew 57 [.int .i64 a.k, .int .i64 a.th, .int .i64 a.ln, .int .i64 a.ok, .int .u32 a.key, .int .u32 a.val] hS ?_)
  clear hS; intro w r_1 g_2 hg_3 hS
  refine K.RW.l rfl (K.OW.gnew 57 [.int .i64 0, .int .i64 0, .int .i64 0, .int .i64 0, .int .u32 0, .int .u32 0] hS ?_)
  clear hS; intro w r_4 g_5 hg_6 hS
  refine K.RW.nil ?_
  refine K.thn_normal ?_
  refine K.KW.seq ?_
  -- 1 :184
  refine K.KW.region ?_
  refine K.RW.qs [.pointer (some ⟨r_1, 0, none⟩)] (by kernel_rfl) ?_
  refine K.RW.q rfl rfl (K.QR.ld1 (v := .int .i64 a.k) rfl rfl (by kernel_rfl) ((hS.blk 1 rfl hg_3).cell rfl)) ?_
  refine K.RW.q rfl rfl (K.QR.bd [(0, .int .i64 a.k)] [.int .i64 a.k, .int .i64 0, .int .i64 0, .int .i64 0, .int .u32 0, .int .u32 0] rfl rfl (by kernel_rfl)) ?_
  refine K.RW.l rfl (K.OW.gnew 57 [.int .i64 0, .int .i64 0, .int .i64 0, .int .i64 0, .int .u32 0, .int .u32 0] hS ?_)
  clear hS; intro w r_7 g_8 hg_9 hS
  refine K.RW.l rfl (K.OW.gst 0 [.int .i64 a.k, .int .i64 0, .int .i64 0, .int .i64 0, .int .u32 0, .int .u32 0] [.int .i64 a.k, .int .i64 0, .int .i64 0, .int .i64 0, .int .u32 0, .int .u32 0] hS hg_9 ?_)
  clear hS; intro w g_10 hg_11 hS
  replace hS : K.Sat w0 [g_10, g_5, g_2, fr] w := hS
  refine K.RW.nil ?_
  refine K.thn_normal ?_
  refine K.KW.seq ?_
  refine K.KW.seq ?_
  -- 2 :185
  refine K.KW.region ?_
  refine K.RW.qs [.pointer (some ⟨r_1, 0, none⟩)] (by kernel_rfl) ?_
  refine K.RW.q rfl rfl (K.QR.ld1 (v := .int .i64 a.k) rfl rfl (by kernel_rfl) ((hS.blk 2 rfl hg_3).cell rfl)) ?_
  refine K.RW.nil ?_
  refine K.thn_normal ?_
  refine K.KW.block ?_
  refine K.KW.seq ?_
  -- 3 :186
  refine K.KW.region ?_
  by_cases h_12 : (a.k : Int) = (1 : Int)
  ·  -- yes
    refine K.RW.q rfl rfl (K.QR.nice (v := .bool ((a.k : Int) == (1 : Int))) (by kernel_rfl) (congrArg Value.bool (beq_iff_eq.2 h_12))) ?_
    refine K.RW.qs [.bool true] (by kernel_rfl) ?_
    refine K.RW.nil ?_
    refine K.thn_normal ?_
    refine K.KW.ifT rfl ?_
    refine K.KW.seq ?_
    -- 4 :187
    refine K.KW.gdrawn [2] hS (by kernel_rfl) ?_
    clear hS; intro w hS
    refine K.DW.q 0 (by kernel_rfl) rfl rfl (by kernel_rfl) rfl (fun w hS => K.QR.k (v := .pointer (some ⟨r_1, 1, none⟩)) (by kernel_rfl)) (hS.pick [2]) ?_
    refine K.DW.q 1 (by kernel_rfl) rfl rfl (by kernel_rfl) rfl (fun w hS => K.QR.ld1 (v := .int .i64 a.th) rfl rfl (by kernel_rfl) ((hS.blk 0 rfl hg_3).cell rfl)) (hS.pick [2]) ?_
    refine K.DW.q 2 (by kernel_rfl) rfl rfl (by kernel_rfl) rfl (fun w hS => K.QR.k (v := .pointer (some ⟨r_1, 3, none⟩)) (by kernel_rfl)) (hS.pick [2]) ?_
    refine K.DW.q 3 (by kernel_rfl) rfl rfl (by kernel_rfl) rfl (fun w hS => K.QR.k (v := .pointer (some ⟨r_1, 3, none⟩)) (by kernel_rfl)) (hS.pick [2]) ?_
    refine K.DW.q 4 (by kernel_rfl) rfl rfl (by kernel_rfl) rfl (fun w hS => K.QR.ld1 (v := .int .i64 a.ok) rfl rfl (by kernel_rfl) ((hS.blk 0 rfl hg_3).cell rfl)) (hS.pick [2]) ?_
    refine K.DW.l 5 rfl (by kernel_rfl) rfl (K.OW.q rfl (K.QR.k (v := .pointer (some ⟨r_7, 1, none⟩)) (by kernel_rfl)) ?_)
    refine ⟨.inl (hS.pick [2]), ?_⟩
    refine K.DW.l 6 rfl (by kernel_rfl) rfl (K.OW.gst 0 [.int .i64 a.th] [.int .i64 a.k, .int .i64 a.th, .int .i64 0, .int .i64 0, .int .u32 0, .int .u32 0] hS hg_11 ?_)
    clear hS; intro w g_13 hg_14 hS
    replace hS : K.Sat w0 [g_13, g_5, g_2, fr] w := hS
    refine ⟨.inl (hS.pick [2]), ?_⟩
    refine K.DW.l 7 rfl (by kernel_rfl) rfl (K.OW.q rfl (K.QR.k (v := .pointer (some ⟨r_7, 3, none⟩)) (by kernel_rfl)) ?_)
    refine ⟨.inl (hS.pick [2]), ?_⟩
    refine K.DW.l 8 rfl (by kernel_rfl) rfl (K.OW.q rfl (K.QR.k (v := .pointer (some ⟨r_7, 3, none⟩)) (by kernel_rfl)) ?_)
    refine ⟨.inl (hS.pick [2]), ?_⟩
    refine K.DW.l 9 rfl (by kernel_rfl) rfl (K.OW.gst 0 [.int .i64 a.ok] [.int .i64 a.k, .int .i64 a.th, .int .i64 0, .int .i64 a.ok, .int .u32 0, .int .u32 0] hS hg_14 ?_)
    clear hS; intro w g_15 hg_16 hS
    replace hS : K.Sat w0 [g_15, g_5, g_2, fr] w := hS
    refine ⟨.inr (by kernel_rfl), ?_⟩
    refine K.DW.done (by kernel_rfl) ?_
    refine K.thn_normal ?_
    refine K.KW.seq ?_
    -- 5 :188
    refine K.KW.region ?_
    refine K.RW.qs [.pointer (some ⟨r_1, 3, none⟩), .pointer (some ⟨r_1, 3, none⟩)] (by kernel_rfl) ?_
    refine K.RW.q rfl rfl (K.QR.ld1 (v := .int .i64 a.ok) rfl rfl (by kernel_rfl) ((hS.blk 2 rfl hg_3).cell rfl)) ?_
    refine K.RW.l rfl (K.OW.gcall hS [] [0, 1, 2, 3] [.int .i64 a.ok] (fields_ok _ a.ok) ?_)
    clear hS; rintro _ _ w ⟨rfl, (⟨h_17, rfl⟩ | ⟨h_18, rfl⟩ | ⟨h_19, rfl⟩ | ⟨h_20, rfl⟩)⟩ hS
    ·
      replace hS : K.Sat w0 [g_15, g_5, g_2, fr] w := hS
      refine K.RW.qs [.tuple #[.bool false, .bool true], .bool false, .bool true, .bool false, .bool true] (by kernel_rfl) ?_
      refine K.RW.nil ?_
      refine K.thn_normal ?_
      refine K.KW.seq ?_
      refine K.KW.seq ?_
      -- 6 :189
      refine K.KW.region ?_
      refine K.RW.qs [.bool false] (by kernel_rfl) ?_
      refine K.RW.nil ?_
      refine K.thn_normal ?_
      refine K.KW.ifF rfl ?_
      refine K.KW.skip ?_
      refine K.thn_normal ?_
      refine K.KW.seq ?_
      -- 8 :192
      refine K.KW.region ?_
      refine K.RW.qs [.bool true] (by kernel_rfl) ?_
      refine K.RW.nil ?_
      refine K.thn_normal ?_
      refine K.KW.ifT rfl ?_
      -- 9 :193
      refine K.KW.region ?_
      refine K.RW.qs [.pointer (some ⟨r_1, 3, none⟩), .pointer (some ⟨r_1, 5, none⟩)] (by kernel_rfl) ?_
      refine K.RW.q rfl rfl (K.QR.ld1 (v := .int .u32 a.val) rfl rfl (by kernel_rfl) ((hS.blk 2 rfl hg_3).cell rfl)) ?_
      refine K.RW.qs [.pointer (some ⟨r_7, 3, none⟩), .pointer (some ⟨r_7, 5, none⟩)] (by kernel_rfl) ?_
      refine K.RW.l rfl (K.OW.gst 0 [.int .u32 a.val] [.int .i64 a.k, .int .i64 a.th, .int .i64 0, .int .i64 a.ok, .int .u32 0, .int .u32 a.val] hS hg_16 ?_)
      clear hS; intro w g_21 hg_22 hS
      replace hS : K.Sat w0 [g_21, g_5, g_2, fr] w := hS
      refine K.RW.nil ?_
      refine K.blk_normal ?_
      refine K.thn_normal ?_
      refine K.KW.seq ?_
      -- 14 :200
      refine K.KW.region ?_
      refine K.RW.q rfl rfl (K.QR.ldN [.int .i64 a.k, .int .i64 a.th, .int .i64 0, .int .i64 a.ok, .int .u32 0, .int .u32 a.val] rfl rfl (by kernel_rfl) (by kernel_rfl) (K.cells (K.cl ((hS.blk 0 rfl hg_22).cell rfl) (K.cl ((hS.blk 0 rfl hg_22).cell rfl) (K.cl ((hS.blk 0 rfl hg_22).cell rfl) (K.cl ((hS.blk 0 rfl hg_22).cell rfl) (K.cl ((hS.blk 0 rfl hg_22).cell rfl) (K.cl ((hS.blk 0 rfl hg_22).cell rfl) K.cl0)))))))) ?_
      refine K.RW.l rfl (K.OW.gst 1 [.int .i64 a.k, .int .i64 a.th, .int .i64 0, .int .i64 a.ok, .int .u32 0, .int .u32 a.val] [.int .i64 a.k, .int .i64 a.th, .int .i64 0, .int .i64 a.ok, .int .u32 0, .int .u32 a.val] hS hg_6 ?_)
      clear hS; intro w g_23 hg_24 hS
      replace hS : K.Sat w0 [g_21, g_23, g_2, fr] w := hS
      refine K.RW.nil ?_
      refine K.thn_normal ?_
      refine K.KW.ret ?_
      have hk9 := h_17
      have hk1 : a.k = 1 := by omega
      refine ⟨.inr rfl, rfl, (.agg #[.int .i64 a.k, .int .i64 a.th, .int .i64 0, .int .i64 a.ok, .int .u32 0, .int .u32 a.val]), K.resAt (rs := [.cell 2 57]) [.agg #[.int .i64 a.k, .int .i64 a.th, .int .i64 0, .int .i64 a.ok, .int .u32 0, .int .u32 a.val]] rfl ⟨⟨_, rfl, K.lvN [.int .i64 a.k, .int .i64 a.th, .int .i64 0, .int .i64 a.ok, .int .u32 0, .int .u32 a.val] (by kernel_rfl) (by kernel_rfl) (K.cells (K.cl ((hS.blk 1 rfl hg_24).cell rfl) (K.cl ((hS.blk 1 rfl hg_24).cell rfl) (K.cl ((hS.blk 1 rfl hg_24).cell rfl) (K.cl ((hS.blk 1 rfl hg_24).cell rfl) (K.cl ((hS.blk 1 rfl hg_24).cell rfl) (K.cl ((hS.blk 1 rfl hg_24).cell rfl) K.cl0)))))))⟩, trivial⟩, [], ?_, hS.pick [3]⟩
      exact ⟨rfl, by unfold plainA; rw [if_pos (by omega), if_neg (by omega), if_pos (by omega)]; first | rfl | (simp only [hk1]; rfl)⟩
    ·
      replace hS : K.Sat w0 [g_15, g_5, g_2, fr] w := hS
      refine K.RW.qs [.tuple #[.bool false, .bool false], .bool false, .bool false, .bool false, .bool false] (by kernel_rfl) ?_
      refine K.RW.nil ?_
      refine K.thn_normal ?_
      refine K.KW.seq ?_
      refine K.KW.seq ?_
      -- 6 :189
      refine K.KW.region ?_
      refine K.RW.qs [.bool false] (by kernel_rfl) ?_
      refine K.RW.nil ?_
      refine K.thn_normal ?_
      refine K.KW.ifF rfl ?_
      refine K.KW.skip ?_
      refine K.thn_normal ?_
      refine K.KW.seq ?_
      -- 8 :192
      refine K.KW.region ?_
      refine K.RW.qs [.bool false] (by kernel_rfl) ?_
      refine K.RW.nil ?_
      refine K.thn_normal ?_
      refine K.KW.ifF rfl ?_
      refine K.KW.skip ?_
      refine K.blk_normal ?_
      refine K.thn_normal ?_
      refine K.KW.seq ?_
      -- 14 :200
      refine K.KW.region ?_
      refine K.RW.q rfl rfl (K.QR.ldN [.int .i64 a.k, .int .i64 a.th, .int .i64 0, .int .i64 a.ok, .int .u32 0, .int .u32 0] rfl rfl (by kernel_rfl) (by kernel_rfl) (K.cells (K.cl ((hS.blk 0 rfl hg_16).cell rfl) (K.cl ((hS.blk 0 rfl hg_16).cell rfl) (K.cl ((hS.blk 0 rfl hg_16).cell rfl) (K.cl ((hS.blk 0 rfl hg_16).cell rfl) (K.cl ((hS.blk 0 rfl hg_16).cell rfl) (K.cl ((hS.blk 0 rfl hg_16).cell rfl) K.cl0)))))))) ?_
      refine K.RW.l rfl (K.OW.gst 1 [.int .i64 a.k, .int .i64 a.th, .int .i64 0, .int .i64 a.ok, .int .u32 0, .int .u32 0] [.int .i64 a.k, .int .i64 a.th, .int .i64 0, .int .i64 a.ok, .int .u32 0, .int .u32 0] hS hg_6 ?_)
      clear hS; intro w g_25 hg_26 hS
      replace hS : K.Sat w0 [g_15, g_25, g_2, fr] w := hS
      refine K.RW.nil ?_
      refine K.thn_normal ?_
      refine K.KW.ret ?_
      have hk9 := h_18
      have hk1 : a.k = 1 := by omega
      refine ⟨.inr rfl, rfl, (.agg #[.int .i64 a.k, .int .i64 a.th, .int .i64 0, .int .i64 a.ok, .int .u32 0, .int .u32 0]), K.resAt (rs := [.cell 2 57]) [.agg #[.int .i64 a.k, .int .i64 a.th, .int .i64 0, .int .i64 a.ok, .int .u32 0, .int .u32 0]] rfl ⟨⟨_, rfl, K.lvN [.int .i64 a.k, .int .i64 a.th, .int .i64 0, .int .i64 a.ok, .int .u32 0, .int .u32 0] (by kernel_rfl) (by kernel_rfl) (K.cells (K.cl ((hS.blk 1 rfl hg_26).cell rfl) (K.cl ((hS.blk 1 rfl hg_26).cell rfl) (K.cl ((hS.blk 1 rfl hg_26).cell rfl) (K.cl ((hS.blk 1 rfl hg_26).cell rfl) (K.cl ((hS.blk 1 rfl hg_26).cell rfl) (K.cl ((hS.blk 1 rfl hg_26).cell rfl) K.cl0)))))))⟩, trivial⟩, [], ?_, hS.pick [3]⟩
      exact ⟨rfl, by unfold plainA; rw [if_pos (by omega), if_neg (by omega), if_neg (by omega)]; first | rfl | (simp only [hk1]; rfl)⟩
    ·
      replace hS : K.Sat w0 [g_15, g_5, g_2, fr] w := hS
      refine K.RW.qs [.tuple #[.bool true, .bool true], .bool true, .bool true, .bool true, .bool true] (by kernel_rfl) ?_
      refine K.RW.nil ?_
      refine K.thn_normal ?_
      refine K.KW.seq ?_
      refine K.KW.seq ?_
      -- 6 :189
      refine K.KW.region ?_
      refine K.RW.qs [.bool true] (by kernel_rfl) ?_
      refine K.RW.nil ?_
      refine K.thn_normal ?_
      refine K.KW.ifT rfl ?_
      -- 7 :190
      refine K.KW.region ?_
      refine K.RW.qs [.pointer (some ⟨r_1, 3, none⟩), .pointer (some ⟨r_1, 4, none⟩)] (by kernel_rfl) ?_
      refine K.RW.q rfl rfl (K.QR.ld1 (v := .int .u32 a.key) rfl rfl (by kernel_rfl) ((hS.blk 2 rfl hg_3).cell rfl)) ?_
      refine K.RW.qs [.pointer (some ⟨r_7, 3, none⟩), .pointer (some ⟨r_7, 4, none⟩)] (by kernel_rfl) ?_
      refine K.RW.l rfl (K.OW.gst 0 [.int .u32 a.key] [.int .i64 a.k, .int .i64 a.th, .int .i64 0, .int .i64 a.ok, .int .u32 a.key, .int .u32 0] hS hg_16 ?_)
      clear hS; intro w g_27 hg_28 hS
      replace hS : K.Sat w0 [g_27, g_5, g_2, fr] w := hS
      refine K.RW.nil ?_
      refine K.thn_normal ?_
      refine K.KW.seq ?_
      -- 8 :192
      refine K.KW.region ?_
      refine K.RW.qs [.bool true] (by kernel_rfl) ?_
      refine K.RW.nil ?_
      refine K.thn_normal ?_
      refine K.KW.ifT rfl ?_
      -- 9 :193
      refine K.KW.region ?_
      refine K.RW.qs [.pointer (some ⟨r_1, 3, none⟩), .pointer (some ⟨r_1, 5, none⟩)] (by kernel_rfl) ?_
      refine K.RW.q rfl rfl (K.QR.ld1 (v := .int .u32 a.val) rfl rfl (by kernel_rfl) ((hS.blk 2 rfl hg_3).cell rfl)) ?_
      refine K.RW.qs [.pointer (some ⟨r_7, 3, none⟩), .pointer (some ⟨r_7, 5, none⟩)] (by kernel_rfl) ?_
      refine K.RW.l rfl (K.OW.gst 0 [.int .u32 a.val] [.int .i64 a.k, .int .i64 a.th, .int .i64 0, .int .i64 a.ok, .int .u32 a.key, .int .u32 a.val] hS hg_28 ?_)
      clear hS; intro w g_29 hg_30 hS
      replace hS : K.Sat w0 [g_29, g_5, g_2, fr] w := hS
      refine K.RW.nil ?_
      refine K.blk_normal ?_
      refine K.thn_normal ?_
      refine K.KW.seq ?_
      -- 14 :200
      refine K.KW.region ?_
      refine K.RW.q rfl rfl (K.QR.ldN [.int .i64 a.k, .int .i64 a.th, .int .i64 0, .int .i64 a.ok, .int .u32 a.key, .int .u32 a.val] rfl rfl (by kernel_rfl) (by kernel_rfl) (K.cells (K.cl ((hS.blk 0 rfl hg_30).cell rfl) (K.cl ((hS.blk 0 rfl hg_30).cell rfl) (K.cl ((hS.blk 0 rfl hg_30).cell rfl) (K.cl ((hS.blk 0 rfl hg_30).cell rfl) (K.cl ((hS.blk 0 rfl hg_30).cell rfl) (K.cl ((hS.blk 0 rfl hg_30).cell rfl) K.cl0)))))))) ?_
      refine K.RW.l rfl (K.OW.gst 1 [.int .i64 a.k, .int .i64 a.th, .int .i64 0, .int .i64 a.ok, .int .u32 a.key, .int .u32 a.val] [.int .i64 a.k, .int .i64 a.th, .int .i64 0, .int .i64 a.ok, .int .u32 a.key, .int .u32 a.val] hS hg_6 ?_)
      clear hS; intro w g_31 hg_32 hS
      replace hS : K.Sat w0 [g_29, g_31, g_2, fr] w := hS
      refine K.RW.nil ?_
      refine K.thn_normal ?_
      refine K.KW.ret ?_
      have hk9 := h_19
      have hk1 : a.k = 1 := by omega
      refine ⟨.inr rfl, rfl, (.agg #[.int .i64 a.k, .int .i64 a.th, .int .i64 0, .int .i64 a.ok, .int .u32 a.key, .int .u32 a.val]), K.resAt (rs := [.cell 2 57]) [.agg #[.int .i64 a.k, .int .i64 a.th, .int .i64 0, .int .i64 a.ok, .int .u32 a.key, .int .u32 a.val]] rfl ⟨⟨_, rfl, K.lvN [.int .i64 a.k, .int .i64 a.th, .int .i64 0, .int .i64 a.ok, .int .u32 a.key, .int .u32 a.val] (by kernel_rfl) (by kernel_rfl) (K.cells (K.cl ((hS.blk 1 rfl hg_32).cell rfl) (K.cl ((hS.blk 1 rfl hg_32).cell rfl) (K.cl ((hS.blk 1 rfl hg_32).cell rfl) (K.cl ((hS.blk 1 rfl hg_32).cell rfl) (K.cl ((hS.blk 1 rfl hg_32).cell rfl) (K.cl ((hS.blk 1 rfl hg_32).cell rfl) K.cl0)))))))⟩, trivial⟩, [], ?_, hS.pick [3]⟩
      exact ⟨rfl, by unfold plainA; rw [if_pos (by omega), if_pos (by omega), if_pos (by omega)]; first | rfl | (simp only [hk1]; rfl)⟩
    ·
      replace hS : K.Sat w0 [g_15, g_5, g_2, fr] w := hS
      refine K.RW.qs [.tuple #[.bool true, .bool false], .bool true, .bool false, .bool true, .bool false] (by kernel_rfl) ?_
      refine K.RW.nil ?_
      refine K.thn_normal ?_
      refine K.KW.seq ?_
      refine K.KW.seq ?_
      -- 6 :189
      refine K.KW.region ?_
      refine K.RW.qs [.bool true] (by kernel_rfl) ?_
      refine K.RW.nil ?_
      refine K.thn_normal ?_
      refine K.KW.ifT rfl ?_
      -- 7 :190
      refine K.KW.region ?_
      refine K.RW.qs [.pointer (some ⟨r_1, 3, none⟩), .pointer (some ⟨r_1, 4, none⟩)] (by kernel_rfl) ?_
      refine K.RW.q rfl rfl (K.QR.ld1 (v := .int .u32 a.key) rfl rfl (by kernel_rfl) ((hS.blk 2 rfl hg_3).cell rfl)) ?_
      refine K.RW.qs [.pointer (some ⟨r_7, 3, none⟩), .pointer (some ⟨r_7, 4, none⟩)] (by kernel_rfl) ?_
      refine K.RW.l rfl (K.OW.gst 0 [.int .u32 a.key] [.int .i64 a.k, .int .i64 a.th, .int .i64 0, .int .i64 a.ok, .int .u32 a.key, .int .u32 0] hS hg_16 ?_)
      clear hS; intro w g_33 hg_34 hS
      replace hS : K.Sat w0 [g_33, g_5, g_2, fr] w := hS
      refine K.RW.nil ?_
      refine K.thn_normal ?_
      refine K.KW.seq ?_
      -- 8 :192
      refine K.KW.region ?_
      refine K.RW.qs [.bool false] (by kernel_rfl) ?_
      refine K.RW.nil ?_
      refine K.thn_normal ?_
      refine K.KW.ifF rfl ?_
      refine K.KW.skip ?_
      refine K.blk_normal ?_
      refine K.thn_normal ?_
      refine K.KW.seq ?_
      -- 14 :200
      refine K.KW.region ?_
      refine K.RW.q rfl rfl (K.QR.ldN [.int .i64 a.k, .int .i64 a.th, .int .i64 0, .int .i64 a.ok, .int .u32 a.key, .int .u32 0] rfl rfl (by kernel_rfl) (by kernel_rfl) (K.cells (K.cl ((hS.blk 0 rfl hg_34).cell rfl) (K.cl ((hS.blk 0 rfl hg_34).cell rfl) (K.cl ((hS.blk 0 rfl hg_34).cell rfl) (K.cl ((hS.blk 0 rfl hg_34).cell rfl) (K.cl ((hS.blk 0 rfl hg_34).cell rfl) (K.cl ((hS.blk 0 rfl hg_34).cell rfl) K.cl0)))))))) ?_
      refine K.RW.l rfl (K.OW.gst 1 [.int .i64 a.k, .int .i64 a.th, .int .i64 0, .int .i64 a.ok, .int .u32 a.key, .int .u32 0] [.int .i64 a.k, .int .i64 a.th, .int .i64 0, .int .i64 a.ok, .int .u32 a.key, .int .u32 0] hS hg_6 ?_)
      clear hS; intro w g_35 hg_36 hS
      replace hS : K.Sat w0 [g_33, g_35, g_2, fr] w := hS
      refine K.RW.nil ?_
      refine K.thn_normal ?_
      refine K.KW.ret ?_
      have hk9 := h_20
      have hk1 : a.k = 1 := by omega
      refine ⟨.inr rfl, rfl, (.agg #[.int .i64 a.k, .int .i64 a.th, .int .i64 0, .int .i64 a.ok, .int .u32 a.key, .int .u32 0]), K.resAt (rs := [.cell 2 57]) [.agg #[.int .i64 a.k, .int .i64 a.th, .int .i64 0, .int .i64 a.ok, .int .u32 a.key, .int .u32 0]] rfl ⟨⟨_, rfl, K.lvN [.int .i64 a.k, .int .i64 a.th, .int .i64 0, .int .i64 a.ok, .int .u32 a.key, .int .u32 0] (by kernel_rfl) (by kernel_rfl) (K.cells (K.cl ((hS.blk 1 rfl hg_36).cell rfl) (K.cl ((hS.blk 1 rfl hg_36).cell rfl) (K.cl ((hS.blk 1 rfl hg_36).cell rfl) (K.cl ((hS.blk 1 rfl hg_36).cell rfl) (K.cl ((hS.blk 1 rfl hg_36).cell rfl) (K.cl ((hS.blk 1 rfl hg_36).cell rfl) K.cl0)))))))⟩, trivial⟩, [], ?_, hS.pick [3]⟩
      exact ⟨rfl, by unfold plainA; rw [if_pos (by omega), if_pos (by omega), if_neg (by omega)]; first | rfl | (simp only [hk1]; rfl)⟩
  ·  -- no
    refine K.RW.q rfl rfl (K.QR.nice (v := .bool ((a.k : Int) == (1 : Int))) (by kernel_rfl) (congrArg Value.bool (beq_eq_false_iff_ne.2 h_12))) ?_
    refine K.RW.qs [.bool false] (by kernel_rfl) ?_
    refine K.RW.nil ?_
    refine K.thn_normal ?_
    refine K.KW.ifF rfl ?_
    refine K.KW.seq ?_
    -- 10 :195
    refine K.KW.region ?_
    by_cases h_37 : (a.k : Int) = (2 : Int)
    ·  -- yes
      refine K.RW.q rfl rfl (K.QR.nice (v := .bool ((a.k : Int) == (2 : Int))) (by kernel_rfl) (congrArg Value.bool (beq_iff_eq.2 h_37))) ?_
      refine K.RW.qs [.bool true] (by kernel_rfl) ?_
      refine K.RW.nil ?_
      refine K.thn_normal ?_
      refine K.KW.ifT rfl ?_
      -- 11 :196
      refine K.KW.region ?_
      refine K.RW.qs [.pointer (some ⟨r_1, 1, none⟩)] (by kernel_rfl) ?_
      refine K.RW.q rfl rfl (K.QR.ld1 (v := .int .i64 a.th) rfl rfl (by kernel_rfl) ((hS.blk 2 rfl hg_3).cell rfl)) ?_
      refine K.RW.qs [.pointer (some ⟨r_7, 1, none⟩)] (by kernel_rfl) ?_
      refine K.RW.l rfl (K.OW.gst 0 [.int .i64 a.th] [.int .i64 a.k, .int .i64 a.th, .int .i64 0, .int .i64 0, .int .u32 0, .int .u32 0] hS hg_11 ?_)
      clear hS; intro w g_38 hg_39 hS
      replace hS : K.Sat w0 [g_38, g_5, g_2, fr] w := hS
      refine K.RW.nil ?_
      refine K.blk_normal ?_
      refine K.thn_normal ?_
      refine K.KW.seq ?_
      -- 14 :200
      refine K.KW.region ?_
      refine K.RW.q rfl rfl (K.QR.ldN [.int .i64 a.k, .int .i64 a.th, .int .i64 0, .int .i64 0, .int .u32 0, .int .u32 0] rfl rfl (by kernel_rfl) (by kernel_rfl) (K.cells (K.cl ((hS.blk 0 rfl hg_39).cell rfl) (K.cl ((hS.blk 0 rfl hg_39).cell rfl) (K.cl ((hS.blk 0 rfl hg_39).cell rfl) (K.cl ((hS.blk 0 rfl hg_39).cell rfl) (K.cl ((hS.blk 0 rfl hg_39).cell rfl) (K.cl ((hS.blk 0 rfl hg_39).cell rfl) K.cl0)))))))) ?_
      refine K.RW.l rfl (K.OW.gst 1 [.int .i64 a.k, .int .i64 a.th, .int .i64 0, .int .i64 0, .int .u32 0, .int .u32 0] [.int .i64 a.k, .int .i64 a.th, .int .i64 0, .int .i64 0, .int .u32 0, .int .u32 0] hS hg_6 ?_)
      clear hS; intro w g_40 hg_41 hS
      replace hS : K.Sat w0 [g_38, g_40, g_2, fr] w := hS
      refine K.RW.nil ?_
      refine K.thn_normal ?_
      refine K.KW.ret ?_
      have hk1 : a.k = 2 := by omega
      refine ⟨.inr rfl, rfl, (.agg #[.int .i64 a.k, .int .i64 a.th, .int .i64 0, .int .i64 0, .int .u32 0, .int .u32 0]), K.resAt (rs := [.cell 2 57]) [.agg #[.int .i64 a.k, .int .i64 a.th, .int .i64 0, .int .i64 0, .int .u32 0, .int .u32 0]] rfl ⟨⟨_, rfl, K.lvN [.int .i64 a.k, .int .i64 a.th, .int .i64 0, .int .i64 0, .int .u32 0, .int .u32 0] (by kernel_rfl) (by kernel_rfl) (K.cells (K.cl ((hS.blk 1 rfl hg_41).cell rfl) (K.cl ((hS.blk 1 rfl hg_41).cell rfl) (K.cl ((hS.blk 1 rfl hg_41).cell rfl) (K.cl ((hS.blk 1 rfl hg_41).cell rfl) (K.cl ((hS.blk 1 rfl hg_41).cell rfl) (K.cl ((hS.blk 1 rfl hg_41).cell rfl) K.cl0)))))))⟩, trivial⟩, [], ?_, hS.pick [3]⟩
      exact ⟨rfl, by unfold plainA; rw [if_neg (by omega), if_pos (by omega)]; first | rfl | (simp only [hk1]; rfl)⟩
    ·  -- no
      refine K.RW.q rfl rfl (K.QR.nice (v := .bool ((a.k : Int) == (2 : Int))) (by kernel_rfl) (congrArg Value.bool (beq_eq_false_iff_ne.2 h_37))) ?_
      refine K.RW.qs [.bool false] (by kernel_rfl) ?_
      refine K.RW.nil ?_
      refine K.thn_normal ?_
      refine K.KW.ifF rfl ?_
      refine K.KW.seq ?_
      -- 12 :197
      refine K.KW.region ?_
      by_cases h_42 : (a.k : Int) = (3 : Int)
      ·  -- yes
        refine K.RW.q rfl rfl (K.QR.nice (v := .bool ((a.k : Int) == (3 : Int))) (by kernel_rfl) (congrArg Value.bool (beq_iff_eq.2 h_42))) ?_
        refine K.RW.qs [.bool true] (by kernel_rfl) ?_
        refine K.RW.nil ?_
        refine K.thn_normal ?_
        refine K.KW.ifT rfl ?_
        -- 13 :198
        refine K.KW.region ?_
        refine K.RW.qs [.pointer (some ⟨r_1, 2, none⟩)] (by kernel_rfl) ?_
        refine K.RW.q rfl rfl (K.QR.ld1 (v := .int .i64 a.ln) rfl rfl (by kernel_rfl) ((hS.blk 2 rfl hg_3).cell rfl)) ?_
        refine K.RW.qs [.pointer (some ⟨r_7, 2, none⟩)] (by kernel_rfl) ?_
        refine K.RW.l rfl (K.OW.gst 0 [.int .i64 a.ln] [.int .i64 a.k, .int .i64 0, .int .i64 a.ln, .int .i64 0, .int .u32 0, .int .u32 0] hS hg_11 ?_)
        clear hS; intro w g_43 hg_44 hS
        replace hS : K.Sat w0 [g_43, g_5, g_2, fr] w := hS
        refine K.RW.nil ?_
        refine K.blk_normal ?_
        refine K.thn_normal ?_
        refine K.KW.seq ?_
        -- 14 :200
        refine K.KW.region ?_
        refine K.RW.q rfl rfl (K.QR.ldN [.int .i64 a.k, .int .i64 0, .int .i64 a.ln, .int .i64 0, .int .u32 0, .int .u32 0] rfl rfl (by kernel_rfl) (by kernel_rfl) (K.cells (K.cl ((hS.blk 0 rfl hg_44).cell rfl) (K.cl ((hS.blk 0 rfl hg_44).cell rfl) (K.cl ((hS.blk 0 rfl hg_44).cell rfl) (K.cl ((hS.blk 0 rfl hg_44).cell rfl) (K.cl ((hS.blk 0 rfl hg_44).cell rfl) (K.cl ((hS.blk 0 rfl hg_44).cell rfl) K.cl0)))))))) ?_
        refine K.RW.l rfl (K.OW.gst 1 [.int .i64 a.k, .int .i64 0, .int .i64 a.ln, .int .i64 0, .int .u32 0, .int .u32 0] [.int .i64 a.k, .int .i64 0, .int .i64 a.ln, .int .i64 0, .int .u32 0, .int .u32 0] hS hg_6 ?_)
        clear hS; intro w g_45 hg_46 hS
        replace hS : K.Sat w0 [g_43, g_45, g_2, fr] w := hS
        refine K.RW.nil ?_
        refine K.thn_normal ?_
        refine K.KW.ret ?_
        have hk1 : a.k = 3 := by omega
        refine ⟨.inr rfl, rfl, (.agg #[.int .i64 a.k, .int .i64 0, .int .i64 a.ln, .int .i64 0, .int .u32 0, .int .u32 0]), K.resAt (rs := [.cell 2 57]) [.agg #[.int .i64 a.k, .int .i64 0, .int .i64 a.ln, .int .i64 0, .int .u32 0, .int .u32 0]] rfl ⟨⟨_, rfl, K.lvN [.int .i64 a.k, .int .i64 0, .int .i64 a.ln, .int .i64 0, .int .u32 0, .int .u32 0] (by kernel_rfl) (by kernel_rfl) (K.cells (K.cl ((hS.blk 1 rfl hg_46).cell rfl) (K.cl ((hS.blk 1 rfl hg_46).cell rfl) (K.cl ((hS.blk 1 rfl hg_46).cell rfl) (K.cl ((hS.blk 1 rfl hg_46).cell rfl) (K.cl ((hS.blk 1 rfl hg_46).cell rfl) (K.cl ((hS.blk 1 rfl hg_46).cell rfl) K.cl0)))))))⟩, trivial⟩, [], ?_, hS.pick [3]⟩
        exact ⟨rfl, by unfold plainA; rw [if_neg (by omega), if_neg (by omega), if_pos (by omega)]; first | rfl | (simp only [hk1]; rfl)⟩
      ·  -- no
        refine K.RW.q rfl rfl (K.QR.nice (v := .bool ((a.k : Int) == (3 : Int))) (by kernel_rfl) (congrArg Value.bool (beq_eq_false_iff_ne.2 h_42))) ?_
        refine K.RW.qs [.bool false] (by kernel_rfl) ?_
        refine K.RW.nil ?_
        refine K.thn_normal ?_
        refine K.KW.ifF rfl ?_
        refine K.KW.skip ?_
        refine K.blk_normal ?_
        refine K.thn_normal ?_
        refine K.KW.seq ?_
        -- 14 :200
        refine K.KW.region ?_
        refine K.RW.q rfl rfl (K.QR.ldN [.int .i64 a.k, .int .i64 0, .int .i64 0, .int .i64 0, .int .u32 0, .int .u32 0] rfl rfl (by kernel_rfl) (by kernel_rfl) (K.cells (K.cl ((hS.blk 0 rfl hg_11).cell rfl) (K.cl ((hS.blk 0 rfl hg_11).cell rfl) (K.cl ((hS.blk 0 rfl hg_11).cell rfl) (K.cl ((hS.blk 0 rfl hg_11).cell rfl) (K.cl ((hS.blk 0 rfl hg_11).cell rfl) (K.cl ((hS.blk 0 rfl hg_11).cell rfl) K.cl0)))))))) ?_
        refine K.RW.l rfl (K.OW.gst 1 [.int .i64 a.k, .int .i64 0, .int .i64 0, .int .i64 0, .int .u32 0, .int .u32 0] [.int .i64 a.k, .int .i64 0, .int .i64 0, .int .i64 0, .int .u32 0, .int .u32 0] hS hg_6 ?_)
        clear hS; intro w g_47 hg_48 hS
        replace hS : K.Sat w0 [g_10, g_47, g_2, fr] w := hS
        refine K.RW.nil ?_
        refine K.thn_normal ?_
        refine K.KW.ret ?_
        refine ⟨.inr rfl, rfl, (.agg #[.int .i64 a.k, .int .i64 0, .int .i64 0, .int .i64 0, .int .u32 0, .int .u32 0]), K.resAt (rs := [.cell 2 57]) [.agg #[.int .i64 a.k, .int .i64 0, .int .i64 0, .int .i64 0, .int .u32 0, .int .u32 0]] rfl ⟨⟨_, rfl, K.lvN [.int .i64 a.k, .int .i64 0, .int .i64 0, .int .i64 0, .int .u32 0, .int .u32 0] (by kernel_rfl) (by kernel_rfl) (K.cells (K.cl ((hS.blk 1 rfl hg_48).cell rfl) (K.cl ((hS.blk 1 rfl hg_48).cell rfl) (K.cl ((hS.blk 1 rfl hg_48).cell rfl) (K.cl ((hS.blk 1 rfl hg_48).cell rfl) (K.cl ((hS.blk 1 rfl hg_48).cell rfl) (K.cl ((hS.blk 1 rfl hg_48).cell rfl) K.cl0)))))))⟩, trivial⟩, [], ?_, hS.pick [3]⟩
        exact ⟨rfl, by unfold plainA; rw [if_neg (by omega), if_neg (by omega), if_neg (by omega)]; first | rfl | (rfl)⟩
set_option maxHeartbeats 4000000 in
set_option maxRecDepth 100000 in
theorem sright_ok (w0 : World) (a : ActM) :
    K.GC Tryd.prog w0 23 #[.agg #[.int .i64 a.k, .int .i64 a.th, .int .i64 a.ln, .int .i64 a.ok, .int .u32 a.key, .int .u32 a.val]] [] (fun v post => post = [] ∧ ((rightO a ∧ v = .bool true) ∨ (¬ (rightO a) ∧ v = .bool false))) := by
  refine K.GC.mk (n := 50) Tryd.func23 rfl rfl [.agg #[.int .i64 a.k, .int .i64 a.th, .int .i64 a.ln, .int .i64 a.ok, .int .u32 a.key, .int .u32 a.val]] rfl rfl ?_
  intro fr w hS
  replace hS : K.Sat w0 [fr] w := hS
  refine K.KW.seq ?_
  -- 0 :204
  refine K.KW.region ?_
  refine K.RW.l rfl (K.OW.gnew 57 [.int .i64 a.k, .int .i64 a.th, .int .i64 a.ln, .int .i64 a.ok, .int .u32 a.key, .int .u32 a.val] hS ?_)
  clear hS; intro w r_1 g_2 hg_3 hS
  refine K.RW.qs [.bool false] (by kernel_rfl) ?_
  refine K.RW.nil ?_
  refine K.thn_normal ?_
  refine K.KW.seq ?_
  -- 1 :205
  refine K.KW.region ?_
  refine K.RW.qs [.pointer (some ⟨r_1, 0, none⟩)] (by kernel_rfl) ?_
  refine K.RW.q rfl rfl (K.QR.ld1 (v := .int .i64 a.k) rfl rfl (by kernel_rfl) ((hS.blk 0 rfl hg_3).cell rfl)) ?_
  by_cases h_4 : (a.k : Int) ≥ (1 : Int)
  ·  -- yes
    refine K.RW.q rfl rfl (K.QR.nice (v := .bool (decide ((a.k : Int) ≥ (1 : Int)))) (by kernel_rfl) (congrArg Value.bool (decide_eq_true h_4))) ?_
    refine K.RW.qs [.bool true, .pointer (some ⟨r_1, 0, none⟩)] (by kernel_rfl) ?_
    refine K.RW.q rfl (by kernel_rfl) (K.QR.ld1 (v := .int .i64 a.k) rfl rfl (by kernel_rfl) ((hS.blk 0 rfl hg_3).cell rfl)) ?_
    by_cases h_5 : (a.k : Int) ≤ (5 : Int)
    ·  -- yes
      refine K.RW.q rfl (by kernel_rfl) (K.QR.nice (v := .bool (decide ((a.k : Int) ≤ (5 : Int)))) (by kernel_rfl) (congrArg Value.bool (decide_eq_true h_5))) ?_
      refine K.RW.qs [.bool true, .bool true, .pointer (some ⟨r_1, 0, none⟩)] (by kernel_rfl) ?_
      refine K.RW.q rfl (by kernel_rfl) (K.QR.ld1 (v := .int .i64 a.k) rfl rfl (by kernel_rfl) ((hS.blk 0 rfl hg_3).cell rfl)) ?_
      by_cases h_6 : (a.k : Int) = (1 : Int)
      ·  -- yes
        refine K.RW.q rfl (by kernel_rfl) (K.QR.nice (v := .bool ((a.k : Int) != (1 : Int))) (by kernel_rfl) (congrArg Value.bool (bne_eq_false_iff_eq.2 h_6))) ?_
        refine K.RW.qs [.bool false, .pointer (some ⟨r_1, 3, none⟩), .pointer (some ⟨r_1, 3, none⟩)] (by kernel_rfl) ?_
        refine K.RW.q rfl (by kernel_rfl) (K.QR.ld1 (v := .int .i64 a.ok) rfl rfl (by kernel_rfl) ((hS.blk 0 rfl hg_3).cell rfl)) ?_
        refine K.RW.l (by kernel_rfl) (K.OW.gcall hS [] [0, 1] [.int .i64 a.ok] (kind_ok _ a.ok) ?_)
        clear hS; rintro _ _ w ⟨rfl, (⟨h_7, rfl⟩ | ⟨h_8, rfl⟩)⟩ hS
        ·
          replace hS : K.Sat w0 [g_2, fr] w := hS
          refine K.RW.qs [.bool true, .bool true, .bool true] (by kernel_rfl) ?_
          refine K.RW.nil ?_
          refine K.thn_normal ?_
          refine K.KW.seq ?_
          -- 2 :206
          refine K.KW.gdrawn [0] hS (by kernel_rfl) ?_
          clear hS; intro w hS
          refine K.DW.l 0 rfl (by kernel_rfl) rfl (K.OW.q rfl (K.QR.k (v := .bool true) (by kernel_rfl)) ?_)
          refine ⟨.inl (hS.pick [0]), ?_⟩
          refine K.DW.l 1 rfl (by kernel_rfl) rfl (K.OW.q rfl (K.QR.k (v := .bool true) (by kernel_rfl)) ?_)
          refine ⟨.inl (hS.pick [0]), ?_⟩
          refine K.DW.q 2 (by kernel_rfl) rfl rfl (by kernel_rfl) (by kernel_rfl) (fun w hS => K.QR.ldN [.int .i64 a.k, .int .i64 a.th, .int .i64 a.ln, .int .i64 a.ok, .int .u32 a.key, .int .u32 a.val] rfl rfl (by kernel_rfl) (by kernel_rfl) (K.cells (K.cl ((hS.blk 0 rfl hg_3).cell rfl) (K.cl ((hS.blk 0 rfl hg_3).cell rfl) (K.cl ((hS.blk 0 rfl hg_3).cell rfl) (K.cl ((hS.blk 0 rfl hg_3).cell rfl) (K.cl ((hS.blk 0 rfl hg_3).cell rfl) (K.cl ((hS.blk 0 rfl hg_3).cell rfl) K.cl0)))))))) (hS.pick [0]) ?_
          refine K.DW.q 4 (by kernel_rfl) rfl rfl (by kernel_rfl) (by kernel_rfl) (fun w hS => K.QR.ldN [.int .i64 a.k, .int .i64 a.th, .int .i64 a.ln, .int .i64 a.ok, .int .u32 a.key, .int .u32 a.val] rfl rfl (by kernel_rfl) (by kernel_rfl) (K.cells (K.cl ((hS.blk 0 rfl hg_3).cell rfl) (K.cl ((hS.blk 0 rfl hg_3).cell rfl) (K.cl ((hS.blk 0 rfl hg_3).cell rfl) (K.cl ((hS.blk 0 rfl hg_3).cell rfl) (K.cl ((hS.blk 0 rfl hg_3).cell rfl) (K.cl ((hS.blk 0 rfl hg_3).cell rfl) K.cl0)))))))) (hS.pick [0]) ?_
          refine K.DW.l 3 rfl (by kernel_rfl) (by kernel_rfl) (K.OW.gcall hS [] [0, 1] [.agg #[.int .i64 a.k, .int .i64 a.th, .int .i64 a.ln, .int .i64 a.ok, .int .u32 a.key, .int .u32 a.val]] (plain_ok _ a) ?_)
          clear hS; rintro _ _ w ⟨rfl, rfl⟩ hS
          replace hS : K.Sat w0 [g_2, fr] w := hS
          refine ⟨.inl (hS.pick [0]), ?_⟩
          by_cases h_9 : ((plainA a).k : Int) = a.k ∧ ((plainA a).th : Int) = a.th ∧ ((plainA a).ln : Int) = a.ln ∧ ((plainA a).ok : Int) = a.ok ∧ ((plainA a).key : Int) = a.key ∧ ((plainA a).val : Int) = a.val
          ·  -- yes
            refine K.DW.l 5 rfl (by kernel_rfl) (by kernel_rfl) (K.OW.q rfl (K.QR.eqS (by kernel_rfl) rfl rfl rfl (eqAct_t h_9)) ?_)
            refine ⟨.inl (hS.pick [0]), ?_⟩
            refine K.DW.l 6 rfl (by kernel_rfl) rfl (K.OW.q rfl (K.QR.k (v := .bool true) (by kernel_rfl)) ?_)
            refine ⟨.inl (hS.pick [0]), ?_⟩
            refine K.DW.l 7 rfl (by kernel_rfl) rfl (K.OW.q rfl (K.QR.k (v := .bool true) (by kernel_rfl)) ?_)
            refine ⟨.inl (hS.pick [0]), ?_⟩
            refine K.DW.l 8 rfl (by kernel_rfl) (by kernel_rfl) (K.OW.q rfl (K.QR.k (v := .pointer (some ⟨r_1, 1, none⟩)) (by kernel_rfl)) ?_)
            refine ⟨.inl (hS.pick [0]), ?_⟩
            refine K.DW.l 9 rfl (by kernel_rfl) (by kernel_rfl) (K.OW.q rfl (K.QR.ld1 (v := .int .i64 a.th) rfl rfl (by kernel_rfl) ((hS.blk 0 rfl hg_3).cell rfl)) ?_)
            refine ⟨.inl (hS.pick [0]), ?_⟩
            by_cases h_10 : (a.th : Int) ≥ (0 : Int)
            ·  -- yes
              refine K.DW.l 10 rfl (by kernel_rfl) (by kernel_rfl) (K.OW.q rfl (K.QR.nice (v := .bool (decide ((a.th : Int) ≥ (0 : Int)))) (by kernel_rfl) (congrArg Value.bool (decide_eq_true h_10))) ?_)
              refine ⟨.inl (hS.pick [0]), ?_⟩
              refine K.DW.l 11 rfl (by kernel_rfl) rfl (K.OW.q rfl (K.QR.k (v := .bool true) (by kernel_rfl)) ?_)
              refine ⟨.inl (hS.pick [0]), ?_⟩
              refine K.DW.l 12 rfl (by kernel_rfl) rfl (K.OW.q rfl (K.QR.k (v := .bool true) (by kernel_rfl)) ?_)
              refine ⟨.inl (hS.pick [0]), ?_⟩
              refine K.DW.l 13 rfl (by kernel_rfl) (by kernel_rfl) (K.OW.q rfl (K.QR.k (v := .pointer (some ⟨r_1, 1, none⟩)) (by kernel_rfl)) ?_)
              refine ⟨.inl (hS.pick [0]), ?_⟩
              refine K.DW.l 14 rfl (by kernel_rfl) (by kernel_rfl) (K.OW.q rfl (K.QR.ld1 (v := .int .i64 a.th) rfl rfl (by kernel_rfl) ((hS.blk 0 rfl hg_3).cell rfl)) ?_)
              refine ⟨.inl (hS.pick [0]), ?_⟩
              by_cases h_11 : (a.th : Int) ≤ (63 : Int)
              ·  -- yes
                refine K.DW.l 15 rfl (by kernel_rfl) (by kernel_rfl) (K.OW.q rfl (K.QR.nice (v := .bool (decide ((a.th : Int) ≤ (63 : Int)))) (by kernel_rfl) (congrArg Value.bool (decide_eq_true h_11))) ?_)
                refine ⟨.inl (hS.pick [0]), ?_⟩
                refine K.DW.l 16 rfl (by kernel_rfl) rfl (K.OW.q rfl (K.QR.k (v := .bool true) (by kernel_rfl)) ?_)
                refine ⟨.inl (hS.pick [0]), ?_⟩
                refine K.DW.l 17 rfl (by kernel_rfl) rfl (K.OW.q rfl (K.QR.k (v := .bool true) (by kernel_rfl)) ?_)
                refine ⟨.inl (hS.pick [0]), ?_⟩
                refine K.DW.l 18 rfl (by kernel_rfl) (by kernel_rfl) (K.OW.q rfl (K.QR.k (v := .pointer (some ⟨r_1, 2, none⟩)) (by kernel_rfl)) ?_)
                refine ⟨.inl (hS.pick [0]), ?_⟩
                refine K.DW.l 19 rfl (by kernel_rfl) (by kernel_rfl) (K.OW.q rfl (K.QR.ld1 (v := .int .i64 a.ln) rfl rfl (by kernel_rfl) ((hS.blk 0 rfl hg_3).cell rfl)) ?_)
                refine ⟨.inl (hS.pick [0]), ?_⟩
                by_cases h_12 : (a.ln : Int) ≥ (0 : Int)
                ·  -- yes
                  refine K.DW.l 20 rfl (by kernel_rfl) (by kernel_rfl) (K.OW.q rfl (K.QR.nice (v := .bool (decide ((a.ln : Int) ≥ (0 : Int)))) (by kernel_rfl) (congrArg Value.bool (decide_eq_true h_12))) ?_)
                  refine ⟨.inl (hS.pick [0]), ?_⟩
                  refine K.DW.l 21 rfl (by kernel_rfl) rfl (K.OW.q rfl (K.QR.k (v := .bool true) (by kernel_rfl)) ?_)
                  refine ⟨.inl (hS.pick [0]), ?_⟩
                  refine K.DW.l 22 rfl (by kernel_rfl) rfl (K.OW.q rfl (K.QR.k (v := .bool true) (by kernel_rfl)) ?_)
                  refine ⟨.inl (hS.pick [0]), ?_⟩
                  refine K.DW.l 23 rfl (by kernel_rfl) (by kernel_rfl) (K.OW.q rfl (K.QR.k (v := .pointer (some ⟨r_1, 2, none⟩)) (by kernel_rfl)) ?_)
                  refine ⟨.inl (hS.pick [0]), ?_⟩
                  refine K.DW.l 24 rfl (by kernel_rfl) (by kernel_rfl) (K.OW.q rfl (K.QR.ld1 (v := .int .i64 a.ln) rfl rfl (by kernel_rfl) ((hS.blk 0 rfl hg_3).cell rfl)) ?_)
                  refine ⟨.inl (hS.pick [0]), ?_⟩
                  by_cases h_13 : (a.ln : Int) ≤ (262143 : Int)
                  ·  -- yes
                    refine K.DW.l 25 rfl (by kernel_rfl) (by kernel_rfl) (K.OW.q rfl (K.QR.nice (v := .bool (decide ((a.ln : Int) ≤ (262143 : Int)))) (by kernel_rfl) (congrArg Value.bool (decide_eq_true h_13))) ?_)
                    refine ⟨.inl (hS.pick [0]), ?_⟩
                    refine K.DW.l 26 rfl (by kernel_rfl) rfl (K.OW.q rfl (K.QR.k (v := .bool true) (by kernel_rfl)) ?_)
                    refine ⟨.inl (hS.pick [0]), ?_⟩
                    refine K.DW.l 27 rfl (by kernel_rfl) rfl (K.OW.q rfl (K.QR.k (v := .bool true) (by kernel_rfl)) ?_)
                    refine ⟨.inl (hS.pick [0]), ?_⟩
                    refine K.DW.done (by kernel_rfl) ?_
                    refine K.thn_normal ?_
                    refine K.KW.ret ?_
                    refine ⟨.inr rfl, rfl, (.bool true), K.res1 rfl rfl, [], ?_, hS.pick [1]⟩
                    exact ⟨rfl, .inl ⟨rightA_iff.1 ⟨by omega, by omega, by first | assumption | omega, by omega, by omega⟩, rfl⟩⟩
                  ·  -- no
                    refine K.DW.l 25 rfl (by kernel_rfl) (by kernel_rfl) (K.OW.q rfl (K.QR.nice (v := .bool (decide ((a.ln : Int) ≤ (262143 : Int)))) (by kernel_rfl) (congrArg Value.bool (decide_eq_false h_13))) ?_)
                    refine ⟨.inl (hS.pick [0]), ?_⟩
                    refine K.DW.l 26 rfl (by kernel_rfl) rfl (K.OW.q rfl (K.QR.k (v := .bool false) (by kernel_rfl)) ?_)
                    refine ⟨.inl (hS.pick [0]), ?_⟩
                    refine K.DW.l 27 rfl (by kernel_rfl) rfl (K.OW.q rfl (K.QR.k (v := .bool false) (by kernel_rfl)) ?_)
                    refine ⟨.inl (hS.pick [0]), ?_⟩
                    refine K.DW.done (by kernel_rfl) ?_
                    refine K.thn_normal ?_
                    refine K.KW.ret ?_
                    refine ⟨.inr rfl, rfl, (.bool false), K.res1 rfl rfl, [], ?_, hS.pick [1]⟩
                    exact ⟨rfl, .inr ⟨fun hh => by have h9 := rightA_iff.2 hh; first | omega | exact absurd h9.2.2.1 (by assumption), rfl⟩⟩
                ·  -- no
                  refine K.DW.l 20 rfl (by kernel_rfl) (by kernel_rfl) (K.OW.q rfl (K.QR.nice (v := .bool (decide ((a.ln : Int) ≥ (0 : Int)))) (by kernel_rfl) (congrArg Value.bool (decide_eq_false h_12))) ?_)
                  refine ⟨.inl (hS.pick [0]), ?_⟩
                  refine K.DW.l 21 rfl (by kernel_rfl) rfl (K.OW.q rfl (K.QR.k (v := .bool false) (by kernel_rfl)) ?_)
                  refine ⟨.inl (hS.pick [0]), ?_⟩
                  refine K.DW.l 22 rfl (by kernel_rfl) rfl (K.OW.q rfl (K.QR.k (v := .bool false) (by kernel_rfl)) ?_)
                  refine ⟨.inl (hS.pick [0]), ?_⟩
                  refine K.DW.skip 23 (by kernel_rfl) rfl rfl (by kernel_rfl) (by kernel_rfl) (hS.pick [0]) ?_
                  refine K.DW.skip 24 (by kernel_rfl) rfl rfl (by kernel_rfl) (by kernel_rfl) (hS.pick [0]) ?_
                  refine K.DW.skip 25 (by kernel_rfl) rfl rfl (by kernel_rfl) (by kernel_rfl) (hS.pick [0]) ?_
                  refine K.DW.l 26 rfl (by kernel_rfl) rfl (K.OW.q rfl (K.QR.k (v := .bool false) (by kernel_rfl)) ?_)
                  refine ⟨.inl (hS.pick [0]), ?_⟩
                  refine K.DW.l 27 rfl (by kernel_rfl) rfl (K.OW.q rfl (K.QR.k (v := .bool false) (by kernel_rfl)) ?_)
                  refine ⟨.inl (hS.pick [0]), ?_⟩
                  refine K.DW.done (by kernel_rfl) ?_
                  refine K.thn_normal ?_
                  refine K.KW.ret ?_
                  refine ⟨.inr rfl, rfl, (.bool false), K.res1 rfl rfl, [], ?_, hS.pick [1]⟩
                  exact ⟨rfl, .inr ⟨fun hh => by have h9 := rightA_iff.2 hh; first | omega | exact absurd h9.2.2.1 (by assumption), rfl⟩⟩
              ·  -- no
                refine K.DW.l 15 rfl (by kernel_rfl) (by kernel_rfl) (K.OW.q rfl (K.QR.nice (v := .bool (decide ((a.th : Int) ≤ (63 : Int)))) (by kernel_rfl) (congrArg Value.bool (decide_eq_false h_11))) ?_)
                refine ⟨.inl (hS.pick [0]), ?_⟩
                refine K.DW.l 16 rfl (by kernel_rfl) rfl (K.OW.q rfl (K.QR.k (v := .bool false) (by kernel_rfl)) ?_)
                refine ⟨.inl (hS.pick [0]), ?_⟩
                refine K.DW.l 17 rfl (by kernel_rfl) rfl (K.OW.q rfl (K.QR.k (v := .bool false) (by kernel_rfl)) ?_)
                refine ⟨.inl (hS.pick [0]), ?_⟩
                refine K.DW.skip 18 (by kernel_rfl) rfl rfl (by kernel_rfl) (by kernel_rfl) (hS.pick [0]) ?_
                refine K.DW.skip 19 (by kernel_rfl) rfl rfl (by kernel_rfl) (by kernel_rfl) (hS.pick [0]) ?_
                refine K.DW.skip 20 (by kernel_rfl) rfl rfl (by kernel_rfl) (by kernel_rfl) (hS.pick [0]) ?_
                refine K.DW.l 21 rfl (by kernel_rfl) rfl (K.OW.q rfl (K.QR.k (v := .bool false) (by kernel_rfl)) ?_)
                refine ⟨.inl (hS.pick [0]), ?_⟩
                refine K.DW.l 22 rfl (by kernel_rfl) rfl (K.OW.q rfl (K.QR.k (v := .bool false) (by kernel_rfl)) ?_)
                refine ⟨.inl (hS.pick [0]), ?_⟩
                refine K.DW.skip 23 (by kernel_rfl) rfl rfl (by kernel_rfl) (by kernel_rfl) (hS.pick [0]) ?_
                refine K.DW.skip 24 (by kernel_rfl) rfl rfl (by kernel_rfl) (by kernel_rfl) (hS.pick [0]) ?_
                refine K.DW.skip 25 (by kernel_rfl) rfl rfl (by kernel_rfl) (by kernel_rfl) (hS.pick [0]) ?_
                refine K.DW.l 26 rfl (by kernel_rfl) rfl (K.OW.q rfl (K.QR.k (v := .bool false) (by kernel_rfl)) ?_)
                refine ⟨.inl (hS.pick [0]), ?_⟩
                refine K.DW.l 27 rfl (by kernel_rfl) rfl (K.OW.q rfl (K.QR.k (v := .bool false) (by kernel_rfl)) ?_)
                refine ⟨.inl (hS.pick [0]), ?_⟩
                refine K.DW.done (by kernel_rfl) ?_
                refine K.thn_normal ?_
                refine K.KW.ret ?_
                refine ⟨.inr rfl, rfl, (.bool false), K.res1 rfl rfl, [], ?_, hS.pick [1]⟩
                exact ⟨rfl, .inr ⟨fun hh => by have h9 := rightA_iff.2 hh; first | omega | exact absurd h9.2.2.1 (by assumption), rfl⟩⟩
            ·  -- no
              refine K.DW.l 10 rfl (by kernel_rfl) (by kernel_rfl) (K.OW.q rfl (K.QR.nice (v := .bool (decide ((a.th : Int) ≥ (0 : Int)))) (by kernel_rfl) (congrArg Value.bool (decide_eq_false h_10))) ?_)
              refine ⟨.inl (hS.pick [0]), ?_⟩
              refine K.DW.l 11 rfl (by kernel_rfl) rfl (K.OW.q rfl (K.QR.k (v := .bool false) (by kernel_rfl)) ?_)
              refine ⟨.inl (hS.pick [0]), ?_⟩
              refine K.DW.l 12 rfl (by kernel_rfl) rfl (K.OW.q rfl (K.QR.k (v := .bool false) (by kernel_rfl)) ?_)
              refine ⟨.inl (hS.pick [0]), ?_⟩
              refine K.DW.skip 13 (by kernel_rfl) rfl rfl (by kernel_rfl) (by kernel_rfl) (hS.pick [0]) ?_
              refine K.DW.skip 14 (by kernel_rfl) rfl rfl (by kernel_rfl) (by kernel_rfl) (hS.pick [0]) ?_
              refine K.DW.skip 15 (by kernel_rfl) rfl rfl (by kernel_rfl) (by kernel_rfl) (hS.pick [0]) ?_
              refine K.DW.l 16 rfl (by kernel_rfl) rfl (K.OW.q rfl (K.QR.k (v := .bool false) (by kernel_rfl)) ?_)
              refine ⟨.inl (hS.pick [0]), ?_⟩
              refine K.DW.l 17 rfl (by kernel_rfl) rfl (K.OW.q rfl (K.QR.k (v := .bool false) (by kernel_rfl)) ?_)
              refine ⟨.inl (hS.pick [0]), ?_⟩
              refine K.DW.skip 18 (by kernel_rfl) rfl rfl (by kernel_rfl) (by kernel_rfl) (hS.pick [0]) ?_
              refine K.DW.skip 19 (by kernel_rfl) rfl rfl (by kernel_rfl) (by kernel_rfl) (hS.pick [0]) ?_
              refine K.DW.skip 20 (by kernel_rfl) rfl rfl (by kernel_rfl) (by kernel_rfl) (hS.pick [0]) ?_
              refine K.DW.l 21 rfl (by kernel_rfl) rfl (K.OW.q rfl (K.QR.k (v := .bool false) (by kernel_rfl)) ?_)
              refine ⟨.inl (hS.pick [0]), ?_⟩
              refine K.DW.l 22 rfl (by kernel_rfl) rfl (K.OW.q rfl (K.QR.k (v := .bool false) (by kernel_rfl)) ?_)
              refine ⟨.inl (hS.pick [0]), ?_⟩
              refine K.DW.skip 23 (by kernel_rfl) rfl rfl (by kernel_rfl) (by kernel_rfl) (hS.pick [0]) ?_
              refine K.DW.skip 24 (by kernel_rfl) rfl rfl (by kernel_rfl) (by kernel_rfl) (hS.pick [0]) ?_
              refine K.DW.skip 25 (by kernel_rfl) rfl rfl (by kernel_rfl) (by kernel_rfl) (hS.pick [0]) ?_
              refine K.DW.l 26 rfl (by kernel_rfl) rfl (K.OW.q rfl (K.QR.k (v := .bool false) (by kernel_rfl)) ?_)
              refine ⟨.inl (hS.pick [0]), ?_⟩
              refine K.DW.l 27 rfl (by kernel_rfl) rfl (K.OW.q rfl (K.QR.k (v := .bool false) (by kernel_rfl)) ?_)
              refine ⟨.inl (hS.pick [0]), ?_⟩
              refine K.DW.done (by kernel_rfl) ?_
              refine K.thn_normal ?_
              refine K.KW.ret ?_
              refine ⟨.inr rfl, rfl, (.bool false), K.res1 rfl rfl, [], ?_, hS.pick [1]⟩
              exact ⟨rfl, .inr ⟨fun hh => by have h9 := rightA_iff.2 hh; first | omega | exact absurd h9.2.2.1 (by assumption), rfl⟩⟩
          ·  -- no
            refine K.DW.l 5 rfl (by kernel_rfl) (by kernel_rfl) (K.OW.q rfl (K.QR.eqS (by kernel_rfl) rfl rfl rfl (eqAct_f h_9)) ?_)
            refine ⟨.inl (hS.pick [0]), ?_⟩
            refine K.DW.l 6 rfl (by kernel_rfl) rfl (K.OW.q rfl (K.QR.k (v := .bool false) (by kernel_rfl)) ?_)
            refine ⟨.inl (hS.pick [0]), ?_⟩
            refine K.DW.l 7 rfl (by kernel_rfl) rfl (K.OW.q rfl (K.QR.k (v := .bool false) (by kernel_rfl)) ?_)
            refine ⟨.inl (hS.pick [0]), ?_⟩
            refine K.DW.skip 8 (by kernel_rfl) rfl rfl (by kernel_rfl) (by kernel_rfl) (hS.pick [0]) ?_
            refine K.DW.skip 9 (by kernel_rfl) rfl rfl (by kernel_rfl) (by kernel_rfl) (hS.pick [0]) ?_
            refine K.DW.skip 10 (by kernel_rfl) rfl rfl (by kernel_rfl) (by kernel_rfl) (hS.pick [0]) ?_
            refine K.DW.l 11 rfl (by kernel_rfl) rfl (K.OW.q rfl (K.QR.k (v := .bool false) (by kernel_rfl)) ?_)
            refine ⟨.inl (hS.pick [0]), ?_⟩
            refine K.DW.l 12 rfl (by kernel_rfl) rfl (K.OW.q rfl (K.QR.k (v := .bool false) (by kernel_rfl)) ?_)
            refine ⟨.inl (hS.pick [0]), ?_⟩
            refine K.DW.skip 13 (by kernel_rfl) rfl rfl (by kernel_rfl) (by kernel_rfl) (hS.pick [0]) ?_
            refine K.DW.skip 14 (by kernel_rfl) rfl rfl (by kernel_rfl) (by kernel_rfl) (hS.pick [0]) ?_
            refine K.DW.skip 15 (by kernel_rfl) rfl rfl (by kernel_rfl) (by kernel_rfl) (hS.pick [0]) ?_
            refine K.DW.l 16 rfl (by kernel_rfl) rfl (K.OW.q rfl (K.QR.k (v := .bool false) (by kernel_rfl)) ?_)
            refine ⟨.inl (hS.pick [0]), ?_⟩
            refine K.DW.l 17 rfl (by kernel_rfl) rfl (K.OW.q rfl (K.QR.k (v := .bool false) (by kernel_rfl)) ?_)
            refine ⟨.inl (hS.pick [0]), ?_⟩
            refine K.DW.skip 18 (by kernel_rfl) rfl rfl (by kernel_rfl) (by kernel_rfl) (hS.pick [0]) ?_
            refine K.DW.skip 19 (by kernel_rfl) rfl rfl (by kernel_rfl) (by kernel_rfl) (hS.pick [0]) ?_
            refine K.DW.skip 20 (by kernel_rfl) rfl rfl (by kernel_rfl) (by kernel_rfl) (hS.pick [0]) ?_
            refine K.DW.l 21 rfl (by kernel_rfl) rfl (K.OW.q rfl (K.QR.k (v := .bool false) (by kernel_rfl)) ?_)
            refine ⟨.inl (hS.pick [0]), ?_⟩
            refine K.DW.l 22 rfl (by kernel_rfl) rfl (K.OW.q rfl (K.QR.k (v := .bool false) (by kernel_rfl)) ?_)
            refine ⟨.inl (hS.pick [0]), ?_⟩
            refine K.DW.skip 23 (by kernel_rfl) rfl rfl (by kernel_rfl) (by kernel_rfl) (hS.pick [0]) ?_
            refine K.DW.skip 24 (by kernel_rfl) rfl rfl (by kernel_rfl) (by kernel_rfl) (hS.pick [0]) ?_
            refine K.DW.skip 25 (by kernel_rfl) rfl rfl (by kernel_rfl) (by kernel_rfl) (hS.pick [0]) ?_
            refine K.DW.l 26 rfl (by kernel_rfl) rfl (K.OW.q rfl (K.QR.k (v := .bool false) (by kernel_rfl)) ?_)
            refine ⟨.inl (hS.pick [0]), ?_⟩
            refine K.DW.l 27 rfl (by kernel_rfl) rfl (K.OW.q rfl (K.QR.k (v := .bool false) (by kernel_rfl)) ?_)
            refine ⟨.inl (hS.pick [0]), ?_⟩
            refine K.DW.done (by kernel_rfl) ?_
            refine K.thn_normal ?_
            refine K.KW.ret ?_
            refine ⟨.inr rfl, rfl, (.bool false), K.res1 rfl rfl, [], ?_, hS.pick [1]⟩
            exact ⟨rfl, .inr ⟨fun hh => by have h9 := rightA_iff.2 hh; first | omega | exact absurd h9.2.2.1 (by assumption), rfl⟩⟩
        ·
          replace hS : K.Sat w0 [g_2, fr] w := hS
          refine K.RW.qs [.bool false, .bool false, .bool false] (by kernel_rfl) ?_
          refine K.RW.nil ?_
          refine K.thn_normal ?_
          refine K.KW.seq ?_
          -- 2 :206
          refine K.KW.gdrawn [] hS (by kernel_rfl) ?_
          clear hS; intro w hS
          refine K.DW.l 0 rfl (by kernel_rfl) rfl (K.OW.q rfl (K.QR.k (v := .bool false) (by kernel_rfl)) ?_)
          refine ⟨.inl (hS.pick []), ?_⟩
          refine K.DW.l 1 rfl (by kernel_rfl) rfl (K.OW.q rfl (K.QR.k (v := .bool false) (by kernel_rfl)) ?_)
          refine ⟨.inl (hS.pick []), ?_⟩
          refine K.DW.skip 2 (by kernel_rfl) rfl rfl (by kernel_rfl) (by kernel_rfl) (hS.pick []) ?_
          refine K.DW.skip 3 (by kernel_rfl) rfl rfl (by kernel_rfl) (by kernel_rfl) (hS.pick []) ?_
          refine K.DW.skip 4 (by kernel_rfl) rfl rfl (by kernel_rfl) (by kernel_rfl) (hS.pick []) ?_
          refine K.DW.skip 5 (by kernel_rfl) rfl rfl (by kernel_rfl) (by kernel_rfl) (hS.pick []) ?_
          refine K.DW.l 6 rfl (by kernel_rfl) rfl (K.OW.q rfl (K.QR.k (v := .bool false) (by kernel_rfl)) ?_)
          refine ⟨.inl (hS.pick []), ?_⟩
          refine K.DW.l 7 rfl (by kernel_rfl) rfl (K.OW.q rfl (K.QR.k (v := .bool false) (by kernel_rfl)) ?_)
          refine ⟨.inl (hS.pick []), ?_⟩
          refine K.DW.skip 8 (by kernel_rfl) rfl rfl (by kernel_rfl) (by kernel_rfl) (hS.pick []) ?_
          refine K.DW.skip 9 (by kernel_rfl) rfl rfl (by kernel_rfl) (by kernel_rfl) (hS.pick []) ?_
          refine K.DW.skip 10 (by kernel_rfl) rfl rfl (by kernel_rfl) (by kernel_rfl) (hS.pick []) ?_
          refine K.DW.l 11 rfl (by kernel_rfl) rfl (K.OW.q rfl (K.QR.k (v := .bool false) (by kernel_rfl)) ?_)
          refine ⟨.inl (hS.pick []), ?_⟩
          refine K.DW.l 12 rfl (by kernel_rfl) rfl (K.OW.q rfl (K.QR.k (v := .bool false) (by kernel_rfl)) ?_)
          refine ⟨.inl (hS.pick []), ?_⟩
          refine K.DW.skip 13 (by kernel_rfl) rfl rfl (by kernel_rfl) (by kernel_rfl) (hS.pick []) ?_
          refine K.DW.skip 14 (by kernel_rfl) rfl rfl (by kernel_rfl) (by kernel_rfl) (hS.pick []) ?_
          refine K.DW.skip 15 (by kernel_rfl) rfl rfl (by kernel_rfl) (by kernel_rfl) (hS.pick []) ?_
          refine K.DW.l 16 rfl (by kernel_rfl) rfl (K.OW.q rfl (K.QR.k (v := .bool false) (by kernel_rfl)) ?_)
          refine ⟨.inl (hS.pick []), ?_⟩
          refine K.DW.l 17 rfl (by kernel_rfl) rfl (K.OW.q rfl (K.QR.k (v := .bool false) (by kernel_rfl)) ?_)
          refine ⟨.inl (hS.pick []), ?_⟩
          refine K.DW.skip 18 (by kernel_rfl) rfl rfl (by kernel_rfl) (by kernel_rfl) (hS.pick []) ?_
          refine K.DW.skip 19 (by kernel_rfl) rfl rfl (by kernel_rfl) (by kernel_rfl) (hS.pick []) ?_
          refine K.DW.skip 20 (by kernel_rfl) rfl rfl (by kernel_rfl) (by kernel_rfl) (hS.pick []) ?_
          refine K.DW.l 21 rfl (by kernel_rfl) rfl (K.OW.q rfl (K.QR.k (v := .bool false) (by kernel_rfl)) ?_)
          refine ⟨.inl (hS.pick []), ?_⟩
          refine K.DW.l 22 rfl (by kernel_rfl) rfl (K.OW.q rfl (K.QR.k (v := .bool false) (by kernel_rfl)) ?_)
          refine ⟨.inl (hS.pick []), ?_⟩
          refine K.DW.skip 23 (by kernel_rfl) rfl rfl (by kernel_rfl) (by kernel_rfl) (hS.pick []) ?_
          refine K.DW.skip 24 (by kernel_rfl) rfl rfl (by kernel_rfl) (by kernel_rfl) (hS.pick []) ?_
          refine K.DW.skip 25 (by kernel_rfl) rfl rfl (by kernel_rfl) (by kernel_rfl) (hS.pick []) ?_
          refine K.DW.l 26 rfl (by kernel_rfl) rfl (K.OW.q rfl (K.QR.k (v := .bool false) (by kernel_rfl)) ?_)
          refine ⟨.inl (hS.pick []), ?_⟩
          refine K.DW.l 27 rfl (by kernel_rfl) rfl (K.OW.q rfl (K.QR.k (v := .bool false) (by kernel_rfl)) ?_)
          refine ⟨.inl (hS.pick []), ?_⟩
          refine K.DW.done (by kernel_rfl) ?_
          refine K.thn_normal ?_
          refine K.KW.ret ?_
          refine ⟨.inr rfl, rfl, (.bool false), K.res1 rfl rfl, [], ?_, hS.pick [1]⟩
          exact ⟨rfl, .inr ⟨fun hh => by have h9 := rightA_iff.2 hh; first | omega | exact absurd h9.2.2.1 (by assumption), rfl⟩⟩
      ·  -- no
        refine K.RW.q rfl (by kernel_rfl) (K.QR.nice (v := .bool ((a.k : Int) != (1 : Int))) (by kernel_rfl) (congrArg Value.bool (bne_iff_ne.2 h_6))) ?_
        refine K.RW.qs [.bool true] (by kernel_rfl) ?_
        refine K.RW.skip rfl (by kernel_rfl) ?_
        refine K.RW.skip rfl (by kernel_rfl) ?_
        refine K.RW.skip rfl (by kernel_rfl) ?_
        refine K.RW.skip rfl (by kernel_rfl) ?_
        refine K.RW.qs [.bool true, .bool true, .bool true] (by kernel_rfl) ?_
        refine K.RW.nil ?_
        refine K.thn_normal ?_
        refine K.KW.seq ?_
        -- 2 :206
        refine K.KW.gdrawn [0] hS (by kernel_rfl) ?_
        clear hS; intro w hS
        refine K.DW.l 0 rfl (by kernel_rfl) rfl (K.OW.q rfl (K.QR.k (v := .bool true) (by kernel_rfl)) ?_)
        refine ⟨.inl (hS.pick [0]), ?_⟩
        refine K.DW.l 1 rfl (by kernel_rfl) rfl (K.OW.q rfl (K.QR.k (v := .bool true) (by kernel_rfl)) ?_)
        refine ⟨.inl (hS.pick [0]), ?_⟩
        refine K.DW.q 2 (by kernel_rfl) rfl rfl (by kernel_rfl) (by kernel_rfl) (fun w hS => K.QR.ldN [.int .i64 a.k, .int .i64 a.th, .int .i64 a.ln, .int .i64 a.ok, .int .u32 a.key, .int .u32 a.val] rfl rfl (by kernel_rfl) (by kernel_rfl) (K.cells (K.cl ((hS.blk 0 rfl hg_3).cell rfl) (K.cl ((hS.blk 0 rfl hg_3).cell rfl) (K.cl ((hS.blk 0 rfl hg_3).cell rfl) (K.cl ((hS.blk 0 rfl hg_3).cell rfl) (K.cl ((hS.blk 0 rfl hg_3).cell rfl) (K.cl ((hS.blk 0 rfl hg_3).cell rfl) K.cl0)))))))) (hS.pick [0]) ?_
        refine K.DW.q 4 (by kernel_rfl) rfl rfl (by kernel_rfl) (by kernel_rfl) (fun w hS => K.QR.ldN [.int .i64 a.k, .int .i64 a.th, .int .i64 a.ln, .int .i64 a.ok, .int .u32 a.key, .int .u32 a.val] rfl rfl (by kernel_rfl) (by kernel_rfl) (K.cells (K.cl ((hS.blk 0 rfl hg_3).cell rfl) (K.cl ((hS.blk 0 rfl hg_3).cell rfl) (K.cl ((hS.blk 0 rfl hg_3).cell rfl) (K.cl ((hS.blk 0 rfl hg_3).cell rfl) (K.cl ((hS.blk 0 rfl hg_3).cell rfl) (K.cl ((hS.blk 0 rfl hg_3).cell rfl) K.cl0)))))))) (hS.pick [0]) ?_
        refine K.DW.l 3 rfl (by kernel_rfl) (by kernel_rfl) (K.OW.gcall hS [] [0, 1] [.agg #[.int .i64 a.k, .int .i64 a.th, .int .i64 a.ln, .int .i64 a.ok, .int .u32 a.key, .int .u32 a.val]] (plain_ok _ a) ?_)
        clear hS; rintro _ _ w ⟨rfl, rfl⟩ hS
        replace hS : K.Sat w0 [g_2, fr] w := hS
        refine ⟨.inl (hS.pick [0]), ?_⟩
        by_cases h_14 : ((plainA a).k : Int) = a.k ∧ ((plainA a).th : Int) = a.th ∧ ((plainA a).ln : Int) = a.ln ∧ ((plainA a).ok : Int) = a.ok ∧ ((plainA a).key : Int) = a.key ∧ ((plainA a).val : Int) = a.val
        ·  -- yes
          refine K.DW.l 5 rfl (by kernel_rfl) (by kernel_rfl) (K.OW.q rfl (K.QR.eqS (by kernel_rfl) rfl rfl rfl (eqAct_t h_14)) ?_)
          refine ⟨.inl (hS.pick [0]), ?_⟩
          refine K.DW.l 6 rfl (by kernel_rfl) rfl (K.OW.q rfl (K.QR.k (v := .bool true) (by kernel_rfl)) ?_)
          refine ⟨.inl (hS.pick [0]), ?_⟩
          refine K.DW.l 7 rfl (by kernel_rfl) rfl (K.OW.q rfl (K.QR.k (v := .bool true) (by kernel_rfl)) ?_)
          refine ⟨.inl (hS.pick [0]), ?_⟩
          refine K.DW.l 8 rfl (by kernel_rfl) (by kernel_rfl) (K.OW.q rfl (K.QR.k (v := .pointer (some ⟨r_1, 1, none⟩)) (by kernel_rfl)) ?_)
          refine ⟨.inl (hS.pick [0]), ?_⟩
          refine K.DW.l 9 rfl (by kernel_rfl) (by kernel_rfl) (K.OW.q rfl (K.QR.ld1 (v := .int .i64 a.th) rfl rfl (by kernel_rfl) ((hS.blk 0 rfl hg_3).cell rfl)) ?_)
          refine ⟨.inl (hS.pick [0]), ?_⟩
          by_cases h_15 : (a.th : Int) ≥ (0 : Int)
          ·  -- yes
            refine K.DW.l 10 rfl (by kernel_rfl) (by kernel_rfl) (K.OW.q rfl (K.QR.nice (v := .bool (decide ((a.th : Int) ≥ (0 : Int)))) (by kernel_rfl) (congrArg Value.bool (decide_eq_true h_15))) ?_)
            refine ⟨.inl (hS.pick [0]), ?_⟩
            refine K.DW.l 11 rfl (by kernel_rfl) rfl (K.OW.q rfl (K.QR.k (v := .bool true) (by kernel_rfl)) ?_)
            refine ⟨.inl (hS.pick [0]), ?_⟩
            refine K.DW.l 12 rfl (by kernel_rfl) rfl (K.OW.q rfl (K.QR.k (v := .bool true) (by kernel_rfl)) ?_)
            refine ⟨.inl (hS.pick [0]), ?_⟩
            refine K.DW.l 13 rfl (by kernel_rfl) (by kernel_rfl) (K.OW.q rfl (K.QR.k (v := .pointer (some ⟨r_1, 1, none⟩)) (by kernel_rfl)) ?_)
            refine ⟨.inl (hS.pick [0]), ?_⟩
            refine K.DW.l 14 rfl (by kernel_rfl) (by kernel_rfl) (K.OW.q rfl (K.QR.ld1 (v := .int .i64 a.th) rfl rfl (by kernel_rfl) ((hS.blk 0 rfl hg_3).cell rfl)) ?_)
            refine ⟨.inl (hS.pick [0]), ?_⟩
            by_cases h_16 : (a.th : Int) ≤ (63 : Int)
            ·  -- yes
              refine K.DW.l 15 rfl (by kernel_rfl) (by kernel_rfl) (K.OW.q rfl (K.QR.nice (v := .bool (decide ((a.th : Int) ≤ (63 : Int)))) (by kernel_rfl) (congrArg Value.bool (decide_eq_true h_16))) ?_)
              refine ⟨.inl (hS.pick [0]), ?_⟩
              refine K.DW.l 16 rfl (by kernel_rfl) rfl (K.OW.q rfl (K.QR.k (v := .bool true) (by kernel_rfl)) ?_)
              refine ⟨.inl (hS.pick [0]), ?_⟩
              refine K.DW.l 17 rfl (by kernel_rfl) rfl (K.OW.q rfl (K.QR.k (v := .bool true) (by kernel_rfl)) ?_)
              refine ⟨.inl (hS.pick [0]), ?_⟩
              refine K.DW.l 18 rfl (by kernel_rfl) (by kernel_rfl) (K.OW.q rfl (K.QR.k (v := .pointer (some ⟨r_1, 2, none⟩)) (by kernel_rfl)) ?_)
              refine ⟨.inl (hS.pick [0]), ?_⟩
              refine K.DW.l 19 rfl (by kernel_rfl) (by kernel_rfl) (K.OW.q rfl (K.QR.ld1 (v := .int .i64 a.ln) rfl rfl (by kernel_rfl) ((hS.blk 0 rfl hg_3).cell rfl)) ?_)
              refine ⟨.inl (hS.pick [0]), ?_⟩
              by_cases h_17 : (a.ln : Int) ≥ (0 : Int)
              ·  -- yes
                refine K.DW.l 20 rfl (by kernel_rfl) (by kernel_rfl) (K.OW.q rfl (K.QR.nice (v := .bool (decide ((a.ln : Int) ≥ (0 : Int)))) (by kernel_rfl) (congrArg Value.bool (decide_eq_true h_17))) ?_)
                refine ⟨.inl (hS.pick [0]), ?_⟩
                refine K.DW.l 21 rfl (by kernel_rfl) rfl (K.OW.q rfl (K.QR.k (v := .bool true) (by kernel_rfl)) ?_)
                refine ⟨.inl (hS.pick [0]), ?_⟩
                refine K.DW.l 22 rfl (by kernel_rfl) rfl (K.OW.q rfl (K.QR.k (v := .bool true) (by kernel_rfl)) ?_)
                refine ⟨.inl (hS.pick [0]), ?_⟩
                refine K.DW.l 23 rfl (by kernel_rfl) (by kernel_rfl) (K.OW.q rfl (K.QR.k (v := .pointer (some ⟨r_1, 2, none⟩)) (by kernel_rfl)) ?_)
                refine ⟨.inl (hS.pick [0]), ?_⟩
                refine K.DW.l 24 rfl (by kernel_rfl) (by kernel_rfl) (K.OW.q rfl (K.QR.ld1 (v := .int .i64 a.ln) rfl rfl (by kernel_rfl) ((hS.blk 0 rfl hg_3).cell rfl)) ?_)
                refine ⟨.inl (hS.pick [0]), ?_⟩
                by_cases h_18 : (a.ln : Int) ≤ (262143 : Int)
                ·  -- yes
                  refine K.DW.l 25 rfl (by kernel_rfl) (by kernel_rfl) (K.OW.q rfl (K.QR.nice (v := .bool (decide ((a.ln : Int) ≤ (262143 : Int)))) (by kernel_rfl) (congrArg Value.bool (decide_eq_true h_18))) ?_)
                  refine ⟨.inl (hS.pick [0]), ?_⟩
                  refine K.DW.l 26 rfl (by kernel_rfl) rfl (K.OW.q rfl (K.QR.k (v := .bool true) (by kernel_rfl)) ?_)
                  refine ⟨.inl (hS.pick [0]), ?_⟩
                  refine K.DW.l 27 rfl (by kernel_rfl) rfl (K.OW.q rfl (K.QR.k (v := .bool true) (by kernel_rfl)) ?_)
                  refine ⟨.inl (hS.pick [0]), ?_⟩
                  refine K.DW.done (by kernel_rfl) ?_
                  refine K.thn_normal ?_
                  refine K.KW.ret ?_
                  refine ⟨.inr rfl, rfl, (.bool true), K.res1 rfl rfl, [], ?_, hS.pick [1]⟩
                  exact ⟨rfl, .inl ⟨rightA_iff.1 ⟨by omega, by omega, by first | assumption | omega, by omega, by omega⟩, rfl⟩⟩
                ·  -- no
                  refine K.DW.l 25 rfl (by kernel_rfl) (by kernel_rfl) (K.OW.q rfl (K.QR.nice (v := .bool (decide ((a.ln : Int) ≤ (262143 : Int)))) (by kernel_rfl) (congrArg Value.bool (decide_eq_false h_18))) ?_)
                  refine ⟨.inl (hS.pick [0]), ?_⟩
                  refine K.DW.l 26 rfl (by kernel_rfl) rfl (K.OW.q rfl (K.QR.k (v := .bool false) (by kernel_rfl)) ?_)
                  refine ⟨.inl (hS.pick [0]), ?_⟩
                  refine K.DW.l 27 rfl (by kernel_rfl) rfl (K.OW.q rfl (K.QR.k (v := .bool false) (by kernel_rfl)) ?_)
                  refine ⟨.inl (hS.pick [0]), ?_⟩
                  refine K.DW.done (by kernel_rfl) ?_
                  refine K.thn_normal ?_
                  refine K.KW.ret ?_
                  refine ⟨.inr rfl, rfl, (.bool false), K.res1 rfl rfl, [], ?_, hS.pick [1]⟩
                  exact ⟨rfl, .inr ⟨fun hh => by have h9 := rightA_iff.2 hh; first | omega | exact absurd h9.2.2.1 (by assumption), rfl⟩⟩
              ·  -- no
                refine K.DW.l 20 rfl (by kernel_rfl) (by kernel_rfl) (K.OW.q rfl (K.QR.nice (v := .bool (decide ((a.ln : Int) ≥ (0 : Int)))) (by kernel_rfl) (congrArg Value.bool (decide_eq_false h_17))) ?_)
                refine ⟨.inl (hS.pick [0]), ?_⟩
                refine K.DW.l 21 rfl (by kernel_rfl) rfl (K.OW.q rfl (K.QR.k (v := .bool false) (by kernel_rfl)) ?_)
                refine ⟨.inl (hS.pick [0]), ?_⟩
                refine K.DW.l 22 rfl (by kernel_rfl) rfl (K.OW.q rfl (K.QR.k (v := .bool false) (by kernel_rfl)) ?_)
                refine ⟨.inl (hS.pick [0]), ?_⟩
                refine K.DW.skip 23 (by kernel_rfl) rfl rfl (by kernel_rfl) (by kernel_rfl) (hS.pick [0]) ?_
                refine K.DW.skip 24 (by kernel_rfl) rfl rfl (by kernel_rfl) (by kernel_rfl) (hS.pick [0]) ?_
                refine K.DW.skip 25 (by kernel_rfl) rfl rfl (by kernel_rfl) (by kernel_rfl) (hS.pick [0]) ?_
                refine K.DW.l 26 rfl (by kernel_rfl) rfl (K.OW.q rfl (K.QR.k (v := .bool false) (by kernel_rfl)) ?_)
                refine ⟨.inl (hS.pick [0]), ?_⟩
                refine K.DW.l 27 rfl (by kernel_rfl) rfl (K.OW.q rfl (K.QR.k (v := .bool false) (by kernel_rfl)) ?_)
                refine ⟨.inl (hS.pick [0]), ?_⟩
                refine K.DW.done (by kernel_rfl) ?_
                refine K.thn_normal ?_
                refine K.KW.ret ?_
                refine ⟨.inr rfl, rfl, (.bool false), K.res1 rfl rfl, [], ?_, hS.pick [1]⟩
                exact ⟨rfl, .inr ⟨fun hh => by have h9 := rightA_iff.2 hh; first | omega | exact absurd h9.2.2.1 (by assumption), rfl⟩⟩
            ·  -- no
              refine K.DW.l 15 rfl (by kernel_rfl) (by kernel_rfl) (K.OW.q rfl (K.QR.nice (v := .bool (decide ((a.th : Int) ≤ (63 : Int)))) (by kernel_rfl) (congrArg Value.bool (decide_eq_false h_16))) ?_)
              refine ⟨.inl (hS.pick [0]), ?_⟩
              refine K.DW.l 16 rfl (by kernel_rfl) rfl (K.OW.q rfl (K.QR.k (v := .bool false) (by kernel_rfl)) ?_)
              refine ⟨.inl (hS.pick [0]), ?_⟩
              refine K.DW.l 17 rfl (by kernel_rfl) rfl (K.OW.q rfl (K.QR.k (v := .bool false) (by kernel_rfl)) ?_)
              refine ⟨.inl (hS.pick [0]), ?_⟩
              refine K.DW.skip 18 (by kernel_rfl) rfl rfl (by kernel_rfl) (by kernel_rfl) (hS.pick [0]) ?_
              refine K.DW.skip 19 (by kernel_rfl) rfl rfl (by kernel_rfl) (by kernel_rfl) (hS.pick [0]) ?_
              refine K.DW.skip 20 (by kernel_rfl) rfl rfl (by kernel_rfl) (by kernel_rfl) (hS.pick [0]) ?_
              refine K.DW.l 21 rfl (by kernel_rfl) rfl (K.OW.q rfl (K.QR.k (v := .bool false) (by kernel_rfl)) ?_)
              refine ⟨.inl (hS.pick [0]), ?_⟩
              refine K.DW.l 22 rfl (by kernel_rfl) rfl (K.OW.q rfl (K.QR.k (v := .bool false) (by kernel_rfl)) ?_)
              refine ⟨.inl (hS.pick [0]), ?_⟩
              refine K.DW.skip 23 (by kernel_rfl) rfl rfl (by kernel_rfl) (by kernel_rfl) (hS.pick [0]) ?_
              refine K.DW.skip 24 (by kernel_rfl) rfl rfl (by kernel_rfl) (by kernel_rfl) (hS.pick [0]) ?_
              refine K.DW.skip 25 (by kernel_rfl) rfl rfl (by kernel_rfl) (by kernel_rfl) (hS.pick [0]) ?_
              refine K.DW.l 26 rfl (by kernel_rfl) rfl (K.OW.q rfl (K.QR.k (v := .bool false) (by kernel_rfl)) ?_)
              refine ⟨.inl (hS.pick [0]), ?_⟩
              refine K.DW.l 27 rfl (by kernel_rfl) rfl (K.OW.q rfl (K.QR.k (v := .bool false) (by kernel_rfl)) ?_)
              refine ⟨.inl (hS.pick [0]), ?_⟩
              refine K.DW.done (by kernel_rfl) ?_
              refine K.thn_normal ?_
              refine K.KW.ret ?_
              refine ⟨.inr rfl, rfl, (.bool false), K.res1 rfl rfl, [], ?_, hS.pick [1]⟩
              exact ⟨rfl, .inr ⟨fun hh => by have h9 := rightA_iff.2 hh; first | omega | exact absurd h9.2.2.1 (by assumption), rfl⟩⟩
          ·  -- no
            refine K.DW.l 10 rfl (by kernel_rfl) (by kernel_rfl) (K.OW.q rfl (K.QR.nice (v := .bool (decide ((a.th : Int) ≥ (0 : Int)))) (by kernel_rfl) (congrArg Value.bool (decide_eq_false h_15))) ?_)
            refine ⟨.inl (hS.pick [0]), ?_⟩
            refine K.DW.l 11 rfl (by kernel_rfl) rfl (K.OW.q rfl (K.QR.k (v := .bool false) (by kernel_rfl)) ?_)
            refine ⟨.inl (hS.pick [0]), ?_⟩
            refine K.DW.l 12 rfl (by kernel_rfl) rfl (K.OW.q rfl (K.QR.k (v := .bool false) (by kernel_rfl)) ?_)
            refine ⟨.inl (hS.pick [0]), ?_⟩
            refine K.DW.skip 13 (by kernel_rfl) rfl rfl (by kernel_rfl) (by kernel_rfl) (hS.pick [0]) ?_
            refine K.DW.skip 14 (by kernel_rfl) rfl rfl (by kernel_rfl) (by kernel_rfl) (hS.pick [0]) ?_
            refine K.DW.skip 15 (by kernel_rfl) rfl rfl (by kernel_rfl) (by kernel_rfl) (hS.pick [0]) ?_
            refine K.DW.l 16 rfl (by kernel_rfl) rfl (K.OW.q rfl (K.QR.k (v := .bool false) (by kernel_rfl)) ?_)
            refine ⟨.inl (hS.pick [0]), ?_⟩
            refine K.DW.l 17 rfl (by kernel_rfl) rfl (K.OW.q rfl (K.QR.k (v := .bool false) (by kernel_rfl)) ?_)
            refine ⟨.inl (hS.pick [0]), ?_⟩
            refine K.DW.skip 18 (by kernel_rfl) rfl rfl (by kernel_rfl) (by kernel_rfl) (hS.pick [0]) ?_
            refine K.DW.skip 19 (by kernel_rfl) rfl rfl (by kernel_rfl) (by kernel_rfl) (hS.pick [0]) ?_
            refine K.DW.skip 20 (by kernel_rfl) rfl rfl (by kernel_rfl) (by kernel_rfl) (hS.pick [0]) ?_
            refine K.DW.l 21 rfl (by kernel_rfl) rfl (K.OW.q rfl (K.QR.k (v := .bool false) (by kernel_rfl)) ?_)
            refine ⟨.inl (hS.pick [0]), ?_⟩
            refine K.DW.l 22 rfl (by kernel_rfl) rfl (K.OW.q rfl (K.QR.k (v := .bool false) (by kernel_rfl)) ?_)
            refine ⟨.inl (hS.pick [0]), ?_⟩
            refine K.DW.skip 23 (by kernel_rfl) rfl rfl (by kernel_rfl) (by kernel_rfl) (hS.pick [0]) ?_
            refine K.DW.skip 24 (by kernel_rfl) rfl rfl (by kernel_rfl) (by kernel_rfl) (hS.pick [0]) ?_
            refine K.DW.skip 25 (by kernel_rfl) rfl rfl (by kernel_rfl) (by kernel_rfl) (hS.pick [0]) ?_
            refine K.DW.l 26 rfl (by kernel_rfl) rfl (K.OW.q rfl (K.QR.k (v := .bool false) (by kernel_rfl)) ?_)
            refine ⟨.inl (hS.pick [0]), ?_⟩
            refine K.DW.l 27 rfl (by kernel_rfl) rfl (K.OW.q rfl (K.QR.k (v := .bool false) (by kernel_rfl)) ?_)
            refine ⟨.inl (hS.pick [0]), ?_⟩
            refine K.DW.done (by kernel_rfl) ?_
            refine K.thn_normal ?_
            refine K.KW.ret ?_
            refine ⟨.inr rfl, rfl, (.bool false), K.res1 rfl rfl, [], ?_, hS.pick [1]⟩
            exact ⟨rfl, .inr ⟨fun hh => by have h9 := rightA_iff.2 hh; first | omega | exact absurd h9.2.2.1 (by assumption), rfl⟩⟩
        ·  -- no
          refine K.DW.l 5 rfl (by kernel_rfl) (by kernel_rfl) (K.OW.q rfl (K.QR.eqS (by kernel_rfl) rfl rfl rfl (eqAct_f h_14)) ?_)
          refine ⟨.inl (hS.pick [0]), ?_⟩
          refine K.DW.l 6 rfl (by kernel_rfl) rfl (K.OW.q rfl (K.QR.k (v := .bool false) (by kernel_rfl)) ?_)
          refine ⟨.inl (hS.pick [0]), ?_⟩
          refine K.DW.l 7 rfl (by kernel_rfl) rfl (K.OW.q rfl (K.QR.k (v := .bool false) (by kernel_rfl)) ?_)
          refine ⟨.inl (hS.pick [0]), ?_⟩
          refine K.DW.skip 8 (by kernel_rfl) rfl rfl (by kernel_rfl) (by kernel_rfl) (hS.pick [0]) ?_
          refine K.DW.skip 9 (by kernel_rfl) rfl rfl (by kernel_rfl) (by kernel_rfl) (hS.pick [0]) ?_
          refine K.DW.skip 10 (by kernel_rfl) rfl rfl (by kernel_rfl) (by kernel_rfl) (hS.pick [0]) ?_
          refine K.DW.l 11 rfl (by kernel_rfl) rfl (K.OW.q rfl (K.QR.k (v := .bool false) (by kernel_rfl)) ?_)
          refine ⟨.inl (hS.pick [0]), ?_⟩
          refine K.DW.l 12 rfl (by kernel_rfl) rfl (K.OW.q rfl (K.QR.k (v := .bool false) (by kernel_rfl)) ?_)
          refine ⟨.inl (hS.pick [0]), ?_⟩
          refine K.DW.skip 13 (by kernel_rfl) rfl rfl (by kernel_rfl) (by kernel_rfl) (hS.pick [0]) ?_
          refine K.DW.skip 14 (by kernel_rfl) rfl rfl (by kernel_rfl) (by kernel_rfl) (hS.pick [0]) ?_
          refine K.DW.skip 15 (by kernel_rfl) rfl rfl (by kernel_rfl) (by kernel_rfl) (hS.pick [0]) ?_
          refine K.DW.l 16 rfl (by kernel_rfl) rfl (K.OW.q rfl (K.QR.k (v := .bool false) (by kernel_rfl)) ?_)
          refine ⟨.inl (hS.pick [0]), ?_⟩
          refine K.DW.l 17 rfl (by kernel_rfl) rfl (K.OW.q rfl (K.QR.k (v := .bool false) (by kernel_rfl)) ?_)
          refine ⟨.inl (hS.pick [0]), ?_⟩
          refine K.DW.skip 18 (by kernel_rfl) rfl rfl (by kernel_rfl) (by kernel_rfl) (hS.pick [0]) ?_
          refine K.DW.skip 19 (by kernel_rfl) rfl rfl (by kernel_rfl) (by kernel_rfl) (hS.pick [0]) ?_
          refine K.DW.skip 20 (by kernel_rfl) rfl rfl (by kernel_rfl) (by kernel_rfl) (hS.pick [0]) ?_
          refine K.DW.l 21 rfl (by kernel_rfl) rfl (K.OW.q rfl (K.QR.k (v := .bool false) (by kernel_rfl)) ?_)
          refine ⟨.inl (hS.pick [0]), ?_⟩
          refine K.DW.l 22 rfl (by kernel_rfl) rfl (K.OW.q rfl (K.QR.k (v := .bool false) (by kernel_rfl)) ?_)
          refine ⟨.inl (hS.pick [0]), ?_⟩
          refine K.DW.skip 23 (by kernel_rfl) rfl rfl (by kernel_rfl) (by kernel_rfl) (hS.pick [0]) ?_
          refine K.DW.skip 24 (by kernel_rfl) rfl rfl (by kernel_rfl) (by kernel_rfl) (hS.pick [0]) ?_
          refine K.DW.skip 25 (by kernel_rfl) rfl rfl (by kernel_rfl) (by kernel_rfl) (hS.pick [0]) ?_
          refine K.DW.l 26 rfl (by kernel_rfl) rfl (K.OW.q rfl (K.QR.k (v := .bool false) (by kernel_rfl)) ?_)
          refine ⟨.inl (hS.pick [0]), ?_⟩
          refine K.DW.l 27 rfl (by kernel_rfl) rfl (K.OW.q rfl (K.QR.k (v := .bool false) (by kernel_rfl)) ?_)
          refine ⟨.inl (hS.pick [0]), ?_⟩
          refine K.DW.done (by kernel_rfl) ?_
          refine K.thn_normal ?_
          refine K.KW.ret ?_
          refine ⟨.inr rfl, rfl, (.bool false), K.res1 rfl rfl, [], ?_, hS.pick [1]⟩
          exact ⟨rfl, .inr ⟨fun hh => by have h9 := rightA_iff.2 hh; first | omega | exact absurd h9.2.2.1 (by assumption), rfl⟩⟩
    ·  -- no
      refine K.RW.q rfl (by kernel_rfl) (K.QR.nice (v := .bool (decide ((a.k : Int) ≤ (5 : Int)))) (by kernel_rfl) (congrArg Value.bool (decide_eq_false h_5))) ?_
      refine K.RW.qs [.bool false, .bool false] (by kernel_rfl) ?_
      refine K.RW.skip rfl (by kernel_rfl) ?_
      refine K.RW.skip rfl (by kernel_rfl) ?_
      refine K.RW.skip rfl (by kernel_rfl) ?_
      refine K.RW.skip rfl (by kernel_rfl) ?_
      refine K.RW.skip rfl (by kernel_rfl) ?_
      refine K.RW.skip rfl (by kernel_rfl) ?_
      refine K.RW.skip rfl (by kernel_rfl) ?_
      refine K.RW.skip rfl (by kernel_rfl) ?_
      refine K.RW.skip rfl (by kernel_rfl) ?_
      refine K.RW.qs [.bool false, .bool false] (by kernel_rfl) ?_
      refine K.RW.nil ?_
      refine K.thn_normal ?_
      refine K.KW.seq ?_
      -- 2 :206
      refine K.KW.gdrawn [] hS (by kernel_rfl) ?_
      clear hS; intro w hS
      refine K.DW.l 0 rfl (by kernel_rfl) rfl (K.OW.q rfl (K.QR.k (v := .bool false) (by kernel_rfl)) ?_)
      refine ⟨.inl (hS.pick []), ?_⟩
      refine K.DW.l 1 rfl (by kernel_rfl) rfl (K.OW.q rfl (K.QR.k (v := .bool false) (by kernel_rfl)) ?_)
      refine ⟨.inl (hS.pick []), ?_⟩
      refine K.DW.skip 2 (by kernel_rfl) rfl rfl (by kernel_rfl) (by kernel_rfl) (hS.pick []) ?_
      refine K.DW.skip 3 (by kernel_rfl) rfl rfl (by kernel_rfl) (by kernel_rfl) (hS.pick []) ?_
      refine K.DW.skip 4 (by kernel_rfl) rfl rfl (by kernel_rfl) (by kernel_rfl) (hS.pick []) ?_
      refine K.DW.skip 5 (by kernel_rfl) rfl rfl (by kernel_rfl) (by kernel_rfl) (hS.pick []) ?_
      refine K.DW.l 6 rfl (by kernel_rfl) rfl (K.OW.q rfl (K.QR.k (v := .bool false) (by kernel_rfl)) ?_)
      refine ⟨.inl (hS.pick []), ?_⟩
      refine K.DW.l 7 rfl (by kernel_rfl) rfl (K.OW.q rfl (K.QR.k (v := .bool false) (by kernel_rfl)) ?_)
      refine ⟨.inl (hS.pick []), ?_⟩
      refine K.DW.skip 8 (by kernel_rfl) rfl rfl (by kernel_rfl) (by kernel_rfl) (hS.pick []) ?_
      refine K.DW.skip 9 (by kernel_rfl) rfl rfl (by kernel_rfl) (by kernel_rfl) (hS.pick []) ?_
      refine K.DW.skip 10 (by kernel_rfl) rfl rfl (by kernel_rfl) (by kernel_rfl) (hS.pick []) ?_
      refine K.DW.l 11 rfl (by kernel_rfl) rfl (K.OW.q rfl (K.QR.k (v := .bool false) (by kernel_rfl)) ?_)
      refine ⟨.inl (hS.pick []), ?_⟩
      refine K.DW.l 12 rfl (by kernel_rfl) rfl (K.OW.q rfl (K.QR.k (v := .bool false) (by kernel_rfl)) ?_)
      refine ⟨.inl (hS.pick []), ?_⟩
      refine K.DW.skip 13 (by kernel_rfl) rfl rfl (by kernel_rfl) (by kernel_rfl) (hS.pick []) ?_
      refine K.DW.skip 14 (by kernel_rfl) rfl rfl (by kernel_rfl) (by kernel_rfl) (hS.pick []) ?_
      refine K.DW.skip 15 (by kernel_rfl) rfl rfl (by kernel_rfl) (by kernel_rfl) (hS.pick []) ?_
      refine K.DW.l 16 rfl (by kernel_rfl) rfl (K.OW.q rfl (K.QR.k (v := .bool false) (by kernel_rfl)) ?_)
      refine ⟨.inl (hS.pick []), ?_⟩
      refine K.DW.l 17 rfl (by kernel_rfl) rfl (K.OW.q rfl (K.QR.k (v := .bool false) (by kernel_rfl)) ?_)
      refine ⟨.inl (hS.pick []), ?_⟩
      refine K.DW.skip 18 (by kernel_rfl) rfl rfl (by kernel_rfl) (by kernel_rfl) (hS.pick []) ?_
      refine K.DW.skip 19 (by kernel_rfl) rfl rfl (by kernel_rfl) (by kernel_rfl) (hS.pick []) ?_
      refine K.DW.skip 20 (by kernel_rfl) rfl rfl (by kernel_rfl) (by kernel_rfl) (hS.pick []) ?_
      refine K.DW.l 21 rfl (by kernel_rfl) rfl (K.OW.q rfl (K.QR.k (v := .bool false) (by kernel_rfl)) ?_)
      refine ⟨.inl (hS.pick []), ?_⟩
      refine K.DW.l 22 rfl (by kernel_rfl) rfl (K.OW.q rfl (K.QR.k (v := .bool false) (by kernel_rfl)) ?_)
      refine ⟨.inl (hS.pick []), ?_⟩
      refine K.DW.skip 23 (by kernel_rfl) rfl rfl (by kernel_rfl) (by kernel_rfl) (hS.pick []) ?_
      refine K.DW.skip 24 (by kernel_rfl) rfl rfl (by kernel_rfl) (by kernel_rfl) (hS.pick []) ?_
      refine K.DW.skip 25 (by kernel_rfl) rfl rfl (by kernel_rfl) (by kernel_rfl) (hS.pick []) ?_
      refine K.DW.l 26 rfl (by kernel_rfl) rfl (K.OW.q rfl (K.QR.k (v := .bool false) (by kernel_rfl)) ?_)
      refine ⟨.inl (hS.pick []), ?_⟩
      refine K.DW.l 27 rfl (by kernel_rfl) rfl (K.OW.q rfl (K.QR.k (v := .bool false) (by kernel_rfl)) ?_)
      refine ⟨.inl (hS.pick []), ?_⟩
      refine K.DW.done (by kernel_rfl) ?_
      refine K.thn_normal ?_
      refine K.KW.ret ?_
      refine ⟨.inr rfl, rfl, (.bool false), K.res1 rfl rfl, [], ?_, hS.pick [1]⟩
      exact ⟨rfl, .inr ⟨fun hh => by have h9 := rightA_iff.2 hh; first | omega | exact absurd h9.2.2.1 (by assumption), rfl⟩⟩
  ·  -- no
    refine K.RW.q rfl rfl (K.QR.nice (v := .bool (decide ((a.k : Int) ≥ (1 : Int)))) (by kernel_rfl) (congrArg Value.bool (decide_eq_false h_4))) ?_
    refine K.RW.qs [.bool false] (by kernel_rfl) ?_
    refine K.RW.skip rfl (by kernel_rfl) ?_
    refine K.RW.skip rfl (by kernel_rfl) ?_
    refine K.RW.skip rfl (by kernel_rfl) ?_
    refine K.RW.qs [.bool false, .bool false] (by kernel_rfl) ?_
    refine K.RW.skip rfl (by kernel_rfl) ?_
    refine K.RW.skip rfl (by kernel_rfl) ?_
    refine K.RW.skip rfl (by kernel_rfl) ?_
    refine K.RW.skip rfl (by kernel_rfl) ?_
    refine K.RW.skip rfl (by kernel_rfl) ?_
    refine K.RW.skip rfl (by kernel_rfl) ?_
    refine K.RW.skip rfl (by kernel_rfl) ?_
    refine K.RW.skip rfl (by kernel_rfl) ?_
    refine K.RW.skip rfl (by kernel_rfl) ?_
    refine K.RW.qs [.bool false, .bool false] (by kernel_rfl) ?_
    refine K.RW.nil ?_
    refine K.thn_normal ?_
    refine K.KW.seq ?_
    -- 2 :206
    refine K.KW.gdrawn [] hS (by kernel_rfl) ?_
    clear hS; intro w hS
    refine K.DW.l 0 rfl (by kernel_rfl) rfl (K.OW.q rfl (K.QR.k (v := .bool false) (by kernel_rfl)) ?_)
    refine ⟨.inl (hS.pick []), ?_⟩
    refine K.DW.l 1 rfl (by kernel_rfl) rfl (K.OW.q rfl (K.QR.k (v := .bool false) (by kernel_rfl)) ?_)
    refine ⟨.inl (hS.pick []), ?_⟩
    refine K.DW.skip 2 (by kernel_rfl) rfl rfl (by kernel_rfl) (by kernel_rfl) (hS.pick []) ?_
    refine K.DW.skip 3 (by kernel_rfl) rfl rfl (by kernel_rfl) (by kernel_rfl) (hS.pick []) ?_
    refine K.DW.skip 4 (by kernel_rfl) rfl rfl (by kernel_rfl) (by kernel_rfl) (hS.pick []) ?_
    refine K.DW.skip 5 (by kernel_rfl) rfl rfl (by kernel_rfl) (by kernel_rfl) (hS.pick []) ?_
    refine K.DW.l 6 rfl (by kernel_rfl) rfl (K.OW.q rfl (K.QR.k (v := .bool false) (by kernel_rfl)) ?_)
    refine ⟨.inl (hS.pick []), ?_⟩
    refine K.DW.l 7 rfl (by kernel_rfl) rfl (K.OW.q rfl (K.QR.k (v := .bool false) (by kernel_rfl)) ?_)
    refine ⟨.inl (hS.pick []), ?_⟩
    refine K.DW.skip 8 (by kernel_rfl) rfl rfl (by kernel_rfl) (by kernel_rfl) (hS.pick []) ?_
    refine K.DW.skip 9 (by kernel_rfl) rfl rfl (by kernel_rfl) (by kernel_rfl) (hS.pick []) ?_
    refine K.DW.skip 10 (by kernel_rfl) rfl rfl (by kernel_rfl) (by kernel_rfl) (hS.pick []) ?_
    refine K.DW.l 11 rfl (by kernel_rfl) rfl (K.OW.q rfl (K.QR.k (v := .bool false) (by kernel_rfl)) ?_)
    refine ⟨.inl (hS.pick []), ?_⟩
    refine K.DW.l 12 rfl (by kernel_rfl) rfl (K.OW.q rfl (K.QR.k (v := .bool false) (by kernel_rfl)) ?_)
    refine ⟨.inl (hS.pick []), ?_⟩
    refine K.DW.skip 13 (by kernel_rfl) rfl rfl (by kernel_rfl) (by kernel_rfl) (hS.pick []) ?_
    refine K.DW.skip 14 (by kernel_rfl) rfl rfl (by kernel_rfl) (by kernel_rfl) (hS.pick []) ?_
    refine K.DW.skip 15 (by kernel_rfl) rfl rfl (by kernel_rfl) (by kernel_rfl) (hS.pick []) ?_
    refine K.DW.l 16 rfl (by kernel_rfl) rfl (K.OW.q rfl (K.QR.k (v := .bool false) (by kernel_rfl)) ?_)
    refine ⟨.inl (hS.pick []), ?_⟩
    refine K.DW.l 17 rfl (by kernel_rfl) rfl (K.OW.q rfl (K.QR.k (v := .bool false) (by kernel_rfl)) ?_)
    refine ⟨.inl (hS.pick []), ?_⟩
    refine K.DW.skip 18 (by kernel_rfl) rfl rfl (by kernel_rfl) (by kernel_rfl) (hS.pick []) ?_
    refine K.DW.skip 19 (by kernel_rfl) rfl rfl (by kernel_rfl) (by kernel_rfl) (hS.pick []) ?_
    refine K.DW.skip 20 (by kernel_rfl) rfl rfl (by kernel_rfl) (by kernel_rfl) (hS.pick []) ?_
    refine K.DW.l 21 rfl (by kernel_rfl) rfl (K.OW.q rfl (K.QR.k (v := .bool false) (by kernel_rfl)) ?_)
    refine ⟨.inl (hS.pick []), ?_⟩
    refine K.DW.l 22 rfl (by kernel_rfl) rfl (K.OW.q rfl (K.QR.k (v := .bool false) (by kernel_rfl)) ?_)
    refine ⟨.inl (hS.pick []), ?_⟩
    refine K.DW.skip 23 (by kernel_rfl) rfl rfl (by kernel_rfl) (by kernel_rfl) (hS.pick []) ?_
    refine K.DW.skip 24 (by kernel_rfl) rfl rfl (by kernel_rfl) (by kernel_rfl) (hS.pick []) ?_
    refine K.DW.skip 25 (by kernel_rfl) rfl rfl (by kernel_rfl) (by kernel_rfl) (hS.pick []) ?_
    refine K.DW.l 26 rfl (by kernel_rfl) rfl (K.OW.q rfl (K.QR.k (v := .bool false) (by kernel_rfl)) ?_)
    refine ⟨.inl (hS.pick []), ?_⟩
    refine K.DW.l 27 rfl (by kernel_rfl) rfl (K.OW.q rfl (K.QR.k (v := .bool false) (by kernel_rfl)) ?_)
    refine ⟨.inl (hS.pick []), ?_⟩
    refine K.DW.done (by kernel_rfl) ?_
    refine K.thn_normal ?_
    refine K.KW.ret ?_
    refine ⟨.inr rfl, rfl, (.bool false), K.res1 rfl rfl, [], ?_, hS.pick [1]⟩
    exact ⟨rfl, .inr ⟨fun hh => by have h9 := rightA_iff.2 hh; first | omega | exact absurd h9.2.2.1 (by assumption), rfl⟩⟩
set_option maxHeartbeats 1000000 in
set_option maxRecDepth 100000 in
theorem swrite1_ok (w0 : World) (a : ActM) :
    K.GC Tryd.prog w0 67 #[.agg #[.int .i64 a.k, .int .i64 a.th, .int .i64 a.ln, .int .i64 a.ok, .int .u32 a.key, .int .u32 a.val]] [] (fun v post => post = [] ∧ ((¬ rightO a ∧ v = .bool true) ∨ (¬ (¬ rightO a) ∧ v = .bool false))) := by
  refine K.GC.mk (n := 6) Tryd.func67 rfl rfl [.agg #[.int .i64 a.k, .int .i64 a.th, .int .i64 a.ln, .int .i64 a.ok, .int .u32 a.key, .int .u32 a.val]] rfl rfl ?_
  intro fr w hS
  replace hS : K.Sat w0 [fr] w := hS
  refine K.KW.seq ?_
  -- 0 :247
  refine K.KW.region ?_
  refine K.RW.l rfl (K.OW.gnew 57 [.int .i64 a.k, .int .i64 a.th, .int .i64 a.ln, .int .i64 a.ok, .int .u32 a.key, .int .u32 a.val] hS ?_)
  clear hS; intro w r_1 g_2 hg_3 hS
  refine K.RW.qs [.bool false] (by kernel_rfl) ?_
  refine K.RW.nil ?_
  refine K.thn_normal ?_
  refine K.KW.seq ?_
  -- 1 :247
  refine K.KW.region ?_
  refine K.RW.q rfl rfl (K.QR.ldN [.int .i64 a.k, .int .i64 a.th, .int .i64 a.ln, .int .i64 a.ok, .int .u32 a.key, .int .u32 a.val] rfl rfl (by kernel_rfl) (by kernel_rfl) (K.cells (K.cl ((hS.blk 0 rfl hg_3).cell rfl) (K.cl ((hS.blk 0 rfl hg_3).cell rfl) (K.cl ((hS.blk 0 rfl hg_3).cell rfl) (K.cl ((hS.blk 0 rfl hg_3).cell rfl) (K.cl ((hS.blk 0 rfl hg_3).cell rfl) (K.cl ((hS.blk 0 rfl hg_3).cell rfl) K.cl0)))))))) ?_
  refine K.RW.l rfl (K.OW.gcall hS [] [0, 1] [.agg #[.int .i64 a.k, .int .i64 a.th, .int .i64 a.ln, .int .i64 a.ok, .int .u32 a.key, .int .u32 a.val]] (sright_ok _ a) ?_)
  clear hS; rintro _ _ w ⟨rfl, (⟨h_4, rfl⟩ | ⟨h_5, rfl⟩)⟩ hS
  ·
    replace hS : K.Sat w0 [g_2, fr] w := hS
    refine K.RW.qs [.bool false, .bool false] (by kernel_rfl) ?_
    refine K.RW.nil ?_
    refine K.thn_normal ?_
    refine K.KW.ret ?_
    refine ⟨.inr rfl, rfl, (.bool false), K.res1 rfl rfl, [], ?_, hS.pick [1]⟩
    exact ⟨rfl, .inr ⟨fun hh => absurd (by assumption) hh, rfl⟩⟩
  ·
    replace hS : K.Sat w0 [g_2, fr] w := hS
    refine K.RW.qs [.bool true, .bool true] (by kernel_rfl) ?_
    refine K.RW.nil ?_
    refine K.thn_normal ?_
    refine K.KW.ret ?_
    refine ⟨.inr rfl, rfl, (.bool true), K.res1 rfl rfl, [], ?_, hS.pick [1]⟩
    exact ⟨rfl, .inl ⟨by assumption, rfl⟩⟩
end Go.Proofs.YtnehocjmgnhhhaaDoor
