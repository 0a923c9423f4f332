import Derived.Test.YtnehocjmgnhhhaaDoorFtb
import Derived.Test.YtnehocjmgnhhhaaDoorFra
/- The statement ReportLines. -/
namespace Go.Proofs.YtnehocjmgnhhhaaDoor
open Go.RowKit
set_option linter.unusedVariables false
attribute [local irreducible] K.KW K.RW K.DW K.OW K.QR K.KC
set_option maxHeartbeats 8000000 in
set_option maxRecDepth 100000 in
theorem lawrl_ok (w0 : World) (a : Option Addr) (cap : Nat) (L : List CallM) (hf : allFit L) (hx : K.RowE w0 a L.length 11 (fun i => cCall (L.getD i call0))) :
    K.GC Tryd.prog w0 4 #[.slice a L.length cap] [] (fun v post => v = .bool true) := by
  refine K.GC.mk (n := 100) Tryd.func4 rfl rfl [.slice a L.length cap] rfl rfl ?_
  intro fr w hS
  replace hS : K.Sat w0 [fr] w := hS
  refine K.KW.seq ?_
  -- 0 :20
  refine K.KW.region ?_
  refine K.RW.qs [.bool false] (by kernel_rfl) ?_
  refine K.RW.nil ?_
  refine K.thn_normal ?_
  refine K.KW.seq ?_
  refine K.KW.seq ?_
  -- 1 :21
  refine K.KW.region ?_
  refine K.RW.qs [.slice a L.length cap] (by kernel_rfl) ?_
  refine K.RW.q rfl rfl (K.QR.len (P := Tryd.prog) rfl rfl Tryd.underlying38) ?_
  by_cases h_1 : (((L.length : Nat) : Int) : Int) > (100 : Int)
  ·  -- yes
    refine K.RW.q rfl rfl (K.QR.nice (v := .bool (decide ((((L.length : Nat) : Int) : Int) > (100 : Int)))) (by kernel_rfl) (congrArg Value.bool (decide_eq_true h_1))) ?_
    refine K.RW.nil ?_
    refine K.thn_normal ?_
    refine K.KW.ifT rfl ?_
    refine K.KW.seq ?_
    -- 2 :22
    refine K.KW.region ?_
    refine K.RW.l rfl (K.OW.gcall hS [] [0] [] (awake29_ok _) ?_)
    clear hS; rintro _ _ w ⟨rfl, rfl⟩ hS
    replace hS : K.Sat w0 [fr] w := hS
    refine K.RW.qs [.bool true] (by kernel_rfl) ?_
    refine K.RW.nil ?_
    refine K.thn_normal ?_
    refine K.KW.ret ?_
    refine K.thn_ret ?_
    refine ⟨.inr rfl, rfl, (.bool true), K.res1 rfl rfl, [], ?_, hS.pick [0]⟩
    exact rfl
  ·  -- no
    refine K.RW.q rfl rfl (K.QR.nice (v := .bool (decide ((((L.length : Nat) : Int) : Int) > (100 : Int)))) (by kernel_rfl) (congrArg Value.bool (decide_eq_false h_1))) ?_
    refine K.RW.nil ?_
    refine K.thn_normal ?_
    refine K.KW.ifF rfl ?_
    refine K.KW.skip ?_
    refine K.thn_normal ?_
    refine K.KW.seq ?_
    -- 3 :24
    refine K.KW.region ?_
    refine K.RW.qs [.string (K.sb [])] (by kernel_rfl) ?_
    refine K.RW.nil ?_
    refine K.thn_normal ?_
    refine K.KW.seq ?_
    -- 4 :25
    refine K.KW.region ?_
    refine K.RW.qs [.bool true] (by kernel_rfl) ?_
    refine K.RW.nil ?_
    refine K.thn_normal ?_
    refine K.KW.seq ?_
    refine K.KW.seq ?_
    -- 5 :26
    refine K.KW.region ?_
    refine K.RW.qs [.int .i64 0] (by kernel_rfl) ?_
    refine K.RW.nil ?_
    refine K.thn_normal ?_
    refine K.KW.block ?_
    refine K.KW.loop (fun m_ F_ w_ => ∃ (i : Nat) (o : List UInt8) (mb : Bool), m_ = L.length - i ∧ K.Sl F_ [(0, .slice a L.length cap), (3, .string (K.sb o)), (4, .bool mb), (5, .int .i64 ((i : Nat) : Int)), (100, undef)] ∧ i ≤ L.length ∧ (mb = true → (∀ q, q < i → (L.getD q call0).may) ∧ o = tabR (L.take i)) ∧ (mb = false → ∃ q, q < L.length ∧ ¬ (L.getD q call0).may) ∧ o.length ≤ 301 * i ∧ K.Sat w0 [fr] w_) ((fun (i : Nat) (o : List UInt8) (mb : Bool) => L.length - i) 0 [] true) ?_ ?_
    · -- begins
      exact ⟨0, [], true, rfl, ⟨by rfl, by rfl, by rfl, by rfl, by rfl, trivial⟩, (by omega), (fun _ => ⟨fun q hq => by omega, rfl⟩), (fun h => by cases h), (by simp), hS.pick [0]⟩
    · -- a round
      clear hS
      intro m_2 F_3 w hI
      obtain ⟨i, o, mb, rfl, sl_4, p_5, hmb, hmf, p_6, hS⟩ := hI
      rw [← K.Sl.puts sl_4]; clear sl_4
      refine K.KW.seq ?_
      refine K.KW.seq ?_
      -- 6 :26
      refine K.KW.region ?_
      refine K.RW.qs [.int .i64 ((i : Nat) : Int), .slice a L.length cap] (by kernel_rfl) ?_
      refine K.RW.q rfl rfl (K.QR.len (P := Tryd.prog) rfl rfl Tryd.underlying38) ?_
      by_cases h_7 : (((i : Nat) : Int) : Int) < (((L.length : Nat) : Int) : Int)
      ·  -- yes
        refine K.RW.q rfl rfl (K.QR.nice (v := .bool (decide ((((i : Nat) : Int) : Int) < (((L.length : Nat) : Int) : Int)))) (by kernel_rfl) (congrArg Value.bool (decide_eq_true h_7))) ?_
        refine K.RW.nil ?_
        refine K.thn_normal ?_
        refine K.KW.ifT rfl ?_
        refine K.KW.skip ?_
        refine K.thn_normal ?_
        refine K.KW.seq ?_
        refine K.KW.block ?_
        refine K.KW.seq ?_
        -- 8 :27
        obtain ⟨b_8, of_9, rfl, _⟩ := hx.at_ (by omega)
        refine K.KW.region ?_
        refine K.RW.qs [.slice (some ⟨b_8, of_9, none⟩) L.length cap, .int .i64 ((i : Nat) : Int)] (by kernel_rfl) ?_
        refine K.RW.q rfl rfl (K.QR.ix (of_9 + i * 11) 11 rfl rfl rfl Tryd.underlying38 (by kernel_rfl) (by omega) (by first | (simp; done) | omega | (simp; omega))) ?_
        refine K.RW.q rfl rfl (K.QR.ldN [.int .i64 ((L.getD i call0).th), .int .i64 ((L.getD i call0).ok), .int .u32 ((L.getD i call0).key), .int .u32 ((L.getD i call0).val), .int .i64 ((L.getD i call0).rk), .int .u32 ((L.getD i call0).rv), .int .i64 ((L.getD i call0).beg), .int .i64 ((L.getD i call0).en), .int .i64 ((L.getD i call0).wh), .bool ((L.getD i call0).cr), .bool ((L.getD i call0).kp)] rfl rfl (by kernel_rfl) (by kernel_rfl) (K.cells (K.cl ((hx.no hS.chg).ld i (by omega) 0 _ rfl) (K.cl ((hx.no hS.chg).ld i (by omega) 1 _ rfl) (K.cl ((hx.no hS.chg).ld i (by omega) 2 _ rfl) (K.cl ((hx.no hS.chg).ld i (by omega) 3 _ rfl) (K.cl ((hx.no hS.chg).ld i (by omega) 4 _ rfl) (K.cl ((hx.no hS.chg).ld i (by omega) 5 _ rfl) (K.cl ((hx.no hS.chg).ld i (by omega) 6 _ rfl) (K.cl ((hx.no hS.chg).ld i (by omega) 7 _ rfl) (K.cl ((hx.no hS.chg).ld i (by omega) 8 _ rfl) (K.cl ((hx.no hS.chg).ld i (by omega) 9 _ rfl) (K.cl ((hx.no hS.chg).ld i (by omega) 10 _ rfl) K.cl0))))))))))))) ?_
        refine K.RW.l rfl (K.OW.gcall hS [] [0] [.agg #[.int .i64 ((L.getD i call0).th), .int .i64 ((L.getD i call0).ok), .int .u32 ((L.getD i call0).key), .int .u32 ((L.getD i call0).val), .int .i64 ((L.getD i call0).rk), .int .u32 ((L.getD i call0).rv), .int .i64 ((L.getD i call0).beg), .int .i64 ((L.getD i call0).en), .int .i64 ((L.getD i call0).wh), .bool ((L.getD i call0).cr), .bool ((L.getD i call0).kp)]] (line_ok _ (L.getD i call0) (hf i)) ?_)
        clear hS; rintro _ _ w ⟨rfl, (⟨h_10, rfl⟩ | ⟨h_11, rfl⟩)⟩ hS
        ·
          replace hS : K.Sat w0 [fr] w := hS
          refine K.RW.qs [.tuple #[.string (K.sb (lineR (L.getD i call0))), .int .i64 0], .string (K.sb (lineR (L.getD i call0))), .int .i64 0, .string (K.sb (lineR (L.getD i call0))), .int .i64 0] (by kernel_rfl) ?_
          refine K.RW.nil ?_
          refine K.thn_normal ?_
          refine K.KW.seq ?_
          refine K.KW.seq ?_
          -- 9 :28
          refine K.KW.region ?_
          refine K.RW.qs [.slice (some ⟨b_8, of_9, none⟩) L.length cap, .int .i64 ((i : Nat) : Int)] (by kernel_rfl) ?_
          refine K.RW.q rfl rfl (K.QR.ix (of_9 + i * 11) 11 rfl rfl rfl Tryd.underlying38 (by kernel_rfl) (by omega) (by first | (simp; done) | omega | (simp; omega))) ?_
          refine K.RW.q rfl rfl (K.QR.ldN [.int .i64 ((L.getD i call0).th), .int .i64 ((L.getD i call0).ok), .int .u32 ((L.getD i call0).key), .int .u32 ((L.getD i call0).val), .int .i64 ((L.getD i call0).rk), .int .u32 ((L.getD i call0).rv), .int .i64 ((L.getD i call0).beg), .int .i64 ((L.getD i call0).en), .int .i64 ((L.getD i call0).wh), .bool ((L.getD i call0).cr), .bool ((L.getD i call0).kp)] rfl rfl (by kernel_rfl) (by kernel_rfl) (K.cells (K.cl ((hx.no hS.chg).ld i (by omega) 0 _ rfl) (K.cl ((hx.no hS.chg).ld i (by omega) 1 _ rfl) (K.cl ((hx.no hS.chg).ld i (by omega) 2 _ rfl) (K.cl ((hx.no hS.chg).ld i (by omega) 3 _ rfl) (K.cl ((hx.no hS.chg).ld i (by omega) 4 _ rfl) (K.cl ((hx.no hS.chg).ld i (by omega) 5 _ rfl) (K.cl ((hx.no hS.chg).ld i (by omega) 6 _ rfl) (K.cl ((hx.no hS.chg).ld i (by omega) 7 _ rfl) (K.cl ((hx.no hS.chg).ld i (by omega) 8 _ rfl) (K.cl ((hx.no hS.chg).ld i (by omega) 9 _ rfl) (K.cl ((hx.no hS.chg).ld i (by omega) 10 _ rfl) K.cl0))))))))))))) ?_
          refine K.RW.l rfl (K.OW.gcall hS [] [0] [.agg #[.int .i64 ((L.getD i call0).th), .int .i64 ((L.getD i call0).ok), .int .u32 ((L.getD i call0).key), .int .u32 ((L.getD i call0).val), .int .i64 ((L.getD i call0).rk), .int .u32 ((L.getD i call0).rv), .int .i64 ((L.getD i call0).beg), .int .i64 ((L.getD i call0).en), .int .i64 ((L.getD i call0).wh), .bool ((L.getD i call0).cr), .bool ((L.getD i call0).kp)]] (rmay_ok _ (L.getD i call0)) ?_)
          clear hS; rintro _ _ w ⟨rfl, (⟨h_12, rfl⟩ | ⟨h_13, rfl⟩)⟩ hS
          ·
            replace hS : K.Sat w0 [fr] w := hS
            refine K.RW.qs [.bool false] (by kernel_rfl) ?_
            refine K.RW.nil ?_
            refine K.thn_normal ?_
            refine K.KW.ifF rfl ?_
            refine K.KW.skip ?_
            refine K.thn_normal ?_
            refine K.KW.seq ?_
            -- 13 :35
            have hll := lineR_len h_10 (hf i)
            have hmay : (L.getD i call0).may := h_10
            refine K.KW.region ?_
            refine K.RW.qs [.string (K.sb (lineR (L.getD i call0)))] (by kernel_rfl) ?_
            refine K.RW.l rfl (K.OW.gcall hS [] [0] [.string (K.sb (lineR (L.getD i call0)))] (read_ok _ (lineR (L.getD i call0)) (by omega)) ?_)
            clear hS; rintro _ _ w ⟨rfl, (⟨h_14, rfl⟩ | ⟨h_15, rfl⟩)⟩ hS
            ·
              replace hS : K.Sat w0 [fr] w := hS
              refine K.RW.qs [.tuple #[.agg #[.int .i64 ((readR (lineR (L.getD i call0))).th), .int .i64 ((readR (lineR (L.getD i call0))).ok), .int .u32 ((readR (lineR (L.getD i call0))).key), .int .u32 ((readR (lineR (L.getD i call0))).val), .int .i64 ((readR (lineR (L.getD i call0))).rk), .int .u32 ((readR (lineR (L.getD i call0))).rv), .int .i64 ((readR (lineR (L.getD i call0))).beg), .int .i64 ((readR (lineR (L.getD i call0))).en), .int .i64 ((readR (lineR (L.getD i call0))).wh), .bool ((readR (lineR (L.getD i call0))).cr), .bool ((readR (lineR (L.getD i call0))).kp)], .int .i64 0], .agg #[.int .i64 ((readR (lineR (L.getD i call0))).th), .int .i64 ((readR (lineR (L.getD i call0))).ok), .int .u32 ((readR (lineR (L.getD i call0))).key), .int .u32 ((readR (lineR (L.getD i call0))).val), .int .i64 ((readR (lineR (L.getD i call0))).rk), .int .u32 ((readR (lineR (L.getD i call0))).rv), .int .i64 ((readR (lineR (L.getD i call0))).beg), .int .i64 ((readR (lineR (L.getD i call0))).en), .int .i64 ((readR (lineR (L.getD i call0))).wh), .bool ((readR (lineR (L.getD i call0))).cr), .bool ((readR (lineR (L.getD i call0))).kp)], .int .i64 0] (by kernel_rfl) ?_
              refine K.RW.l rfl (K.OW.gnew 29 [.int .i64 0, .int .i64 0, .int .u32 0, .int .u32 0, .int .i64 0, .int .u32 0, .int .i64 0, .int .i64 0, .int .i64 0, .bool false, .bool false] hS ?_)
              clear hS; intro w r_16 g_17 hg_18 hS
              refine K.RW.l rfl (K.OW.gst 0 [.int .i64 ((readR (lineR (L.getD i call0))).th), .int .i64 ((readR (lineR (L.getD i call0))).ok), .int .u32 ((readR (lineR (L.getD i call0))).key), .int .u32 ((readR (lineR (L.getD i call0))).val), .int .i64 ((readR (lineR (L.getD i call0))).rk), .int .u32 ((readR (lineR (L.getD i call0))).rv), .int .i64 ((readR (lineR (L.getD i call0))).beg), .int .i64 ((readR (lineR (L.getD i call0))).en), .int .i64 ((readR (lineR (L.getD i call0))).wh), .bool ((readR (lineR (L.getD i call0))).cr), .bool ((readR (lineR (L.getD i call0))).kp)] [.int .i64 ((readR (lineR (L.getD i call0))).th), .int .i64 ((readR (lineR (L.getD i call0))).ok), .int .u32 ((readR (lineR (L.getD i call0))).key), .int .u32 ((readR (lineR (L.getD i call0))).val), .int .i64 ((readR (lineR (L.getD i call0))).rk), .int .u32 ((readR (lineR (L.getD i call0))).rv), .int .i64 ((readR (lineR (L.getD i call0))).beg), .int .i64 ((readR (lineR (L.getD i call0))).en), .int .i64 ((readR (lineR (L.getD i call0))).wh), .bool ((readR (lineR (L.getD i call0))).cr), .bool ((readR (lineR (L.getD i call0))).kp)] hS hg_18 ?_)
              clear hS; intro w g_19 hg_20 hS
              replace hS : K.Sat w0 [g_19, fr] w := hS
              refine K.RW.qs [.int .i64 0] (by kernel_rfl) ?_
              refine K.RW.nil ?_
              refine K.thn_normal ?_
              refine K.KW.seq ?_
              refine K.KW.seq ?_
              -- 14 :36
              refine K.KW.gdrawn [0] hS (by kernel_rfl) ?_
              clear hS; intro w hS
              refine K.DW.l 0 rfl (by kernel_rfl) rfl (K.OW.q rfl (K.QR.k (v := .int .i64 0) (by kernel_rfl)) ?_)
              refine ⟨.inl (hS.pick [0]), ?_⟩
              refine K.DW.l 1 rfl (by kernel_rfl) rfl (K.OW.q rfl (K.QR.k (v := .bool false) (by kernel_rfl)) ?_)
              refine ⟨.inl (hS.pick [0]), ?_⟩
              refine K.DW.l 2 rfl (by kernel_rfl) rfl (K.OW.q rfl (K.QR.k (v := .bool false) (by kernel_rfl)) ?_)
              refine ⟨.inl (hS.pick [0]), ?_⟩
              refine K.DW.q 3 (by kernel_rfl) rfl rfl (by kernel_rfl) (by kernel_rfl) (fun w hS => K.QR.k (v := .string (K.sb (lineR (L.getD i call0)))) (by kernel_rfl)) (hS.pick [0]) ?_
              refine K.DW.q 4 (by kernel_rfl) rfl rfl (by kernel_rfl) (by kernel_rfl) (fun w hS => K.QR.k (v := .slice (some ⟨b_8, of_9, none⟩) L.length cap) (by kernel_rfl)) (hS.pick [0]) ?_
              refine K.DW.l 5 rfl (by kernel_rfl) (by kernel_rfl) (K.OW.q rfl (K.QR.k (v := .int .i64 ((i : Nat) : Int)) (by kernel_rfl)) ?_)
              refine ⟨.inl (hS.pick [0]), ?_⟩
              refine K.DW.l 6 rfl (by kernel_rfl) (by kernel_rfl) (K.OW.q rfl (K.QR.ix (of_9 + i * 11) 11 rfl rfl rfl Tryd.underlying38 (by kernel_rfl) (by omega) (by first | (simp; done) | omega | (simp; omega))) ?_)
              refine ⟨.inl (hS.pick [0]), ?_⟩
              refine K.DW.l 7 rfl (by kernel_rfl) (by kernel_rfl) (K.OW.q rfl (K.QR.ldN [.int .i64 ((L.getD i call0).th), .int .i64 ((L.getD i call0).ok), .int .u32 ((L.getD i call0).key), .int .u32 ((L.getD i call0).val), .int .i64 ((L.getD i call0).rk), .int .u32 ((L.getD i call0).rv), .int .i64 ((L.getD i call0).beg), .int .i64 ((L.getD i call0).en), .int .i64 ((L.getD i call0).wh), .bool ((L.getD i call0).cr), .bool ((L.getD i call0).kp)] rfl rfl (by kernel_rfl) (by kernel_rfl) (K.cells (K.cl ((hx.no hS.chg).ld i (by omega) 0 _ rfl) (K.cl ((hx.no hS.chg).ld i (by omega) 1 _ rfl) (K.cl ((hx.no hS.chg).ld i (by omega) 2 _ rfl) (K.cl ((hx.no hS.chg).ld i (by omega) 3 _ rfl) (K.cl ((hx.no hS.chg).ld i (by omega) 4 _ rfl) (K.cl ((hx.no hS.chg).ld i (by omega) 5 _ rfl) (K.cl ((hx.no hS.chg).ld i (by omega) 6 _ rfl) (K.cl ((hx.no hS.chg).ld i (by omega) 7 _ rfl) (K.cl ((hx.no hS.chg).ld i (by omega) 8 _ rfl) (K.cl ((hx.no hS.chg).ld i (by omega) 9 _ rfl) (K.cl ((hx.no hS.chg).ld i (by omega) 10 _ rfl) K.cl0))))))))))))) ?_)
              refine ⟨.inl (hS.pick [0]), ?_⟩
              refine K.DW.l 8 rfl (by kernel_rfl) (by kernel_rfl) (K.OW.gcall hS [] [0, 1] [.agg #[.int .i64 ((L.getD i call0).th), .int .i64 ((L.getD i call0).ok), .int .u32 ((L.getD i call0).key), .int .u32 ((L.getD i call0).val), .int .i64 ((L.getD i call0).rk), .int .u32 ((L.getD i call0).rv), .int .i64 ((L.getD i call0).beg), .int .i64 ((L.getD i call0).en), .int .i64 ((L.getD i call0).wh), .bool ((L.getD i call0).cr), .bool ((L.getD i call0).kp)]] (rline_ok _ (L.getD i call0) (hf i) (by assumption)) ?_)
              clear hS; rintro _ _ w ⟨rfl, rfl⟩ hS
              replace hS : K.Sat w0 [g_19, fr] w := hS
              refine ⟨.inl (hS.pick [0]), ?_⟩
              refine K.DW.l 9 rfl (by kernel_rfl) (by kernel_rfl) (K.OW.q rfl (K.QR.sNe (xs := (lineR (L.getD i call0))) (ys := (lineR (L.getD i call0))) false rfl rfl rfl (K.ndeq_t rfl)) ?_)
              refine ⟨.inl (hS.pick [0]), ?_⟩
              refine K.DW.l 10 rfl (by kernel_rfl) rfl (K.OW.q rfl (K.QR.k (v := .bool false) (by kernel_rfl)) ?_)
              refine ⟨.inl (hS.pick [0]), ?_⟩
              refine K.DW.l 11 rfl (by kernel_rfl) rfl (K.OW.q rfl (K.QR.k (v := .bool false) (by kernel_rfl)) ?_)
              refine ⟨.inl (hS.pick [0]), ?_⟩
              refine K.DW.l 12 rfl (by kernel_rfl) (by kernel_rfl) (K.OW.q rfl (K.QR.k (v := .int .i64 0) (by kernel_rfl)) ?_)
              refine ⟨.inl (hS.pick [0]), ?_⟩
              refine K.DW.l 13 rfl (by kernel_rfl) (by kernel_rfl) (K.OW.q rfl (K.QR.k (v := .bool false) (by kernel_rfl)) ?_)
              refine ⟨.inl (hS.pick [0]), ?_⟩
              refine K.DW.l 14 rfl (by kernel_rfl) rfl (K.OW.q rfl (K.QR.k (v := .bool false) (by kernel_rfl)) ?_)
              refine ⟨.inl (hS.pick [0]), ?_⟩
              refine K.DW.l 15 rfl (by kernel_rfl) rfl (K.OW.q rfl (K.QR.k (v := .bool false) (by kernel_rfl)) ?_)
              refine ⟨.inl (hS.pick [0]), ?_⟩
              refine K.DW.q 16 (by kernel_rfl) rfl rfl (by kernel_rfl) (by kernel_rfl) (fun w hS => K.QR.ldN [.int .i64 ((readR (lineR (L.getD i call0))).th), .int .i64 ((readR (lineR (L.getD i call0))).ok), .int .u32 ((readR (lineR (L.getD i call0))).key), .int .u32 ((readR (lineR (L.getD i call0))).val), .int .i64 ((readR (lineR (L.getD i call0))).rk), .int .u32 ((readR (lineR (L.getD i call0))).rv), .int .i64 ((readR (lineR (L.getD i call0))).beg), .int .i64 ((readR (lineR (L.getD i call0))).en), .int .i64 ((readR (lineR (L.getD i call0))).wh), .bool ((readR (lineR (L.getD i call0))).cr), .bool ((readR (lineR (L.getD i call0))).kp)] rfl rfl (by kernel_rfl) (by kernel_rfl) (K.cells (K.cl ((hS.blk 0 rfl hg_20).cell rfl) (K.cl ((hS.blk 0 rfl hg_20).cell rfl) (K.cl ((hS.blk 0 rfl hg_20).cell rfl) (K.cl ((hS.blk 0 rfl hg_20).cell rfl) (K.cl ((hS.blk 0 rfl hg_20).cell rfl) (K.cl ((hS.blk 0 rfl hg_20).cell rfl) (K.cl ((hS.blk 0 rfl hg_20).cell rfl) (K.cl ((hS.blk 0 rfl hg_20).cell rfl) (K.cl ((hS.blk 0 rfl hg_20).cell rfl) (K.cl ((hS.blk 0 rfl hg_20).cell rfl) (K.cl ((hS.blk 0 rfl hg_20).cell rfl) K.cl0))))))))))))) (hS.pick [0]) ?_
              refine K.DW.q 17 (by kernel_rfl) rfl rfl (by kernel_rfl) (by kernel_rfl) (fun w hS => K.QR.k (v := .slice (some ⟨b_8, of_9, none⟩) L.length cap) (by kernel_rfl)) (hS.pick [0]) ?_
              refine K.DW.l 18 rfl (by kernel_rfl) (by kernel_rfl) (K.OW.q rfl (K.QR.k (v := .int .i64 ((i : Nat) : Int)) (by kernel_rfl)) ?_)
              refine ⟨.inl (hS.pick [0]), ?_⟩
              refine K.DW.l 19 rfl (by kernel_rfl) (by kernel_rfl) (K.OW.q rfl (K.QR.ix (of_9 + i * 11) 11 rfl rfl rfl Tryd.underlying38 (by kernel_rfl) (by omega) (by first | (simp; done) | omega | (simp; omega))) ?_)
              refine ⟨.inl (hS.pick [0]), ?_⟩
              refine K.DW.l 20 rfl (by kernel_rfl) (by kernel_rfl) (K.OW.q rfl (K.QR.ldN [.int .i64 ((L.getD i call0).th), .int .i64 ((L.getD i call0).ok), .int .u32 ((L.getD i call0).key), .int .u32 ((L.getD i call0).val), .int .i64 ((L.getD i call0).rk), .int .u32 ((L.getD i call0).rv), .int .i64 ((L.getD i call0).beg), .int .i64 ((L.getD i call0).en), .int .i64 ((L.getD i call0).wh), .bool ((L.getD i call0).cr), .bool ((L.getD i call0).kp)] rfl rfl (by kernel_rfl) (by kernel_rfl) (K.cells (K.cl ((hx.no hS.chg).ld i (by omega) 0 _ rfl) (K.cl ((hx.no hS.chg).ld i (by omega) 1 _ rfl) (K.cl ((hx.no hS.chg).ld i (by omega) 2 _ rfl) (K.cl ((hx.no hS.chg).ld i (by omega) 3 _ rfl) (K.cl ((hx.no hS.chg).ld i (by omega) 4 _ rfl) (K.cl ((hx.no hS.chg).ld i (by omega) 5 _ rfl) (K.cl ((hx.no hS.chg).ld i (by omega) 6 _ rfl) (K.cl ((hx.no hS.chg).ld i (by omega) 7 _ rfl) (K.cl ((hx.no hS.chg).ld i (by omega) 8 _ rfl) (K.cl ((hx.no hS.chg).ld i (by omega) 9 _ rfl) (K.cl ((hx.no hS.chg).ld i (by omega) 10 _ rfl) K.cl0))))))))))))) ?_)
              refine ⟨.inl (hS.pick [0]), ?_⟩
              refine K.DW.l 21 rfl (by kernel_rfl) (by kernel_rfl) (K.OW.q rfl (K.QR.neS (by kernel_rfl) rfl rfl rfl (eqCall_t (by rw [(read_of_line hmay (hf i)).2]; simp))) ?_)
              refine ⟨.inl (hS.pick [0]), ?_⟩
              refine K.DW.l 22 rfl (by kernel_rfl) rfl (K.OW.q rfl (K.QR.k (v := .bool false) (by kernel_rfl)) ?_)
              refine ⟨.inl (hS.pick [0]), ?_⟩
              refine K.DW.done (by kernel_rfl) ?_
              refine K.thn_normal ?_
              refine K.KW.ifF rfl ?_
              refine K.KW.skip ?_
              refine K.thn_normal ?_
              -- 16 :39
              refine K.KW.region ?_
              refine K.RW.qs [.string (K.sb o), .string (K.sb (lineR (L.getD i call0)))] (by kernel_rfl) ?_
              refine K.RW.q rfl rfl (K.QR.sAdd (xs := o) (ys := (lineR (L.getD i call0))) rfl rfl rfl (by (try simp only [List.length_append, List.length_cons, List.length_nil] at *); omega)) ?_
              refine K.RW.q rfl rfl (K.QR.sAdd (xs := (o ++ (lineR (L.getD i call0)))) (ys := [10]) rfl rfl rfl (by (try simp only [List.length_append, List.length_cons, List.length_nil] at *); omega)) ?_
              refine K.RW.qs [.string (K.sb ((o ++ (lineR (L.getD i call0))) ++ ([10] : List UInt8)))] (by kernel_rfl) ?_
              refine K.RW.nil ?_
              refine K.blk_normal ?_
              refine K.thn_normal ?_
              -- 7 :26
              refine K.KW.region ?_
              refine K.RW.qs [.int .i64 ((i : Nat) : Int)] (by kernel_rfl) ?_
              refine K.RW.q rfl rfl (K.QR.n64 ((((i : Nat) : Int) : Int) + (1 : Int)) ((i + 1 : Nat) : Int) (by kernel_rfl) (by omega)) ?_
              refine K.RW.qs [.int .i64 ((i + 1 : Nat) : Int)] (by kernel_rfl) ?_
              refine K.RW.nil ?_
              refine K.thn_normal ?_
              refine ⟨_, ?_, i + 1, ((o ++ (lineR (L.getD i call0))) ++ ([10] : List UInt8)), mb, rfl, ⟨by rfl, by rfl, by rfl, by rfl, by rfl, trivial⟩, (by omega), (fun h => ⟨K.all_snoc (hmb h).1 hmay, by rw [(hmb h).2, tabR_next (by omega)]; simp⟩), (hmf), (by first | omega | (simp only [List.length_append, List.length_cons, List.length_nil]; omega)), hS.pick [1]⟩
              omega
            ·
              exact absurd (read_of_line h_10 (hf i)).1 h_15
          ·
            exact absurd h_10 h_13
        ·
          replace hS : K.Sat w0 [fr] w := hS
          refine K.RW.qs [.tuple #[.string (K.sb []), .int .i64 1], .string (K.sb []), .int .i64 1, .string (K.sb []), .int .i64 1] (by kernel_rfl) ?_
          refine K.RW.nil ?_
          refine K.thn_normal ?_
          refine K.KW.seq ?_
          refine K.KW.seq ?_
          -- 9 :28
          refine K.KW.region ?_
          refine K.RW.qs [.slice (some ⟨b_8, of_9, none⟩) L.length cap, .int .i64 ((i : Nat) : Int)] (by kernel_rfl) ?_
          refine K.RW.q rfl rfl (K.QR.ix (of_9 + i * 11) 11 rfl rfl rfl Tryd.underlying38 (by kernel_rfl) (by omega) (by first | (simp; done) | omega | (simp; omega))) ?_
          refine K.RW.q rfl rfl (K.QR.ldN [.int .i64 ((L.getD i call0).th), .int .i64 ((L.getD i call0).ok), .int .u32 ((L.getD i call0).key), .int .u32 ((L.getD i call0).val), .int .i64 ((L.getD i call0).rk), .int .u32 ((L.getD i call0).rv), .int .i64 ((L.getD i call0).beg), .int .i64 ((L.getD i call0).en), .int .i64 ((L.getD i call0).wh), .bool ((L.getD i call0).cr), .bool ((L.getD i call0).kp)] rfl rfl (by kernel_rfl) (by kernel_rfl) (K.cells (K.cl ((hx.no hS.chg).ld i (by omega) 0 _ rfl) (K.cl ((hx.no hS.chg).ld i (by omega) 1 _ rfl) (K.cl ((hx.no hS.chg).ld i (by omega) 2 _ rfl) (K.cl ((hx.no hS.chg).ld i (by omega) 3 _ rfl) (K.cl ((hx.no hS.chg).ld i (by omega) 4 _ rfl) (K.cl ((hx.no hS.chg).ld i (by omega) 5 _ rfl) (K.cl ((hx.no hS.chg).ld i (by omega) 6 _ rfl) (K.cl ((hx.no hS.chg).ld i (by omega) 7 _ rfl) (K.cl ((hx.no hS.chg).ld i (by omega) 8 _ rfl) (K.cl ((hx.no hS.chg).ld i (by omega) 9 _ rfl) (K.cl ((hx.no hS.chg).ld i (by omega) 10 _ rfl) K.cl0))))))))))))) ?_
          refine K.RW.l rfl (K.OW.gcall hS [] [0] [.agg #[.int .i64 ((L.getD i call0).th), .int .i64 ((L.getD i call0).ok), .int .u32 ((L.getD i call0).key), .int .u32 ((L.getD i call0).val), .int .i64 ((L.getD i call0).rk), .int .u32 ((L.getD i call0).rv), .int .i64 ((L.getD i call0).beg), .int .i64 ((L.getD i call0).en), .int .i64 ((L.getD i call0).wh), .bool ((L.getD i call0).cr), .bool ((L.getD i call0).kp)]] (rmay_ok _ (L.getD i call0)) ?_)
          clear hS; rintro _ _ w ⟨rfl, (⟨h_21, rfl⟩ | ⟨h_22, rfl⟩)⟩ hS
          ·
            exact absurd h_21 h_11
          ·
            replace hS : K.Sat w0 [fr] w := hS
            refine K.RW.qs [.bool true] (by kernel_rfl) ?_
            refine K.RW.nil ?_
            refine K.thn_normal ?_
            refine K.KW.ifT rfl ?_
            refine K.KW.seq ?_
            -- 10 :29
            refine K.KW.region ?_
            refine K.RW.qs [.bool false] (by kernel_rfl) ?_
            refine K.RW.nil ?_
            refine K.thn_normal ?_
            refine K.KW.seq ?_
            refine K.KW.seq ?_
            -- 11 :30
            refine K.KW.region ?_
            refine K.RW.qs [.int .i64 1, .bool false, .bool false, .string (K.sb [])] (by kernel_rfl) ?_
            refine K.RW.q rfl (by kernel_rfl) (K.QR.sNe (xs := []) (ys := []) false rfl rfl rfl (K.ndeq_t (by decide))) ?_
            refine K.RW.qs [.bool false] (by kernel_rfl) ?_
            refine K.RW.nil ?_
            refine K.thn_normal ?_
            refine K.KW.ifF rfl ?_
            refine K.KW.skip ?_
            refine K.thn_normal ?_
            refine K.KW.exit ?_
            refine K.thn_exit ?_
            refine K.blk_hit ?_
            refine K.thn_normal ?_
            -- 7 :26
            refine K.KW.region ?_
            refine K.RW.qs [.int .i64 ((i : Nat) : Int)] (by kernel_rfl) ?_
            refine K.RW.q rfl rfl (K.QR.n64 ((((i : Nat) : Int) : Int) + (1 : Int)) ((i + 1 : Nat) : Int) (by kernel_rfl) (by omega)) ?_
            refine K.RW.qs [.int .i64 ((i + 1 : Nat) : Int)] (by kernel_rfl) ?_
            refine K.RW.nil ?_
            refine K.thn_normal ?_
            refine ⟨_, ?_, i + 1, o, false, rfl, ⟨by rfl, by rfl, by rfl, by rfl, by rfl, trivial⟩, (by omega), (fun h => by cases h), (fun _ => ⟨i, by omega, h_11⟩), (by first | omega | (simp only [List.length_append, List.length_cons, List.length_nil]; omega)), hS.pick [0]⟩
            omega
      ·  -- no
        refine K.RW.q rfl rfl (K.QR.nice (v := .bool (decide ((((i : Nat) : Int) : Int) < (((L.length : Nat) : Int) : Int)))) (by kernel_rfl) (congrArg Value.bool (decide_eq_false h_7))) ?_
        refine K.RW.nil ?_
        refine K.thn_normal ?_
        refine K.KW.ifF rfl ?_
        refine K.KW.exit ?_
        refine K.thn_exit ?_
        refine K.thn_exit ?_
        refine K.blk_hit ?_
        refine K.thn_normal ?_
        refine K.KW.seq ?_
        -- 17 :41
        refine K.KW.region ?_
        refine K.RW.qs [.slice a L.length cap] (by kernel_rfl) ?_
        refine K.RW.l rfl (K.OW.gcall hS [51] [0] [.slice a L.length cap] (table_ok _ _ _ L (by omega) hf _ (fun w h => hx.no h.chg)) ?_)
        clear hS; rintro _ _ w ⟨rfl, (⟨h_23, rfl⟩ | ⟨h_24, rfl⟩)⟩ hS
        ·
          replace hS : K.Sat w0 [fr] w := hS.of (by simp [K.pick, K.nth])
          refine K.RW.qs [.tuple #[.string (K.sb (tabR L)), .int .i64 0], .string (K.sb (tabR L)), .int .i64 0, .string (K.sb (tabR L)), .int .i64 0] (by kernel_rfl) ?_
          refine K.RW.nil ?_
          refine K.thn_normal ?_
          refine K.KW.seq ?_
          refine K.KW.seq ?_
          -- 18 :42
          refine K.KW.region ?_
          refine K.RW.qs [.bool mb] (by kernel_rfl) ?_
          cases hb_25 : mb
          ·
            refine K.RW.qs [.bool true] (by kernel_rfl) ?_
            refine K.RW.nil ?_
            refine K.thn_normal ?_
            refine K.KW.ifT rfl ?_
            refine K.KW.seq ?_
            -- 19 :43
            exfalso
            obtain ⟨q, hq, hh⟩ := hmf hb_25
            exact hh (h_23 q hq)
          ·
            refine K.RW.qs [.bool false] (by kernel_rfl) ?_
            refine K.RW.nil ?_
            refine K.thn_normal ?_
            refine K.KW.ifF rfl ?_
            refine K.KW.skip ?_
            refine K.thn_normal ?_
            refine K.KW.seq ?_
            -- 20 :45
            refine K.KW.region ?_
            refine K.RW.l rfl (K.OW.gcall hS [] [0] [] (awake29_ok _) ?_)
            clear hS; rintro _ _ w ⟨rfl, rfl⟩ hS
            replace hS : K.Sat w0 [fr] w := hS
            refine K.RW.qs [.bool true, .int .i64 0, .bool true, .bool true, .bool true, .string (K.sb (tabR L)), .string (K.sb o)] (by kernel_rfl) ?_
            refine K.RW.q rfl (by kernel_rfl) (K.QR.sEq (xs := (tabR L)) (ys := o) true rfl rfl rfl (K.deq_t (by rw [(hmb hb_25).2, List.take_of_length_le (by omega)]))) ?_
            refine K.RW.qs [.bool true, .bool true] (by kernel_rfl) ?_
            refine K.RW.nil ?_
            refine K.thn_normal ?_
            refine K.KW.ret ?_
            refine ⟨.inr rfl, rfl, (.bool true), K.res1 rfl rfl, [], ?_, hS.pick [0]⟩
            exact rfl
        ·
          replace hS : K.Sat w0 [fr] w := hS.of (by simp [K.pick, K.nth])
          refine K.RW.qs [.tuple #[.string (K.sb []), .int .i64 1], .string (K.sb []), .int .i64 1, .string (K.sb []), .int .i64 1] (by kernel_rfl) ?_
          refine K.RW.nil ?_
          refine K.thn_normal ?_
          refine K.KW.seq ?_
          refine K.KW.seq ?_
          -- 18 :42
          refine K.KW.region ?_
          refine K.RW.qs [.bool mb] (by kernel_rfl) ?_
          cases hb_26 : mb
          ·
            refine K.RW.qs [.bool true] (by kernel_rfl) ?_
            refine K.RW.nil ?_
            refine K.thn_normal ?_
            refine K.KW.ifT rfl ?_
            refine K.KW.seq ?_
            -- 19 :43
            refine K.KW.region ?_
            refine K.RW.l rfl (K.OW.gcall hS [] [0] [] (awake29_ok _) ?_)
            clear hS; rintro _ _ w ⟨rfl, rfl⟩ hS
            replace hS : K.Sat w0 [fr] w := hS
            refine K.RW.qs [.bool true, .int .i64 1, .bool true, .bool true, .bool true, .string (K.sb [])] (by kernel_rfl) ?_
            refine K.RW.q rfl (by kernel_rfl) (K.QR.sEq (xs := []) (ys := []) true rfl rfl rfl (K.deq_t (by decide))) ?_
            refine K.RW.qs [.bool true, .bool true] (by kernel_rfl) ?_
            refine K.RW.nil ?_
            refine K.thn_normal ?_
            refine K.KW.ret ?_
            refine K.thn_ret ?_
            refine ⟨.inr rfl, rfl, (.bool true), K.res1 rfl rfl, [], ?_, hS.pick [0]⟩
            exact rfl
          ·
            refine K.RW.qs [.bool false] (by kernel_rfl) ?_
            refine K.RW.nil ?_
            refine K.thn_normal ?_
            refine K.KW.ifF rfl ?_
            refine K.KW.skip ?_
            refine K.thn_normal ?_
            refine K.KW.seq ?_
            -- 20 :45
            exfalso
            exact h_24 fun q hq => (hmb hb_26).1 q (by omega)
end Go.Proofs.YtnehocjmgnhhhaaDoor
