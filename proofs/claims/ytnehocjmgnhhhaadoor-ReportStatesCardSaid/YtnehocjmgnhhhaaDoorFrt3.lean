import Derived.Test.YtnehocjmgnhhhaaDoorFrt2
/- Reports: ReadState. -/
namespace Go.Proofs.YtnehocjmgnhhhaaDoor
open Go.RowKit
set_option linter.unusedVariables false
attribute [local irreducible] K.KW K.RW K.DW K.OW K.QR K.KC
/-- what ReadState answers -/
def RsOk (w0 : World) (l : List UInt8) (v : Value) (post : List K.Cs) : Prop :=
  (∃ (S : StM) (a1 a2 a3 : Option Addr) (c1 c2 c3 : Nat) (g1 g2 g3 : K.Cs), readSt l = some S ∧ (risingB S.s && risingB (keysP S.m)) = true ∧ post = [g1, g2, g3] ∧ v = .tuple #[.agg #[.slice a1 S.q.length c1, .slice a2 S.s.length c2, .slice a3 S.m.length c3], .int .i64 0] ∧
    K.OwnG g1 23 1 a1 S.q.length c1 (S.q.flatMap cU32) ∧ K.OwnG g2 23 1 a2 S.s.length c2 (S.s.flatMap cU32) ∧ K.OwnG g3 92 2 a3 S.m.length c3 (S.m.flatMap cPair)) ∨
  (readSt l = none ∧ post = [] ∧ v = .tuple #[.agg #[.slice none 0 0, .slice none 0 0, .slice none 0 0], .int .i64 3]) ∨
  (∃ S, readSt l = some S ∧ (risingB S.s && risingB (keysP S.m)) = false ∧ post = [] ∧ v = .tuple #[.agg #[.slice none 0 0, .slice none 0 0, .slice none 0 0], .int .i64 9])
set_option maxHeartbeats 4000000 in
set_option maxRecDepth 100000 in
theorem rstate_ok (w0 : World) (l : List UInt8) (hl : l.length ≤ 1000000) (hw : ∀ S, readSt l = some S → S.few) :
    K.GC Tryd.prog w0 17 #[.string (K.sb l)] [] (fun v post => RsOk w0 l v post) := by
  refine K.GC.mk (n := 65) Tryd.func17 rfl rfl [.string (K.sb l)] rfl rfl ?_
  intro fr w hS
  replace hS : K.Sat w0 [fr] w := hS
  refine K.KW.seq ?_
  -- 0 :196
  refine K.KW.region ?_
  refine K.RW.l rfl (K.OW.gnew 46 [.slice none 0 0, .slice none 0 0, .slice none 0 0] hS ?_)
  clear hS; intro w r_1 g_2 hg_3 hS
  refine K.RW.qs [.int .i64 0] (by kernel_rfl) ?_
  refine K.RW.nil ?_
  refine K.thn_normal ?_
  refine K.KW.seq ?_
  -- 1 :197
  refine K.KW.region ?_
  refine K.RW.qs [.string (K.sb l)] (by kernel_rfl) ?_
  refine K.RW.l rfl (K.OW.gcall hS [] [0, 1] [.string (K.sb l), .string (K.sb [10])] (split_ok _ l 10 (by omega)) ?_)
  clear hS; rintro _ _ w ⟨r_4, g_5, rfl, rfl, o_6⟩ hS
  replace hS : K.Sat w0 [g_5, g_2, fr] w := hS
  refine K.RW.qs [.slice (some ⟨r_4, 0, none⟩) ((K.spl 10 l).length) ((K.spl 10 l).length)] (by kernel_rfl) ?_
  refine K.RW.nil ?_
  refine K.thn_normal ?_
  refine K.KW.seq ?_
  refine K.KW.seq ?_
  -- 2 :198
  have hl0 := K.getD_spl_len 10 l 0
  have hl1 := K.getD_spl_len 10 l 1
  have hl2 := K.getD_spl_len 10 l 2
  have hl3 := K.getD_spl_len 10 l 3
  refine K.KW.region ?_
  refine K.RW.qs [.slice (some ⟨r_4, 0, none⟩) ((K.spl 10 l).length) ((K.spl 10 l).length)] (by kernel_rfl) ?_
  refine K.RW.q rfl rfl (K.QR.len (P := Tryd.prog) rfl rfl Tryd.underlying68) ?_
  by_cases h_7 : ((((K.spl 10 l).length : Nat) : Int) : Int) = (4 : Int)
  ·  -- yes
    refine K.RW.q rfl rfl (K.QR.nice (v := .bool (((((K.spl 10 l).length : Nat) : Int) : Int) != (4 : Int))) (by kernel_rfl) (congrArg Value.bool (bne_eq_false_iff_eq.2 h_7))) ?_
    refine K.RW.qs [.bool false, .slice (some ⟨r_4, 0, none⟩) ((K.spl 10 l).length) ((K.spl 10 l).length)] (by kernel_rfl) ?_
    refine K.RW.q rfl (by kernel_rfl) (K.QR.ix 3 1 rfl rfl rfl Tryd.underlying68 (by kernel_rfl) (by omega) (by first | (simp; done) | omega | (simp; omega))) ?_
    refine K.RW.q rfl (by kernel_rfl) (K.QR.ld1 (v := .string (K.sb ((K.spl 10 l).getD 3 []))) rfl rfl (by kernel_rfl) (K.Own.atS (c := K.cStr) (d := []) (fun _ => rfl) (hS.ownr 0 rfl o_6) rfl 3 (by omega))) ?_
    by_cases h_8 : ((K.spl 10 l).getD 3 []) = ([] : List UInt8)
    ·  -- yes
      refine K.RW.q rfl (by kernel_rfl) (K.QR.sNe (xs := (K.spl 10 l).getD 3 []) (ys := []) false rfl rfl rfl (K.ndeq_t h_8)) ?_
      refine K.RW.qs [.bool false] (by kernel_rfl) ?_
      refine K.RW.nil ?_
      refine K.thn_normal ?_
      refine K.KW.ifF rfl ?_
      refine K.KW.skip ?_
      refine K.thn_normal ?_
      refine K.KW.seq ?_
      -- 4 :201
      refine K.KW.region ?_
      refine K.RW.qs [.slice (some ⟨r_4, 0, none⟩) ((K.spl 10 l).length) ((K.spl 10 l).length)] (by kernel_rfl) ?_
      refine K.RW.q rfl rfl (K.QR.ix 0 1 rfl rfl rfl Tryd.underlying68 (by kernel_rfl) (by omega) (by first | (simp; done) | omega | (simp; omega))) ?_
      refine K.RW.q rfl rfl (K.QR.ld1 (v := .string (K.sb ((K.spl 10 l).getD 0 []))) rfl rfl (by kernel_rfl) (K.Own.atS (c := K.cStr) (d := []) (fun _ => rfl) (hS.ownr 0 rfl o_6) rfl 0 (by omega))) ?_
      refine K.RW.l rfl (K.OW.gcall hS [] [0, 1, 2] [.string (K.sb ((K.spl 10 l).getD 0 [])), .string (K.sb [113, 117, 101, 117, 101]), .func (.func 57) [].toArray [].toArray] (rrowU_ok _ ((K.spl 10 l).getD 0 []) ([113, 117, 101, 117, 101] : List UInt8) (by omega)) ?_)
      clear hS; rintro _ _ w (⟨L_9, r_10, c_11, g_12, h_13, rfl, rfl, o_14⟩ | ⟨h_15, rfl, rfl⟩) hS
      ·
        replace hS : K.Sat w0 [g_12, g_5, g_2, fr] w := hS
        refine K.RW.qs [.tuple #[.slice r_10 L_9.length c_11, .bool true], .slice r_10 L_9.length c_11, .bool true, .slice r_10 L_9.length c_11, .bool true] (by kernel_rfl) ?_
        refine K.RW.nil ?_
        refine K.thn_normal ?_
        refine K.KW.seq ?_
        -- 5 :202
        refine K.KW.region ?_
        refine K.RW.qs [.slice (some ⟨r_4, 0, none⟩) ((K.spl 10 l).length) ((K.spl 10 l).length)] (by kernel_rfl) ?_
        refine K.RW.q rfl rfl (K.QR.ix 1 1 rfl rfl rfl Tryd.underlying68 (by kernel_rfl) (by omega) (by first | (simp; done) | omega | (simp; omega))) ?_
        refine K.RW.q rfl rfl (K.QR.ld1 (v := .string (K.sb ((K.spl 10 l).getD 1 []))) rfl rfl (by kernel_rfl) (K.Own.atS (c := K.cStr) (d := []) (fun _ => rfl) (hS.ownr 1 rfl o_6) rfl 1 (by omega))) ?_
        refine K.RW.l rfl (K.OW.gcall hS [] [0, 1, 2, 3] [.string (K.sb ((K.spl 10 l).getD 1 [])), .string (K.sb [115, 101, 116]), .func (.func 57) [].toArray [].toArray] (rrowU_ok _ ((K.spl 10 l).getD 1 []) ([115, 101, 116] : List UInt8) (by omega)) ?_)
        clear hS; rintro _ _ w (⟨L_16, r_17, c_18, g_19, h_20, rfl, rfl, o_21⟩ | ⟨h_22, rfl, rfl⟩) hS
        ·
          replace hS : K.Sat w0 [g_19, g_12, g_5, g_2, fr] w := hS
          refine K.RW.qs [.tuple #[.slice r_17 L_16.length c_18, .bool true], .slice r_17 L_16.length c_18, .bool true, .slice r_17 L_16.length c_18, .bool true] (by kernel_rfl) ?_
          refine K.RW.nil ?_
          refine K.thn_normal ?_
          refine K.KW.seq ?_
          -- 6 :203
          refine K.KW.region ?_
          refine K.RW.qs [.slice (some ⟨r_4, 0, none⟩) ((K.spl 10 l).length) ((K.spl 10 l).length)] (by kernel_rfl) ?_
          refine K.RW.q rfl rfl (K.QR.ix 2 1 rfl rfl rfl Tryd.underlying68 (by kernel_rfl) (by omega) (by first | (simp; done) | omega | (simp; omega))) ?_
          refine K.RW.q rfl rfl (K.QR.ld1 (v := .string (K.sb ((K.spl 10 l).getD 2 []))) rfl rfl (by kernel_rfl) (K.Own.atS (c := K.cStr) (d := []) (fun _ => rfl) (hS.ownr 2 rfl o_6) rfl 2 (by omega))) ?_
          refine K.RW.l rfl (K.OW.gcall hS [] [0, 1, 2, 3, 4] [.string (K.sb ((K.spl 10 l).getD 2 [])), .string (K.sb [109, 97, 112]), .func (.func 59) [].toArray [].toArray] (rrowP_ok _ ((K.spl 10 l).getD 2 []) ([109, 97, 112] : List UInt8) (by omega)) ?_)
          clear hS; rintro _ _ w (⟨L_23, r_24, c_25, g_26, h_27, rfl, rfl, o_28⟩ | ⟨h_29, rfl, rfl⟩) hS
          ·
            replace hS : K.Sat w0 [g_26, g_19, g_12, g_5, g_2, fr] w := hS
            refine K.RW.qs [.tuple #[.slice r_24 L_23.length c_25, .bool true], .slice r_24 L_23.length c_25, .bool true, .slice r_24 L_23.length c_25, .bool true] (by kernel_rfl) ?_
            refine K.RW.nil ?_
            refine K.thn_normal ?_
            refine K.KW.seq ?_
            refine K.KW.seq ?_
            -- 7 :204
            refine K.KW.region ?_
            refine K.RW.qs [.bool true, .bool false, .bool false, .bool true, .bool false, .bool false, .bool false, .bool true, .bool false, .bool false] (by kernel_rfl) ?_
            refine K.RW.nil ?_
            refine K.thn_normal ?_
            refine K.KW.ifF rfl ?_
            refine K.KW.skip ?_
            refine K.thn_normal ?_
            refine K.KW.seq ?_
            -- 9 :207
            have hrs := readSt_some (l := l) (by omega) (by assumption) h_13 h_20 h_27
            have hfew := hw _ hrs
            unfold StM.few at hfew
            obtain ⟨hf1, hf2, hf3⟩ := hfew
            simp only at hf1 hf2 hf3
            refine K.KW.region ?_
            refine K.RW.qs [.slice r_10 L_9.length c_11, .slice r_17 L_16.length c_18, .slice r_24 L_23.length c_25] (by kernel_rfl) ?_
            refine K.RW.q rfl rfl (K.QR.bd [(0, .slice r_10 L_9.length c_11), (1, .slice r_17 L_16.length c_18), (2, .slice r_24 L_23.length c_25)] [.slice r_10 L_9.length c_11, .slice r_17 L_16.length c_18, .slice r_24 L_23.length c_25] rfl rfl (by kernel_rfl)) ?_
            refine K.RW.l rfl (K.OW.gnew 46 [.slice none 0 0, .slice none 0 0, .slice none 0 0] hS ?_)
            clear hS; intro w r_30 g_31 hg_32 hS
            refine K.RW.l rfl (K.OW.gst 0 [.slice r_10 L_9.length c_11, .slice r_17 L_16.length c_18, .slice r_24 L_23.length c_25] [.slice r_10 L_9.length c_11, .slice r_17 L_16.length c_18, .slice r_24 L_23.length c_25] hS hg_32 ?_)
            clear hS; intro w g_33 hg_34 hS
            replace hS : K.Sat w0 [g_33, g_26, g_19, g_12, g_5, g_2, fr] w := hS
            refine K.RW.nil ?_
            refine K.thn_normal ?_
            refine K.KW.seq ?_
            refine K.KW.seq ?_
            -- 10 :208
            refine K.KW.region ?_
            refine K.RW.q rfl rfl (K.QR.ldN [.slice r_10 L_9.length c_11, .slice r_17 L_16.length c_18, .slice r_24 L_23.length c_25] rfl rfl (by kernel_rfl) (by kernel_rfl) (K.cells (K.cl ((hS.blk 0 rfl hg_34).cell rfl) (K.cl ((hS.blk 0 rfl hg_34).cell rfl) (K.cl ((hS.blk 0 rfl hg_34).cell rfl) K.cl0))))) ?_
            refine K.RW.l rfl (K.OW.kcall hS [.agg #[.slice r_10 L_9.length c_11, .slice r_17 L_16.length c_18, .slice r_24 L_23.length c_25]] (right_ok _ _ _ _ _ _ _ L_16 L_23 _ (by first | omega | decide) (by first | omega | decide) (K.Own.rowE 0 (hS.ownr 2 rfl o_21) rfl (fun _ => rfl)) (K.Own.rowE p0 (hS.ownr 1 rfl o_28) rfl (fun _ => rfl))) ?_)
            rintro _ w ⟨rfl, c_35⟩
            replace hS := hS.no c_35
            cases hb_36 : (risingB L_16 && risingB (keysP L_23))
            ·
              refine K.RW.qs [.bool true] (by kernel_rfl) ?_
              refine K.RW.nil ?_
              refine K.thn_normal ?_
              refine K.KW.ifT rfl ?_
              refine K.KW.seq ?_
              -- 11 :209
              refine K.KW.region ?_
              refine K.RW.q rfl rfl (K.QR.bd [] [.slice none 0 0, .slice none 0 0, .slice none 0 0] rfl rfl (by kernel_rfl)) ?_
              refine K.RW.l rfl (K.OW.gst 5 [.slice none 0 0, .slice none 0 0, .slice none 0 0] [.slice none 0 0, .slice none 0 0, .slice none 0 0] hS hg_3 ?_)
              clear hS; intro w g_37 hg_38 hS
              replace hS : K.Sat w0 [g_33, g_26, g_19, g_12, g_5, g_37, fr] w := hS
              refine K.RW.qs [.int .i64 9] (by kernel_rfl) ?_
              refine K.RW.nil ?_
              refine K.thn_normal ?_
              refine K.KW.ret ?_
              refine K.thn_ret ?_
              refine ⟨.inr rfl, rfl, (.tuple #[.agg #[.slice none 0 0, .slice none 0 0, .slice none 0 0], .int .i64 9]), K.resAt (rs := [.cell 2 46, .tmp 3]) [.agg #[.slice none 0 0, .slice none 0 0, .slice none 0 0], .int .i64 9] rfl ⟨⟨_, rfl, K.lvN [.slice none 0 0, .slice none 0 0, .slice none 0 0] (by kernel_rfl) (by kernel_rfl) (K.cells (K.cl ((hS.blk 5 rfl hg_38).cell rfl) (K.cl ((hS.blk 5 rfl hg_38).cell rfl) (K.cl ((hS.blk 5 rfl hg_38).cell rfl) K.cl0))))⟩, rfl, trivial⟩, [], ?_, hS.pick [6]⟩
              exact .inr (.inr ⟨_, hrs, hb_36, rfl, rfl⟩)
            ·
              refine K.RW.qs [.bool false] (by kernel_rfl) ?_
              refine K.RW.nil ?_
              refine K.thn_normal ?_
              refine K.KW.ifF rfl ?_
              refine K.KW.skip ?_
              refine K.thn_normal ?_
              refine K.KW.seq ?_
              -- 12 :211
              refine K.KW.region ?_
              refine K.RW.q rfl rfl (K.QR.ldN [.slice r_10 L_9.length c_11, .slice r_17 L_16.length c_18, .slice r_24 L_23.length c_25] rfl rfl (by kernel_rfl) (by kernel_rfl) (K.cells (K.cl ((hS.blk 0 rfl hg_34).cell rfl) (K.cl ((hS.blk 0 rfl hg_34).cell rfl) (K.cl ((hS.blk 0 rfl hg_34).cell rfl) K.cl0))))) ?_
              refine K.RW.l rfl (K.OW.gst 5 [.slice r_10 L_9.length c_11, .slice r_17 L_16.length c_18, .slice r_24 L_23.length c_25] [.slice r_10 L_9.length c_11, .slice r_17 L_16.length c_18, .slice r_24 L_23.length c_25] hS hg_3 ?_)
              clear hS; intro w g_39 hg_40 hS
              replace hS : K.Sat w0 [g_33, g_26, g_19, g_12, g_5, g_39, fr] w := hS
              refine K.RW.qs [.int .i64 0] (by kernel_rfl) ?_
              refine K.RW.nil ?_
              refine K.thn_normal ?_
              refine K.KW.ret ?_
              refine ⟨.inr rfl, rfl, (.tuple #[.agg #[.slice r_10 L_9.length c_11, .slice r_17 L_16.length c_18, .slice r_24 L_23.length c_25], .int .i64 0]), K.resAt (rs := [.cell 2 46, .tmp 3]) [.agg #[.slice r_10 L_9.length c_11, .slice r_17 L_16.length c_18, .slice r_24 L_23.length c_25], .int .i64 0] rfl ⟨⟨_, rfl, K.lvN [.slice r_10 L_9.length c_11, .slice r_17 L_16.length c_18, .slice r_24 L_23.length c_25] (by kernel_rfl) (by kernel_rfl) (K.cells (K.cl ((hS.blk 5 rfl hg_40).cell rfl) (K.cl ((hS.blk 5 rfl hg_40).cell rfl) (K.cl ((hS.blk 5 rfl hg_40).cell rfl) K.cl0))))⟩, rfl, trivial⟩, [g_12, g_19, g_26], ?_, hS.pick [3, 2, 1, 6]⟩
              exact .inl ⟨_, _, _, _, _, _, _, _, _, _, hrs, hb_36, rfl, rfl, o_14, o_21, o_28⟩
          ·
            replace hS : K.Sat w0 [g_19, g_12, g_5, g_2, fr] w := hS
            refine K.RW.qs [.tuple #[.slice none 0 0, .bool false], .slice none 0 0, .bool false, .slice none 0 0, .bool false] (by kernel_rfl) ?_
            refine K.RW.nil ?_
            refine K.thn_normal ?_
            refine K.KW.seq ?_
            refine K.KW.seq ?_
            -- 7 :204
            refine K.KW.region ?_
            refine K.RW.qs [.bool true, .bool false, .bool false, .bool true, .bool false, .bool false, .bool false, .bool false, .bool true, .bool true] (by kernel_rfl) ?_
            refine K.RW.nil ?_
            refine K.thn_normal ?_
            refine K.KW.ifT rfl ?_
            refine K.KW.seq ?_
            -- 8 :205
            refine K.KW.region ?_
            refine K.RW.q rfl rfl (K.QR.bd [] [.slice none 0 0, .slice none 0 0, .slice none 0 0] rfl rfl (by kernel_rfl)) ?_
            refine K.RW.l rfl (K.OW.gst 3 [.slice none 0 0, .slice none 0 0, .slice none 0 0] [.slice none 0 0, .slice none 0 0, .slice none 0 0] hS hg_3 ?_)
            clear hS; intro w g_41 hg_42 hS
            replace hS : K.Sat w0 [g_19, g_12, g_5, g_41, fr] w := hS
            refine K.RW.qs [.int .i64 3] (by kernel_rfl) ?_
            refine K.RW.nil ?_
            refine K.thn_normal ?_
            refine K.KW.ret ?_
            refine K.thn_ret ?_
            refine ⟨.inr rfl, rfl, (.tuple #[.agg #[.slice none 0 0, .slice none 0 0, .slice none 0 0], .int .i64 3]), K.resAt (rs := [.cell 2 46, .tmp 3]) [.agg #[.slice none 0 0, .slice none 0 0, .slice none 0 0], .int .i64 3] rfl ⟨⟨_, rfl, K.lvN [.slice none 0 0, .slice none 0 0, .slice none 0 0] (by kernel_rfl) (by kernel_rfl) (K.cells (K.cl ((hS.blk 3 rfl hg_42).cell rfl) (K.cl ((hS.blk 3 rfl hg_42).cell rfl) (K.cl ((hS.blk 3 rfl hg_42).cell rfl) K.cl0))))⟩, rfl, trivial⟩, [], ?_, hS.pick [4]⟩
            exact .inr (.inl ⟨readSt_m h_29, rfl, rfl⟩)
        ·
          replace hS : K.Sat w0 [g_12, g_5, g_2, fr] w := hS
          refine K.RW.qs [.tuple #[.slice none 0 0, .bool false], .slice none 0 0, .bool false, .slice none 0 0, .bool false] (by kernel_rfl) ?_
          refine K.RW.nil ?_
          refine K.thn_normal ?_
          refine K.KW.seq ?_
          -- 6 :203
          refine K.KW.region ?_
          refine K.RW.qs [.slice (some ⟨r_4, 0, none⟩) ((K.spl 10 l).length) ((K.spl 10 l).length)] (by kernel_rfl) ?_
          refine K.RW.q rfl rfl (K.QR.ix 2 1 rfl rfl rfl Tryd.underlying68 (by kernel_rfl) (by omega) (by first | (simp; done) | omega | (simp; omega))) ?_
          refine K.RW.q rfl rfl (K.QR.ld1 (v := .string (K.sb ((K.spl 10 l).getD 2 []))) rfl rfl (by kernel_rfl) (K.Own.atS (c := K.cStr) (d := []) (fun _ => rfl) (hS.ownr 1 rfl o_6) rfl 2 (by omega))) ?_
          refine K.RW.l rfl (K.OW.gcall hS [] [0, 1, 2, 3] [.string (K.sb ((K.spl 10 l).getD 2 [])), .string (K.sb [109, 97, 112]), .func (.func 59) [].toArray [].toArray] (rrowP_ok _ ((K.spl 10 l).getD 2 []) ([109, 97, 112] : List UInt8) (by omega)) ?_)
          clear hS; rintro _ _ w (⟨L_43, r_44, c_45, g_46, h_47, rfl, rfl, o_48⟩ | ⟨h_49, rfl, rfl⟩) hS
          ·
            replace hS : K.Sat w0 [g_46, g_12, g_5, g_2, fr] w := hS
            refine K.RW.qs [.tuple #[.slice r_44 L_43.length c_45, .bool true], .slice r_44 L_43.length c_45, .bool true, .slice r_44 L_43.length c_45, .bool true] (by kernel_rfl) ?_
            refine K.RW.nil ?_
            refine K.thn_normal ?_
            refine K.KW.seq ?_
            refine K.KW.seq ?_
            -- 7 :204
            refine K.KW.region ?_
            refine K.RW.qs [.bool true, .bool false, .bool false, .bool false, .bool true, .bool true, .bool true] (by kernel_rfl) ?_
            refine K.RW.skip rfl (by kernel_rfl) ?_
            refine K.RW.skip rfl (by kernel_rfl) ?_
            refine K.RW.qs [.bool true] (by kernel_rfl) ?_
            refine K.RW.nil ?_
            refine K.thn_normal ?_
            refine K.KW.ifT rfl ?_
            refine K.KW.seq ?_
            -- 8 :205
            refine K.KW.region ?_
            refine K.RW.q rfl rfl (K.QR.bd [] [.slice none 0 0, .slice none 0 0, .slice none 0 0] rfl rfl (by kernel_rfl)) ?_
            refine K.RW.l rfl (K.OW.gst 3 [.slice none 0 0, .slice none 0 0, .slice none 0 0] [.slice none 0 0, .slice none 0 0, .slice none 0 0] hS hg_3 ?_)
            clear hS; intro w g_50 hg_51 hS
            replace hS : K.Sat w0 [g_46, g_12, g_5, g_50, fr] w := hS
            refine K.RW.qs [.int .i64 3] (by kernel_rfl) ?_
            refine K.RW.nil ?_
            refine K.thn_normal ?_
            refine K.KW.ret ?_
            refine K.thn_ret ?_
            refine ⟨.inr rfl, rfl, (.tuple #[.agg #[.slice none 0 0, .slice none 0 0, .slice none 0 0], .int .i64 3]), K.resAt (rs := [.cell 2 46, .tmp 3]) [.agg #[.slice none 0 0, .slice none 0 0, .slice none 0 0], .int .i64 3] rfl ⟨⟨_, rfl, K.lvN [.slice none 0 0, .slice none 0 0, .slice none 0 0] (by kernel_rfl) (by kernel_rfl) (K.cells (K.cl ((hS.blk 3 rfl hg_51).cell rfl) (K.cl ((hS.blk 3 rfl hg_51).cell rfl) (K.cl ((hS.blk 3 rfl hg_51).cell rfl) K.cl0))))⟩, rfl, trivial⟩, [], ?_, hS.pick [4]⟩
            exact .inr (.inl ⟨readSt_s h_22, rfl, rfl⟩)
          ·
            replace hS : K.Sat w0 [g_12, g_5, g_2, fr] w := hS
            refine K.RW.qs [.tuple #[.slice none 0 0, .bool false], .slice none 0 0, .bool false, .slice none 0 0, .bool false] (by kernel_rfl) ?_
            refine K.RW.nil ?_
            refine K.thn_normal ?_
            refine K.KW.seq ?_
            refine K.KW.seq ?_
            -- 7 :204
            refine K.KW.region ?_
            refine K.RW.qs [.bool true, .bool false, .bool false, .bool false, .bool true, .bool true, .bool true] (by kernel_rfl) ?_
            refine K.RW.skip rfl (by kernel_rfl) ?_
            refine K.RW.skip rfl (by kernel_rfl) ?_
            refine K.RW.qs [.bool true] (by kernel_rfl) ?_
            refine K.RW.nil ?_
            refine K.thn_normal ?_
            refine K.KW.ifT rfl ?_
            refine K.KW.seq ?_
            -- 8 :205
            refine K.KW.region ?_
            refine K.RW.q rfl rfl (K.QR.bd [] [.slice none 0 0, .slice none 0 0, .slice none 0 0] rfl rfl (by kernel_rfl)) ?_
            refine K.RW.l rfl (K.OW.gst 2 [.slice none 0 0, .slice none 0 0, .slice none 0 0] [.slice none 0 0, .slice none 0 0, .slice none 0 0] hS hg_3 ?_)
            clear hS; intro w g_52 hg_53 hS
            replace hS : K.Sat w0 [g_12, g_5, g_52, fr] w := hS
            refine K.RW.qs [.int .i64 3] (by kernel_rfl) ?_
            refine K.RW.nil ?_
            refine K.thn_normal ?_
            refine K.KW.ret ?_
            refine K.thn_ret ?_
            refine ⟨.inr rfl, rfl, (.tuple #[.agg #[.slice none 0 0, .slice none 0 0, .slice none 0 0], .int .i64 3]), K.resAt (rs := [.cell 2 46, .tmp 3]) [.agg #[.slice none 0 0, .slice none 0 0, .slice none 0 0], .int .i64 3] rfl ⟨⟨_, rfl, K.lvN [.slice none 0 0, .slice none 0 0, .slice none 0 0] (by kernel_rfl) (by kernel_rfl) (K.cells (K.cl ((hS.blk 2 rfl hg_53).cell rfl) (K.cl ((hS.blk 2 rfl hg_53).cell rfl) (K.cl ((hS.blk 2 rfl hg_53).cell rfl) K.cl0))))⟩, rfl, trivial⟩, [], ?_, hS.pick [3]⟩
            exact .inr (.inl ⟨readSt_s h_22, rfl, rfl⟩)
      ·
        replace hS : K.Sat w0 [g_5, g_2, fr] w := hS
        refine K.RW.qs [.tuple #[.slice none 0 0, .bool false], .slice none 0 0, .bool false, .slice none 0 0, .bool false] (by kernel_rfl) ?_
        refine K.RW.nil ?_
        refine K.thn_normal ?_
        refine K.KW.seq ?_
        -- 5 :202
        refine K.KW.region ?_
        refine K.RW.qs [.slice (some ⟨r_4, 0, none⟩) ((K.spl 10 l).length) ((K.spl 10 l).length)] (by kernel_rfl) ?_
        refine K.RW.q rfl rfl (K.QR.ix 1 1 rfl rfl rfl Tryd.underlying68 (by kernel_rfl) (by omega) (by first | (simp; done) | omega | (simp; omega))) ?_
        refine K.RW.q rfl rfl (K.QR.ld1 (v := .string (K.sb ((K.spl 10 l).getD 1 []))) rfl rfl (by kernel_rfl) (K.Own.atS (c := K.cStr) (d := []) (fun _ => rfl) (hS.ownr 0 rfl o_6) rfl 1 (by omega))) ?_
        refine K.RW.l rfl (K.OW.gcall hS [] [0, 1, 2] [.string (K.sb ((K.spl 10 l).getD 1 [])), .string (K.sb [115, 101, 116]), .func (.func 57) [].toArray [].toArray] (rrowU_ok _ ((K.spl 10 l).getD 1 []) ([115, 101, 116] : List UInt8) (by omega)) ?_)
        clear hS; rintro _ _ w (⟨L_54, r_55, c_56, g_57, h_58, rfl, rfl, o_59⟩ | ⟨h_60, rfl, rfl⟩) hS
        ·
          replace hS : K.Sat w0 [g_57, g_5, g_2, fr] w := hS
          refine K.RW.qs [.tuple #[.slice r_55 L_54.length c_56, .bool true], .slice r_55 L_54.length c_56, .bool true, .slice r_55 L_54.length c_56, .bool true] (by kernel_rfl) ?_
          refine K.RW.nil ?_
          refine K.thn_normal ?_
          refine K.KW.seq ?_
          -- 6 :203
          refine K.KW.region ?_
          refine K.RW.qs [.slice (some ⟨r_4, 0, none⟩) ((K.spl 10 l).length) ((K.spl 10 l).length)] (by kernel_rfl) ?_
          refine K.RW.q rfl rfl (K.QR.ix 2 1 rfl rfl rfl Tryd.underlying68 (by kernel_rfl) (by omega) (by first | (simp; done) | omega | (simp; omega))) ?_
          refine K.RW.q rfl rfl (K.QR.ld1 (v := .string (K.sb ((K.spl 10 l).getD 2 []))) rfl rfl (by kernel_rfl) (K.Own.atS (c := K.cStr) (d := []) (fun _ => rfl) (hS.ownr 1 rfl o_6) rfl 2 (by omega))) ?_
          refine K.RW.l rfl (K.OW.gcall hS [] [0, 1, 2, 3] [.string (K.sb ((K.spl 10 l).getD 2 [])), .string (K.sb [109, 97, 112]), .func (.func 59) [].toArray [].toArray] (rrowP_ok _ ((K.spl 10 l).getD 2 []) ([109, 97, 112] : List UInt8) (by omega)) ?_)
          clear hS; rintro _ _ w (⟨L_61, r_62, c_63, g_64, h_65, rfl, rfl, o_66⟩ | ⟨h_67, rfl, rfl⟩) hS
          ·
            replace hS : K.Sat w0 [g_64, g_57, g_5, g_2, fr] w := hS
            refine K.RW.qs [.tuple #[.slice r_62 L_61.length c_63, .bool true], .slice r_62 L_61.length c_63, .bool true, .slice r_62 L_61.length c_63, .bool true] (by kernel_rfl) ?_
            refine K.RW.nil ?_
            refine K.thn_normal ?_
            refine K.KW.seq ?_
            refine K.KW.seq ?_
            -- 7 :204
            refine K.KW.region ?_
            refine K.RW.qs [.bool false, .bool true, .bool true] (by kernel_rfl) ?_
            refine K.RW.skip rfl (by kernel_rfl) ?_
            refine K.RW.skip rfl (by kernel_rfl) ?_
            refine K.RW.qs [.bool true, .bool true] (by kernel_rfl) ?_
            refine K.RW.skip rfl (by kernel_rfl) ?_
            refine K.RW.skip rfl (by kernel_rfl) ?_
            refine K.RW.qs [.bool true] (by kernel_rfl) ?_
            refine K.RW.nil ?_
            refine K.thn_normal ?_
            refine K.KW.ifT rfl ?_
            refine K.KW.seq ?_
            -- 8 :205
            refine K.KW.region ?_
            refine K.RW.q rfl rfl (K.QR.bd [] [.slice none 0 0, .slice none 0 0, .slice none 0 0] rfl rfl (by kernel_rfl)) ?_
            refine K.RW.l rfl (K.OW.gst 3 [.slice none 0 0, .slice none 0 0, .slice none 0 0] [.slice none 0 0, .slice none 0 0, .slice none 0 0] hS hg_3 ?_)
            clear hS; intro w g_68 hg_69 hS
            replace hS : K.Sat w0 [g_64, g_57, g_5, g_68, fr] w := hS
            refine K.RW.qs [.int .i64 3] (by kernel_rfl) ?_
            refine K.RW.nil ?_
            refine K.thn_normal ?_
            refine K.KW.ret ?_
            refine K.thn_ret ?_
            refine ⟨.inr rfl, rfl, (.tuple #[.agg #[.slice none 0 0, .slice none 0 0, .slice none 0 0], .int .i64 3]), K.resAt (rs := [.cell 2 46, .tmp 3]) [.agg #[.slice none 0 0, .slice none 0 0, .slice none 0 0], .int .i64 3] rfl ⟨⟨_, rfl, K.lvN [.slice none 0 0, .slice none 0 0, .slice none 0 0] (by kernel_rfl) (by kernel_rfl) (K.cells (K.cl ((hS.blk 3 rfl hg_69).cell rfl) (K.cl ((hS.blk 3 rfl hg_69).cell rfl) (K.cl ((hS.blk 3 rfl hg_69).cell rfl) K.cl0))))⟩, rfl, trivial⟩, [], ?_, hS.pick [4]⟩
            exact .inr (.inl ⟨readSt_q h_15, rfl, rfl⟩)
          ·
            replace hS : K.Sat w0 [g_57, g_5, g_2, fr] w := hS
            refine K.RW.qs [.tuple #[.slice none 0 0, .bool false], .slice none 0 0, .bool false, .slice none 0 0, .bool false] (by kernel_rfl) ?_
            refine K.RW.nil ?_
            refine K.thn_normal ?_
            refine K.KW.seq ?_
            refine K.KW.seq ?_
            -- 7 :204
            refine K.KW.region ?_
            refine K.RW.qs [.bool false, .bool true, .bool true] (by kernel_rfl) ?_
            refine K.RW.skip rfl (by kernel_rfl) ?_
            refine K.RW.skip rfl (by kernel_rfl) ?_
            refine K.RW.qs [.bool true, .bool true] (by kernel_rfl) ?_
            refine K.RW.skip rfl (by kernel_rfl) ?_
            refine K.RW.skip rfl (by kernel_rfl) ?_
            refine K.RW.qs [.bool true] (by kernel_rfl) ?_
            refine K.RW.nil ?_
            refine K.thn_normal ?_
            refine K.KW.ifT rfl ?_
            refine K.KW.seq ?_
            -- 8 :205
            refine K.KW.region ?_
            refine K.RW.q rfl rfl (K.QR.bd [] [.slice none 0 0, .slice none 0 0, .slice none 0 0] rfl rfl (by kernel_rfl)) ?_
            refine K.RW.l rfl (K.OW.gst 2 [.slice none 0 0, .slice none 0 0, .slice none 0 0] [.slice none 0 0, .slice none 0 0, .slice none 0 0] hS hg_3 ?_)
            clear hS; intro w g_70 hg_71 hS
            replace hS : K.Sat w0 [g_57, g_5, g_70, fr] w := hS
            refine K.RW.qs [.int .i64 3] (by kernel_rfl) ?_
            refine K.RW.nil ?_
            refine K.thn_normal ?_
            refine K.KW.ret ?_
            refine K.thn_ret ?_
            refine ⟨.inr rfl, rfl, (.tuple #[.agg #[.slice none 0 0, .slice none 0 0, .slice none 0 0], .int .i64 3]), K.resAt (rs := [.cell 2 46, .tmp 3]) [.agg #[.slice none 0 0, .slice none 0 0, .slice none 0 0], .int .i64 3] rfl ⟨⟨_, rfl, K.lvN [.slice none 0 0, .slice none 0 0, .slice none 0 0] (by kernel_rfl) (by kernel_rfl) (K.cells (K.cl ((hS.blk 2 rfl hg_71).cell rfl) (K.cl ((hS.blk 2 rfl hg_71).cell rfl) (K.cl ((hS.blk 2 rfl hg_71).cell rfl) K.cl0))))⟩, rfl, trivial⟩, [], ?_, hS.pick [3]⟩
            exact .inr (.inl ⟨readSt_q h_15, rfl, rfl⟩)
        ·
          replace hS : K.Sat w0 [g_5, g_2, fr] w := hS
          refine K.RW.qs [.tuple #[.slice none 0 0, .bool false], .slice none 0 0, .bool false, .slice none 0 0, .bool false] (by kernel_rfl) ?_
          refine K.RW.nil ?_
          refine K.thn_normal ?_
          refine K.KW.seq ?_
          -- 6 :203
          refine K.KW.region ?_
          refine K.RW.qs [.slice (some ⟨r_4, 0, none⟩) ((K.spl 10 l).length) ((K.spl 10 l).length)] (by kernel_rfl) ?_
          refine K.RW.q rfl rfl (K.QR.ix 2 1 rfl rfl rfl Tryd.underlying68 (by kernel_rfl) (by omega) (by first | (simp; done) | omega | (simp; omega))) ?_
          refine K.RW.q rfl rfl (K.QR.ld1 (v := .string (K.sb ((K.spl 10 l).getD 2 []))) rfl rfl (by kernel_rfl) (K.Own.atS (c := K.cStr) (d := []) (fun _ => rfl) (hS.ownr 0 rfl o_6) rfl 2 (by omega))) ?_
          refine K.RW.l rfl (K.OW.gcall hS [] [0, 1, 2] [.string (K.sb ((K.spl 10 l).getD 2 [])), .string (K.sb [109, 97, 112]), .func (.func 59) [].toArray [].toArray] (rrowP_ok _ ((K.spl 10 l).getD 2 []) ([109, 97, 112] : List UInt8) (by omega)) ?_)
          clear hS; rintro _ _ w (⟨L_72, r_73, c_74, g_75, h_76, rfl, rfl, o_77⟩ | ⟨h_78, rfl, rfl⟩) hS
          ·
            replace hS : K.Sat w0 [g_75, g_5, g_2, fr] w := hS
            refine K.RW.qs [.tuple #[.slice r_73 L_72.length c_74, .bool true], .slice r_73 L_72.length c_74, .bool true, .slice r_73 L_72.length c_74, .bool true] (by kernel_rfl) ?_
            refine K.RW.nil ?_
            refine K.thn_normal ?_
            refine K.KW.seq ?_
            refine K.KW.seq ?_
            -- 7 :204
            refine K.KW.region ?_
            refine K.RW.qs [.bool false, .bool true, .bool true] (by kernel_rfl) ?_
            refine K.RW.skip rfl (by kernel_rfl) ?_
            refine K.RW.skip rfl (by kernel_rfl) ?_
            refine K.RW.qs [.bool true, .bool true] (by kernel_rfl) ?_
            refine K.RW.skip rfl (by kernel_rfl) ?_
            refine K.RW.skip rfl (by kernel_rfl) ?_
            refine K.RW.qs [.bool true] (by kernel_rfl) ?_
            refine K.RW.nil ?_
            refine K.thn_normal ?_
            refine K.KW.ifT rfl ?_
            refine K.KW.seq ?_
            -- 8 :205
            refine K.KW.region ?_
            refine K.RW.q rfl rfl (K.QR.bd [] [.slice none 0 0, .slice none 0 0, .slice none 0 0] rfl rfl (by kernel_rfl)) ?_
            refine K.RW.l rfl (K.OW.gst 2 [.slice none 0 0, .slice none 0 0, .slice none 0 0] [.slice none 0 0, .slice none 0 0, .slice none 0 0] hS hg_3 ?_)
            clear hS; intro w g_79 hg_80 hS
            replace hS : K.Sat w0 [g_75, g_5, g_79, fr] w := hS
            refine K.RW.qs [.int .i64 3] (by kernel_rfl) ?_
            refine K.RW.nil ?_
            refine K.thn_normal ?_
            refine K.KW.ret ?_
            refine K.thn_ret ?_
            refine ⟨.inr rfl, rfl, (.tuple #[.agg #[.slice none 0 0, .slice none 0 0, .slice none 0 0], .int .i64 3]), K.resAt (rs := [.cell 2 46, .tmp 3]) [.agg #[.slice none 0 0, .slice none 0 0, .slice none 0 0], .int .i64 3] rfl ⟨⟨_, rfl, K.lvN [.slice none 0 0, .slice none 0 0, .slice none 0 0] (by kernel_rfl) (by kernel_rfl) (K.cells (K.cl ((hS.blk 2 rfl hg_80).cell rfl) (K.cl ((hS.blk 2 rfl hg_80).cell rfl) (K.cl ((hS.blk 2 rfl hg_80).cell rfl) K.cl0))))⟩, rfl, trivial⟩, [], ?_, hS.pick [3]⟩
            exact .inr (.inl ⟨readSt_q h_15, rfl, rfl⟩)
          ·
            replace hS : K.Sat w0 [g_5, g_2, fr] w := hS
            refine K.RW.qs [.tuple #[.slice none 0 0, .bool false], .slice none 0 0, .bool false, .slice none 0 0, .bool false] (by kernel_rfl) ?_
            refine K.RW.nil ?_
            refine K.thn_normal ?_
            refine K.KW.seq ?_
            refine K.KW.seq ?_
            -- 7 :204
            refine K.KW.region ?_
            refine K.RW.qs [.bool false, .bool true, .bool true] (by kernel_rfl) ?_
            refine K.RW.skip rfl (by kernel_rfl) ?_
            refine K.RW.skip rfl (by kernel_rfl) ?_
            refine K.RW.qs [.bool true, .bool true] (by kernel_rfl) ?_
            refine K.RW.skip rfl (by kernel_rfl) ?_
            refine K.RW.skip rfl (by kernel_rfl) ?_
            refine K.RW.qs [.bool true] (by kernel_rfl) ?_
            refine K.RW.nil ?_
            refine K.thn_normal ?_
            refine K.KW.ifT rfl ?_
            refine K.KW.seq ?_
            -- 8 :205
            refine K.KW.region ?_
            refine K.RW.q rfl rfl (K.QR.bd [] [.slice none 0 0, .slice none 0 0, .slice none 0 0] rfl rfl (by kernel_rfl)) ?_
            refine K.RW.l rfl (K.OW.gst 1 [.slice none 0 0, .slice none 0 0, .slice none 0 0] [.slice none 0 0, .slice none 0 0, .slice none 0 0] hS hg_3 ?_)
            clear hS; intro w g_81 hg_82 hS
            replace hS : K.Sat w0 [g_5, g_81, fr] w := hS
            refine K.RW.qs [.int .i64 3] (by kernel_rfl) ?_
            refine K.RW.nil ?_
            refine K.thn_normal ?_
            refine K.KW.ret ?_
            refine K.thn_ret ?_
            refine ⟨.inr rfl, rfl, (.tuple #[.agg #[.slice none 0 0, .slice none 0 0, .slice none 0 0], .int .i64 3]), K.resAt (rs := [.cell 2 46, .tmp 3]) [.agg #[.slice none 0 0, .slice none 0 0, .slice none 0 0], .int .i64 3] rfl ⟨⟨_, rfl, K.lvN [.slice none 0 0, .slice none 0 0, .slice none 0 0] (by kernel_rfl) (by kernel_rfl) (K.cells (K.cl ((hS.blk 1 rfl hg_82).cell rfl) (K.cl ((hS.blk 1 rfl hg_82).cell rfl) (K.cl ((hS.blk 1 rfl hg_82).cell rfl) K.cl0))))⟩, rfl, trivial⟩, [], ?_, hS.pick [2]⟩
            exact .inr (.inl ⟨readSt_q h_15, rfl, rfl⟩)
    ·  -- no
      refine K.RW.q rfl (by kernel_rfl) (K.QR.sNe (xs := (K.spl 10 l).getD 3 []) (ys := []) true rfl rfl rfl (K.ndeq_f h_8)) ?_
      refine K.RW.qs [.bool true] (by kernel_rfl) ?_
      refine K.RW.nil ?_
      refine K.thn_normal ?_
      refine K.KW.ifT rfl ?_
      refine K.KW.seq ?_
      -- 3 :199
      refine K.KW.region ?_
      refine K.RW.q rfl rfl (K.QR.bd [] [.slice none 0 0, .slice none 0 0, .slice none 0 0] rfl rfl (by kernel_rfl)) ?_
      refine K.RW.l rfl (K.OW.gst 1 [.slice none 0 0, .slice none 0 0, .slice none 0 0] [.slice none 0 0, .slice none 0 0, .slice none 0 0] hS hg_3 ?_)
      clear hS; intro w g_83 hg_84 hS
      replace hS : K.Sat w0 [g_5, g_83, fr] w := hS
      refine K.RW.qs [.int .i64 3] (by kernel_rfl) ?_
      refine K.RW.nil ?_
      refine K.thn_normal ?_
      refine K.KW.ret ?_
      refine K.thn_ret ?_
      refine ⟨.inr rfl, rfl, (.tuple #[.agg #[.slice none 0 0, .slice none 0 0, .slice none 0 0], .int .i64 3]), K.resAt (rs := [.cell 2 46, .tmp 3]) [.agg #[.slice none 0 0, .slice none 0 0, .slice none 0 0], .int .i64 3] rfl ⟨⟨_, rfl, K.lvN [.slice none 0 0, .slice none 0 0, .slice none 0 0] (by kernel_rfl) (by kernel_rfl) (K.cells (K.cl ((hS.blk 1 rfl hg_84).cell rfl) (K.cl ((hS.blk 1 rfl hg_84).cell rfl) (K.cl ((hS.blk 1 rfl hg_84).cell rfl) K.cl0))))⟩, rfl, trivial⟩, [], ?_, hS.pick [2]⟩
      exact .inr (.inl ⟨readSt_len (by rintro ⟨h1, h2⟩; first | omega | exact absurd h2 (by assumption)), rfl, rfl⟩)
  ·  -- no
    refine K.RW.q rfl rfl (K.QR.nice (v := .bool (((((K.spl 10 l).length : Nat) : Int) : Int) != (4 : Int))) (by kernel_rfl) (congrArg Value.bool (bne_iff_ne.2 h_7))) ?_
    refine K.RW.qs [.bool true] (by kernel_rfl) ?_
    refine K.RW.skip rfl (by kernel_rfl) ?_
    refine K.RW.skip rfl (by kernel_rfl) ?_
    refine K.RW.skip rfl (by kernel_rfl) ?_
    refine K.RW.skip rfl (by kernel_rfl) ?_
    refine K.RW.qs [.bool true] (by kernel_rfl) ?_
    refine K.RW.nil ?_
    refine K.thn_normal ?_
    refine K.KW.ifT rfl ?_
    refine K.KW.seq ?_
    -- 3 :199
    refine K.KW.region ?_
    refine K.RW.q rfl rfl (K.QR.bd [] [.slice none 0 0, .slice none 0 0, .slice none 0 0] rfl rfl (by kernel_rfl)) ?_
    refine K.RW.l rfl (K.OW.gst 1 [.slice none 0 0, .slice none 0 0, .slice none 0 0] [.slice none 0 0, .slice none 0 0, .slice none 0 0] hS hg_3 ?_)
    clear hS; intro w g_85 hg_86 hS
    replace hS : K.Sat w0 [g_5, g_85, fr] w := hS
    refine K.RW.qs [.int .i64 3] (by kernel_rfl) ?_
    refine K.RW.nil ?_
    refine K.thn_normal ?_
    refine K.KW.ret ?_
    refine K.thn_ret ?_
    refine ⟨.inr rfl, rfl, (.tuple #[.agg #[.slice none 0 0, .slice none 0 0, .slice none 0 0], .int .i64 3]), K.resAt (rs := [.cell 2 46, .tmp 3]) [.agg #[.slice none 0 0, .slice none 0 0, .slice none 0 0], .int .i64 3] rfl ⟨⟨_, rfl, K.lvN [.slice none 0 0, .slice none 0 0, .slice none 0 0] (by kernel_rfl) (by kernel_rfl) (K.cells (K.cl ((hS.blk 1 rfl hg_86).cell rfl) (K.cl ((hS.blk 1 rfl hg_86).cell rfl) (K.cl ((hS.blk 1 rfl hg_86).cell rfl) K.cl0))))⟩, rfl, trivial⟩, [], ?_, hS.pick [2]⟩
    exact .inr (.inl ⟨readSt_len (by rintro ⟨h1, h2⟩; first | omega | exact absurd h2 (by assumption)), rfl, rfl⟩)
end Go.Proofs.YtnehocjmgnhhhaaDoor
