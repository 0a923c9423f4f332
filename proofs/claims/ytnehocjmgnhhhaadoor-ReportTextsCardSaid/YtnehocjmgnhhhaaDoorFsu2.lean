import Derived.Test.YtnehocjmgnhhhaaDoorFsu
import Derived.Test.YtnehocjmgnhhhaaDoorFsr
import Derived.Test.YtnehocjmgnhhhaaDoorFrp5
/- Reports: the document's ReadState. -/
namespace Go.Proofs.YtnehocjmgnhhhaaDoor
open Go.RowKit
set_option linter.unusedVariables false
attribute [local irreducible] K.KW K.RW K.DW K.OW K.QR K.KC
/-- a value of a word, as the document takes it -/
def valT (part : Nat) (w : List UInt8) : Int := if part < (K.spl 61 w).length then max (numR ((K.spl 61 w).getD part []) 4294967295) 0 else 0
def valsT (part : Nat) (l : List UInt8) : List Int := ((K.spl 32 l).drop 1).map (valT part)
theorem valT_in (part : Nat) (w : List UInt8) : isU32 (valT part w) := by
  unfold valT isU32
  split
  · have h1 := numR_ge ((K.spl 61 w).getD part []) 4294967295
    by_cases h : 0 ≤ numR ((K.spl 61 w).getD part []) 4294967295
    · have := numR_le h; omega
    · omega
  · omega
theorem map_next {α β : Type} {f : α → β} {d : α} {L : List α} {j : Nat} (h : j < L.length) : (L.take (j + 1)).map f = (L.take j).map f ++ [f (L.getD j d)] := by
  rw [List.take_succ_eq_append_getElem h, List.map_append]; simp [h]
theorem drop1_get (L : List (List UInt8)) (j : Nat) : (L.drop 1).getD j [] = L.getD (j + 1) [] := by
  rw [List.getD_eq_getElem?_getD, List.getD_eq_getElem?_getD, List.getElem?_drop, Nat.add_comm]
set_option maxHeartbeats 4000000 in
set_option maxRecDepth 100000 in
theorem values_ok (w0 : World) (l : List UInt8) (part : Nat) (hp : part ≤ 1) (hl : l.length ≤ 1000000) :
    K.GC Tryd.prog w0 63 #[.string (K.sb l), .int .i64 ((part : Nat) : Int)] [] (fun v post => ∃ r c g, post = [g] ∧ v = .slice r (valsT part l).length c ∧ K.OwnG g 23 1 r (valsT part l).length c ((valsT part l).flatMap cU32)) := by
  refine K.GC.mk (n := 39) Tryd.func63 rfl rfl [.string (K.sb l), .int .i64 ((part : Nat) : Int)] rfl rfl ?_
  intro fr w hS
  replace hS : K.Sat w0 [fr] w := hS
  refine K.KW.seq ?_
  -- 0 :136
  refine K.KW.region ?_
  refine K.RW.qs [.slice none 0 0] (by kernel_rfl) ?_
  refine K.RW.nil ?_
  refine K.thn_normal ?_
  refine K.KW.seq ?_
  -- 1 :137
  refine K.KW.region ?_
  refine K.RW.qs [.string (K.sb l)] (by kernel_rfl) ?_
  refine K.RW.l rfl (K.OW.gcall hS [] [0] [.string (K.sb l), .int .u8 32] (rsplit_ok _ l 32 (by omega)) ?_)
  clear hS; rintro _ _ w ⟨r_1, g_2, k_3, rfl, rfl, o_4⟩ hS
  replace hS : K.Sat w0 [g_2, fr] w := hS
  refine K.RW.qs [.slice r_1 ((K.spl 32 l).length) k_3] (by kernel_rfl) ?_
  refine K.RW.nil ?_
  refine K.thn_normal ?_
  refine K.KW.seq ?_
  -- 2 :138
  refine K.KW.region ?_
  refine K.RW.qs [.slice none 0 0] (by kernel_rfl) ?_
  refine K.RW.nil ?_
  refine K.thn_normal ?_
  refine K.KW.seq ?_
  refine K.KW.seq ?_
  -- 3 :139
  refine K.KW.region ?_
  refine K.RW.qs [.int .i64 1] (by kernel_rfl) ?_
  refine K.RW.nil ?_
  refine K.thn_normal ?_
  refine K.KW.block ?_
  obtain ⟨z_5, hz_6⟩ : ∃ z : K.Cs, z = [] := ⟨_, rfl⟩
  replace hS : K.Sat w0 [z_5, g_2, fr] w := hS.of (by simp [hz_6])
  have o_7 : K.OwnG z_5 23 1 none 0 0 [] := by rw [hz_6]; exact K.OwnG.nil _ _
  refine K.KW.loop (fun m_ F_ w_ => ∃ (j : Nat) (o : List Int) (q1 : Option Addr) (c1 : Nat) (o1 : K.Cs), m_ = (K.spl 32 l).length - j ∧ K.Sl F_ [(0, .string (K.sb l)), (1, .int .i64 ((part : Nat) : Int)), (4, .slice none 0 0), (5, .slice r_1 ((K.spl 32 l).length) k_3), (6, .slice q1 o.length c1), (7, .int .i64 ((j + 1 : Nat) : Int)), (39, undef)] ∧ j + 1 ≤ (K.spl 32 l).length ∧ o = (((K.spl 32 l).drop 1).take j).map (valT part) ∧ o.length ≤ j ∧ K.OwnG o1 23 1 q1 o.length c1 ((o).flatMap cU32) ∧ K.Sat w0 [o1, g_2, fr] w_) ((fun (j : Nat) (o : List Int) (q1 : Option Addr) (c1 : Nat) => (K.spl 32 l).length - j) 0 [] none 0) ?_ ?_
  · -- begins
    exact ⟨0, [], none, 0, z_5, rfl, ⟨by rfl, by rfl, by rfl, by rfl, by rfl, by rfl, by rfl, trivial⟩, (by have := K.spl_len 32 l; omega), (rfl), (by exact Nat.le_refl 0), o_7, hS.pick [0, 1, 2]⟩
  · -- a round
    clear hS
    intro m_8 F_9 w hI
    obtain ⟨j, o, q1, c1, o1, rfl, sl_10, p_11, ho, p_12, x_13, hS⟩ := hI
    rw [← K.Sl.puts sl_10]; clear sl_10
    have hsl := K.spl_len 32 l
    have hcl : l.count 32 ≤ l.length := List.count_le_length
    refine K.KW.seq ?_
    refine K.KW.seq ?_
    -- 4 :139
    refine K.KW.region ?_
    refine K.RW.qs [.int .i64 ((j + 1 : Nat) : Int), .slice r_1 ((K.spl 32 l).length) k_3] (by kernel_rfl) ?_
    refine K.RW.q rfl rfl (K.QR.len (P := Tryd.prog) rfl rfl Tryd.underlying68) ?_
    by_cases h_14 : (((j + 1 : Nat) : Int) : Int) < ((((K.spl 32 l).length : Nat) : Int) : Int)
    ·  -- yes
      refine K.RW.q rfl rfl (K.QR.nice (v := .bool (decide ((((j + 1 : Nat) : Int) : Int) < ((((K.spl 32 l).length : Nat) : Int) : Int)))) (by kernel_rfl) (congrArg Value.bool (decide_eq_true h_14))) ?_
      refine K.RW.nil ?_
      refine K.thn_normal ?_
      refine K.KW.ifT rfl ?_
      refine K.KW.skip ?_
      refine K.thn_normal ?_
      refine K.KW.seq ?_
      refine K.KW.block ?_
      refine K.KW.seq ?_
      -- 6 :140
      obtain ⟨b_15, rfl⟩ := o_4.some_ (by have := o_4.le; omega)
      have hgl := K.getD_spl_len 32 l (j + 1)
      refine K.KW.region ?_
      refine K.RW.qs [.slice (some ⟨b_15, 0, none⟩) ((K.spl 32 l).length) k_3, .int .i64 ((j + 1 : Nat) : Int)] (by kernel_rfl) ?_
      refine K.RW.q rfl rfl (K.QR.ix (j + 1) 1 rfl rfl rfl Tryd.underlying68 (by kernel_rfl) (by omega) (by first | (simp; done) | omega | (simp; omega))) ?_
      refine K.RW.q rfl rfl (K.QR.ld1 (v := .string (K.sb ((K.spl 32 l).getD (j + 1) []))) rfl rfl (by kernel_rfl) (K.Own.atS (c := K.cStr) (d := []) (fun _ => rfl) (hS.ownr 1 rfl o_4) rfl (j + 1) (by omega))) ?_
      refine K.RW.l rfl (K.OW.gcall hS [] [0, 1, 2] [.string (K.sb ((K.spl 32 l).getD (j + 1) [])), .int .u8 61] (rsplit_ok _ ((K.spl 32 l).getD (j + 1) []) 61 (by omega)) ?_)
      clear hS; rintro _ _ w ⟨r_17, g_18, k_19, rfl, rfl, o_20⟩ hS
      replace hS : K.Sat w0 [g_18, o1, g_2, fr] w := hS
      refine K.RW.qs [.slice r_17 ((K.spl 61 ((K.spl 32 l).getD (j + 1) [])).length) k_19] (by kernel_rfl) ?_
      refine K.RW.nil ?_
      refine K.thn_normal ?_
      refine K.KW.seq ?_
      -- 7 :141
      refine K.KW.region ?_
      refine K.RW.qs [.int .i64 0] (by kernel_rfl) ?_
      refine K.RW.nil ?_
      refine K.thn_normal ?_
      refine K.KW.seq ?_
      refine K.KW.seq ?_
      -- 8 :142
      refine K.KW.region ?_
      refine K.RW.qs [.int .i64 ((part : Nat) : Int), .slice r_17 ((K.spl 61 ((K.spl 32 l).getD (j + 1) [])).length) k_19] (by kernel_rfl) ?_
      refine K.RW.q rfl rfl (K.QR.len (P := Tryd.prog) rfl rfl Tryd.underlying68) ?_
      by_cases h_21 : (((part : Nat) : Int) : Int) < ((((K.spl 61 ((K.spl 32 l).getD (j + 1) [])).length : Nat) : Int) : Int)
      ·  -- yes
        refine K.RW.q rfl rfl (K.QR.nice (v := .bool (decide ((((part : Nat) : Int) : Int) < ((((K.spl 61 ((K.spl 32 l).getD (j + 1) [])).length : Nat) : Int) : Int)))) (by kernel_rfl) (congrArg Value.bool (decide_eq_true h_21))) ?_
        refine K.RW.nil ?_
        refine K.thn_normal ?_
        refine K.KW.ifT rfl ?_
        -- 9 :143
        have hpl := K.spl_len 61 ((K.spl 32 l).getD (j + 1) [])
        obtain ⟨b_22, rfl⟩ := o_20.some_ (by have := o_20.le; omega)
        have hpg := K.getD_spl_len 61 ((K.spl 32 l).getD (j + 1) []) part
        refine K.KW.region ?_
        refine K.RW.qs [.slice (some ⟨b_22, 0, none⟩) ((K.spl 61 ((K.spl 32 l).getD (j + 1) [])).length) k_19, .int .i64 ((part : Nat) : Int)] (by kernel_rfl) ?_
        refine K.RW.q rfl rfl (K.QR.ix part 1 rfl rfl rfl Tryd.underlying68 (by kernel_rfl) (by omega) (by first | (simp; done) | omega | (simp; omega))) ?_
        refine K.RW.q rfl rfl (K.QR.ld1 (v := .string (K.sb ((K.spl 61 ((K.spl 32 l).getD (j + 1) [])).getD part []))) rfl rfl (by kernel_rfl) (K.Own.atS (c := K.cStr) (d := []) (fun _ => rfl) (hS.ownr 0 rfl o_20) rfl part (by omega))) ?_
        refine K.RW.l rfl (K.OW.gcall hS [] [0, 1, 2, 3] [.string (K.sb ((K.spl 61 ((K.spl 32 l).getD (j + 1) [])).getD part [])), .int .i64 4294967295] (rnum_ok _ ((K.spl 61 ((K.spl 32 l).getD (j + 1) [])).getD part []) 4294967295 (by omega) (by omega)) ?_)
        clear hS; rintro _ _ w ⟨rfl, rfl⟩ hS
        replace hS : K.Sat w0 [g_18, o1, g_2, fr] w := hS
        by_cases h_24 : ((numR ((K.spl 61 ((K.spl 32 l).getD (j + 1) [])).getD part []) 4294967295) : Int) < (0 : Int)
        ·  -- yes
          refine K.RW.q rfl rfl (K.QR.max2 0 rfl rfl rfl (by omega)) ?_
          refine K.RW.qs [.int .i64 0] (by kernel_rfl) ?_
          refine K.RW.nil ?_
          refine K.thn_normal ?_
          -- 10 :145
          have hv : valT part ((K.spl 32 l).getD (j + 1) []) = 0 := by unfold valT; rw [if_pos (by omega)]; omega
          have hvi := valT_in part ((K.spl 32 l).getD (j + 1) [])
          unfold isU32 at hvi
          refine K.KW.region ?_
          refine K.RW.qs [.slice q1 o.length c1, .int .i64 0, .int .u32 0] (by kernel_rfl) ?_
          refine K.RW.l rfl (K.OW.gbs [(0, .int .u32 0)] [.int .u32 0] hS (fun w => K.bs_run (P := Tryd.prog) w 43 23 1 _ _ Tryd.underlying43 (by kernel_rfl)) ?_)
          clear hS; intro w r_25 g_26 hg_27 hS
          refine K.RW.l rfl (K.OW.gapp (P := Tryd.prog) (xs := (o).flatMap cU32) (z := .int .u32 0) (size := 1) (bytes := 4) 2 [.int .u32 0] hS x_13 ?_ (fun j u hj => (by rw [Nat.zero_add]; exact (hS.blk 0 rfl hg_27).cell hj)) (K.one_cells (by rfl)) (by rfl) Tryd.underlying43 (by kernel_rfl) rfl (by decide) (by unfold maxLen; omega) (by omega))
          clear hS; intro a_28 cap_29 w l_30 o_31 hS
          have ln_32 : ((o ++ [(0 : Int)])).length = o.length + 1 := by rw [List.length_append]; rfl
          have o_31c := K.OwnG.cast (xs' := ((o ++ [(0 : Int)])).flatMap cU32) o_31 rfl (K.fl_snoc cU32 o _ rfl)
          replace hS : K.Sat w0 [g_26, g_18, l_30, g_2, fr] w := hS
          refine K.RW.qs [.slice a_28 (o.length + 1) cap_29] (by kernel_rfl) ?_
          refine K.RW.nil ?_
          refine K.blk_normal ?_
          refine K.thn_normal ?_
          -- 5 :139
          refine K.KW.region ?_
          refine K.RW.qs [.int .i64 ((j + 1 : Nat) : Int)] (by kernel_rfl) ?_
          refine K.RW.q rfl rfl (K.QR.n64 ((((j + 1 : Nat) : Int) : Int) + (1 : Int)) ((j + 1 + 1 : Nat) : Int) (by kernel_rfl) (by omega)) ?_
          refine K.RW.qs [.int .i64 ((j + 1 + 1 : Nat) : Int)] (by kernel_rfl) ?_
          refine K.RW.nil ?_
          refine K.thn_normal ?_
          refine ⟨_, ?_, j + 1, (o ++ [(0 : Int)]), a_28, cap_29, l_30, rfl, ⟨by rfl, by rfl, by rfl, by rfl, congrArg (fun m_ => Value.slice a_28 m_ cap_29) (by first | rfl | (rw [List.length_append]; rfl) : o.length + 1 = ((o ++ [(0 : Int)])).length), by rfl, by rfl, trivial⟩, (by omega), (by rw [ho, map_next (d := []) (by rw [List.length_drop]; omega), drop1_get, hv]), (by first | omega | (rw [List.length_append]; simp; omega)), (K.OwnG.cast o_31c (by first | rfl | (rw [List.length_append]; rfl)) rfl), hS.pick [2, 3, 4]⟩
          omega
        ·  -- no
          refine K.RW.q rfl rfl (K.QR.max2 (numR ((K.spl 61 ((K.spl 32 l).getD (j + 1) [])).getD part []) 4294967295) rfl rfl rfl (by omega)) ?_
          refine K.RW.qs [.int .i64 (numR ((K.spl 61 ((K.spl 32 l).getD (j + 1) [])).getD part []) 4294967295)] (by kernel_rfl) ?_
          refine K.RW.nil ?_
          refine K.thn_normal ?_
          -- 10 :145
          have hv : valT part ((K.spl 32 l).getD (j + 1) []) = (numR ((K.spl 61 ((K.spl 32 l).getD (j + 1) [])).getD part []) 4294967295) := by unfold valT; rw [if_pos (by omega)]; omega
          have hvi := valT_in part ((K.spl 32 l).getD (j + 1) [])
          unfold isU32 at hvi
          refine K.KW.region ?_
          refine K.RW.qs [.slice q1 o.length c1, .int .i64 (numR ((K.spl 61 ((K.spl 32 l).getD (j + 1) [])).getD part []) 4294967295)] (by kernel_rfl) ?_
          refine K.RW.q rfl rfl (K.QR.nice (v := .int .u32 (IntKind.u32.wrap (numR ((K.spl 61 ((K.spl 32 l).getD (j + 1) [])).getD part []) 4294967295))) (by kernel_rfl) (congrArg (Value.int .u32) (IntWalk.u32_in _ (by omega)))) ?_
          refine K.RW.l rfl (K.OW.gbs [(0, .int .u32 (numR ((K.spl 61 ((K.spl 32 l).getD (j + 1) [])).getD part []) 4294967295))] [.int .u32 (numR ((K.spl 61 ((K.spl 32 l).getD (j + 1) [])).getD part []) 4294967295)] hS (fun w => K.bs_run (P := Tryd.prog) w 43 23 1 _ _ Tryd.underlying43 (by kernel_rfl)) ?_)
          clear hS; intro w r_33 g_34 hg_35 hS
          refine K.RW.l rfl (K.OW.gapp (P := Tryd.prog) (xs := (o).flatMap cU32) (z := .int .u32 0) (size := 1) (bytes := 4) 2 [.int .u32 (numR ((K.spl 61 ((K.spl 32 l).getD (j + 1) [])).getD part []) 4294967295)] hS x_13 ?_ (fun j u hj => (by rw [Nat.zero_add]; exact (hS.blk 0 rfl hg_35).cell hj)) (K.one_cells (by rfl)) (by rfl) Tryd.underlying43 (by kernel_rfl) rfl (by decide) (by unfold maxLen; omega) (by omega))
          clear hS; intro a_36 cap_37 w l_38 o_39 hS
          have ln_40 : ((o ++ [((numR ((K.spl 61 ((K.spl 32 l).getD (j + 1) [])).getD part []) 4294967295) : Int)])).length = o.length + 1 := by rw [List.length_append]; rfl
          have o_39c := K.OwnG.cast (xs' := ((o ++ [((numR ((K.spl 61 ((K.spl 32 l).getD (j + 1) [])).getD part []) 4294967295) : Int)])).flatMap cU32) o_39 rfl (K.fl_snoc cU32 o _ rfl)
          replace hS : K.Sat w0 [g_34, g_18, l_38, g_2, fr] w := hS
          refine K.RW.qs [.slice a_36 (o.length + 1) cap_37] (by kernel_rfl) ?_
          refine K.RW.nil ?_
          refine K.blk_normal ?_
          refine K.thn_normal ?_
          -- 5 :139
          refine K.KW.region ?_
          refine K.RW.qs [.int .i64 ((j + 1 : Nat) : Int)] (by kernel_rfl) ?_
          refine K.RW.q rfl rfl (K.QR.n64 ((((j + 1 : Nat) : Int) : Int) + (1 : Int)) ((j + 1 + 1 : Nat) : Int) (by kernel_rfl) (by omega)) ?_
          refine K.RW.qs [.int .i64 ((j + 1 + 1 : Nat) : Int)] (by kernel_rfl) ?_
          refine K.RW.nil ?_
          refine K.thn_normal ?_
          refine ⟨_, ?_, j + 1, (o ++ [((numR ((K.spl 61 ((K.spl 32 l).getD (j + 1) [])).getD part []) 4294967295) : Int)]), a_36, cap_37, l_38, rfl, ⟨by rfl, by rfl, by rfl, by rfl, congrArg (fun m_ => Value.slice a_36 m_ cap_37) (by first | rfl | (rw [List.length_append]; rfl) : o.length + 1 = ((o ++ [((numR ((K.spl 61 ((K.spl 32 l).getD (j + 1) [])).getD part []) 4294967295) : Int)])).length), by rfl, by rfl, trivial⟩, (by omega), (by rw [ho, map_next (d := []) (by rw [List.length_drop]; omega), drop1_get, hv]), (by first | omega | (rw [List.length_append]; simp; omega)), (K.OwnG.cast o_39c (by first | rfl | (rw [List.length_append]; rfl)) rfl), hS.pick [2, 3, 4]⟩
          omega
      ·  -- no
        refine K.RW.q rfl rfl (K.QR.nice (v := .bool (decide ((((part : Nat) : Int) : Int) < ((((K.spl 61 ((K.spl 32 l).getD (j + 1) [])).length : Nat) : Int) : Int)))) (by kernel_rfl) (congrArg Value.bool (decide_eq_false h_21))) ?_
        refine K.RW.nil ?_
        refine K.thn_normal ?_
        refine K.KW.ifF rfl ?_
        refine K.KW.skip ?_
        refine K.thn_normal ?_
        -- 10 :145
        have hv : valT part ((K.spl 32 l).getD (j + 1) []) = 0 := by unfold valT; rw [if_neg (by omega)]
        have hvi := valT_in part ((K.spl 32 l).getD (j + 1) [])
        unfold isU32 at hvi
        refine K.KW.region ?_
        refine K.RW.qs [.slice q1 o.length c1, .int .i64 0, .int .u32 0] (by kernel_rfl) ?_
        refine K.RW.l rfl (K.OW.gbs [(0, .int .u32 0)] [.int .u32 0] hS (fun w => K.bs_run (P := Tryd.prog) w 43 23 1 _ _ Tryd.underlying43 (by kernel_rfl)) ?_)
        clear hS; intro w r_41 g_42 hg_43 hS
        refine K.RW.l rfl (K.OW.gapp (P := Tryd.prog) (xs := (o).flatMap cU32) (z := .int .u32 0) (size := 1) (bytes := 4) 2 [.int .u32 0] hS x_13 ?_ (fun j u hj => (by rw [Nat.zero_add]; exact (hS.blk 0 rfl hg_43).cell hj)) (K.one_cells (by rfl)) (by rfl) Tryd.underlying43 (by kernel_rfl) rfl (by decide) (by unfold maxLen; omega) (by omega))
        clear hS; intro a_44 cap_45 w l_46 o_47 hS
        have ln_48 : ((o ++ [(0 : Int)])).length = o.length + 1 := by rw [List.length_append]; rfl
        have o_47c := K.OwnG.cast (xs' := ((o ++ [(0 : Int)])).flatMap cU32) o_47 rfl (K.fl_snoc cU32 o _ rfl)
        replace hS : K.Sat w0 [g_42, g_18, l_46, g_2, fr] w := hS
        refine K.RW.qs [.slice a_44 (o.length + 1) cap_45] (by kernel_rfl) ?_
        refine K.RW.nil ?_
        refine K.blk_normal ?_
        refine K.thn_normal ?_
        -- 5 :139
        refine K.KW.region ?_
        refine K.RW.qs [.int .i64 ((j + 1 : Nat) : Int)] (by kernel_rfl) ?_
        refine K.RW.q rfl rfl (K.QR.n64 ((((j + 1 : Nat) : Int) : Int) + (1 : Int)) ((j + 1 + 1 : Nat) : Int) (by kernel_rfl) (by omega)) ?_
        refine K.RW.qs [.int .i64 ((j + 1 + 1 : Nat) : Int)] (by kernel_rfl) ?_
        refine K.RW.nil ?_
        refine K.thn_normal ?_
        refine ⟨_, ?_, j + 1, (o ++ [(0 : Int)]), a_44, cap_45, l_46, rfl, ⟨by rfl, by rfl, by rfl, by rfl, congrArg (fun m_ => Value.slice a_44 m_ cap_45) (by first | rfl | (rw [List.length_append]; rfl) : o.length + 1 = ((o ++ [(0 : Int)])).length), by rfl, by rfl, trivial⟩, (by omega), (by rw [ho, map_next (d := []) (by rw [List.length_drop]; omega), drop1_get, hv]), (by first | omega | (rw [List.length_append]; simp; omega)), (K.OwnG.cast o_47c (by first | rfl | (rw [List.length_append]; rfl)) rfl), hS.pick [2, 3, 4]⟩
        omega
    ·  -- no
      refine K.RW.q rfl rfl (K.QR.nice (v := .bool (decide ((((j + 1 : Nat) : Int) : Int) < ((((K.spl 32 l).length : Nat) : Int) : Int)))) (by kernel_rfl) (congrArg Value.bool (decide_eq_false h_14))) ?_
      refine K.RW.nil ?_
      refine K.thn_normal ?_
      refine K.KW.ifF rfl ?_
      refine K.KW.exit ?_
      refine K.thn_exit ?_
      refine K.thn_exit ?_
      refine K.blk_hit ?_
      refine K.thn_normal ?_
      refine K.KW.seq ?_
      -- 11 :147
      refine K.KW.region ?_
      refine K.RW.qs [.slice q1 o.length c1, .slice q1 o.length c1] (by kernel_rfl) ?_
      refine K.RW.nil ?_
      refine K.thn_normal ?_
      refine K.KW.ret ?_
      have e : o = valsT part l := by rw [ho]; unfold valsT; rw [List.take_of_length_le (by rw [List.length_drop]; omega)]
      refine ⟨.inr rfl, rfl, (.slice q1 o.length c1), K.res1 rfl rfl, [o1], ?_, hS.pick [0, 2]⟩
      exact ⟨q1, c1, _, rfl, by rw [e], by rw [← e]; exact x_13⟩
end Go.Proofs.YtnehocjmgnhhhaaDoor
