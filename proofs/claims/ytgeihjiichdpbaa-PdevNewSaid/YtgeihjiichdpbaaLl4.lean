/- The statements of layer 4. -/
import Derived.Test.YtgeihjiichdpbaaFl4
namespace Go.Proofs.Ytgeihjiichdpbaa
open Go.RowKit
set_option linter.unusedVariables false
attribute [local irreducible] K.KW K.RW K.DW K.OW K.QR K.KC

set_option maxHeartbeats 1000000 in
set_option maxRecDepth 100000 in
theorem awake04_ok (w0 : World)  :
    K.GC Try.prog w0 36 #[] [] (fun v post => v = .bool true ∧ post = []) := by
  refine K.GC.mk (n := 83) Try.func36 rfl rfl [] rfl rfl ?_
  intro fr w hS
  replace hS : K.Sat w0 [fr] w := hS
  refine K.KW.seq ?_
  -- 0 :12
  refine K.KW.region ?_
  refine K.RW.qs [.bool false] (by kernel_rfl) ?_
  refine K.RW.nil ?_
  refine K.thn_normal ?_
  refine K.KW.seq ?_
  -- 1 :13
  refine K.KW.region ?_
  refine K.RW.l rfl (K.OW.gcall hS [] [0] [.int .i64 2, .int .i64 1] (dvNew_ok _ 2 1 (by omega) (by omega)) ?_)
  clear hS; rintro _ _ w (⟨p_1, l_2, rfl, rfl, x_3, h_4⟩ | ⟨rfl, rfl, h_5⟩) hS
  ·
    replace hS : K.Sat w0 [l_2, fr] w := hS
    refine K.RW.qs [.tuple #[.pointer (some ⟨p_1, 0, none⟩), .int .i64 0], .pointer (some ⟨p_1, 0, none⟩), .int .i64 0, .pointer (some ⟨p_1, 0, none⟩), .int .i64 0] (by kernel_rfl) ?_
    refine K.RW.nil ?_
    refine K.thn_normal ?_
    refine K.KW.seq ?_
    -- 2 :14
    refine K.KW.region ?_
    refine K.RW.qs [.pointer (some ⟨p_1, 0, none⟩)] (by kernel_rfl) ?_
    refine K.RW.l rfl (K.OW.gcall hS [0] [1] [.pointer (some ⟨p_1, 0, none⟩), .int .i64 9, .int .u64 5] (dvStore_ok _ _ _ _ _ _ x_3 9 (by omega) 5) ?_)
    clear hS; rintro _ _ w (⟨rfl, h_6, l_7, rfl, x_8⟩ | ⟨rfl, h_9, rfl⟩) hS
    ·
      replace hS : K.Sat w0 [l_7, fr] w := hS
      refine K.RW.qs [.int .i64 0] (by kernel_rfl) ?_
      refine K.RW.nil ?_
      refine K.thn_normal ?_
      refine K.KW.seq ?_
      -- 3 :15
      refine K.KW.region ?_
      refine K.RW.qs [.pointer (some ⟨p_1, 0, none⟩)] (by kernel_rfl) ?_
      refine K.RW.l rfl (K.OW.gcall hS [0] [1] [.pointer (some ⟨p_1, 0, none⟩), .int .i64 0, .int .i64 1] (dvFlush_ok _ _ _ _ _ _ x_8 0 (by omega) 1 (by omega)) ?_)
      clear hS; rintro _ _ w (⟨rfl, h_10, l_11, rfl, x_12⟩ | ⟨rfl, h_13, rfl⟩ | ⟨rfl, h_14, rfl⟩) hS
      ·
        replace hS : K.Sat w0 [l_11, fr] w := hS
        refine K.RW.qs [.int .i64 0] (by kernel_rfl) ?_
        refine K.RW.nil ?_
        refine K.thn_normal ?_
        refine K.KW.seq ?_
        -- 4 :16
        refine K.KW.region ?_
        refine K.RW.qs [.pointer (some ⟨p_1, 0, none⟩)] (by kernel_rfl) ?_
        refine K.RW.l rfl (K.OW.gcall hS [0] [1] [.pointer (some ⟨p_1, 0, none⟩)] (dvCrash_ok _ _ _ _ _ _ x_12 ) ?_)
        clear hS; rintro _ _ w ⟨l_15, rfl, rfl, x_16⟩ hS
        replace hS : K.Sat w0 [l_15, fr] w := hS
        refine K.RW.nil ?_
        refine K.thn_normal ?_
        refine K.KW.seq ?_
        -- 5 :17
        refine K.KW.region ?_
        refine K.RW.qs [.pointer (some ⟨p_1, 0, none⟩)] (by kernel_rfl) ?_
        refine K.RW.l rfl (K.OW.gcall hS [0] [1] [.pointer (some ⟨p_1, 0, none⟩), .int .i64 9] (dvLoad_ok _ _ _ _ _ _ x_16 9 (by omega)) ?_)
        clear hS; rintro _ _ w ⟨rfl, (⟨rfl, h_17⟩ | ⟨rfl, h_18⟩)⟩ hS
        ·
          replace hS : K.Sat w0 [l_15, fr] w := hS
          refine K.RW.qs [.tuple #[.int .u64 (((((DevM.fresh (List.replicate (2 * 8) 0) 2 1).store (9 : Int).toNat (5 : Int)).mark (0 : Int).toNat (1 : Int).toNat).crash).seen.getD 9 0), .int .i64 0], .int .u64 (((((DevM.fresh (List.replicate (2 * 8) 0) 2 1).store (9 : Int).toNat (5 : Int)).mark (0 : Int).toNat (1 : Int).toNat).crash).seen.getD 9 0), .int .i64 0, .int .u64 (((((DevM.fresh (List.replicate (2 * 8) 0) 2 1).store (9 : Int).toNat (5 : Int)).mark (0 : Int).toNat (1 : Int).toNat).crash).seen.getD 9 0), .int .i64 0] (by kernel_rfl) ?_
          refine K.RW.nil ?_
          refine K.thn_normal ?_
          refine K.KW.seq ?_
          -- 6 :18
          refine K.KW.region ?_
          refine K.RW.qs [.pointer (some ⟨p_1, 0, none⟩)] (by kernel_rfl) ?_
          refine K.RW.l rfl (K.OW.gcall hS [0] [1] [.pointer (some ⟨p_1, 0, none⟩), .int .i64 9, .int .u64 5] (dvStore_ok _ _ _ _ _ _ x_16 9 (by omega) 5) ?_)
          clear hS; rintro _ _ w (⟨rfl, h_19, l_20, rfl, x_21⟩ | ⟨rfl, h_22, rfl⟩) hS
          ·
            replace hS : K.Sat w0 [l_20, fr] w := hS
            refine K.RW.qs [.int .i64 0] (by kernel_rfl) ?_
            refine K.RW.nil ?_
            refine K.thn_normal ?_
            refine K.KW.seq ?_
            -- 7 :19
            refine K.KW.region ?_
            refine K.RW.qs [.pointer (some ⟨p_1, 0, none⟩)] (by kernel_rfl) ?_
            refine K.RW.l rfl (K.OW.gcall hS [0] [1] [.pointer (some ⟨p_1, 0, none⟩), .int .i64 0, .int .i64 1] (dvFlush_ok _ _ _ _ _ _ x_21 0 (by omega) 1 (by omega)) ?_)
            clear hS; rintro _ _ w (⟨rfl, h_23, l_24, rfl, x_25⟩ | ⟨rfl, h_26, rfl⟩ | ⟨rfl, h_27, rfl⟩) hS
            ·
              replace hS : K.Sat w0 [l_24, fr] w := hS
              refine K.RW.qs [.int .i64 0] (by kernel_rfl) ?_
              refine K.RW.nil ?_
              refine K.thn_normal ?_
              refine K.KW.seq ?_
              -- 8 :20
              refine K.KW.region ?_
              refine K.RW.qs [.pointer (some ⟨p_1, 0, none⟩)] (by kernel_rfl) ?_
              refine K.RW.l rfl (K.OW.gcall hS [0] [1] [.pointer (some ⟨p_1, 0, none⟩), .int .i64 0] (dvFence_ok _ _ _ _ _ _ x_25 0 (by omega)) ?_)
              clear hS; rintro _ _ w (⟨rfl, h_28, l_29, rfl, x_30⟩ | ⟨rfl, h_31, rfl⟩) hS
              ·
                replace hS : K.Sat w0 [l_29, fr] w := hS
                refine K.RW.qs [.int .i64 0] (by kernel_rfl) ?_
                refine K.RW.nil ?_
                refine K.thn_normal ?_
                refine K.KW.seq ?_
                -- 9 :21
                refine K.KW.region ?_
                refine K.RW.qs [.pointer (some ⟨p_1, 0, none⟩)] (by kernel_rfl) ?_
                refine K.RW.l rfl (K.OW.gcall hS [0] [1] [.pointer (some ⟨p_1, 0, none⟩)] (dvCrash_ok _ _ _ _ _ _ x_30 ) ?_)
                clear hS; rintro _ _ w ⟨l_32, rfl, rfl, x_33⟩ hS
                replace hS : K.Sat w0 [l_32, fr] w := hS
                refine K.RW.nil ?_
                refine K.thn_normal ?_
                refine K.KW.seq ?_
                -- 10 :22
                refine K.KW.region ?_
                refine K.RW.qs [.pointer (some ⟨p_1, 0, none⟩)] (by kernel_rfl) ?_
                refine K.RW.l rfl (K.OW.gcall hS [0] [1] [.pointer (some ⟨p_1, 0, none⟩), .int .i64 9] (dvLoad_ok _ _ _ _ _ _ x_33 9 (by omega)) ?_)
                clear hS; rintro _ _ w ⟨rfl, (⟨rfl, h_34⟩ | ⟨rfl, h_35⟩)⟩ hS
                ·
                  replace hS : K.Sat w0 [l_32, fr] w := hS
                  refine K.RW.qs [.tuple #[.int .u64 (((((((((DevM.fresh (List.replicate (2 * 8) 0) 2 1).store (9 : Int).toNat (5 : Int)).mark (0 : Int).toNat (1 : Int).toNat).crash).store (9 : Int).toNat (5 : Int)).mark (0 : Int).toNat (1 : Int).toNat).fence (0 : Int).toNat).crash).seen.getD 9 0), .int .i64 0], .int .u64 (((((((((DevM.fresh (List.replicate (2 * 8) 0) 2 1).store (9 : Int).toNat (5 : Int)).mark (0 : Int).toNat (1 : Int).toNat).crash).store (9 : Int).toNat (5 : Int)).mark (0 : Int).toNat (1 : Int).toNat).fence (0 : Int).toNat).crash).seen.getD 9 0), .int .i64 0, .int .u64 (((((((((DevM.fresh (List.replicate (2 * 8) 0) 2 1).store (9 : Int).toNat (5 : Int)).mark (0 : Int).toNat (1 : Int).toNat).crash).store (9 : Int).toNat (5 : Int)).mark (0 : Int).toNat (1 : Int).toNat).fence (0 : Int).toNat).crash).seen.getD 9 0), .int .i64 0] (by kernel_rfl) ?_
                  refine K.RW.nil ?_
                  refine K.thn_normal ?_
                  refine K.KW.seq ?_
                  -- 11 :23
                  refine K.KW.region ?_
                  refine K.RW.qs [.int .i64 0, .bool true, .bool true, .int .i64 0, .bool true, .bool true, .bool true, .int .i64 0, .bool true, .bool true, .bool true, .int .i64 0, .bool true, .bool true, .bool true, .int .i64 0, .bool true, .bool true, .bool true, .int .i64 0, .bool true, .bool true, .bool true, .int .i64 0, .bool true, .bool true, .bool true, .int .i64 0, .bool true, .bool true, .bool true, .int .u64 (((((DevM.fresh (List.replicate (2 * 8) 0) 2 1).store (9 : Int).toNat (5 : Int)).mark (0 : Int).toNat (1 : Int).toNat).crash).seen.getD 9 0)] (by kernel_rfl) ?_
                  refine K.RW.q rfl (by kernel_rfl) (K.QR.nice (v := .bool (((((((DevM.fresh (List.replicate (2 * 8) 0) 2 1).store (9 : Int).toNat (5 : Int)).mark (0 : Int).toNat (1 : Int).toNat).crash).seen.getD 9 0) : Int) == (0 : Int))) (by kernel_rfl) (congrArg Value.bool (beq_iff_eq.2 (by kernel_rfl)))) ?_
                  refine K.RW.qs [.bool true, .bool true, .int .u64 (((((((((DevM.fresh (List.replicate (2 * 8) 0) 2 1).store (9 : Int).toNat (5 : Int)).mark (0 : Int).toNat (1 : Int).toNat).crash).store (9 : Int).toNat (5 : Int)).mark (0 : Int).toNat (1 : Int).toNat).fence (0 : Int).toNat).crash).seen.getD 9 0)] (by kernel_rfl) ?_
                  refine K.RW.q rfl (by kernel_rfl) (K.QR.nice (v := .bool (((((((((((DevM.fresh (List.replicate (2 * 8) 0) 2 1).store (9 : Int).toNat (5 : Int)).mark (0 : Int).toNat (1 : Int).toNat).crash).store (9 : Int).toNat (5 : Int)).mark (0 : Int).toNat (1 : Int).toNat).fence (0 : Int).toNat).crash).seen.getD 9 0) : Int) == (5 : Int))) (by kernel_rfl) (congrArg Value.bool (beq_iff_eq.2 (by kernel_rfl)))) ?_
                  refine K.RW.qs [.bool true, .bool true, .pointer (some ⟨p_1, 0, none⟩)] (by kernel_rfl) ?_
                  refine K.RW.l (by kernel_rfl) (K.OW.gcall hS [0] [1] [.pointer (some ⟨p_1, 0, none⟩), .int .i64 1] (dvWrites_ok _ _ _ _ _ _ x_33 1 (by omega)) ?_)
                  clear hS; rintro _ _ w ⟨rfl, (⟨rfl, h_36⟩ | ⟨rfl, h_37⟩)⟩ hS
                  ·
                    replace hS : K.Sat w0 [l_32, fr] w := hS
                    refine K.RW.q rfl (by kernel_rfl) (K.QR.nice (v := .bool (((((((((((DevM.fresh (List.replicate (2 * 8) 0) 2 1).store (9 : Int).toNat (5 : Int)).mark (0 : Int).toNat (1 : Int).toNat).crash).store (9 : Int).toNat (5 : Int)).mark (0 : Int).toNat (1 : Int).toNat).fence (0 : Int).toNat).crash).writes.getD 1 0) : Int) == (1 : Int))) (by kernel_rfl) (congrArg Value.bool (beq_iff_eq.2 (by kernel_rfl)))) ?_
                    refine K.RW.qs [.bool true, .bool true] (by kernel_rfl) ?_
                    refine K.RW.nil ?_
                    refine K.thn_normal ?_
                    refine K.KW.ret ?_
                    refine ⟨.inr rfl, rfl, (.bool true), K.res1 rfl rfl, [], ?_, hS.pick [1]⟩
                    exact ⟨rfl, rfl⟩
                  ·
                    exfalso; omega
                ·
                  exfalso; omega
              ·
                exfalso; omega
            ·
              exfalso; omega
            ·
              exfalso; omega
          ·
            exfalso; omega
        ·
          exfalso; omega
      ·
        exfalso; omega
      ·
        exfalso; omega
    ·
      exfalso; omega
  ·
    exfalso; omega

/-- the device behind so many acts -/
def actsR (D : DevM) (n t : Nat) : List ActM → DevM
  | [] => D
  | a :: ls => actsR (actR D n t a).1 n t ls
theorem actsR_snoc (n t : Nat) (a : ActM) : ∀ (ls : List ActM) (D : DevM), actsR D n t (ls ++ [a]) = (actR (actsR D n t ls) n t a).1
  | [], _ => rfl
  | b :: ls, D => actsR_snoc n t a ls (actR D n t b).1
theorem actsR_next {D : DevM} {n t j : Nat} {ls : List ActM} (h : j < ls.length) : actsR D n t (ls.take (j + 1)) = (actR (actsR D n t (ls.take j)) n t (ls.getD j a0)).1 := by
  rw [List.take_succ_eq_append_getElem h, actsR_snoc]
  simp [h]

set_option maxHeartbeats 1000000 in
set_option maxRecDepth 100000 in
theorem l4plays_ok (w0 : World) (a b : Option Addr) (cap cap2 : Nat) (xs : List Int) (ls : List ActM) (t : Int) (ht : isInt t) (hg : ∀ j, j < ls.length → (ls.getD j a0).good) (hm : xs.length ≤ 9223372036854775807) (hm2 : ls.length ≤ 9223372036854775807) (hc : xs.length ≤ cap) (hx : RU64 w0 a xs) (hy : K.RowE w0 b ls.length 5 (fun i => cAct (ls.getD i a0))) :
    K.GC Try.prog w0 11 #[.slice a xs.length cap, .int .i64 t, .slice b ls.length cap2] [] (fun v post => v = .bool true) := by
  refine K.GC.mk (n := 90) Try.func11 rfl rfl [.slice a xs.length cap, .int .i64 t, .slice b ls.length cap2] rfl rfl ?_
  intro fr w hS
  replace hS : K.Sat w0 [fr] w := hS
  refine K.KW.seq ?_
  -- 0 :94
  refine K.KW.region ?_
  refine K.RW.qs [.bool false] (by kernel_rfl) ?_
  refine K.RW.nil ?_
  refine K.thn_normal ?_
  refine K.KW.seq ?_
  refine K.KW.seq ?_
  -- 1 :95
  refine K.KW.region ?_
  refine K.RW.qs [.slice a xs.length cap] (by kernel_rfl) ?_
  refine K.RW.q rfl rfl (K.QR.len (P := Try.prog) rfl rfl Try.underlying22) ?_
  by_cases h_1 : (((xs.length : Nat) : Int) : Int) > (60 : Int)
  ·  -- yes
    refine K.RW.q rfl rfl (K.QR.nice (v := .bool (decide ((((xs.length : Nat) : Int) : Int) > (60 : Int)))) (by kernel_rfl) (congrArg Value.bool (decide_eq_true h_1))) ?_
    refine K.RW.qs [.bool true] (by kernel_rfl) ?_
    refine K.RW.skip rfl (by kernel_rfl) ?_
    refine K.RW.skip rfl (by kernel_rfl) ?_
    refine K.RW.skip rfl (by kernel_rfl) ?_
    refine K.RW.qs [.bool true] (by kernel_rfl) ?_
    refine K.RW.nil ?_
    refine K.thn_normal ?_
    refine K.KW.ifT rfl ?_
    refine K.KW.seq ?_
    -- 2 :96
    refine K.KW.region ?_
    refine K.RW.l rfl (K.OW.gcall hS [] [0] [] (awake04_ok _) ?_)
    clear hS; rintro _ _ w ⟨rfl, rfl⟩ hS
    replace hS : K.Sat w0 [fr] w := hS
    refine K.RW.qs [.bool true] (by kernel_rfl) ?_
    refine K.RW.nil ?_
    refine K.thn_normal ?_
    refine K.KW.ret ?_
    refine K.thn_ret ?_
    refine ⟨.inr rfl, rfl, (.bool true), K.res1 rfl rfl, [], ?_, hS.pick [0]⟩
    exact rfl
  ·  -- no
    refine K.RW.q rfl rfl (K.QR.nice (v := .bool (decide ((((xs.length : Nat) : Int) : Int) > (60 : Int)))) (by kernel_rfl) (congrArg Value.bool (decide_eq_false h_1))) ?_
    refine K.RW.qs [.bool false, .slice b ls.length cap2] (by kernel_rfl) ?_
    refine K.RW.q rfl (by kernel_rfl) (K.QR.len (P := Try.prog) rfl rfl Try.underlying77) ?_
    by_cases h_2 : (((ls.length : Nat) : Int) : Int) > (60 : Int)
    ·  -- yes
      refine K.RW.q rfl (by kernel_rfl) (K.QR.nice (v := .bool (decide ((((ls.length : Nat) : Int) : Int) > (60 : Int)))) (by kernel_rfl) (congrArg Value.bool (decide_eq_true h_2))) ?_
      refine K.RW.qs [.bool true] (by kernel_rfl) ?_
      refine K.RW.nil ?_
      refine K.thn_normal ?_
      refine K.KW.ifT rfl ?_
      refine K.KW.seq ?_
      -- 2 :96
      refine K.KW.region ?_
      refine K.RW.l rfl (K.OW.gcall hS [] [0] [] (awake04_ok _) ?_)
      clear hS; rintro _ _ w ⟨rfl, rfl⟩ hS
      replace hS : K.Sat w0 [fr] w := hS
      refine K.RW.qs [.bool true] (by kernel_rfl) ?_
      refine K.RW.nil ?_
      refine K.thn_normal ?_
      refine K.KW.ret ?_
      refine K.thn_ret ?_
      refine ⟨.inr rfl, rfl, (.bool true), K.res1 rfl rfl, [], ?_, hS.pick [0]⟩
      exact rfl
    ·  -- no
      refine K.RW.q rfl (by kernel_rfl) (K.QR.nice (v := .bool (decide ((((ls.length : Nat) : Int) : Int) > (60 : Int)))) (by kernel_rfl) (congrArg Value.bool (decide_eq_false h_2))) ?_
      refine K.RW.qs [.bool false] (by kernel_rfl) ?_
      refine K.RW.nil ?_
      refine K.thn_normal ?_
      refine K.KW.ifF rfl ?_
      refine K.KW.skip ?_
      refine K.thn_normal ?_
      refine K.KW.seq ?_
      -- 3 :98
      refine K.KW.region ?_
      refine K.RW.qs [.slice a xs.length cap, .int .i64 t] (by kernel_rfl) ?_
      refine K.RW.l rfl (K.OW.gcall hS [] [0] [.slice a xs.length cap, .int .i64 t] (dvOpen_ok _ _ _ xs t (by omega) (by omega) (by omega) hx) ?_)
      clear hS; rintro _ _ w (⟨p_3, n_4, l_5, rfl, rfl, x_6, hn_7, hm_8, ht_9⟩ | ⟨rfl, rfl, h_10⟩) hS
      ·
        replace hS : K.Sat w0 [l_5, fr] w := hS
        obtain ⟨_, _, _, _, _, hn_11, hn_12, _, _⟩ := DevAt.isok x_6
        refine K.RW.qs [.tuple #[.pointer (some ⟨p_3, 0, none⟩), .int .i64 0], .pointer (some ⟨p_3, 0, none⟩), .int .i64 0, .pointer (some ⟨p_3, 0, none⟩), .int .i64 0] (by kernel_rfl) ?_
        refine K.RW.nil ?_
        refine K.thn_normal ?_
        refine K.KW.seq ?_
        refine K.KW.seq ?_
        -- 4 :99
        refine K.KW.region ?_
        refine K.RW.qs [.int .i64 0, .slice a xs.length cap] (by kernel_rfl) ?_
        refine K.RW.q rfl rfl (K.QR.len (P := Try.prog) rfl rfl Try.underlying22) ?_
        refine K.RW.qs [.int .i64 t] (by kernel_rfl) ?_
        refine K.RW.l rfl (K.OW.gcall hS [] [0, 1] [.int .i64 ((xs.length : Nat) : Int), .int .i64 t] (mayOpen_okR _ xs.length t (by omega) (by omega)) ?_)
        clear hS; rintro _ _ w ⟨rfl, rfl⟩ hS
        replace hS : K.Sat w0 [l_5, fr] w := hS
        refine K.RW.q rfl rfl (K.QR.nice (v := .bool ((0 : Int) != ((mayOpenM xs.length t) : Int))) (by kernel_rfl) (congrArg Value.bool (bne_eq_false_iff_eq.2 (by omega)))) ?_
        refine K.RW.nil ?_
        refine K.thn_normal ?_
        refine K.KW.ifF rfl ?_
        refine K.KW.skip ?_
        refine K.thn_normal ?_
        refine K.KW.seq ?_
        refine K.KW.seq ?_
        -- 6 :102
        refine K.KW.region ?_
        refine K.RW.qs [.int .i64 0, .bool false] (by kernel_rfl) ?_
        refine K.RW.nil ?_
        refine K.thn_normal ?_
        refine K.KW.ifF rfl ?_
        refine K.KW.skip ?_
        refine K.thn_normal ?_
        refine K.KW.seq ?_
        -- 8 :105
        refine K.KW.region ?_
        refine K.RW.qs [.slice a xs.length cap, .int .i64 t] (by kernel_rfl) ?_
        refine K.RW.l rfl (K.OW.gcall hS [52] [0, 1] [.slice a xs.length cap, .int .i64 t] (rdOpen_okm _ _ _ _ n_4 xs t (by omega) (by omega) rfl (by omega) _ (fun w h => hx.no h.chg)) ?_)
        clear hS; rintro _ _ w ⟨p_13, l_14, rfl, rfl, x_15⟩ hS
        replace hS : K.Sat w0 [l_14, l_5, fr] w := hS.of (by simp [K.pick, K.nth])
        refine K.RW.qs [.pointer (some ⟨p_13, 0, none⟩)] (by kernel_rfl) ?_
        refine K.RW.nil ?_
        refine K.thn_normal ?_
        refine K.KW.seq ?_
        refine K.KW.seq ?_
        -- 9 :106
        refine K.KW.region ?_
        refine K.RW.qs [.int .i64 0] (by kernel_rfl) ?_
        refine K.RW.nil ?_
        refine K.thn_normal ?_
        refine K.KW.block ?_
        refine K.KW.loop (fun m_ F_ w_ => ∃ (j : Nat) (l1 : K.Cs) (m1 : K.Cs), m_ = ls.length - j ∧ K.Sl F_ [(0, .slice a xs.length cap), (1, .int .i64 t), (2, .slice b ls.length cap2), (7, .pointer (some ⟨p_3, 0, none⟩)), (9, .pointer (some ⟨p_13, 0, none⟩)), (10, .int .i64 ((j : Nat) : Int)), (90, undef)] ∧ j ≤ ls.length ∧ DevAt l1 p_3 n_4 t.toNat (actsR (DevM.fresh xs n_4 t.toNat) n_4 t.toNat (ls.take j)) ∧ RDevAt m1 p_13 n_4 t.toNat (actsR (DevM.fresh xs n_4 t.toNat) n_4 t.toNat (ls.take j)) ∧ K.Sat w0 [m1, l1, fr] w_) ((fun (j : Nat) => ls.length - j) 0) ?_ ?_
        · -- begins
          exact ⟨0, l_5, l_14, rfl, ⟨by rfl, by rfl, by rfl, by rfl, by rfl, by rfl, by rfl, trivial⟩, (by omega), x_6, x_15, hS.pick [0, 1, 2]⟩
        · -- a round
          clear hS
          intro m_16 F_17 w hI
          obtain ⟨j, l1, m1, rfl, sl_18, p_19, x_20, x_21, hS⟩ := hI
          rw [← K.Sl.puts sl_18]; clear sl_18
          refine K.KW.seq ?_
          refine K.KW.seq ?_
          -- 10 :106
          refine K.KW.region ?_
          refine K.RW.qs [.int .i64 ((j : Nat) : Int), .slice b ls.length cap2] (by kernel_rfl) ?_
          refine K.RW.q rfl rfl (K.QR.len (P := Try.prog) rfl rfl Try.underlying77) ?_
          by_cases h_22 : (((j : Nat) : Int) : Int) < (((ls.length : Nat) : Int) : Int)
          ·  -- yes
            refine K.RW.q rfl rfl (K.QR.nice (v := .bool (decide ((((j : Nat) : Int) : Int) < (((ls.length : Nat) : Int) : Int)))) (by kernel_rfl) (congrArg Value.bool (decide_eq_true h_22))) ?_
            refine K.RW.nil ?_
            refine K.thn_normal ?_
            refine K.KW.ifT rfl ?_
            refine K.KW.skip ?_
            refine K.thn_normal ?_
            refine K.KW.seq ?_
            refine K.KW.block ?_
            refine K.KW.seq ?_
            -- 12 :107
            obtain ⟨b_23, of_24, rfl, _⟩ := hy.at_ (by omega)
            refine K.KW.region ?_
            refine K.RW.qs [.pointer (some ⟨p_3, 0, none⟩), .slice (some ⟨b_23, of_24, none⟩) ls.length cap2, .int .i64 ((j : Nat) : Int)] (by kernel_rfl) ?_
            refine K.RW.q rfl rfl (K.QR.ix (of_24 + j * 5) 5 rfl rfl rfl Try.underlying77 (by kernel_rfl) (by omega) (by first | (simp; done) | omega | (simp; omega))) ?_
            refine K.RW.q rfl rfl (K.QR.ldN [.int .i64 ((ls.getD j a0).kind), .int .i64 ((ls.getD j a0).thread), .int .i64 ((ls.getD j a0).line), .int .i64 ((ls.getD j a0).at_), .int .u64 ((ls.getD j a0).w)] rfl rfl (by kernel_rfl) (by kernel_rfl) (K.cells (K.cl ((hy.no hS.chg).ld j (by omega) 0 _ rfl) (K.cl ((hy.no hS.chg).ld j (by omega) 1 _ rfl) (K.cl ((hy.no hS.chg).ld j (by omega) 2 _ rfl) (K.cl ((hy.no hS.chg).ld j (by omega) 3 _ rfl) (K.cl ((hy.no hS.chg).ld j (by omega) 4 _ rfl) K.cl0))))))) ?_
            refine K.RW.l rfl (K.OW.gcall hS [1] [0, 2] [.pointer (some ⟨p_3, 0, none⟩), .agg #[.int .i64 ((ls.getD j a0).kind), .int .i64 ((ls.getD j a0).thread), .int .i64 ((ls.getD j a0).line), .int .i64 ((ls.getD j a0).at_), .int .u64 ((ls.getD j a0).w)]] (do4_ok _ _ _ _ _ _ x_20 (ls.getD j a0) (hg j (by omega))) ?_)
            clear hS; rintro _ _ w ⟨l_25, rfl, rfl, x_26⟩ hS
            replace hS : K.Sat w0 [l_25, m1, fr] w := hS
            refine K.RW.qs [.tuple #[.int .u64 ((actR (actsR (DevM.fresh xs n_4 t.toNat) n_4 t.toNat (ls.take j)) n_4 t.toNat (ls.getD j a0)).2.1), .int .i64 ((actR (actsR (DevM.fresh xs n_4 t.toNat) n_4 t.toNat (ls.take j)) n_4 t.toNat (ls.getD j a0)).2.2)], .int .u64 ((actR (actsR (DevM.fresh xs n_4 t.toNat) n_4 t.toNat (ls.take j)) n_4 t.toNat (ls.getD j a0)).2.1), .int .i64 ((actR (actsR (DevM.fresh xs n_4 t.toNat) n_4 t.toNat (ls.take j)) n_4 t.toNat (ls.getD j a0)).2.2), .int .u64 ((actR (actsR (DevM.fresh xs n_4 t.toNat) n_4 t.toNat (ls.take j)) n_4 t.toNat (ls.getD j a0)).2.1), .int .i64 ((actR (actsR (DevM.fresh xs n_4 t.toNat) n_4 t.toNat (ls.take j)) n_4 t.toNat (ls.getD j a0)).2.2)] (by kernel_rfl) ?_
            refine K.RW.nil ?_
            refine K.thn_normal ?_
            refine K.KW.seq ?_
            -- 13 :108
            refine K.KW.region ?_
            refine K.RW.qs [.pointer (some ⟨p_13, 0, none⟩), .slice (some ⟨b_23, of_24, none⟩) ls.length cap2, .int .i64 ((j : Nat) : Int)] (by kernel_rfl) ?_
            refine K.RW.q rfl rfl (K.QR.ix (of_24 + j * 5) 5 rfl rfl rfl Try.underlying77 (by kernel_rfl) (by omega) (by first | (simp; done) | omega | (simp; omega))) ?_
            refine K.RW.q rfl rfl (K.QR.ldN [.int .i64 ((ls.getD j a0).kind), .int .i64 ((ls.getD j a0).thread), .int .i64 ((ls.getD j a0).line), .int .i64 ((ls.getD j a0).at_), .int .u64 ((ls.getD j a0).w)] rfl rfl (by kernel_rfl) (by kernel_rfl) (K.cells (K.cl ((hy.no hS.chg).ld j (by omega) 0 _ rfl) (K.cl ((hy.no hS.chg).ld j (by omega) 1 _ rfl) (K.cl ((hy.no hS.chg).ld j (by omega) 2 _ rfl) (K.cl ((hy.no hS.chg).ld j (by omega) 3 _ rfl) (K.cl ((hy.no hS.chg).ld j (by omega) 4 _ rfl) K.cl0))))))) ?_
            refine K.RW.l rfl (K.OW.gcall hS [1] [0, 2] [.pointer (some ⟨p_13, 0, none⟩), .agg #[.int .i64 ((ls.getD j a0).kind), .int .i64 ((ls.getD j a0).thread), .int .i64 ((ls.getD j a0).line), .int .i64 ((ls.getD j a0).at_), .int .u64 ((ls.getD j a0).w)]] (must4_ok _ _ _ _ _ _ x_21 (ls.getD j a0) (hg j (by omega))) ?_)
            clear hS; rintro _ _ w ⟨l_27, rfl, rfl, x_28⟩ hS
            replace hS : K.Sat w0 [l_27, l_25, fr] w := hS
            refine K.RW.qs [.tuple #[.int .u64 ((actR (actsR (DevM.fresh xs n_4 t.toNat) n_4 t.toNat (ls.take j)) n_4 t.toNat (ls.getD j a0)).2.1), .int .i64 ((actR (actsR (DevM.fresh xs n_4 t.toNat) n_4 t.toNat (ls.take j)) n_4 t.toNat (ls.getD j a0)).2.2)], .int .u64 ((actR (actsR (DevM.fresh xs n_4 t.toNat) n_4 t.toNat (ls.take j)) n_4 t.toNat (ls.getD j a0)).2.1), .int .i64 ((actR (actsR (DevM.fresh xs n_4 t.toNat) n_4 t.toNat (ls.take j)) n_4 t.toNat (ls.getD j a0)).2.2), .int .u64 ((actR (actsR (DevM.fresh xs n_4 t.toNat) n_4 t.toNat (ls.take j)) n_4 t.toNat (ls.getD j a0)).2.1), .int .i64 ((actR (actsR (DevM.fresh xs n_4 t.toNat) n_4 t.toNat (ls.take j)) n_4 t.toNat (ls.getD j a0)).2.2)] (by kernel_rfl) ?_
            refine K.RW.nil ?_
            refine K.thn_normal ?_
            refine K.KW.seq ?_
            -- 14 :109
            refine K.KW.region ?_
            refine K.RW.qs [.int .u64 ((actR (actsR (DevM.fresh xs n_4 t.toNat) n_4 t.toNat (ls.take j)) n_4 t.toNat (ls.getD j a0)).2.1), .int .u64 ((actR (actsR (DevM.fresh xs n_4 t.toNat) n_4 t.toNat (ls.take j)) n_4 t.toNat (ls.getD j a0)).2.1)] (by kernel_rfl) ?_
            refine K.RW.q rfl rfl (K.QR.nice (v := .bool (((actR (actsR (DevM.fresh xs n_4 t.toNat) n_4 t.toNat (ls.take j)) n_4 t.toNat (ls.getD j a0)).2.1 : Int) != ((actR (actsR (DevM.fresh xs n_4 t.toNat) n_4 t.toNat (ls.take j)) n_4 t.toNat (ls.getD j a0)).2.1 : Int))) (by kernel_rfl) (congrArg Value.bool (bne_eq_false_iff_eq.2 (rfl)))) ?_
            refine K.RW.qs [.bool false, .int .i64 ((actR (actsR (DevM.fresh xs n_4 t.toNat) n_4 t.toNat (ls.take j)) n_4 t.toNat (ls.getD j a0)).2.2), .int .i64 ((actR (actsR (DevM.fresh xs n_4 t.toNat) n_4 t.toNat (ls.take j)) n_4 t.toNat (ls.getD j a0)).2.2)] (by kernel_rfl) ?_
            refine K.RW.q rfl (by kernel_rfl) (K.QR.nice (v := .bool (((actR (actsR (DevM.fresh xs n_4 t.toNat) n_4 t.toNat (ls.take j)) n_4 t.toNat (ls.getD j a0)).2.2 : Int) != ((actR (actsR (DevM.fresh xs n_4 t.toNat) n_4 t.toNat (ls.take j)) n_4 t.toNat (ls.getD j a0)).2.2 : Int))) (by kernel_rfl) (congrArg Value.bool (bne_eq_false_iff_eq.2 (rfl)))) ?_
            refine K.RW.qs [.bool false, .bool false, .pointer (some ⟨p_3, 0, none⟩), .pointer (some ⟨p_13, 0, none⟩)] (by kernel_rfl) ?_
            refine K.RW.l (by kernel_rfl) (K.OW.gcall hS [1, 0] [2] [.pointer (some ⟨p_3, 0, none⟩), .pointer (some ⟨p_13, 0, none⟩)] (same4_ok _ _ _ _ _ _ _ _ x_26 x_28) ?_)
            clear hS; rintro _ _ w ⟨rfl, rfl⟩ hS
            replace hS : K.Sat w0 [l_25, l_27, fr] w := hS
            refine K.RW.qs [.bool false, .bool false] (by kernel_rfl) ?_
            refine K.RW.nil ?_
            refine K.thn_normal ?_
            refine K.KW.ifF rfl ?_
            refine K.KW.skip ?_
            refine K.blk_normal ?_
            refine K.thn_normal ?_
            -- 11 :106
            refine K.KW.region ?_
            refine K.RW.qs [.int .i64 ((j : Nat) : Int)] (by kernel_rfl) ?_
            refine K.RW.q rfl rfl (K.QR.n64 ((((j : Nat) : Int) : Int) + (1 : Int)) ((j + 1 : Nat) : Int) (by kernel_rfl) (by omega)) ?_
            refine K.RW.qs [.int .i64 ((j + 1 : Nat) : Int)] (by kernel_rfl) ?_
            refine K.RW.nil ?_
            refine K.thn_normal ?_
            refine ⟨_, ?_, j + 1, l_25, l_27, rfl, ⟨by rfl, by rfl, by rfl, by rfl, by rfl, by rfl, by rfl, trivial⟩, (by omega), (by rw [actsR_next (by omega)]; exact x_26), (by rw [actsR_next (by omega)]; exact x_28), hS.pick [1, 0, 2]⟩
            omega
          ·  -- no
            refine K.RW.q rfl rfl (K.QR.nice (v := .bool (decide ((((j : Nat) : Int) : Int) < (((ls.length : Nat) : Int) : Int)))) (by kernel_rfl) (congrArg Value.bool (decide_eq_false h_22))) ?_
            refine K.RW.nil ?_
            refine K.thn_normal ?_
            refine K.KW.ifF rfl ?_
            refine K.KW.exit ?_
            refine K.thn_exit ?_
            refine K.thn_exit ?_
            refine K.blk_hit ?_
            refine K.thn_normal ?_
            refine K.KW.seq ?_
            -- 16 :113
            refine K.KW.region ?_
            refine K.RW.l rfl (K.OW.gcall hS [] [0, 1, 2] [] (awake04_ok _) ?_)
            clear hS; rintro _ _ w ⟨rfl, rfl⟩ hS
            replace hS : K.Sat w0 [m1, l1, fr] w := hS
            refine K.RW.qs [.bool true, .pointer (some ⟨p_3, 0, none⟩), .pointer (some ⟨p_13, 0, none⟩)] (by kernel_rfl) ?_
            refine K.RW.l (by kernel_rfl) (K.OW.gcall hS [1, 0] [2] [.pointer (some ⟨p_3, 0, none⟩), .pointer (some ⟨p_13, 0, none⟩)] (same4_ok _ _ _ _ _ _ _ _ x_20 x_21) ?_)
            clear hS; rintro _ _ w ⟨rfl, rfl⟩ hS
            replace hS : K.Sat w0 [l1, m1, fr] w := hS
            refine K.RW.qs [.bool true, .bool true] (by kernel_rfl) ?_
            refine K.RW.nil ?_
            refine K.thn_normal ?_
            refine K.KW.ret ?_
            refine ⟨.inr rfl, rfl, (.bool true), K.res1 rfl rfl, [], ?_, hS.pick [2]⟩
            exact rfl
      ·
        replace hS : K.Sat w0 [fr] w := hS
        refine K.RW.qs [.tuple #[.pointer none, .int .i64 (mayOpenM xs.length t)], .pointer none, .int .i64 (mayOpenM xs.length t), .pointer none, .int .i64 (mayOpenM xs.length t)] (by kernel_rfl) ?_
        refine K.RW.nil ?_
        refine K.thn_normal ?_
        refine K.KW.seq ?_
        refine K.KW.seq ?_
        -- 4 :99
        refine K.KW.region ?_
        refine K.RW.qs [.int .i64 (mayOpenM xs.length t), .slice a xs.length cap] (by kernel_rfl) ?_
        refine K.RW.q rfl rfl (K.QR.len (P := Try.prog) rfl rfl Try.underlying22) ?_
        refine K.RW.qs [.int .i64 t] (by kernel_rfl) ?_
        refine K.RW.l rfl (K.OW.gcall hS [] [0] [.int .i64 ((xs.length : Nat) : Int), .int .i64 t] (mayOpen_okR _ xs.length t (by omega) (by omega)) ?_)
        clear hS; rintro _ _ w ⟨rfl, rfl⟩ hS
        replace hS : K.Sat w0 [fr] w := hS
        refine K.RW.q rfl rfl (K.QR.nice (v := .bool (((mayOpenM xs.length t) : Int) != ((mayOpenM xs.length t) : Int))) (by kernel_rfl) (congrArg Value.bool (bne_eq_false_iff_eq.2 (by omega)))) ?_
        refine K.RW.nil ?_
        refine K.thn_normal ?_
        refine K.KW.ifF rfl ?_
        refine K.KW.skip ?_
        refine K.thn_normal ?_
        refine K.KW.seq ?_
        refine K.KW.seq ?_
        -- 6 :102
        refine K.KW.region ?_
        refine K.RW.qs [.int .i64 (mayOpenM xs.length t)] (by kernel_rfl) ?_
        refine K.RW.q rfl rfl (K.QR.nice (v := .bool (((mayOpenM xs.length t) : Int) != (0 : Int))) (by kernel_rfl) (congrArg Value.bool (bne_iff_ne.2 (by omega)))) ?_
        refine K.RW.nil ?_
        refine K.thn_normal ?_
        refine K.KW.ifT rfl ?_
        refine K.KW.seq ?_
        -- 7 :103
        refine K.KW.region ?_
        refine K.RW.l rfl (K.OW.gcall hS [] [0] [] (awake04_ok _) ?_)
        clear hS; rintro _ _ w ⟨rfl, rfl⟩ hS
        replace hS : K.Sat w0 [fr] w := hS
        refine K.RW.qs [.bool true, .pointer none, .bool true, .bool true, .bool true] (by kernel_rfl) ?_
        refine K.RW.nil ?_
        refine K.thn_normal ?_
        refine K.KW.ret ?_
        refine K.thn_ret ?_
        refine ⟨.inr rfl, rfl, (.bool true), K.res1 rfl rfl, [], ?_, hS.pick [0]⟩
        exact rfl

set_option maxHeartbeats 1000000 in
set_option maxRecDepth 100000 in
theorem do4_nil (w0 : World) (a : ActM) (ha : a.good) :
    K.GC Try.prog w0 41 #[.pointer none, .agg #[.int .i64 a.kind, .int .i64 a.thread, .int .i64 a.line, .int .i64 a.at_, .int .u64 a.w]] [] (fun v post => v = .tuple #[.int .u64 0, .int .i64 (if a.kind = 3 then 0 else 1)] ∧ post = []) := by
  obtain ⟨hk, ht, hl, hat⟩ := ha
  refine K.GC.mk (n := 51) Try.func41 rfl rfl [.pointer none, .agg #[.int .i64 a.kind, .int .i64 a.thread, .int .i64 a.line, .int .i64 a.at_, .int .u64 a.w]] rfl rfl ?_
  intro fr w hS
  replace hS : K.Sat w0 [fr] w := hS
  refine K.KW.seq ?_
  -- 0 :36
  refine K.KW.region ?_
  refine K.RW.l rfl (K.OW.gnew 70 [.int .i64 a.kind, .int .i64 a.thread, .int .i64 a.line, .int .i64 a.at_, .int .u64 a.w] hS ?_)
  clear hS; intro w r_1 g_2 hg_3 hS
  refine K.RW.qs [.int .u64 0, .int .i64 0] (by kernel_rfl) ?_
  refine K.RW.nil ?_
  refine K.thn_normal ?_
  refine K.KW.seq ?_
  refine K.KW.seq ?_
  -- 1 :37
  refine K.KW.region ?_
  refine K.RW.qs [.pointer (some ⟨r_1, 0, none⟩)] (by kernel_rfl) ?_
  refine K.RW.q rfl rfl (K.QR.ld1 (v := .int .i64 a.kind) rfl rfl (by kernel_rfl) ((hS.blk 0 rfl hg_3).cell rfl)) ?_
  refine K.RW.nil ?_
  refine K.thn_normal ?_
  refine K.KW.block ?_
  refine K.KW.seq ?_
  -- 2 :38
  refine K.KW.region ?_
  by_cases h_4 : (a.kind : Int) = (0 : Int)
  ·  -- yes
    refine K.RW.q rfl rfl (K.QR.nice (v := .bool ((a.kind : Int) == (0 : Int))) (by kernel_rfl) (congrArg Value.bool (beq_iff_eq.2 h_4))) ?_
    refine K.RW.qs [.bool true] (by kernel_rfl) ?_
    refine K.RW.nil ?_
    refine K.thn_normal ?_
    refine K.KW.ifT rfl ?_
    refine K.KW.seq ?_
    -- 3 :39
    refine K.KW.region ?_
    refine K.RW.qs [.pointer none, .pointer (some ⟨r_1, 1, none⟩)] (by kernel_rfl) ?_
    refine K.RW.q rfl rfl (K.QR.ld1 (v := .int .i64 a.thread) rfl rfl (by kernel_rfl) ((hS.blk 0 rfl hg_3).cell rfl)) ?_
    refine K.RW.qs [.pointer (some ⟨r_1, 2, none⟩)] (by kernel_rfl) ?_
    refine K.RW.q rfl rfl (K.QR.ld1 (v := .int .i64 a.line) rfl rfl (by kernel_rfl) ((hS.blk 0 rfl hg_3).cell rfl)) ?_
    refine K.RW.l rfl (K.OW.gcall hS [] [0, 1] [.pointer none, .int .i64 a.thread, .int .i64 a.line] (dvFlush_nil _ a.thread a.line) ?_)
    clear hS; rintro _ _ w ⟨rfl, rfl⟩ hS
    replace hS : K.Sat w0 [g_2, fr] w := hS
    refine K.RW.qs [.int .u64 0, .int .i64 1] (by kernel_rfl) ?_
    refine K.RW.nil ?_
    refine K.thn_normal ?_
    refine K.KW.ret ?_
    refine K.blk_ret ?_
    refine K.thn_ret ?_
    refine ⟨.inr rfl, rfl, (.tuple #[.int .u64 0, .int .i64 1]), K.res2 rfl rfl rfl, [], ?_, hS.pick [1]⟩
    exact ⟨by rw [if_neg (by omega)], rfl⟩
  ·  -- no
    refine K.RW.q rfl rfl (K.QR.nice (v := .bool ((a.kind : Int) == (0 : Int))) (by kernel_rfl) (congrArg Value.bool (beq_eq_false_iff_ne.2 h_4))) ?_
    refine K.RW.qs [.bool false] (by kernel_rfl) ?_
    refine K.RW.nil ?_
    refine K.thn_normal ?_
    refine K.KW.ifF rfl ?_
    refine K.KW.seq ?_
    -- 4 :40
    refine K.KW.region ?_
    by_cases h_5 : (a.kind : Int) = (1 : Int)
    ·  -- yes
      refine K.RW.q rfl rfl (K.QR.nice (v := .bool ((a.kind : Int) == (1 : Int))) (by kernel_rfl) (congrArg Value.bool (beq_iff_eq.2 h_5))) ?_
      refine K.RW.qs [.bool true] (by kernel_rfl) ?_
      refine K.RW.nil ?_
      refine K.thn_normal ?_
      refine K.KW.ifT rfl ?_
      refine K.KW.seq ?_
      -- 5 :41
      refine K.KW.region ?_
      refine K.RW.qs [.pointer none, .pointer (some ⟨r_1, 1, none⟩)] (by kernel_rfl) ?_
      refine K.RW.q rfl rfl (K.QR.ld1 (v := .int .i64 a.thread) rfl rfl (by kernel_rfl) ((hS.blk 0 rfl hg_3).cell rfl)) ?_
      refine K.RW.l rfl (K.OW.gcall hS [] [0, 1] [.pointer none, .int .i64 a.thread] (dvFence_nil _ a.thread) ?_)
      clear hS; rintro _ _ w ⟨rfl, rfl⟩ hS
      replace hS : K.Sat w0 [g_2, fr] w := hS
      refine K.RW.qs [.int .u64 0, .int .i64 1] (by kernel_rfl) ?_
      refine K.RW.nil ?_
      refine K.thn_normal ?_
      refine K.KW.ret ?_
      refine K.blk_ret ?_
      refine K.thn_ret ?_
      refine ⟨.inr rfl, rfl, (.tuple #[.int .u64 0, .int .i64 1]), K.res2 rfl rfl rfl, [], ?_, hS.pick [1]⟩
      exact ⟨by rw [if_neg (by omega)], rfl⟩
    ·  -- no
      refine K.RW.q rfl rfl (K.QR.nice (v := .bool ((a.kind : Int) == (1 : Int))) (by kernel_rfl) (congrArg Value.bool (beq_eq_false_iff_ne.2 h_5))) ?_
      refine K.RW.qs [.bool false] (by kernel_rfl) ?_
      refine K.RW.nil ?_
      refine K.thn_normal ?_
      refine K.KW.ifF rfl ?_
      refine K.KW.seq ?_
      -- 6 :42
      refine K.KW.region ?_
      by_cases h_6 : (a.kind : Int) = (2 : Int)
      ·  -- yes
        refine K.RW.q rfl rfl (K.QR.nice (v := .bool ((a.kind : Int) == (2 : Int))) (by kernel_rfl) (congrArg Value.bool (beq_iff_eq.2 h_6))) ?_
        refine K.RW.qs [.bool true] (by kernel_rfl) ?_
        refine K.RW.nil ?_
        refine K.thn_normal ?_
        refine K.KW.ifT rfl ?_
        refine K.KW.seq ?_
        -- 7 :43
        refine K.KW.region ?_
        refine K.RW.qs [.pointer none, .pointer (some ⟨r_1, 2, none⟩)] (by kernel_rfl) ?_
        refine K.RW.q rfl rfl (K.QR.ld1 (v := .int .i64 a.line) rfl rfl (by kernel_rfl) ((hS.blk 0 rfl hg_3).cell rfl)) ?_
        refine K.RW.l rfl (K.OW.gcall hS [] [0, 1] [.pointer none, .int .i64 a.line] (dvEvict_nil _ a.line) ?_)
        clear hS; rintro _ _ w ⟨rfl, rfl⟩ hS
        replace hS : K.Sat w0 [g_2, fr] w := hS
        refine K.RW.qs [.int .u64 0, .int .i64 1] (by kernel_rfl) ?_
        refine K.RW.nil ?_
        refine K.thn_normal ?_
        refine K.KW.ret ?_
        refine K.blk_ret ?_
        refine K.thn_ret ?_
        refine ⟨.inr rfl, rfl, (.tuple #[.int .u64 0, .int .i64 1]), K.res2 rfl rfl rfl, [], ?_, hS.pick [1]⟩
        exact ⟨by rw [if_neg (by omega)], rfl⟩
      ·  -- no
        refine K.RW.q rfl rfl (K.QR.nice (v := .bool ((a.kind : Int) == (2 : Int))) (by kernel_rfl) (congrArg Value.bool (beq_eq_false_iff_ne.2 h_6))) ?_
        refine K.RW.qs [.bool false] (by kernel_rfl) ?_
        refine K.RW.nil ?_
        refine K.thn_normal ?_
        refine K.KW.ifF rfl ?_
        refine K.KW.seq ?_
        -- 8 :44
        refine K.KW.region ?_
        by_cases h_7 : (a.kind : Int) = (3 : Int)
        ·  -- yes
          refine K.RW.q rfl rfl (K.QR.nice (v := .bool ((a.kind : Int) == (3 : Int))) (by kernel_rfl) (congrArg Value.bool (beq_iff_eq.2 h_7))) ?_
          refine K.RW.qs [.bool true] (by kernel_rfl) ?_
          refine K.RW.nil ?_
          refine K.thn_normal ?_
          refine K.KW.ifT rfl ?_
          refine K.KW.seq ?_
          -- 9 :45
          refine K.KW.region ?_
          refine K.RW.qs [.pointer none] (by kernel_rfl) ?_
          refine K.RW.l rfl (K.OW.gcall hS [] [0, 1] [.pointer none] (dvCrash_nil _ ) ?_)
          clear hS; rintro _ _ w ⟨rfl, rfl⟩ hS
          replace hS : K.Sat w0 [g_2, fr] w := hS
          refine K.RW.nil ?_
          refine K.thn_normal ?_
          refine K.KW.seq ?_
          -- 10 :46
          refine K.KW.region ?_
          refine K.RW.qs [.int .u64 0, .int .i64 0] (by kernel_rfl) ?_
          refine K.RW.nil ?_
          refine K.thn_normal ?_
          refine K.KW.ret ?_
          refine K.blk_ret ?_
          refine K.thn_ret ?_
          refine ⟨.inr rfl, rfl, (.tuple #[.int .u64 0, .int .i64 0]), K.res2 rfl rfl rfl, [], ?_, hS.pick [1]⟩
          exact ⟨by rw [if_pos (by omega)], rfl⟩
        ·  -- no
          refine K.RW.q rfl rfl (K.QR.nice (v := .bool ((a.kind : Int) == (3 : Int))) (by kernel_rfl) (congrArg Value.bool (beq_eq_false_iff_ne.2 h_7))) ?_
          refine K.RW.qs [.bool false] (by kernel_rfl) ?_
          refine K.RW.nil ?_
          refine K.thn_normal ?_
          refine K.KW.ifF rfl ?_
          refine K.KW.seq ?_
          -- 11 :47
          refine K.KW.region ?_
          by_cases h_8 : (a.kind : Int) = (4 : Int)
          ·  -- yes
            refine K.RW.q rfl rfl (K.QR.nice (v := .bool ((a.kind : Int) == (4 : Int))) (by kernel_rfl) (congrArg Value.bool (beq_iff_eq.2 h_8))) ?_
            refine K.RW.qs [.bool true] (by kernel_rfl) ?_
            refine K.RW.nil ?_
            refine K.thn_normal ?_
            refine K.KW.ifT rfl ?_
            refine K.KW.seq ?_
            -- 12 :48
            refine K.KW.region ?_
            refine K.RW.qs [.pointer none, .pointer (some ⟨r_1, 3, none⟩)] (by kernel_rfl) ?_
            refine K.RW.q rfl rfl (K.QR.ld1 (v := .int .i64 a.at_) rfl rfl (by kernel_rfl) ((hS.blk 0 rfl hg_3).cell rfl)) ?_
            refine K.RW.l rfl (K.OW.gcall hS [] [0, 1] [.pointer none, .int .i64 a.at_] (dvLoad_nil _ a.at_) ?_)
            clear hS; rintro _ _ w ⟨rfl, rfl⟩ hS
            replace hS : K.Sat w0 [g_2, fr] w := hS
            refine K.RW.qs [.tuple #[.int .u64 0, .int .i64 1], .int .u64 0, .int .i64 1, .int .u64 0, .int .i64 1] (by kernel_rfl) ?_
            refine K.RW.nil ?_
            refine K.thn_normal ?_
            refine K.KW.seq ?_
            -- 13 :49
            refine K.KW.region ?_
            refine K.RW.qs [.int .u64 0, .int .i64 1, .int .u64 0, .int .i64 1] (by kernel_rfl) ?_
            refine K.RW.nil ?_
            refine K.thn_normal ?_
            refine K.KW.ret ?_
            refine K.blk_ret ?_
            refine K.thn_ret ?_
            refine ⟨.inr rfl, rfl, (.tuple #[.int .u64 0, .int .i64 1]), K.res2 rfl rfl rfl, [], ?_, hS.pick [1]⟩
            exact ⟨by rw [if_neg (by omega)], rfl⟩
          ·  -- no
            refine K.RW.q rfl rfl (K.QR.nice (v := .bool ((a.kind : Int) == (4 : Int))) (by kernel_rfl) (congrArg Value.bool (beq_eq_false_iff_ne.2 h_8))) ?_
            refine K.RW.qs [.bool false] (by kernel_rfl) ?_
            refine K.RW.nil ?_
            refine K.thn_normal ?_
            refine K.KW.ifF rfl ?_
            refine K.KW.skip ?_
            refine K.blk_normal ?_
            refine K.thn_normal ?_
            refine K.KW.seq ?_
            -- 14 :51
            refine K.KW.region ?_
            refine K.RW.qs [.pointer none, .pointer (some ⟨r_1, 3, none⟩)] (by kernel_rfl) ?_
            refine K.RW.q rfl rfl (K.QR.ld1 (v := .int .i64 a.at_) rfl rfl (by kernel_rfl) ((hS.blk 0 rfl hg_3).cell rfl)) ?_
            refine K.RW.qs [.pointer (some ⟨r_1, 4, none⟩)] (by kernel_rfl) ?_
            refine K.RW.q rfl rfl (K.QR.ld1 (v := .int .u64 a.w) rfl rfl (by kernel_rfl) ((hS.blk 0 rfl hg_3).cell rfl)) ?_
            refine K.RW.l rfl (K.OW.gcall hS [] [0, 1] [.pointer none, .int .i64 a.at_, .int .u64 a.w] (dvStore_nil _ a.at_ a.w) ?_)
            clear hS; rintro _ _ w ⟨rfl, rfl⟩ hS
            replace hS : K.Sat w0 [g_2, fr] w := hS
            refine K.RW.qs [.int .u64 0, .int .i64 1] (by kernel_rfl) ?_
            refine K.RW.nil ?_
            refine K.thn_normal ?_
            refine K.KW.ret ?_
            refine ⟨.inr rfl, rfl, (.tuple #[.int .u64 0, .int .i64 1]), K.res2 rfl rfl rfl, [], ?_, hS.pick [1]⟩
            exact ⟨by rw [if_neg (by omega)], rfl⟩

set_option maxHeartbeats 1000000 in
set_option maxRecDepth 100000 in
theorem l4none_ok (w0 : World) (a : ActM) (ha : a.good) :
    K.GC Try.prog w0 8 #[.agg #[.int .i64 a.kind, .int .i64 a.thread, .int .i64 a.line, .int .i64 a.at_, .int .u64 a.w]] [] (fun v post => v = .bool true) := by
  have ha2 := ha; obtain ⟨hk, ht, hl, hat⟩ := ha2
  refine K.GC.mk (n := 58) Try.func8 rfl rfl [.agg #[.int .i64 a.kind, .int .i64 a.thread, .int .i64 a.line, .int .i64 a.at_, .int .u64 a.w]] rfl rfl ?_
  intro fr w hS
  replace hS : K.Sat w0 [fr] w := hS
  refine K.KW.seq ?_
  -- 0 :180
  refine K.KW.region ?_
  refine K.RW.l rfl (K.OW.gnew 70 [.int .i64 a.kind, .int .i64 a.thread, .int .i64 a.line, .int .i64 a.at_, .int .u64 a.w] hS ?_)
  clear hS; intro w r_1 g_2 hg_3 hS
  refine K.RW.qs [.bool false] (by kernel_rfl) ?_
  refine K.RW.nil ?_
  refine K.thn_normal ?_
  refine K.KW.seq ?_
  -- 1 :181
  refine K.KW.region ?_
  refine K.RW.qs [.pointer none] (by kernel_rfl) ?_
  refine K.RW.nil ?_
  refine K.thn_normal ?_
  refine K.KW.seq ?_
  -- 2 :182
  refine K.KW.region ?_
  refine K.RW.qs [.pointer none] (by kernel_rfl) ?_
  refine K.RW.q rfl rfl (K.QR.ldN [.int .i64 a.kind, .int .i64 a.thread, .int .i64 a.line, .int .i64 a.at_, .int .u64 a.w] rfl rfl (by kernel_rfl) (by kernel_rfl) (K.cells (K.cl ((hS.blk 0 rfl hg_3).cell rfl) (K.cl ((hS.blk 0 rfl hg_3).cell rfl) (K.cl ((hS.blk 0 rfl hg_3).cell rfl) (K.cl ((hS.blk 0 rfl hg_3).cell rfl) (K.cl ((hS.blk 0 rfl hg_3).cell rfl) K.cl0))))))) ?_
  refine K.RW.l rfl (K.OW.gcall hS [] [0, 1] [.pointer none, .agg #[.int .i64 a.kind, .int .i64 a.thread, .int .i64 a.line, .int .i64 a.at_, .int .u64 a.w]] (do4_nil _ a ha) ?_)
  clear hS; rintro _ _ w ⟨rfl, rfl⟩ hS
  replace hS : K.Sat w0 [g_2, fr] w := hS
  refine K.RW.qs [.tuple #[.int .u64 0, .int .i64 (if (a).kind = 3 then (0 : Int) else 1)], .int .u64 0, .int .i64 (if (a).kind = 3 then (0 : Int) else 1), .int .u64 0, .int .i64 (if (a).kind = 3 then (0 : Int) else 1)] (by kernel_rfl) ?_
  refine K.RW.nil ?_
  refine K.thn_normal ?_
  refine K.KW.seq ?_
  -- 3 :183
  refine K.KW.region ?_
  refine K.RW.qs [.int .i64 1] (by kernel_rfl) ?_
  refine K.RW.nil ?_
  refine K.thn_normal ?_
  refine K.KW.seq ?_
  refine K.KW.seq ?_
  -- 4 :184
  by_cases h_4 : (a.kind : Int) = (3 : Int)
  ·  -- yes
    -- 4 :184
    refine K.KW.region ?_
    refine K.RW.qs [.pointer (some ⟨r_1, 0, none⟩)] (by kernel_rfl) ?_
    refine K.RW.q rfl rfl (K.QR.ld1 (v := .int .i64 a.kind) rfl rfl (by kernel_rfl) ((hS.blk 0 rfl hg_3).cell rfl)) ?_
    refine K.RW.q rfl rfl (K.QR.nice (v := .bool ((a.kind : Int) == (3 : Int))) (by kernel_rfl) (congrArg Value.bool (beq_iff_eq.2 h_4))) ?_
    refine K.RW.nil ?_
    refine K.thn_normal ?_
    refine K.KW.ifT rfl ?_
    -- 5 :185
    refine K.KW.region ?_
    refine K.RW.qs [.int .i64 0] (by kernel_rfl) ?_
    refine K.RW.nil ?_
    refine K.thn_normal ?_
    refine K.KW.seq ?_
    -- 6 :187
    refine K.KW.region ?_
    refine K.RW.l rfl (K.OW.gcall hS [] [0, 1] [] (awake04_ok _) ?_)
    clear hS; rintro _ _ w ⟨rfl, rfl⟩ hS
    replace hS : K.Sat w0 [g_2, fr] w := hS
    refine K.RW.qs [.bool true, .int .u64 0, .bool true, .bool true, .bool true, .int .i64 (if (a).kind = 3 then (0 : Int) else 1), .int .i64 0] (by kernel_rfl) ?_
    refine K.RW.q rfl (by kernel_rfl) (K.QR.nice (v := .bool (((if (a).kind = 3 then (0 : Int) else 1) : Int) == (0 : Int))) (by kernel_rfl) (congrArg Value.bool (beq_iff_eq.2 (by rw [if_pos (by omega)])))) ?_
    refine K.RW.qs [.bool true, .bool true, .pointer none] (by kernel_rfl) ?_
    refine K.RW.l (by kernel_rfl) (K.OW.gcall hS [] [0, 1] [.pointer none] (dvLines_nil _ ) ?_)
    clear hS; rintro _ _ w ⟨rfl, rfl⟩ hS
    replace hS : K.Sat w0 [g_2, fr] w := hS
    refine K.RW.qs [.bool true, .bool true, .bool true, .pointer none] (by kernel_rfl) ?_
    refine K.RW.l (by kernel_rfl) (K.OW.gcall hS [] [0, 1] [.pointer none] (dvKept_nil _ ) ?_)
    clear hS; rintro _ _ w ⟨rfl, rfl⟩ hS
    replace hS : K.Sat w0 [g_2, fr] w := hS
    refine K.RW.q rfl (by kernel_rfl) (K.QR.len (P := Try.prog) rfl rfl Try.underlying22) ?_
    refine K.RW.qs [.bool true, .bool true, .bool true, .pointer none] (by kernel_rfl) ?_
    refine K.RW.l (by kernel_rfl) (K.OW.gcall hS [] [0, 1] [.pointer none] (dvSeen_nil _ ) ?_)
    clear hS; rintro _ _ w ⟨rfl, rfl⟩ hS
    replace hS : K.Sat w0 [g_2, fr] w := hS
    refine K.RW.q rfl (by kernel_rfl) (K.QR.len (P := Try.prog) rfl rfl Try.underlying22) ?_
    refine K.RW.qs [.bool true, .bool true, .bool true, .pointer none, .pointer (some ⟨r_1, 1, none⟩)] (by kernel_rfl) ?_
    refine K.RW.q rfl (by kernel_rfl) (K.QR.ld1 (v := .int .i64 a.thread) rfl rfl (by kernel_rfl) ((hS.blk 0 rfl hg_3).cell rfl)) ?_
    refine K.RW.l (by kernel_rfl) (K.OW.gcall hS [] [0, 1] [.pointer none, .int .i64 a.thread] (dvPending_nil _ a.thread) ?_)
    clear hS; rintro _ _ w ⟨rfl, rfl⟩ hS
    replace hS : K.Sat w0 [g_2, fr] w := hS
    refine K.RW.q rfl (by kernel_rfl) (K.QR.len (P := Try.prog) rfl rfl Try.underlying73) ?_
    refine K.RW.qs [.bool true, .bool true, .bool true, .pointer none, .pointer (some ⟨r_1, 2, none⟩)] (by kernel_rfl) ?_
    refine K.RW.q rfl (by kernel_rfl) (K.QR.ld1 (v := .int .i64 a.line) rfl rfl (by kernel_rfl) ((hS.blk 0 rfl hg_3).cell rfl)) ?_
    refine K.RW.l (by kernel_rfl) (K.OW.gcall hS [] [0, 1] [.pointer none, .int .i64 a.line] (dvWrites_nil _ a.line) ?_)
    clear hS; rintro _ _ w ⟨rfl, rfl⟩ hS
    replace hS : K.Sat w0 [g_2, fr] w := hS
    refine K.RW.qs [.bool true, .bool true, .bool true] (by kernel_rfl) ?_
    refine K.RW.nil ?_
    refine K.thn_normal ?_
    refine K.KW.ret ?_
    refine ⟨.inr rfl, rfl, (.bool true), K.res1 rfl rfl, [], ?_, hS.pick [1]⟩
    exact rfl
  ·  -- no
    -- 4 :184
    refine K.KW.region ?_
    refine K.RW.qs [.pointer (some ⟨r_1, 0, none⟩)] (by kernel_rfl) ?_
    refine K.RW.q rfl rfl (K.QR.ld1 (v := .int .i64 a.kind) rfl rfl (by kernel_rfl) ((hS.blk 0 rfl hg_3).cell rfl)) ?_
    refine K.RW.q rfl rfl (K.QR.nice (v := .bool ((a.kind : Int) == (3 : Int))) (by kernel_rfl) (congrArg Value.bool (beq_eq_false_iff_ne.2 h_4))) ?_
    refine K.RW.nil ?_
    refine K.thn_normal ?_
    refine K.KW.ifF rfl ?_
    refine K.KW.skip ?_
    refine K.thn_normal ?_
    refine K.KW.seq ?_
    -- 6 :187
    refine K.KW.region ?_
    refine K.RW.l rfl (K.OW.gcall hS [] [0, 1] [] (awake04_ok _) ?_)
    clear hS; rintro _ _ w ⟨rfl, rfl⟩ hS
    replace hS : K.Sat w0 [g_2, fr] w := hS
    refine K.RW.qs [.bool true, .int .u64 0, .bool true, .bool true, .bool true, .int .i64 (if (a).kind = 3 then (0 : Int) else 1), .int .i64 1] (by kernel_rfl) ?_
    refine K.RW.q rfl (by kernel_rfl) (K.QR.nice (v := .bool (((if (a).kind = 3 then (0 : Int) else 1) : Int) == (1 : Int))) (by kernel_rfl) (congrArg Value.bool (beq_iff_eq.2 (by rw [if_neg (by omega)])))) ?_
    refine K.RW.qs [.bool true, .bool true, .pointer none] (by kernel_rfl) ?_
    refine K.RW.l (by kernel_rfl) (K.OW.gcall hS [] [0, 1] [.pointer none] (dvLines_nil _ ) ?_)
    clear hS; rintro _ _ w ⟨rfl, rfl⟩ hS
    replace hS : K.Sat w0 [g_2, fr] w := hS
    refine K.RW.qs [.bool true, .bool true, .bool true, .pointer none] (by kernel_rfl) ?_
    refine K.RW.l (by kernel_rfl) (K.OW.gcall hS [] [0, 1] [.pointer none] (dvKept_nil _ ) ?_)
    clear hS; rintro _ _ w ⟨rfl, rfl⟩ hS
    replace hS : K.Sat w0 [g_2, fr] w := hS
    refine K.RW.q rfl (by kernel_rfl) (K.QR.len (P := Try.prog) rfl rfl Try.underlying22) ?_
    refine K.RW.qs [.bool true, .bool true, .bool true, .pointer none] (by kernel_rfl) ?_
    refine K.RW.l (by kernel_rfl) (K.OW.gcall hS [] [0, 1] [.pointer none] (dvSeen_nil _ ) ?_)
    clear hS; rintro _ _ w ⟨rfl, rfl⟩ hS
    replace hS : K.Sat w0 [g_2, fr] w := hS
    refine K.RW.q rfl (by kernel_rfl) (K.QR.len (P := Try.prog) rfl rfl Try.underlying22) ?_
    refine K.RW.qs [.bool true, .bool true, .bool true, .pointer none, .pointer (some ⟨r_1, 1, none⟩)] (by kernel_rfl) ?_
    refine K.RW.q rfl (by kernel_rfl) (K.QR.ld1 (v := .int .i64 a.thread) rfl rfl (by kernel_rfl) ((hS.blk 0 rfl hg_3).cell rfl)) ?_
    refine K.RW.l (by kernel_rfl) (K.OW.gcall hS [] [0, 1] [.pointer none, .int .i64 a.thread] (dvPending_nil _ a.thread) ?_)
    clear hS; rintro _ _ w ⟨rfl, rfl⟩ hS
    replace hS : K.Sat w0 [g_2, fr] w := hS
    refine K.RW.q rfl (by kernel_rfl) (K.QR.len (P := Try.prog) rfl rfl Try.underlying73) ?_
    refine K.RW.qs [.bool true, .bool true, .bool true, .pointer none, .pointer (some ⟨r_1, 2, none⟩)] (by kernel_rfl) ?_
    refine K.RW.q rfl (by kernel_rfl) (K.QR.ld1 (v := .int .i64 a.line) rfl rfl (by kernel_rfl) ((hS.blk 0 rfl hg_3).cell rfl)) ?_
    refine K.RW.l (by kernel_rfl) (K.OW.gcall hS [] [0, 1] [.pointer none, .int .i64 a.line] (dvWrites_nil _ a.line) ?_)
    clear hS; rintro _ _ w ⟨rfl, rfl⟩ hS
    replace hS : K.Sat w0 [g_2, fr] w := hS
    refine K.RW.qs [.bool true, .bool true, .bool true] (by kernel_rfl) ?_
    refine K.RW.nil ?_
    refine K.thn_normal ?_
    refine K.KW.ret ?_
    refine ⟨.inr rfl, rfl, (.bool true), K.res1 rfl rfl, [], ?_, hS.pick [1]⟩
    exact rfl

set_option maxHeartbeats 1000000 in
set_option maxRecDepth 100000 in
theorem l4new_ok (w0 : World) (n t : Int) (hn : isInt n) (ht : isInt t) :
    K.GC Try.prog w0 7 #[.int .i64 n, .int .i64 t] [] (fun v post => v = .bool true) := by
  refine K.GC.mk (n := 42) Try.func7 rfl rfl [.int .i64 n, .int .i64 t] rfl rfl ?_
  intro fr w hS
  replace hS : K.Sat w0 [fr] w := hS
  refine K.KW.seq ?_
  -- 0 :117
  refine K.KW.region ?_
  refine K.RW.qs [.bool false] (by kernel_rfl) ?_
  refine K.RW.nil ?_
  refine K.thn_normal ?_
  refine K.KW.seq ?_
  refine K.KW.seq ?_
  -- 1 :118
  refine K.KW.region ?_
  refine K.RW.qs [.int .i64 n] (by kernel_rfl) ?_
  by_cases h_1 : (n : Int) > (300 : Int)
  ·  -- yes
    refine K.RW.q rfl rfl (K.QR.nice (v := .bool (decide ((n : Int) > (300 : Int)))) (by kernel_rfl) (congrArg Value.bool (decide_eq_true h_1))) ?_
    refine K.RW.qs [.bool true, .int .i64 n] (by kernel_rfl) ?_
    by_cases h_2 : (n : Int) ≤ (262144 : Int)
    ·  -- yes
      refine K.RW.q rfl (by kernel_rfl) (K.QR.nice (v := .bool (decide ((n : Int) ≤ (262144 : Int)))) (by kernel_rfl) (congrArg Value.bool (decide_eq_true h_2))) ?_
      refine K.RW.qs [.bool true] (by kernel_rfl) ?_
      refine K.RW.nil ?_
      refine K.thn_normal ?_
      refine K.KW.ifT rfl ?_
      refine K.KW.seq ?_
      -- 2 :119
      refine K.KW.region ?_
      refine K.RW.l rfl (K.OW.gcall hS [] [0] [] (awake04_ok _) ?_)
      clear hS; rintro _ _ w ⟨rfl, rfl⟩ hS
      replace hS : K.Sat w0 [fr] w := hS
      refine K.RW.qs [.bool true] (by kernel_rfl) ?_
      refine K.RW.nil ?_
      refine K.thn_normal ?_
      refine K.KW.ret ?_
      refine K.thn_ret ?_
      refine ⟨.inr rfl, rfl, (.bool true), K.res1 rfl rfl, [], ?_, hS.pick [0]⟩
      exact rfl
    ·  -- no
      refine K.RW.q rfl (by kernel_rfl) (K.QR.nice (v := .bool (decide ((n : Int) ≤ (262144 : Int)))) (by kernel_rfl) (congrArg Value.bool (decide_eq_false h_2))) ?_
      refine K.RW.qs [.bool false] (by kernel_rfl) ?_
      refine K.RW.nil ?_
      refine K.thn_normal ?_
      refine K.KW.ifF rfl ?_
      refine K.KW.skip ?_
      refine K.thn_normal ?_
      refine K.KW.seq ?_
      -- 3 :121
      refine K.KW.region ?_
      refine K.RW.qs [.int .i64 n, .int .i64 t] (by kernel_rfl) ?_
      refine K.RW.l rfl (K.OW.gcall hS [] [0] [.int .i64 n, .int .i64 t] (dvNew_ok _ n t (by omega) (by omega)) ?_)
      clear hS; rintro _ _ w (⟨p_3, l_4, rfl, rfl, x_5, h_6⟩ | ⟨rfl, rfl, h_7⟩) hS
      ·
        replace hS : K.Sat w0 [l_4, fr] w := hS
        refine K.RW.qs [.tuple #[.pointer (some ⟨p_3, 0, none⟩), .int .i64 0], .pointer (some ⟨p_3, 0, none⟩), .int .i64 0, .pointer (some ⟨p_3, 0, none⟩), .int .i64 0] (by kernel_rfl) ?_
        refine K.RW.nil ?_
        refine K.thn_normal ?_
        refine K.KW.seq ?_
        refine K.KW.seq ?_
        -- 4 :122
        refine K.KW.region ?_
        refine K.RW.qs [.int .i64 0, .int .i64 n, .int .i64 t] (by kernel_rfl) ?_
        refine K.RW.l rfl (K.OW.gcall hS [] [0, 1] [.int .i64 n, .int .i64 t] (mayNew_ok _ n t (by omega) (by omega)) ?_)
        clear hS; rintro _ _ w ⟨rfl, (⟨rfl, h_8⟩ | ⟨rfl, h_9⟩)⟩ hS
        ·
          replace hS : K.Sat w0 [l_4, fr] w := hS
          refine K.RW.qs [.bool false] (by kernel_rfl) ?_
          refine K.RW.nil ?_
          refine K.thn_normal ?_
          refine K.KW.ifF rfl ?_
          refine K.KW.skip ?_
          refine K.thn_normal ?_
          refine K.KW.seq ?_
          refine K.KW.seq ?_
          -- 6 :125
          refine K.KW.region ?_
          refine K.RW.qs [.int .i64 0, .bool false] (by kernel_rfl) ?_
          refine K.RW.nil ?_
          refine K.thn_normal ?_
          refine K.KW.ifF rfl ?_
          refine K.KW.skip ?_
          refine K.thn_normal ?_
          refine K.KW.seq ?_
          -- 8 :128
          refine K.KW.region ?_
          refine K.RW.l rfl (K.OW.gcall hS [] [0, 1] [] (awake04_ok _) ?_)
          clear hS; rintro _ _ w ⟨rfl, rfl⟩ hS
          replace hS : K.Sat w0 [l_4, fr] w := hS
          refine K.RW.qs [.bool true, .pointer (some ⟨p_3, 0, none⟩), .int .i64 n] (by kernel_rfl) ?_
          refine K.RW.q rfl (by kernel_rfl) (K.QR.turn (v := .int .i64 ((8 : Int) * (n : Int))) (K.QR.n64 ((8 : Int) * (n : Int)) ((8 : Int) * (n : Int)) (by kernel_rfl) (by omega)) (congrArg (Value.int .i64) (show ((8 : Int) * (n : Int) : Int) = (((8 * n.toNat : Nat) : Int) : Int) from by omega))) ?_
          refine K.RW.l (by kernel_rfl) (K.OW.gmk (P := Try.prog) (m := (8 * n.toNat)) (cc := cU64) (z := .int .u64 0) (size := 1) (bytes := 8) (0 : Int) hS ?_ Try.underlying22 (by kernel_rfl) rfl rfl (by unfold maxLen; omega) (by omega))
          clear hS; intro w r_10 l_11 o_12 hS
          refine K.RW.qs [.int .i64 t] (by kernel_rfl) ?_
          refine K.RW.l (by kernel_rfl) (K.OW.gcall hS [0] [1, 2] [.slice (some ⟨r_10, 0, none⟩) (8 * n.toNat) (8 * n.toNat), .int .i64 t] (rdOpen_okm _ _ _ _ n.toNat (List.replicate (8 * n.toNat) (0 : Int)) t (by omega) (by omega) (List.length_replicate : ((List.replicate (8 * n.toNat) (0 : Int))).length = 8 * n.toNat) (by omega) _ (fun w h => K.RowE.len (K.Own.rowE 0 (h.ownr 0 rfl o_12) (List.length_replicate : ((List.replicate (8 * n.toNat) (0 : Int))).length = 8 * n.toNat) (fun _ => rfl)) (List.length_replicate : ((List.replicate (8 * n.toNat) (0 : Int))).length = 8 * n.toNat))) ?_)
          clear hS; rintro _ _ w ⟨p_13, l_14, rfl, rfl, x_15⟩ hS
          replace hS : K.Sat w0 [l_11, l_14, l_4, fr] w := hS
          rw [Nat.mul_comm 8 n.toNat] at x_15
          refine K.RW.l (by kernel_rfl) (K.OW.gcall hS [2, 1] [0, 3] [.pointer (some ⟨p_3, 0, none⟩), .pointer (some ⟨p_13, 0, none⟩)] (same4_ok _ _ _ _ _ _ _ _ x_5 x_15) ?_)
          clear hS; rintro _ _ w ⟨rfl, rfl⟩ hS
          replace hS : K.Sat w0 [l_4, l_14, l_11, fr] w := hS
          refine K.RW.qs [.bool true, .bool true] (by kernel_rfl) ?_
          refine K.RW.nil ?_
          refine K.thn_normal ?_
          refine K.KW.ret ?_
          refine ⟨.inr rfl, rfl, (.bool true), K.res1 rfl rfl, [], ?_, hS.pick [3]⟩
          exact rfl
        ·
          exfalso; omega
      ·
        replace hS : K.Sat w0 [fr] w := hS
        refine K.RW.qs [.tuple #[.pointer none, .int .i64 1], .pointer none, .int .i64 1, .pointer none, .int .i64 1] (by kernel_rfl) ?_
        refine K.RW.nil ?_
        refine K.thn_normal ?_
        refine K.KW.seq ?_
        refine K.KW.seq ?_
        -- 4 :122
        refine K.KW.region ?_
        refine K.RW.qs [.int .i64 1, .int .i64 n, .int .i64 t] (by kernel_rfl) ?_
        refine K.RW.l rfl (K.OW.gcall hS [] [0] [.int .i64 n, .int .i64 t] (mayNew_ok _ n t (by omega) (by omega)) ?_)
        clear hS; rintro _ _ w ⟨rfl, (⟨rfl, h_16⟩ | ⟨rfl, h_17⟩)⟩ hS
        ·
          exfalso; omega
        ·
          replace hS : K.Sat w0 [fr] w := hS
          refine K.RW.qs [.bool false] (by kernel_rfl) ?_
          refine K.RW.nil ?_
          refine K.thn_normal ?_
          refine K.KW.ifF rfl ?_
          refine K.KW.skip ?_
          refine K.thn_normal ?_
          refine K.KW.seq ?_
          refine K.KW.seq ?_
          -- 6 :125
          refine K.KW.region ?_
          refine K.RW.qs [.int .i64 1, .bool true] (by kernel_rfl) ?_
          refine K.RW.nil ?_
          refine K.thn_normal ?_
          refine K.KW.ifT rfl ?_
          refine K.KW.seq ?_
          -- 7 :126
          refine K.KW.region ?_
          refine K.RW.l rfl (K.OW.gcall hS [] [0] [] (awake04_ok _) ?_)
          clear hS; rintro _ _ w ⟨rfl, rfl⟩ hS
          replace hS : K.Sat w0 [fr] w := hS
          refine K.RW.qs [.bool true, .pointer none, .bool true, .bool true, .bool true] (by kernel_rfl) ?_
          refine K.RW.nil ?_
          refine K.thn_normal ?_
          refine K.KW.ret ?_
          refine K.thn_ret ?_
          refine ⟨.inr rfl, rfl, (.bool true), K.res1 rfl rfl, [], ?_, hS.pick [0]⟩
          exact rfl
  ·  -- no
    refine K.RW.q rfl rfl (K.QR.nice (v := .bool (decide ((n : Int) > (300 : Int)))) (by kernel_rfl) (congrArg Value.bool (decide_eq_false h_1))) ?_
    refine K.RW.qs [.bool false] (by kernel_rfl) ?_
    refine K.RW.skip rfl (by kernel_rfl) ?_
    refine K.RW.skip rfl (by kernel_rfl) ?_
    refine K.RW.qs [.bool false] (by kernel_rfl) ?_
    refine K.RW.nil ?_
    refine K.thn_normal ?_
    refine K.KW.ifF rfl ?_
    refine K.KW.skip ?_
    refine K.thn_normal ?_
    refine K.KW.seq ?_
    -- 3 :121
    refine K.KW.region ?_
    refine K.RW.qs [.int .i64 n, .int .i64 t] (by kernel_rfl) ?_
    refine K.RW.l rfl (K.OW.gcall hS [] [0] [.int .i64 n, .int .i64 t] (dvNew_ok _ n t (by omega) (by omega)) ?_)
    clear hS; rintro _ _ w (⟨p_18, l_19, rfl, rfl, x_20, h_21⟩ | ⟨rfl, rfl, h_22⟩) hS
    ·
      replace hS : K.Sat w0 [l_19, fr] w := hS
      refine K.RW.qs [.tuple #[.pointer (some ⟨p_18, 0, none⟩), .int .i64 0], .pointer (some ⟨p_18, 0, none⟩), .int .i64 0, .pointer (some ⟨p_18, 0, none⟩), .int .i64 0] (by kernel_rfl) ?_
      refine K.RW.nil ?_
      refine K.thn_normal ?_
      refine K.KW.seq ?_
      refine K.KW.seq ?_
      -- 4 :122
      refine K.KW.region ?_
      refine K.RW.qs [.int .i64 0, .int .i64 n, .int .i64 t] (by kernel_rfl) ?_
      refine K.RW.l rfl (K.OW.gcall hS [] [0, 1] [.int .i64 n, .int .i64 t] (mayNew_ok _ n t (by omega) (by omega)) ?_)
      clear hS; rintro _ _ w ⟨rfl, (⟨rfl, h_23⟩ | ⟨rfl, h_24⟩)⟩ hS
      ·
        replace hS : K.Sat w0 [l_19, fr] w := hS
        refine K.RW.qs [.bool false] (by kernel_rfl) ?_
        refine K.RW.nil ?_
        refine K.thn_normal ?_
        refine K.KW.ifF rfl ?_
        refine K.KW.skip ?_
        refine K.thn_normal ?_
        refine K.KW.seq ?_
        refine K.KW.seq ?_
        -- 6 :125
        refine K.KW.region ?_
        refine K.RW.qs [.int .i64 0, .bool false] (by kernel_rfl) ?_
        refine K.RW.nil ?_
        refine K.thn_normal ?_
        refine K.KW.ifF rfl ?_
        refine K.KW.skip ?_
        refine K.thn_normal ?_
        refine K.KW.seq ?_
        -- 8 :128
        refine K.KW.region ?_
        refine K.RW.l rfl (K.OW.gcall hS [] [0, 1] [] (awake04_ok _) ?_)
        clear hS; rintro _ _ w ⟨rfl, rfl⟩ hS
        replace hS : K.Sat w0 [l_19, fr] w := hS
        refine K.RW.qs [.bool true, .pointer (some ⟨p_18, 0, none⟩), .int .i64 n] (by kernel_rfl) ?_
        refine K.RW.q rfl (by kernel_rfl) (K.QR.turn (v := .int .i64 ((8 : Int) * (n : Int))) (K.QR.n64 ((8 : Int) * (n : Int)) ((8 : Int) * (n : Int)) (by kernel_rfl) (by omega)) (congrArg (Value.int .i64) (show ((8 : Int) * (n : Int) : Int) = (((8 * n.toNat : Nat) : Int) : Int) from by omega))) ?_
        refine K.RW.l (by kernel_rfl) (K.OW.gmk (P := Try.prog) (m := (8 * n.toNat)) (cc := cU64) (z := .int .u64 0) (size := 1) (bytes := 8) (0 : Int) hS ?_ Try.underlying22 (by kernel_rfl) rfl rfl (by unfold maxLen; omega) (by omega))
        clear hS; intro w r_25 l_26 o_27 hS
        refine K.RW.qs [.int .i64 t] (by kernel_rfl) ?_
        refine K.RW.l (by kernel_rfl) (K.OW.gcall hS [0] [1, 2] [.slice (some ⟨r_25, 0, none⟩) (8 * n.toNat) (8 * n.toNat), .int .i64 t] (rdOpen_okm _ _ _ _ n.toNat (List.replicate (8 * n.toNat) (0 : Int)) t (by omega) (by omega) (List.length_replicate : ((List.replicate (8 * n.toNat) (0 : Int))).length = 8 * n.toNat) (by omega) _ (fun w h => K.RowE.len (K.Own.rowE 0 (h.ownr 0 rfl o_27) (List.length_replicate : ((List.replicate (8 * n.toNat) (0 : Int))).length = 8 * n.toNat) (fun _ => rfl)) (List.length_replicate : ((List.replicate (8 * n.toNat) (0 : Int))).length = 8 * n.toNat))) ?_)
        clear hS; rintro _ _ w ⟨p_28, l_29, rfl, rfl, x_30⟩ hS
        replace hS : K.Sat w0 [l_26, l_29, l_19, fr] w := hS
        rw [Nat.mul_comm 8 n.toNat] at x_30
        refine K.RW.l (by kernel_rfl) (K.OW.gcall hS [2, 1] [0, 3] [.pointer (some ⟨p_18, 0, none⟩), .pointer (some ⟨p_28, 0, none⟩)] (same4_ok _ _ _ _ _ _ _ _ x_20 x_30) ?_)
        clear hS; rintro _ _ w ⟨rfl, rfl⟩ hS
        replace hS : K.Sat w0 [l_19, l_29, l_26, fr] w := hS
        refine K.RW.qs [.bool true, .bool true] (by kernel_rfl) ?_
        refine K.RW.nil ?_
        refine K.thn_normal ?_
        refine K.KW.ret ?_
        refine ⟨.inr rfl, rfl, (.bool true), K.res1 rfl rfl, [], ?_, hS.pick [3]⟩
        exact rfl
      ·
        exfalso; omega
    ·
      replace hS : K.Sat w0 [fr] w := hS
      refine K.RW.qs [.tuple #[.pointer none, .int .i64 1], .pointer none, .int .i64 1, .pointer none, .int .i64 1] (by kernel_rfl) ?_
      refine K.RW.nil ?_
      refine K.thn_normal ?_
      refine K.KW.seq ?_
      refine K.KW.seq ?_
      -- 4 :122
      refine K.KW.region ?_
      refine K.RW.qs [.int .i64 1, .int .i64 n, .int .i64 t] (by kernel_rfl) ?_
      refine K.RW.l rfl (K.OW.gcall hS [] [0] [.int .i64 n, .int .i64 t] (mayNew_ok _ n t (by omega) (by omega)) ?_)
      clear hS; rintro _ _ w ⟨rfl, (⟨rfl, h_31⟩ | ⟨rfl, h_32⟩)⟩ hS
      ·
        exfalso; omega
      ·
        replace hS : K.Sat w0 [fr] w := hS
        refine K.RW.qs [.bool false] (by kernel_rfl) ?_
        refine K.RW.nil ?_
        refine K.thn_normal ?_
        refine K.KW.ifF rfl ?_
        refine K.KW.skip ?_
        refine K.thn_normal ?_
        refine K.KW.seq ?_
        refine K.KW.seq ?_
        -- 6 :125
        refine K.KW.region ?_
        refine K.RW.qs [.int .i64 1, .bool true] (by kernel_rfl) ?_
        refine K.RW.nil ?_
        refine K.thn_normal ?_
        refine K.KW.ifT rfl ?_
        refine K.KW.seq ?_
        -- 7 :126
        refine K.KW.region ?_
        refine K.RW.l rfl (K.OW.gcall hS [] [0] [] (awake04_ok _) ?_)
        clear hS; rintro _ _ w ⟨rfl, rfl⟩ hS
        replace hS : K.Sat w0 [fr] w := hS
        refine K.RW.qs [.bool true, .pointer none, .bool true, .bool true, .bool true] (by kernel_rfl) ?_
        refine K.RW.nil ?_
        refine K.thn_normal ?_
        refine K.KW.ret ?_
        refine K.thn_ret ?_
        refine ⟨.inr rfl, rfl, (.bool true), K.res1 rfl rfl, [], ?_, hS.pick [0]⟩
        exact rfl

theorem foldl_back_seen : ∀ (l : List Int) (D : DevM), (l.foldl (fun D x => D.back x.toNat) D).seen = D.seen
  | [], _ => rfl
  | x :: l, D => foldl_back_seen l (D.back x.toNat)
theorem foldl_back_flush : ∀ (l : List Int) (D : DevM), (l.foldl (fun D x => D.back x.toNat) D).flush = D.flush
  | [], _ => rfl
  | x :: l, D => foldl_back_flush l (D.back x.toNat)
theorem DevM.fence_seen (D : DevM) (t : Nat) : (D.fence t).seen = D.seen := foldl_back_seen _ _
/-- the words of a line -/
def lineT (W : List Int) (q : Nat) : List Int := (W.drop (8 * q)).take 8
theorem copyL_get {Kp S : List Int} {k n : Nat} (hK : Kp.length = n * 8) (hS : S.length = n * 8) (hk : k < n) (m : Nat) : (copyL Kp S k)[m]? = if k * 8 ≤ m ∧ m < k * 8 + 8 then S[m]? else Kp[m]? := by
  unfold copyL
  have l1 : (Kp.take (k * 8)).length = k * 8 := by rw [List.length_take]; omega
  have l2 : ((S.drop (k * 8)).take 8).length = 8 := by rw [List.length_take, List.length_drop]; omega
  by_cases h1 : m < k * 8
  · rw [if_neg (by omega), List.append_assoc, List.getElem?_append_left (by omega), List.getElem?_take, if_pos h1]
  · rw [List.append_assoc, List.getElem?_append_right (by omega), l1]
    by_cases h2 : m < k * 8 + 8
    · rw [if_pos (by omega), List.getElem?_append_left (by omega), List.getElem?_take, if_pos (by omega), List.getElem?_drop]
      congr 1; omega
    · rw [if_neg (by omega), List.getElem?_append_right (by omega), l2, List.getElem?_drop]
      congr 1; omega
theorem copyL_line {Kp S : List Int} {k q n : Nat} (hK : Kp.length = n * 8) (hS : S.length = n * 8) (hk : k < n) (hq : q < n) : lineT (copyL Kp S k) q = if q = k then lineT S q else lineT Kp q := by
  apply List.ext_getElem?
  intro i
  by_cases hi : i < 8
  · split
    · rename_i h
      simp only [lineT, List.getElem?_take, List.getElem?_drop, if_pos hi]
      rw [copyL_get hK hS hk, if_pos (by omega)]
    · rename_i h
      simp only [lineT, List.getElem?_take, List.getElem?_drop, if_pos hi]
      rw [copyL_get hK hS hk, if_neg (by omega)]
  · split <;> simp only [lineT, List.getElem?_take, if_neg hi]
theorem foldl_back_line {n t : Nat} {q : Nat} (hq : q < n) : ∀ (l : List Int) (D : DevM), D.ok n t → (∀ x ∈ l, 0 ≤ x ∧ x < n) →
    lineT (l.foldl (fun D x => D.back x.toNat) D).kept q = if (q : Int) ∈ l then lineT D.seen q else lineT D.kept q
  | [], D, _, _ => by simp
  | x :: l, D, hD, hl => by
    have hx := hl x (by simp)
    have ih := foldl_back_line hq l (D.back x.toNat) (hD.back (by omega)) (fun y hy => hl y (by simp [hy]))
    rw [List.foldl_cons, ih]
    have hc := copyL_line (k := x.toNat) hD.1 hD.2.1 (by omega) hq
    have hkb : (D.back x.toNat).kept = copyL D.kept D.seen x.toNat := rfl
    have hsb : (D.back x.toNat).seen = D.seen := rfl
    rw [hkb, hsb, hc]
    by_cases h1 : (q : Int) ∈ l
    · rw [if_pos h1, if_pos (List.mem_cons_of_mem _ h1)]
    · rw [if_neg h1]
      by_cases h2 : q = x.toNat
      · rw [if_pos h2, if_pos (by rw [h2]; simp; omega)]
      · rw [if_neg h2, if_neg (by simp [h1]; omega)]
theorem set_ok_get {D : DevM} {t : Nat} {B : List Bool} (h : t < D.flush.length) : (D.set t B).flush.getD t [] = B := by unfold DevM.set; simp [h]
theorem fence_line {D : DevM} {n t k q : Nat} (hD : D.ok n t) (hk : k < t) (hq : q < n) : lineT (D.fence k).kept q = if (D.flush.getD k []).getD q false = true then lineT D.seen q else lineT D.kept q := by
  have hB := hD.getB hk
  unfold DevM.fence
  rw [foldl_back_line hq _ (D.clear k) (hD.set (by rw [List.length_replicate]; exact hB)) (fun x hx => by have := trues_mem hx; omega)]
  have e : ((q : Int) ∈ trues (D.flush.getD k [])) ↔ (D.flush.getD k []).getD q false = true := by
    constructor
    · intro h; have := (trues_mem h).2.2; simpa using this
    · intro h; have := truesF_of (D.flush.getD k []) 0 q (by omega) h; rw [Nat.zero_add] at this; exact this
  simp only [e]; rfl
/-- behind a flush and a fence, and a crash -/
theorem flushed {D : DevM} {n t k q : Nat} (hD : D.ok n t) (hk : k < t) (hq : q < n) : lineT ((D.mark k q).fence k).crash.seen q = lineT (D.mark k q).seen q := by
  have hB := hD.getB hk
  have hM : (D.mark k q).ok n t := hD.set (by rw [List.length_set]; exact hB)
  have h1 := fence_line hM hk hq
  have h2 : (D.mark k q).flush.getD k [] = (D.flush.getD k []).set q true := set_ok_get (by rw [hD.2.2.2.1]; exact hk)
  rw [h2, if_pos (getD_set_self (by omega))] at h1
  exact h1
theorem crash_crash (D : DevM) : D.crash.crash = D.crash := by
  unfold DevM.crash
  simp only [DevM.mk.injEq, true_and, List.map_map]
  congr 1; funext B; simp [clr]
theorem crash_flush {D : DevM} {n t k : Nat} (hD : D.ok n t) (hk : k < t) : trues (D.crash.flush.getD k []) = [] := by
  have : D.crash.flush.getD k [] = clr (D.flush.getD k []) := by
    unfold DevM.crash
    have : k < D.flush.length := by rw [hD.2.2.2.1]; exact hk
    simp [this]
  rw [this]; exact trues_rep _
theorem DevM.ok.actR {D : DevM} {n t : Nat} {a : ActM} (h : D.ok n t) : (actR D n t a).1.ok n t := by
  unfold _root_.Go.Proofs.Ytgeihjiichdpbaa.actR
  (repeat' split) <;> first | exact h | skip
  · exact h.set (by rw [List.length_set]; exact h.getB (by omega))
  · have hq : a.thread.toNat < t := by omega
    have hB := h.getB hq
    rw [fence_eq]
    refine DevM.ok.set (backsTo_ok h _ (by omega)) (by rw [List.length_replicate]; exact hB)
  · exact h.back (by omega)
  · exact ⟨h.1, h.1, h.2.2.1, by unfold DevM.crash; simpa using h.2.2.2.1, fun B hB => by obtain ⟨B0, h0, rfl⟩ := List.mem_map.1 hB; unfold clr; rw [List.length_replicate]; exact h.2.2.2.2.1 B0 h0, h.2.2.2.2.2⟩
  · exact h.store

theorem DevM.ok.mark {D : DevM} {n t k q : Nat} (h : D.ok n t) (hk : k < t) : (D.mark k q).ok n t := h.set (by rw [List.length_set]; exact h.getB hk)
theorem DevM.ok.fence {D : DevM} {n t k : Nat} (h : D.ok n t) (hk : k < t) : (D.fence k).ok n t := by
  have hB := h.getB hk
  rw [fence_eq]
  exact DevM.ok.set (backsTo_ok h _ (by omega)) (by rw [List.length_replicate]; exact hB)
theorem DevM.ok.crash {D : DevM} {n t : Nat} (h : D.ok n t) : D.crash.ok n t :=
  ⟨h.1, h.1, h.2.2.1, by unfold DevM.crash; simpa using h.2.2.2.1, fun B hB => by obtain ⟨B0, h0, rfl⟩ := List.mem_map.1 hB; unfold clr; rw [List.length_replicate]; exact h.2.2.2.2.1 B0 h0, h.2.2.2.2.2⟩

set_option maxHeartbeats 1000000 in
set_option maxRecDepth 100000 in
theorem l4fences_ok (w0 : World) (a b : Option Addr) (cap cap2 : Nat) (xs : List Int) (ls : List ActM) (hg : ∀ j, j < ls.length → (ls.getD j a0).good) (hm : xs.length ≤ 9223372036854775807) (hm2 : ls.length ≤ 9223372036854775807) (hc : xs.length ≤ cap) (hx : RU64 w0 a xs) (hy : K.RowE w0 b ls.length 5 (fun i => cAct (ls.getD i a0))) (i : Int) (hi : isInt i) :
    K.GC Try.prog w0 10 #[.slice a xs.length cap, .slice b ls.length cap2, .int .i64 i] [] (fun v post => v = .bool true) := by
  refine K.GC.mk (n := 124) Try.func10 rfl rfl [.slice a xs.length cap, .slice b ls.length cap2, .int .i64 i] rfl rfl ?_
  intro fr w hS
  replace hS : K.Sat w0 [fr] w := hS
  refine K.KW.seq ?_
  -- 0 :159
  refine K.KW.region ?_
  refine K.RW.qs [.bool false] (by kernel_rfl) ?_
  refine K.RW.nil ?_
  refine K.thn_normal ?_
  refine K.KW.seq ?_
  -- 1 :160
  refine K.KW.region ?_
  refine K.RW.qs [.slice a xs.length cap] (by kernel_rfl) ?_
  refine K.RW.l rfl (K.OW.gcall hS [] [0] [.slice a xs.length cap, .int .i64 3] (dvOpen_ok _ _ _ xs 3 (by omega) (by omega) (by omega) hx) ?_)
  clear hS; rintro _ _ w (⟨p_1, n_2, l_3, rfl, rfl, x_4, hn_5, hm_6, ht_7⟩ | ⟨rfl, rfl, h_8⟩) hS
  ·
    replace hS : K.Sat w0 [l_3, fr] w := hS
    obtain ⟨_, _, _, _, _, hn_9, hn_10, _, _⟩ := DevAt.isok x_4
    refine K.RW.qs [.tuple #[.pointer (some ⟨p_1, 0, none⟩), .int .i64 0], .pointer (some ⟨p_1, 0, none⟩), .int .i64 0, .pointer (some ⟨p_1, 0, none⟩), .int .i64 0] (by kernel_rfl) ?_
    refine K.RW.nil ?_
    refine K.thn_normal ?_
    refine K.KW.seq ?_
    refine K.KW.seq ?_
    -- 2 :161
    refine K.KW.region ?_
    refine K.RW.qs [.int .i64 0, .bool false, .bool false, .slice a xs.length cap] (by kernel_rfl) ?_
    refine K.RW.q rfl (by kernel_rfl) (K.QR.len (P := Try.prog) rfl rfl Try.underlying22) ?_
    by_cases h_11 : (((xs.length : Nat) : Int) : Int) > (60 : Int)
    ·  -- yes
      refine K.RW.q rfl (by kernel_rfl) (K.QR.nice (v := .bool (decide ((((xs.length : Nat) : Int) : Int) > (60 : Int)))) (by kernel_rfl) (congrArg Value.bool (decide_eq_true h_11))) ?_
      refine K.RW.qs [.bool true, .bool true] (by kernel_rfl) ?_
      refine K.RW.skip rfl (by kernel_rfl) ?_
      refine K.RW.skip rfl (by kernel_rfl) ?_
      refine K.RW.skip rfl (by kernel_rfl) ?_
      refine K.RW.qs [.bool true, .bool true] (by kernel_rfl) ?_
      refine K.RW.skip rfl (by kernel_rfl) ?_
      refine K.RW.skip rfl (by kernel_rfl) ?_
      refine K.RW.qs [.bool true, .bool true] (by kernel_rfl) ?_
      refine K.RW.skip rfl (by kernel_rfl) ?_
      refine K.RW.skip rfl (by kernel_rfl) ?_
      refine K.RW.skip rfl (by kernel_rfl) ?_
      refine K.RW.skip rfl (by kernel_rfl) ?_
      refine K.RW.skip rfl (by kernel_rfl) ?_
      refine K.RW.qs [.bool true] (by kernel_rfl) ?_
      refine K.RW.nil ?_
      refine K.thn_normal ?_
      refine K.KW.ifT rfl ?_
      refine K.KW.seq ?_
      -- 3 :162
      refine K.KW.region ?_
      refine K.RW.l rfl (K.OW.gcall hS [] [0, 1] [] (awake04_ok _) ?_)
      clear hS; rintro _ _ w ⟨rfl, rfl⟩ hS
      replace hS : K.Sat w0 [l_3, fr] w := hS
      refine K.RW.qs [.bool true] (by kernel_rfl) ?_
      refine K.RW.nil ?_
      refine K.thn_normal ?_
      refine K.KW.ret ?_
      refine K.thn_ret ?_
      refine ⟨.inr rfl, rfl, (.bool true), K.res1 rfl rfl, [], ?_, hS.pick [1]⟩
      exact rfl
    ·  -- no
      refine K.RW.q rfl (by kernel_rfl) (K.QR.nice (v := .bool (decide ((((xs.length : Nat) : Int) : Int) > (60 : Int)))) (by kernel_rfl) (congrArg Value.bool (decide_eq_false h_11))) ?_
      refine K.RW.qs [.bool false, .bool false, .slice b ls.length cap2] (by kernel_rfl) ?_
      refine K.RW.q rfl (by kernel_rfl) (K.QR.len (P := Try.prog) rfl rfl Try.underlying77) ?_
      by_cases h_12 : (((ls.length : Nat) : Int) : Int) > (60 : Int)
      ·  -- yes
        refine K.RW.q rfl (by kernel_rfl) (K.QR.nice (v := .bool (decide ((((ls.length : Nat) : Int) : Int) > (60 : Int)))) (by kernel_rfl) (congrArg Value.bool (decide_eq_true h_12))) ?_
        refine K.RW.qs [.bool true, .bool true] (by kernel_rfl) ?_
        refine K.RW.skip rfl (by kernel_rfl) ?_
        refine K.RW.skip rfl (by kernel_rfl) ?_
        refine K.RW.qs [.bool true, .bool true] (by kernel_rfl) ?_
        refine K.RW.skip rfl (by kernel_rfl) ?_
        refine K.RW.skip rfl (by kernel_rfl) ?_
        refine K.RW.skip rfl (by kernel_rfl) ?_
        refine K.RW.skip rfl (by kernel_rfl) ?_
        refine K.RW.skip rfl (by kernel_rfl) ?_
        refine K.RW.qs [.bool true] (by kernel_rfl) ?_
        refine K.RW.nil ?_
        refine K.thn_normal ?_
        refine K.KW.ifT rfl ?_
        refine K.KW.seq ?_
        -- 3 :162
        refine K.KW.region ?_
        refine K.RW.l rfl (K.OW.gcall hS [] [0, 1] [] (awake04_ok _) ?_)
        clear hS; rintro _ _ w ⟨rfl, rfl⟩ hS
        replace hS : K.Sat w0 [l_3, fr] w := hS
        refine K.RW.qs [.bool true] (by kernel_rfl) ?_
        refine K.RW.nil ?_
        refine K.thn_normal ?_
        refine K.KW.ret ?_
        refine K.thn_ret ?_
        refine ⟨.inr rfl, rfl, (.bool true), K.res1 rfl rfl, [], ?_, hS.pick [1]⟩
        exact rfl
      ·  -- no
        refine K.RW.q rfl (by kernel_rfl) (K.QR.nice (v := .bool (decide ((((ls.length : Nat) : Int) : Int) > (60 : Int)))) (by kernel_rfl) (congrArg Value.bool (decide_eq_false h_12))) ?_
        refine K.RW.qs [.bool false, .bool false, .int .i64 i] (by kernel_rfl) ?_
        by_cases h_13 : (i : Int) < (0 : Int)
        ·  -- yes
          refine K.RW.q rfl (by kernel_rfl) (K.QR.nice (v := .bool (decide ((i : Int) < (0 : Int)))) (by kernel_rfl) (congrArg Value.bool (decide_eq_true h_13))) ?_
          refine K.RW.qs [.bool true, .bool true] (by kernel_rfl) ?_
          refine K.RW.skip rfl (by kernel_rfl) ?_
          refine K.RW.skip rfl (by kernel_rfl) ?_
          refine K.RW.skip rfl (by kernel_rfl) ?_
          refine K.RW.skip rfl (by kernel_rfl) ?_
          refine K.RW.skip rfl (by kernel_rfl) ?_
          refine K.RW.qs [.bool true] (by kernel_rfl) ?_
          refine K.RW.nil ?_
          refine K.thn_normal ?_
          refine K.KW.ifT rfl ?_
          refine K.KW.seq ?_
          -- 3 :162
          refine K.KW.region ?_
          refine K.RW.l rfl (K.OW.gcall hS [] [0, 1] [] (awake04_ok _) ?_)
          clear hS; rintro _ _ w ⟨rfl, rfl⟩ hS
          replace hS : K.Sat w0 [l_3, fr] w := hS
          refine K.RW.qs [.bool true] (by kernel_rfl) ?_
          refine K.RW.nil ?_
          refine K.thn_normal ?_
          refine K.KW.ret ?_
          refine K.thn_ret ?_
          refine ⟨.inr rfl, rfl, (.bool true), K.res1 rfl rfl, [], ?_, hS.pick [1]⟩
          exact rfl
        ·  -- no
          refine K.RW.q rfl (by kernel_rfl) (K.QR.nice (v := .bool (decide ((i : Int) < (0 : Int)))) (by kernel_rfl) (congrArg Value.bool (decide_eq_false h_13))) ?_
          refine K.RW.qs [.bool false, .bool false, .int .i64 i, .slice a xs.length cap] (by kernel_rfl) ?_
          refine K.RW.q rfl (by kernel_rfl) (K.QR.len (P := Try.prog) rfl rfl Try.underlying22) ?_
          refine K.RW.q rfl (by kernel_rfl) (K.QR.turn (v := .int .i64 ((xs.length / 8 : Nat) : Int)) (K.QR.quoi64 (((xs.length : Nat) : Int) : Int) 8 ((xs.length / 8 : Nat) : Int) (by kernel_rfl) (by omega) (by omega)) (congrArg (Value.int .i64) (show (((xs.length / 8 : Nat) : Int) : Int) = (((xs.length / 8 : Nat) : Int) : Int) from by omega))) ?_
          by_cases h_14 : (i : Int) ≥ (((xs.length / 8 : Nat) : Int) : Int)
          ·  -- yes
            refine K.RW.q rfl (by kernel_rfl) (K.QR.nice (v := .bool (decide ((i : Int) ≥ (((xs.length / 8 : Nat) : Int) : Int)))) (by kernel_rfl) (congrArg Value.bool (decide_eq_true h_14))) ?_
            refine K.RW.qs [.bool true] (by kernel_rfl) ?_
            refine K.RW.nil ?_
            refine K.thn_normal ?_
            refine K.KW.ifT rfl ?_
            refine K.KW.seq ?_
            -- 3 :162
            refine K.KW.region ?_
            refine K.RW.l rfl (K.OW.gcall hS [] [0, 1] [] (awake04_ok _) ?_)
            clear hS; rintro _ _ w ⟨rfl, rfl⟩ hS
            replace hS : K.Sat w0 [l_3, fr] w := hS
            refine K.RW.qs [.bool true] (by kernel_rfl) ?_
            refine K.RW.nil ?_
            refine K.thn_normal ?_
            refine K.KW.ret ?_
            refine K.thn_ret ?_
            refine ⟨.inr rfl, rfl, (.bool true), K.res1 rfl rfl, [], ?_, hS.pick [1]⟩
            exact rfl
          ·  -- no
            refine K.RW.q rfl (by kernel_rfl) (K.QR.nice (v := .bool (decide ((i : Int) ≥ (((xs.length / 8 : Nat) : Int) : Int)))) (by kernel_rfl) (congrArg Value.bool (decide_eq_false h_14))) ?_
            refine K.RW.qs [.bool false] (by kernel_rfl) ?_
            refine K.RW.nil ?_
            refine K.thn_normal ?_
            refine K.KW.ifF rfl ?_
            refine K.KW.skip ?_
            refine K.thn_normal ?_
            refine K.KW.seq ?_
            refine K.KW.seq ?_
            -- 4 :164
            refine K.KW.region ?_
            refine K.RW.qs [.int .i64 0] (by kernel_rfl) ?_
            refine K.RW.nil ?_
            refine K.thn_normal ?_
            refine K.KW.block ?_
            refine K.KW.loop (fun m_ F_ w_ => ∃ (j : Nat) (l1 : K.Cs), m_ = ls.length - j ∧ K.Sl F_ [(0, .slice a xs.length cap), (1, .slice b ls.length cap2), (2, .int .i64 i), (6, .bool false), (7, .pointer (some ⟨p_1, 0, none⟩)), (9, .int .i64 ((j : Nat) : Int)), (124, undef)] ∧ j ≤ ls.length ∧ DevAt l1 p_1 n_2 3 (actsR (DevM.fresh xs n_2 3) n_2 3 (ls.take j)) ∧ K.Sat w0 [l1, fr] w_) ((fun (j : Nat) => ls.length - j) 0) ?_ ?_
            · -- begins
              exact ⟨0, l_3, rfl, ⟨by rfl, by rfl, by rfl, by rfl, by rfl, by rfl, by rfl, trivial⟩, (by omega), x_4, hS.pick [0, 1]⟩
            · -- a round
              clear hS
              intro m_15 F_16 w hI
              obtain ⟨j, l1, rfl, sl_17, p_18, x_19, hS⟩ := hI
              rw [← K.Sl.puts sl_17]; clear sl_17
              refine K.KW.seq ?_
              refine K.KW.seq ?_
              -- 5 :164
              refine K.KW.region ?_
              refine K.RW.qs [.int .i64 ((j : Nat) : Int), .slice b ls.length cap2] (by kernel_rfl) ?_
              refine K.RW.q rfl rfl (K.QR.len (P := Try.prog) rfl rfl Try.underlying77) ?_
              by_cases h_20 : (((j : Nat) : Int) : Int) < (((ls.length : Nat) : Int) : Int)
              ·  -- yes
                refine K.RW.q rfl rfl (K.QR.nice (v := .bool (decide ((((j : Nat) : Int) : Int) < (((ls.length : Nat) : Int) : Int)))) (by kernel_rfl) (congrArg Value.bool (decide_eq_true h_20))) ?_
                refine K.RW.nil ?_
                refine K.thn_normal ?_
                refine K.KW.ifT rfl ?_
                refine K.KW.skip ?_
                refine K.thn_normal ?_
                refine K.KW.seq ?_
                refine K.KW.block ?_
                -- 7 :165
                obtain ⟨b_21, of_22, rfl, _⟩ := hy.at_ (by omega)
                refine K.KW.region ?_
                refine K.RW.qs [.pointer (some ⟨p_1, 0, none⟩), .slice (some ⟨b_21, of_22, none⟩) ls.length cap2, .int .i64 ((j : Nat) : Int)] (by kernel_rfl) ?_
                refine K.RW.q rfl rfl (K.QR.ix (of_22 + j * 5) 5 rfl rfl rfl Try.underlying77 (by kernel_rfl) (by omega) (by first | (simp; done) | omega | (simp; omega))) ?_
                refine K.RW.q rfl rfl (K.QR.ldN [.int .i64 ((ls.getD j a0).kind), .int .i64 ((ls.getD j a0).thread), .int .i64 ((ls.getD j a0).line), .int .i64 ((ls.getD j a0).at_), .int .u64 ((ls.getD j a0).w)] rfl rfl (by kernel_rfl) (by kernel_rfl) (K.cells (K.cl ((hy.no hS.chg).ld j (by omega) 0 _ rfl) (K.cl ((hy.no hS.chg).ld j (by omega) 1 _ rfl) (K.cl ((hy.no hS.chg).ld j (by omega) 2 _ rfl) (K.cl ((hy.no hS.chg).ld j (by omega) 3 _ rfl) (K.cl ((hy.no hS.chg).ld j (by omega) 4 _ rfl) K.cl0))))))) ?_
                refine K.RW.l rfl (K.OW.gcall hS [0] [1] [.pointer (some ⟨p_1, 0, none⟩), .agg #[.int .i64 ((ls.getD j a0).kind), .int .i64 ((ls.getD j a0).thread), .int .i64 ((ls.getD j a0).line), .int .i64 ((ls.getD j a0).at_), .int .u64 ((ls.getD j a0).w)]] (do4_ok _ _ _ _ _ _ x_19 (ls.getD j a0) (hg j (by omega))) ?_)
                clear hS; rintro _ _ w ⟨l_23, rfl, rfl, x_24⟩ hS
                replace hS : K.Sat w0 [l_23, fr] w := hS
                refine K.RW.nil ?_
                refine K.blk_normal ?_
                refine K.thn_normal ?_
                -- 6 :164
                refine K.KW.region ?_
                refine K.RW.qs [.int .i64 ((j : Nat) : Int)] (by kernel_rfl) ?_
                refine K.RW.q rfl rfl (K.QR.n64 ((((j : Nat) : Int) : Int) + (1 : Int)) ((j + 1 : Nat) : Int) (by kernel_rfl) (by omega)) ?_
                refine K.RW.qs [.int .i64 ((j + 1 : Nat) : Int)] (by kernel_rfl) ?_
                refine K.RW.nil ?_
                refine K.thn_normal ?_
                refine ⟨_, ?_, j + 1, l_23, rfl, ⟨by rfl, by rfl, by rfl, by rfl, by rfl, by rfl, by rfl, trivial⟩, (by omega), (by rw [actsR_next (by omega)]; exact x_24), hS.pick [0, 1]⟩
                omega
              ·  -- no
                refine K.RW.q rfl rfl (K.QR.nice (v := .bool (decide ((((j : Nat) : Int) : Int) < (((ls.length : Nat) : Int) : Int)))) (by kernel_rfl) (congrArg Value.bool (decide_eq_false h_20))) ?_
                refine K.RW.nil ?_
                refine K.thn_normal ?_
                refine K.KW.ifF rfl ?_
                refine K.KW.exit ?_
                refine K.thn_exit ?_
                refine K.thn_exit ?_
                refine K.blk_hit ?_
                refine K.thn_normal ?_
                refine K.KW.seq ?_
                -- 8 :167
                have hD1 := DevAt.isok x_19
                generalize actsR (DevM.fresh xs n_2 3) n_2 3 (ls.take j) = D1 at hD1 x_19
                refine K.KW.region ?_
                refine K.RW.qs [.pointer (some ⟨p_1, 0, none⟩), .int .i64 i] (by kernel_rfl) ?_
                refine K.RW.l rfl (K.OW.gcall hS [0] [1] [.pointer (some ⟨p_1, 0, none⟩), .int .i64 2, .int .i64 i] (dvFlush_ok _ _ _ _ _ _ x_19 2 (by omega) i (by omega)) ?_)
                clear hS; rintro _ _ w (⟨rfl, h_25, l_26, rfl, x_27⟩ | ⟨rfl, h_28, rfl⟩ | ⟨rfl, h_29, rfl⟩) hS
                ·
                  replace hS : K.Sat w0 [l_26, fr] w := hS
                  refine K.RW.qs [.int .i64 0] (by kernel_rfl) ?_
                  refine K.RW.nil ?_
                  refine K.thn_normal ?_
                  refine K.KW.seq ?_
                  -- 9 :168
                  refine K.KW.region ?_
                  refine K.RW.qs [.pointer (some ⟨p_1, 0, none⟩)] (by kernel_rfl) ?_
                  refine K.RW.l rfl (K.OW.gcall hS [0] [1] [.pointer (some ⟨p_1, 0, none⟩)] (dvSeen_ok _ _ _ _ _ _ x_27) ?_)
                  clear hS; rintro _ _ w ⟨r_30, cc_31, l_32, rfl, rfl, o_33⟩ hS
                  replace hS : K.Sat w0 [l_26, l_32, fr] w := hS
                  refine K.RW.qs [.slice r_30 ((D1.mark (2 : Int).toNat i.toNat).seen.length) cc_31] (by kernel_rfl) ?_
                  refine K.RW.nil ?_
                  refine K.thn_normal ?_
                  refine K.KW.seq ?_
                  -- 10 :169
                  refine K.KW.region ?_
                  refine K.RW.qs [.pointer (some ⟨p_1, 0, none⟩)] (by kernel_rfl) ?_
                  refine K.RW.l rfl (K.OW.gcall hS [0] [1, 2] [.pointer (some ⟨p_1, 0, none⟩), .int .i64 2] (dvFence_ok _ _ _ _ _ _ x_27 2 (by omega)) ?_)
                  clear hS; rintro _ _ w (⟨rfl, h_34, l_35, rfl, x_36⟩ | ⟨rfl, h_37, rfl⟩) hS
                  ·
                    replace hS : K.Sat w0 [l_35, l_32, fr] w := hS
                    refine K.RW.qs [.int .i64 0] (by kernel_rfl) ?_
                    refine K.RW.nil ?_
                    refine K.thn_normal ?_
                    refine K.KW.seq ?_
                    -- 11 :170
                    refine K.KW.region ?_
                    refine K.RW.qs [.pointer (some ⟨p_1, 0, none⟩)] (by kernel_rfl) ?_
                    refine K.RW.l rfl (K.OW.gcall hS [0] [1, 2] [.pointer (some ⟨p_1, 0, none⟩)] (dvCrash_ok _ _ _ _ _ _ x_36 ) ?_)
                    clear hS; rintro _ _ w ⟨l_38, rfl, rfl, x_39⟩ hS
                    replace hS : K.Sat w0 [l_38, l_32, fr] w := hS
                    refine K.RW.nil ?_
                    refine K.thn_normal ?_
                    refine K.KW.seq ?_
                    -- 12 :171
                    refine K.KW.region ?_
                    refine K.RW.qs [.pointer (some ⟨p_1, 0, none⟩)] (by kernel_rfl) ?_
                    refine K.RW.l rfl (K.OW.gcall hS [0] [1, 2] [.pointer (some ⟨p_1, 0, none⟩)] (dvSeen_ok _ _ _ _ _ _ x_39) ?_)
                    clear hS; rintro _ _ w ⟨r_40, cc_41, l_42, rfl, rfl, o_43⟩ hS
                    replace hS : K.Sat w0 [l_38, l_42, l_32, fr] w := hS
                    refine K.RW.qs [.slice r_40 ((((D1.mark (2 : Int).toNat i.toNat).fence (2 : Int).toNat).crash).seen.length) cc_41] (by kernel_rfl) ?_
                    refine K.RW.nil ?_
                    refine K.thn_normal ?_
                    refine K.KW.seq ?_
                    -- 13 :172
                    refine K.KW.region ?_
                    refine K.RW.qs [.pointer (some ⟨p_1, 0, none⟩)] (by kernel_rfl) ?_
                    refine K.RW.l rfl (K.OW.gcall hS [0] [1, 2, 3] [.pointer (some ⟨p_1, 0, none⟩)] (dvCrash_ok _ _ _ _ _ _ x_39 ) ?_)
                    clear hS; rintro _ _ w ⟨l_44, rfl, rfl, x_45⟩ hS
                    replace hS : K.Sat w0 [l_44, l_42, l_32, fr] w := hS
                    refine K.RW.nil ?_
                    refine K.thn_normal ?_
                    refine K.KW.seq ?_
                    refine K.KW.seq ?_
                    -- 14 :173
                    have hD2 := ((hD1.mark (q := i.toNat) (show 2 < 3 by omega)).fence (show 2 < 3 by omega)).crash
                    have e_46 : ((((D1.mark (2 : Int).toNat i.toNat).fence (2 : Int).toNat).crash).seen).length = n_2 * 8 := by first | exact hD1.2.1 | exact hD2.2.1
                    have e_47 : ((D1.mark (2 : Int).toNat i.toNat).seen).length = n_2 * 8 := by first | exact hD1.2.1 | exact hD2.2.1
                    have e_48 : ((((D1.mark (2 : Int).toNat i.toNat).fence (2 : Int).toNat).crash).crash).seen.length = n_2 * 8 := hD2.crash.2.1
                    have e_49 : ((((D1.mark (2 : Int).toNat i.toNat).fence (2 : Int).toNat).crash).crash).kept.length = n_2 * 8 := hD2.crash.1
                    refine K.KW.region ?_
                    refine K.RW.qs [.slice r_30 ((D1.mark (2 : Int).toNat i.toNat).seen.length) cc_31] (by kernel_rfl) ?_
                    refine K.RW.q rfl rfl (K.QR.len (P := Try.prog) rfl rfl Try.underlying22) ?_
                    refine K.RW.qs [.slice a xs.length cap] (by kernel_rfl) ?_
                    refine K.RW.q rfl rfl (K.QR.len (P := Try.prog) rfl rfl Try.underlying22) ?_
                    refine K.RW.q rfl rfl (K.QR.nice (v := .bool (((((D1.mark (2 : Int).toNat i.toNat).seen.length : Nat) : Int) : Int) != (((xs.length : Nat) : Int) : Int))) (by kernel_rfl) (congrArg Value.bool (bne_eq_false_iff_eq.2 (by omega)))) ?_
                    refine K.RW.qs [.bool false, .slice r_40 ((((D1.mark (2 : Int).toNat i.toNat).fence (2 : Int).toNat).crash).seen.length) cc_41] (by kernel_rfl) ?_
                    refine K.RW.q rfl (by kernel_rfl) (K.QR.len (P := Try.prog) rfl rfl Try.underlying22) ?_
                    refine K.RW.qs [.slice a xs.length cap] (by kernel_rfl) ?_
                    refine K.RW.q rfl (by kernel_rfl) (K.QR.len (P := Try.prog) rfl rfl Try.underlying22) ?_
                    refine K.RW.q rfl (by kernel_rfl) (K.QR.nice (v := .bool (((((((D1.mark (2 : Int).toNat i.toNat).fence (2 : Int).toNat).crash).seen.length : Nat) : Int) : Int) != (((xs.length : Nat) : Int) : Int))) (by kernel_rfl) (congrArg Value.bool (bne_eq_false_iff_eq.2 (by omega)))) ?_
                    refine K.RW.qs [.bool false] (by kernel_rfl) ?_
                    refine K.RW.nil ?_
                    refine K.thn_normal ?_
                    refine K.KW.ifF rfl ?_
                    refine K.KW.skip ?_
                    refine K.thn_normal ?_
                    refine K.KW.seq ?_
                    -- 16 :176
                    refine K.KW.gdrawn [] hS (by kernel_rfl) ?_
                    clear hS; intro w hS
                    refine K.DW.l 0 rfl (by kernel_rfl) rfl (K.OW.gcall hS [] [0, 1, 2, 3] [] (awake04_ok _) ?_)
                    clear hS; rintro _ _ w ⟨rfl, rfl⟩ hS
                    replace hS : K.Sat w0 [l_44, l_42, l_32, fr] w := hS
                    refine ⟨.inl (hS.pick []), ?_⟩
                    refine K.DW.l 1 rfl (by kernel_rfl) rfl (K.OW.q rfl (K.QR.k (v := .bool true) (by kernel_rfl)) ?_)
                    refine ⟨.inl (hS.pick []), ?_⟩
                    refine K.DW.l 2 rfl (by kernel_rfl) (by kernel_rfl) (K.OW.q rfl (K.QR.k (v := .int .i64 0) (by kernel_rfl)) ?_)
                    refine ⟨.inl (hS.pick []), ?_⟩
                    refine K.DW.l 3 rfl (by kernel_rfl) (by kernel_rfl) (K.OW.q rfl (K.QR.k (v := .bool true) (by kernel_rfl)) ?_)
                    refine ⟨.inl (hS.pick []), ?_⟩
                    refine K.DW.l 4 rfl (by kernel_rfl) rfl (K.OW.q rfl (K.QR.k (v := .bool true) (by kernel_rfl)) ?_)
                    refine ⟨.inl (hS.pick []), ?_⟩
                    refine K.DW.l 5 rfl (by kernel_rfl) rfl (K.OW.q rfl (K.QR.k (v := .bool true) (by kernel_rfl)) ?_)
                    refine ⟨.inl (hS.pick []), ?_⟩
                    refine K.DW.l 6 rfl (by kernel_rfl) (by kernel_rfl) (K.OW.q rfl (K.QR.k (v := .int .i64 0) (by kernel_rfl)) ?_)
                    refine ⟨.inl (hS.pick []), ?_⟩
                    refine K.DW.l 7 rfl (by kernel_rfl) (by kernel_rfl) (K.OW.q rfl (K.QR.k (v := .bool true) (by kernel_rfl)) ?_)
                    refine ⟨.inl (hS.pick []), ?_⟩
                    refine K.DW.l 8 rfl (by kernel_rfl) rfl (K.OW.q rfl (K.QR.k (v := .bool true) (by kernel_rfl)) ?_)
                    refine ⟨.inl (hS.pick []), ?_⟩
                    refine K.DW.l 9 rfl (by kernel_rfl) rfl (K.OW.q rfl (K.QR.k (v := .bool true) (by kernel_rfl)) ?_)
                    refine ⟨.inl (hS.pick []), ?_⟩
                    refine K.DW.q 10 (by kernel_rfl) rfl rfl (by kernel_rfl) (by kernel_rfl) (fun w hS => K.QR.k (v := .slice r_30 ((D1.mark (2 : Int).toNat i.toNat).seen.length) cc_31) (by kernel_rfl)) (hS.pick []) ?_
                    refine K.DW.q 11 (by kernel_rfl) rfl rfl (by kernel_rfl) (by kernel_rfl) (fun w hS => K.QR.k (v := .int .i64 i) (by kernel_rfl)) (hS.pick []) ?_
                    refine K.DW.q 12 (by kernel_rfl) rfl rfl (by kernel_rfl) (by kernel_rfl) (fun w hS => K.QR.turn (v := .int .i64 ((8 : Int) * (i : Int))) (K.QR.n64 ((8 : Int) * (i : Int)) ((8 : Int) * (i : Int)) (by kernel_rfl) (by omega)) (congrArg (Value.int .i64) (show ((8 : Int) * (i : Int) : Int) = (((8 * i.toNat : Nat) : Int) : Int) from by omega))) (hS.pick []) ?_
                    refine K.DW.q 13 (by kernel_rfl) rfl rfl (by kernel_rfl) (by kernel_rfl) (fun w hS => K.QR.k (v := .int .i64 i) (by kernel_rfl)) (hS.pick []) ?_
                    refine K.DW.q 14 (by kernel_rfl) rfl rfl (by kernel_rfl) (by kernel_rfl) (fun w hS => K.QR.turn (v := .int .i64 ((8 : Int) * (i : Int))) (K.QR.n64 ((8 : Int) * (i : Int)) ((8 : Int) * (i : Int)) (by kernel_rfl) (by omega)) (congrArg (Value.int .i64) (show ((8 : Int) * (i : Int) : Int) = (((8 * i.toNat : Nat) : Int) : Int) from by omega))) (hS.pick []) ?_
                    refine K.DW.q 15 (by kernel_rfl) rfl rfl (by kernel_rfl) (by kernel_rfl) (fun w hS => K.QR.n64 ((((8 * i.toNat : Nat) : Int) : Int) + (8 : Int)) ((8 * i.toNat + 8 : Nat) : Int) (by kernel_rfl) (by omega)) (hS.pick []) ?_
                    refine K.DW.q 16 (by kernel_rfl) rfl rfl (by kernel_rfl) (by kernel_rfl) (fun w hS => K.QR.slLoHi (size := 1) (8 * i.toNat) (8 * i.toNat + 8) rfl rfl rfl rfl Try.underlying22 (by kernel_rfl) (by omega) (by have := o_33.le; omega)) (hS.pick []) ?_
                    refine K.DW.q 17 (by kernel_rfl) rfl rfl (by kernel_rfl) (by kernel_rfl) (fun w hS => K.QR.k (v := .slice r_40 ((((D1.mark (2 : Int).toNat i.toNat).fence (2 : Int).toNat).crash).seen.length) cc_41) (by kernel_rfl)) (hS.pick []) ?_
                    refine K.DW.q 18 (by kernel_rfl) rfl rfl (by kernel_rfl) (by kernel_rfl) (fun w hS => K.QR.k (v := .int .i64 i) (by kernel_rfl)) (hS.pick []) ?_
                    refine K.DW.q 19 (by kernel_rfl) rfl rfl (by kernel_rfl) (by kernel_rfl) (fun w hS => K.QR.turn (v := .int .i64 ((8 : Int) * (i : Int))) (K.QR.n64 ((8 : Int) * (i : Int)) ((8 : Int) * (i : Int)) (by kernel_rfl) (by omega)) (congrArg (Value.int .i64) (show ((8 : Int) * (i : Int) : Int) = (((8 * i.toNat : Nat) : Int) : Int) from by omega))) (hS.pick []) ?_
                    refine K.DW.l 20 rfl (by kernel_rfl) (by kernel_rfl) (K.OW.q rfl (K.QR.k (v := .int .i64 i) (by kernel_rfl)) ?_)
                    refine ⟨.inl (hS.pick []), ?_⟩
                    refine K.DW.l 21 rfl (by kernel_rfl) (by kernel_rfl) (K.OW.q rfl (K.QR.turn (v := .int .i64 ((8 : Int) * (i : Int))) (K.QR.n64 ((8 : Int) * (i : Int)) ((8 : Int) * (i : Int)) (by kernel_rfl) (by omega)) (congrArg (Value.int .i64) (show ((8 : Int) * (i : Int) : Int) = (((8 * i.toNat : Nat) : Int) : Int) from by omega))) ?_)
                    refine ⟨.inl (hS.pick []), ?_⟩
                    refine K.DW.l 22 rfl (by kernel_rfl) (by kernel_rfl) (K.OW.q rfl (K.QR.n64 ((((8 * i.toNat : Nat) : Int) : Int) + (8 : Int)) ((8 * i.toNat + 8 : Nat) : Int) (by kernel_rfl) (by omega)) ?_)
                    refine ⟨.inl (hS.pick []), ?_⟩
                    refine K.DW.l 23 rfl (by kernel_rfl) (by kernel_rfl) (K.OW.q rfl (K.QR.slLoHi (size := 1) (8 * i.toNat) (8 * i.toNat + 8) rfl rfl rfl rfl Try.underlying22 (by kernel_rfl) (by omega) (by have := o_43.le; omega)) ?_)
                    refine ⟨.inl (hS.pick []), ?_⟩
                    refine K.DW.l 24 rfl (by kernel_rfl) (by kernel_rfl) (K.OW.kcall hS [.slice (K.shift r_30 cc_31 (8 * i.toNat) 1) (8 * i.toNat + 8 - (8 * i.toNat)) (cc_31 - (8 * i.toNat)), .slice (K.shift r_40 cc_41 (8 * i.toNat) 1) (8 * i.toNat + 8 - (8 * i.toNat)) (cc_41 - (8 * i.toNat))] (sameN_ok _ _ _ _ _ _ ((((D1.mark (2 : Int).toNat i.toNat).seen).drop (8 * i.toNat)).take (8 * i.toNat + 8 - (8 * i.toNat))) ((((((D1.mark (2 : Int).toNat i.toNat).fence (2 : Int).toNat).crash).seen).drop (8 * i.toNat)).take (8 * i.toNat + 8 - (8 * i.toNat))) _ (by omega) (K.view_len (L := (D1.mark (2 : Int).toNat i.toNat).seen) (lo := 8 * i.toNat) (hi := 8 * i.toNat + 8) (by omega)) (K.view_len (L := (((D1.mark (2 : Int).toNat i.toNat).fence (2 : Int).toNat).crash).seen) (lo := 8 * i.toNat) (hi := 8 * i.toNat + 8) (by omega)) (K.RowE.view (L := (D1.mark (2 : Int).toNat i.toNat).seen) (d := 0) (K.Own.rowE 0 (hS.ownr 2 rfl o_33) rfl (fun _ => rfl)) rfl (8 * i.toNat) (8 * i.toNat + 8) (by omega) (by have := o_33.le; omega)) (K.RowE.view (L := (((D1.mark (2 : Int).toNat i.toNat).fence (2 : Int).toNat).crash).seen) (d := 0) (K.Own.rowE 0 (hS.ownr 1 rfl o_43) rfl (fun _ => rfl)) rfl (8 * i.toNat) (8 * i.toNat + 8) (by omega) (by have := o_43.le; omega))) ?_)
                    rintro _ w ⟨rfl, c_50⟩
                    replace hS := hS.no c_50
                    have hb_51 : sameB ((((D1.mark (2 : Int).toNat i.toNat).seen).drop (8 * i.toNat)).take (8 * i.toNat + 8 - (8 * i.toNat))) ((((((D1.mark (2 : Int).toNat i.toNat).fence (2 : Int).toNat).crash).seen).drop (8 * i.toNat)).take (8 * i.toNat + 8 - (8 * i.toNat))) = true := decide_eq_true (by rw [show 8 * i.toNat + 8 - 8 * i.toNat = 8 by omega]; exact (flushed hD1 (show 2 < 3 by omega) (by omega)).symm)
                    rw [hb_51]
                    refine ⟨.inl (hS.pick []), ?_⟩
                    refine K.DW.l 25 rfl (by kernel_rfl) rfl (K.OW.q rfl (K.QR.k (v := .bool true) (by kernel_rfl)) ?_)
                    refine ⟨.inl (hS.pick []), ?_⟩
                    refine K.DW.l 26 rfl (by kernel_rfl) rfl (K.OW.q rfl (K.QR.k (v := .bool true) (by kernel_rfl)) ?_)
                    refine ⟨.inl (hS.pick []), ?_⟩
                    refine K.DW.q 27 (by kernel_rfl) rfl rfl (by kernel_rfl) (by kernel_rfl) (fun w hS => K.QR.k (v := .pointer (some ⟨p_1, 0, none⟩)) (by kernel_rfl)) (hS.pick []) ?_
                    refine K.DW.q 29 (by kernel_rfl) rfl rfl (by kernel_rfl) (by kernel_rfl) (fun w hS => K.QR.k (v := .slice r_40 ((((D1.mark (2 : Int).toNat i.toNat).fence (2 : Int).toNat).crash).seen.length) cc_41) (by kernel_rfl)) (hS.pick []) ?_
                    refine K.DW.l 28 rfl (by kernel_rfl) (by kernel_rfl) (K.OW.gcall hS [0] [1, 2, 3] [.pointer (some ⟨p_1, 0, none⟩)] (dvSeen_ok _ _ _ _ _ _ x_45) ?_)
                    clear hS; rintro _ _ w ⟨r_52, cc_53, l_54, rfl, rfl, o_55⟩ hS
                    replace hS : K.Sat w0 [l_44, l_54, l_42, l_32, fr] w := hS
                    refine ⟨.inl (hS.pick []), ?_⟩
                    refine K.DW.l 30 rfl (by kernel_rfl) (by kernel_rfl) (K.OW.kcall hS [.slice r_52 (((((D1.mark (2 : Int).toNat i.toNat).fence (2 : Int).toNat).crash).crash).seen.length) cc_53, .slice r_40 ((((D1.mark (2 : Int).toNat i.toNat).fence (2 : Int).toNat).crash).seen.length) cc_41] (sameN_ok _ _ _ _ _ _ (((((D1.mark (2 : Int).toNat i.toNat).fence (2 : Int).toNat).crash).crash).seen) ((((D1.mark (2 : Int).toNat i.toNat).fence (2 : Int).toNat).crash).seen) _ (by omega) rfl rfl (K.Own.rowE 0 (hS.ownr 1 rfl o_55) rfl (fun _ => rfl)) (K.Own.rowE 0 (hS.ownr 2 rfl o_43) rfl (fun _ => rfl))) ?_)
                    rintro _ w ⟨rfl, c_56⟩
                    replace hS := hS.no c_56
                    have hb_57 : sameB (((((D1.mark (2 : Int).toNat i.toNat).fence (2 : Int).toNat).crash).crash).seen) ((((D1.mark (2 : Int).toNat i.toNat).fence (2 : Int).toNat).crash).seen) = true := decide_eq_true (by rw [crash_crash])
                    rw [hb_57]
                    refine ⟨.inl (hS.pick []), ?_⟩
                    refine K.DW.l 31 rfl (by kernel_rfl) rfl (K.OW.q rfl (K.QR.k (v := .bool true) (by kernel_rfl)) ?_)
                    refine ⟨.inl (hS.pick []), ?_⟩
                    refine K.DW.l 32 rfl (by kernel_rfl) rfl (K.OW.q rfl (K.QR.k (v := .bool true) (by kernel_rfl)) ?_)
                    refine ⟨.inl (hS.pick []), ?_⟩
                    refine K.DW.q 33 (by kernel_rfl) rfl rfl (by kernel_rfl) (by kernel_rfl) (fun w hS => K.QR.k (v := .pointer (some ⟨p_1, 0, none⟩)) (by kernel_rfl)) (hS.pick []) ?_
                    refine K.DW.q 35 (by kernel_rfl) rfl rfl (by kernel_rfl) (by kernel_rfl) (fun w hS => K.QR.k (v := .slice r_40 ((((D1.mark (2 : Int).toNat i.toNat).fence (2 : Int).toNat).crash).seen.length) cc_41) (by kernel_rfl)) (hS.pick []) ?_
                    refine K.DW.l 34 rfl (by kernel_rfl) (by kernel_rfl) (K.OW.gcall hS [0] [1, 2, 3, 4] [.pointer (some ⟨p_1, 0, none⟩)] (dvKept_ok _ _ _ _ _ _ x_45) ?_)
                    clear hS; rintro _ _ w ⟨r_58, cc_59, l_60, rfl, rfl, o_61⟩ hS
                    replace hS : K.Sat w0 [l_44, l_60, l_54, l_42, l_32, fr] w := hS
                    refine ⟨.inl (hS.pick []), ?_⟩
                    refine K.DW.l 36 rfl (by kernel_rfl) (by kernel_rfl) (K.OW.kcall hS [.slice r_58 (((((D1.mark (2 : Int).toNat i.toNat).fence (2 : Int).toNat).crash).crash).kept.length) cc_59, .slice r_40 ((((D1.mark (2 : Int).toNat i.toNat).fence (2 : Int).toNat).crash).seen.length) cc_41] (sameN_ok _ _ _ _ _ _ (((((D1.mark (2 : Int).toNat i.toNat).fence (2 : Int).toNat).crash).crash).kept) ((((D1.mark (2 : Int).toNat i.toNat).fence (2 : Int).toNat).crash).seen) _ (by omega) rfl rfl (K.Own.rowE 0 (hS.ownr 1 rfl o_61) rfl (fun _ => rfl)) (K.Own.rowE 0 (hS.ownr 3 rfl o_43) rfl (fun _ => rfl))) ?_)
                    rintro _ w ⟨rfl, c_62⟩
                    replace hS := hS.no c_62
                    have hb_63 : sameB (((((D1.mark (2 : Int).toNat i.toNat).fence (2 : Int).toNat).crash).crash).kept) ((((D1.mark (2 : Int).toNat i.toNat).fence (2 : Int).toNat).crash).seen) = true := decide_eq_true rfl
                    rw [hb_63]
                    refine ⟨.inl (hS.pick []), ?_⟩
                    refine K.DW.l 37 rfl (by kernel_rfl) rfl (K.OW.q rfl (K.QR.k (v := .bool true) (by kernel_rfl)) ?_)
                    refine ⟨.inl (hS.pick []), ?_⟩
                    refine K.DW.l 38 rfl (by kernel_rfl) rfl (K.OW.q rfl (K.QR.k (v := .bool true) (by kernel_rfl)) ?_)
                    refine ⟨.inl (hS.pick []), ?_⟩
                    refine K.DW.l 39 rfl (by kernel_rfl) (by kernel_rfl) (K.OW.q rfl (K.QR.k (v := .pointer (some ⟨p_1, 0, none⟩)) (by kernel_rfl)) ?_)
                    refine ⟨.inl (hS.pick []), ?_⟩
                    refine K.DW.l 40 rfl (by kernel_rfl) (by kernel_rfl) (K.OW.gcall hS [0] [1, 2, 3, 4, 5] [.pointer (some ⟨p_1, 0, none⟩), .int .i64 2] (dvPending_ok _ _ _ _ _ _ x_45 2 (by omega)) ?_)
                    clear hS; rintro _ _ w (⟨r_64, cc_65, l_66, rfl, rfl, o_67, h_68⟩ | ⟨rfl, rfl, h_69⟩) hS
                    ·
                      replace hS : K.Sat w0 [l_44, l_66, l_60, l_54, l_42, l_32, fr] w := hS
                      replace o_67 : K.OwnG l_66 3 1 r_64 ((trues (((((D1.mark (2 : Int).toNat i.toNat).fence (2 : Int).toNat).crash).crash).flush.getD 2 [])).length) cc_65 (((trues (((((D1.mark (2 : Int).toNat i.toNat).fence (2 : Int).toNat).crash).crash).flush.getD 2 []))).flatMap cI64) := o_67
                      refine ⟨.inl (hS.pick []), ?_⟩
                      refine K.DW.l 41 rfl (by kernel_rfl) (by kernel_rfl) (K.OW.q rfl (K.QR.len (P := Try.prog) rfl rfl Try.underlying73) ?_)
                      refine ⟨.inl (hS.pick []), ?_⟩
                      refine K.DW.l 42 rfl (by kernel_rfl) (by kernel_rfl) (K.OW.q rfl (K.QR.nice (v := .bool (((((trues (((((D1.mark (2 : Int).toNat i.toNat).fence (2 : Int).toNat).crash).crash).flush.getD 2 [])).length : Nat) : Int) : Int) == (0 : Int))) (by kernel_rfl) (congrArg Value.bool (beq_iff_eq.2 (by have h := crash_flush hD2 (k := 2) (by omega); exact congrArg (fun l : List Int => (l.length : Int)) h)))) ?_)
                      refine ⟨.inl (hS.pick []), ?_⟩
                      refine K.DW.l 43 rfl (by kernel_rfl) rfl (K.OW.q rfl (K.QR.k (v := .bool true) (by kernel_rfl)) ?_)
                      refine ⟨.inl (hS.pick []), ?_⟩
                      refine K.DW.l 44 rfl (by kernel_rfl) rfl (K.OW.q rfl (K.QR.k (v := .bool true) (by kernel_rfl)) ?_)
                      refine ⟨.inl (hS.pick []), ?_⟩
                      refine K.DW.done (by kernel_rfl) ?_
                      refine K.thn_normal ?_
                      refine K.KW.ret ?_
                      refine ⟨.inr rfl, rfl, (.bool true), K.res1 rfl rfl, [], ?_, hS.pick [6]⟩
                      exact rfl
                    ·
                      exfalso; omega
                  ·
                    exfalso; omega
                ·
                  exfalso; omega
                ·
                  exfalso; omega
  ·
    replace hS : K.Sat w0 [fr] w := hS
    refine K.RW.qs [.tuple #[.pointer none, .int .i64 (mayOpenM xs.length 3)], .pointer none, .int .i64 (mayOpenM xs.length 3), .pointer none, .int .i64 (mayOpenM xs.length 3)] (by kernel_rfl) ?_
    refine K.RW.nil ?_
    refine K.thn_normal ?_
    refine K.KW.seq ?_
    refine K.KW.seq ?_
    -- 2 :161
    refine K.KW.region ?_
    refine K.RW.qs [.int .i64 (mayOpenM xs.length 3)] (by kernel_rfl) ?_
    refine K.RW.q rfl rfl (K.QR.nice (v := .bool (((mayOpenM xs.length 3) : Int) != (0 : Int))) (by kernel_rfl) (congrArg Value.bool (bne_iff_ne.2 (by omega)))) ?_
    refine K.RW.qs [.bool true] (by kernel_rfl) ?_
    refine K.RW.skip rfl (by kernel_rfl) ?_
    refine K.RW.skip rfl (by kernel_rfl) ?_
    refine K.RW.skip rfl (by kernel_rfl) ?_
    refine K.RW.qs [.bool true, .bool true] (by kernel_rfl) ?_
    refine K.RW.skip rfl (by kernel_rfl) ?_
    refine K.RW.skip rfl (by kernel_rfl) ?_
    refine K.RW.skip rfl (by kernel_rfl) ?_
    refine K.RW.qs [.bool true, .bool true] (by kernel_rfl) ?_
    refine K.RW.skip rfl (by kernel_rfl) ?_
    refine K.RW.skip rfl (by kernel_rfl) ?_
    refine K.RW.qs [.bool true, .bool true] (by kernel_rfl) ?_
    refine K.RW.skip rfl (by kernel_rfl) ?_
    refine K.RW.skip rfl (by kernel_rfl) ?_
    refine K.RW.skip rfl (by kernel_rfl) ?_
    refine K.RW.skip rfl (by kernel_rfl) ?_
    refine K.RW.skip rfl (by kernel_rfl) ?_
    refine K.RW.qs [.bool true] (by kernel_rfl) ?_
    refine K.RW.nil ?_
    refine K.thn_normal ?_
    refine K.KW.ifT rfl ?_
    refine K.KW.seq ?_
    -- 3 :162
    refine K.KW.region ?_
    refine K.RW.l rfl (K.OW.gcall hS [] [0] [] (awake04_ok _) ?_)
    clear hS; rintro _ _ w ⟨rfl, rfl⟩ hS
    replace hS : K.Sat w0 [fr] w := hS
    refine K.RW.qs [.bool true] (by kernel_rfl) ?_
    refine K.RW.nil ?_
    refine K.thn_normal ?_
    refine K.KW.ret ?_
    refine K.thn_ret ?_
    refine ⟨.inr rfl, rfl, (.bool true), K.res1 rfl rfl, [], ?_, hS.pick [0]⟩
    exact rfl

def U64G (g : K.Cs) (v : Value) (W : List Int) : Prop := ∃ a c, v = .slice a W.length c ∧ K.OwnG g 23 1 a W.length c (W.flatMap cU64)
theorem RowsG.one {α : Type} {p : K.Cs → Value → α → Prop} {g : K.Cs} {v : Value} {B : α} (h : p g v B) : RowsG p g [v] [B] := ⟨[g], by simp, h, trivial⟩
/-- what was seen, ahead of all acts and behind each -/
def seensTo (D : DevM) (n t : Nat) (ls : List ActM) (j : Nat) : List (List Int) := (List.range (j + 1)).map fun i => (actsR D n t (ls.take i)).seen
theorem seens_zero (D : DevM) (n t : Nat) (ls : List ActM) : seensTo D n t ls 0 = [D.seen] := by simp [seensTo, actsR]
theorem seens_succ (D : DevM) (n t : Nat) (ls : List ActM) (j : Nat) : seensTo D n t ls (j + 1) = seensTo D n t ls j ++ [(actsR D n t (ls.take (j + 1))).seen] := by unfold seensTo; rw [List.range_succ, List.map_append]; rfl
theorem seens_len (D : DevM) (n t : Nat) (ls : List ActM) (j : Nat) : (seensTo D n t ls j).length = j + 1 := by simp [seensTo]
theorem seens_get {D : DevM} {n t : Nat} {ls : List ActM} {j i : Nat} (h : i < j + 1) : (seensTo D n t ls j).getD i [] = (actsR D n t (ls.take i)).seen := by simp [seensTo, h]
theorem acts_ok {D : DevM} {n t : Nat} (h : D.ok n t) : ∀ ls : List ActM, (actsR D n t ls).ok n t := by
  intro ls
  induction ls generalizing D with
  | nil => exact h
  | cons a ls ih => exact ih h.actR
theorem act_line {D : DevM} {n t q : Nat} {a : ActM} (h : D.ok n t) (hq : q < n) : lineT (actR D n t a).1.kept q = lineT D.kept q ∨ lineT (actR D n t a).1.kept q = lineT D.seen q := by
  unfold actR
  (repeat' split) <;> first | exact .inl rfl | skip
  · rename_i hth
    rw [fence_line h (k := a.thread.toNat) (by omega) hq]
    split
    · exact .inr rfl
    · exact .inl rfl
  · have e : (D.back a.line.toNat).kept = copyL D.kept D.seen a.line.toNat := rfl
    show lineT (D.back a.line.toNat).kept q = _ ∨ lineT (D.back a.line.toNat).kept q = _
    rw [e, copyL_line (k := a.line.toNat) h.1 h.2.1 (by omega) hq]
    split
    · exact .inr rfl
    · exact .inl rfl
/-- what is kept of a line was seen of it once -/
theorem once {D : DevM} {n t q : Nat} {ls : List ActM} (h : D.ok n t) (h0 : D.kept = D.seen) (hq : q < n) : ∀ j, j ≤ ls.length → ∃ i, i < j + 1 ∧ lineT (actsR D n t (ls.take i)).seen q = lineT (actsR D n t (ls.take j)).kept q
  | 0, _ => ⟨0, by omega, by simp [actsR, h0]⟩
  | j + 1, hj => by
    obtain ⟨i, hi, e⟩ := once (ls := ls) h h0 hq j (by omega)
    rw [actsR_next (j := j) (ls := ls) (by omega)]
    rcases act_line (acts_ok h (ls.take j)) hq (a := ls.getD j a0) with h1 | h1
    · exact ⟨i, by omega, by rw [h1]; exact e⟩
    · exact ⟨j, by omega, by rw [h1]⟩
theorem sameB_line {A C : List Int} {q : Nat} : sameB ((A.drop (8 * q)).take (8 * q + 8 - 8 * q)) ((C.drop (8 * q)).take (8 * q + 8 - 8 * q)) = true ↔ lineT A q = lineT C q := by
  unfold sameB lineT
  rw [show 8 * q + 8 - 8 * q = 8 by omega]
  exact decide_eq_true_iff
theorem found_t {p : Nat → Prop} {k : Nat} (h : true = true ↔ ∃ i, i < k ∧ p i) : true = true ↔ ∃ i, i < k + 1 ∧ p i := ⟨fun _ => by obtain ⟨i, h1, h2⟩ := h.1 rfl; exact ⟨i, by omega, h2⟩, fun _ => rfl⟩
theorem found_new {p : Nat → Prop} {k : Nat} (h : p k) : true = true ↔ ∃ i, i < k + 1 ∧ p i := ⟨fun _ => ⟨k, by omega, h⟩, fun _ => rfl⟩
theorem found_no {p : Nat → Prop} {k : Nat} (h : false = true ↔ ∃ i, i < k ∧ p i) (hk : ¬ p k) : false = true ↔ ∃ i, i < k + 1 ∧ p i := by
  refine ⟨fun e => (by cases e), fun ⟨i, h1, h2⟩ => ?_⟩
  by_cases e : i = k
  · subst e; exact absurd h2 hk
  · exact h.2 ⟨i, by omega, h2⟩

set_option maxHeartbeats 1000000 in
set_option maxRecDepth 100000 in
theorem l4once_ok (w0 : World) (a b : Option Addr) (cap cap2 : Nat) (xs : List Int) (ls : List ActM) (hg : ∀ j, j < ls.length → (ls.getD j a0).good) (hm : xs.length ≤ 9223372036854775807) (hm2 : ls.length ≤ 9223372036854775807) (hc : xs.length ≤ cap) (hx : RU64 w0 a xs) (hy : K.RowE w0 b ls.length 5 (fun i => cAct (ls.getD i a0))) :
    K.GC Try.prog w0 9 #[.slice a xs.length cap, .slice b ls.length cap2] [] (fun v post => v = .bool true) := by
  refine K.GC.mk (n := 105) Try.func9 rfl rfl [.slice a xs.length cap, .slice b ls.length cap2] rfl rfl ?_
  intro fr w hS
  replace hS : K.Sat w0 [fr] w := hS
  refine K.KW.seq ?_
  -- 0 :132
  refine K.KW.region ?_
  refine K.RW.qs [.bool false] (by kernel_rfl) ?_
  refine K.RW.nil ?_
  refine K.thn_normal ?_
  refine K.KW.seq ?_
  -- 1 :133
  refine K.KW.region ?_
  refine K.RW.qs [.slice a xs.length cap] (by kernel_rfl) ?_
  refine K.RW.l rfl (K.OW.gcall hS [] [0] [.slice a xs.length cap, .int .i64 3] (dvOpen_ok _ _ _ xs 3 (by omega) (by omega) (by omega) hx) ?_)
  clear hS; rintro _ _ w (⟨p_1, n_2, l_3, rfl, rfl, x_4, hn_5, hm_6, ht_7⟩ | ⟨rfl, rfl, h_8⟩) hS
  ·
    replace hS : K.Sat w0 [l_3, fr] w := hS
    obtain ⟨_, _, _, _, _, hn_9, hn_10, _, _⟩ := DevAt.isok x_4
    refine K.RW.qs [.tuple #[.pointer (some ⟨p_1, 0, none⟩), .int .i64 0], .pointer (some ⟨p_1, 0, none⟩), .int .i64 0, .pointer (some ⟨p_1, 0, none⟩), .int .i64 0] (by kernel_rfl) ?_
    refine K.RW.nil ?_
    refine K.thn_normal ?_
    refine K.KW.seq ?_
    refine K.KW.seq ?_
    -- 2 :134
    refine K.KW.region ?_
    refine K.RW.qs [.int .i64 0, .bool false, .bool false, .slice a xs.length cap] (by kernel_rfl) ?_
    refine K.RW.q rfl (by kernel_rfl) (K.QR.len (P := Try.prog) rfl rfl Try.underlying22) ?_
    by_cases h_11 : (((xs.length : Nat) : Int) : Int) > (60 : Int)
    ·  -- yes
      refine K.RW.q rfl (by kernel_rfl) (K.QR.nice (v := .bool (decide ((((xs.length : Nat) : Int) : Int) > (60 : Int)))) (by kernel_rfl) (congrArg Value.bool (decide_eq_true h_11))) ?_
      refine K.RW.qs [.bool true, .bool true] (by kernel_rfl) ?_
      refine K.RW.skip rfl (by kernel_rfl) ?_
      refine K.RW.skip rfl (by kernel_rfl) ?_
      refine K.RW.skip rfl (by kernel_rfl) ?_
      refine K.RW.qs [.bool true] (by kernel_rfl) ?_
      refine K.RW.nil ?_
      refine K.thn_normal ?_
      refine K.KW.ifT rfl ?_
      refine K.KW.seq ?_
      -- 3 :135
      refine K.KW.region ?_
      refine K.RW.l rfl (K.OW.gcall hS [] [0, 1] [] (awake04_ok _) ?_)
      clear hS; rintro _ _ w ⟨rfl, rfl⟩ hS
      replace hS : K.Sat w0 [l_3, fr] w := hS
      refine K.RW.qs [.bool true] (by kernel_rfl) ?_
      refine K.RW.nil ?_
      refine K.thn_normal ?_
      refine K.KW.ret ?_
      refine K.thn_ret ?_
      refine ⟨.inr rfl, rfl, (.bool true), K.res1 rfl rfl, [], ?_, hS.pick [1]⟩
      exact rfl
    ·  -- no
      refine K.RW.q rfl (by kernel_rfl) (K.QR.nice (v := .bool (decide ((((xs.length : Nat) : Int) : Int) > (60 : Int)))) (by kernel_rfl) (congrArg Value.bool (decide_eq_false h_11))) ?_
      refine K.RW.qs [.bool false, .bool false, .slice b ls.length cap2] (by kernel_rfl) ?_
      refine K.RW.q rfl (by kernel_rfl) (K.QR.len (P := Try.prog) rfl rfl Try.underlying77) ?_
      by_cases h_12 : (((ls.length : Nat) : Int) : Int) > (60 : Int)
      ·  -- yes
        refine K.RW.q rfl (by kernel_rfl) (K.QR.nice (v := .bool (decide ((((ls.length : Nat) : Int) : Int) > (60 : Int)))) (by kernel_rfl) (congrArg Value.bool (decide_eq_true h_12))) ?_
        refine K.RW.qs [.bool true] (by kernel_rfl) ?_
        refine K.RW.nil ?_
        refine K.thn_normal ?_
        refine K.KW.ifT rfl ?_
        refine K.KW.seq ?_
        -- 3 :135
        refine K.KW.region ?_
        refine K.RW.l rfl (K.OW.gcall hS [] [0, 1] [] (awake04_ok _) ?_)
        clear hS; rintro _ _ w ⟨rfl, rfl⟩ hS
        replace hS : K.Sat w0 [l_3, fr] w := hS
        refine K.RW.qs [.bool true] (by kernel_rfl) ?_
        refine K.RW.nil ?_
        refine K.thn_normal ?_
        refine K.KW.ret ?_
        refine K.thn_ret ?_
        refine ⟨.inr rfl, rfl, (.bool true), K.res1 rfl rfl, [], ?_, hS.pick [1]⟩
        exact rfl
      ·  -- no
        refine K.RW.q rfl (by kernel_rfl) (K.QR.nice (v := .bool (decide ((((ls.length : Nat) : Int) : Int) > (60 : Int)))) (by kernel_rfl) (congrArg Value.bool (decide_eq_false h_12))) ?_
        refine K.RW.qs [.bool false] (by kernel_rfl) ?_
        refine K.RW.nil ?_
        refine K.thn_normal ?_
        refine K.KW.ifF rfl ?_
        refine K.KW.skip ?_
        refine K.thn_normal ?_
        refine K.KW.seq ?_
        -- 4 :137
        refine K.KW.region ?_
        refine K.RW.qs [.pointer (some ⟨p_1, 0, none⟩)] (by kernel_rfl) ?_
        refine K.RW.l rfl (K.OW.gcall hS [0] [1] [.pointer (some ⟨p_1, 0, none⟩)] (dvSeen_ok _ _ _ _ _ _ x_4) ?_)
        clear hS; rintro _ _ w ⟨r_13, cc_14, l_15, rfl, rfl, o_16⟩ hS
        replace hS : K.Sat w0 [l_3, l_15, fr] w := hS
        refine K.RW.l rfl (K.OW.gbs [(0, .slice r_13 ((DevM.fresh xs n_2 3).seen.length) cc_14)] [.slice r_13 ((DevM.fresh xs n_2 3).seen.length) cc_14] hS (fun w => K.bs_run (P := Try.prog) w 79 22 1 _ _ Try.underlying79 (by kernel_rfl)) ?_)
        clear hS; intro w r_17 g_18 hg_19 hS
        refine K.RW.qs [.slice (some ⟨r_17, 0, none⟩) 1 1] (by kernel_rfl) ?_
        refine K.RW.nil ?_
        refine K.thn_normal ?_
        refine K.KW.seq ?_
        refine K.KW.seq ?_
        -- 5 :138
        refine K.KW.region ?_
        refine K.RW.qs [.int .i64 0] (by kernel_rfl) ?_
        refine K.RW.nil ?_
        refine K.thn_normal ?_
        refine K.KW.block ?_
        have o_20 : K.OwnG g_18 22 1 (some ⟨r_17, 0, none⟩) 1 1 (([(.slice r_13 ((DevM.fresh xs n_2 3).seen.length) cc_14 : Value)]).flatMap cV) := K.OwnG.ofPt hg_19 1 (by unfold maxLen; omega) rfl
        have z_21 : RowsG U64G l_15 [(.slice r_13 ((DevM.fresh xs n_2 3).seen.length) cc_14 : Value)] (seensTo (DevM.fresh xs n_2 3) n_2 3 ls 0) := by rw [seens_zero]; exact RowsG.one ⟨_, _, rfl, o_16⟩
        have hD0 := DevAt.isok x_4
        refine K.KW.loop (fun m_ F_ w_ => ∃ (j : Nat) (q1 : Option Addr) (c1 : Nat) (vs : List Value) (l1 : K.Cs) (f1 : K.Cs) (z1 : K.Cs), m_ = ls.length - j ∧ K.Sl F_ [(0, .slice a xs.length cap), (1, .slice b ls.length cap2), (4, .bool false), (5, .pointer (some ⟨p_1, 0, none⟩)), (7, .slice q1 (j + 1) c1), (8, .int .i64 ((j : Nat) : Int)), (105, undef)] ∧ j ≤ ls.length ∧ vs.length = j + 1 ∧ DevAt l1 p_1 n_2 3 (actsR (DevM.fresh xs n_2 3) n_2 3 (ls.take j)) ∧ K.OwnG f1 22 1 q1 (j + 1) c1 ((vs).flatMap cV) ∧ RowsG U64G z1 vs (seensTo (DevM.fresh xs n_2 3) n_2 3 ls j) ∧ K.Sat w0 [f1, l1, z1, fr] w_) ((fun (j : Nat) (q1 : Option Addr) (c1 : Nat) (vs : List Value) => ls.length - j) 0 (some ⟨r_17, 0, none⟩) 1 [(.slice r_13 ((DevM.fresh xs n_2 3).seen.length) cc_14 : Value)]) ?_ ?_
        · -- begins
          exact ⟨0, (some ⟨r_17, 0, none⟩), 1, [(.slice r_13 ((DevM.fresh xs n_2 3).seen.length) cc_14 : Value)], l_3, g_18, l_15, rfl, ⟨by rfl, by rfl, by rfl, by rfl, by rfl, by rfl, by rfl, trivial⟩, (by omega), (rfl), x_4, o_20, z_21, hS.pick [0, 1, 2, 3]⟩
        · -- a round
          clear hS
          intro m_22 F_23 w hI
          obtain ⟨j, q1, c1, vs, l1, f1, z1, rfl, sl_24, p_25, p_26, x_27, x_28, x_29, hS⟩ := hI
          rw [← K.Sl.puts sl_24]; clear sl_24
          refine K.KW.seq ?_
          refine K.KW.seq ?_
          -- 6 :138
          refine K.KW.region ?_
          refine K.RW.qs [.int .i64 ((j : Nat) : Int), .slice b ls.length cap2] (by kernel_rfl) ?_
          refine K.RW.q rfl rfl (K.QR.len (P := Try.prog) rfl rfl Try.underlying77) ?_
          by_cases h_30 : (((j : Nat) : Int) : Int) < (((ls.length : Nat) : Int) : Int)
          ·  -- yes
            refine K.RW.q rfl rfl (K.QR.nice (v := .bool (decide ((((j : Nat) : Int) : Int) < (((ls.length : Nat) : Int) : Int)))) (by kernel_rfl) (congrArg Value.bool (decide_eq_true h_30))) ?_
            refine K.RW.nil ?_
            refine K.thn_normal ?_
            refine K.KW.ifT rfl ?_
            refine K.KW.skip ?_
            refine K.thn_normal ?_
            refine K.KW.seq ?_
            refine K.KW.block ?_
            refine K.KW.seq ?_
            -- 8 :139
            obtain ⟨b_31, of_32, rfl, _⟩ := hy.at_ (by omega)
            refine K.KW.region ?_
            refine K.RW.qs [.pointer (some ⟨p_1, 0, none⟩), .slice (some ⟨b_31, of_32, none⟩) ls.length cap2, .int .i64 ((j : Nat) : Int)] (by kernel_rfl) ?_
            refine K.RW.q rfl rfl (K.QR.ix (of_32 + j * 5) 5 rfl rfl rfl Try.underlying77 (by kernel_rfl) (by omega) (by first | (simp; done) | omega | (simp; omega))) ?_
            refine K.RW.q rfl rfl (K.QR.ldN [.int .i64 ((ls.getD j a0).kind), .int .i64 ((ls.getD j a0).thread), .int .i64 ((ls.getD j a0).line), .int .i64 ((ls.getD j a0).at_), .int .u64 ((ls.getD j a0).w)] rfl rfl (by kernel_rfl) (by kernel_rfl) (K.cells (K.cl ((hy.no hS.chg).ld j (by omega) 0 _ rfl) (K.cl ((hy.no hS.chg).ld j (by omega) 1 _ rfl) (K.cl ((hy.no hS.chg).ld j (by omega) 2 _ rfl) (K.cl ((hy.no hS.chg).ld j (by omega) 3 _ rfl) (K.cl ((hy.no hS.chg).ld j (by omega) 4 _ rfl) K.cl0))))))) ?_
            refine K.RW.l rfl (K.OW.gcall hS [1] [0, 2, 3] [.pointer (some ⟨p_1, 0, none⟩), .agg #[.int .i64 ((ls.getD j a0).kind), .int .i64 ((ls.getD j a0).thread), .int .i64 ((ls.getD j a0).line), .int .i64 ((ls.getD j a0).at_), .int .u64 ((ls.getD j a0).w)]] (do4_ok _ _ _ _ _ _ x_27 (ls.getD j a0) (hg j (by omega))) ?_)
            clear hS; rintro _ _ w ⟨l_33, rfl, rfl, x_34⟩ hS
            replace hS : K.Sat w0 [l_33, f1, z1, fr] w := hS
            refine K.RW.nil ?_
            refine K.thn_normal ?_
            -- 9 :140
            refine K.KW.region ?_
            refine K.RW.qs [.slice q1 (j + 1) c1, .pointer (some ⟨p_1, 0, none⟩)] (by kernel_rfl) ?_
            refine K.RW.l rfl (K.OW.gcall hS [0] [1, 2, 3] [.pointer (some ⟨p_1, 0, none⟩)] (dvSeen_ok _ _ _ _ _ _ x_34) ?_)
            clear hS; rintro _ _ w ⟨r_35, cc_36, l_37, rfl, rfl, o_38⟩ hS
            replace hS : K.Sat w0 [l_33, l_37, f1, z1, fr] w := hS
            refine K.RW.l rfl (K.OW.gbs [(0, .slice r_35 (((actR (actsR (DevM.fresh xs n_2 3) n_2 3 (ls.take j)) n_2 3 (ls.getD j a0)).1).seen.length) cc_36)] [.slice r_35 (((actR (actsR (DevM.fresh xs n_2 3) n_2 3 (ls.take j)) n_2 3 (ls.getD j a0)).1).seen.length) cc_36] hS (fun w => K.bs_run (P := Try.prog) w 79 22 1 _ _ Try.underlying79 (by kernel_rfl)) ?_)
            clear hS; intro w r_39 g_40 hg_41 hS
            refine K.RW.l rfl (K.OW.gapp (P := Try.prog) (xs := (vs).flatMap cV) (z := .slice none 0 0) (size := 1) (bytes := 24) 3 [.slice r_35 (((actR (actsR (DevM.fresh xs n_2 3) n_2 3 (ls.take j)) n_2 3 (ls.getD j a0)).1).seen.length) cc_36] hS x_28 ?_ (fun j u hj => (by rw [Nat.zero_add]; exact (hS.blk 0 rfl hg_41).cell hj)) (K.one_cells (by rfl)) (by rfl) Try.underlying79 (by kernel_rfl) rfl (by decide) (by unfold maxLen; omega) (by omega))
            clear hS; intro a_42 cap_43 w l_44 o_45 hS
            have ln_46 : ((vs ++ [(.slice r_35 (((actR (actsR (DevM.fresh xs n_2 3) n_2 3 (ls.take j)) n_2 3 (ls.getD j a0)).1).seen.length) cc_36 : Value)])).length = j + 1 + 1 := by rw [List.length_append, p_26]; rfl
            have o_45c := K.OwnG.cast (xs' := ((vs ++ [(.slice r_35 (((actR (actsR (DevM.fresh xs n_2 3) n_2 3 (ls.take j)) n_2 3 (ls.getD j a0)).1).seen.length) cc_36 : Value)])).flatMap cV) o_45 rfl (K.fl_snoc cV vs _ rfl)
            replace hS : K.Sat w0 [g_40, l_33, l_37, l_44, z1, fr] w := hS
            refine K.RW.qs [.slice a_42 (j + 1 + 1) cap_43] (by kernel_rfl) ?_
            refine K.RW.nil ?_
            refine K.blk_normal ?_
            refine K.thn_normal ?_
            -- 7 :138
            refine K.KW.region ?_
            refine K.RW.qs [.int .i64 ((j : Nat) : Int)] (by kernel_rfl) ?_
            refine K.RW.q rfl rfl (K.QR.n64 ((((j : Nat) : Int) : Int) + (1 : Int)) ((j + 1 : Nat) : Int) (by kernel_rfl) (by omega)) ?_
            refine K.RW.qs [.int .i64 ((j + 1 : Nat) : Int)] (by kernel_rfl) ?_
            refine K.RW.nil ?_
            refine K.thn_normal ?_
            have hzn : RowsG U64G [z1, l_37].flatten (vs ++ [(.slice r_35 (((actR (actsR (DevM.fresh xs n_2 3) n_2 3 (ls.take j)) n_2 3 (ls.getD j a0)).1).seen.length) cc_36 : Value)]) (seensTo (DevM.fresh xs n_2 3) n_2 3 ls (j + 1)) := by rw [seens_succ, actsR_next (by omega)]; exact RowsG.snoc x_29 ⟨_, _, rfl, o_38⟩
            replace hS : K.Sat w0 [[z1, l_37].flatten, g_40, l_33, l_44, fr] w := (hS.pick [4, 2, 0, 1, 3, 5]).of
            refine ⟨_, ?_, j + 1, a_42, cap_43, (vs ++ [(.slice r_35 (((actR (actsR (DevM.fresh xs n_2 3) n_2 3 (ls.take j)) n_2 3 (ls.getD j a0)).1).seen.length) cc_36 : Value)]), l_33, l_44, [z1, l_37].flatten, rfl, ⟨by rfl, by rfl, by rfl, by rfl, by rfl, by rfl, by rfl, trivial⟩, (by omega), (ln_46), (by rw [actsR_next (by omega)]; exact x_34), o_45c, hzn, hS.pick [3, 2, 0, 4]⟩
            omega
          ·  -- no
            refine K.RW.q rfl rfl (K.QR.nice (v := .bool (decide ((((j : Nat) : Int) : Int) < (((ls.length : Nat) : Int) : Int)))) (by kernel_rfl) (congrArg Value.bool (decide_eq_false h_30))) ?_
            refine K.RW.nil ?_
            refine K.thn_normal ?_
            refine K.KW.ifF rfl ?_
            refine K.KW.exit ?_
            refine K.thn_exit ?_
            refine K.thn_exit ?_
            refine K.blk_hit ?_
            refine K.thn_normal ?_
            refine K.KW.seq ?_
            -- 10 :142
            refine K.KW.region ?_
            refine K.RW.qs [.pointer (some ⟨p_1, 0, none⟩)] (by kernel_rfl) ?_
            refine K.RW.l rfl (K.OW.gcall hS [1] [0, 2, 3] [.pointer (some ⟨p_1, 0, none⟩)] (dvKept_ok _ _ _ _ _ _ x_27) ?_)
            clear hS; rintro _ _ w ⟨r_47, cc_48, l_49, rfl, rfl, o_50⟩ hS
            replace hS : K.Sat w0 [l1, l_49, f1, z1, fr] w := hS
            refine K.RW.qs [.slice r_47 ((actsR (DevM.fresh xs n_2 3) n_2 3 (ls.take j)).kept.length) cc_48] (by kernel_rfl) ?_
            refine K.RW.nil ?_
            refine K.thn_normal ?_
            refine K.KW.seq ?_
            refine K.KW.seq ?_
            -- 11 :143
            have hKl : ((actsR (DevM.fresh xs n_2 3) n_2 3 (ls.take j)).kept).length = n_2 * 8 := (acts_ok hD0 _).1
            refine K.KW.region ?_
            refine K.RW.qs [.slice r_47 ((actsR (DevM.fresh xs n_2 3) n_2 3 (ls.take j)).kept.length) cc_48] (by kernel_rfl) ?_
            refine K.RW.q rfl rfl (K.QR.len (P := Try.prog) rfl rfl Try.underlying22) ?_
            refine K.RW.qs [.slice a xs.length cap] (by kernel_rfl) ?_
            refine K.RW.q rfl rfl (K.QR.len (P := Try.prog) rfl rfl Try.underlying22) ?_
            refine K.RW.q rfl rfl (K.QR.nice (v := .bool (((((actsR (DevM.fresh xs n_2 3) n_2 3 (ls.take j)).kept.length : Nat) : Int) : Int) != (((xs.length : Nat) : Int) : Int))) (by kernel_rfl) (congrArg Value.bool (bne_eq_false_iff_eq.2 (by omega)))) ?_
            refine K.RW.nil ?_
            refine K.thn_normal ?_
            refine K.KW.ifF rfl ?_
            refine K.KW.skip ?_
            refine K.thn_normal ?_
            refine K.KW.seq ?_
            refine K.KW.seq ?_
            -- 13 :146
            refine K.KW.region ?_
            refine K.RW.qs [.int .i64 0] (by kernel_rfl) ?_
            refine K.RW.nil ?_
            refine K.thn_normal ?_
            refine K.KW.block ?_
            refine K.KW.loop (fun m_ F_ w_ => ∃ (q : Nat), m_ = xs.length / 8 - q ∧ K.Sl F_ [(0, .slice a xs.length cap), (1, .slice b ls.length cap2), (7, .slice q1 (j + 1) c1), (9, .slice r_47 ((actsR (DevM.fresh xs n_2 3) n_2 3 (ls.take j)).kept.length) cc_48), (10, .int .i64 ((q : Nat) : Int)), (105, undef)] ∧ q ≤ xs.length / 8 ∧ K.Sat w0 [l1, l_49, f1, z1, fr] w_) ((fun (q : Nat) => xs.length / 8 - q) 0) ?_ ?_
            · -- begins
              exact ⟨0, rfl, ⟨by rfl, by rfl, by rfl, by rfl, by rfl, by rfl, trivial⟩, (by omega), hS.pick [0, 1, 2, 3, 4]⟩
            · -- a round
              clear hS
              intro m_51 F_52 w hI
              obtain ⟨q, rfl, sl_53, p_54, hS⟩ := hI
              rw [← K.Sl.puts sl_53]; clear sl_53
              refine K.KW.seq ?_
              refine K.KW.seq ?_
              -- 14 :146
              refine K.KW.region ?_
              refine K.RW.qs [.int .i64 ((q : Nat) : Int), .slice a xs.length cap] (by kernel_rfl) ?_
              refine K.RW.q rfl rfl (K.QR.len (P := Try.prog) rfl rfl Try.underlying22) ?_
              refine K.RW.q rfl rfl (K.QR.quoi64 (((xs.length : Nat) : Int) : Int) 8 ((xs.length / 8 : Nat) : Int) (by kernel_rfl) (by omega) (by omega)) ?_
              by_cases h_55 : (((q : Nat) : Int) : Int) < (((xs.length / 8 : Nat) : Int) : Int)
              ·  -- yes
                refine K.RW.q rfl rfl (K.QR.nice (v := .bool (decide ((((q : Nat) : Int) : Int) < (((xs.length / 8 : Nat) : Int) : Int)))) (by kernel_rfl) (congrArg Value.bool (decide_eq_true h_55))) ?_
                refine K.RW.nil ?_
                refine K.thn_normal ?_
                refine K.KW.ifT rfl ?_
                refine K.KW.skip ?_
                refine K.thn_normal ?_
                refine K.KW.seq ?_
                refine K.KW.block ?_
                refine K.KW.seq ?_
                -- 16 :147
                refine K.KW.region ?_
                refine K.RW.qs [.bool false] (by kernel_rfl) ?_
                refine K.RW.nil ?_
                refine K.thn_normal ?_
                refine K.KW.seq ?_
                refine K.KW.seq ?_
                -- 17 :148
                refine K.KW.region ?_
                refine K.RW.qs [.int .i64 0] (by kernel_rfl) ?_
                refine K.RW.nil ?_
                refine K.thn_normal ?_
                refine K.KW.block ?_
                refine K.KW.loop (fun m_ F_ w_ => ∃ (k : Nat) (f : Bool), m_ = j + 1 - k ∧ K.Sl F_ [(0, .slice a xs.length cap), (1, .slice b ls.length cap2), (7, .slice q1 (j + 1) c1), (9, .slice r_47 ((actsR (DevM.fresh xs n_2 3) n_2 3 (ls.take j)).kept.length) cc_48), (10, .int .i64 ((q : Nat) : Int)), (11, .bool f), (12, .int .i64 ((k : Nat) : Int)), (105, undef)] ∧ k ≤ j + 1 ∧ ((f = true ↔ ∃ i, i < k ∧ lineT ((seensTo (DevM.fresh xs n_2 3) n_2 3 ls j).getD i []) q = lineT (actsR (DevM.fresh xs n_2 3) n_2 3 (ls.take j)).kept q)) ∧ K.Sat w0 [l1, l_49, f1, z1, fr] w_) ((fun (k : Nat) (f : Bool) => j + 1 - k) 0 false) ?_ ?_
                · -- begins
                  exact ⟨0, false, rfl, ⟨by rfl, by rfl, by rfl, by rfl, by rfl, by rfl, by rfl, by rfl, trivial⟩, (by omega), (⟨fun h => (by cases h), fun ⟨i, h, _⟩ => absurd h (by omega)⟩), hS.pick [0, 1, 2, 3, 4]⟩
                · -- a round
                  clear hS
                  intro m_56 F_57 w hI
                  obtain ⟨k, f, rfl, sl_58, p_59, hff, hS⟩ := hI
                  rw [← K.Sl.puts sl_58]; clear sl_58
                  cases f
                  ·
                    refine K.KW.seq ?_
                    refine K.KW.seq ?_
                    -- 18 :148
                    refine K.KW.region ?_
                    refine K.RW.qs [.int .i64 ((k : Nat) : Int), .slice q1 (j + 1) c1] (by kernel_rfl) ?_
                    refine K.RW.q rfl rfl (K.QR.len (P := Try.prog) rfl rfl Try.underlying79) ?_
                    by_cases h_60 : (((k : Nat) : Int) : Int) < (((j + 1 : Nat) : Int) : Int)
                    ·  -- yes
                      refine K.RW.q rfl rfl (K.QR.nice (v := .bool (decide ((((k : Nat) : Int) : Int) < (((j + 1 : Nat) : Int) : Int)))) (by kernel_rfl) (congrArg Value.bool (decide_eq_true h_60))) ?_
                      refine K.RW.nil ?_
                      refine K.thn_normal ?_
                      refine K.KW.ifT rfl ?_
                      refine K.KW.skip ?_
                      refine K.thn_normal ?_
                      refine K.KW.seq ?_
                      refine K.KW.block ?_
                      -- 20 :149
                      obtain ⟨gA, gi, gC, vi, hgz, hvk, hbg, hset⟩ := x_29.at [] k (by rw [seens_len]; omega)
                      obtain ⟨ia, ic, rfl, oi⟩ := hbg
                      have hSk : ((seensTo (DevM.fresh xs n_2 3) n_2 3 ls j).getD k []).length = n_2 * 8 := by rw [seens_get (by omega)]; exact (acts_ok hD0 _).2.1
                      replace hS : K.Sat w0 [l1, l_49, f1, gA, gi, gC, fr] w := hS.of (by simp [hgz])
                      refine K.KW.gdrawn [2] hS (by kernel_rfl) ?_
                      clear hS; intro w hS
                      refine K.DW.l 0 rfl (by kernel_rfl) rfl (K.OW.q rfl (K.QR.k (v := .bool false) (by kernel_rfl)) ?_)
                      refine ⟨.inl (hS.pick [2]), ?_⟩
                      refine K.DW.l 1 rfl (by kernel_rfl) rfl (K.OW.q rfl (K.QR.k (v := .bool false) (by kernel_rfl)) ?_)
                      refine ⟨.inl (hS.pick [2]), ?_⟩
                      refine K.DW.q 2 (by kernel_rfl) rfl rfl (by kernel_rfl) (by kernel_rfl) (fun w hS => K.QR.k (v := .slice q1 (j + 1) c1) (by kernel_rfl)) (hS.pick [2]) ?_
                      refine K.DW.q 3 (by kernel_rfl) rfl rfl (by kernel_rfl) (by kernel_rfl) (fun w hS => K.QR.k (v := .int .i64 ((k : Nat) : Int)) (by kernel_rfl)) (hS.pick [2]) ?_
                      obtain ⟨b_61, rfl⟩ := x_28.some_ (by have := x_28.le; omega)
                      refine K.DW.q 4 (by kernel_rfl) rfl rfl (by kernel_rfl) (by kernel_rfl) (fun w hS => K.QR.ix k 1 rfl rfl rfl Try.underlying79 (by kernel_rfl) (by omega) (by first | (simp; done) | omega | (simp; omega))) (hS.pick [2]) ?_
                      refine K.DW.q 5 (by kernel_rfl) rfl rfl (by kernel_rfl) (by kernel_rfl) (fun w hS => K.QR.ld1 (v := .slice ia (((seensTo (DevM.fresh xs n_2 3) n_2 3 ls j).getD k []).length) ic) rfl rfl (by kernel_rfl) (dv_ld (hS.ownr 0 rfl x_28) p_26 hvk)) (hS.pick [2]) ?_
                      refine K.DW.q 6 (by kernel_rfl) rfl rfl (by kernel_rfl) (by kernel_rfl) (fun w hS => K.QR.len (P := Try.prog) rfl rfl Try.underlying22) (hS.pick [2]) ?_
                      refine K.DW.l 7 rfl (by kernel_rfl) (by kernel_rfl) (K.OW.q rfl (K.QR.k (v := .slice a xs.length cap) (by kernel_rfl)) ?_)
                      refine ⟨.inl (hS.pick [2]), ?_⟩
                      refine K.DW.l 8 rfl (by kernel_rfl) (by kernel_rfl) (K.OW.q rfl (K.QR.len (P := Try.prog) rfl rfl Try.underlying22) ?_)
                      refine ⟨.inl (hS.pick [2]), ?_⟩
                      refine K.DW.l 9 rfl (by kernel_rfl) (by kernel_rfl) (K.OW.q rfl (K.QR.nice (v := .bool ((((((seensTo (DevM.fresh xs n_2 3) n_2 3 ls j).getD k []).length : Nat) : Int) : Int) == (((xs.length : Nat) : Int) : Int))) (by kernel_rfl) (congrArg Value.bool (beq_iff_eq.2 (by omega)))) ?_)
                      refine ⟨.inl (hS.pick [2]), ?_⟩
                      refine K.DW.l 10 rfl (by kernel_rfl) (by kernel_rfl) (K.OW.q rfl (K.QR.k (v := .bool true) (by kernel_rfl)) ?_)
                      refine ⟨.inl (hS.pick [2]), ?_⟩
                      refine K.DW.q 11 (by kernel_rfl) rfl rfl (by kernel_rfl) (by kernel_rfl) (fun w hS => K.QR.k (v := .slice (some ⟨b_61, 0, none⟩) (j + 1) c1) (by kernel_rfl)) (hS.pick [2]) ?_
                      refine K.DW.q 12 (by kernel_rfl) rfl rfl (by kernel_rfl) (by kernel_rfl) (fun w hS => K.QR.k (v := .int .i64 ((k : Nat) : Int)) (by kernel_rfl)) (hS.pick [2]) ?_
                      refine K.DW.q 13 (by kernel_rfl) rfl rfl (by kernel_rfl) (by kernel_rfl) (fun w hS => K.QR.ix k 1 rfl rfl rfl Try.underlying79 (by kernel_rfl) (by omega) (by first | (simp; done) | omega | (simp; omega))) (hS.pick [2]) ?_
                      refine K.DW.q 14 (by kernel_rfl) rfl rfl (by kernel_rfl) (by kernel_rfl) (fun w hS => K.QR.ld1 (v := .slice ia (((seensTo (DevM.fresh xs n_2 3) n_2 3 ls j).getD k []).length) ic) rfl rfl (by kernel_rfl) (dv_ld (hS.ownr 0 rfl x_28) p_26 hvk)) (hS.pick [2]) ?_
                      refine K.DW.q 15 (by kernel_rfl) rfl rfl (by kernel_rfl) (by kernel_rfl) (fun w hS => K.QR.k (v := .int .i64 ((q : Nat) : Int)) (by kernel_rfl)) (hS.pick [2]) ?_
                      refine K.DW.q 16 (by kernel_rfl) rfl rfl (by kernel_rfl) (by kernel_rfl) (fun w hS => K.QR.n64 ((8 : Int) * (((q : Nat) : Int) : Int)) ((8 * q : Nat) : Int) (by kernel_rfl) (by omega)) (hS.pick [2]) ?_
                      refine K.DW.q 17 (by kernel_rfl) rfl rfl (by kernel_rfl) (by kernel_rfl) (fun w hS => K.QR.k (v := .int .i64 ((q : Nat) : Int)) (by kernel_rfl)) (hS.pick [2]) ?_
                      refine K.DW.q 18 (by kernel_rfl) rfl rfl (by kernel_rfl) (by kernel_rfl) (fun w hS => K.QR.n64 ((8 : Int) * (((q : Nat) : Int) : Int)) ((8 * q : Nat) : Int) (by kernel_rfl) (by omega)) (hS.pick [2]) ?_
                      refine K.DW.q 19 (by kernel_rfl) rfl rfl (by kernel_rfl) (by kernel_rfl) (fun w hS => K.QR.n64 ((((8 * q : Nat) : Int) : Int) + (8 : Int)) ((8 * q + 8 : Nat) : Int) (by kernel_rfl) (by omega)) (hS.pick [2]) ?_
                      refine K.DW.q 20 (by kernel_rfl) rfl rfl (by kernel_rfl) (by kernel_rfl) (fun w hS => K.QR.slLoHi (size := 1) (8 * q) (8 * q + 8) rfl rfl rfl rfl Try.underlying22 (by kernel_rfl) (by omega) (by have := oi.le; omega)) (hS.pick [2]) ?_
                      refine K.DW.q 21 (by kernel_rfl) rfl rfl (by kernel_rfl) (by kernel_rfl) (fun w hS => K.QR.k (v := .slice r_47 ((actsR (DevM.fresh xs n_2 3) n_2 3 (ls.take j)).kept.length) cc_48) (by kernel_rfl)) (hS.pick [2]) ?_
                      refine K.DW.q 22 (by kernel_rfl) rfl rfl (by kernel_rfl) (by kernel_rfl) (fun w hS => K.QR.k (v := .int .i64 ((q : Nat) : Int)) (by kernel_rfl)) (hS.pick [2]) ?_
                      refine K.DW.q 23 (by kernel_rfl) rfl rfl (by kernel_rfl) (by kernel_rfl) (fun w hS => K.QR.n64 ((8 : Int) * (((q : Nat) : Int) : Int)) ((8 * q : Nat) : Int) (by kernel_rfl) (by omega)) (hS.pick [2]) ?_
                      refine K.DW.l 24 rfl (by kernel_rfl) (by kernel_rfl) (K.OW.q rfl (K.QR.k (v := .int .i64 ((q : Nat) : Int)) (by kernel_rfl)) ?_)
                      refine ⟨.inl (hS.pick [2]), ?_⟩
                      refine K.DW.l 25 rfl (by kernel_rfl) (by kernel_rfl) (K.OW.q rfl (K.QR.n64 ((8 : Int) * (((q : Nat) : Int) : Int)) ((8 * q : Nat) : Int) (by kernel_rfl) (by omega)) ?_)
                      refine ⟨.inl (hS.pick [2]), ?_⟩
                      refine K.DW.l 26 rfl (by kernel_rfl) (by kernel_rfl) (K.OW.q rfl (K.QR.n64 ((((8 * q : Nat) : Int) : Int) + (8 : Int)) ((8 * q + 8 : Nat) : Int) (by kernel_rfl) (by omega)) ?_)
                      refine ⟨.inl (hS.pick [2]), ?_⟩
                      refine K.DW.l 27 rfl (by kernel_rfl) (by kernel_rfl) (K.OW.q rfl (K.QR.slLoHi (size := 1) (8 * q) (8 * q + 8) rfl rfl rfl rfl Try.underlying22 (by kernel_rfl) (by omega) (by have := o_50.le; omega)) ?_)
                      refine ⟨.inl (hS.pick [2]), ?_⟩
                      refine K.DW.l 28 rfl (by kernel_rfl) (by kernel_rfl) (K.OW.kcall hS [.slice (K.shift ia ic (8 * q) 1) (8 * q + 8 - (8 * q)) (ic - (8 * q)), .slice (K.shift r_47 cc_48 (8 * q) 1) (8 * q + 8 - (8 * q)) (cc_48 - (8 * q))] (sameN_ok _ _ _ _ _ _ ((((seensTo (DevM.fresh xs n_2 3) n_2 3 ls j).getD k []).drop (8 * q)).take (8 * q + 8 - (8 * q))) ((((actsR (DevM.fresh xs n_2 3) n_2 3 (ls.take j)).kept).drop (8 * q)).take (8 * q + 8 - (8 * q))) _ (by omega) (K.view_len (L := ((seensTo (DevM.fresh xs n_2 3) n_2 3 ls j).getD k [])) (lo := 8 * q) (hi := 8 * q + 8) (by omega)) (K.view_len (L := (actsR (DevM.fresh xs n_2 3) n_2 3 (ls.take j)).kept) (lo := 8 * q) (hi := 8 * q + 8) (by omega)) (K.RowE.view (L := ((seensTo (DevM.fresh xs n_2 3) n_2 3 ls j).getD k [])) (d := 0) (K.Own.rowE 0 (hS.ownr 4 rfl oi) rfl (fun _ => rfl)) rfl (8 * q) (8 * q + 8) (by omega) (by have := oi.le; omega)) (K.RowE.view (L := (actsR (DevM.fresh xs n_2 3) n_2 3 (ls.take j)).kept) (d := 0) (K.Own.rowE 0 (hS.ownr 1 rfl o_50) rfl (fun _ => rfl)) rfl (8 * q) (8 * q + 8) (by omega) (by have := o_50.le; omega))) ?_)
                      rintro _ w ⟨rfl, c_63⟩
                      replace hS := hS.no c_63
                      cases hb_64 : (sameB ((((seensTo (DevM.fresh xs n_2 3) n_2 3 ls j).getD k []).drop (8 * q)).take (8 * q + 8 - (8 * q))) ((((actsR (DevM.fresh xs n_2 3) n_2 3 (ls.take j)).kept).drop (8 * q)).take (8 * q + 8 - (8 * q))))
                      ·
                        refine ⟨.inl (hS.pick [2]), ?_⟩
                        refine K.DW.l 29 rfl (by kernel_rfl) (by kernel_rfl) (K.OW.q rfl (K.QR.k (v := .bool false) (by kernel_rfl)) ?_)
                        refine ⟨.inl (hS.pick [2]), ?_⟩
                        refine K.DW.l 30 rfl (by kernel_rfl) rfl (K.OW.q rfl (K.QR.k (v := .bool false) (by kernel_rfl)) ?_)
                        refine ⟨.inl (hS.pick [2]), ?_⟩
                        refine K.DW.l 31 rfl (by kernel_rfl) rfl (K.OW.q rfl (K.QR.k (v := .bool false) (by kernel_rfl)) ?_)
                        refine ⟨.inl (hS.pick [2]), ?_⟩
                        refine K.DW.done (by kernel_rfl) ?_
                        refine K.blk_normal ?_
                        refine K.thn_normal ?_
                        -- 19 :148
                        refine K.KW.region ?_
                        refine K.RW.qs [.int .i64 ((k : Nat) : Int)] (by kernel_rfl) ?_
                        refine K.RW.q rfl rfl (K.QR.n64 ((((k : Nat) : Int) : Int) + (1 : Int)) ((k + 1 : Nat) : Int) (by kernel_rfl) (by omega)) ?_
                        refine K.RW.qs [.int .i64 ((k + 1 : Nat) : Int)] (by kernel_rfl) ?_
                        refine K.RW.nil ?_
                        refine K.thn_normal ?_
                        replace hS : K.Sat w0 [l1, l_49, f1, z1, fr] w := hS.of (by simp [hgz])
                        refine ⟨_, ?_, k + 1, false, rfl, ⟨by rfl, by rfl, by rfl, by rfl, by rfl, by rfl, by rfl, by rfl, trivial⟩, (by omega), (found_no (p := fun i => lineT ((seensTo (DevM.fresh xs n_2 3) n_2 3 ls j).getD i []) q = _) hff (fun h => by rw [sameB_line.2 h] at hb_64; cases hb_64)), hS.pick [0, 1, 2, 3, 4]⟩
                        omega
                      ·
                        refine ⟨.inl (hS.pick [2]), ?_⟩
                        refine K.DW.l 29 rfl (by kernel_rfl) (by kernel_rfl) (K.OW.q rfl (K.QR.k (v := .bool true) (by kernel_rfl)) ?_)
                        refine ⟨.inl (hS.pick [2]), ?_⟩
                        refine K.DW.l 30 rfl (by kernel_rfl) rfl (K.OW.q rfl (K.QR.k (v := .bool true) (by kernel_rfl)) ?_)
                        refine ⟨.inl (hS.pick [2]), ?_⟩
                        refine K.DW.l 31 rfl (by kernel_rfl) rfl (K.OW.q rfl (K.QR.k (v := .bool true) (by kernel_rfl)) ?_)
                        refine ⟨.inl (hS.pick [2]), ?_⟩
                        refine K.DW.done (by kernel_rfl) ?_
                        refine K.blk_normal ?_
                        refine K.thn_normal ?_
                        -- 19 :148
                        refine K.KW.region ?_
                        refine K.RW.qs [.int .i64 ((k : Nat) : Int)] (by kernel_rfl) ?_
                        refine K.RW.q rfl rfl (K.QR.n64 ((((k : Nat) : Int) : Int) + (1 : Int)) ((k + 1 : Nat) : Int) (by kernel_rfl) (by omega)) ?_
                        refine K.RW.qs [.int .i64 ((k + 1 : Nat) : Int)] (by kernel_rfl) ?_
                        refine K.RW.nil ?_
                        refine K.thn_normal ?_
                        replace hS : K.Sat w0 [l1, l_49, f1, z1, fr] w := hS.of (by simp [hgz])
                        refine ⟨_, ?_, k + 1, true, rfl, ⟨by rfl, by rfl, by rfl, by rfl, by rfl, by rfl, by rfl, by rfl, trivial⟩, (by omega), (found_new (p := fun i => lineT ((seensTo (DevM.fresh xs n_2 3) n_2 3 ls j).getD i []) q = _) (sameB_line.1 hb_64)), hS.pick [0, 1, 2, 3, 4]⟩
                        omega
                    ·  -- no
                      refine K.RW.q rfl rfl (K.QR.nice (v := .bool (decide ((((k : Nat) : Int) : Int) < (((j + 1 : Nat) : Int) : Int)))) (by kernel_rfl) (congrArg Value.bool (decide_eq_false h_60))) ?_
                      refine K.RW.nil ?_
                      refine K.thn_normal ?_
                      refine K.KW.ifF rfl ?_
                      refine K.KW.exit ?_
                      refine K.thn_exit ?_
                      refine K.thn_exit ?_
                      refine K.blk_hit ?_
                      refine K.thn_normal ?_
                      refine K.KW.seq ?_
                      -- 21 :151
                      exfalso
                      obtain ⟨i0, hi0, hl0⟩ := once hD0 rfl (show q < n_2 by omega) j (ls := ls) (by omega)
                      exact absurd (hff.2 ⟨i0, by omega, by rw [seens_get (by omega)]; exact hl0⟩) (by decide)
                  ·
                    refine K.KW.seq ?_
                    refine K.KW.seq ?_
                    -- 18 :148
                    refine K.KW.region ?_
                    refine K.RW.qs [.int .i64 ((k : Nat) : Int), .slice q1 (j + 1) c1] (by kernel_rfl) ?_
                    refine K.RW.q rfl rfl (K.QR.len (P := Try.prog) rfl rfl Try.underlying79) ?_
                    by_cases h_65 : (((k : Nat) : Int) : Int) < (((j + 1 : Nat) : Int) : Int)
                    ·  -- yes
                      refine K.RW.q rfl rfl (K.QR.nice (v := .bool (decide ((((k : Nat) : Int) : Int) < (((j + 1 : Nat) : Int) : Int)))) (by kernel_rfl) (congrArg Value.bool (decide_eq_true h_65))) ?_
                      refine K.RW.nil ?_
                      refine K.thn_normal ?_
                      refine K.KW.ifT rfl ?_
                      refine K.KW.skip ?_
                      refine K.thn_normal ?_
                      refine K.KW.seq ?_
                      refine K.KW.block ?_
                      -- 20 :149
                      refine K.KW.gdrawn [] hS (by kernel_rfl) ?_
                      clear hS; intro w hS
                      refine K.DW.l 0 rfl (by kernel_rfl) rfl (K.OW.q rfl (K.QR.k (v := .bool true) (by kernel_rfl)) ?_)
                      refine ⟨.inl (hS.pick []), ?_⟩
                      refine K.DW.l 1 rfl (by kernel_rfl) rfl (K.OW.q rfl (K.QR.k (v := .bool true) (by kernel_rfl)) ?_)
                      refine ⟨.inl (hS.pick []), ?_⟩
                      refine K.DW.skip 2 (by kernel_rfl) rfl rfl (by kernel_rfl) (by kernel_rfl) (hS.pick []) ?_
                      refine K.DW.skip 3 (by kernel_rfl) rfl rfl (by kernel_rfl) (by kernel_rfl) (hS.pick []) ?_
                      refine K.DW.skip 4 (by kernel_rfl) rfl rfl (by kernel_rfl) (by kernel_rfl) (hS.pick []) ?_
                      refine K.DW.skip 5 (by kernel_rfl) rfl rfl (by kernel_rfl) (by kernel_rfl) (hS.pick []) ?_
                      refine K.DW.skip 6 (by kernel_rfl) rfl rfl (by kernel_rfl) (by kernel_rfl) (hS.pick []) ?_
                      refine K.DW.skip 7 (by kernel_rfl) rfl rfl (by kernel_rfl) (by kernel_rfl) (hS.pick []) ?_
                      refine K.DW.skip 8 (by kernel_rfl) rfl rfl (by kernel_rfl) (by kernel_rfl) (hS.pick []) ?_
                      refine K.DW.skip 9 (by kernel_rfl) rfl rfl (by kernel_rfl) (by kernel_rfl) (hS.pick []) ?_
                      refine K.DW.skip 10 (by kernel_rfl) rfl rfl (by kernel_rfl) (by kernel_rfl) (hS.pick []) ?_
                      refine K.DW.skip 11 (by kernel_rfl) rfl rfl (by kernel_rfl) (by kernel_rfl) (hS.pick []) ?_
                      refine K.DW.skip 12 (by kernel_rfl) rfl rfl (by kernel_rfl) (by kernel_rfl) (hS.pick []) ?_
                      refine K.DW.skip 13 (by kernel_rfl) rfl rfl (by kernel_rfl) (by kernel_rfl) (hS.pick []) ?_
                      refine K.DW.skip 14 (by kernel_rfl) rfl rfl (by kernel_rfl) (by kernel_rfl) (hS.pick []) ?_
                      refine K.DW.skip 15 (by kernel_rfl) rfl rfl (by kernel_rfl) (by kernel_rfl) (hS.pick []) ?_
                      refine K.DW.skip 16 (by kernel_rfl) rfl rfl (by kernel_rfl) (by kernel_rfl) (hS.pick []) ?_
                      refine K.DW.skip 17 (by kernel_rfl) rfl rfl (by kernel_rfl) (by kernel_rfl) (hS.pick []) ?_
                      refine K.DW.skip 18 (by kernel_rfl) rfl rfl (by kernel_rfl) (by kernel_rfl) (hS.pick []) ?_
                      refine K.DW.skip 19 (by kernel_rfl) rfl rfl (by kernel_rfl) (by kernel_rfl) (hS.pick []) ?_
                      refine K.DW.skip 20 (by kernel_rfl) rfl rfl (by kernel_rfl) (by kernel_rfl) (hS.pick []) ?_
                      refine K.DW.skip 21 (by kernel_rfl) rfl rfl (by kernel_rfl) (by kernel_rfl) (hS.pick []) ?_
                      refine K.DW.skip 22 (by kernel_rfl) rfl rfl (by kernel_rfl) (by kernel_rfl) (hS.pick []) ?_
                      refine K.DW.skip 23 (by kernel_rfl) rfl rfl (by kernel_rfl) (by kernel_rfl) (hS.pick []) ?_
                      refine K.DW.skip 24 (by kernel_rfl) rfl rfl (by kernel_rfl) (by kernel_rfl) (hS.pick []) ?_
                      refine K.DW.skip 25 (by kernel_rfl) rfl rfl (by kernel_rfl) (by kernel_rfl) (hS.pick []) ?_
                      refine K.DW.skip 26 (by kernel_rfl) rfl rfl (by kernel_rfl) (by kernel_rfl) (hS.pick []) ?_
                      refine K.DW.skip 27 (by kernel_rfl) rfl rfl (by kernel_rfl) (by kernel_rfl) (hS.pick []) ?_
                      refine K.DW.skip 28 (by kernel_rfl) rfl rfl (by kernel_rfl) (by kernel_rfl) (hS.pick []) ?_
                      refine K.DW.skip 29 (by kernel_rfl) rfl rfl (by kernel_rfl) (by kernel_rfl) (hS.pick []) ?_
                      refine K.DW.l 30 rfl (by kernel_rfl) rfl (K.OW.q rfl (K.QR.k (v := .bool true) (by kernel_rfl)) ?_)
                      refine ⟨.inl (hS.pick []), ?_⟩
                      refine K.DW.l 31 rfl (by kernel_rfl) rfl (K.OW.q rfl (K.QR.k (v := .bool true) (by kernel_rfl)) ?_)
                      refine ⟨.inl (hS.pick []), ?_⟩
                      refine K.DW.done (by kernel_rfl) ?_
                      refine K.blk_normal ?_
                      refine K.thn_normal ?_
                      -- 19 :148
                      refine K.KW.region ?_
                      refine K.RW.qs [.int .i64 ((k : Nat) : Int)] (by kernel_rfl) ?_
                      refine K.RW.q rfl rfl (K.QR.n64 ((((k : Nat) : Int) : Int) + (1 : Int)) ((k + 1 : Nat) : Int) (by kernel_rfl) (by omega)) ?_
                      refine K.RW.qs [.int .i64 ((k + 1 : Nat) : Int)] (by kernel_rfl) ?_
                      refine K.RW.nil ?_
                      refine K.thn_normal ?_
                      refine ⟨_, ?_, k + 1, true, rfl, ⟨by rfl, by rfl, by rfl, by rfl, by rfl, by rfl, by rfl, by rfl, trivial⟩, (by omega), (found_t hff), hS.pick [0, 1, 2, 3, 4]⟩
                      omega
                    ·  -- no
                      refine K.RW.q rfl rfl (K.QR.nice (v := .bool (decide ((((k : Nat) : Int) : Int) < (((j + 1 : Nat) : Int) : Int)))) (by kernel_rfl) (congrArg Value.bool (decide_eq_false h_65))) ?_
                      refine K.RW.nil ?_
                      refine K.thn_normal ?_
                      refine K.KW.ifF rfl ?_
                      refine K.KW.exit ?_
                      refine K.thn_exit ?_
                      refine K.thn_exit ?_
                      refine K.blk_hit ?_
                      refine K.thn_normal ?_
                      refine K.KW.seq ?_
                      -- 21 :151
                      refine K.KW.region ?_
                      refine K.RW.qs [.bool true, .bool false] (by kernel_rfl) ?_
                      refine K.RW.nil ?_
                      refine K.thn_normal ?_
                      refine K.KW.ifF rfl ?_
                      refine K.KW.skip ?_
                      refine K.blk_normal ?_
                      refine K.thn_normal ?_
                      -- 15 :146
                      refine K.KW.region ?_
                      refine K.RW.qs [.int .i64 ((q : Nat) : Int)] (by kernel_rfl) ?_
                      refine K.RW.q rfl rfl (K.QR.n64 ((((q : Nat) : Int) : Int) + (1 : Int)) ((q + 1 : Nat) : Int) (by kernel_rfl) (by omega)) ?_
                      refine K.RW.qs [.int .i64 ((q + 1 : Nat) : Int)] (by kernel_rfl) ?_
                      refine K.RW.nil ?_
                      refine K.thn_normal ?_
                      refine ⟨_, ?_, q + 1, rfl, ⟨by rfl, by rfl, by rfl, by rfl, by rfl, by rfl, trivial⟩, (by omega), hS.pick [0, 1, 2, 3, 4]⟩
                      omega
              ·  -- no
                refine K.RW.q rfl rfl (K.QR.nice (v := .bool (decide ((((q : Nat) : Int) : Int) < (((xs.length / 8 : Nat) : Int) : Int)))) (by kernel_rfl) (congrArg Value.bool (decide_eq_false h_55))) ?_
                refine K.RW.nil ?_
                refine K.thn_normal ?_
                refine K.KW.ifF rfl ?_
                refine K.KW.exit ?_
                refine K.thn_exit ?_
                refine K.thn_exit ?_
                refine K.blk_hit ?_
                refine K.thn_normal ?_
                refine K.KW.seq ?_
                -- 23 :155
                refine K.KW.region ?_
                refine K.RW.l rfl (K.OW.gcall hS [] [0, 1, 2, 3, 4] [] (awake04_ok _) ?_)
                clear hS; rintro _ _ w ⟨rfl, rfl⟩ hS
                replace hS : K.Sat w0 [l1, l_49, f1, z1, fr] w := hS
                refine K.RW.qs [.bool true] (by kernel_rfl) ?_
                refine K.RW.nil ?_
                refine K.thn_normal ?_
                refine K.KW.ret ?_
                refine ⟨.inr rfl, rfl, (.bool true), K.res1 rfl rfl, [], ?_, hS.pick [4]⟩
                exact rfl
  ·
    replace hS : K.Sat w0 [fr] w := hS
    refine K.RW.qs [.tuple #[.pointer none, .int .i64 (mayOpenM xs.length 3)], .pointer none, .int .i64 (mayOpenM xs.length 3), .pointer none, .int .i64 (mayOpenM xs.length 3)] (by kernel_rfl) ?_
    refine K.RW.nil ?_
    refine K.thn_normal ?_
    refine K.KW.seq ?_
    refine K.KW.seq ?_
    -- 2 :134
    refine K.KW.region ?_
    refine K.RW.qs [.int .i64 (mayOpenM xs.length 3)] (by kernel_rfl) ?_
    refine K.RW.q rfl rfl (K.QR.nice (v := .bool (((mayOpenM xs.length 3) : Int) != (0 : Int))) (by kernel_rfl) (congrArg Value.bool (bne_iff_ne.2 (by omega)))) ?_
    refine K.RW.qs [.bool true] (by kernel_rfl) ?_
    refine K.RW.skip rfl (by kernel_rfl) ?_
    refine K.RW.skip rfl (by kernel_rfl) ?_
    refine K.RW.skip rfl (by kernel_rfl) ?_
    refine K.RW.qs [.bool true, .bool true] (by kernel_rfl) ?_
    refine K.RW.skip rfl (by kernel_rfl) ?_
    refine K.RW.skip rfl (by kernel_rfl) ?_
    refine K.RW.skip rfl (by kernel_rfl) ?_
    refine K.RW.qs [.bool true] (by kernel_rfl) ?_
    refine K.RW.nil ?_
    refine K.thn_normal ?_
    refine K.KW.ifT rfl ?_
    refine K.KW.seq ?_
    -- 3 :135
    refine K.KW.region ?_
    refine K.RW.l rfl (K.OW.gcall hS [] [0] [] (awake04_ok _) ?_)
    clear hS; rintro _ _ w ⟨rfl, rfl⟩ hS
    replace hS : K.Sat w0 [fr] w := hS
    refine K.RW.qs [.bool true] (by kernel_rfl) ?_
    refine K.RW.nil ?_
    refine K.thn_normal ?_
    refine K.KW.ret ?_
    refine K.thn_ret ?_
    refine ⟨.inr rfl, rfl, (.bool true), K.res1 rfl rfl, [], ?_, hS.pick [0]⟩
    exact rfl

end Go.Proofs.Ytgeihjiichdpbaa
