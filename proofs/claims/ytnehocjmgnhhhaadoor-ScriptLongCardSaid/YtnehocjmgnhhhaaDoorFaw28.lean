import Derived.Test.YtnehocjmgnhhhaaDoorFpw
import Derived.Test.YtnehocjmgnhhhaaDoorFsc5
import Derived.Test.YtnehocjmgnhhhaaDoorFsw4
/- Scripts: the page's example. -/
namespace Go.Proofs.YtnehocjmgnhhhaaDoor
open Go.RowKit
set_option linter.unusedVariables false
attribute [local irreducible] K.KW K.RW K.DW K.OW K.QR K.KC
theorem exRd_ok (w0 : World) : K.GC Tryd.prog w0 27 #[.string (K.sb exT)] [] (fun v post => ∃ r g k, post = [g] ∧ v = .tuple #[.slice r exA.length k, .int .i64 0, .int .i64 0] ∧ K.OwnG g 57 6 r exA.length k (exA.flatMap cAct)) := by
  refine (sread_ok w0 exT (by decide)).mono ?_
  rintro v post ⟨r, g, k, rfl, rfl, ho⟩
  rw [exA_read] at ho ⊢
  exact ⟨r, g, k, rfl, rfl, ho⟩
set_option maxHeartbeats 1000000 in
set_option maxRecDepth 100000 in
theorem awake28_ok (w0 : World)  :
    K.GC Tryd.prog w0 22 #[] [] (fun v post => post = [] ∧ v = .bool true) := by
  have hex3 : exA.length = 3 := rfl
  refine K.GC.mk (n := 50) Tryd.func22 rfl rfl [] rfl rfl ?_
  intro fr w hS
  replace hS : K.Sat w0 [fr] w := hS
  refine K.KW.seq ?_
  -- 0 :11
  refine K.KW.region ?_
  refine K.RW.qs [.bool false] (by kernel_rfl) ?_
  refine K.RW.nil ?_
  refine K.thn_normal ?_
  refine K.KW.seq ?_
  -- 1 :12
  refine K.KW.region ?_
  refine K.RW.l rfl (K.OW.gcall hS [] [0] [.string (K.sb [99, 97, 108, 108, 32, 48, 32, 112, 117, 116, 32, 51, 32, 55, 10, 10, 35, 32, 116, 119, 111, 10, 115, 116, 101, 112, 32, 49, 32, 50])] (exRd_ok _) ?_)
  clear hS; rintro _ _ w ⟨r_1, g_2, k_3, rfl, rfl, o_4⟩ hS
  replace hS : K.Sat w0 [g_2, fr] w := hS
  refine K.RW.qs [.tuple #[.slice r_1 exA.length k_3, .int .i64 0, .int .i64 0], .slice r_1 exA.length k_3, .int .i64 0, .int .i64 0, .slice r_1 exA.length k_3, .int .i64 0, .int .i64 0] (by kernel_rfl) ?_
  refine K.RW.nil ?_
  refine K.thn_normal ?_
  refine K.KW.seq ?_
  -- 2 :13
  refine K.KW.region ?_
  refine K.RW.qs [.slice r_1 exA.length k_3] (by kernel_rfl) ?_
  refine K.RW.l rfl (K.OW.gcall hS [0] [1] [.slice r_1 exA.length k_3] (swr_ok _ _ _ exA (by decide) o_4.le.1 exA_af _ (fun w h => K.RowE.len (K.Own.rowE act0 (h.ownr 0 rfl o_4) rfl (fun _ => rfl)) rfl)) ?_)
  clear hS; rintro _ _ w ⟨rfl, (⟨h_5, rfl⟩ | ⟨h_6, h2_7, rfl⟩ | ⟨h_8, h2_9, h3_10, rfl⟩)⟩ hS
  ·
    exact absurd exA_rt h_5
  ·
    exact absurd h2_7 (by rw [exA_wr]; decide)
  ·
    replace hS : K.Sat w0 [g_2, fr] w := hS
    refine K.RW.qs [.tuple #[.string (K.sb (wrM exA)), .int .i64 0], .string (K.sb (wrM exA)), .int .i64 0, .string (K.sb (wrM exA)), .int .i64 0] (by kernel_rfl) ?_
    refine K.RW.nil ?_
    refine K.thn_normal ?_
    refine K.KW.seq ?_
    -- 3 :14
    obtain ⟨b_11, rfl⟩ := o_4.some_ (by have := o_4.le; omega)
    refine K.KW.region ?_
    refine K.RW.qs [.int .i64 0, .bool true, .bool true, .int .i64 0, .bool true, .bool true, .bool true, .slice (some ⟨b_11, 0, none⟩) exA.length k_3] (by kernel_rfl) ?_
    refine K.RW.q rfl (by kernel_rfl) (K.QR.len (P := Tryd.prog) rfl rfl Tryd.underlying54) ?_
    refine K.RW.q rfl (by kernel_rfl) (K.QR.nice (v := .bool ((((exA.length : Nat) : Int) : Int) == (3 : Int))) (by kernel_rfl) (congrArg Value.bool (beq_iff_eq.2 (by decide)))) ?_
    refine K.RW.qs [.bool true, .bool true, .slice (some ⟨b_11, 0, none⟩) exA.length k_3] (by kernel_rfl) ?_
    refine K.RW.q rfl (by kernel_rfl) (K.QR.ix (0 + 0 * 6) 6 rfl rfl rfl Tryd.underlying54 (by kernel_rfl) (by omega) (by first | (simp; done) | omega | (simp; omega))) ?_
    refine K.RW.q rfl (by kernel_rfl) (K.QR.ldN [.int .i64 ((exA.getD 0 act0).k), .int .i64 ((exA.getD 0 act0).th), .int .i64 ((exA.getD 0 act0).ln), .int .i64 ((exA.getD 0 act0).ok), .int .u32 ((exA.getD 0 act0).key), .int .u32 ((exA.getD 0 act0).val)] rfl rfl (by kernel_rfl) (by kernel_rfl) (K.cells (K.cl ((K.Own.rowE act0 (hS.ownr 0 rfl o_4) rfl (fun _ => rfl)).ld 0 (by omega) 0 _ rfl) (K.cl ((K.Own.rowE act0 (hS.ownr 0 rfl o_4) rfl (fun _ => rfl)).ld 0 (by omega) 1 _ rfl) (K.cl ((K.Own.rowE act0 (hS.ownr 0 rfl o_4) rfl (fun _ => rfl)).ld 0 (by omega) 2 _ rfl) (K.cl ((K.Own.rowE act0 (hS.ownr 0 rfl o_4) rfl (fun _ => rfl)).ld 0 (by omega) 3 _ rfl) (K.cl ((K.Own.rowE act0 (hS.ownr 0 rfl o_4) rfl (fun _ => rfl)).ld 0 (by omega) 4 _ rfl) (K.cl ((K.Own.rowE act0 (hS.ownr 0 rfl o_4) rfl (fun _ => rfl)).ld 0 (by omega) 5 _ rfl) K.cl0)))))))) ?_
    refine K.RW.q rfl (by kernel_rfl) (K.QR.bd [(0, .int .i64 6), (1, .int .u32 3), (2, .int .u32 7)] [.int .i64 6, .int .u32 3, .int .u32 7] rfl rfl (by kernel_rfl)) ?_
    refine K.RW.q rfl (by kernel_rfl) (K.QR.bd [(0, .int .i64 1), (3, .agg #[.int .i64 6, .int .u32 3, .int .u32 7])] [.int .i64 1, .int .i64 0, .int .i64 0, .int .i64 6, .int .u32 3, .int .u32 7] rfl rfl (by kernel_rfl)) ?_
    refine K.RW.q rfl (by kernel_rfl) (K.QR.eqS (by kernel_rfl) rfl rfl rfl (eqAct_t (by decide))) ?_
    refine K.RW.qs [.bool true, .bool true, .slice (some ⟨b_11, 0, none⟩) exA.length k_3] (by kernel_rfl) ?_
    refine K.RW.q rfl (by kernel_rfl) (K.QR.ix (0 + 2 * 6) 6 rfl rfl rfl Tryd.underlying54 (by kernel_rfl) (by omega) (by first | (simp; done) | omega | (simp; omega))) ?_
    refine K.RW.q rfl (by kernel_rfl) (K.QR.ldN [.int .i64 ((exA.getD 2 act0).k), .int .i64 ((exA.getD 2 act0).th), .int .i64 ((exA.getD 2 act0).ln), .int .i64 ((exA.getD 2 act0).ok), .int .u32 ((exA.getD 2 act0).key), .int .u32 ((exA.getD 2 act0).val)] rfl rfl (by kernel_rfl) (by kernel_rfl) (K.cells (K.cl ((K.Own.rowE act0 (hS.ownr 0 rfl o_4) rfl (fun _ => rfl)).ld 2 (by omega) 0 _ rfl) (K.cl ((K.Own.rowE act0 (hS.ownr 0 rfl o_4) rfl (fun _ => rfl)).ld 2 (by omega) 1 _ rfl) (K.cl ((K.Own.rowE act0 (hS.ownr 0 rfl o_4) rfl (fun _ => rfl)).ld 2 (by omega) 2 _ rfl) (K.cl ((K.Own.rowE act0 (hS.ownr 0 rfl o_4) rfl (fun _ => rfl)).ld 2 (by omega) 3 _ rfl) (K.cl ((K.Own.rowE act0 (hS.ownr 0 rfl o_4) rfl (fun _ => rfl)).ld 2 (by omega) 4 _ rfl) (K.cl ((K.Own.rowE act0 (hS.ownr 0 rfl o_4) rfl (fun _ => rfl)).ld 2 (by omega) 5 _ rfl) K.cl0)))))))) ?_
    refine K.RW.q rfl (by kernel_rfl) (K.QR.bd [(0, .int .i64 2), (1, .int .i64 1)] [.int .i64 2, .int .i64 1, .int .i64 0, .int .i64 0, .int .u32 0, .int .u32 0] rfl rfl (by kernel_rfl)) ?_
    refine K.RW.q rfl (by kernel_rfl) (K.QR.eqS (by kernel_rfl) rfl rfl rfl (eqAct_t (by decide))) ?_
    refine K.RW.qs [.bool true, .bool true, .int .i64 0, .bool true, .bool true, .bool true, .string (K.sb (wrM exA))] (by kernel_rfl) ?_
    refine K.RW.q rfl (by kernel_rfl) (K.QR.sEq (xs := (wrM exA)) (ys := [99, 97, 108, 108, 32, 48, 32, 112, 117, 116, 32, 51, 32, 55, 10, 115, 116, 101, 112, 32, 49, 32, 50, 10]) true rfl rfl rfl (K.deq_t (exA_wr))) ?_
    refine K.RW.qs [.bool true, .bool true] (by kernel_rfl) ?_
    refine K.RW.nil ?_
    refine K.thn_normal ?_
    refine K.KW.ret ?_
    refine ⟨.inr rfl, rfl, (.bool true), K.res1 rfl rfl, [], ?_, hS.pick [1]⟩
    exact ⟨rfl, rfl⟩
end Go.Proofs.YtnehocjmgnhhhaaDoor
