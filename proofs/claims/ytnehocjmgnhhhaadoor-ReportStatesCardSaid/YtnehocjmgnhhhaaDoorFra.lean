import Derived.Test.YtnehocjmgnhhhaaDoorFrs
import Derived.Test.YtnehocjmgnhhhaaDoorFrp5
/- Reports: the page's example. -/
namespace Go.Proofs.YtnehocjmgnhhhaaDoor
open Go.RowKit
set_option linter.unusedVariables false
attribute [local irreducible] K.KW K.RW K.DW K.OW K.QR K.KC
theorem exLine_ok (w0 : World) : K.GC Tryd.prog w0 12 #[callA (⟨0, 1, 0, 5, 1, 0, 3, 30, 20, false, false⟩ : CallM)] [] (fun v post => post = [] ∧ v = .tuple #[.string (K.sb [48, 32, 101, 110, 113, 32, 48, 32, 53, 32, 111, 107, 32, 48, 32, 51, 32, 50, 48, 32, 51, 48, 32, 45]), .int .i64 0]) := by
  refine (line_ok w0 (⟨0, 1, 0, 5, 1, 0, 3, 30, 20, false, false⟩ : CallM) (by unfold CallM.fits isI64; decide)).mono ?_
  rintro v post ⟨rfl, ⟨h, rfl⟩ | ⟨h, rfl⟩⟩
  · exact ⟨rfl, by rw [show lineR (⟨0, 1, 0, 5, 1, 0, 3, 30, 20, false, false⟩ : CallM) = [48, 32, 101, 110, 113, 32, 48, 32, 53, 32, 111, 107, 32, 48, 32, 51, 32, 50, 48, 32, 51, 48, 32, 45] by decide]⟩
  · exact absurd (by decide) h
theorem exRead_ok (w0 : World) : K.GC Tryd.prog w0 10 #[.string (K.sb [48, 32, 101, 110, 113, 32, 48, 32, 53, 32, 111, 107, 32, 48, 32, 51, 32, 50, 48, 32, 51, 48, 32, 45])] [] (fun v post => post = [] ∧ v = .tuple #[callA (⟨0, 1, 0, 5, 1, 0, 3, 30, 20, false, false⟩ : CallM), .int .i64 0]) := by
  refine (read_ok w0 [48, 32, 101, 110, 113, 32, 48, 32, 53, 32, 111, 107, 32, 48, 32, 51, 32, 50, 48, 32, 51, 48, 32, 45] (by decide)).mono ?_
  rintro v post ⟨rfl, ⟨h, rfl⟩ | ⟨h, rfl⟩⟩
  · exact ⟨rfl, by rw [show readR [48, 32, 101, 110, 113, 32, 48, 32, 53, 32, 111, 107, 32, 48, 32, 51, 32, 50, 48, 32, 51, 48, 32, 45] = (⟨0, 1, 0, 5, 1, 0, 3, 30, 20, false, false⟩ : CallM) by decide]⟩
  · exact absurd (by decide) h
set_option maxHeartbeats 1000000 in
set_option maxRecDepth 100000 in
theorem awake29_ok (w0 : World)  :
    K.GC Tryd.prog w0 9 #[] [] (fun v post => post = [] ∧ v = .bool true) := by
  refine K.GC.mk (n := 38) Tryd.func9 rfl rfl [] rfl rfl ?_
  intro fr w hS
  replace hS : K.Sat w0 [fr] w := hS
  refine K.KW.seq ?_
  -- 0 :13
  refine K.KW.region ?_
  refine K.RW.qs [.bool false] (by kernel_rfl) ?_
  refine K.RW.nil ?_
  refine K.thn_normal ?_
  refine K.KW.seq ?_
  -- 1 :14
  refine K.KW.region ?_
  refine K.RW.q rfl rfl (K.QR.bd [(0, .int .i64 1), (2, .int .u32 5)] [.int .i64 1, .int .u32 0, .int .u32 5] rfl rfl (by kernel_rfl)) ?_
  refine K.RW.q rfl rfl (K.QR.bd [(0, .int .i64 1)] [.int .i64 1, .int .u32 0] rfl rfl (by kernel_rfl)) ?_
  refine K.RW.q rfl rfl (K.QR.bd [(1, .agg #[.int .i64 1, .int .u32 0, .int .u32 5]), (2, .agg #[.int .i64 1, .int .u32 0]), (3, .int .i64 3), (5, .int .i64 20), (4, .int .i64 30)] [.int .i64 0, .int .i64 1, .int .u32 0, .int .u32 5, .int .i64 1, .int .u32 0, .int .i64 3, .int .i64 30, .int .i64 20, .bool false, .bool false] rfl rfl (by kernel_rfl)) ?_
  refine K.RW.l rfl (K.OW.gcall hS [] [0] [.agg #[.int .i64 0, .int .i64 1, .int .u32 0, .int .u32 5, .int .i64 1, .int .u32 0, .int .i64 3, .int .i64 30, .int .i64 20, .bool false, .bool false]] (exLine_ok _) ?_)
  clear hS; rintro _ _ w ⟨rfl, rfl⟩ hS
  replace hS : K.Sat w0 [fr] w := hS
  refine K.RW.qs [.tuple #[.string (K.sb [48, 32, 101, 110, 113, 32, 48, 32, 53, 32, 111, 107, 32, 48, 32, 51, 32, 50, 48, 32, 51, 48, 32, 45]), .int .i64 0], .string (K.sb [48, 32, 101, 110, 113, 32, 48, 32, 53, 32, 111, 107, 32, 48, 32, 51, 32, 50, 48, 32, 51, 48, 32, 45]), .int .i64 0, .string (K.sb [48, 32, 101, 110, 113, 32, 48, 32, 53, 32, 111, 107, 32, 48, 32, 51, 32, 50, 48, 32, 51, 48, 32, 45]), .int .i64 0] (by kernel_rfl) ?_
  refine K.RW.nil ?_
  refine K.thn_normal ?_
  refine K.KW.seq ?_
  -- 2 :15
  refine K.KW.region ?_
  refine K.RW.qs [.string (K.sb [48, 32, 101, 110, 113, 32, 48, 32, 53, 32, 111, 107, 32, 48, 32, 51, 32, 50, 48, 32, 51, 48, 32, 45])] (by kernel_rfl) ?_
  refine K.RW.l rfl (K.OW.gcall hS [] [0] [.string (K.sb [48, 32, 101, 110, 113, 32, 48, 32, 53, 32, 111, 107, 32, 48, 32, 51, 32, 50, 48, 32, 51, 48, 32, 45])] (exRead_ok _) ?_)
  clear hS; rintro _ _ w ⟨rfl, rfl⟩ hS
  replace hS : K.Sat w0 [fr] w := hS
  refine K.RW.qs [.tuple #[.agg #[.int .i64 0, .int .i64 1, .int .u32 0, .int .u32 5, .int .i64 1, .int .u32 0, .int .i64 3, .int .i64 30, .int .i64 20, .bool false, .bool false], .int .i64 0], .agg #[.int .i64 0, .int .i64 1, .int .u32 0, .int .u32 5, .int .i64 1, .int .u32 0, .int .i64 3, .int .i64 30, .int .i64 20, .bool false, .bool false], .int .i64 0] (by kernel_rfl) ?_
  refine K.RW.l rfl (K.OW.gnew 29 [.int .i64 0, .int .i64 0, .int .u32 0, .int .u32 0, .int .i64 0, .int .u32 0, .int .i64 0, .int .i64 0, .int .i64 0, .bool false, .bool false] hS ?_)
  clear hS; intro w r_1 g_2 hg_3 hS
  refine K.RW.l rfl (K.OW.gst 0 [.int .i64 0, .int .i64 1, .int .u32 0, .int .u32 5, .int .i64 1, .int .u32 0, .int .i64 3, .int .i64 30, .int .i64 20, .bool false, .bool false] [.int .i64 0, .int .i64 1, .int .u32 0, .int .u32 5, .int .i64 1, .int .u32 0, .int .i64 3, .int .i64 30, .int .i64 20, .bool false, .bool false] hS hg_3 ?_)
  clear hS; intro w g_4 hg_5 hS
  replace hS : K.Sat w0 [g_4, fr] w := hS
  refine K.RW.qs [.int .i64 0] (by kernel_rfl) ?_
  refine K.RW.nil ?_
  refine K.thn_normal ?_
  refine K.KW.seq ?_
  -- 3 :16
  refine K.KW.region ?_
  refine K.RW.qs [.int .i64 0, .bool true, .bool true, .string (K.sb [48, 32, 101, 110, 113, 32, 48, 32, 53, 32, 111, 107, 32, 48, 32, 51, 32, 50, 48, 32, 51, 48, 32, 45])] (by kernel_rfl) ?_
  refine K.RW.q rfl (by kernel_rfl) (K.QR.sEq (xs := [48, 32, 101, 110, 113, 32, 48, 32, 53, 32, 111, 107, 32, 48, 32, 51, 32, 50, 48, 32, 51, 48, 32, 45]) (ys := [48, 32, 101, 110, 113, 32, 48, 32, 53, 32, 111, 107, 32, 48, 32, 51, 32, 50, 48, 32, 51, 48, 32, 45]) true rfl rfl rfl (K.deq_t (by decide))) ?_
  refine K.RW.qs [.bool true, .bool true, .int .i64 0, .bool true, .bool true, .bool true, .pointer (some ⟨r_1, 8, none⟩)] (by kernel_rfl) ?_
  refine K.RW.q rfl (by kernel_rfl) (K.QR.ld1 (v := .int .i64 20) rfl rfl (by kernel_rfl) ((hS.blk 0 rfl hg_5).cell rfl)) ?_
  refine K.RW.qs [.bool true, .bool true, .bool true] (by kernel_rfl) ?_
  refine K.RW.l (by kernel_rfl) (K.OW.gbs [(0, .int .u32 7)] [.int .u32 7] hS (fun w => K.bs_run (P := Tryd.prog) w 43 23 1 _ _ Tryd.underlying43 (by kernel_rfl)) ?_)
  clear hS; intro w r_6 g_7 hg_8 hS
  refine K.RW.q rfl (by kernel_rfl) (K.QR.bd [(0, .slice (some ⟨r_6, 0, none⟩) 1 1)] [.slice (some ⟨r_6, 0, none⟩) 1 1, .slice none 0 0, .slice none 0 0] rfl rfl (by kernel_rfl)) ?_
  refine K.RW.l (by kernel_rfl) (K.OW.gcall hS [0, 53, 54] [1, 2] [.agg #[.slice (some ⟨r_6, 0, none⟩) 1 1, .slice none 0 0, .slice none 0 0]] (state_ok _ _ _ _ _ _ _ (⟨[(7 : Int)], [], []⟩ : StM) ⟨fun i => by rcases i with _ | i <;> simp [isU32], fun i => by simp [isU32], fun i => by simp [isP, isU32, p0]⟩ ⟨by decide, by decide, by decide⟩ _ (fun w h => K.Blk.rowE (c := cU32) 0 (L := [(7 : Int)]) (h.blk 0 rfl hg_8) (fun _ => rfl) rfl) _ (fun _ _ => K.RowE.zero _ _ _ _) _ (fun _ _ => K.RowE.zero _ _ _ _)) ?_)
  clear hS; rintro _ _ w ⟨rfl, rfl⟩ hS
  replace hS : K.Sat w0 [g_7, g_4, fr] w := hS.of (by simp [K.pick, K.nth])
  refine K.RW.q rfl (by kernel_rfl) (K.QR.sEq (xs := (stR (⟨[(7 : Int)], [], []⟩ : StM))) (ys := [113, 117, 101, 117, 101, 32, 55, 10, 115, 101, 116, 10, 109, 97, 112, 10]) true rfl rfl rfl (K.deq_t (by decide))) ?_
  refine K.RW.qs [.bool true, .bool true] (by kernel_rfl) ?_
  refine K.RW.nil ?_
  refine K.thn_normal ?_
  refine K.KW.ret ?_
  refine ⟨.inr rfl, rfl, (.bool true), K.res1 rfl rfl, [], ?_, hS.pick [2]⟩
  exact ⟨rfl, rfl⟩
end Go.Proofs.YtnehocjmgnhhhaaDoor
