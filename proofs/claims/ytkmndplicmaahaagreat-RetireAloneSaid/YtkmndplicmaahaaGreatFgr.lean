/- A ground: the layout in groups, the place of a name, small configs. -/
import Derived.Test.YtkmndplicmaahaaGreatFlay2
import Derived.Test.YtkmndplicmaahaaGreatFpm4
import Derived.Test.YtkmndplicmaahaaGreatKn
namespace Go.Proofs.YtkmndplicmaahaaGreat
open Go.RowKit
set_option linter.unusedVariables false
attribute [local irreducible] K.KW K.RW K.DW K.OW K.QR K.KC
structure PutM where
 at_ : Int
 w : Int
def cPut (p : PutM) : List Value := [.int .i64 p.at_, .int .u64 p.w]
def pu0 : PutM := ⟨0, 0⟩
def fewC (c : Cfg) : Prop := cfgOk c ∧ c.th ≤ 6 ∧ c.sl ≤ 30 ∧ c.lo ≤ 8 ∧ c.bu ≤ 8
set_option maxHeartbeats 1000000 in
set_option maxRecDepth 100000 in
theorem few09_ok (w0 : World) (c : Cfg) :
  K.GC Tryz.prog w0 5 #[.agg #[.int .i64 c.th, .int .i64 c.sl, .int .i64 c.lo, .int .i64 c.bu]] [] (fun v post => post = [] ∧ ((v = .bool true ∧ fewC c) ∨ (v = .bool false ∧ ¬ fewC c))) := by
 refine K.GC.mk (n := 25) Tryz.func5 rfl rfl [.agg #[.int .i64 c.th, .int .i64 c.sl, .int .i64 c.lo, .int .i64 c.bu]] rfl rfl ?_
 intro fr w hS
 replace hS : K.Sat w0 [fr] w := hS
 refine K.s (K.g ?_)
 refine K.l (K.OW.gnew 23 [.int .i64 c.th, .int .i64 c.sl, .int .i64 c.lo, .int .i64 c.bu] hS ?_)
 clear hS; intro w r_1 g_2 hg_3 hS
 refine K.q [.bool false] (K.z (K.t (K.s (K.g ?_))))
 refine K.a (K.QR.ldN [.int .i64 c.th, .int .i64 c.sl, .int .i64 c.lo, .int .i64 c.bu] rfl rfl (by kernel_rfl) (by kernel_rfl) (K.cells (K.cl ((hS.blk 0 rfl hg_3).cell rfl) (K.cl ((hS.blk 0 rfl hg_3).cell rfl) (K.cl ((hS.blk 0 rfl hg_3).cell rfl) (K.cl ((hS.blk 0 rfl hg_3).cell rfl) K.cl0)))))) ?_
 refine K.l (K.OW.kcall hS [.agg #[.int .i64 c.th, .int .i64 c.sl, .int .i64 c.lo, .int .i64 c.bu]] (rright05_ok c _) ?_)
 rintro _ w ⟨rfl, c_4⟩
 replace hS := hS.no c_4
 cases hb_5 : (decide (cfgOk c))
 ·
  refine K.q [.bool false] (K.n_ (K.n_ (K.n_ (K.q [.bool false, .bool false] (K.n_ (K.n_ (K.n_ (K.q [.bool false, .bool false] (K.n_ (K.n_ (K.n_ (K.q [.bool false, .bool false] (K.n_ (K.n_ ?_))))))))))))))
  refine K.n_ (K.q [.bool false, .bool false] (K.z (K.t (K.r ?_))))
  have hq := of_decide_eq_false hb_5
  refine ⟨.inr rfl, rfl, (.bool false), K.res1 rfl rfl, [], ?_, hS.pick [1]⟩
  exact ⟨rfl, .inr ⟨rfl, fun h => hq h.1⟩⟩
 ·
  refine K.q [.bool true, .pointer (some ⟨r_1, 0, none⟩)] ?_
  refine K.d (.int .i64 c.th) ((hS.blk 0 rfl hg_3).cell rfl) ?_
  by_cases h_6 : (c.th : Int) ≤ (6 : Int)
  ·
   refine K.y ((c.th : Int) ≤ (6 : Int)) h_6 ?_
   refine K.q [.bool true, .bool true, .pointer (some ⟨r_1, 1, none⟩)] ?_
   refine K.d (.int .i64 c.sl) ((hS.blk 0 rfl hg_3).cell rfl) ?_
   by_cases h_7 : (c.sl : Int) ≤ (30 : Int)
   ·
    refine K.y ((c.sl : Int) ≤ (30 : Int)) h_7 ?_
    refine K.q [.bool true, .bool true, .pointer (some ⟨r_1, 2, none⟩)] ?_
    refine K.d (.int .i64 c.lo) ((hS.blk 0 rfl hg_3).cell rfl) ?_
    by_cases h_8 : (c.lo : Int) ≤ (8 : Int)
    ·
     refine K.y ((c.lo : Int) ≤ (8 : Int)) h_8 ?_
     refine K.q [.bool true, .bool true, .pointer (some ⟨r_1, 3, none⟩)] ?_
     refine K.d (.int .i64 c.bu) ((hS.blk 0 rfl hg_3).cell rfl) ?_
     by_cases h_9 : (c.bu : Int) ≤ (8 : Int)
     ·
      refine K.y ((c.bu : Int) ≤ (8 : Int)) h_9 ?_
      refine K.q [.bool true, .bool true] (K.z (K.t (K.r ?_)))
      have hq := of_decide_eq_true hb_5
      refine ⟨.inr rfl, rfl, (.bool true), K.res1 rfl rfl, [], ?_, hS.pick [1]⟩
      exact ⟨rfl, .inl ⟨rfl, hq, by omega, by omega, by omega, by omega⟩⟩
     ·
      refine K.x ((c.bu : Int) ≤ (8 : Int)) h_9 ?_
      refine K.q [.bool false, .bool false] (K.z (K.t (K.r ?_)))
      have hq := of_decide_eq_true hb_5
      refine ⟨.inr rfl, rfl, (.bool false), K.res1 rfl rfl, [], ?_, hS.pick [1]⟩
      exact ⟨rfl, .inr ⟨rfl, fun h => by have h2 := h.2; omega⟩⟩
    ·
     refine K.x ((c.lo : Int) ≤ (8 : Int)) h_8 ?_
     refine K.q [.bool false, .bool false] (K.n_ (K.n_ (K.n_ (K.q [.bool false, .bool false] (K.z (K.t (K.r ?_)))))))
     have hq := of_decide_eq_true hb_5
     refine ⟨.inr rfl, rfl, (.bool false), K.res1 rfl rfl, [], ?_, hS.pick [1]⟩
     exact ⟨rfl, .inr ⟨rfl, fun h => by have h2 := h.2; omega⟩⟩
   ·
    refine K.x ((c.sl : Int) ≤ (30 : Int)) h_7 ?_
    refine K.q [.bool false, .bool false] (K.n_ (K.n_ (K.n_ (K.q [.bool false, .bool false] (K.n_ (K.n_ (K.n_ (K.q [.bool false, .bool false] (K.z (K.t (K.r ?_)))))))))))
    have hq := of_decide_eq_true hb_5
    refine ⟨.inr rfl, rfl, (.bool false), K.res1 rfl rfl, [], ?_, hS.pick [1]⟩
    exact ⟨rfl, .inr ⟨rfl, fun h => by have h2 := h.2; omega⟩⟩
  ·
   refine K.x ((c.th : Int) ≤ (6 : Int)) h_6 ?_
   refine K.q [.bool false, .bool false] (K.n_ (K.n_ (K.n_ (K.q [.bool false, .bool false] (K.n_ (K.n_ (K.n_ (K.q [.bool false, .bool false] (K.n_ (K.n_ (K.n_ (K.q [.bool false, .bool false] (K.z (K.t ?_))))))))))))))
   refine K.r ?_
   have hq := of_decide_eq_true hb_5
   refine ⟨.inr rfl, rfl, (.bool false), K.res1 rfl rfl, [], ?_, hS.pick [1]⟩
   exact ⟨rfl, .inr ⟨rfl, fun h => by have h2 := h.2; omega⟩⟩
end Go.Proofs.YtkmndplicmaahaaGreat
