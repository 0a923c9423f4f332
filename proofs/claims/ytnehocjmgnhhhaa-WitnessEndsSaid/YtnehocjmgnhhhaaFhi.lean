import Derived.Test.YtnehocjmgnhhhaaKf
import Derived.Test.YtnehocjmgnhhhaaKn
/- Histories: which calls may be. -/
namespace Go.Proofs.Ytnehocjmgnhhhaa
open Go.RowKit
set_option linter.unusedVariables false
attribute [local irreducible] K.KW K.RW K.DW K.OW K.QR K.KC
structure CallM where
 th : Int
 ok : Int
 key : Int
 val : Int
 rk : Int
 rv : Int
 beg : Int
 en : Int
 wh : Int
 cr : Bool
 kp : Bool
deriving DecidableEq
def call0 : CallM := ⟨0, 0, 0, 0, 0, 0, 0, 0, 0, false, false⟩
def cCall (c : CallM) : List Value := [K.iv c.th, K.iv c.ok, .int .u32 c.key, .int .u32 c.val, K.iv c.rk, .int .u32 c.rv, K.iv c.beg, K.iv c.en, K.iv c.wh, .bool c.cr, .bool c.kp]
theorem K.all_snoc {p : Nat → Prop} {i : Nat} (h : ∀ j, j < i → p j) (hi : p i) : ∀ j, j < i + 1 → p j := fun j hj => by
 rcases Nat.lt_or_ge j i with h' | h'
 ·exact h j h'
 ·obtain rfl : j = i := by omega
  exact hi
def looksK (k : Int) : Prop := k = 5 ∨ k = 7
def canK (op kind : Int) : Prop := (kind = 1 ∧ ¬ looksK op) ∨ (kind = 2 ∧ op = 2) ∨ (kind = 3 ∧ (op = 3 ∨ op = 6 ∨ looksK op)) ∨ (kind = 4 ∧ (op = 4 ∨ op = 8 ∨ looksK op)) ∨ (kind = 5 ∧ ¬ looksK op)
def valdK (op kind : Int) : Prop := (kind = 1 ∧ (op = 2 ∨ op = 8)) ∨ (kind = 3 ∧ (op = 6 ∨ op = 7))
def brokenH (c : CallM) : Prop := (c.en = -1 ∧ c.rk = 0 ∧ c.rv = 0) ∧ ((c.wh = -1 ∧ c.kp = false) ∨ (¬ c.wh = -1 ∧ c.beg < c.wh ∧ ¬ looksK c.ok))
def answeredH (c : CallM) : Prop := (c.kp = false ∧ c.beg < c.wh ∧ c.wh ≤ c.en) ∧ canK c.ok c.rk ∧ (c.rv = 0 ∨ valdK c.ok c.rk)
def mayH (c : CallM) : Prop := ((1 ≤ c.ok ∧ c.ok ≤ 8) ∧ 0 ≤ c.beg) ∧ ((c.cr = true ∧ brokenH c) ∨ (c.cr = false ∧ answeredH c))
def aheadH (a b : CallM) : Prop := ¬ a.en = -1 ∧ a.en ≤ b.beg
instance (a b : CallM) : Decidable (aheadH a b) := inferInstanceAs (Decidable (_ ∧ _))
set_option maxHeartbeats 1000000 in
set_option maxRecDepth 100000 in
theorem kindG_ok (w0 : World) (k : Int) :
  K.GC Try.prog w0 59 #[K.iv k] [] (fun v post => post = [] ∧ (((1 ≤ k ∧ k ≤ 8) ∧ v = .bool true) ∨ (¬ ((1 ≤ k ∧ k ≤ 8)) ∧ v = .bool false))) := by
 refine K.GC.mk (n := 9) Try.func59 rfl rfl [K.iv k] rfl rfl ?_
 intro fr w hS
 replace hS : K.Sat w0 [fr] w := hS
 refine K.s (K.g (K.q [.bool false] (K.z (K.t (K.s (K.g (K.q [K.iv k] ?_)))))))
 by_cases h_1 : (k : Int) ≥ (1 : Int)
 ·
  refine K.y ((k : Int) ≥ (1 : Int)) h_1 ?_
  refine K.q [.bool true, K.iv k] ?_
  by_cases h_2 : (k : Int) ≤ (8 : Int)
  ·
   refine K.y ((k : Int) ≤ (8 : Int)) h_2 ?_
   refine K.q [.bool true, .bool true] (K.z (K.t (K.r ?_)))
   refine ⟨.inr rfl, rfl, (.bool true), K.res1 rfl rfl, [], ?_, hS.pick [0]⟩
   exact ⟨rfl, .inl ⟨by omega, rfl⟩⟩
  ·
   refine K.x ((k : Int) ≤ (8 : Int)) h_2 ?_
   refine K.q [.bool false, .bool false] (K.z (K.t (K.r ?_)))
   refine ⟨.inr rfl, rfl, (.bool false), K.res1 rfl rfl, [], ?_, hS.pick [0]⟩
   exact ⟨rfl, .inr ⟨by omega, rfl⟩⟩
 ·
  refine K.x ((k : Int) ≥ (1 : Int)) h_1 ?_
  refine K.q [.bool false] (K.n_ (K.n_ (K.q [.bool false, .bool false] (K.z (K.t (K.r ?_))))))
  refine ⟨.inr rfl, rfl, (.bool false), K.res1 rfl rfl, [], ?_, hS.pick [0]⟩
  exact ⟨rfl, .inr ⟨by omega, rfl⟩⟩
set_option maxHeartbeats 1000000 in
set_option maxRecDepth 100000 in
theorem looksG_ok (w0 : World) (k : Int) :
  K.GC Try.prog w0 78 #[K.iv k] [] (fun v post => post = [] ∧ ((looksK k ∧ v = .bool true) ∨ (¬ (looksK k) ∧ v = .bool false))) := by
 refine K.GC.mk (n := 9) Try.func78 rfl rfl [K.iv k] rfl rfl ?_
 intro fr w hS
 replace hS : K.Sat w0 [fr] w := hS
 refine K.s (K.g (K.q [.bool false] (K.z (K.t (K.s (K.g (K.q [K.iv k] ?_)))))))
 by_cases h_1 : (k : Int) = (5 : Int)
 ·
  refine K.ye (k : Int) (5 : Int) h_1 ?_
  refine K.q [.bool true] (K.n_ (K.n_ (K.q [.bool true, .bool true] (K.z (K.t (K.r ?_))))))
  refine ⟨.inr rfl, rfl, (.bool true), K.res1 rfl rfl, [], ?_, hS.pick [0]⟩
  exact ⟨rfl, .inl ⟨by unfold looksK; omega, rfl⟩⟩
 ·
  refine K.xe (k : Int) (5 : Int) h_1 ?_
  refine K.q [.bool false, K.iv k] ?_
  by_cases h_2 : (k : Int) = (7 : Int)
  ·
   refine K.ye (k : Int) (7 : Int) h_2 ?_
   refine K.q [.bool true, .bool true] (K.z (K.t (K.r ?_)))
   refine ⟨.inr rfl, rfl, (.bool true), K.res1 rfl rfl, [], ?_, hS.pick [0]⟩
   exact ⟨rfl, .inl ⟨by unfold looksK; omega, rfl⟩⟩
  ·
   refine K.xe (k : Int) (7 : Int) h_2 ?_
   refine K.q [.bool false, .bool false] (K.z (K.t (K.r ?_)))
   refine ⟨.inr rfl, rfl, (.bool false), K.res1 rfl rfl, [], ?_, hS.pick [0]⟩
   exact ⟨rfl, .inr ⟨fun hh => by unfold looksK at hh; omega, rfl⟩⟩
set_option maxHeartbeats 1000000 in
set_option maxRecDepth 100000 in
theorem can_ok (w0 : World) (op kind : Int) :
  K.GC Try.prog w0 79 #[K.iv op, K.iv kind] [] (fun v post => post = [] ∧ ((canK op kind ∧ v = .bool true) ∨ (¬ (canK op kind) ∧ v = .bool false))) := by
 refine K.GC.mk (n := 44) Try.func79 rfl rfl [K.iv op, K.iv kind] rfl rfl ?_
 intro fr w hS
 replace hS : K.Sat w0 [fr] w := hS
 refine K.s (K.g (K.q [.bool false] (K.z (K.t (K.s (K.s (K.g (K.q [K.iv kind] (K.z (K.t ?_))))))))))
 refine K.KW.block ?_
 refine K.s (K.g ?_)
 by_cases h_1 : (kind : Int) = (1 : Int)
 ·
  refine K.ye (kind : Int) (1 : Int) h_1 ?_
  refine K.q [.bool true] (K.z (K.t (K.h (K.s (K.g (K.q [K.iv op] ?_))))))
  refine K.l (K.OW.gcall hS [] [0] [K.iv op] (looksG_ok _ op) ?_)
  clear hS; rintro _ _ w ⟨rfl, (⟨h_2, rfl⟩ | ⟨h_3, rfl⟩)⟩ hS
  ·
   replace hS : K.Sat w0 [fr] w := hS
   refine K.q [.bool false, .bool false] (K.z (K.t (K.r ?_)))
   refine K.blk_ret ?_
   refine K.u ?_
   refine ⟨.inr rfl, rfl, (.bool false), K.res1 rfl rfl, [], ?_, hS.pick [0]⟩
   exact ⟨rfl, .inr ⟨fun hh => by unfold canK at hh; unfold looksK at *; omega, rfl⟩⟩
  ·
   replace hS : K.Sat w0 [fr] w := hS
   refine K.q [.bool true, .bool true] (K.z (K.t (K.r ?_)))
   refine K.blk_ret ?_
   refine K.u ?_
   refine ⟨.inr rfl, rfl, (.bool true), K.res1 rfl rfl, [], ?_, hS.pick [0]⟩
   exact ⟨rfl, .inl ⟨by unfold canK; unfold looksK at *; omega, rfl⟩⟩
 ·
  refine K.xe (kind : Int) (1 : Int) h_1 ?_
  refine K.q [.bool false] (K.z (K.t (K.f (K.s (K.g ?_)))))
  by_cases h_4 : (kind : Int) = (2 : Int)
  ·
   refine K.ye (kind : Int) (2 : Int) h_4 ?_
   refine K.q [.bool true] (K.z (K.t (K.h (K.s (K.g (K.q [K.iv op] ?_))))))
   by_cases h_5 : (op : Int) = (2 : Int)
   ·
    refine K.ye (op : Int) (2 : Int) h_5 ?_
    refine K.q [.bool true] (K.z (K.t (K.r ?_)))
    refine K.blk_ret ?_
    refine K.u ?_
    refine ⟨.inr rfl, rfl, (.bool true), K.res1 rfl rfl, [], ?_, hS.pick [0]⟩
    exact ⟨rfl, .inl ⟨by unfold canK; unfold looksK at *; omega, rfl⟩⟩
   ·
    refine K.xe (op : Int) (2 : Int) h_5 ?_
    refine K.q [.bool false] (K.z (K.t (K.r ?_)))
    refine K.blk_ret ?_
    refine K.u ?_
    refine ⟨.inr rfl, rfl, (.bool false), K.res1 rfl rfl, [], ?_, hS.pick [0]⟩
    exact ⟨rfl, .inr ⟨fun hh => by unfold canK at hh; unfold looksK at *; omega, rfl⟩⟩
  ·
   refine K.xe (kind : Int) (2 : Int) h_4 ?_
   refine K.q [.bool false] (K.z (K.t (K.f (K.s (K.g ?_)))))
   by_cases h_6 : (kind : Int) = (3 : Int)
   ·
    refine K.ye (kind : Int) (3 : Int) h_6 ?_
    refine K.q [.bool true] (K.z (K.t (K.h (K.s (K.g (K.q [K.iv op] ?_))))))
    by_cases h_7 : (op : Int) = (3 : Int)
    ·
     refine K.ye (op : Int) (3 : Int) h_7 ?_
     refine K.q [.bool true] (K.n_ (K.n_ (K.q [.bool true, .bool true] (K.n_ (K.n_ (K.q [.bool true, .bool true] (K.z (K.t (K.r ?_)))))))))
     refine K.blk_ret ?_
     refine K.u ?_
     refine ⟨.inr rfl, rfl, (.bool true), K.res1 rfl rfl, [], ?_, hS.pick [0]⟩
     exact ⟨rfl, .inl ⟨by unfold canK; unfold looksK at *; omega, rfl⟩⟩
    ·
     refine K.xe (op : Int) (3 : Int) h_7 ?_
     refine K.q [.bool false, K.iv op] ?_
     by_cases h_8 : (op : Int) = (6 : Int)
     ·
      refine K.ye (op : Int) (6 : Int) h_8 ?_
      refine K.q [.bool true, .bool true] (K.n_ (K.n_ (K.q [.bool true, .bool true] (K.z (K.t (K.r ?_))))))
      refine K.blk_ret ?_
      refine K.u ?_
      refine ⟨.inr rfl, rfl, (.bool true), K.res1 rfl rfl, [], ?_, hS.pick [0]⟩
      exact ⟨rfl, .inl ⟨by unfold canK; unfold looksK at *; omega, rfl⟩⟩
     ·
      refine K.xe (op : Int) (6 : Int) h_8 ?_
      refine K.q [.bool false, .bool false, K.iv op] ?_
      refine K.l (K.OW.gcall hS [] [0] [K.iv op] (looksG_ok _ op) ?_)
      clear hS; rintro _ _ w ⟨rfl, (⟨h_9, rfl⟩ | ⟨h_10, rfl⟩)⟩ hS
      ·
       replace hS : K.Sat w0 [fr] w := hS
       refine K.q [.bool true, .bool true] (K.z (K.t (K.r ?_)))
       refine K.blk_ret ?_
       refine K.u ?_
       refine ⟨.inr rfl, rfl, (.bool true), K.res1 rfl rfl, [], ?_, hS.pick [0]⟩
       exact ⟨rfl, .inl ⟨by unfold canK; unfold looksK at *; omega, rfl⟩⟩
      ·
       replace hS : K.Sat w0 [fr] w := hS
       refine K.q [.bool false, .bool false] (K.z (K.t (K.r ?_)))
       refine K.blk_ret ?_
       refine K.u ?_
       refine ⟨.inr rfl, rfl, (.bool false), K.res1 rfl rfl, [], ?_, hS.pick [0]⟩
       exact ⟨rfl, .inr ⟨fun hh => by unfold canK at hh; unfold looksK at *; omega, rfl⟩⟩
   ·
    refine K.xe (kind : Int) (3 : Int) h_6 ?_
    refine K.q [.bool false] (K.z (K.t (K.f (K.s (K.g ?_)))))
    by_cases h_11 : (kind : Int) = (4 : Int)
    ·
     refine K.ye (kind : Int) (4 : Int) h_11 ?_
     refine K.q [.bool true] (K.z (K.t (K.h (K.s (K.g (K.q [K.iv op] ?_))))))
     by_cases h_12 : (op : Int) = (4 : Int)
     ·
      refine K.ye (op : Int) (4 : Int) h_12 ?_
      refine K.q [.bool true] (K.n_ (K.n_ (K.q [.bool true, .bool true] (K.n_ (K.n_ (K.q [.bool true, .bool true] (K.z (K.t (K.r ?_)))))))))
      refine K.blk_ret ?_
      refine K.u ?_
      refine ⟨.inr rfl, rfl, (.bool true), K.res1 rfl rfl, [], ?_, hS.pick [0]⟩
      exact ⟨rfl, .inl ⟨by unfold canK; unfold looksK at *; omega, rfl⟩⟩
     ·
      refine K.xe (op : Int) (4 : Int) h_12 ?_
      refine K.q [.bool false, K.iv op] ?_
      by_cases h_13 : (op : Int) = (8 : Int)
      ·
       refine K.ye (op : Int) (8 : Int) h_13 ?_
       refine K.q [.bool true, .bool true] (K.n_ (K.n_ (K.q [.bool true, .bool true] (K.z (K.t (K.r ?_))))))
       refine K.blk_ret ?_
       refine K.u ?_
       refine ⟨.inr rfl, rfl, (.bool true), K.res1 rfl rfl, [], ?_, hS.pick [0]⟩
       exact ⟨rfl, .inl ⟨by unfold canK; unfold looksK at *; omega, rfl⟩⟩
      ·
       refine K.xe (op : Int) (8 : Int) h_13 ?_
       refine K.q [.bool false, .bool false, K.iv op] ?_
       refine K.l (K.OW.gcall hS [] [0] [K.iv op] (looksG_ok _ op) ?_)
       clear hS; rintro _ _ w ⟨rfl, (⟨h_14, rfl⟩ | ⟨h_15, rfl⟩)⟩ hS
       ·
        replace hS : K.Sat w0 [fr] w := hS
        refine K.q [.bool true, .bool true] (K.z (K.t (K.r ?_)))
        refine K.blk_ret ?_
        refine K.u ?_
        refine ⟨.inr rfl, rfl, (.bool true), K.res1 rfl rfl, [], ?_, hS.pick [0]⟩
        exact ⟨rfl, .inl ⟨by unfold canK; unfold looksK at *; omega, rfl⟩⟩
       ·
        replace hS : K.Sat w0 [fr] w := hS
        refine K.q [.bool false, .bool false] (K.z (K.t (K.r ?_)))
        refine K.blk_ret ?_
        refine K.u ?_
        refine ⟨.inr rfl, rfl, (.bool false), K.res1 rfl rfl, [], ?_, hS.pick [0]⟩
        exact ⟨rfl, .inr ⟨fun hh => by unfold canK at hh; unfold looksK at *; omega, rfl⟩⟩
    ·
     refine K.xe (kind : Int) (4 : Int) h_11 ?_
     refine K.q [.bool false] (K.z (K.t (K.f (K.s (K.g ?_)))))
     by_cases h_16 : (kind : Int) = (5 : Int)
     ·
      refine K.ye (kind : Int) (5 : Int) h_16 ?_
      refine K.q [.bool true] (K.z (K.t (K.h (K.s (K.g (K.q [K.iv op] ?_))))))
      refine K.l (K.OW.gcall hS [] [0] [K.iv op] (looksG_ok _ op) ?_)
      clear hS; rintro _ _ w ⟨rfl, (⟨h_17, rfl⟩ | ⟨h_18, rfl⟩)⟩ hS
      ·
       replace hS : K.Sat w0 [fr] w := hS
       refine K.q [.bool false, .bool false] (K.z (K.t (K.r ?_)))
       refine K.blk_ret ?_
       refine K.u ?_
       refine ⟨.inr rfl, rfl, (.bool false), K.res1 rfl rfl, [], ?_, hS.pick [0]⟩
       exact ⟨rfl, .inr ⟨fun hh => by unfold canK at hh; unfold looksK at *; omega, rfl⟩⟩
      ·
       replace hS : K.Sat w0 [fr] w := hS
       refine K.q [.bool true, .bool true] (K.z (K.t (K.r ?_)))
       refine K.blk_ret ?_
       refine K.u ?_
       refine ⟨.inr rfl, rfl, (.bool true), K.res1 rfl rfl, [], ?_, hS.pick [0]⟩
       exact ⟨rfl, .inl ⟨by unfold canK; unfold looksK at *; omega, rfl⟩⟩
     ·
      refine K.xe (kind : Int) (5 : Int) h_16 ?_
      refine K.q [.bool false] (K.z (K.t (K.f (K.k ?_))))
      refine K.blk_normal ?_
      refine K.t (K.s (K.g (K.q [.bool false] (K.z (K.t (K.r ?_))))))
      refine ⟨.inr rfl, rfl, (.bool false), K.res1 rfl rfl, [], ?_, hS.pick [0]⟩
      exact ⟨rfl, .inr ⟨fun hh => by unfold canK at hh; unfold looksK at *; omega, rfl⟩⟩
set_option maxHeartbeats 1000000 in
set_option maxRecDepth 100000 in
theorem vald_ok (w0 : World) (op kind : Int) :
  K.GC Try.prog w0 80 #[K.iv op, K.iv kind] [] (fun v post => post = [] ∧ ((valdK op kind ∧ v = .bool true) ∨ (¬ (valdK op kind) ∧ v = .bool false))) := by
 refine K.GC.mk (n := 22) Try.func80 rfl rfl [K.iv op, K.iv kind] rfl rfl ?_
 intro fr w hS
 replace hS : K.Sat w0 [fr] w := hS
 refine K.s (K.g (K.q [.bool false] (K.z (K.t (K.s (K.s (K.g (K.q [K.iv kind] (K.z (K.t ?_))))))))))
 refine K.KW.block ?_
 refine K.s (K.g ?_)
 by_cases h_1 : (kind : Int) = (1 : Int)
 ·
  refine K.ye (kind : Int) (1 : Int) h_1 ?_
  refine K.q [.bool true] (K.z (K.t (K.h (K.s (K.g (K.q [K.iv op] ?_))))))
  by_cases h_2 : (op : Int) = (2 : Int)
  ·
   refine K.ye (op : Int) (2 : Int) h_2 ?_
   refine K.q [.bool true] (K.n_ (K.n_ (K.q [.bool true, .bool true] (K.z (K.t (K.r ?_))))))
   refine K.blk_ret ?_
   refine K.u ?_
   refine ⟨.inr rfl, rfl, (.bool true), K.res1 rfl rfl, [], ?_, hS.pick [0]⟩
   exact ⟨rfl, .inl ⟨by unfold valdK; omega, rfl⟩⟩
  ·
   refine K.xe (op : Int) (2 : Int) h_2 ?_
   refine K.q [.bool false, K.iv op] ?_
   by_cases h_3 : (op : Int) = (8 : Int)
   ·
    refine K.ye (op : Int) (8 : Int) h_3 ?_
    refine K.q [.bool true, .bool true] (K.z (K.t (K.r ?_)))
    refine K.blk_ret ?_
    refine K.u ?_
    refine ⟨.inr rfl, rfl, (.bool true), K.res1 rfl rfl, [], ?_, hS.pick [0]⟩
    exact ⟨rfl, .inl ⟨by unfold valdK; omega, rfl⟩⟩
   ·
    refine K.xe (op : Int) (8 : Int) h_3 ?_
    refine K.q [.bool false, .bool false] (K.z (K.t (K.r ?_)))
    refine K.blk_ret ?_
    refine K.u ?_
    refine ⟨.inr rfl, rfl, (.bool false), K.res1 rfl rfl, [], ?_, hS.pick [0]⟩
    exact ⟨rfl, .inr ⟨fun hh => by unfold valdK at hh; omega, rfl⟩⟩
 ·
  refine K.xe (kind : Int) (1 : Int) h_1 ?_
  refine K.q [.bool false] (K.z (K.t (K.f (K.s (K.g ?_)))))
  by_cases h_4 : (kind : Int) = (3 : Int)
  ·
   refine K.ye (kind : Int) (3 : Int) h_4 ?_
   refine K.q [.bool true] (K.z (K.t (K.h (K.s (K.g (K.q [K.iv op] ?_))))))
   by_cases h_5 : (op : Int) = (6 : Int)
   ·
    refine K.ye (op : Int) (6 : Int) h_5 ?_
    refine K.q [.bool true] (K.n_ (K.n_ (K.q [.bool true, .bool true] (K.z (K.t (K.r ?_))))))
    refine K.blk_ret ?_
    refine K.u ?_
    refine ⟨.inr rfl, rfl, (.bool true), K.res1 rfl rfl, [], ?_, hS.pick [0]⟩
    exact ⟨rfl, .inl ⟨by unfold valdK; omega, rfl⟩⟩
   ·
    refine K.xe (op : Int) (6 : Int) h_5 ?_
    refine K.q [.bool false, K.iv op] ?_
    by_cases h_6 : (op : Int) = (7 : Int)
    ·
     refine K.ye (op : Int) (7 : Int) h_6 ?_
     refine K.q [.bool true, .bool true] (K.z (K.t (K.r ?_)))
     refine K.blk_ret ?_
     refine K.u ?_
     refine ⟨.inr rfl, rfl, (.bool true), K.res1 rfl rfl, [], ?_, hS.pick [0]⟩
     exact ⟨rfl, .inl ⟨by unfold valdK; omega, rfl⟩⟩
    ·
     refine K.xe (op : Int) (7 : Int) h_6 ?_
     refine K.q [.bool false, .bool false] (K.z (K.t (K.r ?_)))
     refine K.blk_ret ?_
     refine K.u ?_
     refine ⟨.inr rfl, rfl, (.bool false), K.res1 rfl rfl, [], ?_, hS.pick [0]⟩
     exact ⟨rfl, .inr ⟨fun hh => by unfold valdK at hh; omega, rfl⟩⟩
  ·
   refine K.xe (kind : Int) (3 : Int) h_4 ?_
   refine K.q [.bool false] (K.z (K.t (K.f (K.k ?_))))
   refine K.blk_normal ?_
   refine K.t (K.s (K.g (K.q [.bool false] (K.z (K.t (K.r ?_))))))
   refine ⟨.inr rfl, rfl, (.bool false), K.res1 rfl rfl, [], ?_, hS.pick [0]⟩
   exact ⟨rfl, .inr ⟨fun hh => by unfold valdK at hh; omega, rfl⟩⟩
set_option maxHeartbeats 1000000 in
set_option maxRecDepth 100000 in
theorem broken_ok (w0 : World) (c : CallM) :
  K.GC Try.prog w0 67 #[.agg #[K.iv c.th, K.iv c.ok, .int .u32 c.key, .int .u32 c.val, K.iv c.rk, .int .u32 c.rv, K.iv c.beg, K.iv c.en, K.iv c.wh, .bool c.cr, .bool c.kp]] [] (fun v post => post = [] ∧ ((brokenH c ∧ v = .bool true) ∨ (¬ (brokenH c) ∧ v = .bool false))) := by
 refine K.GC.mk (n := 32) Try.func67 rfl rfl [.agg #[K.iv c.th, K.iv c.ok, .int .u32 c.key, .int .u32 c.val, K.iv c.rk, .int .u32 c.rv, K.iv c.beg, K.iv c.en, K.iv c.wh, .bool c.cr, .bool c.kp]] rfl rfl ?_
 intro fr w hS
 replace hS : K.Sat w0 [fr] w := hS
 refine K.s (K.g ?_)
 refine K.l (K.OW.gnew 51 [K.iv c.th, K.iv c.ok, .int .u32 c.key, .int .u32 c.val, K.iv c.rk, .int .u32 c.rv, K.iv c.beg, K.iv c.en, K.iv c.wh, .bool c.cr, .bool c.kp] hS ?_)
 clear hS; intro w r_1 g_2 hg_3 hS
 refine K.q [.bool false] (K.z (K.t (K.s ?_)))
 refine K.KW.block ?_
 refine K.s (K.g (K.q [.pointer (some ⟨r_1, 7, none⟩)] ?_))
 refine K.d (K.iv c.en) ((hS.blk 0 rfl hg_3).cell rfl) ?_
 by_cases h_4 : (c.en : Int) = ((-1) : Int)
 ·
  refine K.xn (c.en : Int) ((-1) : Int) h_4 ?_
  refine K.q [.bool false, .pointer (some ⟨r_1, 4, none⟩)] ?_
  refine K.a (K.QR.ldN [K.iv c.rk, .int .u32 c.rv] rfl rfl (by kernel_rfl) (by kernel_rfl) (K.cells (K.cl ((hS.blk 0 rfl hg_3).cell rfl) (K.cl ((hS.blk 0 rfl hg_3).cell rfl) K.cl0)))) ?_
  refine K.a (K.QR.bd [] [K.iv 0, .int .u32 0] rfl rfl (by kernel_rfl)) ?_
  by_cases h_5 : (c.rk : Int) = 0 ∧ (c.rv : Int) = 0
  ·
   refine K.a (K.QR.neS (by kernel_rfl) rfl rfl rfl (eqRes_t h_5)) ?_
   refine K.q [.bool false, .bool false] (K.z (K.t (K.f (K.s (K.g (K.q [.pointer (some ⟨r_1, 8, none⟩)] ?_))))))
   refine K.d (K.iv c.wh) ((hS.blk 0 rfl hg_3).cell rfl) ?_
   by_cases h_6 : (c.wh : Int) = ((-1) : Int)
   ·
    refine K.ye (c.wh : Int) ((-1) : Int) h_6 ?_
    refine K.q [.bool true] (K.z (K.t (K.h (K.s (K.g (K.q [.pointer (some ⟨r_1, 10, none⟩)] ?_))))))
    refine K.d (.bool c.kp) ((hS.blk 0 rfl hg_3).cell rfl) ?_
    cases hb_7 : c.kp
    ·
     refine K.q [.bool true, .bool true] (K.z (K.t (K.r ?_)))
     refine K.blk_ret ?_
     refine K.u ?_
     refine ⟨.inr rfl, rfl, (.bool true), K.res1 rfl rfl, [], ?_, hS.pick [1]⟩
     exact ⟨rfl, .inl ⟨by unfold brokenH; first | omega | simp_all | (simp_all; omega), rfl⟩⟩
    ·
     refine K.q [.bool false, .bool false] (K.z (K.t (K.r ?_)))
     refine K.blk_ret ?_
     refine K.u ?_
     refine ⟨.inr rfl, rfl, (.bool false), K.res1 rfl rfl, [], ?_, hS.pick [1]⟩
     exact ⟨rfl, .inr ⟨fun hh => by unfold brokenH at hh; first | omega | simp_all | (simp_all; omega), rfl⟩⟩
   ·
    refine K.xe (c.wh : Int) ((-1) : Int) h_6 ?_
    refine K.q [.bool false] (K.z (K.t (K.f (K.k ?_))))
    refine K.blk_normal ?_
    refine K.t (K.s (K.g (K.q [.pointer (some ⟨r_1, 8, none⟩)] ?_)))
    refine K.d (K.iv c.wh) ((hS.blk 0 rfl hg_3).cell rfl) ?_
    refine K.q [.pointer (some ⟨r_1, 6, none⟩)] ?_
    refine K.d (K.iv c.beg) ((hS.blk 0 rfl hg_3).cell rfl) ?_
    by_cases h_8 : (c.wh : Int) > (c.beg : Int)
    ·
     refine K.y ((c.wh : Int) > (c.beg : Int)) h_8 ?_
     refine K.q [.bool true, .pointer (some ⟨r_1, 1, none⟩), .pointer (some ⟨r_1, 1, none⟩)] ?_
     refine K.d (K.iv c.ok) ((hS.blk 0 rfl hg_3).cell rfl) ?_
     refine K.l (K.OW.gcall hS [] [0, 1] [K.iv c.ok] (looksG_ok _ c.ok) ?_)
     clear hS; rintro _ _ w ⟨rfl, (⟨h_9, rfl⟩ | ⟨h_10, rfl⟩)⟩ hS
     ·
      replace hS : K.Sat w0 [g_2, fr] w := hS
      refine K.q [.bool false, .bool false, .bool false] (K.z (K.t (K.r ?_)))
      refine ⟨.inr rfl, rfl, (.bool false), K.res1 rfl rfl, [], ?_, hS.pick [1]⟩
      exact ⟨rfl, .inr ⟨fun hh => by unfold brokenH at hh; first | omega | simp_all | (simp_all; omega), rfl⟩⟩
     ·
      replace hS : K.Sat w0 [g_2, fr] w := hS
      refine K.q [.bool true, .bool true, .bool true] (K.z (K.t (K.r ?_)))
      refine ⟨.inr rfl, rfl, (.bool true), K.res1 rfl rfl, [], ?_, hS.pick [1]⟩
      exact ⟨rfl, .inl ⟨by unfold brokenH; first | omega | simp_all | (simp_all; omega), rfl⟩⟩
    ·
     refine K.x ((c.wh : Int) > (c.beg : Int)) h_8 ?_
     refine K.q [.bool false] (K.n_ (K.n_ (K.n_ (K.n_ (K.n_ (K.q [.bool false, .bool false] (K.z (K.t (K.r ?_)))))))))
     refine ⟨.inr rfl, rfl, (.bool false), K.res1 rfl rfl, [], ?_, hS.pick [1]⟩
     exact ⟨rfl, .inr ⟨fun hh => by unfold brokenH at hh; first | omega | simp_all | (simp_all; omega), rfl⟩⟩
  ·
   refine K.a (K.QR.neS (by kernel_rfl) rfl rfl rfl (eqRes_f h_5)) ?_
   refine K.q [.bool true, .bool true] (K.z (K.t (K.h (K.s (K.g (K.q [.bool false] (K.z (K.t (K.r ?_)))))))))
   refine K.blk_ret ?_
   refine K.u ?_
   refine ⟨.inr rfl, rfl, (.bool false), K.res1 rfl rfl, [], ?_, hS.pick [1]⟩
   exact ⟨rfl, .inr ⟨fun hh => by unfold brokenH at hh; first | omega | simp_all | (simp_all; omega), rfl⟩⟩
 ·
  refine K.yn (c.en : Int) ((-1) : Int) h_4 ?_
  refine K.q [.bool true] (K.n_ (K.n_ (K.n_ (K.n_ (K.q [.bool true, .bool true] (K.z (K.t (K.h (K.s (K.g (K.q [.bool false] (K.z (K.t (K.r ?_))))))))))))))
  refine K.blk_ret ?_
  refine K.u ?_
  refine ⟨.inr rfl, rfl, (.bool false), K.res1 rfl rfl, [], ?_, hS.pick [1]⟩
  exact ⟨rfl, .inr ⟨fun hh => by unfold brokenH at hh; first | omega | simp_all | (simp_all; omega), rfl⟩⟩
set_option maxHeartbeats 1000000 in
set_option maxRecDepth 100000 in
theorem answered_ok (w0 : World) (c : CallM) :
  K.GC Try.prog w0 68 #[.agg #[K.iv c.th, K.iv c.ok, .int .u32 c.key, .int .u32 c.val, K.iv c.rk, .int .u32 c.rv, K.iv c.beg, K.iv c.en, K.iv c.wh, .bool c.cr, .bool c.kp]] [] (fun v post => post = [] ∧ ((answeredH c ∧ v = .bool true) ∨ (¬ (answeredH c) ∧ v = .bool false))) := by
 refine K.GC.mk (n := 44) Try.func68 rfl rfl [.agg #[K.iv c.th, K.iv c.ok, .int .u32 c.key, .int .u32 c.val, K.iv c.rk, .int .u32 c.rv, K.iv c.beg, K.iv c.en, K.iv c.wh, .bool c.cr, .bool c.kp]] rfl rfl ?_
 intro fr w hS
 replace hS : K.Sat w0 [fr] w := hS
 refine K.s (K.g ?_)
 refine K.l (K.OW.gnew 51 [K.iv c.th, K.iv c.ok, .int .u32 c.key, .int .u32 c.val, K.iv c.rk, .int .u32 c.rv, K.iv c.beg, K.iv c.en, K.iv c.wh, .bool c.cr, .bool c.kp] hS ?_)
 clear hS; intro w r_1 g_2 hg_3 hS
 refine K.q [.bool false] (K.z (K.t (K.s (K.g (K.q [.pointer (some ⟨r_1, 4, none⟩)] ?_)))))
 refine K.a (K.QR.ldN [K.iv c.rk, .int .u32 c.rv] rfl rfl (by kernel_rfl) (by kernel_rfl) (K.cells (K.cl ((hS.blk 0 rfl hg_3).cell rfl) (K.cl ((hS.blk 0 rfl hg_3).cell rfl) K.cl0)))) ?_
 refine K.l (K.OW.gnew 49 [K.iv 0, .int .u32 0] hS ?_)
 clear hS; intro w r_4 g_5 hg_6 hS
 refine K.l (K.OW.gst 0 [K.iv c.rk, .int .u32 c.rv] _ hS hg_6 ?_)
 clear hS; intro w g_7 hg_8 hS
 replace hS : K.Sat w0 [g_7, g_2, fr] w := hS
 refine K.z (K.t (K.s (K.g (K.q [.pointer (some ⟨r_1, 10, none⟩)] ?_))))
 refine K.d (.bool c.kp) ((hS.blk 1 rfl hg_3).cell rfl) ?_
 cases hb_9 : c.kp
 ·
  refine K.q [.bool true, .bool true, .pointer (some ⟨r_1, 6, none⟩)] ?_
  refine K.d (K.iv c.beg) ((hS.blk 1 rfl hg_3).cell rfl) ?_
  refine K.q [.pointer (some ⟨r_1, 8, none⟩)] ?_
  refine K.d (K.iv c.wh) ((hS.blk 1 rfl hg_3).cell rfl) ?_
  by_cases h_10 : (c.beg : Int) < (c.wh : Int)
  ·
   refine K.y ((c.beg : Int) < (c.wh : Int)) h_10 ?_
   refine K.q [.bool true, .bool true, .pointer (some ⟨r_1, 8, none⟩)] ?_
   refine K.d (K.iv c.wh) ((hS.blk 1 rfl hg_3).cell rfl) ?_
   refine K.q [.pointer (some ⟨r_1, 7, none⟩)] ?_
   refine K.d (K.iv c.en) ((hS.blk 1 rfl hg_3).cell rfl) ?_
   by_cases h_11 : (c.wh : Int) ≤ (c.en : Int)
   ·
    refine K.y ((c.wh : Int) ≤ (c.en : Int)) h_11 ?_
    refine K.q [.bool true, .bool true, .pointer (some ⟨r_1, 1, none⟩), .pointer (some ⟨r_1, 1, none⟩)] ?_
    refine K.d (K.iv c.ok) ((hS.blk 1 rfl hg_3).cell rfl) ?_
    refine K.q [K.pa r_4] ?_
    refine K.d (K.iv c.rk) ((hS.blk 0 rfl hg_8).cell rfl) ?_
    refine K.l (K.OW.gcall hS [] [0, 1, 2] [K.iv c.ok, K.iv c.rk] (can_ok _ c.ok c.rk) ?_)
    clear hS; rintro _ _ w ⟨rfl, (⟨h_12, rfl⟩ | ⟨h_13, rfl⟩)⟩ hS
    ·
     replace hS : K.Sat w0 [g_7, g_2, fr] w := hS
     refine K.q [.bool true, .bool true, .pointer (some ⟨r_4, 1, none⟩)] ?_
     refine K.d (.int .u32 c.rv) ((hS.blk 0 rfl hg_8).cell rfl) ?_
     by_cases h_14 : (c.rv : Int) = (0 : Int)
     ·
      refine K.ye (c.rv : Int) (0 : Int) h_14 ?_
      refine K.q [.bool true] (K.n_ (K.n_ (K.n_ (K.n_ (K.n_ (K.n_ (K.q [.bool true, .bool true, .bool true] (K.z (K.t (K.r ?_))))))))))
      refine ⟨.inr rfl, rfl, (.bool true), K.res1 rfl rfl, [], ?_, hS.pick [2]⟩
      exact ⟨rfl, .inl ⟨by unfold answeredH; first | omega | simp_all | (simp_all; omega), rfl⟩⟩
     ·
      refine K.xe (c.rv : Int) (0 : Int) h_14 ?_
      refine K.q [.bool false, .pointer (some ⟨r_1, 1, none⟩), .pointer (some ⟨r_1, 1, none⟩)] ?_
      refine K.d (K.iv c.ok) ((hS.blk 1 rfl hg_3).cell rfl) ?_
      refine K.q [K.pa r_4] ?_
      refine K.d (K.iv c.rk) ((hS.blk 0 rfl hg_8).cell rfl) ?_
      refine K.l (K.OW.gcall hS [] [0, 1, 2] [K.iv c.ok, K.iv c.rk] (vald_ok _ c.ok c.rk) ?_)
      clear hS; rintro _ _ w ⟨rfl, (⟨h_15, rfl⟩ | ⟨h_16, rfl⟩)⟩ hS
      ·
       replace hS : K.Sat w0 [g_7, g_2, fr] w := hS
       refine K.q [.bool true, .bool true, .bool true] (K.z (K.t (K.r ?_)))
       refine ⟨.inr rfl, rfl, (.bool true), K.res1 rfl rfl, [], ?_, hS.pick [2]⟩
       exact ⟨rfl, .inl ⟨by unfold answeredH; first | omega | simp_all | (simp_all; omega), rfl⟩⟩
      ·
       replace hS : K.Sat w0 [g_7, g_2, fr] w := hS
       refine K.q [.bool false, .bool false, .bool false] (K.z (K.t (K.r ?_)))
       refine ⟨.inr rfl, rfl, (.bool false), K.res1 rfl rfl, [], ?_, hS.pick [2]⟩
       exact ⟨rfl, .inr ⟨fun hh => by unfold answeredH at hh; first | omega | simp_all | (simp_all; omega), rfl⟩⟩
    ·
     replace hS : K.Sat w0 [g_7, g_2, fr] w := hS
     refine K.q [.bool false, .bool false] (K.n_ (K.n_ (K.n_ (K.n_ (K.n_ (K.n_ (K.n_ (K.n_ (K.n_ (K.n_ (K.n_ (K.q [.bool false, .bool false] (K.z (K.t ?_))))))))))))))
     refine K.r ?_
     refine ⟨.inr rfl, rfl, (.bool false), K.res1 rfl rfl, [], ?_, hS.pick [2]⟩
     exact ⟨rfl, .inr ⟨fun hh => by unfold answeredH at hh; first | omega | simp_all | (simp_all; omega), rfl⟩⟩
   ·
    refine K.x ((c.wh : Int) ≤ (c.en : Int)) h_11 ?_
    refine K.q [.bool false, .bool false] (K.n_ (K.n_ (K.n_ (K.n_ (K.n_ (K.n_ (K.q [.bool false, .bool false] (K.n_ (K.n_ (K.n_ (K.n_ (K.n_ (K.n_ (K.n_ ?_))))))))))))))
    refine K.n_ (K.n_ (K.n_ (K.n_ (K.q [.bool false, .bool false] (K.z (K.t (K.r ?_)))))))
    refine ⟨.inr rfl, rfl, (.bool false), K.res1 rfl rfl, [], ?_, hS.pick [2]⟩
    exact ⟨rfl, .inr ⟨fun hh => by unfold answeredH at hh; first | omega | simp_all | (simp_all; omega), rfl⟩⟩
  ·
   refine K.x ((c.beg : Int) < (c.wh : Int)) h_10 ?_
   refine K.q [.bool false, .bool false] (K.n_ (K.n_ (K.n_ (K.n_ (K.n_ (K.q [.bool false, .bool false] (K.n_ (K.n_ (K.n_ (K.n_ (K.n_ (K.n_ (K.q [.bool false, .bool false] (K.n_ ?_))))))))))))))
   refine K.n_ (K.n_ (K.n_ (K.n_ (K.n_ (K.n_ (K.n_ (K.n_ (K.n_ (K.n_ (K.q [.bool false, .bool false] (K.z (K.t (K.r ?_)))))))))))))
   refine ⟨.inr rfl, rfl, (.bool false), K.res1 rfl rfl, [], ?_, hS.pick [2]⟩
   exact ⟨rfl, .inr ⟨fun hh => by unfold answeredH at hh; first | omega | simp_all | (simp_all; omega), rfl⟩⟩
 ·
  refine K.q [.bool false, .bool false] (K.n_ (K.n_ (K.n_ (K.n_ (K.n_ (K.q [.bool false, .bool false] (K.n_ (K.n_ (K.n_ (K.n_ (K.n_ (K.q [.bool false, .bool false] (K.n_ (K.n_ ?_))))))))))))))
  refine K.n_ (K.n_ (K.n_ (K.n_ (K.q [.bool false, .bool false] (K.n_ (K.n_ (K.n_ (K.n_ (K.n_ (K.n_ (K.n_ (K.n_ (K.n_ (K.n_ ?_))))))))))))))
  refine K.n_ (K.q [.bool false, .bool false] (K.z (K.t (K.r ?_))))
  refine ⟨.inr rfl, rfl, (.bool false), K.res1 rfl rfl, [], ?_, hS.pick [2]⟩
  exact ⟨rfl, .inr ⟨fun hh => by unfold answeredH at hh; first | omega | simp_all | (simp_all; omega), rfl⟩⟩
set_option maxHeartbeats 1000000 in
set_option maxRecDepth 100000 in
theorem hmay_ok (w0 : World) (c : CallM) :
  K.GC Try.prog w0 58 #[.agg #[K.iv c.th, K.iv c.ok, .int .u32 c.key, .int .u32 c.val, K.iv c.rk, .int .u32 c.rv, K.iv c.beg, K.iv c.en, K.iv c.wh, .bool c.cr, .bool c.kp]] [] (fun v post => post = [] ∧ ((mayH c ∧ v = .bool true) ∨ (¬ (mayH c) ∧ v = .bool false))) := by
 refine K.GC.mk (n := 19) Try.func58 rfl rfl [.agg #[K.iv c.th, K.iv c.ok, .int .u32 c.key, .int .u32 c.val, K.iv c.rk, .int .u32 c.rv, K.iv c.beg, K.iv c.en, K.iv c.wh, .bool c.cr, .bool c.kp]] rfl rfl ?_
 intro fr w hS
 replace hS : K.Sat w0 [fr] w := hS
 refine K.s (K.g ?_)
 refine K.l (K.OW.gnew 51 [K.iv c.th, K.iv c.ok, .int .u32 c.key, .int .u32 c.val, K.iv c.rk, .int .u32 c.rv, K.iv c.beg, K.iv c.en, K.iv c.wh, .bool c.cr, .bool c.kp] hS ?_)
 clear hS; intro w r_1 g_2 hg_3 hS
 refine K.q [.bool false] (K.z (K.t (K.s (K.s (K.g (K.q [.pointer (some ⟨r_1, 1, none⟩), .pointer (some ⟨r_1, 1, none⟩)] ?_))))))
 refine K.d (K.iv c.ok) ((hS.blk 0 rfl hg_3).cell rfl) ?_
 refine K.l (K.OW.gcall hS [] [0, 1] [K.iv c.ok] (kindG_ok _ c.ok) ?_)
 clear hS; rintro _ _ w ⟨rfl, (⟨h_4, rfl⟩ | ⟨h_5, rfl⟩)⟩ hS
 ·
  replace hS : K.Sat w0 [g_2, fr] w := hS
  refine K.q [.bool false, .bool false, .pointer (some ⟨r_1, 6, none⟩)] ?_
  refine K.d (K.iv c.beg) ((hS.blk 0 rfl hg_3).cell rfl) ?_
  by_cases h_6 : (c.beg : Int) < (0 : Int)
  ·
   refine K.y ((c.beg : Int) < (0 : Int)) h_6 ?_
   refine K.q [.bool true] (K.z (K.t (K.h (K.s (K.g (K.q [.bool false] (K.z (K.t (K.r (K.u ?_))))))))))
   refine ⟨.inr rfl, rfl, (.bool false), K.res1 rfl rfl, [], ?_, hS.pick [1]⟩
   exact ⟨rfl, .inr ⟨fun hh => by unfold mayH at hh; first | omega | simp_all | (simp_all; omega), rfl⟩⟩
  ·
   refine K.x ((c.beg : Int) < (0 : Int)) h_6 ?_
   refine K.q [.bool false] (K.z (K.t (K.f (K.k (K.t (K.s (K.s (K.g (K.q [.pointer (some ⟨r_1, 9, none⟩)] ?_)))))))))
   refine K.d (.bool c.cr) ((hS.blk 0 rfl hg_3).cell rfl) ?_
   cases hb_7 : c.cr
   ·
    refine K.z (K.t (K.f (K.k (K.t (K.s (K.g ?_))))))
    refine K.a (K.QR.ldN [K.iv c.th, K.iv c.ok, .int .u32 c.key, .int .u32 c.val, K.iv c.rk, .int .u32 c.rv, K.iv c.beg, K.iv c.en, K.iv c.wh, .bool c.cr, .bool c.kp] rfl rfl (by kernel_rfl) (by kernel_rfl) (K.cells (K.cl ((hS.blk 0 rfl hg_3).cell rfl) (K.cl ((hS.blk 0 rfl hg_3).cell rfl) (K.cl ((hS.blk 0 rfl hg_3).cell rfl) (K.cl ((hS.blk 0 rfl hg_3).cell rfl) (K.cl ((hS.blk 0 rfl hg_3).cell rfl) (K.cl ((hS.blk 0 rfl hg_3).cell rfl) (K.cl ((hS.blk 0 rfl hg_3).cell rfl) (K.cl ((hS.blk 0 rfl hg_3).cell rfl) (K.cl ((hS.blk 0 rfl hg_3).cell rfl) (K.cl ((hS.blk 0 rfl hg_3).cell rfl) (K.cl ((hS.blk 0 rfl hg_3).cell rfl) K.cl0))))))))))))) ?_
    refine K.l (K.OW.gcall hS [] [0, 1] [.agg #[K.iv c.th, K.iv c.ok, .int .u32 c.key, .int .u32 c.val, K.iv c.rk, .int .u32 c.rv, K.iv c.beg, K.iv c.en, K.iv c.wh, .bool c.cr, .bool c.kp]] (answered_ok _ c) ?_)
    clear hS; rintro _ _ w ⟨rfl, (⟨h_8, rfl⟩ | ⟨h_9, rfl⟩)⟩ hS
    ·
     replace hS : K.Sat w0 [g_2, fr] w := hS
     refine K.q [.bool true] (K.z (K.t (K.r ?_)))
     refine ⟨.inr rfl, rfl, (.bool true), K.res1 rfl rfl, [], ?_, hS.pick [1]⟩
     exact ⟨rfl, .inl ⟨by unfold mayH; first | omega | simp_all | (simp_all; omega), rfl⟩⟩
    ·
     replace hS : K.Sat w0 [g_2, fr] w := hS
     refine K.q [.bool false] (K.z (K.t (K.r ?_)))
     refine ⟨.inr rfl, rfl, (.bool false), K.res1 rfl rfl, [], ?_, hS.pick [1]⟩
     exact ⟨rfl, .inr ⟨fun hh => by unfold mayH at hh; first | omega | simp_all | (simp_all; omega), rfl⟩⟩
   ·
    refine K.z (K.t (K.h (K.s (K.g ?_))))
    refine K.a (K.QR.ldN [K.iv c.th, K.iv c.ok, .int .u32 c.key, .int .u32 c.val, K.iv c.rk, .int .u32 c.rv, K.iv c.beg, K.iv c.en, K.iv c.wh, .bool c.cr, .bool c.kp] rfl rfl (by kernel_rfl) (by kernel_rfl) (K.cells (K.cl ((hS.blk 0 rfl hg_3).cell rfl) (K.cl ((hS.blk 0 rfl hg_3).cell rfl) (K.cl ((hS.blk 0 rfl hg_3).cell rfl) (K.cl ((hS.blk 0 rfl hg_3).cell rfl) (K.cl ((hS.blk 0 rfl hg_3).cell rfl) (K.cl ((hS.blk 0 rfl hg_3).cell rfl) (K.cl ((hS.blk 0 rfl hg_3).cell rfl) (K.cl ((hS.blk 0 rfl hg_3).cell rfl) (K.cl ((hS.blk 0 rfl hg_3).cell rfl) (K.cl ((hS.blk 0 rfl hg_3).cell rfl) (K.cl ((hS.blk 0 rfl hg_3).cell rfl) K.cl0))))))))))))) ?_
    refine K.l (K.OW.gcall hS [] [0, 1] [.agg #[K.iv c.th, K.iv c.ok, .int .u32 c.key, .int .u32 c.val, K.iv c.rk, .int .u32 c.rv, K.iv c.beg, K.iv c.en, K.iv c.wh, .bool c.cr, .bool c.kp]] (broken_ok _ c) ?_)
    clear hS; rintro _ _ w ⟨rfl, (⟨h_10, rfl⟩ | ⟨h_11, rfl⟩)⟩ hS
    ·
     replace hS : K.Sat w0 [g_2, fr] w := hS
     refine K.q [.bool true] (K.z (K.t (K.r (K.u ?_))))
     refine ⟨.inr rfl, rfl, (.bool true), K.res1 rfl rfl, [], ?_, hS.pick [1]⟩
     exact ⟨rfl, .inl ⟨by unfold mayH; first | omega | simp_all | (simp_all; omega), rfl⟩⟩
    ·
     replace hS : K.Sat w0 [g_2, fr] w := hS
     refine K.q [.bool false] (K.z (K.t (K.r (K.u ?_))))
     refine ⟨.inr rfl, rfl, (.bool false), K.res1 rfl rfl, [], ?_, hS.pick [1]⟩
     exact ⟨rfl, .inr ⟨fun hh => by unfold mayH at hh; first | omega | simp_all | (simp_all; omega), rfl⟩⟩
 ·
  replace hS : K.Sat w0 [g_2, fr] w := hS
  refine K.q [.bool true, .bool true] (K.n_ (K.n_ (K.n_ (K.q [.bool true] (K.z (K.t (K.h (K.s (K.g (K.q [.bool false] (K.z (K.t (K.r (K.u ?_))))))))))))))
  refine ⟨.inr rfl, rfl, (.bool false), K.res1 rfl rfl, [], ?_, hS.pick [1]⟩
  exact ⟨rfl, .inr ⟨fun hh => by unfold mayH at hh; first | omega | simp_all | (simp_all; omega), rfl⟩⟩
set_option maxHeartbeats 1000000 in
set_option maxRecDepth 100000 in
theorem ahead_ok (w0 : World) (a b : CallM) :
  K.GC Try.prog w0 26 #[.agg #[K.iv a.th, K.iv a.ok, .int .u32 a.key, .int .u32 a.val, K.iv a.rk, .int .u32 a.rv, K.iv a.beg, K.iv a.en, K.iv a.wh, .bool a.cr, .bool a.kp], .agg #[K.iv b.th, K.iv b.ok, .int .u32 b.key, .int .u32 b.val, K.iv b.rk, .int .u32 b.rv, K.iv b.beg, K.iv b.en, K.iv b.wh, .bool b.cr, .bool b.kp]] [] (fun v post => post = [] ∧ ((aheadH a b ∧ v = .bool true) ∨ (¬ (aheadH a b) ∧ v = .bool false))) := by
 refine K.GC.mk (n := 15) Try.func26 rfl rfl [.agg #[K.iv a.th, K.iv a.ok, .int .u32 a.key, .int .u32 a.val, K.iv a.rk, .int .u32 a.rv, K.iv a.beg, K.iv a.en, K.iv a.wh, .bool a.cr, .bool a.kp], .agg #[K.iv b.th, K.iv b.ok, .int .u32 b.key, .int .u32 b.val, K.iv b.rk, .int .u32 b.rv, K.iv b.beg, K.iv b.en, K.iv b.wh, .bool b.cr, .bool b.kp]] rfl rfl ?_
 intro fr w hS
 replace hS : K.Sat w0 [fr] w := hS
 refine K.s (K.g ?_)
 refine K.l (K.OW.gnew 51 [K.iv a.th, K.iv a.ok, .int .u32 a.key, .int .u32 a.val, K.iv a.rk, .int .u32 a.rv, K.iv a.beg, K.iv a.en, K.iv a.wh, .bool a.cr, .bool a.kp] hS ?_)
 clear hS; intro w r_1 g_2 hg_3 hS
 refine K.l (K.OW.gnew 51 [K.iv b.th, K.iv b.ok, .int .u32 b.key, .int .u32 b.val, K.iv b.rk, .int .u32 b.rv, K.iv b.beg, K.iv b.en, K.iv b.wh, .bool b.cr, .bool b.kp] hS ?_)
 clear hS; intro w r_4 g_5 hg_6 hS
 refine K.q [.bool false] (K.z (K.t (K.s (K.g (K.q [.pointer (some ⟨r_1, 7, none⟩)] ?_)))))
 refine K.d (K.iv a.en) ((hS.blk 1 rfl hg_3).cell rfl) ?_
 by_cases h_7 : (a.en : Int) = ((-1) : Int)
 ·
  refine K.xn (a.en : Int) ((-1) : Int) h_7 ?_
  refine K.q [.bool false] (K.n_ (K.n_ (K.n_ (K.n_ (K.n_ (K.q [.bool false, .bool false] (K.z (K.t (K.r ?_)))))))))
  refine ⟨.inr rfl, rfl, (.bool false), K.res1 rfl rfl, [], ?_, hS.pick [2]⟩
  exact ⟨rfl, .inr ⟨fun hh => by unfold aheadH at hh; omega, rfl⟩⟩
 ·
  refine K.yn (a.en : Int) ((-1) : Int) h_7 ?_
  refine K.q [.bool true, .pointer (some ⟨r_1, 7, none⟩)] ?_
  refine K.d (K.iv a.en) ((hS.blk 1 rfl hg_3).cell rfl) ?_
  refine K.q [.pointer (some ⟨r_4, 6, none⟩)] ?_
  refine K.d (K.iv b.beg) ((hS.blk 0 rfl hg_6).cell rfl) ?_
  by_cases h_8 : (a.en : Int) ≤ (b.beg : Int)
  ·
   refine K.y ((a.en : Int) ≤ (b.beg : Int)) h_8 ?_
   refine K.q [.bool true, .bool true] (K.z (K.t (K.r ?_)))
   refine ⟨.inr rfl, rfl, (.bool true), K.res1 rfl rfl, [], ?_, hS.pick [2]⟩
   exact ⟨rfl, .inl ⟨by unfold aheadH; omega, rfl⟩⟩
  ·
   refine K.x ((a.en : Int) ≤ (b.beg : Int)) h_8 ?_
   refine K.q [.bool false, .bool false] (K.z (K.t (K.r ?_)))
   refine ⟨.inr rfl, rfl, (.bool false), K.res1 rfl rfl, [], ?_, hS.pick [2]⟩
   exact ⟨rfl, .inr ⟨fun hh => by unfold aheadH at hh; omega, rfl⟩⟩
set_option maxHeartbeats 1000000 in
set_option maxRecDepth 100000 in
theorem dahead_ok (w0 : World) (a b : CallM) :
  K.GC Try.prog w0 27 #[.agg #[K.iv a.th, K.iv a.ok, .int .u32 a.key, .int .u32 a.val, K.iv a.rk, .int .u32 a.rv, K.iv a.beg, K.iv a.en, K.iv a.wh, .bool a.cr, .bool a.kp], .agg #[K.iv b.th, K.iv b.ok, .int .u32 b.key, .int .u32 b.val, K.iv b.rk, .int .u32 b.rv, K.iv b.beg, K.iv b.en, K.iv b.wh, .bool b.cr, .bool b.kp]] [] (fun v post => post = [] ∧ ((aheadH a b ∧ v = .bool true) ∨ (¬ (aheadH a b) ∧ v = .bool false))) := by
 refine K.GC.mk (n := 15) Try.func27 rfl rfl [.agg #[K.iv a.th, K.iv a.ok, .int .u32 a.key, .int .u32 a.val, K.iv a.rk, .int .u32 a.rv, K.iv a.beg, K.iv a.en, K.iv a.wh, .bool a.cr, .bool a.kp], .agg #[K.iv b.th, K.iv b.ok, .int .u32 b.key, .int .u32 b.val, K.iv b.rk, .int .u32 b.rv, K.iv b.beg, K.iv b.en, K.iv b.wh, .bool b.cr, .bool b.kp]] rfl rfl ?_
 intro fr w hS
 replace hS : K.Sat w0 [fr] w := hS
 refine K.s (K.g ?_)
 refine K.l (K.OW.gnew 51 [K.iv a.th, K.iv a.ok, .int .u32 a.key, .int .u32 a.val, K.iv a.rk, .int .u32 a.rv, K.iv a.beg, K.iv a.en, K.iv a.wh, .bool a.cr, .bool a.kp] hS ?_)
 clear hS; intro w r_1 g_2 hg_3 hS
 refine K.l (K.OW.gnew 51 [K.iv b.th, K.iv b.ok, .int .u32 b.key, .int .u32 b.val, K.iv b.rk, .int .u32 b.rv, K.iv b.beg, K.iv b.en, K.iv b.wh, .bool b.cr, .bool b.kp] hS ?_)
 clear hS; intro w r_4 g_5 hg_6 hS
 refine K.q [.bool false] (K.z (K.t (K.s (K.g (K.q [.pointer (some ⟨r_1, 7, none⟩)] ?_)))))
 refine K.d (K.iv a.en) ((hS.blk 1 rfl hg_3).cell rfl) ?_
 by_cases h_7 : (a.en : Int) = ((-1) : Int)
 ·
  refine K.xn (a.en : Int) ((-1) : Int) h_7 ?_
  refine K.q [.bool false] (K.n_ (K.n_ (K.n_ (K.n_ (K.n_ (K.q [.bool false, .bool false] (K.z (K.t (K.r ?_)))))))))
  refine ⟨.inr rfl, rfl, (.bool false), K.res1 rfl rfl, [], ?_, hS.pick [2]⟩
  exact ⟨rfl, .inr ⟨fun hh => by unfold aheadH at hh; omega, rfl⟩⟩
 ·
  refine K.yn (a.en : Int) ((-1) : Int) h_7 ?_
  refine K.q [.bool true, .pointer (some ⟨r_1, 7, none⟩)] ?_
  refine K.d (K.iv a.en) ((hS.blk 1 rfl hg_3).cell rfl) ?_
  refine K.q [.pointer (some ⟨r_4, 6, none⟩)] ?_
  refine K.d (K.iv b.beg) ((hS.blk 0 rfl hg_6).cell rfl) ?_
  by_cases h_8 : (a.en : Int) ≤ (b.beg : Int)
  ·
   refine K.y ((a.en : Int) ≤ (b.beg : Int)) h_8 ?_
   refine K.q [.bool true, .bool true] (K.z (K.t (K.r ?_)))
   refine ⟨.inr rfl, rfl, (.bool true), K.res1 rfl rfl, [], ?_, hS.pick [2]⟩
   exact ⟨rfl, .inl ⟨by unfold aheadH; omega, rfl⟩⟩
  ·
   refine K.x ((a.en : Int) ≤ (b.beg : Int)) h_8 ?_
   refine K.q [.bool false, .bool false] (K.z (K.t (K.r ?_)))
   refine ⟨.inr rfl, rfl, (.bool false), K.res1 rfl rfl, [], ?_, hS.pick [2]⟩
   exact ⟨rfl, .inr ⟨fun hh => by unfold aheadH at hh; omega, rfl⟩⟩
end Go.Proofs.Ytnehocjmgnhhhaa
