/- The document's device: what it is in memory. -/
import Derived.Test.YtgeihjiichdpbaaFdv5
namespace Go.Proofs.Ytgeihjiichdpbaa
open Go.RowKit
set_option linter.unusedVariables false
attribute [local irreducible] K.KW K.RW K.DW K.OW K.QR K.KC

def BoolG (g : K.Cs) (v : Value) (B : List Bool) : Prop := ∃ a c, v = .slice a B.length c ∧ K.OwnG g 4 1 a B.length c (B.flatMap cBool)
/-- rows of something, one by one -/
def RowsAt {α : Type} (p : K.Cs → Value → α → Prop) : List K.Cs → List Value → List α → Prop
  | [], [], [] => True
  | g :: gs, v :: vs, B :: Bs => p g v B ∧ RowsAt p gs vs Bs
  | _, _, _ => False
def RowsG {α : Type} (p : K.Cs → Value → α → Prop) (z : K.Cs) (vs : List Value) (Bs : List α) : Prop := ∃ gs, z = gs.flatten ∧ RowsAt p gs vs Bs
section
variable {α : Type} {p : K.Cs → Value → α → Prop}
theorem RowsAt.at : ∀ {gs : List K.Cs} {vs : List Value} {Bs : List α} (d : α) (k : Nat), RowsAt p gs vs Bs → k < Bs.length → ∃ A g C v, gs = A ++ g :: C ∧ vs[k]? = some v ∧ p g v (Bs.getD k d) ∧
    ∀ g' v' B', p g' v' B' → RowsAt p (A ++ g' :: C) (vs.set k v') (Bs.set k B')
  | g :: gs, v :: vs, B :: Bs, d, 0, h, _ => ⟨[], g, gs, v, rfl, rfl, h.1, fun g' v' B' hs => ⟨hs, h.2⟩⟩
  | g :: gs, v :: vs, B :: Bs, d, k + 1, h, hk => by
    obtain ⟨A, g1, C, v1, h1, h2, h3, h4⟩ := RowsAt.at d k h.2 (by simpa using hk)
    exact ⟨g :: A, g1, C, v1, by rw [h1]; rfl, by simpa using h2, by simpa using h3, fun g' v' B' hs => ⟨h.1, h4 g' v' B' hs⟩⟩
  | [], [], [], _, k, _, hk => by simp at hk
  | [], _ :: _, _, _, _, h, _ => h.elim
  | [], [], _ :: _, _, _, h, _ => h.elim
  | _ :: _, [], _, _, _, h, _ => h.elim
  | _ :: _, _ :: _, [], _, _, h, _ => h.elim
theorem RowsG.at {z : K.Cs} {vs : List Value} {Bs : List α} (d : α) (h : RowsG p z vs Bs) (k : Nat) (hk : k < Bs.length) : ∃ gA gi gC v, z = [gA, gi, gC].flatten ∧ vs[k]? = some v ∧ p gi v (Bs.getD k d) ∧
    ∀ g' v' B', p g' v' B' → RowsG p [gA, g', gC].flatten (vs.set k v') (Bs.set k B') := by
  obtain ⟨gs, rfl, h⟩ := h
  obtain ⟨A, g, C, v, rfl, h2, h3, h4⟩ := h.at d k hk
  exact ⟨A.flatten, g, C.flatten, v, by simp, h2, h3, fun g' v' B' ho => ⟨_, by simp, h4 g' v' B' ho⟩⟩
theorem RowsAt.snoc : ∀ {gs : List K.Cs} {vs : List Value} {Bs : List α} {g : K.Cs} {v : Value} {B : α}, RowsAt p gs vs Bs → p g v B → RowsAt p (gs ++ [g]) (vs ++ [v]) (Bs ++ [B])
  | [], [], [], _, _, _, _, h => ⟨h, trivial⟩
  | _ :: _, _ :: _, _ :: _, _, _, _, h, h2 => ⟨h.1, RowsAt.snoc h.2 h2⟩
  | [], _ :: _, _, _, _, _, h, _ => h.elim
  | [], [], _ :: _, _, _, _, h, _ => h.elim
  | _ :: _, [], _, _, _, _, h, _ => h.elim
  | _ :: _, _ :: _, [], _, _, _, h, _ => h.elim
theorem RowsG.snoc {z g : K.Cs} {vs : List Value} {Bs : List α} {v : Value} {B : α} (h : RowsG p z vs Bs) (h2 : p g v B) : RowsG p [z, g].flatten (vs ++ [v]) (Bs ++ [B]) := by
  obtain ⟨gs, rfl, h⟩ := h
  exact ⟨gs ++ [g], by simp, h.snoc h2⟩
theorem RowsG.nil : RowsG p [] [] [] := ⟨[], rfl, trivial⟩
theorem RowsG.same {z z' : K.Cs} {vs vs' : List Value} {Bs Bs' : List α} (h : RowsG p z vs Bs) (h1 : z = z') (h2 : vs = vs') (h3 : Bs = Bs') : RowsG p z' vs' Bs' := by subst h1 h2 h3; exact h
end
def RDevAt (l : K.Cs) (p n t : Nat) (D : DevM) : Prop :=
  ∃ (g gk gs gw gf gz : K.Cs) (vs : List Value) (ka sa wa fa : Option Addr) (ck cs cw cf : Nat), l = [g, gk, gs, gw, gf, gz].flatten ∧
    g = [K.pt p 102 [.slice ka (n * 8) ck, .slice sa (n * 8) cs, .slice wa n cw, .slice fa t cf]] ∧ K.OwnG gk 23 1 ka (n * 8) ck (D.kept.flatMap cU64) ∧ K.OwnG gs 23 1 sa (n * 8) cs (D.seen.flatMap cU64) ∧
    K.OwnG gw 3 1 wa n cw (D.writes.flatMap cI64) ∧ K.OwnG gf 133 1 fa t cf (vs.flatMap cV) ∧ vs.length = t ∧ RowsG BoolG gz vs D.flush ∧ D.ok n t

set_option maxHeartbeats 1000000 in
set_option maxRecDepth 100000 in
theorem mayNew_ok (w0 : World) (n t : Int) (hn : isInt n) (ht : isInt t) :
    K.GC Try.prog w0 38 #[.int .i64 n, .int .i64 t] [] (fun v post => post = [] ∧ ((v = .int .i64 0 ∧ (1 ≤ n ∧ n ≤ 262144 ∧ 1 ≤ t ∧ t ≤ 64)) ∨ (v = .int .i64 1 ∧ ¬(1 ≤ n ∧ n ≤ 262144 ∧ 1 ≤ t ∧ t ≤ 64)))) := by
  refine K.GC.mk (n := 19) Try.func38 rfl rfl [.int .i64 n, .int .i64 t] rfl rfl ?_
  intro fr w hS
  replace hS : K.Sat w0 [fr] w := hS
  refine K.KW.seq ?_
  -- 0 :21
  refine K.KW.region ?_
  refine K.RW.qs [.int .i64 0] (by kernel_rfl) ?_
  refine K.RW.nil ?_
  refine K.thn_normal ?_
  refine K.KW.seq ?_
  refine K.KW.seq ?_
  -- 1 :22
  refine K.KW.region ?_
  refine K.RW.qs [.int .i64 n] (by kernel_rfl) ?_
  by_cases h_1 : (n : Int) < (1 : Int)
  ·  -- yes
    refine K.RW.q rfl rfl (K.QR.nice (v := .bool (decide ((n : Int) < (1 : Int)))) (by kernel_rfl) (congrArg Value.bool (decide_eq_true h_1))) ?_
    refine K.RW.qs [.bool true] (by kernel_rfl) ?_
    refine K.RW.skip rfl (by kernel_rfl) ?_
    refine K.RW.skip rfl (by kernel_rfl) ?_
    refine K.RW.qs [.bool true, .bool true] (by kernel_rfl) ?_
    refine K.RW.skip rfl (by kernel_rfl) ?_
    refine K.RW.skip rfl (by kernel_rfl) ?_
    refine K.RW.qs [.bool true, .bool true] (by kernel_rfl) ?_
    refine K.RW.skip rfl (by kernel_rfl) ?_
    refine K.RW.skip rfl (by kernel_rfl) ?_
    refine K.RW.qs [.bool true] (by kernel_rfl) ?_
    refine K.RW.nil ?_
    refine K.thn_normal ?_
    refine K.KW.ifT rfl ?_
    refine K.KW.seq ?_
    -- 2 :23
    refine K.KW.region ?_
    refine K.RW.qs [.int .i64 1] (by kernel_rfl) ?_
    refine K.RW.nil ?_
    refine K.thn_normal ?_
    refine K.KW.ret ?_
    refine K.thn_ret ?_
    refine ⟨.inr rfl, rfl, (.int .i64 1), K.res1 rfl rfl, [], ?_, hS.pick [0]⟩
    exact ⟨rfl, .inr ⟨rfl, by omega⟩⟩
  ·  -- no
    refine K.RW.q rfl rfl (K.QR.nice (v := .bool (decide ((n : Int) < (1 : Int)))) (by kernel_rfl) (congrArg Value.bool (decide_eq_false h_1))) ?_
    refine K.RW.qs [.bool false, .int .i64 n] (by kernel_rfl) ?_
    by_cases h_2 : (n : Int) > (262144 : Int)
    ·  -- yes
      refine K.RW.q rfl (by kernel_rfl) (K.QR.nice (v := .bool (decide ((n : Int) > (262144 : Int)))) (by kernel_rfl) (congrArg Value.bool (decide_eq_true h_2))) ?_
      refine K.RW.qs [.bool true, .bool true] (by kernel_rfl) ?_
      refine K.RW.skip rfl (by kernel_rfl) ?_
      refine K.RW.skip rfl (by kernel_rfl) ?_
      refine K.RW.qs [.bool true, .bool true] (by kernel_rfl) ?_
      refine K.RW.skip rfl (by kernel_rfl) ?_
      refine K.RW.skip rfl (by kernel_rfl) ?_
      refine K.RW.qs [.bool true] (by kernel_rfl) ?_
      refine K.RW.nil ?_
      refine K.thn_normal ?_
      refine K.KW.ifT rfl ?_
      refine K.KW.seq ?_
      -- 2 :23
      refine K.KW.region ?_
      refine K.RW.qs [.int .i64 1] (by kernel_rfl) ?_
      refine K.RW.nil ?_
      refine K.thn_normal ?_
      refine K.KW.ret ?_
      refine K.thn_ret ?_
      refine ⟨.inr rfl, rfl, (.int .i64 1), K.res1 rfl rfl, [], ?_, hS.pick [0]⟩
      exact ⟨rfl, .inr ⟨rfl, by omega⟩⟩
    ·  -- no
      refine K.RW.q rfl (by kernel_rfl) (K.QR.nice (v := .bool (decide ((n : Int) > (262144 : Int)))) (by kernel_rfl) (congrArg Value.bool (decide_eq_false h_2))) ?_
      refine K.RW.qs [.bool false, .bool false, .int .i64 t] (by kernel_rfl) ?_
      by_cases h_3 : (t : Int) < (1 : Int)
      ·  -- yes
        refine K.RW.q rfl (by kernel_rfl) (K.QR.nice (v := .bool (decide ((t : Int) < (1 : Int)))) (by kernel_rfl) (congrArg Value.bool (decide_eq_true h_3))) ?_
        refine K.RW.qs [.bool true, .bool true] (by kernel_rfl) ?_
        refine K.RW.skip rfl (by kernel_rfl) ?_
        refine K.RW.skip rfl (by kernel_rfl) ?_
        refine K.RW.qs [.bool true] (by kernel_rfl) ?_
        refine K.RW.nil ?_
        refine K.thn_normal ?_
        refine K.KW.ifT rfl ?_
        refine K.KW.seq ?_
        -- 2 :23
        refine K.KW.region ?_
        refine K.RW.qs [.int .i64 1] (by kernel_rfl) ?_
        refine K.RW.nil ?_
        refine K.thn_normal ?_
        refine K.KW.ret ?_
        refine K.thn_ret ?_
        refine ⟨.inr rfl, rfl, (.int .i64 1), K.res1 rfl rfl, [], ?_, hS.pick [0]⟩
        exact ⟨rfl, .inr ⟨rfl, by omega⟩⟩
      ·  -- no
        refine K.RW.q rfl (by kernel_rfl) (K.QR.nice (v := .bool (decide ((t : Int) < (1 : Int)))) (by kernel_rfl) (congrArg Value.bool (decide_eq_false h_3))) ?_
        refine K.RW.qs [.bool false, .bool false, .int .i64 t] (by kernel_rfl) ?_
        by_cases h_4 : (t : Int) > (64 : Int)
        ·  -- yes
          refine K.RW.q rfl (by kernel_rfl) (K.QR.nice (v := .bool (decide ((t : Int) > (64 : Int)))) (by kernel_rfl) (congrArg Value.bool (decide_eq_true h_4))) ?_
          refine K.RW.qs [.bool true] (by kernel_rfl) ?_
          refine K.RW.nil ?_
          refine K.thn_normal ?_
          refine K.KW.ifT rfl ?_
          refine K.KW.seq ?_
          -- 2 :23
          refine K.KW.region ?_
          refine K.RW.qs [.int .i64 1] (by kernel_rfl) ?_
          refine K.RW.nil ?_
          refine K.thn_normal ?_
          refine K.KW.ret ?_
          refine K.thn_ret ?_
          refine ⟨.inr rfl, rfl, (.int .i64 1), K.res1 rfl rfl, [], ?_, hS.pick [0]⟩
          exact ⟨rfl, .inr ⟨rfl, by omega⟩⟩
        ·  -- no
          refine K.RW.q rfl (by kernel_rfl) (K.QR.nice (v := .bool (decide ((t : Int) > (64 : Int)))) (by kernel_rfl) (congrArg Value.bool (decide_eq_false h_4))) ?_
          refine K.RW.qs [.bool false] (by kernel_rfl) ?_
          refine K.RW.nil ?_
          refine K.thn_normal ?_
          refine K.KW.ifF rfl ?_
          refine K.KW.skip ?_
          refine K.thn_normal ?_
          refine K.KW.seq ?_
          -- 3 :25
          refine K.KW.region ?_
          refine K.RW.qs [.int .i64 0] (by kernel_rfl) ?_
          refine K.RW.nil ?_
          refine K.thn_normal ?_
          refine K.KW.ret ?_
          refine ⟨.inr rfl, rfl, (.int .i64 0), K.res1 rfl rfl, [], ?_, hS.pick [0]⟩
          exact ⟨rfl, .inl ⟨rfl, by omega⟩⟩

set_option maxHeartbeats 1000000 in
set_option maxRecDepth 100000 in
theorem mayOpen_okR (w0 : World) (n : Nat) (t : Int) (hn : n ≤ 9223372036854775807) (ht : isInt t) :
    K.GC Try.prog w0 50 #[.int .i64 ((n : Nat) : Int), .int .i64 t] [] (fun v post => post = [] ∧ v = .int .i64 (mayOpenM n t)) := by
  refine K.GC.mk (n := 19) Try.func50 rfl rfl [.int .i64 ((n : Nat) : Int), .int .i64 t] rfl rfl ?_
  intro fr w hS
  replace hS : K.Sat w0 [fr] w := hS
  refine K.KW.seq ?_
  -- 0 :28
  refine K.KW.region ?_
  refine K.RW.qs [.int .i64 0] (by kernel_rfl) ?_
  refine K.RW.nil ?_
  refine K.thn_normal ?_
  refine K.KW.seq ?_
  refine K.KW.seq ?_
  -- 1 :29
  refine K.KW.region ?_
  refine K.RW.qs [.int .i64 t] (by kernel_rfl) ?_
  by_cases h_1 : (t : Int) < (1 : Int)
  ·  -- yes
    refine K.RW.q rfl rfl (K.QR.nice (v := .bool (decide ((t : Int) < (1 : Int)))) (by kernel_rfl) (congrArg Value.bool (decide_eq_true h_1))) ?_
    refine K.RW.qs [.bool true] (by kernel_rfl) ?_
    refine K.RW.skip rfl (by kernel_rfl) ?_
    refine K.RW.skip rfl (by kernel_rfl) ?_
    refine K.RW.qs [.bool true] (by kernel_rfl) ?_
    refine K.RW.nil ?_
    refine K.thn_normal ?_
    refine K.KW.ifT rfl ?_
    refine K.KW.seq ?_
    -- 2 :30
    refine K.KW.region ?_
    refine K.RW.qs [.int .i64 1] (by kernel_rfl) ?_
    refine K.RW.nil ?_
    refine K.thn_normal ?_
    refine K.KW.ret ?_
    refine K.thn_ret ?_
    refine ⟨.inr rfl, rfl, (.int .i64 1), K.res1 rfl rfl, [], ?_, hS.pick [0]⟩
    exact ⟨rfl, congrArg (Value.int .i64) (by unfold mayOpenM; (repeat' split) <;> omega)⟩
  ·  -- no
    refine K.RW.q rfl rfl (K.QR.nice (v := .bool (decide ((t : Int) < (1 : Int)))) (by kernel_rfl) (congrArg Value.bool (decide_eq_false h_1))) ?_
    refine K.RW.qs [.bool false, .int .i64 t] (by kernel_rfl) ?_
    by_cases h_2 : (t : Int) > (64 : Int)
    ·  -- yes
      refine K.RW.q rfl (by kernel_rfl) (K.QR.nice (v := .bool (decide ((t : Int) > (64 : Int)))) (by kernel_rfl) (congrArg Value.bool (decide_eq_true h_2))) ?_
      refine K.RW.qs [.bool true] (by kernel_rfl) ?_
      refine K.RW.nil ?_
      refine K.thn_normal ?_
      refine K.KW.ifT rfl ?_
      refine K.KW.seq ?_
      -- 2 :30
      refine K.KW.region ?_
      refine K.RW.qs [.int .i64 1] (by kernel_rfl) ?_
      refine K.RW.nil ?_
      refine K.thn_normal ?_
      refine K.KW.ret ?_
      refine K.thn_ret ?_
      refine ⟨.inr rfl, rfl, (.int .i64 1), K.res1 rfl rfl, [], ?_, hS.pick [0]⟩
      exact ⟨rfl, congrArg (Value.int .i64) (by unfold mayOpenM; (repeat' split) <;> omega)⟩
    ·  -- no
      refine K.RW.q rfl (by kernel_rfl) (K.QR.nice (v := .bool (decide ((t : Int) > (64 : Int)))) (by kernel_rfl) (congrArg Value.bool (decide_eq_false h_2))) ?_
      refine K.RW.qs [.bool false] (by kernel_rfl) ?_
      refine K.RW.nil ?_
      refine K.thn_normal ?_
      refine K.KW.ifF rfl ?_
      refine K.KW.skip ?_
      refine K.thn_normal ?_
      refine K.KW.seq ?_
      refine K.KW.seq ?_
      -- 3 :32
      refine K.KW.region ?_
      refine K.RW.qs [.int .i64 ((n : Nat) : Int)] (by kernel_rfl) ?_
      refine K.RW.q rfl rfl (K.QR.remi64 (((n : Nat) : Int) : Int) 8 ((n % 8 : Nat) : Int) (by kernel_rfl) (by omega) (by omega)) ?_
      by_cases h_3 : (((n % 8 : Nat) : Int) : Int) = (0 : Int)
      ·  -- yes
        refine K.RW.q rfl rfl (K.QR.nice (v := .bool ((((n % 8 : Nat) : Int) : Int) != (0 : Int))) (by kernel_rfl) (congrArg Value.bool (bne_eq_false_iff_eq.2 h_3))) ?_
        refine K.RW.nil ?_
        refine K.thn_normal ?_
        refine K.KW.ifF rfl ?_
        refine K.KW.skip ?_
        refine K.thn_normal ?_
        refine K.KW.seq ?_
        refine K.KW.seq ?_
        -- 5 :35
        refine K.KW.region ?_
        refine K.RW.qs [.int .i64 ((n : Nat) : Int)] (by kernel_rfl) ?_
        refine K.RW.q rfl rfl (K.QR.quoi64 (((n : Nat) : Int) : Int) 8 ((n / 8 : Nat) : Int) (by kernel_rfl) (by omega) (by omega)) ?_
        by_cases h_4 : (((n / 8 : Nat) : Int) : Int) > (262144 : Int)
        ·  -- yes
          refine K.RW.q rfl rfl (K.QR.nice (v := .bool (decide ((((n / 8 : Nat) : Int) : Int) > (262144 : Int)))) (by kernel_rfl) (congrArg Value.bool (decide_eq_true h_4))) ?_
          refine K.RW.nil ?_
          refine K.thn_normal ?_
          refine K.KW.ifT rfl ?_
          refine K.KW.seq ?_
          -- 6 :36
          refine K.KW.region ?_
          refine K.RW.qs [.int .i64 2] (by kernel_rfl) ?_
          refine K.RW.nil ?_
          refine K.thn_normal ?_
          refine K.KW.ret ?_
          refine K.thn_ret ?_
          refine ⟨.inr rfl, rfl, (.int .i64 2), K.res1 rfl rfl, [], ?_, hS.pick [0]⟩
          exact ⟨rfl, congrArg (Value.int .i64) (by unfold mayOpenM; (repeat' split) <;> omega)⟩
        ·  -- no
          refine K.RW.q rfl rfl (K.QR.nice (v := .bool (decide ((((n / 8 : Nat) : Int) : Int) > (262144 : Int)))) (by kernel_rfl) (congrArg Value.bool (decide_eq_false h_4))) ?_
          refine K.RW.nil ?_
          refine K.thn_normal ?_
          refine K.KW.ifF rfl ?_
          refine K.KW.skip ?_
          refine K.thn_normal ?_
          refine K.KW.seq ?_
          refine K.KW.seq ?_
          -- 7 :38
          refine K.KW.region ?_
          refine K.RW.qs [.int .i64 ((n : Nat) : Int)] (by kernel_rfl) ?_
          by_cases h_5 : (((n : Nat) : Int) : Int) = (0 : Int)
          ·  -- yes
            refine K.RW.q rfl rfl (K.QR.nice (v := .bool ((((n : Nat) : Int) : Int) == (0 : Int))) (by kernel_rfl) (congrArg Value.bool (beq_iff_eq.2 h_5))) ?_
            refine K.RW.nil ?_
            refine K.thn_normal ?_
            refine K.KW.ifT rfl ?_
            refine K.KW.seq ?_
            -- 8 :39
            refine K.KW.region ?_
            refine K.RW.qs [.int .i64 3] (by kernel_rfl) ?_
            refine K.RW.nil ?_
            refine K.thn_normal ?_
            refine K.KW.ret ?_
            refine K.thn_ret ?_
            refine ⟨.inr rfl, rfl, (.int .i64 3), K.res1 rfl rfl, [], ?_, hS.pick [0]⟩
            exact ⟨rfl, congrArg (Value.int .i64) (by unfold mayOpenM; (repeat' split) <;> omega)⟩
          ·  -- no
            refine K.RW.q rfl rfl (K.QR.nice (v := .bool ((((n : Nat) : Int) : Int) == (0 : Int))) (by kernel_rfl) (congrArg Value.bool (beq_eq_false_iff_ne.2 h_5))) ?_
            refine K.RW.nil ?_
            refine K.thn_normal ?_
            refine K.KW.ifF rfl ?_
            refine K.KW.skip ?_
            refine K.thn_normal ?_
            refine K.KW.seq ?_
            -- 9 :41
            refine K.KW.region ?_
            refine K.RW.qs [.int .i64 0] (by kernel_rfl) ?_
            refine K.RW.nil ?_
            refine K.thn_normal ?_
            refine K.KW.ret ?_
            refine ⟨.inr rfl, rfl, (.int .i64 0), K.res1 rfl rfl, [], ?_, hS.pick [0]⟩
            exact ⟨rfl, congrArg (Value.int .i64) (by unfold mayOpenM; (repeat' split) <;> omega)⟩
      ·  -- no
        refine K.RW.q rfl rfl (K.QR.nice (v := .bool ((((n % 8 : Nat) : Int) : Int) != (0 : Int))) (by kernel_rfl) (congrArg Value.bool (bne_iff_ne.2 h_3))) ?_
        refine K.RW.nil ?_
        refine K.thn_normal ?_
        refine K.KW.ifT rfl ?_
        refine K.KW.seq ?_
        -- 4 :33
        refine K.KW.region ?_
        refine K.RW.qs [.int .i64 3] (by kernel_rfl) ?_
        refine K.RW.nil ?_
        refine K.thn_normal ?_
        refine K.KW.ret ?_
        refine K.thn_ret ?_
        refine ⟨.inr rfl, rfl, (.int .i64 3), K.res1 rfl rfl, [], ?_, hS.pick [0]⟩
        exact ⟨rfl, congrArg (Value.int .i64) (by unfold mayOpenM; (repeat' split) <;> omega)⟩

set_option maxHeartbeats 1000000 in
set_option maxRecDepth 100000 in
theorem rdLoad_ok (w0 : World) (p n t : Nat) (D : DevM) (l : K.Cs) (x : RDevAt l p n t D) (i : Int) (hi : isInt i) :
    K.GC Try.prog w0 90 #[.pointer (some ⟨p, 0, none⟩), .int .i64 i] [l] (fun v post => post = [l] ∧ ((v = .tuple #[.int .u64 (D.seen.getD i.toNat 0), .int .i64 0] ∧ 0 ≤ i ∧ i < n * 8) ∨ (v = .tuple #[.int .u64 0, .int .i64 5] ∧ ¬(0 ≤ i ∧ i < n * 8)))) := by
  refine K.GC.mk (n := 24) Try.func90 rfl rfl [.pointer (some ⟨p, 0, none⟩), .int .i64 i] rfl rfl ?_
  intro fr w hS
  replace hS : K.Sat w0 [l, fr] w := hS
  obtain ⟨g, gk, gs, gw, gf, gz, vs, ka, sa, wa, fa, ck, cs, cw, cf, rfl, hg, ok, os, ow, of, lv, oz, dk⟩ := x
  have dk2 := dk; obtain ⟨lk, ls, lw, lf, lB, n0, n1, t0, t1⟩ := dk2
  replace hS : K.Sat w0 [g, gk, gs, gw, gf, gz, fr] w := hS.of
  refine K.KW.seq ?_
  -- 0 :59
  refine K.KW.region ?_
  refine K.RW.qs [.int .u64 0, .int .i64 0] (by kernel_rfl) ?_
  refine K.RW.nil ?_
  refine K.thn_normal ?_
  refine K.KW.seq ?_
  refine K.KW.seq ?_
  -- 1 :60
  refine K.KW.region ?_
  refine K.RW.qs [.int .i64 i] (by kernel_rfl) ?_
  by_cases h_1 : (i : Int) < (0 : Int)
  ·  -- yes
    refine K.RW.q rfl rfl (K.QR.nice (v := .bool (decide ((i : Int) < (0 : Int)))) (by kernel_rfl) (congrArg Value.bool (decide_eq_true h_1))) ?_
    refine K.RW.qs [.bool true] (by kernel_rfl) ?_
    refine K.RW.skip rfl (by kernel_rfl) ?_
    refine K.RW.skip rfl (by kernel_rfl) ?_
    refine K.RW.skip rfl (by kernel_rfl) ?_
    refine K.RW.skip rfl (by kernel_rfl) ?_
    refine K.RW.skip rfl (by kernel_rfl) ?_
    refine K.RW.skip rfl (by kernel_rfl) ?_
    refine K.RW.skip rfl (by kernel_rfl) ?_
    refine K.RW.qs [.bool true] (by kernel_rfl) ?_
    refine K.RW.nil ?_
    refine K.thn_normal ?_
    refine K.KW.ifT rfl ?_
    refine K.KW.seq ?_
    -- 2 :61
    refine K.KW.region ?_
    refine K.RW.qs [.int .u64 0, .int .i64 5] (by kernel_rfl) ?_
    refine K.RW.nil ?_
    refine K.thn_normal ?_
    refine K.KW.ret ?_
    refine K.thn_ret ?_
    replace hS : K.Sat w0 [[g, gk, gs, gw, gf, gz].flatten, fr] w := (hS.pick [0, 1, 2, 3, 4, 5, 6]).of
    refine ⟨.inr rfl, rfl, (.tuple #[.int .u64 0, .int .i64 5]), K.res2 rfl rfl rfl, [[g, gk, gs, gw, gf, gz].flatten], ?_, hS.pick [0, 1]⟩
    exact ⟨rfl, .inr ⟨rfl, by omega⟩⟩
  ·  -- no
    refine K.RW.q rfl rfl (K.QR.nice (v := .bool (decide ((i : Int) < (0 : Int)))) (by kernel_rfl) (congrArg Value.bool (decide_eq_false h_1))) ?_
    refine K.RW.qs [.bool false, .int .i64 i, .pointer (some ⟨p, 0, none⟩), .pointer (some ⟨p, 0, none⟩), .pointer (some ⟨p, 1, none⟩)] (by kernel_rfl) ?_
    refine K.RW.q rfl (by kernel_rfl) (K.QR.ld1 (v := .slice sa (n * 8) cs) rfl rfl (by kernel_rfl) ((hS.blk 0 rfl hg).cell rfl)) ?_
    refine K.RW.q rfl (by kernel_rfl) (K.QR.len (P := Try.prog) rfl rfl Try.underlying22) ?_
    by_cases h_2 : (i : Int) ≥ (((n * 8 : Nat) : Int) : Int)
    ·  -- yes
      refine K.RW.q rfl (by kernel_rfl) (K.QR.nice (v := .bool (decide ((i : Int) ≥ (((n * 8 : Nat) : Int) : Int)))) (by kernel_rfl) (congrArg Value.bool (decide_eq_true h_2))) ?_
      refine K.RW.qs [.bool true] (by kernel_rfl) ?_
      refine K.RW.nil ?_
      refine K.thn_normal ?_
      refine K.KW.ifT rfl ?_
      refine K.KW.seq ?_
      -- 2 :61
      refine K.KW.region ?_
      refine K.RW.qs [.int .u64 0, .int .i64 5] (by kernel_rfl) ?_
      refine K.RW.nil ?_
      refine K.thn_normal ?_
      refine K.KW.ret ?_
      refine K.thn_ret ?_
      replace hS : K.Sat w0 [[g, gk, gs, gw, gf, gz].flatten, fr] w := (hS.pick [0, 1, 2, 3, 4, 5, 6]).of
      refine ⟨.inr rfl, rfl, (.tuple #[.int .u64 0, .int .i64 5]), K.res2 rfl rfl rfl, [[g, gk, gs, gw, gf, gz].flatten], ?_, hS.pick [0, 1]⟩
      exact ⟨rfl, .inr ⟨rfl, by omega⟩⟩
    ·  -- no
      refine K.RW.q rfl (by kernel_rfl) (K.QR.nice (v := .bool (decide ((i : Int) ≥ (((n * 8 : Nat) : Int) : Int)))) (by kernel_rfl) (congrArg Value.bool (decide_eq_false h_2))) ?_
      refine K.RW.qs [.bool false] (by kernel_rfl) ?_
      refine K.RW.nil ?_
      refine K.thn_normal ?_
      refine K.KW.ifF rfl ?_
      refine K.KW.skip ?_
      refine K.thn_normal ?_
      refine K.KW.seq ?_
      -- 3 :63
      refine K.KW.region ?_
      refine K.RW.qs [.pointer (some ⟨p, 0, none⟩), .pointer (some ⟨p, 0, none⟩), .pointer (some ⟨p, 1, none⟩)] (by kernel_rfl) ?_
      refine K.RW.q rfl rfl (K.QR.ld1 (v := .slice sa (n * 8) cs) rfl rfl (by kernel_rfl) ((hS.blk 0 rfl hg).cell rfl)) ?_
      refine K.RW.qs [.int .i64 i] (by kernel_rfl) ?_
      obtain ⟨b_3, rfl⟩ := os.some_ (by have := os.le; omega)
      refine K.RW.q rfl rfl (K.QR.ix i.toNat 1 rfl rfl rfl Try.underlying22 (by kernel_rfl) (by omega) (by first | (simp; done) | omega | (simp; omega))) ?_
      refine K.RW.q rfl rfl (K.QR.ld1 (v := .int .u64 (D.seen.getD i.toNat 0)) rfl rfl (by kernel_rfl) (K.Own.atS (c := cU64) (d := 0) (fun _ => rfl) (hS.ownr 2 rfl os) ls i.toNat (by omega))) ?_
      refine K.RW.qs [.int .u64 (D.seen.getD i.toNat 0), .int .i64 0] (by kernel_rfl) ?_
      refine K.RW.nil ?_
      refine K.thn_normal ?_
      refine K.KW.ret ?_
      replace hS : K.Sat w0 [[g, gk, gs, gw, gf, gz].flatten, fr] w := (hS.pick [0, 1, 2, 3, 4, 5, 6]).of
      refine ⟨.inr rfl, rfl, (.tuple #[.int .u64 (D.seen.getD i.toNat 0), .int .i64 0]), K.res2 rfl rfl rfl, [[g, gk, gs, gw, gf, gz].flatten], ?_, hS.pick [0, 1]⟩
      exact ⟨rfl, .inl ⟨rfl, by omega⟩⟩

set_option maxHeartbeats 1000000 in
set_option maxRecDepth 100000 in
theorem rdStore_ok (w0 : World) (p n t : Nat) (D : DevM) (l : K.Cs) (x : RDevAt l p n t D) (i : Int) (hi : isInt i) (y : Int) :
    K.GC Try.prog w0 91 #[.pointer (some ⟨p, 0, none⟩), .int .i64 i, .int .u64 y] [l] (fun v post => (v = .int .i64 0 ∧ (0 ≤ i ∧ i < n * 8) ∧ ∃ l', post = [l'] ∧ RDevAt l' p n t (D.store i.toNat y)) ∨ (v = .int .i64 5 ∧ ¬(0 ≤ i ∧ i < n * 8) ∧ post = [l])) := by
  refine K.GC.mk (n := 25) Try.func91 rfl rfl [.pointer (some ⟨p, 0, none⟩), .int .i64 i, .int .u64 y] rfl rfl ?_
  intro fr w hS
  replace hS : K.Sat w0 [l, fr] w := hS
  obtain ⟨g, gk, gs, gw, gf, gz, vs, ka, sa, wa, fa, ck, cs, cw, cf, rfl, hg, ok, os, ow, of, lv, oz, dk⟩ := x
  have dk2 := dk; obtain ⟨lk, ls, lw, lf, lB, n0, n1, t0, t1⟩ := dk2
  replace hS : K.Sat w0 [g, gk, gs, gw, gf, gz, fr] w := hS.of
  refine K.KW.seq ?_
  -- 0 :67
  refine K.KW.region ?_
  refine K.RW.qs [.int .i64 0] (by kernel_rfl) ?_
  refine K.RW.nil ?_
  refine K.thn_normal ?_
  refine K.KW.seq ?_
  refine K.KW.seq ?_
  -- 1 :68
  refine K.KW.region ?_
  refine K.RW.qs [.int .i64 i] (by kernel_rfl) ?_
  by_cases h_1 : (i : Int) < (0 : Int)
  ·  -- yes
    refine K.RW.q rfl rfl (K.QR.nice (v := .bool (decide ((i : Int) < (0 : Int)))) (by kernel_rfl) (congrArg Value.bool (decide_eq_true h_1))) ?_
    refine K.RW.qs [.bool true] (by kernel_rfl) ?_
    refine K.RW.skip rfl (by kernel_rfl) ?_
    refine K.RW.skip rfl (by kernel_rfl) ?_
    refine K.RW.skip rfl (by kernel_rfl) ?_
    refine K.RW.skip rfl (by kernel_rfl) ?_
    refine K.RW.skip rfl (by kernel_rfl) ?_
    refine K.RW.skip rfl (by kernel_rfl) ?_
    refine K.RW.skip rfl (by kernel_rfl) ?_
    refine K.RW.qs [.bool true] (by kernel_rfl) ?_
    refine K.RW.nil ?_
    refine K.thn_normal ?_
    refine K.KW.ifT rfl ?_
    refine K.KW.seq ?_
    -- 2 :69
    refine K.KW.region ?_
    refine K.RW.qs [.int .i64 5] (by kernel_rfl) ?_
    refine K.RW.nil ?_
    refine K.thn_normal ?_
    refine K.KW.ret ?_
    refine K.thn_ret ?_
    replace hS : K.Sat w0 [[g, gk, gs, gw, gf, gz].flatten, fr] w := (hS.pick [0, 1, 2, 3, 4, 5, 6]).of
    refine ⟨.inr rfl, rfl, (.int .i64 5), K.res1 rfl rfl, [[g, gk, gs, gw, gf, gz].flatten], ?_, hS.pick [0, 1]⟩
    exact .inr ⟨rfl, by omega, rfl⟩
  ·  -- no
    refine K.RW.q rfl rfl (K.QR.nice (v := .bool (decide ((i : Int) < (0 : Int)))) (by kernel_rfl) (congrArg Value.bool (decide_eq_false h_1))) ?_
    refine K.RW.qs [.bool false, .int .i64 i, .pointer (some ⟨p, 0, none⟩), .pointer (some ⟨p, 0, none⟩), .pointer (some ⟨p, 1, none⟩)] (by kernel_rfl) ?_
    refine K.RW.q rfl (by kernel_rfl) (K.QR.ld1 (v := .slice sa (n * 8) cs) rfl rfl (by kernel_rfl) ((hS.blk 0 rfl hg).cell rfl)) ?_
    refine K.RW.q rfl (by kernel_rfl) (K.QR.len (P := Try.prog) rfl rfl Try.underlying22) ?_
    by_cases h_2 : (i : Int) ≥ (((n * 8 : Nat) : Int) : Int)
    ·  -- yes
      refine K.RW.q rfl (by kernel_rfl) (K.QR.nice (v := .bool (decide ((i : Int) ≥ (((n * 8 : Nat) : Int) : Int)))) (by kernel_rfl) (congrArg Value.bool (decide_eq_true h_2))) ?_
      refine K.RW.qs [.bool true] (by kernel_rfl) ?_
      refine K.RW.nil ?_
      refine K.thn_normal ?_
      refine K.KW.ifT rfl ?_
      refine K.KW.seq ?_
      -- 2 :69
      refine K.KW.region ?_
      refine K.RW.qs [.int .i64 5] (by kernel_rfl) ?_
      refine K.RW.nil ?_
      refine K.thn_normal ?_
      refine K.KW.ret ?_
      refine K.thn_ret ?_
      replace hS : K.Sat w0 [[g, gk, gs, gw, gf, gz].flatten, fr] w := (hS.pick [0, 1, 2, 3, 4, 5, 6]).of
      refine ⟨.inr rfl, rfl, (.int .i64 5), K.res1 rfl rfl, [[g, gk, gs, gw, gf, gz].flatten], ?_, hS.pick [0, 1]⟩
      exact .inr ⟨rfl, by omega, rfl⟩
    ·  -- no
      refine K.RW.q rfl (by kernel_rfl) (K.QR.nice (v := .bool (decide ((i : Int) ≥ (((n * 8 : Nat) : Int) : Int)))) (by kernel_rfl) (congrArg Value.bool (decide_eq_false h_2))) ?_
      refine K.RW.qs [.bool false] (by kernel_rfl) ?_
      refine K.RW.nil ?_
      refine K.thn_normal ?_
      refine K.KW.ifF rfl ?_
      refine K.KW.skip ?_
      refine K.thn_normal ?_
      refine K.KW.seq ?_
      -- 3 :71
      refine K.KW.region ?_
      refine K.RW.qs [.pointer (some ⟨p, 0, none⟩), .pointer (some ⟨p, 0, none⟩), .pointer (some ⟨p, 1, none⟩)] (by kernel_rfl) ?_
      refine K.RW.q rfl rfl (K.QR.ld1 (v := .slice sa (n * 8) cs) rfl rfl (by kernel_rfl) ((hS.blk 0 rfl hg).cell rfl)) ?_
      refine K.RW.qs [.int .i64 i, .int .u64 y] (by kernel_rfl) ?_
      obtain ⟨b_3, rfl⟩ := os.some_ (by have := os.le; omega)
      refine K.RW.q rfl rfl (K.QR.ix i.toNat 1 rfl rfl rfl Try.underlying22 (by kernel_rfl) (by omega) (by first | (simp; done) | omega | (simp; omega))) ?_
      refine K.RW.l rfl (K.OW.grst 2 i.toNat [.int .u64 y] (((D.seen.set i.toNat y)).flatMap cU64) hS os ?_ (by show _ + 1 ≤ _; omega) (K.set1 (c := cU64) D.seen i.toNat y (by have := ls; omega)))
      clear hS; intro w l_5 o_6 hS
      have ln_7 : ((D.seen.set i.toNat y)).length = _ := (List.length_set).trans ls
      replace hS : K.Sat w0 [g, gk, l_5, gw, gf, gz, fr] w := hS
      refine K.RW.nil ?_
      refine K.thn_normal ?_
      refine K.KW.seq ?_
      -- 4 :72
      refine K.KW.region ?_
      refine K.RW.qs [.int .i64 0] (by kernel_rfl) ?_
      refine K.RW.nil ?_
      refine K.thn_normal ?_
      refine K.KW.ret ?_
      replace hS : K.Sat w0 [[g, gk, l_5, gw, gf, gz].flatten, fr] w := (hS.pick [0, 1, 2, 3, 4, 5, 6]).of
      refine ⟨.inr rfl, rfl, (.int .i64 0), K.res1 rfl rfl, [[g, gk, l_5, gw, gf, gz].flatten], ?_, hS.pick [0, 1]⟩
      exact .inl ⟨rfl, by omega, _, rfl, ⟨_, _, _, _, _, _, _, _, _, _, _, _, _, _, _, rfl, hg, ok, o_6, ow, of, lv, oz, dk.store⟩⟩

end Go.Proofs.Ytgeihjiichdpbaa
