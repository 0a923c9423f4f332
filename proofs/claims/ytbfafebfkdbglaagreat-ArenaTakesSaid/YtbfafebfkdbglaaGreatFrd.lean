import Derived.Test.YtbfafebfkdbglaaGreatFdv5
/- The document's device: what it is in memory. -/
namespace Go.Proofs.YtbfafebfkdbglaaGreat
open Go.RowKit
set_option linter.unusedVariables false
attribute [local irreducible] K.KW K.RW K.DW K.OW K.QR K.KC
def BoolG (g : K.Cs) (v : Value) (B : List Bool) : Prop := ∃ a c, v = .slice a B.length c ∧ K.OwnG g 4 1 a B.length c (B.flatMap cBool)
/-- rows of something, one by one -/
def RowsAt {α : Type} (p : K.Cs → Value → α → Prop) : List K.Cs → List Value → List α → Prop
 | [], [], [] => True
 | g :: gs, v :: vs, B :: Bs => p g v B ∧ RowsAt p gs vs Bs
 | _, _, _ => False
def RowsG {α : Type} (p : K.Cs → Value → α → Prop) (z : K.Cs) (vs : List Value) (Bs : List α) : Prop := ∃ gs, z = gs.flatten ∧ RowsAt p gs vs Bs
section
variable {α : Type} {p : K.Cs → Value → α → Prop}
theorem RowsAt.at : ∀ {gs : List K.Cs} {vs : List Value} {Bs : List α} (d : α) (k : Nat), RowsAt p gs vs Bs → k < Bs.length → ∃ A g C v, gs = A ++ g :: C ∧ vs[k]? = some v ∧ p g v (Bs.getD k d) ∧
  ∀ g' v' B', p g' v' B' → RowsAt p (A ++ g' :: C) (vs.set k v') (Bs.set k B')
 | g :: gs, v :: vs, B :: Bs, d, 0, h, _ => ⟨[], g, gs, v, rfl, rfl, h.1, fun g' v' B' hs => ⟨hs, h.2⟩⟩
 | g :: gs, v :: vs, B :: Bs, d, k + 1, h, hk => by
  obtain ⟨A, g1, C, v1, h1, h2, h3, h4⟩ := RowsAt.at d k h.2 (by simpa using hk)
  exact ⟨g :: A, g1, C, v1, by rw [h1]; rfl, by simpa using h2, by simpa using h3, fun g' v' B' hs => ⟨h.1, h4 g' v' B' hs⟩⟩
 | [], [], [], _, k, _, hk => by simp at hk
 | [], _ :: _, _, _, _, h, _ => h.elim
 | [], [], _ :: _, _, _, h, _ => h.elim
 | _ :: _, [], _, _, _, h, _ => h.elim
 | _ :: _, _ :: _, [], _, _, h, _ => h.elim
theorem RowsG.at {z : K.Cs} {vs : List Value} {Bs : List α} (d : α) (h : RowsG p z vs Bs) (k : Nat) (hk : k < Bs.length) : ∃ gA gi gC v, z = [gA, gi, gC].flatten ∧ vs[k]? = some v ∧ p gi v (Bs.getD k d) ∧
  ∀ g' v' B', p g' v' B' → RowsG p [gA, g', gC].flatten (vs.set k v') (Bs.set k B') := by
 obtain ⟨gs, rfl, h⟩ := h
 obtain ⟨A, g, C, v, rfl, h2, h3, h4⟩ := h.at d k hk
 exact ⟨A.flatten, g, C.flatten, v, by simp, h2, h3, fun g' v' B' ho => ⟨_, by simp, h4 g' v' B' ho⟩⟩
theorem RowsAt.snoc : ∀ {gs : List K.Cs} {vs : List Value} {Bs : List α} {g : K.Cs} {v : Value} {B : α}, RowsAt p gs vs Bs → p g v B → RowsAt p (gs ++ [g]) (vs ++ [v]) (Bs ++ [B])
 | [], [], [], _, _, _, _, h => ⟨h, trivial⟩
 | _ :: _, _ :: _, _ :: _, _, _, _, h, h2 => ⟨h.1, RowsAt.snoc h.2 h2⟩
 | [], _ :: _, _, _, _, _, h, _ => h.elim
 | [], [], _ :: _, _, _, _, h, _ => h.elim
 | _ :: _, [], _, _, _, _, h, _ => h.elim
 | _ :: _, _ :: _, [], _, _, _, h, _ => h.elim
theorem RowsG.snoc {z g : K.Cs} {vs : List Value} {Bs : List α} {v : Value} {B : α} (h : RowsG p z vs Bs) (h2 : p g v B) : RowsG p [z, g].flatten (vs ++ [v]) (Bs ++ [B]) := by
 obtain ⟨gs, rfl, h⟩ := h
 exact ⟨gs ++ [g], by simp, h.snoc h2⟩
theorem RowsG.nil : RowsG p [] [] [] := ⟨[], rfl, trivial⟩
theorem RowsG.same {z z' : K.Cs} {vs vs' : List Value} {Bs Bs' : List α} (h : RowsG p z vs Bs) (h1 : z = z') (h2 : vs = vs') (h3 : Bs = Bs') : RowsG p z' vs' Bs' := by subst h1 h2 h3; exact h
end
def RDevAt (l : K.Cs) (p n t : Nat) (D : DevM) : Prop :=
 ∃ (g gk gs gw gf gz : K.Cs) (vs : List Value) (ka sa wa fa : Option Addr) (ck cs cw cf : Nat), l = [g, gk, gs, gw, gf, gz].flatten ∧
  g = [K.pt p 160 [.slice ka (n * 8) ck, .slice sa (n * 8) cs, .slice wa n cw, .slice fa t cf]] ∧ K.OwnG gk 57 1 ka (n * 8) ck (D.kept.flatMap cU64) ∧ K.OwnG gs 57 1 sa (n * 8) cs (D.seen.flatMap cU64) ∧
  K.OwnG gw 3 1 wa n cw (D.writes.flatMap cI64) ∧ K.OwnG gf 26 1 fa t cf (vs.flatMap cV) ∧ vs.length = t ∧ RowsG BoolG gz vs D.flush ∧ D.ok n t
end Go.Proofs.YtbfafebfkdbglaaGreat
