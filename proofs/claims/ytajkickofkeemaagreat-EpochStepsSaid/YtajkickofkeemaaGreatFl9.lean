/- Layer 9: what the statements call. -/
import Derived.Test.YtajkickofkeemaaGreatFfr
import Derived.Test.YtajkickofkeemaaGreatKn
namespace Go.Proofs.YtajkickofkeemaaGreat
open Go.RowKit
set_option linter.unusedVariables false
attribute [local irreducible] K.KW K.RW K.DW K.OW K.QR K.KC
def atS (c : Cfg) (ss : List Int) (j : Nat) : Int := if j = 0 then -2 else aftS c (ss.getD (j - 1) 0)
theorem put_pass {M : MemM} {i w : Int} : (M.put i w).pass.length = M.pass.length := by
 unfold MemM.put; split
 ·rfl
 ·exact List.length_set
theorem accS_pass {M : MemM} {n : Nat} {th i w : Int} : (M.accS n th i w).1.pass.length = M.pass.length := by
 show (MemM.count (if (M.peek n i).isSome then M.put i w else M) _ _).pass.length = _
 split
 ·exact put_pass
 ·rfl
theorem puts_pass {n : Nat} : ∀ {ps : List PutM} {M : MemM}, (putsT n M ps).pass.length = M.pass.length
 | [], _ => rfl
 | p :: ps, M => (puts_pass (ps := ps)).trans accS_pass
theorem ground_pass {n t k : Nat} {ps : List PutM} : (groundM n t k ps).pass.length = k := puts_pass.trans List.length_replicate
theorem layS_ok (w0 : World) (c : Cfg) (pa : Option Addr) (cp : Nat) (ps : List PutM) (hg : ∀ j, j < ps.length → isInt (ps.getD j pu0).at_) (hs : fewC c ∧ ps.length ≤ 100) (gp : K.Cs) (xp : ∀ w, K.Sat w0 [gp] w → K.RowE w pa ps.length 2 (fun i => cPut (ps.getD i pu0))) :
  K.GC Tryz.prog w0 6 #[.agg #[.int .i64 c.th, .int .i64 c.sl, .int .i64 c.lo, .int .i64 c.bu, .slice pa ps.length cp]] [gp] (fun v post => ∃ b p q r u n k gl l m, v = .tuple #[.pointer (some ⟨b, 0, none⟩), .pointer (some ⟨p, 0, none⟩), .pointer (some ⟨r, 0, none⟩), .bool true] ∧ post = [gp, gl, l, m] ∧ gl = layPt b c ∧ MemAt l p q n c.th.toNat (groundM n c.th.toNat k ps) ∧ RMemAt m r u n c.th.toNat (groundM n c.th.toNat k ps) ∧ n = (lns c).toNat ∧ k = (2 + c.th + c.sl).toNat ∧ fewC c ∧ ps.length ≤ 100) := by
 refine (lay_ok w0 c pa cp ps hg gp xp).mono ?_
 rintro v post (h | ⟨_, _, h⟩)
 ·exact h
 ·exact absurd hs h
end Go.Proofs.YtajkickofkeemaaGreat
