import Derived.Test.YtnehocjmgnhhhaaFck2
/- Witness: the example, plain. -/
namespace Go.Proofs.Ytnehocjmgnhhhaa
open Go.RowKit
set_option linter.unusedVariables false
attribute [local irreducible] K.KW K.RW K.DW K.OW K.QR K.KC
def awL1 : List CallM := [⟨0, 3, 4, 0, 1, 0, 0, 5, 3, false, false⟩, ⟨1, 5, 4, 0, 4, 0, 1, 6, 2, false, false⟩]
def awL2 : List CallM := [⟨0, 3, 4, 0, 1, 0, 0, 5, 3, false, false⟩, ⟨1, 5, 4, 0, 3, 0, 1, 6, 2, false, false⟩]
theorem rd0 (w0 : World) : RdSt w0 [] none none none 0 st0 := ⟨fun _ _ => K.RowE.zero _ _ _ _, fun _ _ => K.RowE.zero _ _ _ _, fun _ _ => K.RowE.zero _ _ _ _, Nat.le_refl _⟩
theorem ok0 : okS st0 := ⟨fun i h => by simp [st0] at h, fun i h => by simp [st0, keysP] at h⟩
theorem lin_aw (w0 : World) (a : Option Addr) (cap : Nat) (L : List CallM) (hm : L.length ≤ 1000000) (gx : K.Cs) (hx : ∀ w, K.Sat w0 [gx] w → K.RowE w a L.length 11 (fun i => cCall (L.getD i call0))) (hr : rightH L) (hl : L.length ≤ 8) (he : (endsN L ((List.replicate L.length false).count false + 1) st0 (List.replicate L.length false)).isEmpty = false) :
  K.GC Try.prog w0 18 #[.agg #[.slice none 0 0, .slice none 0 0, .slice none 0 0], .slice a L.length cap] [[], gx] (fun v post => ∃ g', post = [g', gx] ∧ v = .tuple #[.bool true, .int .i64 0]) := by
 refine K.GC.mono (linear_ok w0 a cap L hm gx hx none none none 0 0 0 st0 (by decide) (by decide) [] (rd0 w0) (by decide) (by decide) (by decide)) ?_
 rintro v post (⟨h, _⟩ | ⟨_, h, _⟩ | ⟨_, _, h, _⟩ | ⟨_, _, _, h, _⟩ | ⟨_, _, _, _, g', hp, _, hv⟩)
 ·exact absurd ok0 h
 ·exact absurd hr h
 ·omega
 ·rw [h] at he; cases he
 ·exact ⟨g', hp, hv⟩
theorem chk_aw1 (w0 : World) (a : Option Addr) (cap : Nat) (L : List CallM) (hm : L.length ≤ 1000000) (gx : K.Cs) (hx : ∀ w, K.Sat w0 [gx] w → K.RowE w a L.length 11 (fun i => cCall (L.getD i call0))) (hr : rightH L) (hl : L.length ≤ 100) (Q : List Int) (hQ : isOrd L Q) (hrs : rspP L Q) (he : (runN L st0 Q).isSome = true) :
  K.GC Try.prog w0 13 #[.agg #[.slice none 0 0, .slice none 0 0, .slice none 0 0], .slice a L.length cap] [[], gx] (fun v post => ∃ g' q s m n1 n2 n3 cq cs cm, post = [g', gx] ∧ v = .tuple #[.agg #[.slice q n1 cq, .slice s n2 cs, .slice m n3 cm], .int .i64 0]) := by
 refine K.GC.mono (check_ok w0 a cap L hm gx hx none none none 0 0 0 st0 (by decide) (by decide) [] (rd0 w0) hl (by decide) (by decide) (by decide)) ?_
 rintro v post ⟨g', hp, _, ⟨h, _⟩ | ⟨_, h, _⟩ | ⟨_, _, Q', hQ', _, h, _⟩ | ⟨_, _, Q', hQ', _, _, T, q, cq, s, cs, m, cm, _, _, hv, _⟩⟩
 ·exact absurd ok0 h
 ·exact absurd hr h
 ·obtain rfl := hQ.uniq hQ'
  rcases h with h | h
  ·exact absurd hrs h
  ·rw [h] at he; cases he
 ·exact ⟨g', q, s, m, _, _, _, cq, cs, cm, hp, hv⟩
theorem chk_aw2 (w0 : World) (a : Option Addr) (cap : Nat) (L : List CallM) (hm : L.length ≤ 1000000) (gx : K.Cs) (hx : ∀ w, K.Sat w0 [gx] w → K.RowE w a L.length 11 (fun i => cCall (L.getD i call0))) (hr : rightH L) (hl : L.length ≤ 100) (Q : List Int) (hQ : isOrd L Q) (he : (runN L st0 Q).isNone = true) :
  K.GC Try.prog w0 13 #[.agg #[.slice none 0 0, .slice none 0 0, .slice none 0 0], .slice a L.length cap] [[], gx] (fun v post => ∃ g', post = [g', gx] ∧ v = .tuple #[.agg #[.slice none 0 0, .slice none 0 0, .slice none 0 0], .int .i64 9]) := by
 refine K.GC.mono (check_ok w0 a cap L hm gx hx none none none 0 0 0 st0 (by decide) (by decide) [] (rd0 w0) hl (by decide) (by decide) (by decide)) ?_
 rintro v post ⟨g', hp, _, ⟨h, _⟩ | ⟨_, h, _⟩ | ⟨_, _, Q', hQ', _, _, h⟩ | ⟨_, _, Q', hQ', _, _, T, q, cq, s, cs, m, cm, h, _⟩⟩
 ·exact absurd ok0 h
 ·exact absurd hr h
 ·exact ⟨g', hp, h⟩
 ·obtain rfl := hQ.uniq hQ'
  rw [h] at he; cases he
theorem aw_right1 : rightH awL1 := by
 intro i hi
 have hi : i < 2 := hi
 obtain rfl | rfl : i = 0 ∨ i = 1 := by omega
 ·exact ⟨⟨by decide, .inr ⟨rfl, by unfold answeredH canK valdK looksK; decide⟩⟩, .inl rfl, fun c h => by cases h⟩
 ·exact ⟨⟨by decide, .inr ⟨rfl, by unfold answeredH canK valdK looksK; decide⟩⟩, .inr (by decide), fun c h => by cases h⟩
theorem aw_right2 : rightH awL2 := by
 intro i hi
 have hi : i < 2 := hi
 obtain rfl | rfl : i = 0 ∨ i = 1 := by omega
 ·exact ⟨⟨by decide, .inr ⟨rfl, by unfold answeredH canK valdK looksK; decide⟩⟩, .inl rfl, fun c h => by cases h⟩
 ·exact ⟨⟨by decide, .inr ⟨rfl, by unfold answeredH canK valdK looksK; decide⟩⟩, .inr (by decide), fun c h => by cases h⟩
theorem aw_ord1 : isOrd awL1 [1, 0] := ⟨fun x => by rw [show tookT awL1 = [0, 1] by kernel_rfl]; simp; omega, by
 rw [List.pairwise_cons]; exact ⟨fun y hy => by simp at hy; subst hy; exact .inl (by decide), by simp⟩⟩
theorem aw_ord2 : isOrd awL2 [1, 0] := ⟨fun x => by rw [show tookT awL2 = [0, 1] by kernel_rfl]; simp; omega, by
 rw [List.pairwise_cons]; exact ⟨fun y hy => by simp at hy; subst hy; exact .inl (by decide), by simp⟩⟩
theorem aw_rsp : rspP awL1 [1, 0] := by
 intro i hi
 have hi : i < 2 := hi
 obtain rfl | rfl : i = 0 ∨ i = 1 := by omega
 ·exact ⟨by decide, fun k h => by omega⟩
 ·exact ⟨by decide, fun k h => (by obtain rfl : k = 0 := (by omega); exact (by unfold aheadH; decide))⟩
end Go.Proofs.Ytnehocjmgnhhhaa
