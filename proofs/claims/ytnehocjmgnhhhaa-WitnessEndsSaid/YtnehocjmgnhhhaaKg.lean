import Derived.Test.YtnehocjmgnhhhaaKv
/- A memory in groups: what the call has made lies in groups of blocks that share none; all else is as it was. -/
namespace Go.Proofs.Ytnehocjmgnhhhaa
open Go.RowKit
set_option linter.unusedVariables false
namespace K
abbrev Cs := List (Nat × Obj)
def pt (b : Nat) (t : TypeId) (cs : List Value) : Nat × Obj := (b, .cells cs.toArray t (0, 0))
def ids (l : Cs) : List Nat := l.map (·.1)
structure Sat (w0 : World) (ls : List Cs) (w : World) : Prop where
  chg : Chg No w0 w
  nd : (ids ls.flatten).Nodup
  own : ∀ c ∈ ls.flatten, w0.heap.size ≤ c.1 ∧ w.heap[c.1]? = some c.2
def nth : List Cs → Nat → Cs
  | [], _ => []
  | l :: _, 0 => l
  | _ :: ls, i + 1 => nth ls i
def pick : List Nat → List Cs → List Cs
  | [], _ => []
  | i :: is, ls => nth ls i :: pick is ls
def setn : List Cs → Nat → Cs → List Cs
  | [], _, _ => []
  | _ :: ls, 0, x => x :: ls
  | l :: ls, i + 1, x => l :: setn ls i x
theorem mem_ids {c : Nat × Obj} {l : Cs} (h : c ∈ l) : c.1 ∈ ids l := List.mem_map.2 ⟨c, h, rfl⟩
theorem ids_mem {k : Nat} {l : Cs} (h : k ∈ ids l) : ∃ c ∈ l, c.1 = k := by obtain ⟨c, h1, h2⟩ := List.mem_map.1 h; exact ⟨c, h1, h2⟩
theorem ids_app (a b : Cs) : ids (a ++ b) = ids a ++ ids b := List.map_append
theorem nth_mem : ∀ {ls : List Cs} {i : Nat} {c : Nat × Obj}, c ∈ nth ls i → c ∈ ls.flatten
  | [], _, _, h => by cases h
  | l :: ls, 0, c, h => by rw [List.flatten_cons, List.mem_append]; exact .inl h
  | l :: ls, i + 1, c, h => by rw [List.flatten_cons, List.mem_append]; exact .inr (nth_mem (ls := ls) h)
theorem mem_nth : ∀ {ls : List Cs} {c : Nat × Obj}, c ∈ ls.flatten → ∃ i, c ∈ nth ls i
  | [], _, h => by simp at h
  | l :: ls, c, h => by
    rw [List.flatten_cons, List.mem_append] at h
    rcases h with h | h
    · exact ⟨0, h⟩
    · obtain ⟨i, hi⟩ := mem_nth (ls := ls) h; exact ⟨i + 1, hi⟩
theorem nd_nth : ∀ {ls : List Cs} (i : Nat), (ids ls.flatten).Nodup → (ids (nth ls i)).Nodup
  | [], _, _ => List.nodup_nil
  | l :: ls, 0, h => by rw [List.flatten_cons, ids_app] at h; exact (List.nodup_append.1 h).1
  | l :: ls, i + 1, h => by rw [List.flatten_cons, ids_app] at h; exact nd_nth i (List.nodup_append.1 h).2.1
theorem nd_ne : ∀ {ls : List Cs} {i j : Nat} {c d : Nat × Obj}, (ids ls.flatten).Nodup → i ≠ j → c ∈ nth ls i → d ∈ nth ls j → c.1 ≠ d.1
  | [], _, _, _, _, _, _, h, _ => by cases h
  | l :: ls, 0, 0, _, _, _, hn, _, _ => absurd rfl hn
  | l :: ls, 0, j + 1, c, d, h, hn, hc, hd => by
    rw [List.flatten_cons, ids_app] at h
    exact (List.nodup_append.1 h).2.2 _ (mem_ids hc) _ (mem_ids (nth_mem hd))
  | l :: ls, i + 1, 0, c, d, h, hn, hc, hd => by
    rw [List.flatten_cons, ids_app] at h
    exact fun e => (List.nodup_append.1 h).2.2 _ (mem_ids hd) _ (mem_ids (nth_mem hc)) e.symm
  | l :: ls, i + 1, j + 1, c, d, h, hn, hc, hd => by
    rw [List.flatten_cons, ids_app] at h
    exact nd_ne (List.nodup_append.1 h).2.1 (fun e => hn (by rw [e])) hc hd
theorem pick_mem : ∀ {is : List Nat} {ls : List Cs} {c : Nat × Obj}, c ∈ (pick is ls).flatten → ∃ i ∈ is, c ∈ nth ls i
  | [], _, _, h => by simp [pick] at h
  | i :: is, ls, c, h => by
    rw [pick, List.flatten_cons, List.mem_append] at h
    rcases h with h | h
    · exact ⟨i, by simp, h⟩
    · obtain ⟨j, h1, h2⟩ := pick_mem h; exact ⟨j, by simp [h1], h2⟩
theorem nd_pick : ∀ {is : List Nat} {ls : List Cs}, is.Nodup → (ids ls.flatten).Nodup → (ids (pick is ls).flatten).Nodup
  | [], _, _, _ => List.nodup_nil
  | i :: is, ls, hn, h => by
    rw [pick, List.flatten_cons, ids_app, List.nodup_append]
    have hn := List.nodup_cons.1 hn
    refine ⟨nd_nth i h, nd_pick hn.2 h, ?_⟩
    intro a ha b hb e
    obtain ⟨c, hc, rfl⟩ := ids_mem ha
    obtain ⟨d, hd, rfl⟩ := ids_mem hb
    obtain ⟨j, hj, hd⟩ := pick_mem hd
    exact nd_ne h (fun e => hn.1 (by rw [e]; exact hj)) hc hd e
theorem setn_mem : ∀ {ls : List Cs} {i : Nat} {l' : Cs} {c : Nat × Obj}, c ∈ (setn ls i l').flatten → c ∈ l' ∨ ∃ j, j ≠ i ∧ c ∈ nth ls j
  | [], _, _, _, h => by simp [setn] at h
  | l :: ls, 0, l', c, h => by
    rw [setn, List.flatten_cons, List.mem_append] at h
    rcases h with h | h
    · exact .inl h
    · obtain ⟨j, hj⟩ := mem_nth h; exact .inr ⟨j + 1, by omega, hj⟩
  | l :: ls, i + 1, l', c, h => by
    rw [setn, List.flatten_cons, List.mem_append] at h
    rcases h with h | h
    · exact .inr ⟨0, by omega, h⟩
    · rcases setn_mem h with h | ⟨j, h1, h2⟩
      · exact .inl h
      · exact .inr ⟨j + 1, by omega, h2⟩
theorem nd_setn : ∀ {ls : List Cs} {i : Nat} {l' : Cs}, (ids ls.flatten).Nodup → (ids l').Nodup → (∀ k ∈ ids l', k ∈ ids (nth ls i) ∨ k ∉ ids ls.flatten) → (ids (setn ls i l').flatten).Nodup
  | [], _, _, _, _, _ => List.nodup_nil
  | l :: ls, 0, l', h, h1, h2 => by
    rw [setn, List.flatten_cons, ids_app, List.nodup_append]
    rw [List.flatten_cons, ids_app] at h h2
    have h3 := List.nodup_append.1 h
    refine ⟨h1, h3.2.1, fun a ha b hb e => ?_⟩
    subst e
    rcases h2 a ha with h4 | h4
    · exact h3.2.2 a h4 a hb rfl
    · exact h4 (List.mem_append.2 (.inr hb))
  | l :: ls, i + 1, l', h, h1, h2 => by
    rw [setn, List.flatten_cons, ids_app, List.nodup_append]
    rw [List.flatten_cons, ids_app] at h h2
    have h3 := List.nodup_append.1 h
    refine ⟨h3.1, nd_setn h3.2.1 h1 (fun k hk => (h2 k hk).imp id fun h4 h5 => h4 (List.mem_append.2 (.inr h5))), fun a ha b hb e => ?_⟩
    subst e
    obtain ⟨c, hc, rfl⟩ := ids_mem hb
    rcases setn_mem hc with h4 | ⟨j, _, h4⟩
    · rcases h2 _ (mem_ids h4) with h5 | h5
      · obtain ⟨d, hd, e⟩ := ids_mem h5
        exact h3.2.2 _ ha _ (mem_ids (nth_mem (ls := ls) hd)) e.symm
      · exact h5 (List.mem_append.2 (.inl ha))
    · exact h3.2.2 _ ha _ (mem_ids (nth_mem h4)) rfl
section
variable {w0 w w' : World} {ls ls' : List Cs}
theorem Sat.start (w : World) : Sat w [] w := ⟨Chg.refl w, List.nodup_nil, fun c h => by cases h⟩
theorem Sat.of (h : Sat w0 ls w) (e : ls.flatten = ls'.flatten := by simp [K.pick, K.nth]) : Sat w0 ls' w := ⟨h.chg, e ▸ h.nd, e ▸ h.own⟩
theorem Sat.no (h : Sat w0 ls w) (hc : Chg No w w') : Sat w0 ls w' :=
  ⟨h.chg.no hc, h.nd, fun c hm => ⟨(h.own c hm).1, by
    have h2 := (h.own c hm).2
    exact (hc.block c.1 (Array.getElem?_eq_some_iff.1 h2).1 id).trans h2⟩⟩
theorem Sat.lt (h : Sat w0 ls w) {k : Nat} (hk : k ∈ ids ls.flatten) : k < w.heap.size := by
  obtain ⟨c, hc, rfl⟩ := ids_mem hk
  exact (Array.getElem?_eq_some_iff.1 (h.own c hc).2).1
theorem Sat.pick (h : Sat w0 ls w) (is : List Nat) (hn : is.Nodup := by decide) : Sat w0 (pick is ls) w :=
  ⟨h.chg, nd_pick hn h.nd, fun c hc => by obtain ⟨i, _, hi⟩ := pick_mem hc; exact h.own c (nth_mem hi)⟩
theorem Sat.add (h : Sat w0 ls w) (hc : Chg No w w') (l : Cs) (hn : (ids l).Nodup) (hl : ∀ c ∈ l, w.heap.size ≤ c.1 ∧ w'.heap[c.1]? = some c.2) : Sat w0 (l :: ls) w' := by
  have h2 := h.no hc
  refine ⟨h2.chg, ?_, ?_⟩
  · rw [List.flatten_cons, ids_app, List.nodup_append]
    refine ⟨hn, h.nd, fun a ha b hb e => ?_⟩
    obtain ⟨c, hcl, rfl⟩ := ids_mem ha
    have := (hl c hcl).1
    have := h.lt hb
    omega
  · intro c hcm
    rw [List.flatten_cons, List.mem_append] at hcm
    rcases hcm with h3 | h3
    · have := h.chg.size; exact ⟨by have := (hl c h3).1; omega, (hl c h3).2⟩
    · exact h2.own c h3
theorem Sat.put (h : Sat w0 ls w) (i : Nat) (l' : Cs) {X : Nat → Prop} (hX : Chg X w w') (hXo : ∀ k, X k → k ∈ ids (nth ls i)) (hn : (ids l').Nodup)
    (hl : ∀ c ∈ l', w'.heap[c.1]? = some c.2 ∧ (c.1 ∈ ids (nth ls i) ∨ w.heap.size ≤ c.1)) : Sat w0 (setn ls i l') w' := by
  have hge : ∀ k ∈ ids (nth ls i), w0.heap.size ≤ k := fun k hk => by obtain ⟨c, hc, rfl⟩ := ids_mem hk; exact (h.own c (nth_mem hc)).1
  refine ⟨h.chg.trans hX (fun k hk hy => absurd (hge k (hXo k hy)) (by omega)), nd_setn h.nd hn (fun k hk => ?_), fun c hc => ?_⟩
  · obtain ⟨c, hc, rfl⟩ := ids_mem hk
    rcases (hl c hc).2 with h1 | h1
    · exact .inl h1
    · exact .inr fun h2 => absurd (h.lt h2) (by omega)
  · rcases setn_mem hc with h1 | ⟨j, hj, h1⟩
    · refine ⟨?_, (hl c h1).1⟩
      rcases (hl c h1).2 with h2 | h2
      · exact hge _ h2
      · have := h.chg.size; omega
    · have h2 := h.own c (nth_mem h1)
      refine ⟨h2.1, (hX.block c.1 (Array.getElem?_eq_some_iff.1 h2.2).1 fun hx => ?_).trans h2.2⟩
      obtain ⟨d, hd, e⟩ := ids_mem (hXo _ hx)
      exact nd_ne h.nd hj h1 hd e.symm
theorem Sat.blk {g : Cs} {b : Nat} {t : TypeId} {cs : List Value} (h : Sat w0 ls w) (i : Nat) (hi : nth ls i = g) (hg : g = [pt b t cs]) : Blk w b t cs :=
  (h.own (pt b t cs) (nth_mem (i := i) (by rw [hi, hg]; exact List.mem_singleton.2 rfl))).2
theorem Sat.bput {g : Cs} {b : Nat} {t : TypeId} {cs cs' : List Value} (h : Sat w0 ls w) (i : Nat) (hi : nth ls i = g) (hg : g = [pt b t cs]) (hc : Chg (Is b) w w') (hb : Blk w' b t cs') : Sat w0 (setn ls i [pt b t cs']) w' := by
  have hid : ids (nth ls i) = [b] := by rw [hi, hg]; rfl
  refine h.put i _ hc (fun k hk => by rw [hid]; exact List.mem_singleton.2 hk) (by simp [ids]) (fun c hcm => ?_)
  rw [List.mem_singleton.1 hcm, hid]
  exact ⟨hb, .inl (List.mem_singleton.2 rfl)⟩
def OwnG (l : Cs) (e : TypeId) (size : Nat) (a : Option Addr) (n cap : Nat) (xs : List Value) : Prop :=
  xs.length = n * size ∧ ((l = [] ∧ a = none ∧ n = 0 ∧ cap = 0) ∨ ∃ g cur, l = [(g, .cells cur e (0, 0))] ∧ a = some ⟨g, 0, none⟩ ∧ n ≤ cap ∧ cap ≤ maxLen ∧ cur.size = cap * size ∧ cur.toList.take (n * size) = xs)
section
variable {l : Cs} {e : TypeId} {size n cap : Nat} {a : Option Addr} {xs : List Value}
theorem OwnG.nil (e : TypeId) (size : Nat) : OwnG [] e size none 0 0 [] := ⟨by simp, .inl ⟨rfl, rfl, rfl, rfl⟩⟩
theorem OwnG.len (h : OwnG l e size a n cap xs) : xs.length = n * size := h.1
theorem OwnG.le (h : OwnG l e size a n cap xs) : n ≤ cap ∧ cap ≤ maxLen := by
  rcases h.2 with ⟨_, _, h1, h2⟩ | ⟨g, cur, _, _, h1, h2, _⟩
  · unfold maxLen; omega
  · exact ⟨h1, h2⟩
theorem OwnG.cast {n' : Nat} {xs' : List Value} (h : OwnG l e size a n cap xs) (hn : n = n') (hx : xs = xs') : OwnG l e size a n' cap xs' := by subst hn hx; exact h
theorem OwnG.form (h : OwnG l e size a n cap xs) : (a = none ∧ n = 0 ∧ cap = 0) ∨ ∃ g, a = some ⟨g, 0, none⟩ := by
  rcases h.2 with ⟨_, h1, h2⟩ | ⟨g, _, _, h1, _⟩
  · exact .inl ⟨h1, h2⟩
  · exact .inr ⟨g, h1⟩
theorem OwnG.some_ (h : OwnG l e size a n cap xs) (hn : 0 < cap) : ∃ g, a = some ⟨g, 0, none⟩ := by
  rcases h.form with ⟨_, _, h⟩ | h
  · omega
  · exact h
theorem OwnG.ids_ow (h : OwnG l e size a n cap xs) : ∀ k, Ow a k → k ∈ ids l := by
  rintro k ⟨p, hp, rfl⟩
  rcases h.2 with ⟨_, h1, _⟩ | ⟨g, _, h0, h1, _⟩
  · rw [h1] at hp; cases hp
  · rw [h1] at hp; cases hp; rw [h0]; exact List.mem_singleton.2 rfl
theorem OwnG.nd (h : OwnG l e size a n cap xs) : (ids l).Nodup := by
  rcases h.2 with ⟨h1, _⟩ | ⟨g, cur, h1, _⟩
  · rw [h1]; exact List.nodup_nil
  · rw [h1]; simp [ids]
theorem OwnG.ofPt {b : Nat} {t : TypeId} {cs : List Value} (hg : l = [pt b t cs]) (n : Nat) (hn : n ≤ maxLen) (hl : cs.length = n * size) : OwnG l t size (some ⟨b, 0, none⟩) n n cs :=
  ⟨hl, .inr ⟨b, cs.toArray, hg, rfl, Nat.le_refl _, hn, by simpa using hl, by rw [← hl]; simp⟩⟩
theorem OwnG.ofOwn {w : World} {base : Nat} (h : Own w base e size a n cap xs) : ∃ l, OwnG l e size a n cap xs ∧ ∀ c ∈ l, w.heap[c.1]? = some c.2 ∧ base ≤ c.1 ∧ Ow a c.1 := by
  rcases h.2 with ⟨h1, h2⟩ | ⟨g, cap', cur, h1, h2, h3, h4, h5, h6, h7⟩
  · simp only [Value.slice.injEq] at h1
    obtain ⟨rfl, -, rfl⟩ := h1
    exact ⟨[], ⟨h.1, .inl ⟨rfl, rfl, h2, rfl⟩⟩, fun c hc => by cases hc⟩
  · simp only [Value.slice.injEq] at h1
    obtain ⟨rfl, -, rfl⟩ := h1
    refine ⟨[(g, .cells cur e (0, 0))], ⟨h.1, .inr ⟨g, cur, rfl, rfl, h4, h5, h6, h7⟩⟩, fun c hc => ?_⟩
    rw [List.mem_singleton.1 hc]
    exact ⟨h3, h2, ⟨_, rfl, rfl⟩⟩
end
theorem Sat.ownr {l : Cs} {e : TypeId} {size n cap : Nat} {a : Option Addr} {xs : List Value} (h : Sat w0 ls w) (i : Nat) (hi : nth ls i = l) (ho : OwnG l e size a n cap xs) : Own w w0.heap.size e size a n cap xs := by
  refine ⟨ho.1, ?_⟩
  rcases ho.2 with ⟨_, h1, h2, h3⟩ | ⟨g, cur, h0, h1, h2⟩
  · exact .inl ⟨by rw [h1, h2, h3], h2⟩
  · have := h.own (g, .cells cur e (0, 0)) (nth_mem (i := i) (by rw [hi, h0]; exact List.mem_singleton.2 rfl))
    exact .inr ⟨g, cap, cur, by rw [h1], this.1, this.2, h2⟩
theorem Sat.rput {l : Cs} {e e' : TypeId} {size n cap size' n' cap' base : Nat} {a a' : Option Addr} {xs xs' : List Value} (h : Sat w0 ls w) (i : Nat) (hi : nth ls i = l) (ho : OwnG l e size a n cap xs)
    (hc : Chg (Ow a) w w') (ho' : Own w' base e' size' a' n' cap' xs') (hr : ∀ j, Ow a' j → Ow a j ∨ w.heap.size ≤ j) : ∃ l', OwnG l' e' size' a' n' cap' xs' ∧ Sat w0 (setn ls i l') w' := by
  obtain ⟨l', h1, h2⟩ := OwnG.ofOwn ho'
  refine ⟨l', h1, h.put i l' hc (fun k hk => by rw [hi]; exact ho.ids_ow k hk) h1.nd fun c hcm => ?_⟩
  obtain ⟨h3, _, h4⟩ := h2 c hcm
  exact ⟨h3, (hr _ h4).imp (fun h5 => by rw [hi]; exact ho.ids_ow _ h5) id⟩
theorem Sat.rnew {e : TypeId} {size n cap base : Nat} {a : Option Addr} {xs : List Value} (h : Sat w0 ls w) (hc : Chg No w w') (ho : Own w' base e size a n cap xs) (hb : w.heap.size ≤ base) :
    ∃ l, OwnG l e size a n cap xs ∧ Sat w0 (l :: ls) w' := by
  obtain ⟨l, h1, h2⟩ := OwnG.ofOwn ho
  exact ⟨l, h1, h.add hc l h1.nd fun c hcm => ⟨by have := (h2 c hcm).2.1; omega, (h2 c hcm).1⟩⟩
end
/-! ### Contracts, by groups -/
def GC (P : Program) (w0 : World) (f : FuncId) (args : Array Value) (pre : List Cs) (R : Value → List Cs → Prop) : Prop :=
  ∀ (fr : Cs) (w : World), Sat w0 (pre ++ [fr]) w → KC P f args w (fun v w' => ∃ post, R v post ∧ Sat w0 (post ++ [fr]) w')
section
variable {P : Program} {n : Nat} {F : Fr} {w0 w : World} {ls : List Cs} {K : Fr → World → Prop}
theorem GC.mono {f : FuncId} {args : Array Value} {pre : List Cs} {R R' : Value → List Cs → Prop} (h : GC P w0 f args pre R) (hr : ∀ v post, R v post → R' v post) : GC P w0 f args pre R' :=
  fun fr w hS => KC.mono (h fr w hS) fun v w' ⟨post, h1, h2⟩ => ⟨post, hr v post h1, h2⟩
theorem GC.mk {f : FuncId} {fn : Func} {c : Code} {args : Array Value} {pre : List Cs} {R : Value → List Cs → Prop} (hf : P.funcs[f]? = some fn) (hb : fn.body = some c) (hn : fn.ntmps = n) (l : List Value) (ha : args = l.toArray) (hl' : Nat.ble l.length n = true)
    (h : ∀ fr w, Sat w0 (pre ++ [fr]) w → KW none P n c (fun e G w' => (e = .normal ∨ e = .ret) ∧ G n = undef ∧ ∃ v, (results fn (arr n G)).run P w' = .ok v w' ∧ ∃ post, R v post ∧ Sat w0 (post ++ [fr]) w') (argF l) w) : GC P w0 f args pre R :=
  fun fr w hS => KC.mk hf hb hn l ha hl' (h fr w hS)
theorem GC.run {f : FuncId} {args : Array Value} {R : Value → List Cs → Prop} (h : GC P w f args [] R) : KC P f args w (fun v w' => (∃ post, R v post) ∧ Chg No w w') :=
  KC.mono (h [] w ⟨Chg.refl w, List.nodup_nil, fun c hc => by simp at hc⟩) fun v w' ⟨post, h1, h2⟩ => ⟨⟨post, h1⟩, h2.chg⟩
theorem GC.law {f : FuncId} {args : Array Value} (h : GC P w f args [] (fun v _ => v = .bool true)) : KC P f args w (fun v w' => v = .bool true ∧ Chg No w w') :=
  KC.mono (GC.run h) fun v w' ⟨⟨_, h1⟩, h2⟩ => ⟨h1, h2⟩
theorem OW.gcall {o : Oper} {dd : Option Nat} {f : FuncId} {l : List Operand} {ats : Array TypeId} {R : Value → List Cs → Prop} (hS : Sat w0 ls w) (is rest : List Nat) (vs : List Value) (hk : GC P w0 f vs.toArray (pick is ls) R)
    (h : ∀ v post w', R v post → Sat w0 (post ++ pick rest ls) w' → K (updo F dd v) w') (hd : o.dst = dd := by rfl) (ho : o.op = .call { callee := .value (.func f), args := l.toArray, argTypes := ats } := by rfl)
    (hv : l.map (ev n F) = vs := by rfl) (hf : callable P f = true := by kernel_rfl) (hp : (is ++ rest).Nodup := by decide) : OW P n F o w K := by
  refine OW.call hd vs ho hv hf (hk (pick rest ls).flatten w ?_) ?_
  · refine (hS.pick (is ++ rest) hp).of ?_
    have : ∀ is rest : List Nat, pick (is ++ rest) ls = pick is ls ++ pick rest ls := by
      intro is rest
      induction is with
      | nil => rfl
      | cons i is ih => show nth ls i :: pick (is ++ rest) ls = _; rw [ih]; rfl
    rw [this]; simp
  · rintro v w' ⟨post, h1, h2⟩
    exact h v post w' h1 (h2.of (by simp))
theorem OW.gcallv {o : Oper} {dd : Option Nat} {f : FuncId} {x : Operand} {l : List Operand} {ats : Array TypeId} {R : Value → List Cs → Prop} {v1 v2 : List Value} (hS : Sat w0 ls w) (is rest : List Nat) (vs : List Value) (hk : GC P w0 f vs.toArray (pick is ls) R)
    (h : ∀ v post w', R v post → Sat w0 (post ++ pick rest ls) w' → K (updo F dd v) w') (hx : ev n F x = .func (.func f) v1.toArray v2.toArray) (hd : o.dst = dd := by rfl) (ho : o.op = .call { callee := .value x, args := l.toArray, argTypes := ats } := by rfl)
    (hv : v1 ++ l.map (ev n F) ++ v2 = vs := by rfl) (hf : callable P f = true := by kernel_rfl) (hp : (is ++ rest).Nodup := by decide) : OW P n F o w K := by
  refine OW.callv hd vs ho hx hv hf (hk (pick rest ls).flatten w ?_) ?_
  · refine (hS.pick (is ++ rest) hp).of ?_
    have : ∀ is rest : List Nat, pick (is ++ rest) ls = pick is ls ++ pick rest ls := by
      intro is rest
      induction is with
      | nil => rfl
      | cons i is ih => show nth ls i :: pick (is ++ rest) ls = _; rw [ih]; rfl
    rw [this]; simp
  · rintro v w' ⟨post, h1, h2⟩
    exact h v post w' h1 (h2.of (by simp))
/-! ### What makes and writes memory -/
theorem OW.gnew {o : Oper} {dd : Option Nat} (t : TypeId) (cs : List Value) (hS : Sat w0 ls w)
    (h : ∀ w' r g, g = [pt r t cs] → Sat w0 (g :: ls) w' → K (updo F dd (.pointer (some ⟨r, 0, none⟩))) w')
    (hr : (execOp (ev n F) o).run P w = .ok (.value (.pointer (some ⟨w.heap.size, 0, none⟩))) (w.alloc (.cells cs.toArray t)) := by kernel_rfl) (hd : o.dst = dd := by rfl) : OW P n F o w K :=
  OW.new hd (fun r => .pointer (some ⟨r, 0, none⟩)) cs hr fun w' r hr hc hs hb => h w' r _ rfl (hS.add hc _ (by simp [ids]) fun c hcm => by rw [List.mem_singleton.1 hcm]; exact ⟨by show _ ≤ r; omega, hb⟩)
theorem OW.gbs {o : Oper} {dd : Option Nat} {t e : TypeId} {len : Nat} {l : List (Nat × Operand)} (pv : List (Nat × Value)) (cs : List Value) (hS : Sat w0 ls w)
    (hr : ∀ w, (Instr.buildSlice t len pv.toArray).run P w = .ok (.slice (some ⟨w.heap.size, 0, none⟩) len len) (w.alloc (.cells cs.toArray e)))
    (h : ∀ w' r g, g = [pt r e cs] → Sat w0 (g :: ls) w' → K (updo F dd (.slice (some ⟨r, 0, none⟩) len len)) w') (hd : o.dst = dd := by rfl) (ho : o.op = .buildSlice t len l.toArray := by rfl) (hl : (l.map fun x => (x.1, ev n F x.2)) = pv := by rfl) : OW P n F o w K :=
  OW.bs hd pv cs ho hl hr fun w' r hr hc hs hb => h w' r _ rfl (hS.add hc _ (by simp [ids]) fun c hcm => by rw [List.mem_singleton.1 hcm]; exact ⟨by show _ ≤ r; omega, hb⟩)
theorem OW.gst {o : Oper} {t T : TypeId} {x y : Operand} {b off : Nat} {cs : List Value} {g : Cs} (i : Nat) (vs cs' : List Value) (hS : Sat w0 ls w) (hg : g = [pt b T cs])
    (h : ∀ w' g', g' = [pt b T cs'] → Sat w0 (setn ls i g') w' → K F w') (hi : nth ls i = g := by rfl) (ho : o.op = .store t x y := by rfl) (hx : ev n F x = .pointer (some ⟨b, off, none⟩) := by rfl) (hy : (ev n F y).cells = vs.toArray := by rfl)
    (hs : (P.info? t).map (·.size) = some vs.length := by kernel_rfl) (hfit' : Nat.ble (off + vs.length) cs.length = true := by rfl) (h1 : vs.all Value.oneCell' = true := by rfl) (hd : o.dst = none := by rfl)
    (hc : cs.take off ++ vs ++ cs.drop (off + vs.length) = cs' := by rfl) : OW P n F o w K :=
  OW.st vs cs' ho hx hy hs (hS.blk i hi hg) hfit' (one_cells h1) hd hc fun w' hch _ hb => h w' _ rfl (hS.bput i hi hg hch hb)
theorem OW.grst {o : Oper} {t e : TypeId} {x y : Operand} {b m cap size : Nat} {xs : List Value} {l : Cs} (i k : Nat) (vs xs' : List Value) (hS : Sat w0 ls w) (ho : OwnG l e size (some ⟨b, 0, none⟩) m cap xs)
    (h : ∀ w' l', OwnG l' e size (some ⟨b, 0, none⟩) m cap xs' → Sat w0 (setn ls i l') w' → K F w') (hk : k + vs.length ≤ m * size) (hc : xs.take k ++ vs ++ xs.drop (k + vs.length) = xs')
    (hi : nth ls i = l := by rfl) (hop : o.op = .store t x y := by rfl) (hx : ev n F x = .pointer (some ⟨b, k, none⟩) := by rfl) (hy : (ev n F y).cells = vs.toArray := by rfl)
    (hs : (P.info? t).map (·.size) = some vs.length := by kernel_rfl) (h1 : vs.all Value.oneCell' = true := by rfl) (hd : o.dst = none := by rfl) : OW P n F o w K := fun hok Q => by
  unfold Oper.wp
  rw [eval_fr]
  obtain ⟨cur, hb, hg, hn, hm, hsz, htake⟩ := (hS.ownr i hi ho).cur
  obtain ⟨inf, hinf, hisz⟩ := Option.map_eq_some_iff.1 hs
  have hlim2 : m * size ≤ cap * size := Nat.mul_le_mul_right size hn
  have hst := run_storeCells_at P b k e vs 0 cur w hg (by rw [hsz]; omega) (one_cells h1)
  simp only [Nat.add_zero] at hst
  have hrun : (execOp (ev n F) o).run P w = .ok .skip (w.setRow b (cur.toList.take k ++ vs ++ cur.toList.drop (k + vs.length)).toArray) := by
    unfold execOp
    rw [hop]
    simp only [hx, Instr.storeAt, Instr.sureAddr, storeVar, hy, sizeOf, typeInfo]
    simp [hinf, hisz, hst]
  rw [hrun]
  have hown' : Own (w.setRow b (cur.toList.take k ++ vs ++ cur.toList.drop (k + vs.length)).toArray) w0.heap.size e size (some ⟨b, 0, none⟩) m cap xs' := by
    refine Own.of_cur (setRow_heap w b _ _ e (0, 0) hg) hb hn hm ?_ ?_
    · simp only [List.size_toArray, List.length_append, List.length_take, List.length_drop, Array.length_toList]
      omega
    · rw [← hc, ← htake]
      exact take_splice cur.toList k (m * size) vs hk (by rw [Array.length_toList, hsz]; exact hlim2)
  obtain ⟨l', h2, h3⟩ := hS.rput i hi ho (a' := some ⟨b, 0, none⟩) (Chg.mono (setRow_chg w b _) fun k _ hk => ⟨_, rfl, hk⟩) hown' (fun j hj => .inl hj)
  refine ⟨F, ?_, h _ l' h2 h3⟩
  rw [hd]; rfl
theorem OW.gapp {o : Oper} {dd : Option Nat} {s x : Operand} {t e : TypeId} {a : Option Addr} {m cap : Nat} {xs : List Value} {b off k c : Nat} {z : Value} {size bytes : Nat} {l : Cs} (i : Nat) (news : List Value) (hS : Sat w0 ls w) (hown : OwnG l e size a m cap xs)
    (h : ∀ a' cap' w' l', OwnG l' e size a' (m + k) cap' (xs ++ news) → Sat w0 (setn ls i l') w' → K (updo F dd (.slice a' (m + k) cap')) w')
    (hn : ∀ j u, news[j]? = some u → w.cell? ⟨b, off + j, none⟩ = some u) (h1 : ∀ u ∈ news, u.oneCell' = true) (hl : news.length = k * size)
    (ht : P.underlying t = some (.slice e)) (hinf : (P.info? e).map (fun i => (i.zero, i.size, i.bytes)) = some (some z, size, bytes)) (hz : z.cells.size = size) (hpos : 0 < size)
    (hm : m + k ≤ maxLen) (hb : (m + k) * bytes ≤ 140737488355328)
    (hi : nth ls i = l := by rfl) (hd : o.dst = dd := by rfl) (ho : o.op = .call { callee := .builtin .append, args := #[s, x], argTypes := #[t, t] } := by rfl) (hs : ev n F s = .slice a m cap := by rfl) (hx : ev n F x = .slice (some ⟨b, off, none⟩) k c := by rfl) : OW P n F o w K :=
  OW.app2 hd news ho hs (hS.ownr i hi hown) hx ht hinf hz hpos hl hn h1 hm hb hS.chg.size fun a' cap' w' hc ho' hr => by
    obtain ⟨l', h2, h3⟩ := hS.rput i hi hown hc ho' hr
    exact h a' cap' w' l' h2 h3
theorem OW.gmk {o : Oper} {dd : Option Nat} {t e : TypeId} {l c : Operand} {k1 k2 : IntKind} {m : Nat} {z : Value} {size bytes : Nat} {α : Type} {cc : α → List Value} (zz : α) (hS : Sat w0 ls w)
    (h : ∀ w' r l, OwnG l e size (some ⟨r, 0, none⟩) m m ((List.replicate m zz).flatMap cc) → Sat w0 (l :: ls) w' → K (updo F dd (.slice (some ⟨r, 0, none⟩) m m)) w')
    (ht : P.underlying t = some (.slice e)) (hi : (P.info? e).map (fun i => (i.zero, i.size, i.bytes)) = some (some z, size, bytes)) (hz : z.cells.toList = cc zz) (hs : (cc zz).length = size)
    (hm : m ≤ maxLen) (hb : bytes * m ≤ 281474976710656)
    (hd : o.dst = dd := by rfl) (ho : o.op = .makeSlice t l c := by rfl) (hl : ev n F l = .int k1 m := by rfl) (hc : ev n F c = .int k2 m := by rfl) : OW P n F o w K :=
  OW.mk zz hd ho hl hc ht hi hz hs hm hb (Nat.le_refl w.heap.size) fun w' r hr hch hsz ho' => by
    obtain ⟨l, h2, h3⟩ := hS.rnew hch ho' (Nat.le_refl _)
    exact h w' r l h2 h3
theorem KW.gdrawn {ρ : Option Nat} {id : Nat} {l : List Oper} {Q : Exit → Fr → World → Prop} (is : List Nat) (hS : Sat w0 ls w) (hm : P.follows .mixedOrders = true)
    (h : ∀ w1, Sat w0 ls w1 → DW P n l.toArray (Sat w0 (pick is ls)) l.length (Array.replicate l.length false) Q F w1) (hd : ndf l = true := by rfl) : KW ρ P n (.region id l.toArray true) Q F w :=
  KW.drawn (Sat w0 (pick is ls)) hm (fun w1 hc _ => h w1 (hS.no hc)) hd
def qlhs (P : Program) (n : Nat) (ops : Array Oper) : List Value → List Oper → Fr → World → List (Bool × Result Next)
  | [], _, _, _ => []
  | _ :: _, [], _, _ => []
  | v :: vs, o :: l, F, w => (gd ops n F o, (execOp (ev n F) o).run P w) :: qlhs P n ops vs l (updo F o.dst v) w
def qend : List Value → List Oper → Fr → Fr
  | [], _, F => F
  | _ :: _, [], F => F
  | v :: vs, o :: l, F => qend vs l (updo F o.dst v)
def qrest : List Value → List Oper → List Oper
  | [], l => l
  | _ :: _, [] => []
  | _ :: vs, _ :: l => qrest vs l
theorem RW.qs {ops : Array Oper} {Q : Exit → Fr → World → Prop} : ∀ (vs : List Value) {l : List Oper} {F : Fr}, qlhs P n ops vs l F w = vs.map (fun v => (true, .ok (.value v) w)) → RW P n ops (qrest vs l) Q (qend vs l F) w → RW P n ops l Q F w
  | [], _, _, _, h => h
  | v :: vs, [], _, e, h => by simp [qlhs] at e
  | v :: vs, o :: l, F, e, h => by
    simp only [qlhs, List.map_cons, List.cons.injEq, Prod.mk.injEq] at e
    exact RW.q rfl e.1.1 e.1.2 (RW.qs vs e.2 h)
theorem KW.cut {ρ : Option Nat} {x y : Code} {Q : Exit → Fr → World → Prop} (J : Fr → World → Prop) (h1 : KW ρ P n x (thn J Q) F w) (h2 : ∀ F w, J F w → KW ρ P n y Q F w) : KW ρ P n (.seq x y) Q F w :=
  KW.seq (h1.mono fun e F w h => by cases e <;> first | exact h2 F w h | exact h)
section
variable {α : Type} {c : α → List Value} {size : Nat}
theorem fl_snoc (c : α → List Value) (L : List α) (x : α) {news : List Value} (h : c x = news) : L.flatMap c ++ news = (L ++ [x]).flatMap c := by
  rw [List.flatMap_append, List.flatMap_singleton, h]
theorem fl1 (hc : ∀ x, (c x).length = 1) : ∀ (W : List α) (k : Nat) (d : α), k < W.length → (W.flatMap c)[k]? = (c (W.getD k d))[0]?
  | [], _, _, h => by simp at h
  | x :: W, 0, d, _ => by
    have := hc x
    rw [List.flatMap_cons, List.getElem?_append_left (by omega)]; rfl
  | x :: W, k + 1, d, h => by
    have := hc x
    rw [List.flatMap_cons, List.getElem?_append_right (by omega), this, Nat.add_sub_cancel, fl1 hc W k d (by simpa using h)]; rfl
theorem Own.at1 {d : α} {base : Nat} {e : TypeId} {m cap b : Nat} {W : List α} (hc : ∀ x, (c x).length = 1) (h : Own w base e size (some ⟨b, 0, none⟩) m cap (W.flatMap c)) (ln : W.length = m * size) (k : Nat) (hk : k < m * size) :
    w.cell? ⟨b, k, none⟩ = (c (W.getD k d))[0]? := by
  obtain ⟨cur, hb, hg, hn, hm, hsz, htake⟩ := h.cur
  rw [cell_of_row w b k cur e (0, 0) hg, ← fl1 hc W k d (by omega), ← htake, List.getElem?_take, if_pos hk]
  simp
theorem set1 {vs : List Value} (c : α → List Value) (W : List α) (k : Nat) (x : α) (hk : k < W.length) (hc : ∀ x, (c x).length = 1 := by exact fun _ => rfl) (hv : c x = vs := by rfl) :
    (W.flatMap c).take k ++ vs ++ (W.flatMap c).drop (k + vs.length) = (W.set k x).flatMap c := by
  subst hv
  have h1 := fl_take (c := c) (size := 1) hc W k
  have h2 := fl_drop (c := c) (size := 1) hc W (k + 1)
  rw [Nat.mul_one] at h1 h2
  rw [hc, h1, h2, List.set_eq_take_append_cons_drop, if_pos hk, List.flatMap_append, List.flatMap_cons, List.append_assoc]
end
theorem Own.atS {α : Type} {c : α → List Value} {d : α} {base : Nat} {e : TypeId} {m cap b : Nat} {W : List α} (hc : ∀ x, (c x).length = 1) (h : Own w base e 1 (some ⟨b, 0, none⟩) m cap (W.flatMap c)) (ln : W.length = m) (k : Nat) (hk : k < m) :
    w.cell? ⟨b, k, none⟩ = (c (W.getD k d))[0]? := Own.at1 hc h (by omega) k (by omega)
theorem Sat.ne {ls : List Cs} {g l : Cs} {b r : Nat} {t e : TypeId} {cs xs : List Value} {size m cap : Nat} (h : Sat w0 ls w) (i j : Nat) (hij : i ≠ j) (hi : nth ls i = g) (hj : nth ls j = l) (hg : g = [pt b t cs]) (ho : OwnG l e size (some ⟨r, 0, none⟩) m cap xs) : b ≠ r := by
  obtain ⟨d, hd, e⟩ := ids_mem (ho.ids_ow r ⟨_, rfl, rfl⟩)
  have := nd_ne (c := pt b t cs) (d := d) h.nd hij (by rw [hi, hg]; exact List.mem_singleton.2 rfl) (by rw [hj]; exact hd)
  rw [e] at this; exact this
end
end K
end Go.Proofs.Ytnehocjmgnhhhaa
