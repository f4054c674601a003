/- Part 4 of 5 of a proof. The law WeightOrients holds: for all orders and systems that are not larger than the statement's bound, the function returns true. -/
import Derived.Test.YtohdojbfkcodjaaGreatRa3
import Derived.Shelf.SlSortCmp.WholeK
import Derived.Shelf.SlSortCmp.NoneTotal
import Derived.Shelf.Small.Strs
import Derived.Test.YtohdojbfkcodjaaGreatProg
import Derived.Shelf.Spec.SlicesInsertGrow
set_option linter.unusedVariables false
set_option linter.unusedSimpArgs false
set_option maxRecDepth 10000
namespace Ab
open Go Go.Proofs
def ndT (x : Term) : List (List UInt8 × Nat) := if x.var then [] else [(x.name, x.args.length)]
def nodesI (items : List (List Int × Term)) : List (List UInt8 × Nat) := items.flatMap fun x => ndT x.2
def nodesL : List Term → List (List UInt8 × Nat)
  | [] => []
  | .mk n u xs :: r => ndT (.mk n u xs) ++ (nodesL xs ++ nodesL r)
theorem nodesI_app (a b : List (List Int × Term)) : nodesI (a ++ b) = nodesI a ++ nodesI b := by simp [nodesI]
theorem nodesI_nil : nodesI [] = [] := (rfl)
theorem nodesI_snoc (a : List (List Int × Term)) (x : List Int × Term) : nodesI (a ++ [x]) = nodesI a ++ ndT x.2 := by simp [nodesI]
theorem nodes_walkL : ∀ (xs : List Term) (i : Int) (p : List Int), nodesI (walkL xs i p) = nodesL xs
  | [], _, _ => by simp [walkL, nodesL, nodesI]
  | .mk n u xs :: r, i, p => by
    have h1 := nodes_walkL xs 0 (p ++ [i])
    have h2 := nodes_walkL r (i + 1) p
    rw [walkL, nodesL, ← h1, ← h2, ← nodesI_app]
    simp [nodesI]
theorem nodes_walkT (t : Term) (p : List Int) : nodesI (walkT t p) = nodesL [t] := by
  cases t with
  | mk n u xs =>
    have := nodes_walkL xs 0 p
    unfold walkT
    rw [nodesL, nodesL, List.append_nil, ← this]
    rfl
theorem nodesL_app : ∀ (a b : List Term), nodesL (a ++ b) = nodesL a ++ nodesL b
  | [], b => by simp [nodesL]
  | .mk n u xs :: r, b => by
    have := nodesL_app r b
    rw [List.cons_append, nodesL, nodesL, this]; simp
def arC (q : Nat × List (List UInt8 × Nat)) (s : List UInt8 × Nat) : Bool := match aget q.2 s.1 with
  | some j => !decide (j = s.2)
  | none => false
def arStep (q : Nat × List (List UInt8 × Nat)) (s : List UInt8 × Nat) : Nat × List (List UInt8 × Nat) := if arC q s then q else (q.1 + 1, aset q.2 s.1 s.2)
def arF (q : Nat × List (List UInt8 × Nat)) (L : List (List UInt8 × Nat)) : Nat × List (List UInt8 × Nat) := L.foldl arStep q
def arBad : Nat × List (List UInt8 × Nat) → List (List UInt8 × Nat) → Bool
  | _, [] => false
  | q, s :: r => arC q s || arBad (arStep q s) r
theorem arF_app (q : Nat × List (List UInt8 × Nat)) (a b : List (List UInt8 × Nat)) : arF q (a ++ b) = arF (arF q a) b := by simp [arF]
theorem arF_nil (q : Nat × List (List UInt8 × Nat)) : arF q [] = q := (rfl)
theorem arBad_app : ∀ (a b : List (List UInt8 × Nat)) (q : Nat × List (List UInt8 × Nat)), arBad q (a ++ b) = (arBad q a || arBad (arF q a) b)
  | [], b, q => by simp [arBad, arF]
  | s :: a, b, q => by
    have := arBad_app a b (arStep q s)
    rw [List.cons_append, arBad, arBad, this, Bool.or_assoc]; rfl
def Cons (L : List (List UInt8 × Nat)) : Prop := ∀ a, a ∈ L → ∀ b, b ∈ L → a.1 = b.1 → a = b
theorem Cons.sub {L M : List (List UInt8 × Nat)} (h : Cons L) (hs : ∀ x, x ∈ M → x ∈ L) : Cons M := fun a ha b hb e => h a (hs a ha) b (hs b hb) e
theorem nodup_inj : ∀ {l : List (List UInt8 × Nat)}, (l.map (·.1)).Nodup → Cons l
  | [], _ => fun a ha => by cases ha
  | p :: l, h => by
    rw [List.map_cons, List.nodup_cons] at h
    have ih := nodup_inj h.2
    intro a ha b hb e
    rcases List.mem_cons.1 ha with ha1 | ha1
    · rcases List.mem_cons.1 hb with hb1 | hb1
      · rw [ha1, hb1]
      · exact absurd (List.mem_map.2 ⟨b, hb1, by rw [← e, ha1]⟩) h.1
    · rcases List.mem_cons.1 hb with hb1 | hb1
      · exact absurd (List.mem_map.2 ⟨a, ha1, by rw [e, hb1]⟩) h.1
      · exact ih a ha1 b hb1 e
theorem aget_mem {α : Type} : ∀ {m : List (List UInt8 × α)} {k : List UInt8} {v : α}, aget m k = some v → (k, v) ∈ m
  | [], _, _, h => by cases h
  | p :: m, k, v, h => by
    unfold aget at h
    split at h
    · rename_i e
      injection h with h
      subst e h
      simp
    · exact List.mem_cons_of_mem _ (aget_mem h)
theorem aget_no {α : Type} : ∀ {m : List (List UInt8 × α)} {k : List UInt8}, aget m k = none → ∀ p, p ∈ m → p.1 ≠ k
  | [], _, _, p, hp => by cases hp
  | q :: m, k, h, p, hp => by
    unfold aget at h
    split at h
    · cases h
    · rename_i e
      rcases List.mem_cons.1 hp with rfl | hp
      · exact e
      · exact aget_no h p hp
theorem aset_id {α : Type} : ∀ {m : List (List UInt8 × α)} {k : List UInt8} {v : α}, aget m k = some v → aset m k v = m
  | [], _, _, h => by cases h
  | p :: m, k, v, h => by
    unfold aget at h
    unfold aset
    split at h
    · rename_i e
      injection h with h
      rw [if_pos e, ← e, ← h]
    · rename_i e
      rw [if_neg e, aset_id h]
theorem arStep_spec (q : Nat × List (List UInt8 × Nat)) (s : List UInt8 × Nat) (hi : (q.2.map (·.1)).Nodup) (h : arC q s = false) : ((arStep q s).2.map (·.1)).Nodup ∧ ∀ x, x ∈ (arStep q s).2 ↔ x ∈ q.2 ∨ x = s := by
  unfold arStep
  rw [h]
  simp only [Bool.false_eq_true, if_false]
  unfold arC at h
  cases hg : aget q.2 s.1 with
  | none =>
    have h1 := aget_no hg
    rw [(aget_none h1).2]
    refine ⟨?_, fun x => by simp⟩
    rw [List.map_append, List.nodup_append]
    refine ⟨hi, by simp, ?_⟩
    intro a ha b hb e
    simp at hb
    subst hb
    obtain ⟨p, hp, hpe⟩ := List.mem_map.1 ha
    exact h1 p hp (hpe.trans e)
  | some j =>
    rw [hg] at h
    have hj : j = s.2 := by simpa using h
    subst hj
    rw [aset_id hg]
    refine ⟨hi, fun x => ⟨.inl, ?_⟩⟩
    rintro (hx | rfl)
    · exact hx
    · exact aget_mem hg
theorem ar_spec : ∀ (L : List (List UInt8 × Nat)) (q : Nat × List (List UInt8 × Nat)), (q.2.map (·.1)).Nodup → (arBad q L = false ↔ Cons (q.2 ++ L)) ∧ (arBad q L = false → ((arF q L).2.map (·.1)).Nodup ∧ ∀ x, x ∈ (arF q L).2 ↔ x ∈ q.2 ∨ x ∈ L)
  | [], q, hi => by
    refine ⟨⟨fun _ => ?_, fun _ => rfl⟩, fun _ => ⟨hi, fun x => by simp [arF]⟩⟩
    rw [List.append_nil]
    exact nodup_inj hi
  | s :: r, q, hi => by
    cases hc : arC q s with
    | true =>
      refine ⟨⟨fun h => ?_, fun h => ?_⟩, fun h => ?_⟩
      · rw [arBad, hc] at h; cases h
      · unfold arC at hc
        cases hg : aget q.2 s.1 with
        | none => rw [hg] at hc; cases hc
        | some j =>
          rw [hg] at hc
          have hj : ¬ j = s.2 := by simpa using hc
          have := h (s.1, j) (List.mem_append_left _ (aget_mem hg)) s (by simp) rfl
          exact absurd (congrArg Prod.snd this) hj
      · rw [arBad, hc] at h; cases h
    | false =>
      obtain ⟨g1, g2⟩ := arStep_spec q s hi hc
      obtain ⟨i1, i2⟩ := ar_spec r (arStep q s) g1
      have hb : arBad q (s :: r) = arBad (arStep q s) r := by rw [arBad, hc]; rfl
      have hm : ∀ x, x ∈ (arStep q s).2 ++ r ↔ x ∈ q.2 ++ s :: r := fun x => by
        rw [List.mem_append, List.mem_append, g2, List.mem_cons, or_assoc]
      rw [hb]
      refine ⟨i1.trans ⟨fun h => h.sub fun x hx => (hm x).2 hx, fun h => h.sub fun x hx => (hm x).1 hx⟩, fun h => ?_⟩
      obtain ⟨j1, j2⟩ := i2 h
      have hf : arF q (s :: r) = arF (arStep q s) r := rfl
      rw [hf]
      exact ⟨j1, fun x => by rw [j2, g2, List.mem_cons, or_assoc]⟩
def syAt (l : List (List UInt8 × Nat)) (n : List UInt8) : Nat := insAt (l.map (·.1)) n
def insSy (l : List (List UInt8 × Nat)) (s : List UInt8 × Nat) : List (List UInt8 × Nat) := if (l.map (·.1))[syAt l s.1]? = some s.1 then l else l.take (syAt l s.1) ++ [s] ++ l.drop (syAt l s.1)
def cfSy (l : List (List UInt8 × Nat)) (s : List UInt8 × Nat) : Bool := match (insSy l s)[syAt l s.1]? with
  | some x => !decide (x.2 = s.2)
  | none => false
def symRs : List Term → List (List UInt8 × Nat) → List (List UInt8 × Nat) × Bool
  | [], l => (l, true)
  | .mk n u xs :: r, l => if u then symRs r l else if markedP n then (l, false) else if cfSy l (n, xs.length) then (l, false) else
    if (symRs xs (insSy l (n, xs.length))).2 then symRs r (symRs xs (insSy l (n, xs.length))).1 else (l, false)
def symR (t : Term) (l : List (List UInt8 × Nat)) : List (List UInt8 × Nat) × Bool := if t.var then (l, true) else if markedP t.name then (l, false) else if cfSy l (t.name, t.args.length) then (insSy l (t.name, t.args.length), false) else symRs t.args (insSy l (t.name, t.args.length))
theorem symRs_cons (t : Term) (r : List Term) (l : List (List UInt8 × Nat)) : symRs (t :: r) l = if (symR t l).2 then symRs r (symR t l).1 else (l, false) := by
  cases t with
  | mk n u xs =>
    rw [symRs]
    unfold symR
    simp only [Term.mk_name, Term.mk_var, Term.mk_args]
    cases u <;> simp only [Bool.false_eq_true, if_true, if_false]
    by_cases hm : markedP n = true
    · simp [hm]
    · by_cases hc : cfSy l (n, xs.length) = true
      · simp [hm, hc]
      · simp [hm, hc]
theorem insSy_names (l : List (List UInt8 × Nat)) (s : List UInt8 × Nat) : (insSy l s).map (·.1) = insertP (l.map (·.1)) s.1 := by
  unfold insSy insertP syAt
  split
  · rfl
  · simp [List.map_take, List.map_drop]
theorem sortedS_cons {l : List (List UInt8 × Nat)} (h : SortedN (l.map (·.1))) : Cons l := nodup_inj (sortedN_nodup h)
theorem insSy_mem {l : List (List UInt8 × Nat)} {s : List UInt8 × Nat} (h : cfSy l s = false) (x : List UInt8 × Nat) : x ∈ insSy l s ↔ x ∈ l ∨ x = s := by
  unfold cfSy at h
  unfold insSy at h ⊢
  split
  · rename_i hp
    rw [if_pos hp] at h
    refine ⟨.inl, ?_⟩
    rintro (hx | rfl)
    · exact hx
    · rw [List.getElem?_map] at hp
      cases hg : l[syAt l x.1]? with
      | none => rw [hg] at hp; cases hp
      | some y =>
        rw [hg] at h hp
        injection hp with hp
        have h2 : y.2 = x.2 := by simpa using h
        have : y = x := Prod.ext hp h2
        rw [← this]
        exact List.mem_of_getElem? hg
  · rw [List.mem_append, List.mem_append, List.mem_singleton]
    conv => rhs; rw [← List.take_append_drop (syAt l s.1) l, List.mem_append]
    constructor
    · rintro ((h | h) | h)
      · exact .inl (.inl h)
      · exact .inr h
      · exact .inl (.inr h)
    · rintro ((h | h) | h)
      · exact .inl (.inl h)
      · exact .inr h
      · exact .inl (.inr h)
theorem cfSy_true {l : List (List UInt8 × Nat)} {s : List UInt8 × Nat} (h : cfSy l s = true) : ∃ j, (s.1, j) ∈ l ∧ j ≠ s.2 := by
  unfold cfSy at h
  split at h
  · rename_i x hx
    have hne : ¬ x.2 = s.2 := by simpa using h
    unfold insSy at hx
    split at hx
    · rename_i hp
      rw [List.getElem?_map, hx] at hp
      injection hp with hp
      refine ⟨x.2, ?_, hne⟩
      rw [← hp]
      exact List.mem_of_getElem? hx
    · exfalso
      have hle : syAt l s.1 ≤ l.length := by
        unfold syAt insAt
        have := (List.takeWhile_prefix (fun x => decide (Lib.compareBytes x s.1 < 0)) (l := l.map (·.1))).length_le
        simpa using this
      rw [List.append_assoc, List.getElem?_append_right (by simp; omega)] at hx
      have e : syAt l s.1 - (l.take (syAt l s.1)).length = 0 := by simp; omega
      rw [e] at hx
      simp at hx
      exact hne (by rw [hx])
  · cases h
theorem symRs_spec : ∀ (ts : List Term) (l : List (List UInt8 × Nat)), (∀ t, t ∈ ts → formedP t = true) → SortedN (l.map (·.1)) →
    ((symRs ts l).2 = true ↔ (∀ s, s ∈ nodesL ts → markedP s.1 = false) ∧ Cons (l ++ nodesL ts)) ∧ ((symRs ts l).2 = true → SortedN ((symRs ts l).1.map (·.1)) ∧ ∀ x, x ∈ (symRs ts l).1 ↔ x ∈ l ∨ x ∈ nodesL ts)
  | [], l, _, hl => by
    refine ⟨⟨fun _ => ⟨fun s hs => by simp [nodesL] at hs, by rw [nodesL, List.append_nil]; exact sortedS_cons hl⟩, fun _ => by simp [symRs]⟩, fun _ => ⟨by simpa [symRs] using hl, fun x => by simp [symRs, nodesL]⟩⟩
  | .mk n true xs :: r, l, hf, hl => by
    have h0 := hf (.mk n true xs) (by simp)
    rw [formedP_mk] at h0
    simp only [if_true, Bool.and_eq_true, decide_eq_true_eq] at h0
    have hx := List.eq_nil_of_length_eq_zero h0.1
    subst hx
    have ih := symRs_spec r l (fun t ht => hf t (by simp [ht])) hl
    have hn : nodesL (.mk n true [] :: r) = nodesL r := by simp [nodesL, ndT, Term.mk_var]
    have hs : symRs (.mk n true [] :: r) l = symRs r l := by rw [symRs]; simp
    rw [hn, hs]; exact ih
  | .mk n false xs :: r, l, hf, hl => by
    have h0 := hf (.mk n false xs) (by simp)
    rw [formedP_mk] at h0
    simp only [Bool.false_eq_true, if_false, Bool.and_eq_true, List.all_eq_true] at h0
    have hn : nodesL (.mk n false xs :: r) = (n, xs.length) :: (nodesL xs ++ nodesL r) := by simp [nodesL, ndT, Term.mk_var, Term.mk_name, Term.mk_args]
    rw [hn, symRs]
    simp only [Bool.false_eq_true, if_false]
    cases hm : markedP n with
    | true =>
      simp only [if_true, Bool.false_eq_true, false_iff, false_implies, and_true]
      rintro ⟨h1, _⟩
      have := h1 (n, xs.length) (by simp)
      rw [hm] at this; cases this
    | false =>
      simp only [Bool.false_eq_true, if_false]
      cases hc : cfSy l (n, xs.length) with
      | true =>
        simp only [if_true, Bool.false_eq_true, false_iff, false_implies, and_true]
        rintro ⟨_, h2⟩
        obtain ⟨j, hj, hne⟩ := cfSy_true hc
        have := h2 (n, j) (List.mem_append_left _ hj) (n, xs.length) (by simp) rfl
        exact hne (congrArg Prod.snd this)
      | false =>
        simp only [Bool.false_eq_true, if_false]
        have hmem := insSy_mem hc
        have hl1 : SortedN ((insSy l (n, xs.length)).map (·.1)) := by rw [insSy_names]; exact insertP_sorted _ _ hl
        obtain ⟨l1, hl1e⟩ : ∃ l1, l1 = insSy l (n, xs.length) := ⟨_, rfl⟩
        rw [← hl1e] at hmem hl1 ⊢
        obtain ⟨a1, a2⟩ := symRs_spec xs l1 h0.2 hl1
        cases hq : (symRs xs l1).2 with
        | false =>
          simp only [Bool.false_eq_true, if_false, false_iff, false_implies, and_true]
          rintro ⟨h1, h2⟩
          have := a1.2 ⟨fun s hs => h1 s (by simp [hs]), h2.sub fun x hx => by
            rcases List.mem_append.1 hx with hx | hx
            · rcases (hmem x).1 hx with hx | rfl
              · exact List.mem_append_left _ hx
              · simp
            · simp [hx]⟩
          rw [hq] at this; cases this
        | true =>
          simp only [if_true]
          obtain ⟨b1, b2⟩ := a2 hq
          obtain ⟨c1, c2⟩ := a1.1 hq
          obtain ⟨d1, d2⟩ := symRs_spec r (symRs xs l1).1 (fun t ht => hf t (by simp [ht])) b1
          have hmm : ∀ x, x ∈ (symRs xs l1).1 ++ nodesL r ↔ x ∈ l ++ (n, xs.length) :: (nodesL xs ++ nodesL r) := fun x => by
            rw [List.mem_append, b2, hmem, List.mem_append, List.mem_cons, List.mem_append]
            constructor
            · rintro (((h | h) | h) | h)
              · exact .inl h
              · exact .inr (.inl h)
              · exact .inr (.inr (.inl h))
              · exact .inr (.inr (.inr h))
            · rintro (h | h | h | h)
              · exact .inl (.inl (.inl h))
              · exact .inl (.inl (.inr h))
              · exact .inl (.inr h)
              · exact .inr h
          refine ⟨d1.trans ⟨fun h => ⟨fun s hs => ?_, h.2.sub fun x hx => (hmm x).2 hx⟩, fun h => ⟨fun s hs => h.1 s (by simp [hs]), h.2.sub fun x hx => (hmm x).1 hx⟩⟩, fun h => ?_⟩
          · rcases List.mem_cons.1 hs with rfl | hs
            · exact hm
            · rcases List.mem_append.1 hs with hs | hs
              · exact c1 s hs
              · exact h.1 s hs
          · obtain ⟨e1, e2⟩ := d2 h
            refine ⟨e1, fun x => ?_⟩
            rw [e2, ← List.mem_append, hmm, List.mem_append]
theorem sys_agree (ts : List Term) (hf : ∀ t, t ∈ ts → formedP t = true) : (symRs ts []).2 = (!arBad (0, []) (nodesL ts) && (arF (0, []) (nodesL ts)).2.all fun s => !markedP s.1) := by
  obtain ⟨a1, a2⟩ := symRs_spec ts [] hf List.Pairwise.nil
  obtain ⟨b1, b2⟩ := ar_spec (nodesL ts) (0, []) (by simp)
  rw [Bool.eq_iff_iff, a1, Bool.and_eq_true, Bool.not_eq_true', b1]
  simp only [List.nil_append]
  constructor
  · rintro ⟨h1, h2⟩
    refine ⟨h2, ?_⟩
    rw [List.all_eq_true]
    intro x hx
    have := ((b2 (b1.2 h2)).2 x).1 hx
    simp only [List.not_mem_nil, false_or] at this
    rw [h1 x this]; rfl
  · rintro ⟨h1, h2⟩
    refine ⟨fun s hs => ?_, h1⟩
    rw [List.all_eq_true] at h2
    have := h2 s (((b2 (b1.2 h1)).2 s).2 (.inr hs))
    simpa using this
theorem sorted_uniqueK {γ : Type} {l l' : List (List UInt8 × γ)} (hp : l.Perm l') (h : SortedN (l.map (·.1))) (hs : l'.Pairwise fun a b => ¬ Lib.compareBytes b.1 a.1 < 0) : l' = l := by
  have hn : (l'.map (·.1)).Nodup := (hp.map _).nodup_iff.1 (sortedN_nodup h)
  have h2 : SortedN (l'.map (·.1)) := by
    unfold SortedN
    rw [List.pairwise_map]
    unfold List.Nodup at hn
    rw [List.pairwise_map] at hn
    refine (hs.and hn).imp ?_
    rintro a b ⟨h3, h4⟩
    by_cases h5 : Lib.compareBytes a.1 b.1 < 0
    · exact h5
    · exact absurd (cb_tot _ _ h5 h4) h3
  unfold SortedN at h h2
  rw [List.pairwise_map] at h h2
  exact List.Perm.eq_of_pairwise (fun a b _ _ h1 h3 => by have := cb_trans _ _ _ h1 h3; rw [(compareBytes_eq a.1 a.1).2 rfl] at this; omega) h2 h hp.symm
theorem sys_perm (ts : List Term) (hf : ∀ t, t ∈ ts → formedP t = true) (h : (symRs ts []).2 = true) : SortedN ((symRs ts []).1.map (·.1)) ∧ (symRs ts []).1.Perm (arF (0, []) (nodesL ts)).2 := by
  obtain ⟨a1, a2⟩ := symRs_spec ts [] hf List.Pairwise.nil
  obtain ⟨b1, b2⟩ := ar_spec (nodesL ts) (0, []) (by simp)
  obtain ⟨h1, h2⟩ := a1.1 h
  obtain ⟨c1, c2⟩ := a2 h
  obtain ⟨d1, d2⟩ := b2 (b1.2 h2)
  refine ⟨c1, (List.perm_ext_iff_of_nodup ?_ ?_).2 fun x => by rw [c2, d2]⟩
  · have := sortedN_nodup c1
    unfold List.Nodup at this ⊢
    rw [List.pairwise_map] at this
    exact this.imp fun {a b} hab e => hab (by rw [e])
  · unfold List.Nodup at d1 ⊢
    rw [List.pairwise_map] at d1
    exact d1.imp fun {a b} hab e => hab (by rw [e])
end Ab
set_option maxRecDepth 10000
namespace Ab
open Go Go.Proofs
theorem foldC_nil (l : List (List UInt8)) : foldC [] l = l := (rfl)
theorem collect_ac (t : Term) : ∀ l : List (List UInt8), t.bulk ≤ 1099511627775 → l.length + t.size ≤ 1099511627770 → (∀ x, x ∈ l → x.length < 1099511627776) → ∀ H, ACall Tryz.prog 89 [encT t, .sl .none (encN l)] H (fun r H' => r = .sl .none (encN (collectP t l)) ∧ H' = H) := by
  induction t using Term.ind with | _ n v xs ih
  intro l hb hl hnl H
  have hsz := (Term.mk n v xs).size_le
  have hlen := Term.len_le (n := n) (v := v) (xs := xs)
  have hnm := Term.name_le (n := n) (v := v) (xs := xs)
  rw [Term.size_mk] at hl
  rw [collectP_fold]
  have hi0 := insertP_length l n
  obtain ⟨L0, hL0⟩ : ∃ L0, L0 = if v then insertP l n else l := ⟨_, rfl⟩
  have hL1 : L0.length ≤ l.length + 1 := by rw [hL0]; split <;> omega
  have hL2 : ∀ x, x ∈ L0 → x.length < 1099511627776 := by
    intro x hx
    rw [hL0] at hx
    split at hx
    · rcases (mem_insertP l n x).1 hx with h | h
      · exact hnl x h
      · subst h; omega
    · exact hnl x hx
  have hbk : ∀ x, x ∈ xs → x.bulk ≤ 1099511627775 := fun x hx => by have := Term.arg_le (n := n) (v := v) hx; omega
  rw [← hL0]
  have hround : ∀ i (h : i < xs.length) H, ACall Tryz.prog 89 [encT xs[i], .sl .none (encN (foldC (xs.take i) L0))] H (fun r H' => r = .sl .none (encN (foldC (xs.take (i + 1)) L0)) ∧ H' = H) := fun i h H => by
    have hf1 := foldC_length (xs.take i) L0
    have hf2 := take_sum Term.size xs i h
    have hf3 := take_sum_le Term.size xs (i + 1)
    rw [foldC_take xs L0 i h]
    exact ih _ (List.getElem_mem h) _ (hbk _ (List.getElem_mem h)) (by omega) (foldC_names _ _ (fun x hx => hbk x (List.mem_of_mem_take hx)) hL2) H
  cases v with
  | true =>
    simp only [if_true] at hL0
    refine ACall_V (H.length) 23 [.tmp 4] Tryz.func89 rfl rfl rfl ?_
    simp only [push_cast, Nat.reduceAdd, Nat.reduceSub, Nat.reduceMul, Nat.reduceLT, Nat.reduceLeDiff, Nat.reduceEqDiff, Int.reduceToNat, ↓reduceIte]
    refine (insert_ac l n (by omega) hnl (by omega) _).to ?_
    rw [← hL0]
    simp only [push_cast, Nat.reduceAdd, Nat.reduceSub, Nat.reduceMul, Nat.reduceLT, Nat.reduceLeDiff, Nat.reduceEqDiff, Int.reduceToNat, ↓reduceIte]
    refine AW_loopW (maskG 25 [1, 12, 0, 0]) (fun (i : Nat) => [(1, .sl .none (encN (foldC (xs.take i) L0))), (16, .int .i64 i)]) (fun i => H ++ [.cells [.str n, .bool true, .sl .none (encTs xs)]]) (fun i => i ≤ xs.length) (fun i => xs.length - i) 0 (Nat.zero_le _) (by simp only [push_cast, Nat.reduceAdd, Nat.reduceSub, Nat.reduceMul, Nat.reduceLT, Nat.reduceLeDiff, Nat.reduceEqDiff, Int.reduceToNat, ↓reduceIte, List.take_zero, foldC_nil]) (fun i hi => ?_)
    simp only [push_cast, Nat.reduceAdd, Nat.reduceSub, Nat.reduceMul, Nat.reduceLT, Nat.reduceLeDiff, Nat.reduceEqDiff, Int.reduceToNat, ↓reduceIte]
    refine cI (fun h => ?_) (fun h => ?_)
    · repeat refine ⟨by omega, ?_⟩
      refine (hround i (by omega) _).to ?_
      simp only [push_cast, Nat.reduceAdd, Nat.reduceSub, Nat.reduceMul, Nat.reduceLT, Nat.reduceLeDiff, Nat.reduceEqDiff, Int.reduceToNat, ↓reduceIte]
      repeat' first | refine ⟨by omega, ?_⟩ | refine cI (fun _ => ?_) (fun _ => ?_)
      exact loopW_n (i + 1) (by omega) (by omega) (by simp only [push_cast, Nat.reduceAdd, Nat.reduceSub, Nat.reduceMul, Nat.reduceLT, Nat.reduceLeDiff, Nat.reduceEqDiff, Int.reduceToNat, ↓reduceIte])
    · simp only [push_cast, Nat.reduceAdd, Nat.reduceSub, Nat.reduceMul, Nat.reduceLT, Nat.reduceLeDiff, Nat.reduceEqDiff, Int.reduceToNat, ↓reduceIte, List.take_of_length_le (show xs.length ≤ i by omega)]
  | false =>
    simp only [Bool.false_eq_true, if_false] at hL0
    subst hL0
    refine ACall_V (H.length) 23 [.tmp 4] Tryz.func89 rfl rfl rfl ?_
    simp only [push_cast, Nat.reduceAdd, Nat.reduceSub, Nat.reduceMul, Nat.reduceLT, Nat.reduceLeDiff, Nat.reduceEqDiff, Int.reduceToNat, ↓reduceIte]
    refine AW_loopW (maskG 25 [1, 12, 0, 0]) (fun (i : Nat) => [(1, .sl .none (encN (foldC (xs.take i) L0))), (16, .int .i64 i)]) (fun i => H ++ [.cells [.str n, .bool false, .sl .none (encTs xs)]]) (fun i => i ≤ xs.length) (fun i => xs.length - i) 0 (Nat.zero_le _) (by simp only [push_cast, Nat.reduceAdd, Nat.reduceSub, Nat.reduceMul, Nat.reduceLT, Nat.reduceLeDiff, Nat.reduceEqDiff, Int.reduceToNat, ↓reduceIte, List.take_zero, foldC_nil]) (fun i hi => ?_)
    simp only [push_cast, Nat.reduceAdd, Nat.reduceSub, Nat.reduceMul, Nat.reduceLT, Nat.reduceLeDiff, Nat.reduceEqDiff, Int.reduceToNat, ↓reduceIte]
    refine cI (fun h => ?_) (fun h => ?_)
    · repeat refine ⟨by omega, ?_⟩
      refine (hround i (by omega) _).to ?_
      simp only [push_cast, Nat.reduceAdd, Nat.reduceSub, Nat.reduceMul, Nat.reduceLT, Nat.reduceLeDiff, Nat.reduceEqDiff, Int.reduceToNat, ↓reduceIte]
      repeat' first | refine ⟨by omega, ?_⟩ | refine cI (fun _ => ?_) (fun _ => ?_)
      exact loopW_n (i + 1) (by omega) (by omega) (by simp only [push_cast, Nat.reduceAdd, Nat.reduceSub, Nat.reduceMul, Nat.reduceLT, Nat.reduceLeDiff, Nat.reduceEqDiff, Int.reduceToNat, ↓reduceIte])
    · simp only [push_cast, Nat.reduceAdd, Nat.reduceSub, Nat.reduceMul, Nat.reduceLT, Nat.reduceLeDiff, Nat.reduceEqDiff, Int.reduceToNat, ↓reduceIte, List.take_of_length_le (show xs.length ≤ i by omega)]
theorem varsR_ac (ts : List Term) (hlen : ts.length < 1099511627776) (hb : ∀ x, x ∈ ts → x.bulk ≤ 1099511627775) (hsz : (ts.map Term.size).sum ≤ 1099511627770) (H : List AObj) : ACall Tryz.prog 56 [.sl .none (encTs ts)] H (fun r H' => r = .sl .none (encN (varsP ts)) ∧ H' = H) := by
  have hv : varsP ts = foldC ts [] := rfl
  rw [hv]
  refine ACall_V (H.length) 16 [.tmp 2] Tryz.func56 rfl rfl rfl ?_
  simp only [push_cast, Nat.reduceAdd, Nat.reduceSub, Nat.reduceMul, Nat.reduceLT, Nat.reduceLeDiff, Nat.reduceEqDiff, Int.reduceToNat, ↓reduceIte]
  refine AW_loopW (maskG 17 [3, 2, 0, 0]) (fun (i : Nat) => [(3, .sl .none (encN (foldC (ts.take i) []))), (8, .int .i64 i)]) (fun _ => H) (fun i => i ≤ ts.length) (fun i => ts.length - i) 0 (Nat.zero_le _) (by simp only [push_cast, Nat.reduceAdd, Nat.reduceSub, Nat.reduceMul, Nat.reduceLT, Nat.reduceLeDiff, Nat.reduceEqDiff, Int.reduceToNat, ↓reduceIte, List.take_zero, foldC_nil]) (fun i hi => ?_)
  simp only [push_cast, Nat.reduceAdd, Nat.reduceSub, Nat.reduceMul, Nat.reduceLT, Nat.reduceLeDiff, Nat.reduceEqDiff, Int.reduceToNat, ↓reduceIte]
  refine cI (fun h => ?_) (fun h => ?_)
  · repeat refine ⟨by omega, ?_⟩
    have hil : i < ts.length := by omega
    have hf1 := foldC_length (ts.take i) []
    have hf2 := take_sum Term.size ts i hil
    have hf3 := take_sum_le Term.size ts (i + 1)
    simp only [List.length_nil] at hf1
    refine (collect_ac (ts[i]'hil) (foldC (ts.take i) []) (hb _ (List.getElem_mem hil)) (by omega) (foldC_names _ _ (fun x hx => hb x (List.mem_of_mem_take hx)) (by simp)) _).to ?_
    rw [← foldC_take ts [] i hil]
    simp only [push_cast, Nat.reduceAdd, Nat.reduceSub, Nat.reduceMul, Nat.reduceLT, Nat.reduceLeDiff, Nat.reduceEqDiff, Int.reduceToNat, ↓reduceIte]
    repeat' first | refine ⟨by omega, ?_⟩ | refine cI (fun _ => ?_) (fun _ => ?_)
    exact loopW_n (i + 1) (by omega) (by omega) (by simp only [push_cast, Nat.reduceAdd, Nat.reduceSub, Nat.reduceMul, Nat.reduceLT, Nat.reduceLeDiff, Nat.reduceEqDiff, Int.reduceToNat, ↓reduceIte])
  · simp only [push_cast, Nat.reduceAdd, Nat.reduceSub, Nat.reduceMul, Nat.reduceLT, Nat.reduceLeDiff, Nat.reduceEqDiff, Int.reduceToNat, ↓reduceIte, List.take_of_length_le (show ts.length ≤ i by omega)]
theorem vars1_ac (t : Term) (hb : t.bulk ≤ 1099511627770) (H : List AObj) : ACall Tryz.prog 105 [.sl .none [encT t]] H (fun r H' => r = .sl .none (encN (varsP [t])) ∧ H' = H) := by
  have hs := t.size_le
  have hl := seenT_len [t] (0, [])
  have := varsOf_ac [t] (by simp) (by simp; omega) (by simp at hl ⊢; omega) H
  rw [varsOf_eq, encTs_cons, encTs_nil] at this
  exact this
end Ab
set_option maxRecDepth 10000
namespace Ab
open Go Go.Proofs
theorem countR_ac (t : Term) (v : List UInt8) : t.bulk ≤ 1099511627775 → ∀ H, ACall Tryz.prog 57 [encT t, .str v] H (fun r H' => r = .int .i64 (countP v t) ∧ H' = H) := by
  induction t using Term.ind with | _ n u xs ih
  intro hb H
  have hlen := Term.len_le (n := n) (v := u) (xs := xs)
  have hsz := (Term.mk n u xs).size_le
  rw [Term.size_mk] at hsz
  rw [countP_mk]
  have hround : ∀ i (h : i < xs.length), ((xs.take (i + 1)).map (countP v)).sum = ((xs.take i).map (countP v)).sum + countP v xs[i] := fun i h => by
    rw [List.take_succ_eq_append_getElem h, List.map_append, List.sum_append]; simp
  have hcb : ∀ i, 0 ≤ ((xs.take i).map (countP v)).sum ∧ ((xs.take i).map (countP v)).sum ≤ 1099511627775 := fun i => by
    have h1 := counts_bound v (xs.take i)
    have h2 := take_sum_le Term.size xs i
    omega
  have hone : oneP v n u = if u = true ∧ n = v then 1 else 0 := rfl
  cases u with
  | true =>
    by_cases hn : n = v
    · have h1 : oneP v n true = 1 := by rw [hone]; simp [hn]
      rw [h1]
      refine ACall_V (H.length) 28 [.tmp 4] Tryz.func57 rfl rfl rfl ?_
      simp only [push_cast, Nat.reduceAdd, Nat.reduceSub, Nat.reduceMul, Nat.reduceLT, Nat.reduceLeDiff, Nat.reduceEqDiff, Int.reduceToNat, ↓reduceIte]
      refine cI (fun _ => ?_) (fun h => absurd hn h)
      repeat refine ⟨by omega, ?_⟩
      refine AW_loopW (maskG 30 [1, 3, 11, 0, 0]) (fun (i : Nat) => [(5, .int .i64 (1 + ((xs.take i).map (countP v)).sum)), (19, .int .i64 i)]) (fun i => H ++ [.cells [.str n, .bool true, .sl .none (encTs xs)]]) (fun i => i ≤ xs.length) (fun i => xs.length - i) 0 (Nat.zero_le _) (by simp only [push_cast, Nat.reduceAdd, Nat.reduceSub, Nat.reduceMul, Nat.reduceLT, Nat.reduceLeDiff, Nat.reduceEqDiff, Int.reduceToNat, ↓reduceIte, List.take_zero, List.map_nil, List.sum_nil]; rfl) (fun i hi => ?_)
      simp only [push_cast, Nat.reduceAdd, Nat.reduceSub, Nat.reduceMul, Nat.reduceLT, Nat.reduceLeDiff, Nat.reduceEqDiff, Int.reduceToNat, ↓reduceIte]
      refine cI (fun h => ?_) (fun h => ?_)
      · repeat refine ⟨by omega, ?_⟩
        refine (ih _ (List.getElem_mem (by omega)) (arg_bulk hb i (by omega)) _).to ?_
        simp only [push_cast, Nat.reduceAdd, Nat.reduceSub, Nat.reduceMul, Nat.reduceLT, Nat.reduceLeDiff, Nat.reduceEqDiff, Int.reduceToNat, ↓reduceIte]
        have g1 := hcb i
        have g2 := hcb (i + 1)
        have g3 := hround i (by omega)
        repeat' first | refine ⟨by omega, ?_⟩ | refine cI (fun _ => ?_) (fun _ => ?_)
        exact loopW_n (i + 1) (by omega) (by omega) (by simp only [push_cast, Nat.reduceAdd, Nat.reduceSub, Nat.reduceMul, Nat.reduceLT, Nat.reduceLeDiff, Nat.reduceEqDiff, Int.reduceToNat, ↓reduceIte, g3, Int.add_assoc])
      · simp only [push_cast, Nat.reduceAdd, Nat.reduceSub, Nat.reduceMul, Nat.reduceLT, Nat.reduceLeDiff, Nat.reduceEqDiff, Int.reduceToNat, ↓reduceIte, List.take_of_length_le (show xs.length ≤ i by omega)]
    · have h1 : oneP v n true = 0 := by rw [hone]; simp [hn]
      rw [h1]
      refine ACall_V (H.length) 28 [.tmp 4] Tryz.func57 rfl rfl rfl ?_
      simp only [push_cast, Nat.reduceAdd, Nat.reduceSub, Nat.reduceMul, Nat.reduceLT, Nat.reduceLeDiff, Nat.reduceEqDiff, Int.reduceToNat, ↓reduceIte]
      refine cI (fun h => absurd h hn) (fun _ => ?_)
      refine AW_loopW (maskG 30 [1, 3, 11, 0, 0]) (fun (i : Nat) => [(5, .int .i64 (((xs.take i).map (countP v)).sum)), (19, .int .i64 i)]) (fun i => H ++ [.cells [.str n, .bool true, .sl .none (encTs xs)]]) (fun i => i ≤ xs.length) (fun i => xs.length - i) 0 (Nat.zero_le _) (by simp only [push_cast, Nat.reduceAdd, Nat.reduceSub, Nat.reduceMul, Nat.reduceLT, Nat.reduceLeDiff, Nat.reduceEqDiff, Int.reduceToNat, ↓reduceIte, List.take_zero, List.map_nil, List.sum_nil]) (fun i hi => ?_)
      simp only [push_cast, Nat.reduceAdd, Nat.reduceSub, Nat.reduceMul, Nat.reduceLT, Nat.reduceLeDiff, Nat.reduceEqDiff, Int.reduceToNat, ↓reduceIte]
      refine cI (fun h => ?_) (fun h => ?_)
      · repeat refine ⟨by omega, ?_⟩
        refine (ih _ (List.getElem_mem (by omega)) (arg_bulk hb i (by omega)) _).to ?_
        simp only [push_cast, Nat.reduceAdd, Nat.reduceSub, Nat.reduceMul, Nat.reduceLT, Nat.reduceLeDiff, Nat.reduceEqDiff, Int.reduceToNat, ↓reduceIte]
        have g1 := hcb i
        have g2 := hcb (i + 1)
        have g3 := hround i (by omega)
        repeat' first | refine ⟨by omega, ?_⟩ | refine cI (fun _ => ?_) (fun _ => ?_)
        exact loopW_n (i + 1) (by omega) (by omega) (by simp only [push_cast, Nat.reduceAdd, Nat.reduceSub, Nat.reduceMul, Nat.reduceLT, Nat.reduceLeDiff, Nat.reduceEqDiff, Int.reduceToNat, ↓reduceIte, g3])
      · simp only [push_cast, Nat.reduceAdd, Nat.reduceSub, Nat.reduceMul, Nat.reduceLT, Nat.reduceLeDiff, Nat.reduceEqDiff, Int.reduceToNat, ↓reduceIte, List.take_of_length_le (show xs.length ≤ i by omega), Int.zero_add]
  | false =>
    have h1 : oneP v n false = 0 := by rw [hone]; simp
    rw [h1]
    refine ACall_V (H.length) 28 [.tmp 4] Tryz.func57 rfl rfl rfl ?_
    simp only [push_cast, Nat.reduceAdd, Nat.reduceSub, Nat.reduceMul, Nat.reduceLT, Nat.reduceLeDiff, Nat.reduceEqDiff, Int.reduceToNat, ↓reduceIte]
    refine AW_loopW (maskG 30 [1, 3, 11, 0, 0]) (fun (i : Nat) => [(5, .int .i64 (((xs.take i).map (countP v)).sum)), (19, .int .i64 i)]) (fun i => H ++ [.cells [.str n, .bool false, .sl .none (encTs xs)]]) (fun i => i ≤ xs.length) (fun i => xs.length - i) 0 (Nat.zero_le _) (by simp only [push_cast, Nat.reduceAdd, Nat.reduceSub, Nat.reduceMul, Nat.reduceLT, Nat.reduceLeDiff, Nat.reduceEqDiff, Int.reduceToNat, ↓reduceIte, List.take_zero, List.map_nil, List.sum_nil]) (fun i hi => ?_)
    simp only [push_cast, Nat.reduceAdd, Nat.reduceSub, Nat.reduceMul, Nat.reduceLT, Nat.reduceLeDiff, Nat.reduceEqDiff, Int.reduceToNat, ↓reduceIte]
    refine cI (fun h => ?_) (fun h => ?_)
    · repeat refine ⟨by omega, ?_⟩
      refine (ih _ (List.getElem_mem (by omega)) (arg_bulk hb i (by omega)) _).to ?_
      simp only [push_cast, Nat.reduceAdd, Nat.reduceSub, Nat.reduceMul, Nat.reduceLT, Nat.reduceLeDiff, Nat.reduceEqDiff, Int.reduceToNat, ↓reduceIte]
      have g1 := hcb i
      have g2 := hcb (i + 1)
      have g3 := hround i (by omega)
      repeat' first | refine ⟨by omega, ?_⟩ | refine cI (fun _ => ?_) (fun _ => ?_)
      exact loopW_n (i + 1) (by omega) (by omega) (by simp only [push_cast, Nat.reduceAdd, Nat.reduceSub, Nat.reduceMul, Nat.reduceLT, Nat.reduceLeDiff, Nat.reduceEqDiff, Int.reduceToNat, ↓reduceIte, g3])
    · simp only [push_cast, Nat.reduceAdd, Nat.reduceSub, Nat.reduceMul, Nat.reduceLT, Nat.reduceLeDiff, Nat.reduceEqDiff, Int.reduceToNat, ↓reduceIte, List.take_of_length_le (show xs.length ≤ i by omega), Int.zero_add]
theorem eqFunc_ac (xs ys : List Term) (g : Nat) (caps : List AV) (p : Term → Term → Bool) (H : List AObj) (hlen : xs.length < 1099511627776) (hlen2 : ys.length < 1099511627776) (hg : callOk Tryz.prog g = true) (hsc : ScopedL H.length caps)
    (hf : ∀ i (h : i < xs.length) (h' : i < ys.length) X, ACall Tryz.prog g (encT xs[i] :: encT ys[i] :: caps) X (fun r H' => r = .bool (p xs[i] ys[i]) ∧ H' = X)) :
    ACall Tryz.prog 85 [.sl .none (encTs xs), .sl .none (encTs ys), .fn g caps] H (fun r H' => r = .bool (decide (xs.length = ys.length) && (xs.zip ys).all fun q => p q.1 q.2) ∧ H' = H) := by
  refine ACall_V (H.length) 29 [.tmp 6] Tryz.func85 rfl rfl rfl ?_
  simp only [push_cast, Nat.reduceAdd, Nat.reduceSub, Nat.reduceMul, Nat.reduceLT, Nat.reduceLeDiff, Nat.reduceEqDiff, Int.reduceToNat, ↓reduceIte]
  refine cI (fun hl => ?_) (fun hl => ?_)
  · have hl : xs.length = ys.length := by omega
    have hz : (xs.zip ys).length = xs.length := by simp [hl]
    refine AW_loopW (maskG 32 [1, 0, 12, 0, 0]) (fun (i : Nat) => [(17, .int .i64 i)]) (fun _ => H) (fun i => i ≤ xs.length ∧ ((xs.zip ys).take i).all (fun q => p q.1 q.2) = true) (fun i => xs.length - i) 0 ⟨Nat.zero_le _, by simp⟩ (by simp only [push_cast, Nat.reduceAdd, Nat.reduceSub, Nat.reduceMul, Nat.reduceLT, Nat.reduceLeDiff, Nat.reduceEqDiff, Int.reduceToNat, ↓reduceIte, hsc]) (fun i hi => ?_)
    simp only [push_cast, Nat.reduceAdd, Nat.reduceSub, Nat.reduceMul, Nat.reduceLT, Nat.reduceLeDiff, Nat.reduceEqDiff, Int.reduceToNat, ↓reduceIte, hg]
    refine cI (fun h => ?_) (fun h => ?_)
    · repeat refine ⟨by omega, ?_⟩
      have hix : i < xs.length := by omega
      have hiy : i < ys.length := by omega
      refine (hf i hix hiy _).to ?_
      simp only [push_cast, Nat.reduceAdd, Nat.reduceSub, Nat.reduceMul, Nat.reduceLT, Nat.reduceLeDiff, Nat.reduceEqDiff, Int.reduceToNat, ↓reduceIte]
      refine cI (fun hp => ?_) (fun hp => ?_)
      · repeat' first | refine ⟨by omega, ?_⟩ | refine cI (fun _ => ?_) (fun _ => ?_)
        refine loopW_n (i + 1) ⟨by omega, all_take_true hi.2 (by omega) (by simpa using hp)⟩ (by omega) (by simp only [push_cast, Nat.reduceAdd, Nat.reduceSub, Nat.reduceMul, Nat.reduceLT, Nat.reduceLeDiff, Nat.reduceEqDiff, Int.reduceToNat, ↓reduceIte, hsc])
      · have ha := all_get (xs := xs.zip ys) (p := fun q => p q.1 q.2) (i := i) (by omega) (by simpa using hp)
        simp [ha]
    · have hs : (xs.zip ys).take i = xs.zip ys := List.take_of_length_le (by omega)
      rw [hs] at hi
      simp [hi.2, hl]
  · have hl' : ¬ xs.length = ys.length := by omega
    simp [hl']
theorem zip_all_eq : ∀ (xs ys : List Term), (decide (xs.length = ys.length) && (xs.zip ys).all fun q => decide (q.1 = q.2)) = decide (xs = ys)
  | [], [] => by simp
  | [], _ :: _ => by simp
  | _ :: _, [] => by simp
  | x :: xs, y :: ys => by
    have := zip_all_eq xs ys
    rw [Bool.eq_iff_iff] at this ⊢
    simp at this ⊢
    constructor
    · rintro ⟨a, b, c⟩; exact ⟨b, this.1 ⟨a, c⟩⟩
    · rintro ⟨b, c⟩; have := this.2 c; exact ⟨this.1, b, this.2⟩
theorem equal_ac (a : Term) : ∀ b : Term, a.bulk ≤ 1099511627775 → b.bulk ≤ 1099511627775 → ∀ H, ACall Tryz.prog 52 [encT a, encT b] H (fun r H' => r = .bool (decide (a = b)) ∧ H' = H) := by
  induction a using Term.ind with | _ n v xs ih
  rintro ⟨m, u, ys⟩ hb hb2 H
  have hlen := Term.len_le (n := n) (v := v) (xs := xs)
  have hlen2 := Term.len_le (n := m) (v := u) (xs := ys)
  refine ACall_V (H.length) 22 [.tmp 4] Tryz.func52 rfl rfl rfl ?_
  simp only [push_cast, Nat.reduceAdd, Nat.reduceSub, Nat.reduceMul, Nat.reduceLT, Nat.reduceLeDiff, Nat.reduceEqDiff, Int.reduceToNat, ↓reduceIte]
  refine cI (fun h1 => ?_) (fun h1 => ?_)
  · refine cI (fun h2 => ?_) (fun h2 => ?_)
    · have h2 : v = u := by simpa using h2
      refine (eqFunc_ac xs ys 52 [] (fun x y => decide (x = y)) _ (by omega) (by omega) ok52 (by simp [ScopedL]) (fun i h h' X => ih _ (List.getElem_mem h) _ (arg_bulk hb i h) (arg_bulk hb2 i h') X)).to ?_
      rw [zip_all_eq]
      simp only [push_cast, Nat.reduceAdd, Nat.reduceSub, Nat.reduceMul, Nat.reduceLT, Nat.reduceLeDiff, Nat.reduceEqDiff, Int.reduceToNat, ↓reduceIte]
      simp [h1, h2]
    · have h2 : ¬ v = u := by simpa using h2
      simp [h2]
  · simp [h1]
theorem compareString_ac (a b : List UInt8) (H : List AObj) : ACall Tryz.prog 81 [.str a, .str b] H (fun r H' => r = .int .i64 (Lib.compareBytes a b) ∧ H' = H) := by
  refine ACall_V (H.length) 6 [.tmp 4] Tryz.func81 rfl rfl rfl ?_
  simp only [push_cast, Nat.reduceAdd, Nat.reduceSub, Nat.reduceMul, Nat.reduceLT, Nat.reduceLeDiff, Nat.reduceEqDiff, Int.reduceToNat, ↓reduceIte]
  refine AOp_cmpstring a b xc121 rfl rfl ?_
  simp only [push_cast, Nat.reduceAdd, Nat.reduceSub, Nat.reduceMul, Nat.reduceLT, Nat.reduceLeDiff, Nat.reduceEqDiff, Int.reduceToNat, ↓reduceIte]
theorem compareStr_ac (a b : List UInt8) (H : List AObj) : ACall Tryz.prog 47 [.str a, .str b] H (fun r H' => r = .int .i64 (Lib.compareBytes a b) ∧ H' = H) := by
  refine ACall_V (H.length) 6 [.tmp 4] Tryz.func47 rfl rfl rfl ?_
  simp only [push_cast, Nat.reduceAdd, Nat.reduceSub, Nat.reduceMul, Nat.reduceLT, Nat.reduceLeDiff, Nat.reduceEqDiff, Int.reduceToNat, ↓reduceIte]
  refine (compareString_ac a b _).to ?_
  simp only [push_cast, Nat.reduceAdd, Nat.reduceSub, Nat.reduceMul, Nat.reduceLT, Nat.reduceLeDiff, Nat.reduceEqDiff, Int.reduceToNat, ↓reduceIte]
end Ab
set_option maxRecDepth 10000
namespace Ab
open Go Go.Proofs
@[reducible] def encRu (r : Term × Term) : AV := .agg [.str r.1.name, .bool r.1.var, .sl .none (encTs r.1.args), .str r.2.name, .bool r.2.var, .sl .none (encTs r.2.args)]
theorem uniRu (l : List (Term × Term)) : Uni (5 + 1) (encL encRu l) = True := eq_true (uni_encL (enc := encRu) (k := 6) (fun _ => rfl) l)
theorem scRu_ (n : Nat) (l : List (Term × Term)) : ScopedL n (encL encRu l) = True := eq_true (scoped_encL (fun x => by simp [Scoped, ScopedL, scoped_encTs]) l)
attribute [push_cast] uniRu scRu_
theorem firstErr_app : ∀ a b : List Term, firstErr (a ++ b) = if firstErr a = 0 then firstErr b else firstErr a
  | [], b => by simp [firstErr]
  | t :: a, b => by
    have ih := firstErr_app a b
    rw [List.cons_append, firstErr, firstErr, ih]
    by_cases h : checkP t = 0 <;> simp [h]
theorem firstErr_at (ts : List Term) (i : Nat) (h : i < ts.length) (h0 : firstErr (ts.take i) = 0) (he : ¬ checkP ts[i] = 0) : firstErr ts = checkP ts[i] := by
  rw [firstErr_drop _ i h0, List.drop_eq_getElem_cons h]
  simp only [firstErr, he, if_false]
theorem all_ac (ts : List Term) (hlen : ts.length < 1099511627776) (hb : ∀ t, t ∈ ts → t.bulk ≤ 1099511627775) (H : List AObj) : ACall Tryz.prog 58 [.sl .none (encTs ts)] H (fun r H' => r = .int .i64 (firstErr ts) ∧ H' = H) := by
  refine ACall_V (H.length) 17 [.tmp 2] Tryz.func58 rfl rfl rfl ?_
  simp only [push_cast, Nat.reduceAdd, Nat.reduceSub, Nat.reduceMul, Nat.reduceLT, Nat.reduceLeDiff, Nat.reduceEqDiff, Int.reduceToNat, ↓reduceIte]
  refine AW_loopW (maskG 18 [6, 0, 0]) (fun (j : Nat) => [(8, .int .i64 j)]) (fun _ => H) (fun j => j ≤ ts.length ∧ firstErr (ts.take j) = 0) (fun j => ts.length - j) 0 ⟨Nat.zero_le _, rfl⟩ (by simp only [push_cast, Nat.reduceAdd, Nat.reduceSub, Nat.reduceMul, Nat.reduceLT, Nat.reduceLeDiff, Nat.reduceEqDiff, Int.reduceToNat, ↓reduceIte]) (fun j hj => ?_)
  simp only [push_cast, Nat.reduceAdd, Nat.reduceSub, Nat.reduceMul, Nat.reduceLT, Nat.reduceLeDiff, Nat.reduceEqDiff, Int.reduceToNat, ↓reduceIte]
  refine cI (fun h2 => ?_) (fun h2 => ?_)
  · repeat refine ⟨by omega, ?_⟩
    have hjl : j < ts.length := by omega
    refine (check_ac (ts[j]'hjl) (hb _ (List.getElem_mem hjl)) _).to ?_
    simp only [push_cast, Nat.reduceAdd, Nat.reduceSub, Nat.reduceMul, Nat.reduceLT, Nat.reduceLeDiff, Nat.reduceEqDiff, Int.reduceToNat, ↓reduceIte]
    refine cI (fun he => ?_) (fun he => ?_)
    · repeat' first | refine ⟨by omega, ?_⟩ | refine cI (fun _ => ?_) (fun _ => ?_)
      exact loopW_n (j + 1) ⟨by omega, firstErr_take _ j hjl hj.2 he⟩ (by omega) (by simp only [push_cast, Nat.reduceAdd, Nat.reduceSub, Nat.reduceMul, Nat.reduceLT, Nat.reduceLeDiff, Nat.reduceEqDiff, Int.reduceToNat, ↓reduceIte])
    · simp only [push_cast, Nat.reduceAdd, Nat.reduceSub, Nat.reduceMul, Nat.reduceLT, Nat.reduceLeDiff, Nat.reduceEqDiff, Int.reduceToNat, ↓reduceIte, firstErr_at ts j hjl hj.2 he]
  · have e := hj.2
    rw [List.take_of_length_le (by omega)] at e
    simp only [push_cast, Nat.reduceAdd, Nat.reduceSub, Nat.reduceMul, Nat.reduceLT, Nat.reduceLeDiff, Nat.reduceEqDiff, Int.reduceToNat, ↓reduceIte, e]
theorem allR_ac (ts : List Term) (hlen : ts.length < 1099511627776) (hb : ∀ t, t ∈ ts → t.bulk ≤ 1099511627775) (H : List AObj) : ACall Tryz.prog 35 [.sl .none (encTs ts)] H (fun r H' => r = .int .i64 (firstErr ts) ∧ H' = H) := by
  refine ACall_V (H.length) 17 [.tmp 2] Tryz.func35 rfl rfl rfl ?_
  simp only [push_cast, Nat.reduceAdd, Nat.reduceSub, Nat.reduceMul, Nat.reduceLT, Nat.reduceLeDiff, Nat.reduceEqDiff, Int.reduceToNat, ↓reduceIte]
  refine AW_loopW (maskG 18 [6, 0, 0]) (fun (j : Nat) => [(8, .int .i64 j)]) (fun _ => H) (fun j => j ≤ ts.length ∧ firstErr (ts.take j) = 0) (fun j => ts.length - j) 0 ⟨Nat.zero_le _, rfl⟩ (by simp only [push_cast, Nat.reduceAdd, Nat.reduceSub, Nat.reduceMul, Nat.reduceLT, Nat.reduceLeDiff, Nat.reduceEqDiff, Int.reduceToNat, ↓reduceIte]) (fun j hj => ?_)
  simp only [push_cast, Nat.reduceAdd, Nat.reduceSub, Nat.reduceMul, Nat.reduceLT, Nat.reduceLeDiff, Nat.reduceEqDiff, Int.reduceToNat, ↓reduceIte]
  refine cI (fun h2 => ?_) (fun h2 => ?_)
  · repeat refine ⟨by omega, ?_⟩
    have hjl : j < ts.length := by omega
    refine (checkR_ac (ts[j]'hjl) (hb _ (List.getElem_mem hjl)) _).to ?_
    simp only [push_cast, Nat.reduceAdd, Nat.reduceSub, Nat.reduceMul, Nat.reduceLT, Nat.reduceLeDiff, Nat.reduceEqDiff, Int.reduceToNat, ↓reduceIte]
    refine cI (fun he => ?_) (fun he => ?_)
    · repeat' first | refine ⟨by omega, ?_⟩ | refine cI (fun _ => ?_) (fun _ => ?_)
      exact loopW_n (j + 1) ⟨by omega, firstErr_take _ j hjl hj.2 he⟩ (by omega) (by simp only [push_cast, Nat.reduceAdd, Nat.reduceSub, Nat.reduceMul, Nat.reduceLT, Nat.reduceLeDiff, Nat.reduceEqDiff, Int.reduceToNat, ↓reduceIte])
    · simp only [push_cast, Nat.reduceAdd, Nat.reduceSub, Nat.reduceMul, Nat.reduceLT, Nat.reduceLeDiff, Nat.reduceEqDiff, Int.reduceToNat, ↓reduceIte, firstErr_at ts j hjl hj.2 he]
  · have e := hj.2
    rw [List.take_of_length_le (by omega)] at e
    simp only [push_cast, Nat.reduceAdd, Nat.reduceSub, Nat.reduceMul, Nat.reduceLT, Nat.reduceLeDiff, Nat.reduceEqDiff, Int.reduceToNat, ↓reduceIte, e]
def rT (rs : List (Term × Term)) : List Term := rs.flatMap fun r => [r.1, r.2]
theorem rT_take (rs : List (Term × Term)) (i : Nat) (h : i < rs.length) : rT (rs.take (i + 1)) = rT (rs.take i) ++ [rs[i].1, rs[i].2] := by
  unfold rT; rw [List.take_succ_eq_append_getElem h, List.flatMap_append]; simp
theorem rT_split (rs : List (Term × Term)) (i : Nat) (h : i < rs.length) : rT rs = rT (rs.take i) ++ ([rs[i].1, rs[i].2] ++ rT (rs.drop (i + 1))) := by
  have : rs = rs.take i ++ (rs[i] :: rs.drop (i + 1)) := by rw [← List.drop_eq_getElem_cons h, List.take_append_drop]
  have h2 := congrArg rT this
  rw [h2]
  unfold rT; rw [List.flatMap_append, List.flatMap_cons]
theorem rT_nil : rT [] = [] := (rfl)
theorem mem_rT {rs : List (Term × Term)} {t : Term} : t ∈ rT rs ↔ ∃ r, r ∈ rs ∧ (t = r.1 ∨ t = r.2) := by
  unfold rT; rw [List.mem_flatMap]
  constructor
  · rintro ⟨r, hr, h⟩; simp at h; exact ⟨r, hr, h⟩
  · rintro ⟨r, hr, h⟩; exact ⟨r, hr, by simp; exact h⟩
def rulesP (rs : List (Term × Term)) : Int := if rs.length > 64 then 3 else firstErr (rT rs)
theorem checkRules_ac (rs : List (Term × Term)) (hlen : rs.length < 1099511627776) (hb : ∀ r, r ∈ rs → r.1.bulk ≤ 1099511627775 ∧ r.2.bulk ≤ 1099511627775) (H : List AObj) : ACall Tryz.prog 74 [.sl .none (encL encRu rs)] H (fun r H' => r = .int .i64 (rulesP rs) ∧ H' = H) := by
  refine ACall_V (H.length) 24 [.tmp 2] Tryz.func74 rfl rfl rfl ?_
  simp only [push_cast, Nat.reduceAdd, Nat.reduceSub, Nat.reduceMul, Nat.reduceLT, Nat.reduceLeDiff, Nat.reduceEqDiff, Int.reduceToNat, ↓reduceIte]
  refine cI (fun h0 => ?_) (fun h0 => ?_)
  · have e : rulesP rs = 3 := by unfold rulesP; rw [if_pos (by omega)]
    simp only [push_cast, Nat.reduceAdd, Nat.reduceSub, Nat.reduceMul, Nat.reduceLT, Nat.reduceLeDiff, Nat.reduceEqDiff, Int.reduceToNat, ↓reduceIte, e]
  · have hP : rulesP rs = firstErr (rT rs) := by unfold rulesP; rw [if_neg (by omega)]
    refine AW_loopW (maskG 25 [9, 0, 0]) (fun (i : Nat) => [(11, .int .i64 i)]) (fun _ => H) (fun i => i ≤ rs.length ∧ firstErr (rT (rs.take i)) = 0) (fun i => rs.length - i) 0 ⟨Nat.zero_le _, rfl⟩ (by simp only [push_cast, Nat.reduceAdd, Nat.reduceSub, Nat.reduceMul, Nat.reduceLT, Nat.reduceLeDiff, Nat.reduceEqDiff, Int.reduceToNat, ↓reduceIte]) (fun i hi => ?_)
    simp only [push_cast, Nat.reduceAdd, Nat.reduceSub, Nat.reduceMul, Nat.reduceLT, Nat.reduceLeDiff, Nat.reduceEqDiff, Int.reduceToNat, ↓reduceIte]
    refine cI (fun h => ?_) (fun h => ?_)
    · repeat refine ⟨by omega, ?_⟩
      have hil : i < rs.length := by omega
      have hbi := hb _ (List.getElem_mem hil)
      have hal := fun H => all_ac [(rs[i]'hil).1, (rs[i]'hil).2] (by simp) (by intro t ht; simp at ht; rcases ht with rfl | rfl; exact hbi.1; exact hbi.2) H
      rw [encTs_cons, encTs_cons, encTs_nil] at hal
      refine (hal _).to ?_
      simp only [push_cast, Nat.reduceAdd, Nat.reduceSub, Nat.reduceMul, Nat.reduceLT, Nat.reduceLeDiff, Nat.reduceEqDiff, Int.reduceToNat, ↓reduceIte]
      refine cI (fun he => ?_) (fun he => ?_)
      · repeat' first | refine ⟨by omega, ?_⟩ | refine cI (fun _ => ?_) (fun _ => ?_)
        refine loopW_n (i + 1) ⟨by omega, ?_⟩ (by omega) (by simp only [push_cast, Nat.reduceAdd, Nat.reduceSub, Nat.reduceMul, Nat.reduceLT, Nat.reduceLeDiff, Nat.reduceEqDiff, Int.reduceToNat, ↓reduceIte])
        rw [rT_take rs i hil, firstErr_app, if_pos hi.2]; exact he
      · have e : firstErr (rT rs) = firstErr [(rs[i]'hil).1, (rs[i]'hil).2] := by
          rw [rT_split rs i hil, firstErr_app, if_pos hi.2, firstErr_app, if_neg he]
        simp only [push_cast, Nat.reduceAdd, Nat.reduceSub, Nat.reduceMul, Nat.reduceLT, Nat.reduceLeDiff, Nat.reduceEqDiff, Int.reduceToNat, ↓reduceIte, hP, e]
    · have e := hi.2
      rw [List.take_of_length_le (by omega)] at e
      simp only [push_cast, Nat.reduceAdd, Nat.reduceSub, Nat.reduceMul, Nat.reduceLT, Nat.reduceLeDiff, Nat.reduceEqDiff, Int.reduceToNat, ↓reduceIte, hP, e]
theorem rulesR_ac (rs : List (Term × Term)) (hlen : rs.length < 1099511627776) (hb : ∀ r, r ∈ rs → r.1.bulk ≤ 1099511627775 ∧ r.2.bulk ≤ 1099511627775) (H : List AObj) : ACall Tryz.prog 23 [.sl .none (encL encRu rs)] H (fun r H' => r = .int .i64 (rulesP rs) ∧ H' = H) := by
  refine ACall_V (H.length) 24 [.tmp 2] Tryz.func23 rfl rfl rfl ?_
  simp only [push_cast, Nat.reduceAdd, Nat.reduceSub, Nat.reduceMul, Nat.reduceLT, Nat.reduceLeDiff, Nat.reduceEqDiff, Int.reduceToNat, ↓reduceIte]
  refine cI (fun h0 => ?_) (fun h0 => ?_)
  · have e : rulesP rs = 3 := by unfold rulesP; rw [if_pos (by omega)]
    simp only [push_cast, Nat.reduceAdd, Nat.reduceSub, Nat.reduceMul, Nat.reduceLT, Nat.reduceLeDiff, Nat.reduceEqDiff, Int.reduceToNat, ↓reduceIte, e]
  · have hP : rulesP rs = firstErr (rT rs) := by unfold rulesP; rw [if_neg (by omega)]
    refine AW_loopW (maskG 25 [9, 0, 0]) (fun (i : Nat) => [(11, .int .i64 i)]) (fun _ => H) (fun i => i ≤ rs.length ∧ firstErr (rT (rs.take i)) = 0) (fun i => rs.length - i) 0 ⟨Nat.zero_le _, rfl⟩ (by simp only [push_cast, Nat.reduceAdd, Nat.reduceSub, Nat.reduceMul, Nat.reduceLT, Nat.reduceLeDiff, Nat.reduceEqDiff, Int.reduceToNat, ↓reduceIte]) (fun i hi => ?_)
    simp only [push_cast, Nat.reduceAdd, Nat.reduceSub, Nat.reduceMul, Nat.reduceLT, Nat.reduceLeDiff, Nat.reduceEqDiff, Int.reduceToNat, ↓reduceIte]
    refine cI (fun h => ?_) (fun h => ?_)
    · repeat refine ⟨by omega, ?_⟩
      have hil : i < rs.length := by omega
      have hbi := hb _ (List.getElem_mem hil)
      have hal := fun H => allR_ac [(rs[i]'hil).1, (rs[i]'hil).2] (by simp) (by intro t ht; simp at ht; rcases ht with rfl | rfl; exact hbi.1; exact hbi.2) H
      rw [encTs_cons, encTs_cons, encTs_nil] at hal
      refine (hal _).to ?_
      simp only [push_cast, Nat.reduceAdd, Nat.reduceSub, Nat.reduceMul, Nat.reduceLT, Nat.reduceLeDiff, Nat.reduceEqDiff, Int.reduceToNat, ↓reduceIte]
      refine cI (fun he => ?_) (fun he => ?_)
      · repeat' first | refine ⟨by omega, ?_⟩ | refine cI (fun _ => ?_) (fun _ => ?_)
        refine loopW_n (i + 1) ⟨by omega, ?_⟩ (by omega) (by simp only [push_cast, Nat.reduceAdd, Nat.reduceSub, Nat.reduceMul, Nat.reduceLT, Nat.reduceLeDiff, Nat.reduceEqDiff, Int.reduceToNat, ↓reduceIte])
        rw [rT_take rs i hil, firstErr_app, if_pos hi.2]; exact he
      · have e : firstErr (rT rs) = firstErr [(rs[i]'hil).1, (rs[i]'hil).2] := by
          rw [rT_split rs i hil, firstErr_app, if_pos hi.2, firstErr_app, if_neg he]
        simp only [push_cast, Nat.reduceAdd, Nat.reduceSub, Nat.reduceMul, Nat.reduceLT, Nat.reduceLeDiff, Nat.reduceEqDiff, Int.reduceToNat, ↓reduceIte, hP, e]
    · have e := hi.2
      rw [List.take_of_length_le (by omega)] at e
      simp only [push_cast, Nat.reduceAdd, Nat.reduceSub, Nat.reduceMul, Nat.reduceLT, Nat.reduceLeDiff, Nat.reduceEqDiff, Int.reduceToNat, ↓reduceIte, hP, e]
end Ab
set_option maxRecDepth 10000
namespace Ab
open Go Go.Proofs Go.Proofs.YtohdojbfkcodjaaGreat
section
variable {H : Type}
theorem kdRule : kindOf Tryz.prog 41 = .struct [39, 39] := by kernel_rfl
theorem kdRules : kindOf Tryz.prog 25 = .slice 41 := by kernel_rfl
theorem agRule : aggK Tryz.prog 41 = true := by unfold aggK; rw [kdRule]
theorem len_sum {α : Type} (f : α → Nat) (xs : List α) {k : Nat} (h : (xs.map fun x => f x + 1).sum ≤ k) : xs.length ≤ k ∧ ∀ x, x ∈ xs → f x ≤ k := by
  induction xs generalizing k with
  | nil => simp
  | cons a r ih =>
    simp only [List.map_cons, List.sum_cons] at h
    obtain ⟨h1, h2⟩ := ih (k := k - (f a + 1)) (by omega)
    refine ⟨by simp; omega, fun x hx => ?_⟩
    rcases List.mem_cons.1 hx with rfl | hx
    · omega
    · have := h2 x hx; omega
theorem rule_form (n : Nat) (d : DataW H) (avs : List AV) (h : toAV Tryz.prog n 41 d = some avs) : ∃ r : Term × Term, .agg avs = encRu r ∧ r.1.bulk + r.2.bulk + 1 ≤ Rows.uptoBulk d := by
  obtain ⟨m, parts, avss, rfl, rfl, hl, hm, rfl⟩ := toAV_struct kdRule h
  match parts, hl, hm with
  | [d1, d2], _, hm =>
    obtain ⟨h1, h2⟩ := mapM_get hm
    match avss, h1, h2 with
    | [a1, a2], _, h2 =>
      obtain ⟨a, e1, b1⟩ := term_form m d1 a1 (h2 0 (by simp) (by simp))
      obtain ⟨b, e2, b2⟩ := term_form m d2 a2 (h2 1 (by simp) (by simp))
      injection e1 with e1; injection e2 with e2
      subst e1; subst e2
      exact ⟨(a, b), by simp, by simp only [Rows.uptoBulk, Rows.uptoBulkAll]; omega⟩
theorem rules_form (n : Nat) (d : DataW H) (avs : List AV) (h : toAV Tryz.prog n 25 d = some avs) : ∃ rs : List (Term × Term), avs = [.sl .none (encL encRu rs)] ∧ rs.length ≤ Rows.uptoBulk d ∧ ∀ r, r ∈ rs → r.1.bulk + r.2.bulk ≤ Rows.uptoBulk d := by
  obtain ⟨xs, ds, e3, hw, _, hd⟩ := row_form (fun r : Term × Term => encRu r) (fun r => r.1.bulk + r.2.bulk + 1) Rows.uptoBulk kdRules (n := n) (fun k d avs _ he => by
    obtain ⟨t, x1, x2⟩ := rule_form k d avs he
    exact ⟨t, by rw [agRule]; exact x1, x2⟩) h
  have hb := bulk_row hd
  have := len_sum (fun r : Term × Term => r.1.bulk + r.2.bulk) xs (k := Rows.uptoBulk d) (by omega)
  exact ⟨xs, e3, this.1, this.2⟩
end
end Ab
set_option maxRecDepth 10000
namespace Ab
open Go Go.Proofs
theorem marked_suffix (s : List UInt8) : decide (([35] : List UInt8).length ≤ s.length ∧ s.drop (s.length - ([35] : List UInt8).length) = [35]) = markedP s := by
  unfold markedP
  rw [Bool.eq_iff_iff, decide_eq_true_eq, decide_eq_true_eq]
  rcases List.eq_nil_or_concat s with rfl | ⟨l, a, rfl⟩
  · simp
  · simp
theorem stringsHasSuffix_ac (s suf : List UInt8) (H : List AObj) (h1 : s.length < 1099511627776) (h2 : suf.length < 1099511627776) :
    ACall Tryz.prog 103 [.str s, .str suf] H (fun r H' => r = .bool (decide (suf.length ≤ s.length ∧ s.drop (s.length - suf.length) = suf)) ∧ H' = H) := by
  refine ACall_V (H.length) 6 [.tmp 4] Tryz.func103 rfl rfl rfl ?_
  simp only [push_cast, Nat.reduceAdd, Nat.reduceSub, Nat.reduceMul, Nat.reduceLT, Nat.reduceLeDiff, Nat.reduceEqDiff, Int.reduceToNat, ↓reduceIte]
  refine (hasSuffix_ac s suf _ h1 h2).to ?_
  simp only [push_cast, Nat.reduceAdd, Nat.reduceSub, Nat.reduceMul, Nat.reduceLT, Nat.reduceLeDiff, Nat.reduceEqDiff, Int.reduceToNat, ↓reduceIte]
theorem markedT_ac (s : List UInt8) (h1 : s.length < 1099511627776) (H : List AObj) : ACall Tryz.prog 75 [.str s] H (fun r H' => r = .bool (markedP s) ∧ H' = H) := by
  rw [← marked_suffix]
  refine ACall_V (H.length) 4 [.tmp 2] Tryz.func75 rfl rfl rfl ?_
  simp only [push_cast, Nat.reduceAdd, Nat.reduceSub, Nat.reduceMul, Nat.reduceLT, Nat.reduceLeDiff, Nat.reduceEqDiff, Int.reduceToNat, ↓reduceIte]
  refine (stringsHasSuffix_ac s [35] _ h1 (by decide)).to ?_
  simp only [push_cast, Nat.reduceAdd, Nat.reduceSub, Nat.reduceMul, Nat.reduceLT, Nat.reduceLeDiff, Nat.reduceEqDiff, Int.reduceToNat, ↓reduceIte]
theorem indexS_ac (l : List (List UInt8)) (v : List UInt8) (hlen : l.length < 1099511627776) (H : List AObj) :
    ACall Tryz.prog 131 [.sl .none (encN l), .str v] H (fun r H' => ∃ n : Int, r = .int .i64 n ∧ (0 ≤ n ↔ v ∈ l) ∧ H' = H) := by
  refine ACall_W (H.length) 17 [.tmp 4] Tryz.func131 rfl rfl rfl ?_
  simp only [push_cast, Nat.reduceAdd, Nat.reduceSub, Nat.reduceMul, Nat.reduceLT, Nat.reduceLeDiff, Nat.reduceEqDiff, Int.reduceToNat, ↓reduceIte]
  refine AW_loopW (maskG 19 [0, 0, 5, 0]) (fun (i : Nat) => [(8, .int .i64 i)]) (fun _ => H) (fun i => i ≤ l.length ∧ ¬ v ∈ l.take i) (fun i => l.length - i) 0 ⟨Nat.zero_le _, by simp⟩ (by simp only [push_cast, Nat.reduceAdd, Nat.reduceSub, Nat.reduceMul, Nat.reduceLT, Nat.reduceLeDiff, Nat.reduceEqDiff, Int.reduceToNat, ↓reduceIte]) (fun i hi => ?_)
  simp only [push_cast, Nat.reduceAdd, Nat.reduceSub, Nat.reduceMul, Nat.reduceLT, Nat.reduceLeDiff, Nat.reduceEqDiff, Int.reduceToNat, ↓reduceIte]
  refine cI (fun h => ?_) (fun h => ?_)
  · repeat refine ⟨by omega, ?_⟩
    have hil : i < l.length := by omega
    refine cI (fun hp => ?_) (fun hp => ?_)
    · exact ⟨i, rfl, ⟨fun _ => by rw [hp]; exact List.getElem_mem hil, fun _ => by omega⟩⟩
    · repeat refine ⟨by omega, ?_⟩
      refine loopW_n (i + 1) ⟨by omega, ?_⟩ (by omega) (by simp only [push_cast, Nat.reduceAdd, Nat.reduceSub, Nat.reduceMul, Nat.reduceLT, Nat.reduceLeDiff, Nat.reduceEqDiff, Int.reduceToNat, ↓reduceIte])
      rw [List.take_succ_eq_append_getElem hil, List.mem_append, List.mem_singleton]
      rintro (h1 | h1)
      · exact hi.2 h1
      · exact hp h1
  · have hs : l.take i = l := List.take_of_length_le (by omega)
    rw [hs] at hi
    exact ⟨-1, rfl, ⟨by omega, fun h => absurd h hi.2⟩⟩
theorem containsS_ac (l : List (List UInt8)) (v : List UInt8) (hlen : l.length < 1099511627776) (H : List AObj) :
    ACall Tryz.prog 108 [.sl .none (encN l), .str v] H (fun r H' => r = .bool (decide (v ∈ l)) ∧ H' = H) := by
  refine ACall_V (H.length) 7 [.tmp 4] Tryz.func108 rfl rfl rfl ?_
  simp only [push_cast, Nat.reduceAdd, Nat.reduceSub, Nat.reduceMul, Nat.reduceLT, Nat.reduceLeDiff, Nat.reduceEqDiff, Int.reduceToNat, ↓reduceIte]
  refine (indexS_ac l v hlen _).mono ?_
  rintro r H' ⟨n, rfl, hn, rfl⟩
  simp only [push_cast, Nat.reduceAdd, Nat.reduceSub, Nat.reduceMul, Nat.reduceLT, Nat.reduceLeDiff, Nat.reduceEqDiff, Int.reduceToNat, ↓reduceIte, hn]
theorem extraC_ac (v : List UInt8) (L : List (List UInt8)) (hlen : L.length < 1099511627776) (H : List AObj) (o : AObj) :
    ACall Tryz.prog 107 [.str v, .ptr (H.length + 1) 0] (H ++ [o, .cells [.sl .none (encN L)]]) (fun r H' => r = .bool (!decide (v ∈ L)) ∧ H' = H ++ [o, .cells [.sl .none (encN L)]]) := by
  refine ACall_V (H.length + 2) 6 [.tmp 3] Tryz.func107 rfl rfl rfl ?_
  simp only [push_cast, Nat.reduceAdd, Nat.reduceSub, Nat.reduceMul, Nat.reduceLT, Nat.reduceLeDiff, Nat.reduceEqDiff, Int.reduceToNat, ↓reduceIte]
  refine (containsS_ac L v hlen _).to ?_
  simp only [push_cast, Nat.reduceAdd, Nat.reduceSub, Nat.reduceMul, Nat.reduceLT, Nat.reduceLeDiff, Nat.reduceEqDiff, Int.reduceToNat, ↓reduceIte]
  rw [show H.length + 2 = (H ++ [o, .cells [.sl .none (encN L)]]).length from by simp]
  exact outok_self
theorem indexN_ac (l : List (List UInt8)) (g : Nat) (caps : List AV) (p : List UInt8 → Bool) (H : List AObj) (hlen : l.length < 1099511627776) (hg : callOk Tryz.prog g = true) (hsc : ScopedL H.length caps)
    (hf : ∀ i (h : i < l.length), ACall Tryz.prog g (.str l[i] :: caps) H (fun r H' => r = .bool (p l[i]) ∧ H' = H)) :
    ACall Tryz.prog 130 [.sl .none (encN l), .fn g caps] H (fun r H' => ∃ n : Int, r = .int .i64 n ∧ (0 ≤ n ↔ l.any p = true) ∧ H' = H) := by
  refine ACall_W (H.length) 17 [.tmp 4] Tryz.func130 rfl rfl rfl ?_
  simp only [push_cast, Nat.reduceAdd, Nat.reduceSub, Nat.reduceMul, Nat.reduceLT, Nat.reduceLeDiff, Nat.reduceEqDiff, Int.reduceToNat, ↓reduceIte]
  refine AW_loopW (maskG 19 [0, 0, 5, 0]) (fun (i : Nat) => [(8, .int .i64 i)]) (fun _ => H) (fun i => i ≤ l.length ∧ (l.take i).any p = false) (fun i => l.length - i) 0 ⟨Nat.zero_le _, by simp⟩ (by simp only [push_cast, Nat.reduceAdd, Nat.reduceSub, Nat.reduceMul, Nat.reduceLT, Nat.reduceLeDiff, Nat.reduceEqDiff, Int.reduceToNat, ↓reduceIte, hsc]) (fun i hi => ?_)
  simp only [push_cast, Nat.reduceAdd, Nat.reduceSub, Nat.reduceMul, Nat.reduceLT, Nat.reduceLeDiff, Nat.reduceEqDiff, Int.reduceToNat, ↓reduceIte, hg]
  refine cI (fun h => ⟨by omega, (hf i (by omega)).to ?_⟩) (fun h => ?_)
  · simp only [push_cast, Nat.reduceAdd, Nat.reduceSub, Nat.reduceMul, Nat.reduceLT, Nat.reduceLeDiff, Nat.reduceEqDiff, Int.reduceToNat, ↓reduceIte]
    refine cI (fun hp => ?_) (fun hp => ⟨by omega, loopW_n (i + 1) ⟨by omega, any_take_false hi.2 (by omega) (by simpa using hp)⟩ (by omega) (by simp only [push_cast, Nat.reduceAdd, Nat.reduceSub, Nat.reduceMul, Nat.reduceLT, Nat.reduceLeDiff, Nat.reduceEqDiff, Int.reduceToNat, ↓reduceIte, hsc])⟩)
    exact ⟨i, rfl, ⟨fun _ => any_get (by omega) hp, fun _ => by omega⟩⟩
  · have hs : l.take i = l := List.take_of_length_le (by omega)
    rw [hs] at hi
    exact ⟨-1, rfl, ⟨by omega, fun h => by rw [hi.2] at h; cases h⟩⟩
theorem containsN_ac (l : List (List UInt8)) (g : Nat) (caps : List AV) (p : List UInt8 → Bool) (H : List AObj) (hlen : l.length < 1099511627776) (hg : callOk Tryz.prog g = true) (hsc : ScopedL H.length caps)
    (hf : ∀ i (h : i < l.length), ACall Tryz.prog g (.str l[i] :: caps) H (fun r H' => r = .bool (p l[i]) ∧ H' = H)) :
    ACall Tryz.prog 106 [.sl .none (encN l), .fn g caps] H (fun r H' => r = .bool (l.any p) ∧ H' = H) := by
  refine ACall_W (H.length) 7 [.tmp 4] Tryz.func106 rfl rfl rfl ?_
  simp only [push_cast, Nat.reduceAdd, Nat.reduceSub, Nat.reduceMul, Nat.reduceLT, Nat.reduceLeDiff, Nat.reduceEqDiff, Int.reduceToNat, ↓reduceIte]
  refine (indexN_ac _ g caps p _ hlen hg hsc hf).mono ?_
  rintro r H ⟨n, rfl, hn, rfl⟩
  simp only [push_cast, Nat.reduceAdd, Nat.reduceSub, Nat.reduceMul, Nat.reduceLT, Nat.reduceLeDiff, Nat.reduceEqDiff, Int.reduceToNat, ↓reduceIte, hn]
  cases l.any p <;> simp
theorem mem_vars1 (v : List UInt8) (t : Term) : v ∈ varsP [t] ↔ 0 < countP v t := by
  have := mem_foldC v [t] []
  simpa [varsP, foldC] using this
theorem vars1_len (t : Term) : (varsP [t]).length ≤ t.size := by
  have := foldC_length [t] []
  simpa [foldC, varsP] using this
def extraP (x : Term × Term) : Bool := x.1.var || (varsP [x.2]).any fun v => !decide (v ∈ varsP [x.1])
theorem extra_ac (x : Term × Term) (h1 : x.1.bulk ≤ 1099511627770) (h2 : x.2.bulk ≤ 1099511627770) (H : List AObj) : ACall Tryz.prog 77 [encRu x] H (fun r H' => r = .bool (extraP x) ∧ H' = H) := by
  have hs1 := x.1.size_le
  have hs2 := x.2.size_le
  have hl1 := vars1_len x.1
  have hl2 := vars1_len x.2
  refine ACall_V (H.length) 18 [.tmp 2] Tryz.func77 rfl rfl rfl ?_
  simp only [push_cast, Nat.reduceAdd, Nat.reduceSub, Nat.reduceMul, Nat.reduceLT, Nat.reduceLeDiff, Nat.reduceEqDiff, Int.reduceToNat, ↓reduceIte]
  refine (vars1_ac x.1 h1 _).to ?_
  simp only [push_cast, Nat.reduceAdd, Nat.reduceSub, Nat.reduceMul, Nat.reduceLT, Nat.reduceLeDiff, Nat.reduceEqDiff, Int.reduceToNat, ↓reduceIte]
  refine cI (fun hv => ?_) (fun hv => ?_)
  · have e : extraP x = true := by unfold extraP; rw [hv]; rfl
    simp only [push_cast, Nat.reduceAdd, Nat.reduceSub, Nat.reduceMul, Nat.reduceLT, Nat.reduceLeDiff, Nat.reduceEqDiff, Int.reduceToNat, ↓reduceIte, e]
  · have e : extraP x = (varsP [x.2]).any fun v => !decide (v ∈ varsP [x.1]) := by unfold extraP; rw [show x.1.var = false by simpa using hv]; rfl
    refine (vars1_ac x.2 h2 _).to ?_
    simp only [push_cast, Nat.reduceAdd, Nat.reduceSub, Nat.reduceMul, Nat.reduceLT, Nat.reduceLeDiff, Nat.reduceEqDiff, Int.reduceToNat, ↓reduceIte]
    refine (containsN_ac (varsP [x.2]) 107 [.ptr (H.length + 1) 0] (fun v => !decide (v ∈ varsP [x.1])) _ (by omega) ok107 (by simp only [push_cast, Nat.reduceAdd, Nat.reduceSub, Nat.reduceMul, Nat.reduceLT, Nat.reduceLeDiff, Nat.reduceEqDiff, Int.reduceToNat, ↓reduceIte]) (fun i h => extraC_ac _ _ (by omega) H _)).to ?_
    simp only [push_cast, Nat.reduceAdd, Nat.reduceSub, Nat.reduceMul, Nat.reduceLT, Nat.reduceLeDiff, Nat.reduceEqDiff, Int.reduceToNat, ↓reduceIte, e]
theorem indexRu_ac (rs : List (Term × Term)) (g : Nat) (caps : List AV) (p : (Term × Term) → Bool) (H : List AObj) (hlen : rs.length < 1099511627776) (hg : callOk Tryz.prog g = true) (hsc : ScopedL H.length caps)
    (hf : ∀ i (h : i < rs.length), ACall Tryz.prog g (encRu rs[i] :: caps) H (fun r H' => r = .bool (p rs[i]) ∧ H' = H)) :
    ACall Tryz.prog 104 [.sl .none (encL encRu rs), .fn g caps] H (fun r H' => ∃ n : Int, r = .int .i64 n ∧ (0 ≤ n ↔ rs.any p = true) ∧ H' = H) := by
  refine ACall_W (H.length) 17 [.tmp 4] Tryz.func104 rfl rfl rfl ?_
  simp only [push_cast, Nat.reduceAdd, Nat.reduceSub, Nat.reduceMul, Nat.reduceLT, Nat.reduceLeDiff, Nat.reduceEqDiff, Int.reduceToNat, ↓reduceIte]
  refine AW_loopW (maskG 19 [0, 0, 5, 0]) (fun (i : Nat) => [(8, .int .i64 i)]) (fun _ => H) (fun i => i ≤ rs.length ∧ (rs.take i).any p = false) (fun i => rs.length - i) 0 ⟨Nat.zero_le _, by simp⟩ (by simp only [push_cast, Nat.reduceAdd, Nat.reduceSub, Nat.reduceMul, Nat.reduceLT, Nat.reduceLeDiff, Nat.reduceEqDiff, Int.reduceToNat, ↓reduceIte, hsc]) (fun i hi => ?_)
  simp only [push_cast, Nat.reduceAdd, Nat.reduceSub, Nat.reduceMul, Nat.reduceLT, Nat.reduceLeDiff, Nat.reduceEqDiff, Int.reduceToNat, ↓reduceIte, hg]
  refine cI (fun h => ⟨by omega, (hf i (by omega)).to ?_⟩) (fun h => ?_)
  · simp only [push_cast, Nat.reduceAdd, Nat.reduceSub, Nat.reduceMul, Nat.reduceLT, Nat.reduceLeDiff, Nat.reduceEqDiff, Int.reduceToNat, ↓reduceIte]
    refine cI (fun hp => ?_) (fun hp => ⟨by omega, loopW_n (i + 1) ⟨by omega, any_take_false hi.2 (by omega) (by simpa using hp)⟩ (by omega) (by simp only [push_cast, Nat.reduceAdd, Nat.reduceSub, Nat.reduceMul, Nat.reduceLT, Nat.reduceLeDiff, Nat.reduceEqDiff, Int.reduceToNat, ↓reduceIte, hsc])⟩)
    exact ⟨i, rfl, ⟨fun _ => any_get (by omega) hp, fun _ => by omega⟩⟩
  · have hs : rs.take i = rs := List.take_of_length_le (by omega)
    rw [hs] at hi
    exact ⟨-1, rfl, ⟨by omega, fun h => by rw [hi.2] at h; cases h⟩⟩
theorem containsRu_ac (rs : List (Term × Term)) (g : Nat) (caps : List AV) (p : (Term × Term) → Bool) (H : List AObj) (hlen : rs.length < 1099511627776) (hg : callOk Tryz.prog g = true) (hsc : ScopedL H.length caps)
    (hf : ∀ i (h : i < rs.length), ACall Tryz.prog g (encRu rs[i] :: caps) H (fun r H' => r = .bool (p rs[i]) ∧ H' = H)) :
    ACall Tryz.prog 76 [.sl .none (encL encRu rs), .fn g caps] H (fun r H' => r = .bool (rs.any p) ∧ H' = H) := by
  refine ACall_W (H.length) 7 [.tmp 4] Tryz.func76 rfl rfl rfl ?_
  simp only [push_cast, Nat.reduceAdd, Nat.reduceSub, Nat.reduceMul, Nat.reduceLT, Nat.reduceLeDiff, Nat.reduceEqDiff, Int.reduceToNat, ↓reduceIte]
  refine (indexRu_ac _ g caps p _ hlen hg hsc hf).mono ?_
  rintro r H ⟨n, rfl, hn, rfl⟩
  simp only [push_cast, Nat.reduceAdd, Nat.reduceSub, Nat.reduceMul, Nat.reduceLT, Nat.reduceLeDiff, Nat.reduceEqDiff, Int.reduceToNat, ↓reduceIte, hn]
  cases rs.any p <;> simp
theorem withinR_ac (a b : Term) (h1 : a.bulk ≤ 1099511627770) (h2 : b.bulk ≤ 1099511627770) (H : List AObj) : ACall Tryz.prog 25 [encT a, encT b] H (fun r H' => r = .bool ((varsP [a]).all fun v => decide (v ∈ varsP [b])) ∧ H' = H) := by
  have hs1 := a.size_le
  have hl1 := vars1_len a
  have hv1 := fun H => varsR_ac [a] (by simp) (by simp; omega) (by simp; omega) H
  rw [encTs_cons, encTs_nil] at hv1
  obtain ⟨L, hL⟩ : ∃ L, L = varsP [a] := ⟨_, rfl⟩
  rw [← hL] at hl1 hv1 ⊢
  refine ACall_V (H.length) 18 [.tmp 4] Tryz.func25 rfl rfl rfl ?_
  simp only [push_cast, Nat.reduceAdd, Nat.reduceSub, Nat.reduceMul, Nat.reduceLT, Nat.reduceLeDiff, Nat.reduceEqDiff, Int.reduceToNat, ↓reduceIte]
  refine (hv1 _).to ?_
  simp only [push_cast, Nat.reduceAdd, Nat.reduceSub, Nat.reduceMul, Nat.reduceLT, Nat.reduceLeDiff, Nat.reduceEqDiff, Int.reduceToNat, ↓reduceIte]
  refine AW_loopW (maskG 20 [3, 5, 0, 0]) (fun (i : Nat) => [(11, .int .i64 i)]) (fun _ => H ++ [.cells [.str a.name, .bool a.var, .sl .none (encTs a.args)], .cells [.str b.name, .bool b.var, .sl .none (encTs b.args)]]) (fun i => i ≤ L.length ∧ (L.take i).all (fun v => decide (v ∈ varsP [b])) = true) (fun i => L.length - i) 0 ⟨Nat.zero_le _, by simp⟩ (by simp only [push_cast, Nat.reduceAdd, Nat.reduceSub, Nat.reduceMul, Nat.reduceLT, Nat.reduceLeDiff, Nat.reduceEqDiff, Int.reduceToNat, ↓reduceIte]) (fun i hi => ?_)
  simp only [push_cast, Nat.reduceAdd, Nat.reduceSub, Nat.reduceMul, Nat.reduceLT, Nat.reduceLeDiff, Nat.reduceEqDiff, Int.reduceToNat, ↓reduceIte]
  refine cI (fun h => ?_) (fun h => ?_)
  · have hil : i < L.length := by omega
    repeat refine ⟨by omega, ?_⟩
    have hcb := countP_bound (L[i]'hil) b
    have hm := mem_vars1 (L[i]'hil) b
    refine (countR_ac b (L[i]'hil) (by omega) _).to ?_
    simp only [push_cast, Nat.reduceAdd, Nat.reduceSub, Nat.reduceMul, Nat.reduceLT, Nat.reduceLeDiff, Nat.reduceEqDiff, Int.reduceToNat, ↓reduceIte]
    refine cI (fun hc => ?_) (fun hc => ?_)
    · have hn : ¬ (L[i]'hil) ∈ varsP [b] := by rw [hm]; omega
      have e := all_get (xs := L) (p := fun v => decide (v ∈ varsP [b])) hil (by simpa using hn)
      simp only [push_cast, Nat.reduceAdd, Nat.reduceSub, Nat.reduceMul, Nat.reduceLT, Nat.reduceLeDiff, Nat.reduceEqDiff, Int.reduceToNat, ↓reduceIte, e]
    · repeat' first | refine ⟨by omega, ?_⟩ | refine cI (fun _ => ?_) (fun _ => ?_)
      have hmm : (L[i]'hil) ∈ varsP [b] := by rw [hm]; omega
      exact loopW_n (i + 1) ⟨by omega, all_take_true hi.2 hil (by simpa using hmm)⟩ (by omega) (by simp only [push_cast, Nat.reduceAdd, Nat.reduceSub, Nat.reduceMul, Nat.reduceLT, Nat.reduceLeDiff, Nat.reduceEqDiff, Int.reduceToNat, ↓reduceIte])
  · have e := hi.2
    rw [List.take_of_length_le (show L.length ≤ i by omega)] at e
    exact e.symm
theorem extra_within (x : Term × Term) : extraP x = (x.1.var || !((varsP [x.2]).all fun v => decide (v ∈ varsP [x.1]))) := by
  unfold extraP
  rw [List.not_all_eq_any_not]
end Ab
set_option maxRecDepth 10000
namespace Ab
open Go Go.Proofs
def avN (n : Nat) : AV := .int .i64 n
def sA (m : List (List UInt8 × Nat)) : List (AV × AV) := amap AV.str avN m
def lN (o : Option (List UInt8 × Nat)) : Option (AV × AV) := o.map fun s => (AV.str s.1, avN s.2)
theorem sA_nil : sA [] = [] := (rfl)
theorem sA_len (m : List (List UInt8 × Nat)) : (sA m).length = m.length := by simp [sA, amap]
theorem osc_sA (n ver : Nat) (m : List (List UInt8 × Nat)) : OScoped n (.map ver (sA m)) = True := by
  refine eq_true ?_
  intro e he
  simp only [sA, amap, List.mem_map] at he
  obtain ⟨k, _, rfl⟩ := he
  exact ⟨trivial, trivial⟩
theorem osc_itA (n m ver : Nat) (l : List (List UInt8 × Nat)) (o : Option (List UInt8 × Nat)) (h : m < n) : OScoped n (.iter m ver (sA l) (lN o)) = True := by
  refine eq_true ⟨h, ?_⟩
  rintro e (he | he)
  · simp only [sA, amap, List.mem_map] at he
    obtain ⟨k, _, rfl⟩ := he
    exact ⟨trivial, trivial⟩
  · cases o with
    | none => cases he
    | some k => simp only [lN, Option.map_some, Option.some.injEq] at he; subst he; exact ⟨trivial, trivial⟩
theorem osc_itAn (n m ver : Nat) (l : List (List UInt8 × Nat)) (h : m < n) : OScoped n (.iter m ver (sA l) none) = True := osc_itA n m ver l none h
theorem osc_itAs (n m ver : Nat) (l : List (List UInt8 × Nat)) (a : List UInt8) (b : Nat) (h : m < n) : OScoped n (.iter m ver (sA l) (some (.str a, avN b))) = True := osc_itA n m ver l (some (a, b)) h
theorem lN_n : lN none = none := (rfl)
theorem lN_s (s : List UInt8 × Nat) : lN (some s) = some (AV.str s.1, avN s.2) := (rfl)
theorem osc_m00 (n ver : Nat) : OScoped n (.map ver []) = True := eq_true (fun e he => by cases he)
attribute [push_cast] osc_sA osc_itA osc_itAn osc_itAs osc_m00
def arE (rs : List (Term × Term)) : Nat × List (List UInt8 × Nat) := arF (0, []) (nodesL (rT rs))
def arB (rs : List (Term × Term)) : Bool := arBad (0, []) (nodesL (rT rs))
theorem nodesL_nil : nodesL [] = [] := by simp [nodesL]
theorem arB_nil : arB [] = false := by simp [arB, rT, nodesL, arBad]
theorem arE_nil : arE [] = (0, []) := by simp [arE, rT, nodesL, arF]
def arNx (q : Nat × List (List UInt8 × Nat)) (pre : List (List Int × Term)) (x : List Int × Term) : Option Code := if x.2.var then none else if arC (arF q (nodesI pre)) (x.2.name, x.2.args.length) then some .ret else none
theorem nd_var {x : Term} (h : x.var = true) : ndT x = [] := by simp [ndT, h]
theorem nd_sym {x : Term} (h : ¬ x.var = true) : ndT x = [(x.name, x.args.length)] := by simp [ndT, h]
theorem arF_snoc (q : Nat × List (List UInt8 × Nat)) (L : List (List UInt8 × Nat)) (s : List UInt8 × Nat) : arF q (L ++ [s]) = arStep (arF q L) s := by rw [arF_app]; rfl
theorem arBad_one (q : Nat × List (List UInt8 × Nat)) (s : List UInt8 × Nat) : arBad q [s] = arC q s := by simp [arBad]
theorem arNx_ok (q : Nat × List (List UInt8 × Nat)) : ∀ (n : Nat) (items : List (List Int × Term)), items.length = n → AllNone (arNx q) items → arBad q (nodesI items) = false := by
  intro n
  induction n with
  | zero => intro items h _; rw [List.eq_nil_of_length_eq_zero h]; rfl
  | succ n ih =>
    intro items h hN
    rcases List.eq_nil_or_concat items with rfl | ⟨pre, x, rfl⟩
    · rfl
    · rw [List.concat_eq_append] at *
      have h1 := ih pre (by simpa using h) (fun p y s e => hN p y (s ++ [x]) (by rw [e]; simp))
      have h2 := hN pre x [] rfl
      rw [nodesI_snoc, arBad_app, h1, Bool.false_or]
      unfold arNx at h2
      by_cases hv : x.2.var = true
      · rw [nd_var hv]; rfl
      · rw [if_neg hv] at h2
        rw [nd_sym hv, arBad_one]
        split at h2
        · cases h2
        · rename_i h3; simpa using h3
theorem arNx_bad (q : Nat × List (List UInt8 × Nat)) (pre suf : List (List Int × Term)) (x : List Int × Term) (c : Code) (h : arNx q pre x = some c) : c = .ret ∧ arBad q (nodesI (pre ++ x :: suf)) = true := by
  unfold arNx at h
  by_cases hv : x.2.var = true
  · rw [if_pos hv] at h; cases h
  · rw [if_neg hv] at h
    split at h
    · rename_i h3
      injection h with h
      refine ⟨h.symm, ?_⟩
      have e : nodesI (pre ++ x :: suf) = nodesI pre ++ (ndT x.2 ++ nodesI suf) := by simp [nodesI]
      rw [e, arBad_app, nd_sym hv, arBad_app, arBad_one, h3]; simp
    · cases h
set_option maxHeartbeats 1600000 in
theorem arities_ac (rs : List (Term × Term)) (hlen : rs.length < 1099511627776) (hb : ∀ r, r ∈ rs → r.1.bulk ≤ 1099511627775 ∧ r.2.bulk ≤ 1099511627775) (H : List AObj) :
    ACall Tryz.prog 44 [.sl .none (encL encRu rs)] H (fun r H' => r = .tup [if arB rs then .lit (.map none) else .map (H.length + 2), .bool (!arB rs)] ∧ ∃ v es, H' = H ++ [.cells [if arB rs then .lit (.map none) else .map (H.length + 2)], .cells [.bool (!arB rs)], .map v es] ∧ (arB rs = false → v = (arE rs).1 ∧ es = sA (arE rs).2)) := by
  refine ACall_W (H.length + 3) 57 [.cell 2 83, .cell 3 4] Tryz.func44 rfl rfl rfl ?_
  simp only [push_cast, Nat.reduceAdd, Nat.reduceSub, Nat.reduceMul, Nat.reduceLT, Nat.reduceLeDiff, Nat.reduceEqDiff, Int.reduceToNat, ↓reduceIte]
  refine AW_loopW (maskG 58 [2, 0, 0, 9, 0, 0, 14]) (fun (i : Nat) => [(16, .int .i64 i)]) (fun i => H ++ [.cells [.lit (.map none)], .cells [.bool false], .map (arE (rs.take i)).1 (sA (arE (rs.take i)).2), .cells [.map (H.length + 2)]]) (fun i => i ≤ rs.length ∧ arB (rs.take i) = false) (fun i => rs.length - i) 0 ⟨Nat.zero_le _, by rw [List.take_zero]; exact arB_nil⟩ (by simp only [push_cast, Nat.reduceAdd, Nat.reduceSub, Nat.reduceMul, Nat.reduceLT, Nat.reduceLeDiff, Nat.reduceEqDiff, Int.reduceToNat, ↓reduceIte, List.take_zero, arE_nil, sA_nil]) (fun i hi => ?_)
  simp only [push_cast, Nat.reduceAdd, Nat.reduceSub, Nat.reduceMul, Nat.reduceLT, Nat.reduceLeDiff, Nat.reduceEqDiff, Int.reduceToNat, ↓reduceIte]
  refine cI (fun h => ?_) (fun h => ?_)
  · repeat refine ⟨by omega, ?_⟩
    have hil : i < rs.length := by omega
    obtain ⟨l, r, hlr⟩ : ∃ l r, rs[i]'hil = (l, r) := ⟨_, _, rfl⟩
    have hbi := hb _ (List.getElem_mem hil)
    rw [hlr] at hbi
    obtain ⟨hbl, hbr⟩ := hbi
    simp only at hbl hbr
    simp only [push_cast, Nat.reduceAdd, Nat.reduceSub, Nat.reduceMul, Nat.reduceLT, Nat.reduceLeDiff, Nat.reduceEqDiff, Int.reduceToNat, ↓reduceIte, hlr]
    refine AW_loopW (maskG 58 [2, 0, 0, 9, 0, 0, 7, 0, 5]) (fun (j : Nat) => [(25, .int .i64 j)]) (fun j => H ++ [.cells [.lit (.map none)], .cells [.bool false], .map (arF (arE (rs.take i)) (nodesL ([l, r].take j))).1 (sA (arF (arE (rs.take i)) (nodesL ([l, r].take j))).2), .cells [.map (H.length + 2)], .cells [.str l.name, .bool l.var, .sl .none (encTs l.args), .str r.name, .bool r.var, .sl .none (encTs r.args)]]) (fun j => j ≤ 2 ∧ arBad (arE (rs.take i)) (nodesL ([l, r].take j)) = false) (fun j => 2 - j) 0 ⟨by omega, by simp [nodesL, arBad]⟩ (by simp only [push_cast, Nat.reduceAdd, Nat.reduceSub, Nat.reduceMul, Nat.reduceLT, Nat.reduceLeDiff, Nat.reduceEqDiff, Int.reduceToNat, ↓reduceIte, List.take_zero, nodesL_nil, arF_nil]) (fun j hj => ?_)
    simp only [push_cast, Nat.reduceAdd, Nat.reduceSub, Nat.reduceMul, Nat.reduceLT, Nat.reduceLeDiff, Nat.reduceEqDiff, Int.reduceToNat, ↓reduceIte]
    refine cI (fun h2 => ?_) (fun h2 => ?_)
    · obtain ⟨t, hat, hbt, htk⟩ : ∃ t, (List.take 3 (List.drop (j * 3) [AV.str l.name, .bool l.var, .sl .none (encTs l.args), .str r.name, .bool r.var, .sl .none (encTs r.args)]) = [AV.str t.name, .bool t.var, .sl .none (encTs t.args)]) ∧ t.bulk ≤ 1099511627775 ∧ [l, r].take (j + 1) = [l, r].take j ++ [t] := by
        have hj01 : j = 0 ∨ j = 1 := by omega
        rcases hj01 with rfl | rfl
        · exact ⟨l, rfl, hbl, rfl⟩
        · exact ⟨r, rfl, hbr, rfl⟩
      repeat refine ⟨by omega, ?_⟩
      rw [hat]
      simp only [push_cast, Nat.reduceAdd, Nat.reduceSub, Nat.reduceMul, Nat.reduceLT, Nat.reduceLeDiff, Nat.reduceEqDiff, Int.reduceToNat, ↓reduceIte]
      refine (walkF_ac t _).to ?_
      simp only [push_cast, Nat.reduceAdd, Nat.reduceSub, Nat.reduceMul, Nat.reduceLT, Nat.reduceLeDiff, Nat.reduceEqDiff, Int.reduceToNat, ↓reduceIte]
      obtain ⟨q0, hq0⟩ : ∃ q0, q0 = arF (arE (rs.take i)) (nodesL ([l, r].take j)) := ⟨_, rfl⟩
      have hE2 : arF (arE (rs.take i)) (nodesL ([l, r].take (j + 1))) = arF q0 (nodesI (walkT t [])) := by rw [htk, nodesL_app, arF_app, ← hq0, nodes_walkT]
      have hB2 : arBad (arE (rs.take i)) (nodesL ([l, r].take (j + 1))) = arBad q0 (nodesI (walkT t [])) := by rw [htk, nodesL_app, arBad_app, hj.2, Bool.false_or, ← hq0, nodes_walkT]
      rw [← hq0]
      refine AW_iterW _ _ (walk_iter t hbt _) H (fun pre => [.cells [.lit (.map none)], .cells [.bool false], .map (arF q0 (nodesI pre)).1 (sA (arF q0 (nodesI pre)).2), .cells [.map (H.length + 2)], .cells [.str l.name, .bool l.var, .sl .none (encTs l.args), .str r.name, .bool r.var, .sl .none (encTs r.args)], .cells [.str t.name, .bool t.var, .sl .none (encTs t.args)], .cells [.str t.name, .bool t.var, .sl .none (encTs t.args)]]) 7 (arNx q0) rfl ok109 (by simp only [push_cast, Nat.reduceAdd, Nat.reduceSub, Nat.reduceMul, Nat.reduceLT, Nat.reduceLeDiff, Nat.reduceEqDiff, Int.reduceToNat, ↓reduceIte, nodesI_nil, arF_nil]) (fun _ => rfl) (fun lp => by simp only [push_cast, Nat.reduceAdd, Nat.reduceSub, Nat.reduceMul, Nat.reduceLT, Nat.reduceLeDiff, Nat.reduceEqDiff, Int.reduceToNat, ↓reduceIte]) (fun p => by simp only [push_cast, Nat.reduceAdd, Nat.reduceSub, Nat.reduceMul, Nat.reduceLT, Nat.reduceLeDiff, Nat.reduceEqDiff, Int.reduceToNat, ↓reduceIte]) (fun _ => rfl) (fun pre x suf X lid lp lp' he hn => ?_) (fun hN lp => ?_) (fun pre x suf c lp he hn hc => ?_)
      · simp only [push_cast, Nat.reduceAdd, Nat.reduceSub, Nat.reduceMul, Nat.reduceLT, Nat.reduceLeDiff, Nat.reduceEqDiff, Int.reduceToNat, ↓reduceIte, List.drop_length]
        refine cI (fun hv => ?_) (fun hv => ?_)
        · have e1 : arNx q0 pre x = none := by unfold arNx; rw [if_pos hv]
          have e2 : nodesI (pre ++ [x]) = nodesI pre := by rw [nodesI_snoc, nd_var hv, List.append_nil]
          simp only [push_cast, Nat.reduceAdd, Nat.reduceSub, Nat.reduceMul, Nat.reduceLT, Nat.reduceLeDiff, Nat.reduceEqDiff, Int.reduceToNat, ↓reduceIte, e1, e2]
        · have hsn : nodesI (pre ++ [x]) = nodesI pre ++ [(x.2.name, x.2.args.length)] := by rw [nodesI_snoc, nd_sym hv]
          obtain ⟨q, hq⟩ : ∃ q, q = arF q0 (nodesI pre) := ⟨_, rfl⟩
          have hst : arF q0 (nodesI (pre ++ [x])) = arStep q (x.2.name, x.2.args.length) := by rw [hsn, arF_snoc, ← hq]
          have hnx : arNx q0 pre x = if arC q (x.2.name, x.2.args.length) then some .ret else none := by unfold arNx; rw [if_neg hv, ← hq]
          rw [← hq, hst, hnx]
          refine AOp_lookupOk (strKey un9) avN q.2 (H.length + 2) q.1 x.2.name (.int .i64 0) rfl (by exact (agetN _ _ 2).trans rfl) rfl un83 (ZeroV_of (.int .i64 0) (by kernel_rfl)) ?_
          cases hg : aget q.2 x.2.name with
          | none =>
            have hc : arC q (x.2.name, x.2.args.length) = false := by simp [arC, hg]
            have hs : arStep q (x.2.name, x.2.args.length) = (q.1 + 1, aset q.2 x.2.name x.2.args.length) := by simp [arStep, hc]
            simp only [push_cast, Nat.reduceAdd, Nat.reduceSub, Nat.reduceMul, Nat.reduceLT, Nat.reduceLeDiff, Nat.reduceEqDiff, Int.reduceToNat, ↓reduceIte, hc, hs, Option.map_none, Option.getD_none, Option.isSome_none, Bool.false_eq_true, if_false]
            refine AOp_mapUpdate (strKey un9) avN q.2 (H.length + 2) q.1 x.2.name x.2.args.length rfl (by exact (agetN _ _ 2).trans rfl) rfl rfl un83 ?_
            simp only [push_cast, Nat.reduceAdd, Nat.reduceSub, Nat.reduceMul, Nat.reduceLT, Nat.reduceLeDiff, Nat.reduceEqDiff, Int.reduceToNat, ↓reduceIte, sA]
          | some k =>
            have hc : arC q (x.2.name, x.2.args.length) = !decide (k = x.2.args.length) := by simp [arC, hg]
            by_cases hk : k = x.2.args.length
            · have hc : arC q (x.2.name, x.2.args.length) = false := by rw [hc]; simpa using hk
              have hs : arStep q (x.2.name, x.2.args.length) = (q.1 + 1, aset q.2 x.2.name x.2.args.length) := by simp [arStep, hc]
              subst hk
              simp only [push_cast, Nat.reduceAdd, Nat.reduceSub, Nat.reduceMul, Nat.reduceLT, Nat.reduceLeDiff, Nat.reduceEqDiff, Int.reduceToNat, ↓reduceIte, hc, hs, avN, Option.getD_some, Option.isSome_some, Bool.false_eq_true, if_false]
              refine AOp_mapUpdate (strKey un9) avN q.2 (H.length + 2) q.1 x.2.name x.2.args.length rfl (by exact (agetN _ _ 2).trans rfl) rfl rfl un83 ?_
              simp only [push_cast, Nat.reduceAdd, Nat.reduceSub, Nat.reduceMul, Nat.reduceLT, Nat.reduceLeDiff, Nat.reduceEqDiff, Int.reduceToNat, ↓reduceIte, sA]
            · have hc : arC q (x.2.name, x.2.args.length) = true := by rw [hc]; simpa using hk
              have hs : arStep q (x.2.name, x.2.args.length) = q := by simp [arStep, hc]
              have hkz : decide ((k : Int) = (x.2.args.length : Int)) = false := by rw [decide_eq_false_iff_not]; omega
              simp only [push_cast, Nat.reduceAdd, Nat.reduceSub, Nat.reduceMul, Nat.reduceLT, Nat.reduceLeDiff, Nat.reduceEqDiff, Int.reduceToNat, ↓reduceIte, hc, hs, avN, Option.getD_some, Option.isSome_some, if_true, hkz]
      · have hbad := arNx_ok q0 _ _ rfl hN
        rw [← hB2] at hbad
        simp only [push_cast, Nat.reduceAdd, Nat.reduceSub, Nat.reduceMul, Nat.reduceLT, Nat.reduceLeDiff, Nat.reduceEqDiff, Int.reduceToNat, ↓reduceIte]
        repeat' first | refine ⟨by omega, ?_⟩ | refine cI (fun _ => ?_) (fun _ => ?_)
        refine loopW_n (j + 1) ⟨by omega, hbad⟩ (by omega) ?_
        rw [hE2]
        simp only [push_cast, Nat.reduceAdd, Nat.reduceSub, Nat.reduceMul, Nat.reduceLT, Nat.reduceLeDiff, Nat.reduceEqDiff, Int.reduceToNat, ↓reduceIte]
      · obtain ⟨rfl, hbad⟩ := arNx_bad q0 pre suf x c hc
        rw [← he, ← hB2] at hbad
        have hB : arB rs = true := by
          have e0 := rT_split rs i hil
          have h5 := hi.2
          unfold arB at h5 ⊢
          rw [e0, hlr, nodesL_app, arBad_app, h5, Bool.false_or, nodesL_app, arBad_app]
          have e6 : arBad (arE (rs.take i)) (nodesL [l, r]) = true := by
            have hj01 : j = 0 ∨ j = 1 := by omega
            rcases hj01 with rfl | rfl
            · have : [l, r] = [l, r].take 1 ++ [r] := rfl
              rw [this, nodesL_app, arBad_app, hbad]; rfl
            · exact hbad
          show (arBad (arE (rs.take i)) (nodesL [l, r]) || _) = true
          rw [e6]; rfl
        simp only [push_cast, Nat.reduceAdd, Nat.reduceSub, Nat.reduceMul, Nat.reduceLT, Nat.reduceLeDiff, Nat.reduceEqDiff, Int.reduceToNat, ↓reduceIte, hB]
        exact ⟨_, _, rfl, fun h => h.elim⟩
    · have hj2 : j = 2 := by omega
      subst hj2
      have e1 : rT (rs.take (i + 1)) = rT (rs.take i) ++ [l, r] := by rw [rT_take rs i hil, hlr]
      have e2 : arE (rs.take (i + 1)) = arF (arE (rs.take i)) (nodesL [l, r]) := by unfold arE; rw [e1, nodesL_app, arF_app]
      have e3 : arB (rs.take (i + 1)) = false := by
        have h5 := hi.2
        unfold arB at h5 ⊢
        rw [e1, nodesL_app, arBad_app, h5, Bool.false_or]; exact hj.2
      repeat' first | refine ⟨by omega, ?_⟩ | refine cI (fun _ => ?_) (fun _ => ?_)
      refine loopW_n (i + 1) ⟨by omega, e3⟩ (by omega) ?_
      rw [e2]
      simp only [push_cast, Nat.reduceAdd, Nat.reduceSub, Nat.reduceMul, Nat.reduceLT, Nat.reduceLeDiff, Nat.reduceEqDiff, Int.reduceToNat, ↓reduceIte, List.take_succ_cons, List.take_zero]
  · rw [List.take_of_length_le (show rs.length ≤ i by omega)] at hi ⊢
    simp only [push_cast, Nat.reduceAdd, Nat.reduceSub, Nat.reduceMul, Nat.reduceLT, Nat.reduceLeDiff, Nat.reduceEqDiff, Int.reduceToNat, ↓reduceIte, hi.2]
    exact ⟨_, _, rfl, fun _ => ⟨rfl, rfl⟩⟩
end Ab
set_option maxRecDepth 10000
namespace Ab
open Go Go.Proofs
theorem putRow_heapG {α : Type} [Inhabited α] (enc : α → Value) (w : World) (b off : Nat) (d : Array α) (cur : Array Value) (e : TypeId) (fr : Nat × Nat) (hb : w.heap[b]? = some (.cells cur e fr)) :
    (Go.Sort.putRow enc w b off d).heap = w.heap.setIfInBounds b (.cells (Go.Sort.putCells enc off d cur) e fr) := by
  have hlt := (Array.getElem?_eq_some_iff.1 hb).1
  unfold Go.Sort.putRow Go.Sort.mapBlock
  apply Array.ext_getElem?
  intro k
  simp only [Array.getElem?_modify, Array.getElem?_setIfInBounds]
  by_cases hk : b = k
  · subst hk
    rw [if_pos rfl, if_pos rfl, if_pos hlt, hb]; rfl
  · rw [if_neg hk, if_neg hk]
theorem putCells_getG {α : Type} [Inhabited α] (enc : α → Value) (d : Array α) (cur : Array Value) (j : Nat) (hj : j < d.size) (hj' : j < (Go.Sort.putCells enc 0 d cur).size) : (Go.Sort.putCells enc 0 d cur)[j] = enc d[j] := by
  unfold Go.Sort.putCells
  simp [hj]
theorem sortG {P : Program} {ρ : Go.Shelf.Ren} {α β : Type} [Inhabited α] (L : SlLaysF0.n6 P ρ) (k : Nat) (hk0 : 0 < k) (aE : ∀ w, (isAgg (ρ.t 24)).run P w = .ok true w) (zE : ∀ w, (Go.sizeOf (ρ.t 24)).run P w = .ok k w)
    (encA : β → AV) (hu : ∀ x, (encA x).cells.length = k) (hcell : ∀ x c, c ∈ (encA x).cells → c.isCell = true)
    (enc : α → List Value) (hk : ∀ a, (enc a).length = k) (h1 : ∀ a, ∀ v ∈ enc a, v.oneCell' = true) (abs : α → β)
    (hrep : ∀ (C : Ctx) (x : β) (vs : List Value), vs.length = k → (∀ j (h : j < (encA x).cells.length) (h' : j < vs.length), VRel C (encA x).cells[j] vs[j]) → ∃ a, enc a = vs ∧ abs a = x)
    (cf : β → β → Int) (hO : Go.Sort.SWO (ltOf fun a b : α => cf (abs a) (abs b))) (g : Nat) (eg : ∀ args w, (callFunc g args).run P w = .ok (.enter g args) w)
    (hcalls : ∀ w a b, Calls P g #[.agg (enc a).toArray, .agg (enc b).toArray] w fun e w' => e = .returned (.int .i64 (cf (abs a) (abs b))) ∧ ∃ q os', w' = Go.Sort.grow (w.drewN q) os')
    (id : Nat) (xs : List β) (e : TypeId) (hlen : xs.length < 1099511627776) (H : List AObj) (hkH : H[id]? = some (grO e k (encL encA xs))) :
    ACall P (ρ.f 6) [grS id (encL encA xs), .fn g []] H (fun r H' => ∃ xs', xs.Perm xs' ∧ xs'.Pairwise (fun a b => ¬ cf b a < 0) ∧ r = .tup [] ∧ H' = H.set id (grO e k (encL encA xs'))) := by
  intro C vs hg hH hsz hv
  match vs, hsz, hv with
  | ⟨[v, fv]⟩, _, hv =>
    have h0 := hv 0 (by simp) (by simp)
    have hf := hv 1 (by simp) (by simp)
    simp only [List.getElem_cons_zero, List.getElem_cons_succ] at h0 hf
    have htup : ∀ C' : Ctx, VRel C' (.tup []) (.tuple #[]) := fun C' => .tup [] #[] rfl (fun i h => absurd h (by simp))
    have hfv : fv = .func (.func g) #[] #[] := by
      cases hf with
      | fn _ _ us hs _ =>
        have : us = #[] := Array.eq_empty_of_size_eq_zero hs
        rw [this]
    subst hfv
    cases xs with
    | nil =>
      have h0' : VRel C (.sl .zero []) v := h0
      have hset : H.set id (grO e k (encL encA [])) = H := by
        apply List.ext_getElem?
        intro i
        rw [List.getElem?_set]
        split
        · rename_i h; subst h
          have hl := (List.getElem?_eq_some_iff.1 hkH).1
          simp only [hl, if_true]; exact hkH.symm
        · rfl
      cases h0' with
      | sl _ _ a n c f hn hc hrow hrel htok =>
        subst hn
        refine (show Calls P (ρ.f 6) #[.slice a 0 c, .func (.func g) #[] #[]] C.w (fun e w' => e = .returned (.tuple #[]) ∧ w' = C.w) from AnyF.slices_SortFunc_none L a c _ C.w).mono fun e w' ⟨he, hw⟩ => ?_
        subst hw
        exact ⟨_, .tup [], C, he, rfl, hg, Ext.refl C, htup C, [], List.Perm.refl _, List.Pairwise.nil, rfl, by rw [hset]; exact hH⟩
    | cons s ss' =>
      have hlf : ∀ l : List β, (flat (encL encA l)).length = l.length * k := fun l => by rw [flat_length (uni_encL (enc := encA) (k := k) hu l), encL_length]
      have h0' : VRel C (.gr id (encL encA (s :: ss')).length) v := h0
      have hkC : C.H[id]? = some (.grow e k (flat (encL encA (s :: ss')))) := by rw [hH, hkH]; rfl
      have hne : s :: ss' ≠ [] := by simp
      generalize s :: ss' = xs at *
      have hxl : 0 < xs.length := List.length_pos_iff.2 hne
      cases h0' with
      | gr _ _ ad c hgr =>
        obtain ⟨e', sz', vs', hk2, _, _, hr⟩ := hgr
        rw [hkC] at hk2
        injection hk2 with hk2; injection hk2 with q1 q2 q3
        subst q1 q2 q3
        rw [encL_length] at hr ⊢
        obtain ⟨cur, rfl, hb, hcm, hc1, hcs⟩ := hr (hlf xs).symm
        obtain ⟨cur2, hb2, hfit, hS, hrel⟩ := hg.obj id _ hkC
        rw [hb] at hb2
        injection hb2 with hb2; injection hb2 with hb2 _ _
        subst hb2
        rw [hlf] at hfit
        have hpos : ∀ i j, i < xs.length → j < k → i * k + j < xs.length * k := fun i j hi hj => by
          have := Nat.mul_le_mul_right k (show i + 1 ≤ xs.length from hi)
          rw [Nat.add_mul] at this; omega
        have hlt := hg.lt id _ hkC (by simp [AObj.kind])
        have hcv : ∀ i j (hi : i < xs.length) (hj : j < k), VRel C ((encA xs[i]).cells[j]'(by rw [hu]; exact hj)) (cur[i * k + j]'(by have := hpos i j hi hj; omega)) := by
          intro i j hi hj
          have hp := hpos i j hi hj
          have h2 := (hrel (i * k + j) (by rw [hlf]; exact hp) (by omega)).1
          have h3 := flat_get (uni_encL (enc := encA) (k := k) hu xs) i j (by rw [encL_length]; exact hi) hj
          rw [List.getElem?_eq_getElem (by rw [hlf]; exact hp), encL_get, List.getElem?_eq_getElem (by rw [hu]; exact hj)] at h3
          injection h3 with h3
          rw [h3] at h2
          exact h2
        have hex : ∀ i : Fin xs.length, ∃ a, enc a = ((List.range k).map fun j => cur[i.1 * k + j]!) ∧ abs a = xs[i.1] := fun i => hrep C xs[i.1] _ (by simp) (fun j h h' => by
          have hj : j < k := by rw [hu] at h; exact h
          have := hcv i.1 j i.2 hj
          have hp := hpos i.1 j i.2 hj
          simpa [getElem!_pos cur (i.1 * k + j) (by omega)] using this)
        obtain ⟨fn, hfn⟩ := Classical.axiomOfChoice hex
        obtain ⟨d, hd⟩ : ∃ d : Array α, d = Array.ofFn fn := ⟨_, rfl⟩
        have hds : d.size = xs.length := by rw [hd]; simp
        have hdg : ∀ i (h : i < xs.length), d[i]! = fn ⟨i, h⟩ := fun i h => by rw [hd, getElem!_pos _ i (by simpa using h)]; simp
        have hdx : d.toList.map abs = xs := by
          apply List.ext_getElem
          · simp [hds]
          · intro i h1 h2
            have h3 : i < d.size := by simpa using h1
            simp only [List.getElem_map, Array.getElem_toList]
            rw [← getElem!_pos d i h3, hdg i h2]
            exact (hfn ⟨i, h2⟩).2
        have hHolds : Go.Sort.HoldsK enc k C.w (C.μ id) 0 d := fun t ht => by
          rw [Go.Sort.size_flatK, hds] at ht
          have hki : t / k < xs.length := Nat.div_lt_of_lt_mul (by rw [Nat.mul_comm]; exact ht)
          have hkj : t % k < k := Nat.mod_lt _ hk0
          have hsum : t / k * k + t % k = t := by rw [Nat.mul_comm]; exact Nat.div_add_mod t k
          have htc : t < cur.size := by omega
          refine ⟨?_, by simp [World.frozen?, hb]⟩
          rw [Go.Sort.get_flatK enc k d t (by rw [hds]; exact ht), hdg _ hki, (hfn ⟨t / k, hki⟩).1]
          simp only [Nat.zero_add, _root_.id]
          rw [getElem!_pos _ _ (by simpa using hkj)]
          simp only [List.getElem_map, List.getElem_range, hsum]
          simp [World.cell?, hb, htc]
        have hcmp : CmpLays P g #[] enc k (fun a b => cf (abs a) (abs b)) (C.μ id) 0 d.size C.w := fun m os dk _ x y => by
          rw [Array.append_empty]; exact hcalls _ x y
        have hcall := AnyQ.slices_SortFunc L k aE zE enc hk h1 (fun a b => cf (abs a) (abs b)) hO g #[] (C.μ id) 0 c d C.w eg hcmp hHolds hlt (by omega)
        rw [hds] at hcall
        refine hcall.mono fun e2 w' ⟨he, d', q, os, hperm, hsort, hw⟩ => ?_
        subst hw
        have hd's : d'.size = xs.length := by rw [hperm.1, hds]
        have hpl : d'.toList.Perm d.toList := by
          have h5 := hperm.2.2
          rwa [← hds, ← hperm.1, Array.extract_size, hperm.1, Array.extract_size] at h5
        have hxl' : (d'.toList.map abs).length = xs.length := by simp [hd's]
        have hF : (Go.Sort.flatK enc k d').size = xs.length * k := by rw [Go.Sort.size_flatK, hd's]
        have hputs : (Go.Sort.putCells _root_.id 0 (Go.Sort.flatK enc k d') cur).size = cur.size := by simp [Go.Sort.putCells]
        have hheap := putRow_heapG _root_.id (Go.Sort.ahead C.w q) (C.μ id) 0 (Go.Sort.flatK enc k d') cur e (0, 0) hb
        obtain ⟨hg1, hx1⟩ := step_gr_in hg id (vs' := flat (encL encA (d'.toList.map abs))) hkC hb (w' := Go.Sort.putRowK enc k (Go.Sort.ahead C.w q) (C.μ id) 0 d') hheap ⟨rfl, rfl, rfl⟩ hputs (by rw [hlf, hlf, hxl']; omega) rfl (fun hxx => by
          refine ⟨Go.Sort.putCells _root_.id 0 (Go.Sort.flatK enc k d') cur, by show (Go.Sort.putRow _ _ _ _ _).heap[_]? = _; rw [hheap]; simp [hlt, Go.Sort.ahead], by rw [hlf, hputs, hxl']; omega, hS, fun j hj hj' => ?_⟩
          rw [hlf, hxl'] at hj
          have hi : j / k < xs.length := Nat.div_lt_of_lt_mul (by rw [Nat.mul_comm]; exact hj)
          have hr : j % k < k := Nat.mod_lt _ hk0
          have hsum : j / k * k + j % k = j := by rw [Nat.mul_comm]; exact Nat.div_add_mod j k
          have hi' : j / k < d'.size := by omega
          have h3 := flat_get (uni_encL (enc := encA) (k := k) hu (d'.toList.map abs)) (j / k) (j % k) (by rw [encL_length, hxl']; exact hi) hr
          rw [hsum, List.getElem?_eq_getElem (by rw [hlf, hxl']; exact hj), encL_get, List.getElem?_eq_getElem (by rw [hu]; exact hr)] at h3
          injection h3 with h3
          rw [h3, putCells_getG _root_.id (Go.Sort.flatK enc k d') cur j (by rw [hF]; exact hj) hj']
          refine ⟨?_, hcell _ _ (List.getElem_mem _)⟩
          simp only [List.getElem_map, Array.getElem_toList, _root_.id]
          rw [← getElem!_pos (Go.Sort.flatK enc k d') j (by rw [hF]; exact hj), Go.Sort.get_flatK enc k d' j (by rw [hd's]; exact hj), getElem!_pos d' (j / k) hi']
          have hmem : d'[j / k] ∈ d.toList := hpl.subset (by simp)
          obtain ⟨i0, hi0, he0⟩ := List.getElem_of_mem hmem
          have hi0' : i0 < xs.length := by simpa [hds] using hi0
          have hd0 : d'[j / k] = fn ⟨i0, hi0'⟩ := by
            rw [← he0, Array.getElem_toList, ← getElem!_pos d i0 (by omega), hdg i0 hi0']
          have h7 := hfn ⟨i0, hi0'⟩
          rw [← hd0] at h7
          have h8 := (hcv i0 (j % k) hi0' hr).ext hxx
          have h9 : ((encA (abs d'[j / k])).cells[j % k]'(by rw [hu]; exact hr)) = (encA xs[i0]).cells[j % k]'(by rw [hu]; exact hr) := by simp only [h7.2]
          rw [h9, h7.1, getElem!_pos _ _ (by simpa using hr)]
          simp only [List.getElem_map, List.getElem_range]
          have hp := hpos i0 (j % k) hi0' hr
          rw [getElem!_pos cur _ (by omega)]
          exact h8)
        obtain ⟨hg2, hx2⟩ := step_more hg1 (Go.Sort.grow (Go.Sort.putRowK enc k (Go.Sort.ahead C.w q) (C.μ id) 0 d') os) os rfl ⟨rfl, rfl, rfl⟩
        refine ⟨_, .tup [], _, he, rfl, hg2, hx1.trans hx2, htup _, d'.toList.map abs, ?_, ?_, rfl, ?_⟩
        · rw [← hdx]; exact (hpl.map abs).symm
        · rw [List.pairwise_map, List.pairwise_iff_getElem]
          intro i j hi hj hij
          have := hsort i j (Nat.zero_le _) hij (by simpa [hd's] using hj)
          rw [getElem!_pos d' j (by simpa using hj), getElem!_pos d' i (by simpa using hi)] at this
          simpa [ltOf] using this
        · have hgo : grO e k (encL encA (d'.toList.map abs)) = .grow e k (flat (encL encA (d'.toList.map abs))) := by
            cases hq : d'.toList.map abs with
            | nil => rw [hq] at hxl'; simp at hxl'; omega
            | cons a r => rfl
          rw [hgo, ← hH]
end Ab
namespace Go.Proofs
open Go.Shelf Go.Sort Go.RowKit
def Tryz.lays106_ren : Go.Shelf.Ren := ⟨fun | 106 => 47 | 213 => 81 | 265 => 121 | n => n, fun | 9 => 9 | 3 => 3 | n => n, fun | n => n⟩
theorem Tryz.lays106 : Go.Proofs.Lays.n106 Tryz.prog Tryz.lays106_ren := {
  mixed := by kernel_rfl
  f106 := Tryz.func47.trans (congrArg some (by kernel_rfl))
  f213 := Tryz.func81.trans (congrArg some (by kernel_rfl))
  f265 := Tryz.func121.trans (congrArg some (by kernel_rfl))
  t3 := Tryz.underlying3
  a3 := Tryz.isAgg3
  z3 := Tryz.sizeOf3
  v3 := Tryz.zeroValue3
  t9 := Tryz.underlying9
  a9 := Tryz.isAgg9
  z9 := Tryz.sizeOf9
  v9 := Tryz.zeroValue9 }
theorem Tryz.strings_Compare (a b : ByteArray) (w : World) :
    Calls Tryz.prog 47 #[.string a, .string b] w fun e w' => e = .returned (.int .i64 (Lib.compareBytes a.data.toList b.data.toList)) ∧ w' = w := Any.strings_Compare Tryz.lays106 a b w
def Tryz.sortSy_ren : Go.Shelf.Ren := ⟨fun | 6 => 45 | 15 => 80 | 14 => 79 | 28 => 119 | 29 => 120 | 20 => 111 | 21 => 112 | 22 => 113 | 23 => 114 | 24 => 115 | 25 => 116 | 26 => 117 | 27 => 118 | 46 => 133 | 47 => 134 | 48 => 135 | 49 => 136 | 50 => 137 | 57 => 141 | n => n, fun | 22 => 33 | 24 => 64 | 25 => 88 | 3 => 3 | 39 => 119 | 0 => 0 | 53 => 151 | 55 => 153 | 4 => 4 | 46 => 145 | 45 => 144 | 50 => 116 | 5 => 5 | 9 => 9 | 66 => 165 | 70 => 169 | 76 => 174 | 77 => 104 | n => n, fun | n => n⟩
theorem Tryz.sortSy : Go.Proofs.SlLaysF0.n6 Tryz.prog Tryz.sortSy_ren := {
  mixed := by kernel_rfl
  f6 := ⟨Tryz.f45.name, by decide, Tryz.func45.trans (congrArg some (by kernel_rfl))⟩
  f14 := ⟨Tryz.f79.name, by decide, Tryz.func79.trans (congrArg some (by kernel_rfl))⟩
  f15 := Tryz.func80.trans (congrArg some (by kernel_rfl))
  f20 := ⟨Tryz.f111.name, by decide, Tryz.func111.trans (congrArg some (by kernel_rfl))⟩
  f21 := ⟨Tryz.f112.name, by decide, Tryz.func112.trans (congrArg some (by kernel_rfl))⟩
  f22 := ⟨Tryz.f113.name, by decide, Tryz.func113.trans (congrArg some (by kernel_rfl))⟩
  f23 := ⟨Tryz.f114.name, by decide, Tryz.func114.trans (congrArg some (by kernel_rfl))⟩
  f24 := ⟨Tryz.f115.name, by decide, Tryz.func115.trans (congrArg some (by kernel_rfl))⟩
  f25 := ⟨Tryz.f116.name, by decide, Tryz.func116.trans (congrArg some (by kernel_rfl))⟩
  f26 := ⟨Tryz.f117.name, by decide, Tryz.func117.trans (congrArg some (by kernel_rfl))⟩
  f27 := ⟨Tryz.f118.name, by decide, Tryz.func118.trans (congrArg some (by kernel_rfl))⟩
  f28 := Tryz.func119.trans (congrArg some (by kernel_rfl))
  f29 := Tryz.func120.trans (congrArg some (by kernel_rfl))
  f46 := ⟨Tryz.f133.name, by decide, Tryz.func133.trans (congrArg some (by kernel_rfl))⟩
  f47 := Tryz.func134.trans (congrArg some (by kernel_rfl))
  f48 := Tryz.func135.trans (congrArg some (by kernel_rfl))
  f49 := ⟨Tryz.f136.name, by decide, Tryz.func136.trans (congrArg some (by kernel_rfl))⟩
  f50 := ⟨Tryz.f137.name, by decide, Tryz.func137.trans (congrArg some (by kernel_rfl))⟩
  f57 := ⟨Tryz.f141.name, by decide, Tryz.func141.trans (congrArg some (by kernel_rfl))⟩
  t0 := Tryz.underlying0
  a0 := Tryz.isAgg0
  z0 := Tryz.sizeOf0
  v0 := Tryz.zeroValue0
  t3 := Tryz.underlying3
  a3 := Tryz.isAgg3
  z3 := Tryz.sizeOf3
  v3 := Tryz.zeroValue3
  t4 := Tryz.underlying4
  a4 := Tryz.isAgg4
  z4 := Tryz.sizeOf4
  v4 := Tryz.zeroValue4
  t5 := Tryz.underlying5
  a5 := Tryz.isAgg5
  z5 := Tryz.sizeOf5
  v5 := Tryz.zeroValue5
  t9 := Tryz.underlying9
  a9 := Tryz.isAgg9
  z9 := Tryz.sizeOf9
  v9 := Tryz.zeroValue9
  t22 := Tryz.underlying33
  a22 := Tryz.isAgg33
  z22 := Tryz.sizeOf33
  v22 := Tryz.zeroValue33
  t25 := Tryz.underlying88
  a25 := Tryz.isAgg88
  z25 := Tryz.sizeOf88
  v25 := Tryz.zeroValue88
  t39 := Tryz.underlying119
  a39 := Tryz.isAgg119
  z39 := Tryz.sizeOf119
  v39 := Tryz.zeroValue119
  t45 := Tryz.underlying144
  a45 := Tryz.isAgg144
  z45 := Tryz.sizeOf144
  v45 := Tryz.zeroValue144
  t46 := Tryz.underlying145
  a46 := Tryz.isAgg145
  z46 := Tryz.sizeOf145
  v46 := Tryz.zeroValue145
  t50 := Tryz.underlying116
  a50 := Tryz.isAgg116
  z50 := Tryz.sizeOf116
  v50 := Tryz.zeroValue116
  t53 := Tryz.underlying151
  a53 := Tryz.isAgg151
  z53 := Tryz.sizeOf151
  v53 := Tryz.zeroValue151
  t55 := Tryz.underlying153
  a55 := Tryz.isAgg153
  z55 := Tryz.sizeOf153
  v55 := Tryz.zeroValue153
  t66 := Tryz.underlying165
  a66 := Tryz.isAgg165
  z66 := Tryz.sizeOf165
  v66 := Tryz.zeroValue165
  t70 := Tryz.underlying169
  a70 := Tryz.isAgg169
  z70 := Tryz.sizeOf169
  v70 := Tryz.zeroValue169
  t76 := Tryz.underlying174
  a76 := Tryz.isAgg174
  z76 := Tryz.sizeOf174
  v76 := Tryz.zeroValue174
  t77 := Tryz.underlying104
  a77 := Tryz.isAgg104
  z77 := Tryz.sizeOf104
  v77 := Tryz.zeroValue104 }
end Go.Proofs
set_option maxRecDepth 10000
namespace Go.Proofs
open Go.Shelf Go.RowKit Go.Lib Go.Sort
set_option maxHeartbeats 1000000 in
theorem Tryz.sortSyC (a b : ByteArray) (a1 b1 : Value) (W : World) : Calls Tryz.prog 46 #[.agg #[.string a, a1], .agg #[.string b, b1]] W fun e w' => e = .returned (.int .i64 (Lib.compareBytes a.data.toList b.data.toList)) ∧ ∃ q os', w' = grow (W.drewN q) os' := by
  have hcon := fun W' => Tryz.strings_Compare a b W'
  generalize Lib.compareBytes a.data.toList b.data.toList = r at hcon ⊢
  go_enter Tryz.func46, Tryz.ntmps46
  go_wp2_with (go_at_call 47; refine (hcon _).mono ?_; rintro e w' ⟨rfl, rfl⟩)
  go_ret
  exact ⟨rfl, 0, _, by rw [alloc_eq_grow, alloc_eq_grow, grow_grow]; rfl⟩
end Go.Proofs
namespace Ab
open Go Go.Proofs
@[reducible] def encSy (s : List UInt8 × Nat) : AV := .agg [.str s.1, .int .i64 (s.2 : Nat)]
theorem cellSy : ∀ (x : List UInt8 × Nat) c, c ∈ (encSy x).cells → c.isCell = true := by
  intro x c hc; simp [AV.cells] at hc; rcases hc with rfl | rfl <;> rfl
theorem uniSy (l : List (List UInt8 × Nat)) : Uni (1 + 1) (encL encSy l) = True := eq_true (uni_encL (enc := encSy) (k := 2) (fun _ => rfl) l)
theorem scSy_ (n : Nat) (l : List (List UInt8 × Nat)) : ScopedL n (encL encSy l) = True := eq_true (scoped_encL (fun x => by simp [Scoped, ScopedL]) l)
theorem flat_encSy (l : List (List UInt8 × Nat)) : (flat (encL encSy l)).length = l.length * 2 := by rw [flat_length (uni_encL (enc := encSy) (k := 2) (fun _ => rfl) l), encL_length]
theorem scflSy (n : Nat) (l : List (List UInt8 × Nat)) : ScopedL n (flat (encL encSy l)) = True := by
  refine eq_true ?_
  rw [ScopedL_iff]
  intro v hv
  unfold flat encL at hv
  rw [List.mem_flatMap] at hv
  obtain ⟨a, ha, hv⟩ := hv
  obtain ⟨b, _, rfl⟩ := List.mem_map.1 ha
  simp only [AV.cells, List.mem_cons, List.not_mem_nil, or_false] at hv
  rcases hv with rfl | rfl <;> simp [Scoped]
attribute [push_cast] uniSy scSy_ scflSy
def encSyV (s : List UInt8 × Nat) : List Value := [.string ⟨s.1.toArray⟩, .int .i64 (s.2 : Nat)]
theorem sy_swo : Go.Sort.SWO (ltOf fun a b : List UInt8 × Nat => Lib.compareBytes a.1 b.1) := by
  have hz : ∀ x y : List UInt8 × Nat, ltOf (fun a b : List UInt8 × Nat => Lib.compareBytes a.1 b.1) x y = decide (Lib.compareBytes x.1 y.1 < 0) := fun _ _ => rfl
  refine ⟨fun x => ?_, fun x y z h1 h2 => ?_, fun x y z h1 h2 => ?_⟩
  · rw [hz, (compareBytes_eq x.1 x.1).2 rfl]; rfl
  · rw [hz, decide_eq_true_eq] at *; exact cb_trans _ _ _ h1 h2
  · rw [hz, decide_eq_false_iff_not] at *
    intro h3
    by_cases e : x.1 = y.1
    · rw [e] at h3; exact h2 h3
    · exact h2 (cb_trans _ _ _ (cb_tot _ _ h1 e) h3)
theorem sortSy_ac (k : Nat) (l : List (List UInt8 × Nat)) (hlen : l.length < 1099511627776) (H : List AObj) (hk : H[k]? = some (grO 64 2 (encL encSy l))) :
    ACall Tryz.prog 45 [grS k (encL encSy l), .fn 46 []] H (fun r H' => ∃ l', l.Perm l' ∧ l'.Pairwise (fun a b => ¬ Lib.compareBytes b.1 a.1 < 0) ∧ r = .tup [] ∧ H' = H.set k (grO 64 2 (encL encSy l'))) :=
  sortG (ρ := Tryz.sortSy_ren) Tryz.sortSy 2 (by decide) Tryz.isAgg64 Tryz.sizeOf64 encSy (fun _ => rfl) cellSy encSyV (fun _ => rfl) (fun a v hv => by
      simp only [encSyV, List.mem_cons, List.not_mem_nil, or_false] at hv
      rcases hv with rfl | rfl <;> rfl) _root_.id (fun C x vs hl h => by
      match vs, hl with
      | [a, b], _ =>
        have h0 := h 0 (by simp [AV.cells]) (by simp)
        have h1 := h 1 (by simp [AV.cells]) (by simp)
        have g0 := VRel.str_inv (show VRel C (.str x.1) a from h0)
        have g1 := VRel.int_inv (show VRel C (.int .i64 (x.2 : Nat)) b from h1)
        subst g0 g1
        exact ⟨x, rfl, rfl⟩)
    (fun a b => Lib.compareBytes a.1 b.1) sy_swo 46 (enters_of Tryz.func46 (by kernel_rfl) rfl) (fun w a b => Tryz.sortSyC _ _ _ _ w) k l 64 hlen H hk
def sysP (rs : List (Term × Term)) : Int := if rulesP rs ≠ 0 then rulesP rs else if arB rs then 6 else if (arE rs).2.any (fun s => markedP s.1) then 6 else if rs.any extraP then 7 else 0
theorem rules_ok {rs : List (Term × Term)} (h : rulesP rs = 0) : rs.length ≤ 64 ∧ ∀ r, r ∈ rs → checkP r.1 = 0 ∧ checkP r.2 = 0 := by
  unfold rulesP at h
  split at h
  · cases h
  · rename_i h1
    refine ⟨by omega, fun r hr => ?_⟩
    rw [firstErr_iff] at h
    exact ⟨h _ (mem_rT.2 ⟨r, hr, .inl rfl⟩), h _ (mem_rT.2 ⟨r, hr, .inr rfl⟩)⟩
def BndR (rs : List (Term × Term)) : Prop := ∀ r, r ∈ rs → r.1.bulk ≤ 1099511627770 ∧ r.2.bulk ≤ 1099511627770
theorem nodes_key {L : List (List UInt8 × Nat)} {q : Nat × List (List UInt8 × Nat)} : ∀ x, x ∈ (arF q L).2 → (∃ y, y ∈ q.2 ∧ y.1 = x.1) ∨ ∃ y, y ∈ L ∧ y.1 = x.1 := by
  induction L generalizing q with
  | nil => intro x hx; exact .inl ⟨x, hx, rfl⟩
  | cons s r ih =>
    intro x hx
    rcases ih (q := arStep q s) x hx with ⟨y, hy, e⟩ | ⟨y, hy, e⟩
    · have : (∃ z, z ∈ q.2 ∧ z.1 = y.1) ∨ y.1 = s.1 := by
        unfold arStep at hy
        split at hy
        · exact .inl ⟨y, hy, rfl⟩
        · have : ∀ (m : List (List UInt8 × Nat)), y ∈ aset m s.1 s.2 → (∃ z, z ∈ m ∧ z.1 = y.1) ∨ y.1 = s.1 := by
            intro m
            induction m with
            | nil => intro h; simp [aset] at h; rw [h]; exact .inr rfl
            | cons p m ih2 =>
              intro h
              unfold aset at h
              split at h
              · rcases List.mem_cons.1 h with h | h
                · rw [h]; exact .inr rfl
                · exact .inl ⟨y, by simp [h], rfl⟩
              · rcases List.mem_cons.1 h with h | h
                · exact .inl ⟨y, by simp [h], rfl⟩
                · rcases ih2 h with ⟨z, hz, e2⟩ | h
                  · exact .inl ⟨z, by simp [hz], e2⟩
                  · exact .inr h
          exact this _ hy
      rcases this with ⟨z, hz, e2⟩ | e2
      · exact .inl ⟨z, hz, e2.trans e⟩
      · exact .inr ⟨s, by simp, by rw [← e, e2]⟩
    · exact .inr ⟨y, by simp [hy], e⟩
theorem nodes_name : ∀ (ts : List Term) x, x ∈ nodesL ts → ∃ t, t ∈ ts ∧ x.1.length < t.bulk
  | [], x, h => by simp [nodesL] at h
  | .mk n u xs :: r, x, h => by
    rw [nodesL, List.mem_append, List.mem_append] at h
    rcases h with h | h | h
    · refine ⟨_, List.mem_cons_self, ?_⟩
      unfold ndT at h
      split at h
      · cases h
      · rw [List.mem_singleton] at h; rw [h]; exact Term.name_le
    · obtain ⟨t, ht, hl⟩ := nodes_name xs x h
      have := Term.arg_le (n := n) (v := u) ht
      exact ⟨_, List.mem_cons_self, by omega⟩
    · obtain ⟨t, ht, hl⟩ := nodes_name r x h
      exact ⟨t, List.mem_cons_of_mem _ ht, hl⟩
theorem arE_name {rs : List (Term × Term)} (hb : BndR rs) : ∀ x, x ∈ (arE rs).2 → x.1.length < 1099511627776 := by
  intro x hx
  rcases nodes_key x hx with ⟨y, hy, _⟩ | ⟨y, hy, e⟩
  · cases hy
  · obtain ⟨t, ht, hl⟩ := nodes_name _ y hy
    obtain ⟨r, hr, h⟩ := mem_rT.1 ht
    have := hb r hr
    rw [← e]
    rcases h with rfl | rfl <;> omega
theorem checkSystem_ac (rs : List (Term × Term)) (hlen : rs.length < 1099511627776) (hb : BndR rs) (H : List AObj) : ACall Tryz.prog 43 [.sl .none (encL encRu rs)] H (fun r H' => r = .int .i64 (sysP rs) ∧ H' = H) := by
  have hb' : ∀ r, r ∈ rs → r.1.bulk ≤ 1099511627775 ∧ r.2.bulk ≤ 1099511627775 := fun r hr => by have := hb r hr; omega
  refine ACall_V (H.length) 28 [.tmp 2] Tryz.func43 rfl rfl rfl ?_
  simp only [push_cast, Nat.reduceAdd, Nat.reduceSub, Nat.reduceMul, Nat.reduceLT, Nat.reduceLeDiff, Nat.reduceEqDiff, Int.reduceToNat, ↓reduceIte]
  refine (checkRules_ac rs hlen hb' _).to ?_
  simp only [push_cast, Nat.reduceAdd, Nat.reduceSub, Nat.reduceMul, Nat.reduceLT, Nat.reduceLeDiff, Nat.reduceEqDiff, Int.reduceToNat, ↓reduceIte]
  refine cI (fun h1 => ?_) (fun h1 => ?_)
  · refine (arities_ac rs hlen hb' _).mono ?_
    rintro r H' ⟨rfl, v, es, rfl, hve⟩
    cases hB : arB rs with
    | true =>
      have e : sysP rs = 6 := by simp [sysP, h1, hB]
      simp only [push_cast, Nat.reduceAdd, Nat.reduceSub, Nat.reduceMul, Nat.reduceLT, Nat.reduceLeDiff, Nat.reduceEqDiff, Int.reduceToNat, ↓reduceIte, e, Bool.not_true]
    | false =>
      obtain ⟨rfl, rfl⟩ := hve hB
      simp only [push_cast, Nat.reduceAdd, Nat.reduceSub, Nat.reduceMul, Nat.reduceLT, Nat.reduceLeDiff, Nat.reduceEqDiff, Int.reduceToNat, ↓reduceIte, Bool.not_false, Bool.false_eq_true, if_false]
      have hnm := arE_name hb
      obtain ⟨q, hq⟩ : ∃ q, q = arE rs := ⟨_, rfl⟩
      rw [← hq] at hnm ⊢
      refine AOp_range_map (H.length + 2) q.1 (sA q.2) rfl (by exact (agetN _ _ 2).trans rfl) un83 ?_
      simp only [push_cast, Nat.reduceAdd, Nat.reduceSub, Nat.reduceMul, Nat.reduceLT, Nat.reduceLeDiff, Nat.reduceEqDiff, Int.reduceToNat, ↓reduceIte]
      refine AW_loopW (maskG 29 [0, 19]) (fun (p : List (List UInt8 × Nat) × List (List UInt8 × Nat) × Option (List UInt8 × Nat)) => []) (fun p => H ++ [.cells [.map (H.length + 2)], .cells [.bool true], .map q.1 (sA q.2), .iter (H.length + 2) q.1 (sA p.2.1) (lN p.2.2)]) (fun p => (p.1 ++ p.2.1).Perm q.2 ∧ p.1.any (fun s => markedP s.1) = false) (fun p => p.2.1.length) ([], q.2, none) ⟨List.Perm.refl _, rfl⟩ (by simp only [push_cast, Nat.reduceAdd, Nat.reduceSub, Nat.reduceMul, Nat.reduceLT, Nat.reduceLeDiff, Nat.reduceEqDiff, Int.reduceToNat, ↓reduceIte, lN_n]) (fun p hp => ?_)
      obtain ⟨xs, left, last⟩ := p
      obtain ⟨hp, hall⟩ := hp
      simp only at hp hall
      simp only [push_cast, Nat.reduceAdd, Nat.reduceSub, Nat.reduceMul, Nat.reduceLT, Nat.reduceLeDiff, Nat.reduceEqDiff, Int.reduceToNat, ↓reduceIte]
      refine AOp_next_map (H.length + 3) (H.length + 2) q.1 (sA q.2) (sA left) (lN last) rfl (by exact (agetN _ _ 3).trans rfl) (by exact (agetN _ _ 2).trans rfl) (fun he => ?_) (fun j hj => ?_)
      · have hl0 : left = [] := by cases left with | nil => rfl | cons a l => simp [sA, amap] at he
        subst hl0
        rw [List.append_nil] at hp
        have hm : q.2.any (fun s => markedP s.1) = false := by
          rw [← Bool.not_eq_true, List.any_eq_true] at hall ⊢
          rintro ⟨x, hx, hxm⟩
          exact hall ⟨x, hp.mem_iff.2 hx, hxm⟩
        simp only [push_cast, Nat.reduceAdd, Nat.reduceSub, Nat.reduceMul, Nat.reduceLT, Nat.reduceLeDiff, Nat.reduceEqDiff, Int.reduceToNat, ↓reduceIte]
        refine (containsRu_ac rs 77 [] extraP _ hlen ok77 (by simp [ScopedL]) (fun i h => extra_ac _ (hb _ (List.getElem_mem h)).1 (hb _ (List.getElem_mem h)).2 _)).to ?_
        simp only [push_cast, Nat.reduceAdd, Nat.reduceSub, Nat.reduceMul, Nat.reduceLT, Nat.reduceLeDiff, Nat.reduceEqDiff, Int.reduceToNat, ↓reduceIte]
        refine cI (fun hx => ?_) (fun hx => ?_)
        · have e : sysP rs = 7 := by simp only [sysP, h1, hB, ← hq, hm]; simp [hx]
          simp only [push_cast, Nat.reduceAdd, Nat.reduceSub, Nat.reduceMul, Nat.reduceLT, Nat.reduceLeDiff, Nat.reduceEqDiff, Int.reduceToNat, ↓reduceIte, e]
        · have e : sysP rs = 0 := by simp only [sysP, h1, hB, ← hq, hm]; simp [hx]
          simp only [push_cast, Nat.reduceAdd, Nat.reduceSub, Nat.reduceMul, Nat.reduceLT, Nat.reduceLeDiff, Nat.reduceEqDiff, Int.reduceToNat, ↓reduceIte, e]
      · have hjl : j < left.length := by rw [sA_len] at hj; exact hj
        have e1 : (sA left)[j] = (.str left[j].1, avN left[j].2) := by simp [sA, amap]
        have e2 : (sA left).eraseIdx j = sA (left.eraseIdx j) := by simp only [sA, amap, erase_map]
        have hmm : left[j] ∈ q.2 := hp.mem_iff.1 (by simp)
        rw [e1, e2]
        simp only [push_cast, Nat.reduceAdd, Nat.reduceSub, Nat.reduceMul, Nat.reduceLT, Nat.reduceLeDiff, Nat.reduceEqDiff, Int.reduceToNat, ↓reduceIte]
        refine AOp_entry_map (H.length + 3) (H.length + 2) q.1 (sA q.2) (sA (left.eraseIdx j)) (.str left[j].1, avN left[j].2) rfl (by exact (agetN _ _ 3).trans rfl) (by exact (agetN _ _ 2).trans rfl) ?_
        simp only [push_cast, Nat.reduceAdd, Nat.reduceSub, Nat.reduceMul, Nat.reduceLT, Nat.reduceLeDiff, Nat.reduceEqDiff, Int.reduceToNat, ↓reduceIte]
        refine (markedT_ac left[j].1 (hnm _ hmm) _).to ?_
        simp only [push_cast, Nat.reduceAdd, Nat.reduceSub, Nat.reduceMul, Nat.reduceLT, Nat.reduceLeDiff, Nat.reduceEqDiff, Int.reduceToNat, ↓reduceIte]
        refine cI (fun hx => ?_) (fun hx => ?_)
        · have hm : q.2.any (fun s => markedP s.1) = true := List.any_eq_true.2 ⟨_, hmm, hx⟩
          have e : sysP rs = 6 := by simp only [sysP, h1, hB, ← hq, hm]; simp
          simp only [push_cast, Nat.reduceAdd, Nat.reduceSub, Nat.reduceMul, Nat.reduceLT, Nat.reduceLeDiff, Nat.reduceEqDiff, Int.reduceToNat, ↓reduceIte, e]
        · refine loopW_n (xs ++ [left[j]], left.eraseIdx j, some left[j]) ⟨?_, ?_⟩ (by simp only [List.length_eraseIdx]; split <;> omega) (by simp only [push_cast, Nat.reduceAdd, Nat.reduceSub, Nat.reduceMul, Nat.reduceLT, Nat.reduceLeDiff, Nat.reduceEqDiff, Int.reduceToNat, ↓reduceIte, lN_s])
          · refine List.Perm.trans ?_ hp
            rw [List.append_assoc]
            refine List.Perm.append_left xs ?_
            rw [List.eraseIdx_eq_take_drop_succ]
            refine (List.perm_middle (l₁ := left.take j) (l₂ := left.drop (j + 1)) (a := left[j])).symm.trans ?_
            rw [← List.drop_eq_getElem_cons hjl, List.take_append_drop]
          · rw [List.any_append, hall]; simpa using hx
  · have e : sysP rs = rulesP rs := by simp [sysP, h1]
    simp only [push_cast, Nat.reduceAdd, Nat.reduceSub, Nat.reduceMul, Nat.reduceLT, Nat.reduceLeDiff, Nat.reduceEqDiff, Int.reduceToNat, ↓reduceIte, e]
end Ab
set_option maxRecDepth 10000
namespace Ab
open Go Go.Proofs
section
variable {P : Program} {ro : Option Nat} {st : ASt} {dst : Option Tmp} {ty : TypeId} {pos : String} {after : Array Edge} {guard : Option (Nat × Bool)} {K : AV → List AObj → Prop}
theorem app1_GS {α : Type} (enc : α → AV) {t e by_ sz : Nat} {s x : Operand} (hu : ∀ x, (enc x).cells.length = sz) (hc : ∀ x c, c ∈ (enc x).cells → c.isCell = true) (zs : List Value) (k : Nat) (xs : List α) (y : α) (tk : Tok) (hs : st.opd s = grS k (encL enc xs)) (hx : st.opd x = .sl tk [enc y]) (hh : st.heap[k]? = some (grO e sz (encL enc xs)))
    (ht : SliceT P t e) (hsz : SzOf P e sz) (hby : BytesOf P e by_) (hz : ZeroOf P e zs) (hz0 : zs.length = sz) (h0 : 0 < sz) (hb : by_ ≤ 100) (hl : xs.length < 1099511627776)
    (k' : K (grS k (encL enc (xs ++ [y]))) (st.heap.set k (grO e sz (encL enc (xs ++ [y]))))) :
    AOp P ro ⟨dst, .call { callee := .builtin .append, args := #[s, x], argTypes := #[t, t] }, ty, pos, after, guard⟩ K st := by
  have e1 : encL enc (xs ++ [y]) = encL enc xs ++ [enc y] := by simp [encL]
  rw [e1] at k'
  refine AOp_append_Gr zs k (encL enc xs) [enc y] tk hs hx hh ht hsz hby hz hz0 h0 (uni_encL hu xs) (by intro x hx; rw [List.mem_singleton] at hx; subst hx; exact hu y) (fun c h => hc y c (by simpa [flat] using h)) ?_ (by rw [encL_length]; simp; omega) k'
  rw [encL_length]
  calc (xs.length + 1) * by_ ≤ 1099511627776 * 100 := Nat.mul_le_mul (by omega) hb
    _ ≤ _ := by decide
end
theorem osc_itAi (n m ver : Nat) (l : List (List UInt8 × Nat)) (a : List UInt8) (b : Nat) (h : m < n) : OScoped n (.iter m ver (sA l) (some (.str a, .int .i64 (b : Nat)))) = True := osc_itA n m ver l (some (a, b)) h
attribute [push_cast] osc_itAi
def symP (rs : List (Term × Term)) : List (List UInt8 × Nat) × Int := if sysP rs = 0 then ((symRs (rT rs) []).1, 0) else ([], sysP rs)
theorem sys_zero {rs : List (Term × Term)} (h : sysP rs = 0) : rulesP rs = 0 ∧ arB rs = false ∧ (arE rs).2.any (fun s => markedP s.1) = false ∧ rs.any extraP = false := by
  unfold sysP at h
  split at h
  · rename_i h1; exact absurd h h1
  · rename_i h1
    split at h
    · cases h
    · rename_i h2
      split at h
      · cases h
      · rename_i h3
        split at h
        · cases h
        · rename_i h4
          exact ⟨by simpa using h1, by simpa using h2, by simpa using h3, by simpa using h4⟩
theorem formed_of_check {t : Term} (h : checkP t = 0) : formedP t = true := by
  unfold checkP at h
  cases hf : formedP t with
  | true => rfl
  | false => rw [hf] at h; simp at h
theorem size_of_check {t : Term} (h : checkP t = 0) : t.size ≤ 4000 := (check_bulk h).2
theorem rules_formed {rs : List (Term × Term)} (h : rulesP rs = 0) : ∀ t, t ∈ rT rs → formedP t = true := by
  intro t ht
  obtain ⟨r, hr, he⟩ := mem_rT.1 ht
  have := (rules_ok h).2 r hr
  rcases he with rfl | rfl
  · exact formed_of_check this.1
  · exact formed_of_check this.2
theorem rules_agree {rs : List (Term × Term)} (h : rulesP rs = 0) : (symRs (rT rs) []).2 = (!arB rs && (arE rs).2.all fun s => !markedP s.1) := sys_agree _ (rules_formed h)
theorem nodes_len : ∀ ts : List Term, (nodesL ts).length ≤ (ts.map Term.size).sum
  | [] => by simp [nodesL]
  | .mk n u xs :: r => by
    have h1 := nodes_len xs
    have h2 := nodes_len r
    rw [nodesL, List.length_append, List.length_append, List.map_cons, List.sum_cons, Term.size_mk]
    have : (ndT (.mk n u xs)).length ≤ 1 := by unfold ndT; split <;> simp
    omega
theorem rules_size {rs : List (Term × Term)} (h : rulesP rs = 0) : ((rT rs).map Term.size).sum ≤ 512000 := by
  obtain ⟨h1, h2⟩ := rules_ok h
  have : ∀ l : List (Term × Term), (∀ r, r ∈ l → checkP r.1 = 0 ∧ checkP r.2 = 0) → ((rT l).map Term.size).sum ≤ l.length * 8000 := by
    intro l
    induction l with
    | nil => intro _; simp [rT]
    | cons r l ih =>
      intro hl
      have h4 := ih (fun x hx => hl x (by simp [hx]))
      have h5 := size_of_check (hl r (by simp)).1
      have h6 := size_of_check (hl r (by simp)).2
      have : rT (r :: l) = r.1 :: r.2 :: rT l := rfl
      rw [this]
      simp only [List.map_cons, List.sum_cons, List.length_cons]
      omega
  have h4 := this rs h2
  omega
theorem rT_size {rs : List (Term × Term)} (h : rulesP rs = 0) : (nodesL (rT rs)).length ≤ 512000 := by
  have h3 := nodes_len (rT rs)
  have h4 := rules_size h
  omega
theorem arF_len : ∀ (L : List (List UInt8 × Nat)) (q : Nat × List (List UInt8 × Nat)), (arF q L).2.length ≤ q.2.length + L.length
  | [], q => by simp [arF]
  | s :: r, q => by
    have h1 := arF_len r (arStep q s)
    have h2 : (arStep q s).2.length ≤ q.2.length + 1 := by
      unfold arStep
      split
      · omega
      · have : ∀ m : List (List UInt8 × Nat), (aset m s.1 s.2).length ≤ m.length + 1 := by
          intro m
          induction m with
          | nil => simp [aset]
          | cons p m ih => unfold aset; split <;> simp <;> omega
        exact this _
    have : arF q (s :: r) = arF (arStep q s) r := rfl
    rw [this, List.length_cons]; omega
theorem symbols_ac (rs : List (Term × Term)) (hlen : rs.length < 1099511627776) (hb : BndR rs) (H : List AObj) : ACall Tryz.prog 19 [.sl .none (encL encRu rs)] H (fun r H' => r = .tup [.sl .none (encL encSy (symP rs).1), .int .i64 (symP rs).2] ∧ H' = H) := by
  have hb' : ∀ r, r ∈ rs → r.1.bulk ≤ 1099511627775 ∧ r.2.bulk ≤ 1099511627775 := fun r hr => by have := hb r hr; omega
  refine ACall_VGA (H.length) 35 [.tmp 2, .tmp 3] Tryz.func19 rfl rfl rfl ?_
  refine AW_reserve 1 ?_
  refine AW_of_W ?_
  simp only [push_cast, Nat.reduceAdd, Nat.reduceSub, Nat.reduceMul, Nat.reduceLT, Nat.reduceLeDiff, Nat.reduceEqDiff, Int.reduceToNat, ↓reduceIte]
  refine (checkSystem_ac rs hlen hb _).to ?_
  simp only [push_cast, Nat.reduceAdd, Nat.reduceSub, Nat.reduceMul, Nat.reduceLT, Nat.reduceLeDiff, Nat.reduceEqDiff, Int.reduceToNat, ↓reduceIte]
  refine cI (fun h1 => ?_) (fun h1 => ?_)
  · obtain ⟨z1, z2, z3, z4⟩ := sys_zero h1
    have e : symP rs = ((symRs (rT rs) []).1, 0) := by simp [symP, h1]
    have hst : (symRs (rT rs) []).2 = true := by
      rw [rules_agree z1, z2]
      rw [← Bool.not_eq_true, List.any_eq_true] at z3
      simp only [Bool.not_false, Bool.true_and, List.all_eq_true]
      intro x hx
      by_cases hm : markedP x.1 = true
      · exact absurd ⟨x, hx, hm⟩ z3
      · simpa using hm
    obtain ⟨s1, s2⟩ := sys_perm _ (rules_formed z1) hst
    have hsz := rT_size z1
    have hql := arF_len (nodesL (rT rs)) (0, [])
    rw [e]
    refine (arities_ac rs hlen hb' _).mono ?_
    rintro r H' ⟨rfl, v, es, rfl, hve⟩
    obtain ⟨rfl, rfl⟩ := hve z2
    simp only [push_cast, Nat.reduceAdd, Nat.reduceSub, Nat.reduceMul, Nat.reduceLT, Nat.reduceLeDiff, Nat.reduceEqDiff, Int.reduceToNat, ↓reduceIte, z2, Bool.not_false, Bool.false_eq_true, if_false]
    have s2' : (symRs (rT rs) []).1.Perm (arE rs).2 := s2
    have hql' : (arE rs).2.length ≤ 512000 := by simp at hql; exact Nat.le_trans hql hsz
    obtain ⟨q, hq⟩ : ∃ q, q = arE rs := ⟨_, rfl⟩
    rw [← hq] at s2' hql' ⊢
    refine AOp_range_map (H.length + 3) q.1 (sA q.2) rfl (by exact (agetN _ _ 3).trans rfl) un83 ?_
    simp only [push_cast, Nat.reduceAdd, Nat.reduceSub, Nat.reduceMul, Nat.reduceLT, Nat.reduceLeDiff, Nat.reduceEqDiff, Int.reduceToNat, ↓reduceIte]
    refine AW_loopW (maskG 36 [7, 13]) (fun (p : List (List UInt8 × Nat) × List (List UInt8 × Nat) × Option (List UInt8 × Nat)) => [(7, grS H.length (encL encSy p.1))]) (fun p => H ++ [grO 64 2 (encL encSy p.1), .cells [.map (H.length + 3)], .cells [.bool true], .map q.1 (sA q.2), .iter (H.length + 3) q.1 (sA p.2.1) (lN p.2.2)]) (fun p => (p.1 ++ p.2.1).Perm q.2) (fun p => p.2.1.length) ([], q.2, none) (List.Perm.refl _) (by simp only [push_cast, Nat.reduceAdd, Nat.reduceSub, Nat.reduceMul, Nat.reduceLT, Nat.reduceLeDiff, Nat.reduceEqDiff, Int.reduceToNat, ↓reduceIte, lN_n, encL_nil]) (fun p hp => ?_)
    obtain ⟨xs, left, last⟩ := p
    simp only at hp
    have hxl := hp.length_eq
    rw [List.length_append] at hxl
    simp only [push_cast, Nat.reduceAdd, Nat.reduceSub, Nat.reduceMul, Nat.reduceLT, Nat.reduceLeDiff, Nat.reduceEqDiff, Int.reduceToNat, ↓reduceIte]
    refine AOp_next_map (H.length + 4) (H.length + 3) q.1 (sA q.2) (sA left) (lN last) rfl (by exact (agetN _ _ 4).trans rfl) (by exact (agetN _ _ 3).trans rfl) (fun he => ?_) (fun j hj => ?_)
    · have hl0 : left = [] := by cases left with | nil => rfl | cons a l => simp [sA, amap] at he
      subst hl0
      rw [List.append_nil] at hp
      simp only [push_cast, Nat.reduceAdd, Nat.reduceSub, Nat.reduceMul, Nat.reduceLT, Nat.reduceLeDiff, Nat.reduceEqDiff, Int.reduceToNat, ↓reduceIte]
      refine (sortSy_ac H.length xs (by simp at hxl; omega) _ (by exact aget0 _ _ _)).mono ?_
      rintro r H' ⟨l', hl', hw, rfl, rfl⟩
      have hl2 : l' = (symRs (rT rs) []).1 := sorted_uniqueK (s2'.trans (hp.symm.trans hl')) s1 hw
      subst hl2
      simp only [push_cast, Nat.reduceAdd, Nat.reduceSub, Nat.reduceMul, Nat.reduceLT, Nat.reduceLeDiff, Nat.reduceEqDiff, Int.reduceToNat, ↓reduceIte]
      rw [grS_len H.length (show (encL encSy xs).length = (encL encSy (symRs (rT rs) []).1).length by rw [encL_length, encL_length, hl'.length_eq])]
      exact .row2 H.length 64 2 (by exact aget0 _ _ _) (by rw [flat_encSy, encL_length]) (by omega) (of_eq_true (scflSy _ _)) (by simp only [push_cast, Nat.reduceAdd, Nat.reduceSub, Nat.reduceMul, Nat.reduceLT, Nat.reduceLeDiff, Nat.reduceEqDiff, Int.reduceToNat, ↓reduceIte])
    · have hjl : j < left.length := by rw [sA_len] at hj; exact hj
      have e1 : (sA left)[j] = (.str left[j].1, avN left[j].2) := by simp [sA, amap]
      have e2 : (sA left).eraseIdx j = sA (left.eraseIdx j) := by simp only [sA, amap, erase_map]
      rw [e1, e2]
      simp only [push_cast, Nat.reduceAdd, Nat.reduceSub, Nat.reduceMul, Nat.reduceLT, Nat.reduceLeDiff, Nat.reduceEqDiff, Int.reduceToNat, ↓reduceIte]
      refine AOp_entry_map (H.length + 4) (H.length + 3) q.1 (sA q.2) (sA (left.eraseIdx j)) (.str left[j].1, avN left[j].2) rfl (by exact (agetN _ _ 4).trans rfl) (by exact (agetN _ _ 3).trans rfl) ?_
      simp only [push_cast, Nat.reduceAdd, Nat.reduceSub, Nat.reduceMul, Nat.reduceLT, Nat.reduceLeDiff, Nat.reduceEqDiff, Int.reduceToNat, ↓reduceIte, avN]
      refine app1_GS encSy (sz := 2) (fun _ => rfl) cellSy _ H.length xs left[j] _ rfl rfl (by exact aget0 _ _ _) sl33 sz64 by64 zr64 rfl (by decide) (by decide) (by omega) ?_
      simp only [push_cast, Nat.reduceAdd, Nat.reduceSub, Nat.reduceMul, Nat.reduceLT, Nat.reduceLeDiff, Nat.reduceEqDiff, Int.reduceToNat, ↓reduceIte]
      refine loopW_n (xs ++ [left[j]], left.eraseIdx j, some left[j]) ?_ (by simp only [List.length_eraseIdx]; split <;> omega) (by simp only [push_cast, Nat.reduceAdd, Nat.reduceSub, Nat.reduceMul, Nat.reduceLT, Nat.reduceLeDiff, Nat.reduceEqDiff, Int.reduceToNat, ↓reduceIte, lN_s, avN])
      refine List.Perm.trans ?_ hp
      rw [List.append_assoc]
      refine List.Perm.append_left xs ?_
      rw [List.eraseIdx_eq_take_drop_succ]
      refine (List.perm_middle (l₁ := left.take j) (l₂ := left.drop (j + 1)) (a := left[j])).symm.trans ?_
      rw [← List.drop_eq_getElem_cons hjl, List.take_append_drop]
  · have e : symP rs = ([], sysP rs) := by simp [symP, h1]
    simp only [push_cast, Nat.reduceAdd, Nat.reduceSub, Nat.reduceMul, Nat.reduceLT, Nat.reduceLeDiff, Nat.reduceEqDiff, Int.reduceToNat, ↓reduceIte, e, encL_nil]
    exact .fgt (by simp only [push_cast, Nat.reduceAdd, Nat.reduceSub, Nat.reduceMul, Nat.reduceLT, Nat.reduceLeDiff, Nat.reduceEqDiff, Int.reduceToNat, ↓reduceIte])
end Ab
set_option maxRecDepth 10000
namespace Ab
open Go Go.Proofs
theorem gSl_sl' (k : Nat) (xs : List AV) : ∃ tk, gSl k xs = .sl tk xs := by cases xs <;> exact ⟨_, rfl⟩
theorem symRs_nil (l : List (List UInt8 × Nat)) : symRs [] l = (l, true) := by rw [symRs]
theorem symRs_app : ∀ (a b : List Term) (l : List (List UInt8 × Nat)), symRs (a ++ b) l = if (symRs a l).2 then symRs b (symRs a l).1 else symRs a l
  | [], b, l => by simp [symRs_nil]
  | t :: a, b, l => by
    rw [List.cons_append, symRs_cons, symRs_cons]
    by_cases h : (symR t l).2 = true
    · rw [if_pos h, if_pos h]; exact symRs_app a b _
    · rw [if_neg h, if_neg h]; simp
theorem symRs_snoc (a : List Term) (l : List (List UInt8 × Nat)) (x : Term) (h : (symRs a l).2 = true) : symRs (a ++ [x]) l = if (symR x (symRs a l).1).2 then ((symR x (symRs a l).1).1, true) else ((symRs a l).1, false) := by
  rw [symRs_app, if_pos h, symRs_cons, symRs_nil]
theorem symRs_fail (a : List Term) (l : List (List UInt8 × Nat)) (x : Term) (r : List Term) (h : (symRs a l).2 = true) (h2 : (symR x (symRs a l).1).2 = false) : symRs (a ++ x :: r) l = ((symRs a l).1, false) := by
  rw [symRs_app, if_pos h, symRs_cons, if_neg (by simp [h2])]
theorem insSy_sub {l : List (List UInt8 × Nat)} {s x : List UInt8 × Nat} (h : x ∈ insSy l s) : x ∈ l ∨ x = s := by
  unfold insSy at h
  split at h
  · exact .inl h
  · rw [List.mem_append, List.mem_append, List.mem_singleton] at h
    rcases h with (h | h) | h
    · exact .inl (List.mem_of_mem_take h)
    · exact .inr h
    · exact .inl (List.mem_of_mem_drop h)
theorem insSy_len (l : List (List UInt8 × Nat)) (s : List UInt8 × Nat) : (insSy l s).length ≤ l.length + 1 := by
  unfold insSy
  split
  · omega
  · simp; omega
theorem symRs_len : ∀ (ts : List Term) (l : List (List UInt8 × Nat)), (symRs ts l).1.length ≤ l.length + (ts.map Term.size).sum
  | [], l => by simp [symRs_nil]
  | .mk n u xs :: r, l => by
    rw [symRs, List.map_cons, List.sum_cons, Term.size_mk]
    have h0 := insSy_len l (n, xs.length)
    have h1 := symRs_len xs (insSy l (n, xs.length))
    have h2 := symRs_len r l
    have h3 := symRs_len r (symRs xs (insSy l (n, xs.length))).1
    repeat' split
    all_goals (first | omega | (simp only; omega))
theorem symRs_names : ∀ (ts : List Term) (l : List (List UInt8 × Nat)), (∀ t, t ∈ ts → t.bulk ≤ 1099511627775) → (∀ x, x ∈ l → x.1.length < 1099511627776) → ∀ x, x ∈ (symRs ts l).1 → x.1.length < 1099511627776
  | [], l, _, h, x, hx => by rw [symRs_nil] at hx; exact h x hx
  | .mk n u xs :: r, l, hb, h, x, hx => by
    have h0 := hb (.mk n u xs) (by simp)
    have hnl := Term.name_le (n := n) (v := u) (xs := xs)
    have hI : ∀ x, x ∈ insSy l (n, xs.length) → x.1.length < 1099511627776 := fun x hx => by
      rcases insSy_sub hx with h1 | h1
      · exact h x h1
      · rw [h1]; show n.length < _; omega
    have hX := symRs_names xs (insSy l (n, xs.length)) (fun t ht => by have := Term.arg_le (n := n) (v := u) ht; omega) hI
    rw [symRs] at hx
    split at hx
    · exact symRs_names r l (fun t ht => hb t (by simp [ht])) h x hx
    · split at hx
      · exact h x hx
      · split at hx
        · exact h x hx
        · split at hx
          · exact symRs_names r _ (fun t ht => hb t (by simp [ht])) hX x hx
          · exact h x hx
theorem syAt_eq (l : List (List UInt8 × Nat)) (n : List UInt8) (i : Nat) (hi : i ≤ l.length) (h1 : ∀ j (h : j < l.length), j < i → Lib.compareBytes l[j].1 n < 0) (h2 : ∀ h : i < l.length, ¬ Lib.compareBytes l[i].1 n < 0) : syAt l n = i := by
  unfold syAt
  exact insAt_eq _ n i (by simpa using hi) (fun j hj hji => by simpa using h1 j (by simpa using hj) hji) (fun hj => by simpa using h2 (by simpa using hj))
set_option maxHeartbeats 1600000 in
theorem symbolsR1_ac (t : Term) : t.bulk ≤ 1099511627775 → ∀ l : List (List UInt8 × Nat), l.length + t.size ≤ 1099511627770 → (∀ x, x ∈ l → x.1.length < 1099511627776) → ∀ H, ACall Tryz.prog 55 [encT t, .sl .none (encL encSy l)] H (fun r H' => r = .tup [.sl .none (encL encSy (symR t l).1), .bool (symR t l).2] ∧ H' = H) := by
  induction t using Term.ind with | _ n u xs ih
  intro hb l hl hn H
  have hxl := Term.len_le (n := n) (v := u) (xs := xs)
  have hnl := Term.name_le (n := n) (v := u) (xs := xs)
  rw [Term.size_mk] at hl
  cases u with
  | true =>
    have hR : symR (.mk n true xs) l = (l, true) := by simp [symR, Term.mk_var]
    rw [hR]
    refine ACall_V (H.length) 93 [.tmp 4, .tmp 5] Tryz.func55 rfl rfl rfl ?_
    simp only [push_cast, Nat.reduceAdd, Nat.reduceSub, Nat.reduceMul, Nat.reduceLT, Nat.reduceLeDiff, Nat.reduceEqDiff, Int.reduceToNat, ↓reduceIte]
  | false =>
    refine ACall_VA (H.length) 93 [.tmp 4, .tmp 5] Tryz.func55 rfl rfl rfl ?_
    refine AW_seq (AW_of_W ?_)
    simp only [push_cast, Nat.reduceAdd, Nat.reduceSub, Nat.reduceMul, Nat.reduceLT, Nat.reduceLeDiff, Nat.reduceEqDiff, Int.reduceToNat, ↓reduceIte]
    refine AW_reserve 1 ?_
    refine AW_of_W ?_
    simp only [push_cast, Nat.reduceAdd, Nat.reduceSub, Nat.reduceMul, Nat.reduceLT, Nat.reduceLeDiff, Nat.reduceEqDiff, Int.reduceToNat, ↓reduceIte]
    refine (markedR_ac n (by omega) _).to ?_
    simp only [push_cast, Nat.reduceAdd, Nat.reduceSub, Nat.reduceMul, Nat.reduceLT, Nat.reduceLeDiff, Nat.reduceEqDiff, Int.reduceToNat, ↓reduceIte]
    refine cI (fun hm => ?_) (fun hm => ?_)
    · have hR : symR (.mk n false xs) l = (l, false) := by simp [symR, Term.mk_var, Term.mk_name, hm]
      simp only [push_cast, Nat.reduceAdd, Nat.reduceSub, Nat.reduceMul, Nat.reduceLT, Nat.reduceLeDiff, Nat.reduceEqDiff, Int.reduceToNat, ↓reduceIte, hR]
    · have hm : markedP n = false := by simpa using hm
      refine AW_loopW (maskG 95 [1, 0, 3]) (fun (i : Nat) => [(6, .int .i64 i)]) (fun _ => H ++ [.cells [.str n, .bool false, .sl .none (encTs xs)], .dead]) (fun i => i ≤ l.length ∧ ∀ j (h : j < l.length), j < i → Lib.compareBytes l[j].1 n < 0) (fun i => l.length - i) 0 ⟨Nat.zero_le _, fun j h1 h => by omega⟩ (by simp only [push_cast, Nat.reduceAdd, Nat.reduceSub, Nat.reduceMul, Nat.reduceLT, Nat.reduceLeDiff, Nat.reduceEqDiff, Int.reduceToNat, ↓reduceIte]) (fun i hi => ?_)
      by_cases hil : i < l.length
      · have hd : decide ((i : Int) < (l.length : Int)) = true := by simp; omega
        have hcm := fun H => cmpNames_ac (l[i]'hil).1 n (hn _ (List.getElem_mem hil)) (by omega) H
        apply AW_drawE [some 18, some 19, some 20, some 21, some 22, some 23, some 24, some 25, some 26, some 27, some 28, some 29, some 30, some 31, some 32] [([], _)] [none, none, none, none, none, none, none, none, none, none, none, none, none, none, none] 0 [(0, [], [6]), (1, [], [1]), (2, [], [19]), (3, [], [18, 1]), (4, [], [21]), (5, [], [1, 20]), (6, [], [6, 15]), (7, [], [22, 0, 0]), (8, [], [22, 2]), (9, [], [22, 3]), (10, [], [2, 19]), (11, [], [22, 5]), (12, [], [22, 4, 1]), (13, [], [22, 7]), (14, [], [22, 8])] [_, _, _, _, _, _, _, _, _, _, _, _, _, _, _]
        case' hm => exact dr
        case' hn => rfl
        case' hok => rfl
        case' hlen => rfl
        case' hd => rfl
        case' h0 => rfl
        case' hstep =>
         simp only [DAllG, push_cast, Option.isSome_some, Option.isSome_none]
         repeat' apply And.intro
         all_goals (apply DOne_V; simp only [push_cast, Nat.reduceAdd, Nat.reduceSub, Nat.reduceMul, Nat.reduceLT, Nat.reduceLeDiff, Nat.reduceEqDiff, Int.reduceToNat, ↓reduceIte, hd] <;> first | exact rfl | omega | exact ⟨rfl, rfl⟩ | exact trivial | exact ⟨by omega, rfl⟩ | exact ⟨by omega, by omega, rfl⟩ | exact ⟨by omega, rfl, rfl⟩ | exact ⟨by omega, by omega, rfl, rfl⟩ | exact (hcm _).to ⟨rfl, rfl⟩)
        case' hQ => skip
        simp only [push_cast, Nat.reduceAdd, Nat.reduceSub, Nat.reduceMul, Nat.reduceLT, Nat.reduceLeDiff, Nat.reduceEqDiff, Int.reduceToNat, ↓reduceIte]
        refine cI (fun hc => ?_) (fun hc => ?_)
        · repeat' first | refine ⟨by omega, ?_⟩ | refine cI (fun _ => ?_) (fun _ => ?_)
          refine loopW_n (i + 1) ⟨by omega, fun j h1 h => ?_⟩ (by omega) (by simp only [push_cast, Nat.reduceAdd, Nat.reduceSub, Nat.reduceMul, Nat.reduceLT, Nat.reduceLeDiff, Nat.reduceEqDiff, Int.reduceToNat, ↓reduceIte])
          rcases Nat.lt_or_ge j i with hj | hj
          · exact hi.2 j h1 hj
          · have hji : j = i := by omega
            subst hji; exact hc
        · have hia : syAt l n = i := syAt_eq l n i hi.1 hi.2 (fun _ => hc)
          have hd2 : decide ((i : Int) = (l.length : Int)) = false := by simp; omega
          by_cases hne : (l[i]'hil).1 = n
          · have hd3 : decide ((l[i]'hil).1 = n) = true := by simpa using hne
            apply AW_drawE [some 35, some 36, some 37, some 38, some 39, some 40, some 41, some 42, some 43, some 44, some 45, some 46, some 47, some 48] [([], _)] [none, none, none, none, none, none, none, none, none, none, none, none, none, none] 0 [(0, [], [6]), (1, [], [1]), (2, [], [36]), (3, [], [35, 1]), (4, [], [38]), (5, [], [1, 37]), (6, [], [6, 32]), (7, [], [39, 0, 0]), (8, [], [39, 2]), (9, [], [39, 3]), (10, [], [2, 36]), (11, [], [39, 5]), (12, [], [39, 4, 1]), (13, [], [39, 7])] [_, _, _, _, _, _, _, _, _, _, _, _, _, _]
            case' hm => exact dr
            case' hn => rfl
            case' hok => rfl
            case' hlen => rfl
            case' hd => rfl
            case' h0 => rfl
            case' hstep =>
             simp only [DAllG, push_cast, Option.isSome_some, Option.isSome_none]
             repeat' apply And.intro
             all_goals (apply DOne_V; simp only [push_cast, Nat.reduceAdd, Nat.reduceSub, Nat.reduceMul, Nat.reduceLT, Nat.reduceLeDiff, Nat.reduceEqDiff, Int.reduceToNat, ↓reduceIte, hd2, hd3] <;> first | exact rfl | omega | exact ⟨rfl, rfl⟩ | exact trivial | exact ⟨by omega, rfl⟩ | exact ⟨by omega, by omega, rfl⟩ | exact ⟨by omega, rfl, rfl⟩ | exact ⟨by omega, by omega, rfl, rfl⟩ | skip)
            case' hQ => skip
            simp only [push_cast, Nat.reduceAdd, Nat.reduceSub, Nat.reduceMul, Nat.reduceLT, Nat.reduceLeDiff, Nat.reduceEqDiff, Int.reduceToNat, ↓reduceIte, hd3]
            have hI : insSy l (n, xs.length) = l := by
              unfold insSy
              rw [hia, if_pos]
              rw [List.getElem?_map, List.getElem?_eq_getElem hil]
              show some (l[i]'hil).1 = some n
              rw [hne]
            have hn1 := hn
            have hlt1 := hil
            have hz1 := List.getElem_mem hlt1
            apply AW_drawE [some 66, some 67, some 68, some 69, some 70, some 71, some 72, some 73, some 74] [([], _)] [none, none, none, none, none, none, none, none, none] 0 [(0, [], [1]), (1, [], [6]), (2, [], [66, 0]), (3, [], [68]), (4, [], [69]), (5, [], [2]), (6, [], [71]), (7, [], [72]), (8, [], [70, 2])] [_, _, _, _, _, _, _, _, _]
            case' hm => exact dr
            case' hn => rfl
            case' hok => rfl
            case' hlen => rfl
            case' hd => rfl
            case' h0 => rfl
            case' hstep =>
             simp only [DAllG, push_cast, Option.isSome_some, Option.isSome_none]
             repeat' apply And.intro
             all_goals (apply DOne_V; simp only [push_cast, Nat.reduceAdd, Nat.reduceSub, Nat.reduceMul, Nat.reduceLT, Nat.reduceLeDiff, Nat.reduceEqDiff, Int.reduceToNat, ↓reduceIte] <;> first | exact rfl | omega | exact ⟨rfl, rfl⟩ | exact trivial | exact ⟨by omega, rfl⟩ | exact ⟨by omega, by omega, rfl⟩ | exact ⟨by omega, rfl, rfl⟩ | exact ⟨by omega, by omega, rfl, rfl⟩ | skip)
            case' hQ => skip
            simp only [push_cast, Nat.reduceAdd, Nat.reduceSub, Nat.reduceMul, Nat.reduceLT, Nat.reduceLeDiff, Nat.reduceEqDiff, Int.reduceToNat, ↓reduceIte]
            refine cI (fun hk => ?_) (fun hk => ?_)
            · have hcf : cfSy l (n, xs.length) = false := by
                unfold cfSy
                rw [hI, hia, List.getElem?_eq_getElem hlt1]
                have : (l[i]'hlt1).2 = xs.length := by omega
                simp [this]
              have hR : symR (.mk n false xs) l = symRs xs l := by
                unfold symR
                simp only [Term.mk_name, Term.mk_var, Term.mk_args, Bool.false_eq_true, if_false, hm, hcf, hI]
              rw [hR]
              refine AW_loopW (maskG 95 [1, 75, 0, 0]) (fun (j : Nat) => [(1, .sl .none (encL encSy (symRs (xs.take j) l).1)), (79, .int .i64 j)]) (fun j => H ++ [.cells [.str n, .bool false, .sl .none (encTs xs)]]) (fun j => j ≤ xs.length ∧ (symRs (xs.take j) l).2 = true) (fun j => xs.length - j) 0 ⟨Nat.zero_le _, by simp [symRs]⟩ (by simp only [push_cast, Nat.reduceAdd, Nat.reduceSub, Nat.reduceMul, Nat.reduceLT, Nat.reduceLeDiff, Nat.reduceEqDiff, Int.reduceToNat, ↓reduceIte, List.take_zero, symRs_nil]) (fun j hj => ?_)
              simp only [push_cast, Nat.reduceAdd, Nat.reduceSub, Nat.reduceMul, Nat.reduceLT, Nat.reduceLeDiff, Nat.reduceEqDiff, Int.reduceToNat, ↓reduceIte]
              refine cI (fun h3 => ?_) (fun h3 => ?_)
              · have hjl : j < xs.length := by omega
                repeat refine ⟨by omega, ?_⟩
                have hq1 := symRs_len (xs.take j) l
                have hq2 := take_sum Term.size xs j hjl
                have hq3 := take_sum_le Term.size xs (j + 1)
                have hq4 := symRs_names (xs.take j) l (fun t ht => by have := Term.arg_le (n := n) (v := false) (List.mem_of_mem_take ht); omega) hn1
                have hsn := symRs_snoc (xs.take j) l (xs[j]'hjl) hj.2
                rw [← List.take_succ_eq_append_getElem hjl] at hsn
                refine (ih _ (List.getElem_mem hjl) (arg_bulk hb j hjl) (symRs (xs.take j) l).1 (by omega) hq4 _).to ?_
                simp only [push_cast, Nat.reduceAdd, Nat.reduceSub, Nat.reduceMul, Nat.reduceLT, Nat.reduceLeDiff, Nat.reduceEqDiff, Int.reduceToNat, ↓reduceIte]
                refine cI (fun h4 => ?_) (fun h4 => ?_)
                · rw [if_pos h4] at hsn
                  repeat' first | refine ⟨by omega, ?_⟩ | refine cI (fun _ => ?_) (fun _ => ?_)
                  refine loopW_n (j + 1) ⟨by omega, by rw [hsn]⟩ (by omega) ?_
                  rw [hsn]
                  simp only [push_cast, Nat.reduceAdd, Nat.reduceSub, Nat.reduceMul, Nat.reduceLT, Nat.reduceLeDiff, Nat.reduceEqDiff, Int.reduceToNat, ↓reduceIte]
                · have h4 : (symR (xs[j]'hjl) (symRs (xs.take j) l).1).2 = false := by simpa using h4
                  have hff := symRs_fail (xs.take j) l (xs[j]'hjl) (xs.drop (j + 1)) hj.2 h4
                  rw [← List.drop_eq_getElem_cons hjl, List.take_append_drop] at hff
                  simp only [push_cast, Nat.reduceAdd, Nat.reduceSub, Nat.reduceMul, Nat.reduceLT, Nat.reduceLeDiff, Nat.reduceEqDiff, Int.reduceToNat, ↓reduceIte, hff]
              · rw [List.take_of_length_le (show xs.length ≤ j by omega)] at hj ⊢
                simp only [push_cast, Nat.reduceAdd, Nat.reduceSub, Nat.reduceMul, Nat.reduceLT, Nat.reduceLeDiff, Nat.reduceEqDiff, Int.reduceToNat, ↓reduceIte, hj.2]
            · have hcf : cfSy l (n, xs.length) = true := by
                unfold cfSy
                rw [hI, hia, List.getElem?_eq_getElem hlt1]
                have : ¬ (l[i]'hlt1).2 = xs.length := by omega
                simp [this]
              have hR : symR (.mk n false xs) l = (l, false) := by
                unfold symR
                simp only [Term.mk_name, Term.mk_var, Term.mk_args, Bool.false_eq_true, if_false, if_true, hm, hcf, hI]
              simp only [push_cast, Nat.reduceAdd, Nat.reduceSub, Nat.reduceMul, Nat.reduceLT, Nat.reduceLeDiff, Nat.reduceEqDiff, Int.reduceToNat, ↓reduceIte, hR]
          · have hd3 : decide ((l[i]'hil).1 = n) = false := by simpa using hne
            apply AW_drawE [some 35, some 36, some 37, some 38, some 39, some 40, some 41, some 42, some 43, some 44, some 45, some 46, some 47, some 48] [([], _)] [none, none, none, none, none, none, none, none, none, none, none, none, none, none] 0 [(0, [], [6]), (1, [], [1]), (2, [], [36]), (3, [], [35, 1]), (4, [], [38]), (5, [], [1, 37]), (6, [], [6, 32]), (7, [], [39, 0, 0]), (8, [], [39, 2]), (9, [], [39, 3]), (10, [], [2, 36]), (11, [], [39, 5]), (12, [], [39, 4, 1]), (13, [], [39, 7])] [_, _, _, _, _, _, _, _, _, _, _, _, _, _]
            case' hm => exact dr
            case' hn => rfl
            case' hok => rfl
            case' hlen => rfl
            case' hd => rfl
            case' h0 => rfl
            case' hstep =>
             simp only [DAllG, push_cast, Option.isSome_some, Option.isSome_none]
             repeat' apply And.intro
             all_goals (apply DOne_V; simp only [push_cast, Nat.reduceAdd, Nat.reduceSub, Nat.reduceMul, Nat.reduceLT, Nat.reduceLeDiff, Nat.reduceEqDiff, Int.reduceToNat, ↓reduceIte, hd2, hd3] <;> first | exact rfl | omega | exact ⟨rfl, rfl⟩ | exact trivial | exact ⟨by omega, rfl⟩ | exact ⟨by omega, by omega, rfl⟩ | exact ⟨by omega, rfl, rfl⟩ | exact ⟨by omega, by omega, rfl, rfl⟩ | skip)
            case' hQ => skip
            simp only [push_cast, Nat.reduceAdd, Nat.reduceSub, Nat.reduceMul, Nat.reduceLT, Nat.reduceLeDiff, Nat.reduceEqDiff, Int.reduceToNat, ↓reduceIte, hd3]
            have hno : ¬ (l.map (·.1))[i]? = some n := by
              rw [List.getElem?_map, List.getElem?_eq_getElem hil]
              intro e
              injection e with e
              exact hne e
            have hdr : List.take (l.length - i) (List.drop i l) = l.drop i := List.take_of_length_le (by simp)
            obtain ⟨l1, hl1⟩ : ∃ l1, l1 = l.take i ++ (n, xs.length) :: l.drop i := ⟨_, rfl⟩
            have hI : insSy l (n, xs.length) = l1 := by
              unfold insSy
              rw [hia, if_neg (by intro e; exact hno e), hl1, List.append_assoc]; rfl
            have hll : l1.length = l.length + 1 := by rw [hl1]; simp; omega
            have hn1 : ∀ x, x ∈ l1 → x.1.length < 1099511627776 := fun x hx => by
              rw [← hI] at hx
              rcases insSy_sub hx with h | h
              · exact hn x h
              · rw [h]; show n.length < _; omega
            have hlt1 : i < l1.length := by omega
            apply AW_drawO [[], [1], [], [], [], [], [], [], [], [], [], [], [], [1], [], [], [], []] [some 49, some 50, some 51, some 52, some 53, some 54, some 55, some 56, some 57, some 58, some 59, some 60, some 61, some 62, some 63, some 64, some 65, some 1] [([false, false, false], _), ([true, false, false], _), ([true, true, false], _), ([true, true, true], _)] [none, none, none, none, some 0, none, none, none, none, none, none, none, some 1, none, none, none, some 2, none] 3 [(0, [false, false, false], []), (1, [false, false, false], [1]), (2, [false, false, false], [6]), (3, [false, false, false], [50, 0]), (4, [false, false, false], [49, 2]), (5, [true, false, false], [2]), (6, [true, false, false], [54]), (7, [true, false, false], [2]), (8, [true, false, false], [56]), (9, [true, false, false], [57]), (10, [true, false, false], [55, 2]), (11, [true, false, false], [59]), (12, [true, false, false], [53, 6]), (13, [true, true, false], [1]), (14, [true, true, false], [6]), (15, [true, true, false], [62, 0]), (16, [true, true, false], [61, 2]), (17, [true, true, true], [65]), (1, [true, false, false], [1]), (1, [true, true, false], [1]), (1, [true, true, true], [1]), (2, [true, false, false], [6]), (2, [true, true, false], [6]), (2, [true, true, true], [6]), (5, [false, false, false], [2]), (5, [true, true, false], [2]), (5, [true, true, true], [2]), (6, [false, false, false], [54]), (6, [true, true, false], [54]), (6, [true, true, true], [54]), (7, [false, false, false], [2]), (7, [true, true, false], [2]), (7, [true, true, true], [2]), (8, [false, false, false], [56]), (8, [true, true, false], [56]), (8, [true, true, true], [56]), (9, [false, false, false], [57]), (9, [true, true, false], [57]), (9, [true, true, true], [57]), (10, [false, false, false], [55, 2]), (10, [true, true, false], [55, 2]), (10, [true, true, true], [55, 2]), (11, [false, false, false], [59]), (13, [false, false, false], [1]), (13, [true, false, false], [1]), (13, [true, true, true], [1]), (14, [false, false, false], [6]), (14, [true, false, false], [6]), (14, [true, true, true], [6]), (15, [false, false, false], [62, 0]), (15, [true, false, false], [62, 0])] [_, _, _, _, _, _, _, _, _, _, _, _, _, _, _, _, _, _]
            case' hm => exact dr
            case' hn => rfl
            case' hok => rfl
            case' hlen => rfl
            case' hd => rfl
            case' h0 => rfl
            case' hstep =>
             simp only [DAllO, push_cast, Option.isSome_some, Option.isSome_none]
             repeat' apply And.intro
             all_goals (apply DOne_V; simp only [push_cast, Nat.reduceAdd, Nat.reduceSub, Nat.reduceMul, Nat.reduceLT, Nat.reduceLeDiff, Nat.reduceEqDiff, Int.reduceToNat, ↓reduceIte, List.drop_zero, Nat.sub_zero, hdr] <;> first | exact rfl | omega | exact ⟨rfl, rfl⟩ | exact trivial | exact ⟨by omega, rfl⟩ | exact ⟨by omega, by omega, rfl⟩ | exact ⟨by omega, rfl, rfl⟩ | exact ⟨by omega, by omega, rfl, rfl⟩ | (refine app_L encSy (sz := 2) (fun _ => rfl) cellSy _ (H.length + 1) [] (l.take i) _ rfl rfl (by exact (agetN _ _ 1).trans rfl) sl33 sz64 by64 zr64 rfl (by decide) (by decide) (by simp; omega) ?_; simp only [push_cast, Nat.reduceAdd, Nat.reduceSub, Nat.reduceMul, Nat.reduceLT, Nat.reduceLeDiff, Nat.reduceEqDiff, Int.reduceToNat, ↓reduceIte, List.nil_append]; exact ⟨rfl, rfl⟩) | (refine app1_L encSy (sz := 2) (fun _ => rfl) cellSy _ (H.length + 1) (l.take i) (n, xs.length) _ rfl rfl (by exact (agetN _ _ 1).trans rfl) sl33 sz64 by64 zr64 rfl (by decide) (by decide) (by simp; omega) ?_; simp only [push_cast, Nat.reduceAdd, Nat.reduceSub, Nat.reduceMul, Nat.reduceLT, Nat.reduceLeDiff, Nat.reduceEqDiff, Int.reduceToNat, ↓reduceIte]; exact ⟨rfl, rfl⟩) | (refine app_L encSy (sz := 2) (fun _ => rfl) cellSy _ (H.length + 1) (l.take i ++ [(n, xs.length)]) (l.drop i) _ rfl rfl (by exact (agetN _ _ 1).trans rfl) sl33 sz64 by64 zr64 rfl (by decide) (by decide) (by simp; omega) ?_; simp only [push_cast, Nat.reduceAdd, Nat.reduceSub, Nat.reduceMul, Nat.reduceLT, Nat.reduceLeDiff, Nat.reduceEqDiff, Int.reduceToNat, ↓reduceIte]; exact ⟨rfl, rfl⟩))
            case' hQ => skip
            simp only [push_cast, Nat.reduceAdd, Nat.reduceSub, Nat.reduceMul, Nat.reduceLT, Nat.reduceLeDiff, Nat.reduceEqDiff, Int.reduceToNat, ↓reduceIte]
            rw [← hl1]
            obtain ⟨tk, htk⟩ := gSl_sl' (H.length + 1) (encL encSy l1)
            rw [htk]
            have hz1 := List.getElem_mem hlt1
            apply AW_drawE [some 66, some 67, some 68, some 69, some 70, some 71, some 72, some 73, some 74] [([], _)] [none, none, none, none, none, none, none, none, none] 0 [(0, [], [1]), (1, [], [6]), (2, [], [66, 0]), (3, [], [68]), (4, [], [69]), (5, [], [2]), (6, [], [71]), (7, [], [72]), (8, [], [70, 2])] [_, _, _, _, _, _, _, _, _]
            case' hm => exact dr
            case' hn => rfl
            case' hok => rfl
            case' hlen => rfl
            case' hd => rfl
            case' h0 => rfl
            case' hstep =>
             simp only [DAllG, push_cast, Option.isSome_some, Option.isSome_none]
             repeat' apply And.intro
             all_goals (apply DOne_V; simp only [push_cast, Nat.reduceAdd, Nat.reduceSub, Nat.reduceMul, Nat.reduceLT, Nat.reduceLeDiff, Nat.reduceEqDiff, Int.reduceToNat, ↓reduceIte] <;> first | exact rfl | omega | exact ⟨rfl, rfl⟩ | exact trivial | exact ⟨by omega, rfl⟩ | exact ⟨by omega, by omega, rfl⟩ | exact ⟨by omega, rfl, rfl⟩ | exact ⟨by omega, by omega, rfl, rfl⟩ | skip)
            case' hQ => skip
            simp only [push_cast, Nat.reduceAdd, Nat.reduceSub, Nat.reduceMul, Nat.reduceLT, Nat.reduceLeDiff, Nat.reduceEqDiff, Int.reduceToNat, ↓reduceIte]
            refine cI (fun hk => ?_) (fun hk => ?_)
            · have hcf : cfSy l (n, xs.length) = false := by
                unfold cfSy
                rw [hI, hia, List.getElem?_eq_getElem hlt1]
                have : (l1[i]'hlt1).2 = xs.length := by omega
                simp [this]
              have hR : symR (.mk n false xs) l = symRs xs l1 := by
                unfold symR
                simp only [Term.mk_name, Term.mk_var, Term.mk_args, Bool.false_eq_true, if_false, hm, hcf, hI]
              rw [hR]
              refine AW_loopW (maskG 95 [1, 75, 0, 0]) (fun (j : Nat) => [(1, .sl .none (encL encSy (symRs (xs.take j) l1).1)), (79, .int .i64 j)]) (fun j => H ++ [.cells [.str n, .bool false, .sl .none (encTs xs)]]) (fun j => j ≤ xs.length ∧ (symRs (xs.take j) l1).2 = true) (fun j => xs.length - j) 0 ⟨Nat.zero_le _, by simp [symRs]⟩ (by simp only [push_cast, Nat.reduceAdd, Nat.reduceSub, Nat.reduceMul, Nat.reduceLT, Nat.reduceLeDiff, Nat.reduceEqDiff, Int.reduceToNat, ↓reduceIte, List.take_zero, symRs_nil]) (fun j hj => ?_)
              simp only [push_cast, Nat.reduceAdd, Nat.reduceSub, Nat.reduceMul, Nat.reduceLT, Nat.reduceLeDiff, Nat.reduceEqDiff, Int.reduceToNat, ↓reduceIte]
              refine cI (fun h3 => ?_) (fun h3 => ?_)
              · have hjl : j < xs.length := by omega
                repeat refine ⟨by omega, ?_⟩
                have hq1 := symRs_len (xs.take j) l1
                have hq2 := take_sum Term.size xs j hjl
                have hq3 := take_sum_le Term.size xs (j + 1)
                have hq4 := symRs_names (xs.take j) l1 (fun t ht => by have := Term.arg_le (n := n) (v := false) (List.mem_of_mem_take ht); omega) hn1
                have hsn := symRs_snoc (xs.take j) l1 (xs[j]'hjl) hj.2
                rw [← List.take_succ_eq_append_getElem hjl] at hsn
                refine (ih _ (List.getElem_mem hjl) (arg_bulk hb j hjl) (symRs (xs.take j) l1).1 (by omega) hq4 _).to ?_
                simp only [push_cast, Nat.reduceAdd, Nat.reduceSub, Nat.reduceMul, Nat.reduceLT, Nat.reduceLeDiff, Nat.reduceEqDiff, Int.reduceToNat, ↓reduceIte]
                refine cI (fun h4 => ?_) (fun h4 => ?_)
                · rw [if_pos h4] at hsn
                  repeat' first | refine ⟨by omega, ?_⟩ | refine cI (fun _ => ?_) (fun _ => ?_)
                  refine loopW_n (j + 1) ⟨by omega, by rw [hsn]⟩ (by omega) ?_
                  rw [hsn]
                  simp only [push_cast, Nat.reduceAdd, Nat.reduceSub, Nat.reduceMul, Nat.reduceLT, Nat.reduceLeDiff, Nat.reduceEqDiff, Int.reduceToNat, ↓reduceIte]
                · have h4 : (symR (xs[j]'hjl) (symRs (xs.take j) l1).1).2 = false := by simpa using h4
                  have hff := symRs_fail (xs.take j) l1 (xs[j]'hjl) (xs.drop (j + 1)) hj.2 h4
                  rw [← List.drop_eq_getElem_cons hjl, List.take_append_drop] at hff
                  simp only [push_cast, Nat.reduceAdd, Nat.reduceSub, Nat.reduceMul, Nat.reduceLT, Nat.reduceLeDiff, Nat.reduceEqDiff, Int.reduceToNat, ↓reduceIte, hff]
              · rw [List.take_of_length_le (show xs.length ≤ j by omega)] at hj ⊢
                simp only [push_cast, Nat.reduceAdd, Nat.reduceSub, Nat.reduceMul, Nat.reduceLT, Nat.reduceLeDiff, Nat.reduceEqDiff, Int.reduceToNat, ↓reduceIte, hj.2]
            · have hcf : cfSy l (n, xs.length) = true := by
                unfold cfSy
                rw [hI, hia, List.getElem?_eq_getElem hlt1]
                have : ¬ (l1[i]'hlt1).2 = xs.length := by omega
                simp [this]
              have hR : symR (.mk n false xs) l = (l1, false) := by
                unfold symR
                simp only [Term.mk_name, Term.mk_var, Term.mk_args, Bool.false_eq_true, if_false, if_true, hm, hcf, hI]
              simp only [push_cast, Nat.reduceAdd, Nat.reduceSub, Nat.reduceMul, Nat.reduceLT, Nat.reduceLeDiff, Nat.reduceEqDiff, Int.reduceToNat, ↓reduceIte, hR]
      · have hd : decide ((i : Int) < (l.length : Int)) = false := by simp; omega
        apply AW_drawE [some 18, some 19, some 20, some 21, some 22, some 23, some 24, some 25, some 26, some 27, some 28, some 29, some 30, some 31, some 32] [([], _)] [none, none, none, none, none, none, none, none, none, none, none, none, none, none, none] 0 [(0, [], [6]), (1, [], [1]), (2, [], [19]), (3, [], [18, 1]), (4, [], [21]), (5, [], [1, 20]), (6, [], [6, 15]), (7, [], [22, 0, 0]), (8, [], [22, 2]), (9, [], [22, 3]), (10, [], [2, 19]), (11, [], [22, 5]), (12, [], [22, 4, 1]), (13, [], [22, 7]), (14, [], [22, 8])] [_, _, _, _, _, _, _, _, _, _, _, _, _, _, _]
        case' hm => exact dr
        case' hn => rfl
        case' hok => rfl
        case' hlen => rfl
        case' hd => rfl
        case' h0 => rfl
        case' hstep =>
         simp only [DAllG, push_cast, Option.isSome_some, Option.isSome_none]
         repeat' apply And.intro
         all_goals (apply DOne_V; simp only [push_cast, Nat.reduceAdd, Nat.reduceSub, Nat.reduceMul, Nat.reduceLT, Nat.reduceLeDiff, Nat.reduceEqDiff, Int.reduceToNat, ↓reduceIte, hd] <;> first | exact rfl | omega | exact ⟨rfl, rfl⟩ | exact trivial | exact ⟨by omega, rfl⟩ | exact ⟨by omega, by omega, rfl⟩ | exact ⟨by omega, rfl, rfl⟩ | exact ⟨by omega, by omega, rfl, rfl⟩ | skip)
        case' hQ => skip
        simp only [push_cast, Nat.reduceAdd, Nat.reduceSub, Nat.reduceMul, Nat.reduceLT, Nat.reduceLeDiff, Nat.reduceEqDiff, Int.reduceToNat, ↓reduceIte]
        have hia : syAt l n = i := syAt_eq l n i hi.1 hi.2 (fun h1 => absurd h1 hil)
        have hd2 : decide ((i : Int) = (l.length : Int)) = true := by simp; omega
        apply AW_drawE [some 35, some 36, some 37, some 38, some 39, some 40, some 41, some 42, some 43, some 44, some 45, some 46, some 47, some 48] [([], _)] [none, none, none, none, none, none, none, none, none, none, none, none, none, none] 0 [(0, [], [6]), (1, [], [1]), (2, [], [36]), (3, [], [35, 1]), (4, [], [38]), (5, [], [1, 37]), (6, [], [6, 32]), (7, [], [39, 0, 0]), (8, [], [39, 2]), (9, [], [39, 3]), (10, [], [2, 36]), (11, [], [39, 5]), (12, [], [39, 4, 1]), (13, [], [39, 7])] [_, _, _, _, _, _, _, _, _, _, _, _, _, _]
        case' hm => exact dr
        case' hn => rfl
        case' hok => rfl
        case' hlen => rfl
        case' hd => rfl
        case' h0 => rfl
        case' hstep =>
         simp only [DAllG, push_cast, Option.isSome_some, Option.isSome_none]
         repeat' apply And.intro
         all_goals (apply DOne_V; simp only [push_cast, Nat.reduceAdd, Nat.reduceSub, Nat.reduceMul, Nat.reduceLT, Nat.reduceLeDiff, Nat.reduceEqDiff, Int.reduceToNat, ↓reduceIte, hd2] <;> first | exact rfl | omega | exact ⟨rfl, rfl⟩ | exact trivial | exact ⟨by omega, rfl⟩ | exact ⟨by omega, by omega, rfl⟩ | exact ⟨by omega, rfl, rfl⟩ | exact ⟨by omega, by omega, rfl, rfl⟩ | skip)
        case' hQ => skip
        simp only [push_cast, Nat.reduceAdd, Nat.reduceSub, Nat.reduceMul, Nat.reduceLT, Nat.reduceLeDiff, Nat.reduceEqDiff, Int.reduceToNat, ↓reduceIte]
        have hno : ¬ (l.map (·.1))[i]? = some n := by
          rw [List.getElem?_map, List.getElem?_eq_none (by omega)]
          intro e
          cases e
        have hdr : List.take (l.length - i) (List.drop i l) = l.drop i := List.take_of_length_le (by simp)
        obtain ⟨l1, hl1⟩ : ∃ l1, l1 = l.take i ++ (n, xs.length) :: l.drop i := ⟨_, rfl⟩
        have hI : insSy l (n, xs.length) = l1 := by
          unfold insSy
          rw [hia, if_neg (by intro e; exact hno e), hl1, List.append_assoc]; rfl
        have hll : l1.length = l.length + 1 := by rw [hl1]; simp; omega
        have hn1 : ∀ x, x ∈ l1 → x.1.length < 1099511627776 := fun x hx => by
          rw [← hI] at hx
          rcases insSy_sub hx with h | h
          · exact hn x h
          · rw [h]; show n.length < _; omega
        have hlt1 : i < l1.length := by omega
        apply AW_drawO [[], [1], [], [], [], [], [], [], [], [], [], [], [], [1], [], [], [], []] [some 49, some 50, some 51, some 52, some 53, some 54, some 55, some 56, some 57, some 58, some 59, some 60, some 61, some 62, some 63, some 64, some 65, some 1] [([false, false, false], _), ([true, false, false], _), ([true, true, false], _), ([true, true, true], _)] [none, none, none, none, some 0, none, none, none, none, none, none, none, some 1, none, none, none, some 2, none] 3 [(0, [false, false, false], []), (1, [false, false, false], [1]), (2, [false, false, false], [6]), (3, [false, false, false], [50, 0]), (4, [false, false, false], [49, 2]), (5, [true, false, false], [2]), (6, [true, false, false], [54]), (7, [true, false, false], [2]), (8, [true, false, false], [56]), (9, [true, false, false], [57]), (10, [true, false, false], [55, 2]), (11, [true, false, false], [59]), (12, [true, false, false], [53, 6]), (13, [true, true, false], [1]), (14, [true, true, false], [6]), (15, [true, true, false], [62, 0]), (16, [true, true, false], [61, 2]), (17, [true, true, true], [65]), (1, [true, false, false], [1]), (1, [true, true, false], [1]), (1, [true, true, true], [1]), (2, [true, false, false], [6]), (2, [true, true, false], [6]), (2, [true, true, true], [6]), (5, [false, false, false], [2]), (5, [true, true, false], [2]), (5, [true, true, true], [2]), (6, [false, false, false], [54]), (6, [true, true, false], [54]), (6, [true, true, true], [54]), (7, [false, false, false], [2]), (7, [true, true, false], [2]), (7, [true, true, true], [2]), (8, [false, false, false], [56]), (8, [true, true, false], [56]), (8, [true, true, true], [56]), (9, [false, false, false], [57]), (9, [true, true, false], [57]), (9, [true, true, true], [57]), (10, [false, false, false], [55, 2]), (10, [true, true, false], [55, 2]), (10, [true, true, true], [55, 2]), (11, [false, false, false], [59]), (13, [false, false, false], [1]), (13, [true, false, false], [1]), (13, [true, true, true], [1]), (14, [false, false, false], [6]), (14, [true, false, false], [6]), (14, [true, true, true], [6]), (15, [false, false, false], [62, 0]), (15, [true, false, false], [62, 0])] [_, _, _, _, _, _, _, _, _, _, _, _, _, _, _, _, _, _]
        case' hm => exact dr
        case' hn => rfl
        case' hok => rfl
        case' hlen => rfl
        case' hd => rfl
        case' h0 => rfl
        case' hstep =>
         simp only [DAllO, push_cast, Option.isSome_some, Option.isSome_none]
         repeat' apply And.intro
         all_goals (apply DOne_V; simp only [push_cast, Nat.reduceAdd, Nat.reduceSub, Nat.reduceMul, Nat.reduceLT, Nat.reduceLeDiff, Nat.reduceEqDiff, Int.reduceToNat, ↓reduceIte, List.drop_zero, Nat.sub_zero, hdr] <;> first | exact rfl | omega | exact ⟨rfl, rfl⟩ | exact trivial | exact ⟨by omega, rfl⟩ | exact ⟨by omega, by omega, rfl⟩ | exact ⟨by omega, rfl, rfl⟩ | exact ⟨by omega, by omega, rfl, rfl⟩ | (refine app_L encSy (sz := 2) (fun _ => rfl) cellSy _ (H.length + 1) [] (l.take i) _ rfl rfl (by exact (agetN _ _ 1).trans rfl) sl33 sz64 by64 zr64 rfl (by decide) (by decide) (by simp; omega) ?_; simp only [push_cast, Nat.reduceAdd, Nat.reduceSub, Nat.reduceMul, Nat.reduceLT, Nat.reduceLeDiff, Nat.reduceEqDiff, Int.reduceToNat, ↓reduceIte, List.nil_append]; exact ⟨rfl, rfl⟩) | (refine app1_L encSy (sz := 2) (fun _ => rfl) cellSy _ (H.length + 1) (l.take i) (n, xs.length) _ rfl rfl (by exact (agetN _ _ 1).trans rfl) sl33 sz64 by64 zr64 rfl (by decide) (by decide) (by simp; omega) ?_; simp only [push_cast, Nat.reduceAdd, Nat.reduceSub, Nat.reduceMul, Nat.reduceLT, Nat.reduceLeDiff, Nat.reduceEqDiff, Int.reduceToNat, ↓reduceIte]; exact ⟨rfl, rfl⟩) | (refine app_L encSy (sz := 2) (fun _ => rfl) cellSy _ (H.length + 1) (l.take i ++ [(n, xs.length)]) (l.drop i) _ rfl rfl (by exact (agetN _ _ 1).trans rfl) sl33 sz64 by64 zr64 rfl (by decide) (by decide) (by simp; omega) ?_; simp only [push_cast, Nat.reduceAdd, Nat.reduceSub, Nat.reduceMul, Nat.reduceLT, Nat.reduceLeDiff, Nat.reduceEqDiff, Int.reduceToNat, ↓reduceIte]; exact ⟨rfl, rfl⟩))
        case' hQ => skip
        simp only [push_cast, Nat.reduceAdd, Nat.reduceSub, Nat.reduceMul, Nat.reduceLT, Nat.reduceLeDiff, Nat.reduceEqDiff, Int.reduceToNat, ↓reduceIte]
        rw [← hl1]
        obtain ⟨tk, htk⟩ := gSl_sl' (H.length + 1) (encL encSy l1)
        rw [htk]
        have hz1 := List.getElem_mem hlt1
        apply AW_drawE [some 66, some 67, some 68, some 69, some 70, some 71, some 72, some 73, some 74] [([], _)] [none, none, none, none, none, none, none, none, none] 0 [(0, [], [1]), (1, [], [6]), (2, [], [66, 0]), (3, [], [68]), (4, [], [69]), (5, [], [2]), (6, [], [71]), (7, [], [72]), (8, [], [70, 2])] [_, _, _, _, _, _, _, _, _]
        case' hm => exact dr
        case' hn => rfl
        case' hok => rfl
        case' hlen => rfl
        case' hd => rfl
        case' h0 => rfl
        case' hstep =>
         simp only [DAllG, push_cast, Option.isSome_some, Option.isSome_none]
         repeat' apply And.intro
         all_goals (apply DOne_V; simp only [push_cast, Nat.reduceAdd, Nat.reduceSub, Nat.reduceMul, Nat.reduceLT, Nat.reduceLeDiff, Nat.reduceEqDiff, Int.reduceToNat, ↓reduceIte] <;> first | exact rfl | omega | exact ⟨rfl, rfl⟩ | exact trivial | exact ⟨by omega, rfl⟩ | exact ⟨by omega, by omega, rfl⟩ | exact ⟨by omega, rfl, rfl⟩ | exact ⟨by omega, by omega, rfl, rfl⟩ | skip)
        case' hQ => skip
        simp only [push_cast, Nat.reduceAdd, Nat.reduceSub, Nat.reduceMul, Nat.reduceLT, Nat.reduceLeDiff, Nat.reduceEqDiff, Int.reduceToNat, ↓reduceIte]
        refine cI (fun hk => ?_) (fun hk => ?_)
        · have hcf : cfSy l (n, xs.length) = false := by
            unfold cfSy
            rw [hI, hia, List.getElem?_eq_getElem hlt1]
            have : (l1[i]'hlt1).2 = xs.length := by omega
            simp [this]
          have hR : symR (.mk n false xs) l = symRs xs l1 := by
            unfold symR
            simp only [Term.mk_name, Term.mk_var, Term.mk_args, Bool.false_eq_true, if_false, hm, hcf, hI]
          rw [hR]
          refine AW_loopW (maskG 95 [1, 75, 0, 0]) (fun (j : Nat) => [(1, .sl .none (encL encSy (symRs (xs.take j) l1).1)), (79, .int .i64 j)]) (fun j => H ++ [.cells [.str n, .bool false, .sl .none (encTs xs)]]) (fun j => j ≤ xs.length ∧ (symRs (xs.take j) l1).2 = true) (fun j => xs.length - j) 0 ⟨Nat.zero_le _, by simp [symRs]⟩ (by simp only [push_cast, Nat.reduceAdd, Nat.reduceSub, Nat.reduceMul, Nat.reduceLT, Nat.reduceLeDiff, Nat.reduceEqDiff, Int.reduceToNat, ↓reduceIte, List.take_zero, symRs_nil]) (fun j hj => ?_)
          simp only [push_cast, Nat.reduceAdd, Nat.reduceSub, Nat.reduceMul, Nat.reduceLT, Nat.reduceLeDiff, Nat.reduceEqDiff, Int.reduceToNat, ↓reduceIte]
          refine cI (fun h3 => ?_) (fun h3 => ?_)
          · have hjl : j < xs.length := by omega
            repeat refine ⟨by omega, ?_⟩
            have hq1 := symRs_len (xs.take j) l1
            have hq2 := take_sum Term.size xs j hjl
            have hq3 := take_sum_le Term.size xs (j + 1)
            have hq4 := symRs_names (xs.take j) l1 (fun t ht => by have := Term.arg_le (n := n) (v := false) (List.mem_of_mem_take ht); omega) hn1
            have hsn := symRs_snoc (xs.take j) l1 (xs[j]'hjl) hj.2
            rw [← List.take_succ_eq_append_getElem hjl] at hsn
            refine (ih _ (List.getElem_mem hjl) (arg_bulk hb j hjl) (symRs (xs.take j) l1).1 (by omega) hq4 _).to ?_
            simp only [push_cast, Nat.reduceAdd, Nat.reduceSub, Nat.reduceMul, Nat.reduceLT, Nat.reduceLeDiff, Nat.reduceEqDiff, Int.reduceToNat, ↓reduceIte]
            refine cI (fun h4 => ?_) (fun h4 => ?_)
            · rw [if_pos h4] at hsn
              repeat' first | refine ⟨by omega, ?_⟩ | refine cI (fun _ => ?_) (fun _ => ?_)
              refine loopW_n (j + 1) ⟨by omega, by rw [hsn]⟩ (by omega) ?_
              rw [hsn]
              simp only [push_cast, Nat.reduceAdd, Nat.reduceSub, Nat.reduceMul, Nat.reduceLT, Nat.reduceLeDiff, Nat.reduceEqDiff, Int.reduceToNat, ↓reduceIte]
            · have h4 : (symR (xs[j]'hjl) (symRs (xs.take j) l1).1).2 = false := by simpa using h4
              have hff := symRs_fail (xs.take j) l1 (xs[j]'hjl) (xs.drop (j + 1)) hj.2 h4
              rw [← List.drop_eq_getElem_cons hjl, List.take_append_drop] at hff
              simp only [push_cast, Nat.reduceAdd, Nat.reduceSub, Nat.reduceMul, Nat.reduceLT, Nat.reduceLeDiff, Nat.reduceEqDiff, Int.reduceToNat, ↓reduceIte, hff]
          · rw [List.take_of_length_le (show xs.length ≤ j by omega)] at hj ⊢
            simp only [push_cast, Nat.reduceAdd, Nat.reduceSub, Nat.reduceMul, Nat.reduceLT, Nat.reduceLeDiff, Nat.reduceEqDiff, Int.reduceToNat, ↓reduceIte, hj.2]
        · have hcf : cfSy l (n, xs.length) = true := by
            unfold cfSy
            rw [hI, hia, List.getElem?_eq_getElem hlt1]
            have : ¬ (l1[i]'hlt1).2 = xs.length := by omega
            simp [this]
          have hR : symR (.mk n false xs) l = (l1, false) := by
            unfold symR
            simp only [Term.mk_name, Term.mk_var, Term.mk_args, Bool.false_eq_true, if_false, if_true, hm, hcf, hI]
          simp only [push_cast, Nat.reduceAdd, Nat.reduceSub, Nat.reduceMul, Nat.reduceLT, Nat.reduceLeDiff, Nat.reduceEqDiff, Int.reduceToNat, ↓reduceIte, hR]
end Ab
set_option maxRecDepth 10000
namespace Ab
open Go Go.Proofs
theorem rT_sizes (rs : List (Term × Term)) (i : Nat) : ((rT (rs.take i)).map Term.size).sum ≤ ((rT rs).map Term.size).sum := by
  have : rT rs = rT (rs.take i) ++ rT (rs.drop i) := by
    unfold rT; rw [← List.flatMap_append, List.take_append_drop]
  rw [this, List.map_append, List.sum_append]; omega
theorem symbolsR_ac (rs : List (Term × Term)) (hlen : rs.length < 1099511627776) (hb : BndR rs) (hsz : ((rT rs).map Term.size).sum ≤ 1000000000) (H : List AObj) : ACall Tryz.prog 24 [.sl .none (encL encRu rs)] H (fun r H' => r = .tup [.sl .none (encL encSy (if (symRs (rT rs) []).2 then (symRs (rT rs) []).1 else [])), .bool (symRs (rT rs) []).2] ∧ H' = H) := by
  refine ACall_V (H.length) 38 [.tmp 2, .tmp 3] Tryz.func24 rfl rfl rfl ?_
  simp only [push_cast, Nat.reduceAdd, Nat.reduceSub, Nat.reduceMul, Nat.reduceLT, Nat.reduceLeDiff, Nat.reduceEqDiff, Int.reduceToNat, ↓reduceIte]
  refine AW_loopW (maskG 39 [4, 6, 0, 0]) (fun (i : Nat) => [(4, .sl .none (encL encSy (symRs (rT (rs.take i)) []).1)), (13, .int .i64 i)]) (fun _ => H) (fun i => i ≤ rs.length ∧ (symRs (rT (rs.take i)) []).2 = true) (fun i => rs.length - i) 0 ⟨Nat.zero_le _, by rw [List.take_zero, rT_nil, symRs_nil]⟩ (by simp only [push_cast, Nat.reduceAdd, Nat.reduceSub, Nat.reduceMul, Nat.reduceLT, Nat.reduceLeDiff, Nat.reduceEqDiff, Int.reduceToNat, ↓reduceIte, List.take_zero, rT_nil, symRs_nil, encL_nil]) (fun i hi => ?_)
  simp only [push_cast, Nat.reduceAdd, Nat.reduceSub, Nat.reduceMul, Nat.reduceLT, Nat.reduceLeDiff, Nat.reduceEqDiff, Int.reduceToNat, ↓reduceIte]
  refine cI (fun h => ?_) (fun h => ?_)
  · repeat refine ⟨by omega, ?_⟩
    have hil : i < rs.length := by omega
    obtain ⟨l, r, hlr⟩ : ∃ l r, rs[i]'hil = (l, r) := ⟨_, _, rfl⟩
    have hbi := hb _ (List.getElem_mem hil)
    rw [hlr] at hbi
    obtain ⟨hbl, hbr⟩ := hbi
    simp only at hbl hbr
    have hTi : rT (rs.take (i + 1)) = rT (rs.take i) ++ [l, r] := by rw [rT_take rs i hil, hlr]
    have hsz2 := rT_sizes rs (i + 1)
    rw [hTi, List.map_append, List.sum_append] at hsz2
    simp only [List.map_cons, List.map_nil, List.sum_cons, List.sum_nil] at hsz2
    obtain ⟨q0, hq0⟩ : ∃ q0, q0 = (symRs (rT (rs.take i)) []).1 := ⟨_, rfl⟩
    have hq0l : q0.length ≤ ((rT (rs.take i)).map Term.size).sum := by have := symRs_len (rT (rs.take i)) []; rw [← hq0] at this; simpa using this
    have hq0n : ∀ x, x ∈ q0 → x.1.length < 1099511627776 := by
      rw [hq0]
      refine symRs_names _ _ (fun t ht => ?_) (fun x hx => by cases hx)
      obtain ⟨r, hr, he⟩ := mem_rT.1 ht
      have := hb r (List.mem_of_mem_take hr)
      rcases he with rfl | rfl <;> omega
    simp only [push_cast, Nat.reduceAdd, Nat.reduceSub, Nat.reduceMul, Nat.reduceLT, Nat.reduceLeDiff, Nat.reduceEqDiff, Int.reduceToNat, ↓reduceIte, hlr]
    rw [← hq0]
    obtain ⟨T, hT⟩ : ∃ T, T = [l, r] := ⟨_, rfl⟩
    have hTl : T.length = 2 := by rw [hT]; rfl
    have hTb : ∀ t, t ∈ T → t.bulk ≤ 1099511627775 := by rw [hT]; intro t ht; simp at ht; rcases ht with rfl | rfl <;> omega
    have hTs : (T.map Term.size).sum = l.size + r.size := by rw [hT]; simp
    have eT : encTs T = [.agg [.str l.name, .bool l.var, .sl .none (encTs l.args)], .agg [.str r.name, .bool r.var, .sl .none (encTs r.args)]] := by rw [hT, encTs_cons, encTs_cons, encTs_nil]
    refine AW_loopW (maskG 39 [4, 6, 0, 0, 7, 0, 0]) (fun (j : Nat) => [(4, .sl .none (encL encSy (symRs (T.take j) q0).1)), (21, .sl .none (encTs T)), (23, .int .i64 j)]) (fun _ => H) (fun j => j ≤ 2 ∧ (symRs (T.take j) q0).2 = true) (fun j => 2 - j) 0 ⟨by omega, by rw [List.take_zero, symRs_nil]⟩ (by simp only [push_cast, Nat.reduceAdd, Nat.reduceSub, Nat.reduceMul, Nat.reduceLT, Nat.reduceLeDiff, Nat.reduceEqDiff, Int.reduceToNat, ↓reduceIte, List.take_zero, symRs_nil, eT]) (fun j hj => ?_)
    simp only [push_cast, Nat.reduceAdd, Nat.reduceSub, Nat.reduceMul, Nat.reduceLT, Nat.reduceLeDiff, Nat.reduceEqDiff, Int.reduceToNat, ↓reduceIte]
    refine cI (fun h2 => ?_) (fun h2 => ?_)
    · have hjl : j < T.length := by omega
      repeat refine ⟨by omega, ?_⟩
      have hq1 := symRs_len (T.take j) q0
      have hq2 := take_sum Term.size T j hjl
      have hq3 := take_sum_le Term.size T (j + 1)
      have hq4 := symRs_names (T.take j) q0 (fun t ht => hTb t (List.mem_of_mem_take ht)) hq0n
      have hsn := symRs_snoc (T.take j) q0 (T[j]'hjl) hj.2
      rw [← List.take_succ_eq_append_getElem hjl] at hsn
      refine (symbolsR1_ac (T[j]'hjl) (hTb _ (List.getElem_mem hjl)) (symRs (T.take j) q0).1 (by omega) hq4 _).to ?_
      simp only [push_cast, Nat.reduceAdd, Nat.reduceSub, Nat.reduceMul, Nat.reduceLT, Nat.reduceLeDiff, Nat.reduceEqDiff, Int.reduceToNat, ↓reduceIte]
      refine cI (fun h4 => ?_) (fun h4 => ?_)
      · rw [if_pos h4] at hsn
        repeat' first | refine ⟨by omega, ?_⟩ | refine cI (fun _ => ?_) (fun _ => ?_)
        refine loopW_n (j + 1) ⟨by omega, by rw [hsn]⟩ (by omega) ?_
        rw [hsn]
        simp only [push_cast, Nat.reduceAdd, Nat.reduceSub, Nat.reduceMul, Nat.reduceLT, Nat.reduceLeDiff, Nat.reduceEqDiff, Int.reduceToNat, ↓reduceIte]
      · have h4 : (symR (T[j]'hjl) (symRs (T.take j) q0).1).2 = false := by simpa using h4
        have hff := symRs_fail (T.take j) q0 (T[j]'hjl) (T.drop (j + 1)) hj.2 h4
        rw [← List.drop_eq_getElem_cons hjl, List.take_append_drop] at hff
        have hbad : (symRs (rT rs) []).2 = false := by
          rw [rT_split rs i hil, hlr, symRs_app, if_pos hi.2, ← hq0, symRs_app, ← hT, hff]; simp
        simp only [push_cast, Nat.reduceAdd, Nat.reduceSub, Nat.reduceMul, Nat.reduceLT, Nat.reduceLeDiff, Nat.reduceEqDiff, Int.reduceToNat, ↓reduceIte, hbad, encL_nil, Bool.false_eq_true, if_false]
    · have hj2 : j = 2 := by omega
      subst hj2
      rw [List.take_of_length_le (show T.length ≤ 2 by omega)] at hj ⊢
      have e1 : symRs (rT (rs.take (i + 1))) [] = symRs T q0 := by rw [hTi, symRs_app, if_pos hi.2, ← hq0, hT]
      repeat' first | refine ⟨by omega, ?_⟩ | refine cI (fun _ => ?_) (fun _ => ?_)
      refine loopW_n (i + 1) ⟨by omega, by rw [e1]; exact hj.2⟩ (by omega) ?_
      rw [e1]
      simp only [push_cast, Nat.reduceAdd, Nat.reduceSub, Nat.reduceMul, Nat.reduceLT, Nat.reduceLeDiff, Nat.reduceEqDiff, Int.reduceToNat, ↓reduceIte]
  · rw [List.take_of_length_le (show rs.length ≤ i by omega)] at hi ⊢
    simp only [push_cast, Nat.reduceAdd, Nat.reduceSub, Nat.reduceMul, Nat.reduceLT, Nat.reduceLeDiff, Nat.reduceEqDiff, Int.reduceToNat, ↓reduceIte, hi.2]
theorem checkSystemR_ac (rs : List (Term × Term)) (hlen : rs.length < 1099511627776) (hb : BndR rs) (H : List AObj) : ACall Tryz.prog 7 [.sl .none (encL encRu rs)] H (fun r H' => r = .int .i64 (sysP rs) ∧ H' = H) := by
  have hb' : ∀ r, r ∈ rs → r.1.bulk ≤ 1099511627775 ∧ r.2.bulk ≤ 1099511627775 := fun r hr => by have := hb r hr; omega
  refine ACall_V (H.length) 37 [.tmp 2] Tryz.func7 rfl rfl rfl ?_
  simp only [push_cast, Nat.reduceAdd, Nat.reduceSub, Nat.reduceMul, Nat.reduceLT, Nat.reduceLeDiff, Nat.reduceEqDiff, Int.reduceToNat, ↓reduceIte]
  refine (rulesR_ac rs hlen hb' _).to ?_
  simp only [push_cast, Nat.reduceAdd, Nat.reduceSub, Nat.reduceMul, Nat.reduceLT, Nat.reduceLeDiff, Nat.reduceEqDiff, Int.reduceToNat, ↓reduceIte]
  refine cI (fun h1 => ?_) (fun h1 => ?_)
  · have hsz := rules_size h1
    have hag := rules_agree h1
    refine (symbolsR_ac rs hlen hb (by omega) _).to ?_
    simp only [push_cast, Nat.reduceAdd, Nat.reduceSub, Nat.reduceMul, Nat.reduceLT, Nat.reduceLeDiff, Nat.reduceEqDiff, Int.reduceToNat, ↓reduceIte]
    refine cI (fun h2 => ?_) (fun h2 => ?_)
    · rw [h2] at hag
      have hag := hag.symm
      rw [Bool.and_eq_true, Bool.not_eq_true'] at hag
      have hm : (arE rs).2.any (fun s => markedP s.1) = false := by
        rw [List.all_eq_true] at hag
        rw [← Bool.not_eq_true, List.any_eq_true]
        rintro ⟨x, hx, hxm⟩
        have := hag.2 x hx
        rw [hxm] at this; cases this
      have hS : sysP rs = if rs.any extraP then 7 else 0 := by simp [sysP, h1, hag.1, hm]
      refine AW_loopW (maskG 38 [20, 0, 0]) (fun (i : Nat) => [(22, .int .i64 i)]) (fun _ => H) (fun i => i ≤ rs.length ∧ (rs.take i).any extraP = false) (fun i => rs.length - i) 0 ⟨Nat.zero_le _, by simp⟩ (by simp only [push_cast, Nat.reduceAdd, Nat.reduceSub, Nat.reduceMul, Nat.reduceLT, Nat.reduceLeDiff, Nat.reduceEqDiff, Int.reduceToNat, ↓reduceIte]) (fun i hi => ?_)
      simp only [push_cast, Nat.reduceAdd, Nat.reduceSub, Nat.reduceMul, Nat.reduceLT, Nat.reduceLeDiff, Nat.reduceEqDiff, Int.reduceToNat, ↓reduceIte]
      refine cI (fun h => ?_) (fun h => ?_)
      · repeat refine ⟨by omega, ?_⟩
        have hil : i < rs.length := by omega
        have hbi := hb _ (List.getElem_mem hil)
        have hex := extra_within (rs[i]'hil)
        refine cI (fun hv => ?_) (fun hv => ?_)
        · have hx : extraP (rs[i]'hil) = true := by rw [hex, hv]; rfl
          have e : sysP rs = 7 := by rw [hS, if_pos (any_get hil hx)]
          simp only [push_cast, Nat.reduceAdd, Nat.reduceSub, Nat.reduceMul, Nat.reduceLT, Nat.reduceLeDiff, Nat.reduceEqDiff, Int.reduceToNat, ↓reduceIte, e]
        · have hv : (rs[i]'hil).1.var = false := by simpa using hv
          rw [hv, Bool.false_or] at hex
          repeat refine ⟨by omega, ?_⟩
          refine (withinR_ac (rs[i]'hil).2 (rs[i]'hil).1 hbi.2 hbi.1 _).to ?_
          simp only [push_cast, Nat.reduceAdd, Nat.reduceSub, Nat.reduceMul, Nat.reduceLT, Nat.reduceLeDiff, Nat.reduceEqDiff, Int.reduceToNat, ↓reduceIte, ← hex]
          refine cI (fun hx => ?_) (fun hx => ?_)
          · rw [hS, if_pos (any_get hil hx)]
          · repeat' first | refine ⟨by omega, ?_⟩ | refine cI (fun _ => ?_) (fun _ => ?_)
            exact loopW_n (i + 1) ⟨by omega, any_take_false hi.2 hil (by simpa using hx)⟩ (by omega) (by simp only [push_cast, Nat.reduceAdd, Nat.reduceSub, Nat.reduceMul, Nat.reduceLT, Nat.reduceLeDiff, Nat.reduceEqDiff, Int.reduceToNat, ↓reduceIte])
      · have e := hi.2
        rw [List.take_of_length_le (show rs.length ≤ i by omega)] at e
        have e2 : sysP rs = 0 := by rw [hS, e]; rfl
        simp only [push_cast, Nat.reduceAdd, Nat.reduceSub, Nat.reduceMul, Nat.reduceLT, Nat.reduceLeDiff, Nat.reduceEqDiff, Int.reduceToNat, ↓reduceIte, e2]
    · have h2 : (symRs (rT rs) []).2 = false := by simpa using h2
      rw [h2] at hag
      have e : sysP rs = 6 := by
        cases hB : arB rs with
        | true => simp [sysP, h1, hB]
        | false =>
          rw [hB] at hag
          have hm : (arE rs).2.any (fun s => markedP s.1) = true := by
            rw [← Bool.not_eq_false]
            intro h5
            rw [← Bool.not_eq_true, List.any_eq_true] at h5
            have : (arE rs).2.all (fun s => !markedP s.1) = true := by
              rw [List.all_eq_true]
              intro x hx
              by_cases hxm : markedP x.1 = true
              · exact absurd ⟨x, hx, hxm⟩ h5
              · simpa using hxm
            rw [this] at hag; cases hag
          simp [sysP, h1, hB, hm]
      simp only [push_cast, Nat.reduceAdd, Nat.reduceSub, Nat.reduceMul, Nat.reduceLT, Nat.reduceLeDiff, Nat.reduceEqDiff, Int.reduceToNat, ↓reduceIte, e]
  · have e : sysP rs = rulesP rs := by simp [sysP, h1]
    simp only [push_cast, Nat.reduceAdd, Nat.reduceSub, Nat.reduceMul, Nat.reduceLT, Nat.reduceLeDiff, Nat.reduceEqDiff, Int.reduceToNat, ↓reduceIte, e]
end Ab
set_option maxRecDepth 10000
namespace Ab
open Go Go.Proofs
theorem bytesLess_cmp : ∀ a b : List UInt8, (Op.bytesLess a b = true ↔ Lib.compareBytes a b < 0) ∧ (Lib.compareBytes b a < 0 ↔ 0 < Lib.compareBytes a b)
  | [], [] => by simp [Op.bytesLess, Lib.compareBytes]
  | [], _ :: _ => by simp [Op.bytesLess, Lib.compareBytes]
  | _ :: _, [] => by simp [Op.bytesLess, Lib.compareBytes]
  | a :: x, b :: y => by
    have ih := bytesLess_cmp x y
    unfold Op.bytesLess Lib.compareBytes
    simp only [UInt8.lt_iff_toNat_lt]
    rcases Nat.lt_trichotomy a.toNat b.toNat with h | h | h
    · have h2 : ¬ b.toNat < a.toNat := by omega
      simp [h, h2]
    · have e : a = b := UInt8.toNat_inj.1 h
      subst e
      have h2 : ¬ a.toNat < a.toNat := by omega
      simp only [h2, if_false, decide_false, Bool.false_or, beq_self_eq_true, Bool.true_and]; exact ih
    · have h2 : ¬ a.toNat < b.toNat := by omega
      have h3 : ¬ a = b := fun e => by subst e; omega
      simp [h, h2, h3]
def look (σ : List (List UInt8 × Term)) (v : List UInt8) : Option Term := (σ.find? fun b => decide (b.1 = v)).map (·.2)
theorem image_look (σ : List (List UInt8 × Term)) (v : List UInt8) : imageP σ v = (look σ v).getD (.mk v true []) := rfl
theorem look_some_mem {σ : List (List UInt8 × Term)} {v : List UInt8} {t : Term} (h : look σ v = some t) : (v, t) ∈ σ := by
  unfold look at h
  cases hf : σ.find? (fun b => decide (b.1 = v)) with
  | none => rw [hf] at h; cases h
  | some b =>
    rw [hf] at h
    injection h with h
    have h1 := List.find?_some hf
    have h2 := List.mem_of_find?_eq_some hf
    simp only [decide_eq_true_eq] at h1
    rw [← h1, ← h]; exact h2
theorem look_cases {σ : List (List UInt8 × Term)} (v : List UInt8) : (∃ b, b ∈ σ ∧ b.1 = v ∧ look σ v = some b.2) ∨ look σ v = none := by
  cases h : look σ v with
  | none => exact .inr rfl
  | some t => exact .inl ⟨(v, t), look_some_mem h, rfl, rfl⟩
theorem apply_size (σ : List (List UInt8 × Term)) (B : Nat) (hB : 1 ≤ B) (h : ∀ b, b ∈ σ → b.2.size ≤ B) (t : Term) : (applyP σ t).size ≤ t.size * B := by
  induction t using Term.ind with | _ n u xs ih
  rw [applyP_mk]
  split
  · have h1 : 1 ≤ (Term.mk n u xs).size := Term.size_pos _
    have h2 : (imageP σ n).size ≤ B := by
      rw [image_look]
      rcases look_cases (σ := σ) n with ⟨b, hb, _, e⟩ | e
      · rw [e]; exact h b hb
      · rw [e]; simpa [Term.size_mk] using hB
    calc (imageP σ n).size ≤ 1 * B := by omega
      _ ≤ _ := Nat.mul_le_mul_right B h1
  · rw [Term.size_mk, Term.size_mk, Nat.add_mul]
    have h2 : ((xs.map (applyP σ)).map Term.size).sum ≤ (xs.map Term.size).sum * B := by
      clear hB
      induction xs with
      | nil => simp
      | cons a r ih2 =>
        have h3 := ih a (by simp)
        have h4 := ih2 (fun x hx => ih x (by simp [hx]))
        simp only [List.map_cons, List.sum_cons, Nat.add_mul]
        omega
    omega
theorem apply_bulk (σ : List (List UInt8 × Term)) (B : Nat) (h : ∀ b, b ∈ σ → b.2.bulk ≤ B) (t : Term) : (applyP σ t).bulk ≤ t.bulk * (B + 1) := by
  induction t using Term.ind with | _ n u xs ih
  rw [applyP_mk]
  split
  · rw [image_look]
    have h1 : n.length < (Term.mk n u xs).bulk := Term.name_le
    rcases look_cases (σ := σ) n with ⟨b, hb, _, e⟩ | e
    · rw [e]
      have h3 := h b hb
      calc b.2.bulk ≤ 1 * (B + 1) := by omega
        _ ≤ _ := Nat.mul_le_mul_right (B + 1) (by omega)
    · rw [e]
      show (Term.mk n true []).bulk ≤ _
      calc (Term.mk n true []).bulk = 1 + n.length := by simp [Term.bulk_mk]
        _ ≤ (Term.mk n u xs).bulk * 1 := by omega
        _ ≤ _ := Nat.mul_le_mul_left _ (by omega)
  · rw [Term.bulk_mk, Term.bulk_mk, Nat.add_mul]
    have h2 : ((xs.map (applyP σ)).map Term.bulk).sum ≤ (xs.map Term.bulk).sum * (B + 1) := by
      induction xs with
      | nil => simp
      | cons a r ih2 =>
        have h3 := ih a (by simp)
        have h4 := ih2 (fun x hx => ih x (by simp [hx]))
        simp only [List.map_cons, List.sum_cons, Nat.add_mul]
        omega
    have h5 : 1 + n.length ≤ (1 + n.length) * (B + 1) := Nat.le_mul_of_pos_right _ (by omega)
    omega
theorem name_small {s : List UInt8} {m : Bool} (h : isNameP s m = true) : s.length ≤ 24 := by
  unfold isNameP at h
  rw [Bool.and_eq_true, decide_eq_true_eq] at h
  exact h.1
theorem formed_bulk (t : Term) : formedP t = true → t.bulk ≤ 25 * t.size := by
  induction t using Term.ind with | _ n u xs ih
  intro h
  rw [formedP_mk] at h
  rw [Term.bulk_mk, Term.size_mk]
  split at h
  · rw [Bool.and_eq_true, decide_eq_true_eq] at h
    have h1 := name_small h.2
    have h2 := List.eq_nil_of_length_eq_zero h.1
    subst h2
    simp; omega
  · rw [Bool.and_eq_true, Bool.and_eq_true, List.all_eq_true] at h
    have h1 := name_small h.1.2
    have h2 : (xs.map Term.bulk).sum ≤ 25 * (xs.map Term.size).sum := by
      have h3 := h.2
      clear h
      induction xs with
      | nil => simp
      | cons a r ih2 =>
        have h4 := ih a (by simp) (h3 a (by simp))
        have h5 := ih2 (fun x hx => ih x (by simp [hx])) (fun x hx => h3 x (by simp [hx]))
        simp only [List.map_cons, List.sum_cons]
        omega
    omega
theorem check_iff (t : Term) : checkP t = 0 ↔ formedP t = true ∧ fitsP t = true := by
  unfold checkP
  cases formedP t <;> cases fitsP t <;> simp
theorem fits_size {t : Term} (h : fitsP t = true) : t.size ≤ 4000 := by
  unfold fitsP at h
  rw [Bool.and_eq_true, decide_eq_true_eq] at h
  exact h.1
theorem check_small {t : Term} (h : checkP t = 0) : t.size ≤ 4000 ∧ t.bulk ≤ 100000 := by
  have h1 := (check_iff t).1 h
  have h2 := fits_size h1.2
  have h3 := formed_bulk t h1.1
  omega
end Ab
namespace Ab
open Go
def subLe (σ τ : List (List UInt8 × Term)) : Prop := ∀ v x, look σ v = some x → look τ v = some x
theorem subLe.refl (σ : List (List UInt8 × Term)) : subLe σ σ := fun _ _ h => h
theorem subLe.trans {a b c : List (List UInt8 × Term)} (h1 : subLe a b) (h2 : subLe b c) : subLe a c := fun v x h => h2 v x (h1 v x h)
structure MatchOk (σ σ' : List (List UInt8 × Term)) (S : Term → Prop) : Prop where
  sorted : SortedN (σ'.map (·.1))
  le : subLe σ σ'
  new : ∀ b, b ∈ σ' → b ∈ σ ∨ S b.2
  len : σ.length ≤ σ'.length
theorem MatchOk.refl {σ : List (List UInt8 × Term)} {S : Term → Prop} (hs : SortedN (σ.map (·.1))) : MatchOk σ σ S := ⟨hs, subLe.refl σ, fun _ h => .inl h, Nat.le_refl _⟩
theorem MatchOk.trans {a b c : List (List UInt8 × Term)} {S : Term → Prop} (h1 : MatchOk a b S) (h2 : MatchOk b c S) : MatchOk a c S :=
  ⟨h2.sorted, h1.le.trans h2.le, fun x hx => by
    rcases h2.new x hx with h | h
    · exact h1.new x h
    · exact .inr h, Nat.le_trans h1.len h2.len⟩
theorem MatchOk.mono {a b : List (List UInt8 × Term)} {S S' : Term → Prop} (h : MatchOk a b S) (hS : ∀ x, S x → S' x) : MatchOk a b S' := ⟨h.sorted, h.le, fun x hx => (h.new x hx).imp id (hS _), h.len⟩
end Ab
set_option maxRecDepth 10000
namespace Ab
open Go Go.Proofs
def mH (G : List AObj) (m k : Nat) (σ : List (List UInt8 × Term)) : List AObj := (G.set m (.cells [grS k (encL encBd σ)])).set k (grO 157 4 (encL encBd σ))
theorem mH_len (G : List AObj) (m k : Nat) (σ : List (List UInt8 × Term)) : (mH G m k σ).length = G.length := by simp [mH]
theorem mH_g0 (G : List AObj) (m k : Nat) (σ : List (List UInt8 × Term)) (x : AObj) (L : List AObj) : (mH G m k σ ++ x :: L)[G.length]? = some x := by
  have := aget0 (mH G m k σ) L x
  rwa [mH_len] at this
theorem mH_gN (G : List AObj) (m k : Nat) (σ : List (List UInt8 × Term)) (L : List AObj) (i : Nat) : (mH G m k σ ++ L)[G.length + i]? = L[i]? := by
  have := agetN (mH G m k σ) L i
  rwa [mH_len] at this
theorem mH_sN (G : List AObj) (m k : Nat) (σ : List (List UInt8 × Term)) (L : List AObj) (i : Nat) (o : AObj) : (mH G m k σ ++ L).set (G.length + i) o = mH G m k σ ++ L.set i o := by
  rw [List.set_append_right _ _ (by rw [mH_len]; omega), mH_len, Nat.add_sub_cancel_left]
theorem mH_tk (G : List AObj) (m k : Nat) (σ : List (List UInt8 × Term)) (L : List AObj) (i : Nat) : (mH G m k σ ++ L).take (G.length + i) = mH G m k σ ++ L.take i := by
  have := takeAN' (mH G m k σ) L i
  rwa [mH_len] at this
theorem mH_t0 (G : List AObj) (m k : Nat) (σ : List (List UInt8 × Term)) (L : List AObj) : (mH G m k σ ++ L).take G.length = mH G m k σ := by
  have := takeA0' (mH G m k σ) L
  rwa [mH_len] at this
theorem mH_0 (G : List AObj) (m k : Nat) (σ : List (List UInt8 × Term)) : (mH G m k σ).take G.length = mH G m k σ := List.take_of_length_le (by rw [mH_len]; exact Nat.le_refl _)
attribute [push_cast] mH_len mH_g0 mH_gN mH_sN mH_tk mH_t0 mH_0
theorem SubT.bulk {s t : Term} (h : SubT s t) : t.bulk ≤ s.bulk := by
  induction h with
  | refl => exact Nat.le_refl _
  | arg ha _ ih => exact Nat.le_trans ih (Nat.le_of_lt (Term.arg_le ha))
end Ab
set_option maxRecDepth 10000
namespace Ab
open Go Go.Proofs
@[reducible] def encSt (s : Int × List Int) : AV := .agg [.int .i64 s.1, .sl .none (encP s.2)]
theorem uniSt (l : List (Int × List Int)) : Uni (1 + 1) (encL encSt l) = True := eq_true (uni_encL (enc := encSt) (k := 2) (fun _ => rfl) l)
theorem scSt_ (n : Nat) (l : List (Int × List Int)) : ScopedL n (encL encSt l) = True := eq_true (scoped_encL (fun x => by simp [Scoped, ScopedL, scoped_encP]) l)
attribute [push_cast] uniSt scSt_
def SysB (rs : List (Term × Term)) : Prop := rs.length ≤ 64 ∧ ∀ r, r ∈ rs → r.1.bulk ≤ 1099511627770 ∧ r.2.bulk ≤ 1099511627770
end Ab
set_option maxRecDepth 10000
namespace Ab
open Go Go.Proofs
theorem sys_B {rs : List (Term × Term)} (h : sysP rs = 0) : SysB rs ∧ (∀ r, r ∈ rs → checkP r.1 = 0 ∧ checkP r.2 = 0) ∧ ∀ r, r ∈ rs → extraP r = false := by
  unfold sysP at h
  split at h
  · rename_i h0; exact absurd h h0
  · rename_i h0
    have h0 : rulesP rs = 0 := by simpa using h0
    obtain ⟨h1, h2⟩ := rules_ok h0
    split at h
    · cases h
    · split at h
      · cases h
      · split at h
        · cases h
        · rename_i h3
          refine ⟨⟨h1, fun r hr => ?_⟩, h2, fun r hr => ?_⟩
          · have g1 := check_small (h2 r hr).1
            have g2 := check_small (h2 r hr).2
            omega
          · cases he : extraP r with
            | false => rfl
            | true => exact absurd (List.any_eq_true.2 ⟨r, hr, he⟩) h3
structure SubOk (σ : List (List UInt8 × Term)) (x : Term) : Prop where
  sorted : SortedN (σ.map (·.1))
  sub : ∀ b, b ∈ σ → SubT x b.2
theorem SubOk.bulk {σ : List (List UInt8 × Term)} {x : Term} (h : SubOk σ x) : ∀ b, b ∈ σ → b.2.bulk ≤ x.bulk ∧ b.2.size ≤ x.size := fun b hb => ⟨(h.sub b hb).bulk, (h.sub b hb).sizes.1⟩
theorem SubOk.apply {σ : List (List UInt8 × Term)} {x : Term} (h : SubOk σ x) (hx : x.size ≤ 4000 ∧ x.bulk ≤ 100000) {r : Term} (hr : r.size ≤ 4000 ∧ r.bulk ≤ 100000) : (applyP σ r).size ≤ 16000000 ∧ (applyP σ r).bulk ≤ 20000000000 := by
  have h1 := apply_size σ 4000 (by decide) (fun b hb => by have := (h.bulk b hb).2; omega) r
  have h2 := apply_bulk σ 100000 (fun b hb => by have := (h.bulk b hb).1; omega) r
  have h3 : r.size * 4000 ≤ 4000 * 4000 := Nat.mul_le_mul hr.1 (Nat.le_refl _)
  have h4 : r.bulk * (100000 + 1) ≤ 100000 * (100000 + 1) := Nat.mul_le_mul hr.2 (Nat.le_refl _)
  omega
end Ab
set_option maxRecDepth 10000
namespace Ab
open Go Go.Proofs
def countStep (m : List (List UInt8 × Int)) (x : List Int × Term) : List (List UInt8 × Int) :=
  if x.2.var then aset m x.2.name ((aget m x.2.name).getD 0 + 1) else m
def countM (l : List (List Int × Term)) : List (List UInt8 × Int) := l.foldl countStep []
def countV (l : List (List Int × Term)) : Nat := (l.filter fun x => x.2.var).length
theorem countM_snoc (l : List (List Int × Term)) (x : List Int × Term) : countM (l ++ [x]) = countStep (countM l) x := by simp [countM]
theorem countV_snoc (l : List (List Int × Term)) (x : List Int × Term) : countV (l ++ [x]) = countV l + if x.2.var then 1 else 0 := by
  simp only [countV, List.filter_append, List.length_append]
  cases h : x.2.var <;> simp [h]
theorem aget_aset {κ α : Type} [DecidableEq κ] : ∀ (m : List (κ × α)) (k k' : κ) (v : α), aget (aset m k v) k' = if k = k' then some v else aget m k'
  | [], k, k', v => by simp [aset, aget]
  | p :: m, k, k', v => by
    by_cases h : p.1 = k
    · subst h; by_cases h2 : p.1 = k' <;> simp [aset, aget, h2]
    · simp only [aset, h, if_false, aget]
      rw [aget_aset m k k' v]
      by_cases h2 : p.1 = k'
      · subst h2; simp [Ne.symm h]
      · simp [h2]
theorem countM_bound : ∀ (l : List (List Int × Term)) (k : List UInt8), 0 ≤ (aget (countM l) k).getD 0 ∧ (aget (countM l) k).getD 0 ≤ l.length := by
  intro l
  obtain ⟨r, rfl⟩ : ∃ r, l = r.reverse := ⟨l.reverse, by simp⟩
  induction r with
  | nil => intro k; simp [countM, aget]
  | cons x r ih =>
    intro k
    rw [List.reverse_cons, countM_snoc]
    unfold countStep
    have h1 := ih k
    have h2 := ih x.2.name
    split
    · rw [aget_aset]
      split
      · simp; simp at h2; omega
      · simp; simp at h1; omega
    · simp; simp at h1; omega
@[reducible] def encC (m : List (List UInt8 × Int)) : List (AV × AV) := amap AV.str (AV.int .i64) m
theorem scC (n : Nat) (m : List (List UInt8 × Int)) : ∀ v, OScoped n (.map v (encC m)) := fun v => osc_amap _ _ m n v (fun _ => by simp [Scoped]) (fun _ => by simp [Scoped])
theorem counts_ac (t : Term) (hb : t.bulk ≤ 1099511627775) (H : List AObj) : ACall Tryz.prog 51 [encT t] H
    (fun r H' => r = .map (H.length + 1) ∧ ∃ ver, H' = H ++ [.cells [.str t.name, .bool t.var, .sl .none (encTs t.args)], .map ver (encC (countM (walkT t [])))]) := by
  have hsz := t.size_le
  have hwl := walkT_length t []
  refine ACall_W (H.length + 2) 18 [.tmp 2] Tryz.func51 rfl rfl rfl ?_
  simp only [push_cast, Nat.reduceAdd, Nat.reduceSub, Nat.reduceMul, Nat.reduceLT, Nat.reduceLeDiff, Nat.reduceEqDiff, Int.reduceToNat, ↓reduceIte]
  refine (walkF_ac t _).to ?_
  simp only [push_cast, Nat.reduceAdd, Nat.reduceSub, Nat.reduceMul, Nat.reduceLT, Nat.reduceLeDiff, Nat.reduceEqDiff, Int.reduceToNat, ↓reduceIte]
  refine AW_iterW _ _ (walk_iter t hb _) H (fun pre => [.cells [.str t.name, .bool t.var, .sl .none (encTs t.args)], .map (countV pre) (encC (countM pre)), .cells [.map (H.length + 1)], .cells [.str t.name, .bool t.var, .sl .none (encTs t.args)]]) 4 (fun _ _ => none) rfl ok109 (by simp only [push_cast, Nat.reduceAdd, Nat.reduceSub, Nat.reduceMul, Nat.reduceLT, Nat.reduceLeDiff, Nat.reduceEqDiff, Int.reduceToNat, ↓reduceIte]; rfl) (fun _ => rfl) (fun lp => by simp only [push_cast, Nat.reduceAdd, Nat.reduceSub, Nat.reduceMul, Nat.reduceLT, Nat.reduceLeDiff, Nat.reduceEqDiff, Int.reduceToNat, ↓reduceIte]) (fun p => by simp only [push_cast, Nat.reduceAdd, Nat.reduceSub, Nat.reduceMul, Nat.reduceLT, Nat.reduceLeDiff, Nat.reduceEqDiff, Int.reduceToNat, ↓reduceIte]; exact scC _ _ _) (fun _ => rfl) (fun pre x suf X l lp lp' he hn => ?_) (fun _ lp => ?_) (fun pre x suf c lp _ _ h => by cases h)
  · simp only [push_cast, Nat.reduceAdd, Nat.reduceSub, Nat.reduceMul, Nat.reduceLT, Nat.reduceLeDiff, Nat.reduceEqDiff, Int.reduceToNat, ↓reduceIte, List.drop_length]
    have hcb := countM_bound pre x.2.name
    have hpl : pre.length ≤ t.size := by rw [← hwl, he]; simp
    refine cI (fun hv => ?_) (fun hv => ?_)
    · refine AOp_lookup (strKey un9) (AV.int .i64) (countM pre) (H.length + 1) (countV pre) x.2.name (.int .i64 0) rfl (by exact (agetN _ _ 1).trans rfl) rfl un83 (ZeroV_of (.int .i64 0) (by kernel_rfl)) ?_
      rw [show (Option.map (AV.int IntKind.i64) (aget (countM pre) x.2.name)).getD (.int .i64 0) = .int .i64 ((aget (countM pre) x.2.name).getD 0) from by cases aget (countM pre) x.2.name <;> rfl]
      simp only [push_cast, Nat.reduceAdd, Nat.reduceSub, Nat.reduceMul, Nat.reduceLT, Nat.reduceLeDiff, Nat.reduceEqDiff, Int.reduceToNat, ↓reduceIte]
      refine ⟨by omega, ?_⟩
      refine AOp_mapUpdate (strKey un9) (AV.int .i64) (countM pre) (H.length + 1) (countV pre) x.2.name ((aget (countM pre) x.2.name).getD 0 + 1) rfl (by exact (agetN _ _ 1).trans rfl) rfl rfl un83 ?_
      have e1 : countV (pre ++ [x]) = countV pre + 1 := by rw [countV_snoc, if_pos hv]
      have e2 : countM (pre ++ [x]) = aset (countM pre) x.2.name ((aget (countM pre) x.2.name).getD 0 + 1) := by rw [countM_snoc, countStep, if_pos hv]
      rw [← e2]
      simp only [push_cast, Nat.reduceAdd, Nat.reduceSub, Nat.reduceMul, Nat.reduceLT, Nat.reduceLeDiff, Nat.reduceEqDiff, Int.reduceToNat, ↓reduceIte, e1]
    · have e1 : countV (pre ++ [x]) = countV pre := by rw [countV_snoc, if_neg hv]; rfl
      have e2 : countM (pre ++ [x]) = countM pre := by rw [countM_snoc, countStep, if_neg hv]
      simp only [push_cast, Nat.reduceAdd, Nat.reduceSub, Nat.reduceMul, Nat.reduceLT, Nat.reduceLeDiff, Nat.reduceEqDiff, Int.reduceToNat, ↓reduceIte, e1, e2]
  · simp only [push_cast, Nat.reduceAdd, Nat.reduceSub, Nat.reduceMul, Nat.reduceLT, Nat.reduceLeDiff, Nat.reduceEqDiff, Int.reduceToNat, ↓reduceIte]
    refine ⟨outok_app 2 rfl (by simp) (fun o ho => ?_), _, rfl⟩
    simp only [List.take_succ_cons, List.take_zero, List.mem_cons, List.not_mem_nil, or_false] at ho
    rcases ho with rfl | rfl
    · simp [OScoped, ScopedL, Scoped, scoped_encTs]
    · exact scC _ _ _
end Ab
set_option maxRecDepth 10000
namespace Ab
open Go Go.Proofs
structure Rank where
  name : List UInt8
  rank : Int
  weight : Int
  deriving DecidableEq
@[reducible] def encR (x : Rank) : AV := .agg [.str x.name, .int .i64 x.rank, .int .i64 x.weight]
theorem uniR (l : List Rank) : Uni (1 + 1 + 1) (encL encR l) = True := eq_true (uni_encL (enc := encR) (k := 3) (fun _ => rfl) l)
theorem scopedR (n : Nat) (l : List Rank) : ScopedL n (encL encR l) = True := eq_true (scoped_encL (fun x => by simp [Scoped, ScopedL]) l)
attribute [push_cast] uniR scopedR
theorem ofC_ac (x : Rank) (v : List UInt8) (H : List AObj) : ACall Tryz.prog 83 [encR x, .str v] H (fun r H' => r = .int .i64 (Lib.compareBytes x.name v) ∧ H' = H) := by
  refine ACall_V (H.length) 7 [.tmp 4] Tryz.func83 rfl rfl rfl ?_
  simp only [push_cast, Nat.reduceAdd, Nat.reduceSub, Nat.reduceMul, Nat.reduceLT, Nat.reduceLeDiff, Nat.reduceEqDiff, Int.reduceToNat, ↓reduceIte]
  refine (compareStr_ac x.name v _).to ?_
  simp only [push_cast, Nat.reduceAdd, Nat.reduceSub, Nat.reduceMul, Nat.reduceLT, Nat.reduceLeDiff, Nat.reduceEqDiff, Int.reduceToNat, ↓reduceIte]
theorem searchR_ac (xs : List Rank) (v : List UInt8) (g : Nat) (caps : List AV) (c : Rank → Int) (H : List AObj) (hlen : xs.length < 1099511627776) (hg : callOk Tryz.prog g = true) (hsc : ScopedL H.length caps)
    (hmono : ∀ i j (hi : i < xs.length) (hj : j < xs.length), i ≤ j → c xs[j] < 0 → c xs[i] < 0)
    (hf : ∀ i (h : i < xs.length) X, ACall Tryz.prog g (encR xs[i] :: .str v :: caps) X (fun r H' => r = .int .i64 (c xs[i]) ∧ H' = X)) :
    ACall Tryz.prog 82 [.sl .none (encL encR xs), .str v, .fn g caps] H
      (fun r H' => ∃ i : Nat, i ≤ xs.length ∧ (∀ j (hj : j < xs.length), j < i → c xs[j] < 0) ∧ (∀ j (hj : j < xs.length), i ≤ j → ¬ c xs[j] < 0) ∧ r = .tup [.int .i64 i, .bool (decide (∃ h : i < xs.length, c xs[i] = 0))] ∧ H' = H) := by
  refine ACall_W (H.length) 46 [.tmp 6, .tmp 7] Tryz.func82 rfl rfl rfl ?_
  simp only [push_cast, Nat.reduceAdd, Nat.reduceSub, Nat.reduceMul, Nat.reduceLT, Nat.reduceLeDiff, Nat.reduceEqDiff, Int.reduceToNat, ↓reduceIte]
  refine AW_loopW (maskG 49 [0, 0, 0, 5, 0, 0]) (fun (q : Nat × Nat) => [(9, .int .i64 q.1), (10, .int .i64 q.2)]) (fun _ => H) (fun q => q.1 ≤ q.2 ∧ q.2 ≤ xs.length ∧ (∀ j (hj : j < xs.length), j < q.1 → c xs[j] < 0) ∧ (∀ j (hj : j < xs.length), q.2 ≤ j → ¬ c xs[j] < 0)) (fun q => q.2 - q.1) (0, xs.length) ⟨by simp, by simp, fun j hj h => by simp at h, fun j hj h => by simp at h; omega⟩ (by simp only [push_cast, Nat.reduceAdd, Nat.reduceSub, Nat.reduceMul, Nat.reduceLT, Nat.reduceLeDiff, Nat.reduceEqDiff, Int.reduceToNat, ↓reduceIte, hsc]) (fun q hq => ?_)
  obtain ⟨i, j⟩ := q
  obtain ⟨hi1, hi2, hi3, hi4⟩ := hq
  simp only at hi1 hi2 hi3 hi4
  simp only [push_cast, Nat.reduceAdd, Nat.reduceSub, Nat.reduceMul, Nat.reduceLT, Nat.reduceLeDiff, Nat.reduceEqDiff, Int.reduceToNat, ↓reduceIte, hg]
  refine cI (fun h => ?_) (fun h => ?_)
  · have e1 : ((i : Int) + j) / 2 ^ 1 = (((i + j) / 2 : Nat) : Int) := by rw [Int.pow_one]; omega
    have e2 : 1 ≤ IntKind.u64.bits := by decide
    obtain ⟨m, hm⟩ : ∃ m, m = (i + j) / 2 := ⟨_, rfl⟩
    rw [← hm] at e1
    rw [e1]
    repeat refine ⟨by omega, ?_⟩
    have hmx : m < xs.length := by omega
    refine (hf m hmx _).to ?_
    simp only [push_cast, Nat.reduceAdd, Nat.reduceSub, Nat.reduceMul, Nat.reduceLT, Nat.reduceLeDiff, Nat.reduceEqDiff, Int.reduceToNat, ↓reduceIte]
    refine cI (fun hc => ?_) (fun hc => ?_)
    · repeat' first | refine ⟨by omega, ?_⟩ | refine cI (fun _ => ?_) (fun _ => ?_)
      exact loopW_n (m + 1, j) ⟨by simp only; omega, by simp only; omega, fun k hk hkm => hmono k m hk hmx (by simp only at hkm; omega) hc, hi4⟩ (by simp only; omega) (by simp only [push_cast, Nat.reduceAdd, Nat.reduceSub, Nat.reduceMul, Nat.reduceLT, Nat.reduceLeDiff, Nat.reduceEqDiff, Int.reduceToNat, ↓reduceIte, hsc])
    · repeat' first | refine ⟨by omega, ?_⟩ | refine cI (fun _ => ?_) (fun _ => ?_)
      exact loopW_n (i, m) ⟨by simp only; omega, by simp only; omega, hi3, fun k hk hmk hneg => absurd (hmono m k hmx hk hmk hneg) hc⟩ (by simp only; omega) (by simp only [push_cast, Nat.reduceAdd, Nat.reduceSub, Nat.reduceMul, Nat.reduceLT, Nat.reduceLeDiff, Nat.reduceEqDiff, Int.reduceToNat, ↓reduceIte, hsc])
  · have hall : ∀ k (hk : k < xs.length), i ≤ k → ¬ c xs[k] < 0 := fun k hk hik => hi4 k hk (by omega)
    refine cI (fun hl => ?_) (fun hl => ?_)
    · have hil : i < xs.length := by omega
      repeat refine ⟨by omega, ?_⟩
      refine (hf i hil _).to ?_
      simp only [push_cast, Nat.reduceAdd, Nat.reduceSub, Nat.reduceMul, Nat.reduceLT, Nat.reduceLeDiff, Nat.reduceEqDiff, Int.reduceToNat, ↓reduceIte]
      refine ⟨i, by omega, hi3, hall, rfl, ?_⟩
      simp [hil]
    · refine ⟨i, by omega, hi3, hall, rfl, ?_⟩
      have hil : ¬ i < xs.length := by omega
      simp [hil]
def zeroR : Rank := ⟨[], 0, 0⟩
def ofP (l : List Rank) (v : List UInt8) : Rank := (l.find? fun x => decide (x.name = v)).getD zeroR
def SortedR (l : List Rank) : Prop := l.Pairwise fun x y => Lib.compareBytes x.name y.name < 0
theorem find_search (l : List Rank) (hs : SortedR l) (v : List UInt8) (i : Nat) (h1 : ∀ j (hj : j < l.length), j < i → Lib.compareBytes l[j].name v < 0) (h2 : ∀ j (hj : j < l.length), i ≤ j → ¬ Lib.compareBytes l[j].name v < 0) :
    (∀ h : i < l.length, Lib.compareBytes l[i].name v = 0 → ofP l v = l[i]) ∧ ((¬ ∃ h : i < l.length, Lib.compareBytes l[i].name v = 0) → ofP l v = zeroR) := by
  constructor
  · intro h h0
    have hn := (compareBytes_eq _ _).1 h0
    have : l.find? (fun x => decide (x.name = v)) = some l[i] := by
      rw [List.find?_eq_some_iff_getElem]
      refine ⟨by simpa using hn, i, h, rfl, fun j hj => ?_⟩
      have := h1 j (by omega) hj
      simp only [decide_eq_true_eq, Bool.not_eq_true', decide_eq_false_iff_not]
      intro e; rw [(compareBytes_eq _ _).2 e] at this; omega
    simp [ofP, this]
  · intro hno
    have : l.find? (fun x => decide (x.name = v)) = none := by
      rw [List.find?_eq_none]
      intro x hx
      obtain ⟨j, hj, rfl⟩ := List.getElem_of_mem hx
      simp only [decide_eq_true_eq]
      intro e
      have e0 := (compareBytes_eq _ _).2 e
      rcases Nat.lt_or_ge j i with h | h
      · have := h1 j hj h; omega
      · rcases Nat.eq_or_lt_of_le h with h | h
        · subst h; exact hno ⟨hj, e0⟩
        · have hlt := (List.pairwise_iff_getElem.1 hs) i j (by omega) hj h
          rw [e] at hlt
          exact h2 i (by omega) (Nat.le_refl _) hlt
    simp [ofP, this]
theorem of_ac (l : List Rank) (hs : SortedR l) (v : List UInt8) (hlen : l.length < 1099511627776) (H : List AObj) : ACall Tryz.prog 48 [.sl .none (encL encR l), .str v] H (fun r H' => r = encR (ofP l v) ∧ H' = H) := by
  refine ACall_V (H.length) 18 [.cell 4 59] Tryz.func48 rfl rfl rfl ?_
  simp only [push_cast, Nat.reduceAdd, Nat.reduceSub, Nat.reduceMul, Nat.reduceLT, Nat.reduceLeDiff, Nat.reduceEqDiff, Int.reduceToNat, ↓reduceIte]
  refine (searchR_ac l v 83 [] (fun b => Lib.compareBytes b.name v) _ hlen ok83 (by simp [ScopedL]) (fun i j hi hj hij hc => ?_) (fun i h X => ofC_ac _ v _)).mono ?_
  · rcases Nat.lt_or_eq_of_le hij with h | h
    · exact cb_trans _ _ _ ((List.pairwise_iff_getElem.1 hs) i j hi hj h) hc
    · subst h; exact hc
  rintro r H' ⟨i, hi, h1, h2, rfl, rfl⟩
  obtain ⟨hf1, hf2⟩ := find_search l hs v i h1 h2
  by_cases hx : ∃ h : i < l.length, Lib.compareBytes l[i].name v = 0
  · obtain ⟨hil, he⟩ := hx
    have hd : decide (∃ h : i < l.length, Lib.compareBytes l[i].name v = 0) = true := by rw [decide_eq_true_eq]; exact ⟨hil, he⟩
    rw [hf1 hil he]
    simp only [push_cast, Nat.reduceAdd, Nat.reduceSub, Nat.reduceMul, Nat.reduceLT, Nat.reduceLeDiff, Nat.reduceEqDiff, Int.reduceToNat, ↓reduceIte, hd]
    repeat' first | refine ⟨by omega, ?_⟩ | refine cI (fun _ => ?_) (fun _ => ?_)
    simp only [push_cast, Nat.reduceAdd, Nat.reduceSub, Nat.reduceMul, Nat.reduceLT, Nat.reduceLeDiff, Nat.reduceEqDiff, Int.reduceToNat, ↓reduceIte]
  · have hd : decide (∃ h : i < l.length, Lib.compareBytes l[i].name v = 0) = false := by rw [decide_eq_false_iff_not]; exact hx
    rw [hf2 hx]
    simp only [push_cast, Nat.reduceAdd, Nat.reduceSub, Nat.reduceMul, Nat.reduceLT, Nat.reduceLeDiff, Nat.reduceEqDiff, Int.reduceToNat, ↓reduceIte, hd]
    simp [zeroR]
def weightP (l : List Rank) (unit : Int) : Term → Int
  | .mk n v xs => if v then unit else (ofP l n).weight + (xs.map (weightP l unit)).sum
theorem weightP_mk (l : List Rank) (unit : Int) (n : List UInt8) (v : Bool) (xs : List Term) : weightP l unit (.mk n v xs) = if v then unit else (ofP l n).weight + (xs.map (weightP l unit)).sum := by simp [weightP]
theorem take_sumI {α : Type} (f : α → Int) (xs : List α) (i : Nat) (h : i < xs.length) : ((xs.take (i + 1)).map f).sum = ((xs.take i).map f).sum + f xs[i] := by
  rw [List.take_succ_eq_append_getElem h, List.map_append, List.sum_append]; simp
def SmallR (l : List Rank) (unit : Int) : Prop := (∀ x, x ∈ l → 0 ≤ x.rank ∧ x.rank ≤ 1000 ∧ 0 ≤ x.weight ∧ x.weight ≤ 1000) ∧ 1 ≤ unit ∧ unit ≤ 1000
theorem SmallR.of {l : List Rank} {unit : Int} (h : SmallR l unit) (v : List UInt8) : 0 ≤ (ofP l v).rank ∧ (ofP l v).rank ≤ 1000 ∧ 0 ≤ (ofP l v).weight ∧ (ofP l v).weight ≤ 1000 := by
  unfold ofP
  cases hf : l.find? fun x => decide (x.name = v) with
  | none => simp [zeroR]
  | some x => exact h.1 x (List.mem_of_find?_eq_some hf)
theorem weight_bound {l : List Rank} {unit : Int} (h : SmallR l unit) (t : Term) : 0 ≤ weightP l unit t ∧ weightP l unit t ≤ 1000 * t.size := by
  refine Term.ind (p := fun t => 0 ≤ weightP l unit t ∧ weightP l unit t ≤ 1000 * t.size) (fun n v xs ih => ?_) t
  rw [weightP_mk, Term.size_mk]
  have h2 := h.2
  have h3 := h.of n
  have hs : 0 ≤ (xs.map (weightP l unit)).sum ∧ (xs.map (weightP l unit)).sum ≤ 1000 * ((xs.map Term.size).sum : Nat) := by
    induction xs with
    | nil => simp
    | cons a r ih2 =>
      have h4 := ih a (by simp)
      have h5 := ih2 (fun x hx => ih x (by simp [hx]))
      simp only [List.map_cons, List.sum_cons]; omega
  split <;> omega
theorem weights_bound {l : List Rank} {unit : Int} (h : SmallR l unit) : ∀ xs : List Term, 0 ≤ (xs.map (weightP l unit)).sum ∧ (xs.map (weightP l unit)).sum ≤ 1000 * ((xs.map Term.size).sum : Nat)
  | [] => by simp
  | a :: r => by
    have h4 := weight_bound h a
    have h5 := weights_bound h r
    simp only [List.map_cons, List.sum_cons]; omega
theorem sumW_ac (l : List Rank) (unit : Int) (hs : SortedR l) (hr : SmallR l unit) (hlen : l.length < 1099511627776) (t : Term) : t.bulk ≤ 1099511627775 → ∀ H, ACall Tryz.prog 37 [.sl .none (encL encR l), .int .i64 unit, encT t] H (fun r H' => r = .int .i64 (weightP l unit t) ∧ H' = H) := by
  induction t using Term.ind with | _ n v xs ih
  intro hb H
  have hsz := (Term.mk n v xs).size_le
  have hl2 := Term.len_le (n := n) (v := v) (xs := xs)
  have ho := hr.of n
  have hru := hr.2
  rw [Term.size_mk] at hsz
  rw [weightP_mk]
  have hbd : ∀ i, i ≤ xs.length → 0 ≤ ((xs.take i).map (weightP l unit)).sum ∧ ((xs.take i).map (weightP l unit)).sum ≤ 1099511627775000 := by
    intro i hi
    have h1 := weights_bound hr (xs.take i)
    have h2 := take_sum_le Term.size xs i
    omega
  refine ACall_V (H.length) 30 [.tmp 6] Tryz.func37 rfl rfl rfl ?_
  simp only [push_cast, Nat.reduceAdd, Nat.reduceSub, Nat.reduceMul, Nat.reduceLT, Nat.reduceLeDiff, Nat.reduceEqDiff, Int.reduceToNat, ↓reduceIte, Term.name, Term.var, Term.args]
  cases v with
  | true =>
    simp only [push_cast, Nat.reduceAdd, Nat.reduceSub, Nat.reduceMul, Nat.reduceLT, Nat.reduceLeDiff, Nat.reduceEqDiff, Int.reduceToNat, ↓reduceIte, if_true]
  | false =>
    simp only [push_cast, Nat.reduceAdd, Nat.reduceSub, Nat.reduceMul, Nat.reduceLT, Nat.reduceLeDiff, Nat.reduceEqDiff, Int.reduceToNat, ↓reduceIte, Bool.false_eq_true, if_false]
    refine (of_ac l hs n hlen _).to ?_
    simp only [push_cast, Nat.reduceAdd, Nat.reduceSub, Nat.reduceMul, Nat.reduceLT, Nat.reduceLeDiff, Nat.reduceEqDiff, Int.reduceToNat, ↓reduceIte]
    refine AW_loopW (maskG 33 [0, 0, 5, 11, 0, 0]) (fun (i : Nat) => [(21, .int .i64 i), (7, .int .i64 ((ofP l n).weight + ((xs.take i).map (weightP l unit)).sum))]) (fun i => H ++ [.cells [.str n, .bool false, .sl .none (encTs xs)]]) (fun i => i ≤ xs.length) (fun i => xs.length - i) 0 (Nat.zero_le _) (by simp only [push_cast, Nat.reduceAdd, Nat.reduceSub, Nat.reduceMul, Nat.reduceLT, Nat.reduceLeDiff, Nat.reduceEqDiff, Int.reduceToNat, ↓reduceIte, List.take_zero, List.map_nil, List.sum_nil, Int.add_zero]) (fun i hi => ?_)
    simp only [push_cast, Nat.reduceAdd, Nat.reduceSub, Nat.reduceMul, Nat.reduceLT, Nat.reduceLeDiff, Nat.reduceEqDiff, Int.reduceToNat, ↓reduceIte]
    refine cI (fun h => ?_) (fun h => ?_)
    · have hil : i < xs.length := by omega
      repeat refine ⟨by omega, ?_⟩
      have hmem := List.getElem_mem hil
      have hbx := Term.arg_le (n := n) (v := false) hmem
      have e := take_sumI (weightP l unit) xs i hil
      have hb1 := hbd i (by omega)
      have hb2 := hbd (i + 1) (by omega)
      refine (ih _ hmem (by omega) _).to ?_
      simp only [push_cast, Nat.reduceAdd, Nat.reduceSub, Nat.reduceMul, Nat.reduceLT, Nat.reduceLeDiff, Nat.reduceEqDiff, Int.reduceToNat, ↓reduceIte]
      repeat' first | refine ⟨by omega, ?_⟩ | refine cI (fun _ => ?_) (fun _ => ?_)
      exact loopW_n (i + 1) (by omega) (by omega) (by rw [e, ← Int.add_assoc]; simp only [push_cast, Nat.reduceAdd, Nat.reduceSub, Nat.reduceMul, Nat.reduceLT, Nat.reduceLeDiff, Nat.reduceEqDiff, Int.reduceToNat, ↓reduceIte])
    · have e : xs.take i = xs := List.take_of_length_le (by omega)
      rw [e]
end Ab
set_option maxRecDepth 10000
namespace Ab
open Go Go.Proofs Go.Proofs.YtohdojbfkcodjaaGreat
section
variable {H : Type}
theorem kdRank : kindOf Tryz.prog 59 = .struct [9, 3, 3] := by kernel_rfl
theorem kdRanks : kindOf Tryz.prog 22 = .slice 59 := by kernel_rfl
theorem agRank : aggK Tryz.prog 59 = true := by unfold aggK; rw [kdRank]
theorem kdOrder : kindOf Tryz.prog 24 = .struct [22, 3] := by kernel_rfl
theorem rank_form (n : Nat) (d : DataW H) (avs : List AV) (h : toAV Tryz.prog n 59 d = some avs) : ∃ x : Rank, .agg avs = encR x ∧ x.name.length + 1 ≤ Rows.uptoBulk d := by
  obtain ⟨m, parts, avss, rfl, rfl, hl, hm, rfl⟩ := toAV_struct kdRank h
  match parts, hl, hm with
  | [d1, d2, d3], _, hm =>
    obtain ⟨h1, h2⟩ := mapM_get hm
    match avss, h1, h2 with
    | [a1, a2, a3], _, h2 =>
      obtain ⟨bs, rfl, rfl⟩ := toAV_str kdStr (h2 0 (by simp) (by simp))
      obtain ⟨i, rfl, rfl⟩ := toAV_int kdInt (h2 1 (by simp) (by simp))
      obtain ⟨j, rfl, rfl⟩ := toAV_int kdInt (h2 2 (by simp) (by simp))
      exact ⟨⟨bs, i, j⟩, by simp, by simp only [Rows.uptoBulk, Rows.uptoBulkAll]; omega⟩
theorem order_form (n : Nat) (d : DataW H) (avs : List AV) (h : toAV Tryz.prog n 24 d = some avs) :
    ∃ (l : List Rank) (unit : Int), AV.agg avs = .agg [.sl .none (encL encR l), .int .i64 unit] ∧ l.length ≤ Rows.uptoBulk d ∧ ∀ x, x ∈ l → x.name.length ≤ Rows.uptoBulk d := by
  obtain ⟨m, parts, avss, rfl, rfl, hl, hm, rfl⟩ := toAV_struct kdOrder h
  match parts, hl, hm with
  | [d1, d2], _, hm =>
    obtain ⟨h1, h2⟩ := mapM_get hm
    match avss, h1, h2 with
    | [a1, a2], _, h2 =>
      obtain ⟨i, rfl, rfl⟩ := toAV_int kdInt (h2 1 (by simp) (by simp))
      obtain ⟨xs, ds, e3, hw, _, hd⟩ := row_form (fun s : Rank => encR s) (fun x : Rank => x.name.length + 1) Rows.uptoBulk kdRanks (n := m) (fun k d avs _ he => by
        obtain ⟨t, x1, x2⟩ := rank_form k d avs he
        exact ⟨t, by rw [agRank]; exact x1, x2⟩) (h2 0 (by simp) (by simp))
      simp only [List.getElem_cons_zero] at e3 hd
      subst e3
      have hb := bulk_row (d := d1) hd
      have := len_sum (fun x : Rank => x.name.length) xs (k := Rows.uptoBulk d1) (by omega)
      refine ⟨xs, i, rfl, ?_, fun x hx => ?_⟩
      · simp only [Rows.uptoBulk, Rows.uptoBulkAll]; omega
      · have := this.2 x hx; simp only [Rows.uptoBulk, Rows.uptoBulkAll]; omega
end
end Ab
set_option maxRecDepth 10000
namespace Ab
open Go Go.Proofs
theorem amap_eraseIdx {κ α : Type} (ak : κ → AV) (av : α → AV) (m : List (κ × α)) (i : Nat) : (amap ak av m).eraseIdx i = amap ak av (m.eraseIdx i) := by
  unfold amap
  induction m generalizing i with
  | nil => simp
  | cons a r ih => cases i <;> simp [ih]
def encKV (p : List UInt8 × Int) : AV × AV := (.str p.1, .int .i64 p.2)
theorem oscC (n v : Nat) (m : List (List UInt8 × Int)) : OScoped n (.map v (amap AV.str (AV.int .i64) m)) = True := eq_true (scC n m v)
def lK (o : Option (List UInt8 × Int)) : Option (AV × AV) := o.map encKV
theorem osc_ic (n m ver : Nat) (ks : List (List UInt8 × Int)) (o : Option (List UInt8 × Int)) (h : m < n) : OScoped n (.iter m ver (amap AV.str (AV.int .i64) ks) (lK o)) = True := by
  refine eq_true ⟨h, fun e he => ?_⟩
  rcases he with he | he
  · simp only [amap, List.mem_map] at he; obtain ⟨p, _, rfl⟩ := he; simp [Scoped]
  · cases o with
    | none => cases he
    | some p => simp only [lK, Option.map_some, Option.some.injEq] at he; subst he; simp [encKV, Scoped]
theorem osc_icn (n m ver : Nat) (ks : List (List UInt8 × Int)) (h : m < n) : OScoped n (.iter m ver (amap AV.str (AV.int .i64) ks) none) = True := osc_ic n m ver ks none h
theorem osc_ics (n m ver : Nat) (ks : List (List UInt8 × Int)) (p : List UInt8 × Int) (h : m < n) : OScoped n (.iter m ver (amap AV.str (AV.int .i64) ks) (some (.str p.1, .int .i64 p.2))) = True := osc_ic n m ver ks (some p) h
theorem lK_n : lK none = none := (rfl)
theorem lK_s (p : List UInt8 × Int) : lK (some p) = some (AV.str p.1, AV.int .i64 p.2) := (rfl)
attribute [push_cast] oscC osc_ic osc_icn osc_ics
def coversP (s t : Term) : Bool := (countM (walkT t [])).all fun p => decide (p.2 ≤ (aget (countM (walkT s [])) p.1).getD 0)
def kboC (l : List Rank) (unit : Int) (s t : Term) (rest : Bool) : Bool :=
  if coversP s t = false then false
  else if weightP l unit s ≠ weightP l unit t ∨ s.var = true then decide (weightP l unit t < weightP l unit s)
  else if t.var = true then true
  else if s.name ≠ t.name ∨ s.args.length ≠ t.args.length then decide ((ofP l t.name).rank < (ofP l s.name).rank)
  else rest
def kboTs (l : List Rank) (unit : Int) : List Term → List Term → Bool
  | .mk n v xs :: r, t :: r' => if .mk n v xs = t then kboTs l unit r r' else kboC l unit (.mk n v xs) t (kboTs l unit xs t.args)
  | _, _ => false
def aboveP (l : List Rank) (unit : Int) (s t : Term) : Bool := kboC l unit s t (kboTs l unit s.args t.args)
theorem kboTs_cons (l : List Rank) (unit : Int) (x y : Term) (r r' : List Term) : kboTs l unit (x :: r) (y :: r') = if x = y then kboTs l unit r r' else aboveP l unit x y := by
  cases x with | mk n v xs => simp only [kboTs, aboveP, Term.args]
theorem kboTs_nil (l : List Rank) (unit : Int) (ys : List Term) : kboTs l unit [] ys = false := by cases ys <;> simp [kboTs]
theorem kboTs_drop (l : List Rank) (unit : Int) : ∀ (xs ys : List Term) (i : Nat), xs.take i = ys.take i → kboTs l unit xs ys = kboTs l unit (xs.drop i) (ys.drop i)
  | xs, ys, 0, _ => rfl
  | [], [], _ + 1, _ => rfl
  | [], _ :: _, _ + 1, h => by simp at h
  | _ :: _, [], _ + 1, h => by simp at h
  | x :: xs, y :: ys, i + 1, h => by
    simp only [List.take_succ_cons, List.cons.injEq] at h
    rw [kboTs_cons, if_pos h.1, List.drop_succ_cons, List.drop_succ_cons]; exact kboTs_drop l unit xs ys i h.2
set_option maxHeartbeats 4000000 in
theorem above_ac (l : List Rank) (unit : Int) (hs : SortedR l) (hr : SmallR l unit) (hlen : l.length < 1099511627776) (s : Term) : ∀ t : Term, s.bulk ≤ 1099511627775 → t.bulk ≤ 1099511627775 → ∀ H,
    ACall Tryz.prog 21 [.sl .none (encL encR l), .int .i64 unit, encT s, encT t] H (fun r H' => r = .bool (aboveP l unit s t) ∧ H' = H) := by
  induction s using Term.ind with | _ n v xs ih
  intro t hb hb2 H
  obtain ⟨m, u, ys⟩ := t
  have hl1 := Term.len_le (n := n) (v := v) (xs := xs)
  have hl2 := Term.len_le (n := m) (v := u) (xs := ys)
  have hea : aboveP l unit (.mk n v xs) (.mk m u ys) = kboC l unit (.mk n v xs) (.mk m u ys) (kboTs l unit xs ys) := rfl
  have hcv : coversP (.mk n v xs) (.mk m u ys) = (countM (walkT (.mk m u ys) [])).all fun p => decide (p.2 ≤ (aget (countM (walkT (.mk n v xs) [])) p.1).getD 0) := rfl
  obtain ⟨S, hS⟩ : ∃ S, S = countM (walkT (.mk n v xs) []) := ⟨_, rfl⟩
  obtain ⟨T, hT⟩ : ∃ T, T = countM (walkT (.mk m u ys) []) := ⟨_, rfl⟩
  obtain ⟨R, hR⟩ : ∃ R, R = aboveP l unit (.mk n v xs) (.mk m u ys) := ⟨_, rfl⟩
  rw [← hR]
  rw [hea] at hR
  unfold kboC at hR
  refine ACall_V (H.length) 105 [.tmp 8] Tryz.func21 rfl rfl rfl ?_
  simp only [push_cast, Nat.reduceAdd, Nat.reduceSub, Nat.reduceMul, Nat.reduceLT, Nat.reduceLeDiff, Nat.reduceEqDiff, Int.reduceToNat, ↓reduceIte, Term.name, Term.var, Term.args]
  refine (counts_ac (.mk n v xs) hb _).mono ?_
  rintro r H' ⟨rfl, ver1, rfl⟩
  simp only [push_cast, Nat.reduceAdd, Nat.reduceSub, Nat.reduceMul, Nat.reduceLT, Nat.reduceLeDiff, Nat.reduceEqDiff, Int.reduceToNat, ↓reduceIte, Term.name, Term.var, Term.args]
  refine (counts_ac (.mk m u ys) hb2 _).mono ?_
  rintro r H' ⟨rfl, ver2, rfl⟩
  simp only [push_cast, Nat.reduceAdd, Nat.reduceSub, Nat.reduceMul, Nat.reduceLT, Nat.reduceLeDiff, Nat.reduceEqDiff, Int.reduceToNat, ↓reduceIte, Term.name, Term.var, Term.args]
  rw [← hS, ← hT]
  refine AOp_range_map (H.length + 5) ver2 (encC T) rfl (by exact (agetN _ _ 5).trans rfl) un83 ?_
  simp only [push_cast, Nat.reduceAdd, Nat.reduceSub, Nat.reduceMul, Nat.reduceLT, Nat.reduceLeDiff, Nat.reduceEqDiff, Int.reduceToNat, ↓reduceIte]
  refine AW_loopW (maskG 109 [0, 0, 4, 0, 1, 9]) (fun (_ : List (List UInt8 × Int) × Option (List UInt8 × Int)) => []) (fun q => H ++ [.cells [.str n, .bool v, .sl .none (encTs xs)], .cells [.str m, .bool u, .sl .none (encTs ys)], .cells [.str n, .bool v, .sl .none (encTs xs)], .map ver1 (encC S), .cells [.str m, .bool u, .sl .none (encTs ys)], .map ver2 (encC T), .iter (H.length + 5) ver2 (encC q.1) (lK q.2)]) (fun q => (∀ p, p ∈ T → p ∈ q.1 ∨ p.2 ≤ (aget S p.1).getD 0) ∧ ∀ p, p ∈ q.1 → p ∈ T) (fun q => q.1.length) (T, none) ⟨fun p hp => .inl hp, fun p hp => hp⟩ (by simp only [push_cast, Nat.reduceAdd, Nat.reduceSub, Nat.reduceMul, Nat.reduceLT, Nat.reduceLeDiff, Nat.reduceEqDiff, Int.reduceToNat, ↓reduceIte, lK_n]) (fun q hq => ?_)
  obtain ⟨left, last⟩ := q
  obtain ⟨hq1, hq2⟩ := hq
  simp only at hq1 hq2
  simp only [push_cast, Nat.reduceAdd, Nat.reduceSub, Nat.reduceMul, Nat.reduceLT, Nat.reduceLeDiff, Nat.reduceEqDiff, Int.reduceToNat, ↓reduceIte]
  refine AOp_next_map (H.length + 6) (H.length + 5) ver2 (encC T) (encC left) (lK last) rfl (by exact (agetN _ _ 6).trans rfl) (by exact (agetN _ _ 5).trans rfl) (fun he => ?_) (fun j hj => ?_)
  · have hl0 : left = [] := by cases left with | nil => rfl | cons a l => simp [amap] at he
    have hcov : coversP (.mk n v xs) (.mk m u ys) = true := by
      rw [hcv, ← hT, ← hS, List.all_eq_true]
      intro p hp
      rcases hq1 p hp with h | h
      · rw [hl0] at h; cases h
      · simpa using h
    rw [if_neg (by rw [hcov]; simp)] at hR
    have hw1 := fun X => sumW_ac l unit hs hr hlen (.mk n v xs) hb X
    have hw2 := fun X => sumW_ac l unit hs hr hlen (.mk m u ys) hb2 X
    simp only [push_cast, Nat.reduceAdd, Nat.reduceSub, Nat.reduceMul, Nat.reduceLT, Nat.reduceLeDiff, Nat.reduceEqDiff, Int.reduceToNat, ↓reduceIte]
    apply AW_drawE [some 30, some 31, some 32, some 33, some 34, some 35, some 36, some 37, some 12, some 13] [([], _)] [none, none, none, none, none, none, none, none, none, none] 0 [(0, [], [0]), (1, [], [1]), (2, [], [6]), (3, [], [30, 0, 0]), (4, [], [0]), (5, [], [1]), (6, [], [7]), (7, [], [34, 0, 0]), (8, [], [33]), (9, [], [37])] [_, _, _, _, _, _, _, _, _, _]
    case' hm => exact dr
    case' hn => rfl
    case' hok => rfl
    case' hlen => rfl
    case' hd => rfl
    case' h0 => rfl
    case' hstep =>
     simp only [DAllG, push_cast, Option.isSome_some, Option.isSome_none]
     repeat' apply And.intro
     all_goals (apply DOne_V; simp only [push_cast, Nat.reduceAdd, Nat.reduceSub, Nat.reduceMul, Nat.reduceLT, Nat.reduceLeDiff, Nat.reduceEqDiff, Int.reduceToNat, ↓reduceIte] <;> first | exact rfl | omega | exact ⟨rfl, rfl⟩ | exact trivial | exact ⟨by omega, rfl⟩ | exact ⟨by omega, by omega, rfl⟩ | exact ⟨by omega, rfl, rfl⟩ | exact ⟨by omega, by omega, rfl, rfl⟩ | exact (hw1 _).to ⟨rfl, rfl⟩ | exact (hw2 _).to ⟨rfl, rfl⟩)
    case' hQ => skip
    simp only [push_cast, Nat.reduceAdd, Nat.reduceSub, Nat.reduceMul, Nat.reduceLT, Nat.reduceLeDiff, Nat.reduceEqDiff, Int.reduceToNat, ↓reduceIte]
    refine cI (fun hw => ?_) (fun hw => ?_)
    · refine cI (fun hv => ?_) (fun hv => ?_)
      · rw [if_pos (.inr hv)] at hR
        exact hR.symm
      · rw [if_neg (by rintro (h | h); exact h hw; exact hv h)] at hR
        refine cI (fun hu => ?_) (fun hu => ?_)
        · rw [if_pos (show (Term.mk m u ys).var = true from hu)] at hR
          exact hR.symm
        · rw [if_neg (show ¬ (Term.mk m u ys).var = true from hu)] at hR
          have ho1 := hr.of n
          have ho2 := hr.of m
          have hof1 := fun X => of_ac l hs n hlen X
          have hof2 := fun X => of_ac l hs m hlen X
          refine cI (fun hn => ?_) (fun hn => ?_)
          · refine cI (fun hll => ?_) (fun hll => ?_)
            · rw [if_neg (by rintro (h | h); exact h hn; exact h (show xs.length = ys.length by omega))] at hR
              have hll' : xs.length = ys.length := by omega
              refine AW_loopW (maskG 109 [0, 0, 4, 0, 71, 0]) (fun (i : Nat) => [(80, .int .i64 i)]) (fun i => H ++ [.cells [.str n, .bool v, .sl .none (encTs xs)], .cells [.str m, .bool u, .sl .none (encTs ys)], .cells [.str n, .bool v, .sl .none (encTs xs)], .map ver1 (encC S), .cells [.str m, .bool u, .sl .none (encTs ys)], .map ver2 (encC T), .iter (H.length + 5) ver2 (encC left) (lK last)]) (fun i => i ≤ xs.length ∧ xs.take i = ys.take i) (fun i => xs.length - i) 0 ⟨Nat.zero_le _, by simp⟩ (by simp only [push_cast, Nat.reduceAdd, Nat.reduceSub, Nat.reduceMul, Nat.reduceLT, Nat.reduceLeDiff, Nat.reduceEqDiff, Int.reduceToNat, ↓reduceIte]) (fun i hi => ?_)
              obtain ⟨hi1, hi2⟩ := hi
              simp only [push_cast, Nat.reduceAdd, Nat.reduceSub, Nat.reduceMul, Nat.reduceLT, Nat.reduceLeDiff, Nat.reduceEqDiff, Int.reduceToNat, ↓reduceIte]
              refine cI (fun h => ?_) (fun h => ?_)
              · have hil : i < xs.length := by omega
                have hiy : i < ys.length := by omega
                have b1 := Term.arg_le (n := n) (v := v) (List.getElem_mem hil)
                have b2 := Term.arg_le (n := m) (v := u) (List.getElem_mem hiy)
                have heq := fun X => equal_ac (xs[i]'hil) (ys[i]'hiy) (by omega) (by omega) X
                have hab := fun X => ih (xs[i]'hil) (List.getElem_mem hil) (ys[i]'hiy) (by omega) (by omega) X
                have hd := kboTs_drop l unit xs ys i hi2
                rw [List.drop_eq_getElem_cons hil, List.drop_eq_getElem_cons hiy, kboTs_cons] at hd
                apply AW_drawE [some 83, some 84, some 85, some 86, some 87, some 88, some 89, some 90, some 91, some 92, some 93, some 94] [([], _)] [none, none, none, none, none, none, none, none, none, none, none, none] 0 [(0, [], [6]), (1, [], [83]), (2, [], [14]), (3, [], [84, 0]), (4, [], [86]), (5, [], [7]), (6, [], [88]), (7, [], [14]), (8, [], [89, 0]), (9, [], [91]), (10, [], [87, 4]), (11, [], [93])] [_, _, _, _, _, _, _, _, _, _, _, _]
                case' hm => exact dr
                case' hn => rfl
                case' hok => rfl
                case' hlen => rfl
                case' hd => rfl
                case' h0 => rfl
                case' hstep =>
                 simp only [DAllG, push_cast, Option.isSome_some, Option.isSome_none]
                 repeat' apply And.intro
                 all_goals (apply DOne_V; simp only [push_cast, Nat.reduceAdd, Nat.reduceSub, Nat.reduceMul, Nat.reduceLT, Nat.reduceLeDiff, Nat.reduceEqDiff, Int.reduceToNat, ↓reduceIte] <;> first | exact rfl | omega | exact ⟨rfl, rfl⟩ | exact trivial | exact ⟨by omega, rfl⟩ | exact ⟨by omega, by omega, rfl⟩ | exact ⟨by omega, rfl, rfl⟩ | exact ⟨by omega, by omega, rfl, rfl⟩ | exact ⟨by omega, by omega, trivial⟩ | (refine (heq _).to ?_; exact ⟨rfl, rfl⟩))
                case' hQ => skip
                simp only [push_cast, Nat.reduceAdd, Nat.reduceSub, Nat.reduceMul, Nat.reduceLT, Nat.reduceLeDiff, Nat.reduceEqDiff, Int.reduceToNat, ↓reduceIte]
                refine cI (fun he => ?_) (fun he => ?_)
                · repeat' first | refine ⟨by omega, ?_⟩ | refine cI (fun _ => ?_) (fun _ => ?_)
                  exact loopW_n (i + 1) ⟨by omega, by rw [List.take_succ_eq_append_getElem hil, List.take_succ_eq_append_getElem hiy, hi2, he]⟩ (by omega) (by simp only [push_cast, Nat.reduceAdd, Nat.reduceSub, Nat.reduceMul, Nat.reduceLT, Nat.reduceLeDiff, Nat.reduceEqDiff, Int.reduceToNat, ↓reduceIte])
                · rw [if_neg he] at hd
                  apply AW_drawE [some 95, some 96, some 97, some 98, some 99, some 100, some 101, some 102, some 103, some 104, some 105, some 106, some 107, some 8] [([], _)] [none, none, none, none, none, none, none, none, none, none, none, none, none, none] 0 [(0, [], [0]), (1, [], [1]), (2, [], [6]), (3, [], [97]), (4, [], [14]), (5, [], [98, 0]), (6, [], [100]), (7, [], [7]), (8, [], [102]), (9, [], [14]), (10, [], [103, 0]), (11, [], [105]), (12, [], [95, 0, 4, 4]), (13, [], [107])] [_, _, _, _, _, _, _, _, _, _, _, _, _, _]
                  case' hm => exact dr
                  case' hn => rfl
                  case' hok => rfl
                  case' hlen => rfl
                  case' hd => rfl
                  case' h0 => rfl
                  case' hstep =>
                   simp only [DAllG, push_cast, Option.isSome_some, Option.isSome_none]
                   repeat' apply And.intro
                   all_goals (apply DOne_V; simp only [push_cast, Nat.reduceAdd, Nat.reduceSub, Nat.reduceMul, Nat.reduceLT, Nat.reduceLeDiff, Nat.reduceEqDiff, Int.reduceToNat, ↓reduceIte] <;> first | exact rfl | omega | exact ⟨rfl, rfl⟩ | exact trivial | exact ⟨by omega, rfl⟩ | exact ⟨by omega, by omega, rfl⟩ | exact ⟨by omega, rfl, rfl⟩ | exact ⟨by omega, by omega, rfl, rfl⟩ | exact ⟨by omega, by omega, trivial⟩ | (refine (hab _).to ?_; exact ⟨rfl, rfl⟩))
                  case' hQ => skip
                  simp only [push_cast, Nat.reduceAdd, Nat.reduceSub, Nat.reduceMul, Nat.reduceLT, Nat.reduceLeDiff, Nat.reduceEqDiff, Int.reduceToNat, ↓reduceIte]
                  rw [hR, hd]
              · have hd := kboTs_drop l unit xs ys i hi2
                rw [List.drop_of_length_le (show xs.length ≤ i by omega), kboTs_nil] at hd
                rw [hR, hd]
            · rw [if_pos (.inr (show xs.length ≠ ys.length by omega))] at hR
              apply AW_drawE [some 66, some 67, some 68, some 69, some 70, some 71, some 72, some 73, some 74, some 75, some 76, some 8] [([], _)] [none, none, none, none, none, none, none, none, none, none, none, none] 0 [(0, [], [0]), (1, [], [6]), (2, [], [67]), (3, [], [66, 1]), (4, [], [69]), (5, [], [0]), (6, [], [7]), (7, [], [72]), (8, [], [71, 1]), (9, [], [74]), (10, [], [70, 4]), (11, [], [76])] [_, _, _, _, _, _, _, _, _, _, _, _]
              case' hm => exact dr
              case' hn => rfl
              case' hok => rfl
              case' hlen => rfl
              case' hd => rfl
              case' h0 => rfl
              case' hstep =>
               simp only [DAllG, push_cast, Option.isSome_some, Option.isSome_none]
               repeat' apply And.intro
               all_goals (apply DOne_V; simp only [push_cast, Nat.reduceAdd, Nat.reduceSub, Nat.reduceMul, Nat.reduceLT, Nat.reduceLeDiff, Nat.reduceEqDiff, Int.reduceToNat, ↓reduceIte] <;> first | exact rfl | omega | exact ⟨rfl, rfl⟩ | exact trivial | exact ⟨by omega, rfl⟩ | exact ⟨by omega, by omega, rfl⟩ | exact ⟨by omega, rfl, rfl⟩ | exact ⟨by omega, by omega, rfl, rfl⟩ | exact (hof1 _).to ⟨rfl, rfl⟩ | exact (hof2 _).to ⟨rfl, rfl⟩)
              case' hQ => skip
              simp only [push_cast, Nat.reduceAdd, Nat.reduceSub, Nat.reduceMul, Nat.reduceLT, Nat.reduceLeDiff, Nat.reduceEqDiff, Int.reduceToNat, ↓reduceIte]
              exact hR.symm
          · rw [if_pos (.inl hn)] at hR
            apply AW_drawE [some 66, some 67, some 68, some 69, some 70, some 71, some 72, some 73, some 74, some 75, some 76, some 8] [([], _)] [none, none, none, none, none, none, none, none, none, none, none, none] 0 [(0, [], [0]), (1, [], [6]), (2, [], [67]), (3, [], [66, 1]), (4, [], [69]), (5, [], [0]), (6, [], [7]), (7, [], [72]), (8, [], [71, 1]), (9, [], [74]), (10, [], [70, 4]), (11, [], [76])] [_, _, _, _, _, _, _, _, _, _, _, _]
            case' hm => exact dr
            case' hn => rfl
            case' hok => rfl
            case' hlen => rfl
            case' hd => rfl
            case' h0 => rfl
            case' hstep =>
             simp only [DAllG, push_cast, Option.isSome_some, Option.isSome_none]
             repeat' apply And.intro
             all_goals (apply DOne_V; simp only [push_cast, Nat.reduceAdd, Nat.reduceSub, Nat.reduceMul, Nat.reduceLT, Nat.reduceLeDiff, Nat.reduceEqDiff, Int.reduceToNat, ↓reduceIte] <;> first | exact rfl | omega | exact ⟨rfl, rfl⟩ | exact trivial | exact ⟨by omega, rfl⟩ | exact ⟨by omega, by omega, rfl⟩ | exact ⟨by omega, rfl, rfl⟩ | exact ⟨by omega, by omega, rfl, rfl⟩ | exact (hof1 _).to ⟨rfl, rfl⟩ | exact (hof2 _).to ⟨rfl, rfl⟩)
            case' hQ => skip
            simp only [push_cast, Nat.reduceAdd, Nat.reduceSub, Nat.reduceMul, Nat.reduceLT, Nat.reduceLeDiff, Nat.reduceEqDiff, Int.reduceToNat, ↓reduceIte]
            exact hR.symm
    · rw [if_pos (.inl hw)] at hR
      exact hR.symm
  · have hjl : j < left.length := by simpa [amap] using hj
    have e1 : (encC left)[j] = (.str left[j].1, .int .i64 left[j].2) := by simp [amap]
    have e2 : (encC left).eraseIdx j = encC (left.eraseIdx j) := amap_eraseIdx _ _ _ _
    rw [e1, e2]
    simp only [push_cast, Nat.reduceAdd, Nat.reduceSub, Nat.reduceMul, Nat.reduceLT, Nat.reduceLeDiff, Nat.reduceEqDiff, Int.reduceToNat, ↓reduceIte]
    refine AOp_entry_map (H.length + 6) (H.length + 5) ver2 (encC T) (encC (left.eraseIdx j)) (.str left[j].1, .int .i64 left[j].2) rfl (by exact (agetN _ _ 6).trans rfl) (by exact (agetN _ _ 5).trans rfl) ?_
    simp only [push_cast, Nat.reduceAdd, Nat.reduceSub, Nat.reduceMul, Nat.reduceLT, Nat.reduceLeDiff, Nat.reduceEqDiff, Int.reduceToNat, ↓reduceIte]
    refine AOp_lookup (strKey un9) (AV.int .i64) S (H.length + 3) ver1 left[j].1 (.int .i64 0) rfl (by exact (agetN _ _ 3).trans rfl) rfl un83 (ZeroV_of (.int .i64 0) (by kernel_rfl)) ?_
    rw [show (Option.map (AV.int IntKind.i64) (aget S left[j].1)).getD (.int .i64 0) = .int .i64 ((aget S left[j].1).getD 0) from by cases aget S left[j].1 <;> rfl]
    simp only [push_cast, Nat.reduceAdd, Nat.reduceSub, Nat.reduceMul, Nat.reduceLT, Nat.reduceLeDiff, Nat.reduceEqDiff, Int.reduceToNat, ↓reduceIte]
    refine cI (fun hc => ?_) (fun hc => ?_)
    · have hcf : coversP (.mk n v xs) (.mk m u ys) = false := by
        rw [hcv, ← hT, ← hS]
        rw [← Bool.not_eq_true, List.all_eq_true]
        intro hall
        have h1 := hall left[j] (hq2 _ (List.getElem_mem hjl))
        simp at h1
        omega
      rw [if_pos hcf] at hR
      exact hR.symm
    · refine loopW_n (left.eraseIdx j, some left[j]) ⟨fun p hp => ?_, fun p hp => hq2 p (List.mem_of_mem_eraseIdx hp)⟩ (by simp only [List.length_eraseIdx]; split <;> omega) (by simp only [push_cast, Nat.reduceAdd, Nat.reduceSub, Nat.reduceMul, Nat.reduceLT, Nat.reduceLeDiff, Nat.reduceEqDiff, Int.reduceToNat, ↓reduceIte, lK_s])
      rcases hq1 p hp with h | h
      · obtain ⟨k, hk, rfl⟩ := List.getElem_of_mem h
        by_cases hkx : k = j
        · subst hkx; right; omega
        · left
          rw [List.mem_eraseIdx_iff_getElem]
          exact ⟨k, hk, hkx, rfl⟩
      · exact .inr h
end Ab
set_option maxRecDepth 10000
namespace Ab
open Go Go.Proofs
theorem checkName_ac (x : Rank) (H : List AObj) : ACall Tryz.prog 39 [encR x] H (fun r H' => r = .str x.name ∧ H' = H) := by
  refine ACall_V (H.length) 4 [.tmp 2] Tryz.func39 rfl rfl rfl ?_
  simp only [push_cast, Nat.reduceAdd, Nat.reduceSub, Nat.reduceMul, Nat.reduceLT, Nat.reduceLeDiff, Nat.reduceEqDiff, Int.reduceToNat, ↓reduceIte]
def badP (n : Int) : Bool := decide (n < 0) || decide (1000 < n)
theorem checkBad_ac (n : Int) (H : List AObj) : ACall Tryz.prog 40 [.int .i64 n] H (fun r H' => r = .bool (badP n) ∧ H' = H) := by
  refine ACall_V (H.length) 8 [.tmp 2] Tryz.func40 rfl rfl rfl ?_
  simp only [push_cast, Nat.reduceAdd, Nat.reduceSub, Nat.reduceMul, Nat.reduceLT, Nat.reduceLeDiff, Nat.reduceEqDiff, Int.reduceToNat, ↓reduceIte]
  refine cI (fun h => ?_) (fun h => ?_)
  · have e : badP n = true := by unfold badP; rw [decide_eq_true h]; rfl
    simp only [push_cast, Nat.reduceAdd, Nat.reduceSub, Nat.reduceMul, Nat.reduceLT, Nat.reduceLeDiff, Nat.reduceEqDiff, Int.reduceToNat, ↓reduceIte, e]
  · have e : badP n = decide (1000 < n) := by unfold badP; rw [decide_eq_false h]; rfl
    simp only [push_cast, Nat.reduceAdd, Nat.reduceSub, Nat.reduceMul, Nat.reduceLT, Nat.reduceLeDiff, Nat.reduceEqDiff, Int.reduceToNat, ↓reduceIte, e]
theorem checkRank_ac (x : Rank) (b : Nat) (H : List AObj) (hb : H[b]? = some (.cells [.fn 40 []])) : ACall Tryz.prog 42 [encR x, .ptr b 0] H (fun r H' => r = .bool (badP x.rank || badP x.weight) ∧ H' = H) := by
  refine ACall_V (H.length) 12 [.tmp 3] Tryz.func42 rfl rfl rfl ?_
  have hb' : (H ++ [.cells [.str x.name, .int .i64 x.rank, .int .i64 x.weight]])[b]? = some (.cells [.fn 40 []]) := by
    rw [List.getElem?_append_left (List.getElem?_eq_some_iff.1 hb).1]; exact hb
  simp only [push_cast, Nat.reduceAdd, Nat.reduceSub, Nat.reduceMul, Nat.reduceLT, Nat.reduceLeDiff, Nat.reduceEqDiff, Int.reduceToNat, ↓reduceIte, hb']
  refine (checkBad_ac x.rank _).to ?_
  simp only [push_cast, Nat.reduceAdd, Nat.reduceSub, Nat.reduceMul, Nat.reduceLT, Nat.reduceLeDiff, Nat.reduceEqDiff, Int.reduceToNat, ↓reduceIte]
  refine cI (fun h => ?_) (fun h => ?_)
  · rw [h]; rfl
  · simp only [push_cast, Nat.reduceAdd, Nat.reduceSub, Nat.reduceMul, Nat.reduceLT, Nat.reduceLeDiff, Nat.reduceEqDiff, Int.reduceToNat, ↓reduceIte, hb']
    refine (checkBad_ac x.weight _).to ?_
    rw [Bool.eq_false_iff.2 h]
    simp only [push_cast, Nat.reduceAdd, Nat.reduceSub, Nat.reduceMul, Nat.reduceLT, Nat.reduceLeDiff, Nat.reduceEqDiff, Int.reduceToNat, ↓reduceIte]
    simp
theorem indexR_ac (l : List Rank) (g : Nat) (caps : List AV) (p : Rank → Bool) (H : List AObj) (hlen : l.length < 1099511627776) (hg : callOk Tryz.prog g = true) (hsc : ScopedL H.length caps)
    (hf : ∀ i (h : i < l.length), ACall Tryz.prog g (encR l[i] :: caps) H (fun r H' => r = .bool (p l[i]) ∧ H' = H)) :
    ACall Tryz.prog 73 [.sl .none (encL encR l), .fn g caps] H (fun r H' => ∃ n : Int, r = .int .i64 n ∧ (0 ≤ n ↔ l.any p = true) ∧ H' = H) := by
  refine ACall_W (H.length) 17 [.tmp 4] Tryz.func73 rfl rfl rfl ?_
  simp only [push_cast, Nat.reduceAdd, Nat.reduceSub, Nat.reduceMul, Nat.reduceLT, Nat.reduceLeDiff, Nat.reduceEqDiff, Int.reduceToNat, ↓reduceIte]
  refine AW_loopW (maskG 19 [0, 0, 5, 0]) (fun (i : Nat) => [(8, .int .i64 i)]) (fun _ => H) (fun i => i ≤ l.length ∧ (l.take i).any p = false) (fun i => l.length - i) 0 ⟨Nat.zero_le _, by simp⟩ (by simp only [push_cast, Nat.reduceAdd, Nat.reduceSub, Nat.reduceMul, Nat.reduceLT, Nat.reduceLeDiff, Nat.reduceEqDiff, Int.reduceToNat, ↓reduceIte, hsc]) (fun i hi => ?_)
  simp only [push_cast, Nat.reduceAdd, Nat.reduceSub, Nat.reduceMul, Nat.reduceLT, Nat.reduceLeDiff, Nat.reduceEqDiff, Int.reduceToNat, ↓reduceIte, hg]
  refine cI (fun h => ⟨by omega, (hf i (by omega)).to ?_⟩) (fun h => ?_)
  · simp only [push_cast, Nat.reduceAdd, Nat.reduceSub, Nat.reduceMul, Nat.reduceLT, Nat.reduceLeDiff, Nat.reduceEqDiff, Int.reduceToNat, ↓reduceIte]
    refine cI (fun hp => ?_) (fun hp => ⟨by omega, loopW_n (i + 1) ⟨by omega, any_take_false hi.2 (by omega) (by simpa using hp)⟩ (by omega) (by simp only [push_cast, Nat.reduceAdd, Nat.reduceSub, Nat.reduceMul, Nat.reduceLT, Nat.reduceLeDiff, Nat.reduceEqDiff, Int.reduceToNat, ↓reduceIte, hsc])⟩)
    exact ⟨i, rfl, ⟨fun _ => any_get (by omega) hp, fun _ => by omega⟩⟩
  · have hs : l.take i = l := List.take_of_length_le (by omega)
    rw [hs] at hi
    exact ⟨-1, rfl, ⟨by omega, fun h => by rw [hi.2] at h; cases h⟩⟩
theorem containsR_ac (l : List Rank) (g : Nat) (caps : List AV) (p : Rank → Bool) (H : List AObj) (hlen : l.length < 1099511627776) (hg : callOk Tryz.prog g = true) (hsc : ScopedL H.length caps)
    (hf : ∀ i (h : i < l.length), ACall Tryz.prog g (encR l[i] :: caps) H (fun r H' => r = .bool (p l[i]) ∧ H' = H)) :
    ACall Tryz.prog 41 [.sl .none (encL encR l), .fn g caps] H (fun r H' => r = .bool (l.any p) ∧ H' = H) := by
  refine ACall_W (H.length) 7 [.tmp 4] Tryz.func41 rfl rfl rfl ?_
  simp only [push_cast, Nat.reduceAdd, Nat.reduceSub, Nat.reduceMul, Nat.reduceLT, Nat.reduceLeDiff, Nat.reduceEqDiff, Int.reduceToNat, ↓reduceIte]
  refine (indexR_ac _ g caps p _ hlen hg hsc hf).mono ?_
  rintro r H ⟨n, rfl, hn, rfl⟩
  simp only [push_cast, Nat.reduceAdd, Nat.reduceSub, Nat.reduceMul, Nat.reduceLT, Nat.reduceLeDiff, Nat.reduceEqDiff, Int.reduceToNat, ↓reduceIte, hn]
  cases l.any p <;> simp
def leB (a b : List UInt8) : Bool := Op.bytesLess a b || decide (a = b)
def goodAt (l : List Rank) (i : Nat) : Bool := isNameP (l.getD i zeroR).name true && (decide (i = 0) || !leB (l.getD i zeroR).name (l.getD (i - 1) zeroR).name)
def namesP (l : List Rank) : Int := if 256 < l.length then 3 else if (List.range l.length).all (goodAt l) then 0 else 4
theorem goodAt_eq (l : List Rank) (i : Nat) (h : i < l.length) : goodAt l i = (isNameP l[i].name true && (decide (i = 0) || !leB l[i].name (l[i - 1]'(by omega)).name)) := by
  unfold goodAt
  rw [show l.getD i zeroR = l[i] from by simp [h], show l.getD (i - 1) zeroR = l[i - 1]'(by omega) from by simp [show i - 1 < l.length by omega]]
set_option maxHeartbeats 1000000 in
theorem pathNames_ac (l : List Rank) (hlen : l.length < 1099511627776) (hnl : ∀ x, x ∈ l → x.name.length < 1099511627776) (H : List AObj) : ACall Tryz.prog 38 [.sl .none (encL encR l), .fn 39 []] H (fun r H' => r = .int .i64 (namesP l) ∧ H' = H) := by
  refine ACall_V (H.length) 38 [.tmp 4] Tryz.func38 rfl rfl rfl ?_
  simp only [push_cast, Nat.reduceAdd, Nat.reduceSub, Nat.reduceMul, Nat.reduceLT, Nat.reduceLeDiff, Nat.reduceEqDiff, Int.reduceToNat, ↓reduceIte]
  unfold namesP
  refine cI (fun h => ?_) (fun h => ?_)
  · rw [if_pos (by omega)]
  · rw [if_neg (by omega)]
    refine AW_loopW (maskG 40 [0, 0, 8, 0, 0]) (fun (i : Nat) => [(12, .int .i64 i)]) (fun _ => H) (fun i => i ≤ l.length ∧ ∀ j, j < i → goodAt l j = true) (fun i => l.length - i) 0 ⟨Nat.zero_le _, fun _ h => absurd h (by omega)⟩ (by simp only [push_cast, Nat.reduceAdd, Nat.reduceSub, Nat.reduceMul, Nat.reduceLT, Nat.reduceLeDiff, Nat.reduceEqDiff, Int.reduceToNat, ↓reduceIte]) (fun i hi => ?_)
    obtain ⟨hi1, hi2⟩ := hi
    simp only [push_cast, Nat.reduceAdd, Nat.reduceSub, Nat.reduceMul, Nat.reduceLT, Nat.reduceLeDiff, Nat.reduceEqDiff, Int.reduceToNat, ↓reduceIte]
    refine cI (fun h1 => ?_) (fun h1 => ?_)
    · have hil : i < l.length := by omega
      refine ⟨hil, ?_⟩
      have hg := goodAt_eq l i hil
      have hbad : goodAt l i = false → (if (List.range l.length).all (goodAt l) then (0 : Int) else 4) = 4 := fun hb => if_neg (by
        rw [List.all_eq_true]
        intro hall
        have := hall i (List.mem_range.2 hil)
        rw [hb] at this; cases this)
      have hnm := hnl _ (List.getElem_mem hil)
      have hcn := fun X => checkName_ac l[i] X
      have his := fun X => isName_ac l[i].name true X hnm
      cases hA : isNameP l[i].name true with
      | false =>
        rw [hA] at hg his
        apply AW_drawE [some 17, some 18, some 19, some 20, some 21, some 22, some 23, some 24, some 25, some 26, some 27, some 28, some 29, some 30, some 31, some 32, some 33, some 34, some 35, some 36, some 37, some 38] [([], _)] [none, none, none, none, none, none, none, none, none, none, none, none, none, none, none, none, none, none, none, none, none, none] 0 [(0, [], [1]), (1, [], [6]), (2, [], [17, 0]), (3, [], [19]), (4, [], [20]), (5, [], [21]), (6, [], [5, 16]), (7, [], [22, 0]), (8, [], [22, 1]), (9, [], [1, 23]), (10, [], [6, 18]), (11, [], [25, 0, 0]), (12, [], [1, 23]), (13, [], [0, 24]), (14, [], [5, 19]), (15, [], [25, 5]), (16, [], [25, 4, 1]), (17, [], [25, 7]), (18, [], [25, 3, 4]), (19, [], [25, 2, 6]), (20, [], [22, 2, 10]), (21, [], [22, 14])] [_, _, _, _, _, _, _, _, _, _, _, _, _, _, _, _, _, _, _, _, _, _]
        case' hm => exact dr
        case' hn => rfl
        case' hok => rfl
        case' hlen => rfl
        case' hd => rfl
        case' h0 => rfl
        case' hstep =>
         simp only [DAllG, push_cast, Option.isSome_some, Option.isSome_none]
         repeat' apply And.intro
         all_goals (apply DOne_V; simp only [push_cast, Nat.reduceAdd, Nat.reduceSub, Nat.reduceMul, Nat.reduceLT, Nat.reduceLeDiff, Nat.reduceEqDiff, Int.reduceToNat, ↓reduceIte] <;> first | exact rfl | omega | exact ⟨rfl, rfl⟩ | exact trivial | exact ⟨by omega, rfl⟩ | exact ⟨by omega, by omega, rfl⟩ | exact ⟨by omega, rfl, rfl⟩ | exact ⟨by omega, by omega, rfl, rfl⟩ | (refine (hcn _).to ?_; exact ⟨rfl, rfl⟩) | (refine (his _).to ?_; exact ⟨rfl, rfl⟩))
        case' hQ => skip
        simp only [push_cast, Nat.reduceAdd, Nat.reduceSub, Nat.reduceMul, Nat.reduceLT, Nat.reduceLeDiff, Nat.reduceEqDiff, Int.reduceToNat, ↓reduceIte]
        rw [hbad hg]
      | true =>
        rw [hA] at hg his
        by_cases h0 : i = 0
        · have hd : decide ((0 : Int) < (i : Int)) = false := by rw [decide_eq_false_iff_not]; omega
          apply AW_drawE [some 17, some 18, some 19, some 20, some 21, some 22, some 23, some 24, some 25, some 26, some 27, some 28, some 29, some 30, some 31, some 32, some 33, some 34, some 35, some 36, some 37, some 38] [([], _)] [none, none, none, none, none, none, none, none, none, none, none, none, none, none, none, none, none, none, none, none, none, none] 0 [(0, [], [1]), (1, [], [6]), (2, [], [17, 0]), (3, [], [19]), (4, [], [20]), (5, [], [21]), (6, [], [5, 16]), (7, [], [22, 0]), (8, [], [22, 1]), (9, [], [1, 23]), (10, [], [6, 18]), (11, [], [25, 0, 0]), (12, [], [1, 23]), (13, [], [0, 24]), (14, [], [5, 19]), (15, [], [25, 5]), (16, [], [25, 4, 1]), (17, [], [25, 7]), (18, [], [25, 3, 4]), (19, [], [25, 2, 6]), (20, [], [22, 2, 10]), (21, [], [22, 14])] [_, _, _, _, _, _, _, _, _, _, _, _, _, _, _, _, _, _, _, _, _, _]
          case' hm => exact dr
          case' hn => rfl
          case' hok => rfl
          case' hlen => rfl
          case' hd => rfl
          case' h0 => rfl
          case' hstep =>
           simp only [DAllG, push_cast, Option.isSome_some, Option.isSome_none]
           repeat' apply And.intro
           all_goals (apply DOne_V; simp only [push_cast, Nat.reduceAdd, Nat.reduceSub, Nat.reduceMul, Nat.reduceLT, Nat.reduceLeDiff, Nat.reduceEqDiff, Int.reduceToNat, ↓reduceIte, hd] <;> first | exact rfl | omega | exact ⟨rfl, rfl⟩ | exact trivial | exact ⟨by omega, rfl⟩ | exact ⟨by omega, by omega, rfl⟩ | exact ⟨by omega, rfl, rfl⟩ | exact ⟨by omega, by omega, rfl, rfl⟩ | (refine (hcn _).to ?_; exact ⟨rfl, rfl⟩) | (refine (his _).to ?_; exact ⟨rfl, rfl⟩))
          case' hQ => skip
          simp only [push_cast, Nat.reduceAdd, Nat.reduceSub, Nat.reduceMul, Nat.reduceLT, Nat.reduceLeDiff, Nat.reduceEqDiff, Int.reduceToNat, ↓reduceIte]
          repeat' first | refine ⟨by omega, ?_⟩ | refine cI (fun _ => ?_) (fun _ => ?_)
          exact loopW_n (i + 1) ⟨by omega, fun j hj => by
            by_cases e : j = i
            · rw [e, hg]; simp [h0]
            · exact hi2 j (by omega)⟩ (by omega) (by simp only [push_cast, Nat.reduceAdd, Nat.reduceSub, Nat.reduceMul, Nat.reduceLT, Nat.reduceLeDiff, Nat.reduceEqDiff, Int.reduceToNat, ↓reduceIte])
        · have hd : decide ((0 : Int) < (i : Int)) = true := by rw [decide_eq_true_eq]; omega
          have hpl : i - 1 < l.length := by omega
          have hcp := fun X => checkName_ac (l[i - 1]'hpl) X
          have hm : (i : Int) - 1 = ((i - 1 : Nat) : Int) := by omega
          have hd0 : decide (i = 0) = false := decide_eq_false h0
          have hg' : goodAt l i = !leB l[i].name (l[i - 1]'hpl).name := by rw [hg, hd0]; simp
          apply AW_drawE [some 17, some 18, some 19, some 20, some 21, some 22, some 23, some 24, some 25, some 26, some 27, some 28, some 29, some 30, some 31, some 32, some 33, some 34, some 35, some 36, some 37, some 38] [([], _)] [none, none, none, none, none, none, none, none, none, none, none, none, none, none, none, none, none, none, none, none, none, none] 0 [(0, [], [1]), (1, [], [6]), (2, [], [17, 0]), (3, [], [19]), (4, [], [20]), (5, [], [21]), (6, [], [5, 16]), (7, [], [22, 0]), (8, [], [22, 1]), (9, [], [1, 23]), (10, [], [6, 18]), (11, [], [25, 0, 0]), (12, [], [1, 23]), (13, [], [0, 24]), (14, [], [5, 19]), (15, [], [25, 5]), (16, [], [25, 4, 1]), (17, [], [25, 7]), (18, [], [25, 3, 4]), (19, [], [25, 2, 6]), (20, [], [22, 2, 10]), (21, [], [22, 14])] [_, _, _, _, _, _, _, _, _, _, _, _, _, _, _, _, _, _, _, _, _, _]
          case' hm => exact dr
          case' hn => rfl
          case' hok => rfl
          case' hlen => rfl
          case' hd => rfl
          case' h0 => rfl
          case' hstep =>
           simp only [DAllG, push_cast, Option.isSome_some, Option.isSome_none]
           repeat' apply And.intro
           all_goals (apply DOne_V; simp only [push_cast, Nat.reduceAdd, Nat.reduceSub, Nat.reduceMul, Nat.reduceLT, Nat.reduceLeDiff, Nat.reduceEqDiff, Int.reduceToNat, ↓reduceIte, hd, hm] <;> first | exact rfl | omega | exact ⟨rfl, rfl⟩ | exact trivial | exact ⟨by omega, rfl⟩ | exact ⟨by omega, by omega, rfl⟩ | exact ⟨by omega, rfl, rfl⟩ | exact ⟨by omega, by omega, rfl, rfl⟩ | (refine (hcn _).to ?_; exact ⟨rfl, rfl⟩) | (refine (his _).to ?_; exact ⟨rfl, rfl⟩) | (refine (hcp _).to ?_; exact ⟨rfl, rfl⟩) | exact ⟨⟨by omega, by omega⟩, trivial⟩ | exact ⟨⟨by omega, by omega⟩, rfl⟩)
          case' hQ => skip
          simp only [push_cast, Nat.reduceAdd, Nat.reduceSub, Nat.reduceMul, Nat.reduceLT, Nat.reduceLeDiff, Nat.reduceEqDiff, Int.reduceToNat, ↓reduceIte]
          refine cI (fun hb => ?_) (fun hb => ?_)
          · rw [hbad (by rw [hg']; unfold leB; rw [hb]; rfl)]
          · repeat' first | refine ⟨by omega, ?_⟩ | refine cI (fun _ => ?_) (fun _ => ?_)
            exact loopW_n (i + 1) ⟨by omega, fun j hj => by
              by_cases e : j = i
              · rw [e, hg']; unfold leB; rw [Bool.eq_false_iff.2 hb]; rfl
              · exact hi2 j (by omega)⟩ (by omega) (by simp only [push_cast, Nat.reduceAdd, Nat.reduceSub, Nat.reduceMul, Nat.reduceLT, Nat.reduceLeDiff, Nat.reduceEqDiff, Int.reduceToNat, ↓reduceIte])
    · rw [if_pos (List.all_eq_true.2 fun j hj => hi2 j (by have := List.mem_range.1 hj; omega))]
def wcheckP (l : List Rank) (unit : Int) : Int := if namesP l ≠ 0 then namesP l else if (l.any fun x => badP x.rank || badP x.weight) || decide (unit < 1) || badP unit then 2 else 0
theorem wcheck_ac (l : List Rank) (unit : Int) (hlen : l.length < 1099511627776) (hnl : ∀ x, x ∈ l → x.name.length < 1099511627776) (H : List AObj) : ACall Tryz.prog 18 [.sl .none (encL encR l), .int .i64 unit] H (fun r H' => r = .int .i64 (wcheckP l unit) ∧ H' = H) := by
  refine ACall_V (H.length) 22 [.tmp 4] Tryz.func18 rfl rfl rfl ?_
  simp only [push_cast, Nat.reduceAdd, Nat.reduceSub, Nat.reduceMul, Nat.reduceLT, Nat.reduceLeDiff, Nat.reduceEqDiff, Int.reduceToNat, ↓reduceIte]
  refine (pathNames_ac l hlen hnl _).to ?_
  simp only [push_cast, Nat.reduceAdd, Nat.reduceSub, Nat.reduceMul, Nat.reduceLT, Nat.reduceLeDiff, Nat.reduceEqDiff, Int.reduceToNat, ↓reduceIte]
  unfold wcheckP
  refine cI (fun h => ?_) (fun h => ?_)
  · rw [if_neg (by simpa using h)]
    refine (containsR_ac l 42 [.ptr H.length 0] (fun x => badP x.rank || badP x.weight) _ hlen ok42 (by simp only [push_cast, Nat.reduceAdd, Nat.reduceSub, Nat.reduceMul, Nat.reduceLT, Nat.reduceLeDiff, Nat.reduceEqDiff, Int.reduceToNat, ↓reduceIte]) (fun i h => checkRank_ac _ _ _ (by exact aget0 _ _ _))).to ?_
    simp only [push_cast, Nat.reduceAdd, Nat.reduceSub, Nat.reduceMul, Nat.reduceLT, Nat.reduceLeDiff, Nat.reduceEqDiff, Int.reduceToNat, ↓reduceIte]
    refine cI (fun h1 => ?_) (fun h1 => ?_)
    · rw [h1]
      rfl
    · rw [Bool.eq_false_iff.2 h1]
      refine cI (fun h2 => ?_) (fun h2 => ?_)
      · rw [decide_eq_true h2]
        rfl
      · rw [decide_eq_false h2]
        refine (checkBad_ac unit _).to ?_
        simp only [push_cast, Nat.reduceAdd, Nat.reduceSub, Nat.reduceMul, Nat.reduceLT, Nat.reduceLeDiff, Nat.reduceEqDiff, Int.reduceToNat, ↓reduceIte]
        refine cI (fun h3 => ?_) (fun h3 => ?_)
        · rw [h3]; rfl
        · rw [Bool.eq_false_iff.2 h3]; rfl
  · rw [if_pos h]
end Ab
set_option maxRecDepth 10000
namespace Ab
open Go Go.Proofs
structure Sym where
  name : List UInt8
  arity : Int
  deriving DecidableEq
@[reducible] def symCells (s : Sym) : List AV := [.str s.name, .int .i64 s.arity]
@[reducible] def encS (s : Sym) : AV := .agg [.str s.name, .int .i64 s.arity]
theorem uniSm (l : List Sym) : Uni (1 + 1) (encL encS l) = True := eq_true (uni_encL (enc := encS) (k := 2) (fun _ => rfl) l)
theorem scopedSm (n : Nat) (l : List Sym) : ScopedL n (encL encS l) = True := eq_true (scoped_encL (fun x => by simp [Scoped, ScopedL]) l)
attribute [push_cast] uniSm scopedSm
theorem sym_inj (a b : Sym) (h : symCells a = symCells b) : a = b := by
  cases a; cases b; simp [symCells] at h; simp [h]
def symEq : EqLaw Tryz.prog 64 (fun s => .agg (symCells s)) := plainEq pl64 symCells (fun s => by simp [KindsOk, PK.ok]) sym_inj
def symKey : KeyLaw Tryz.prog 64 (fun s => .agg (symCells s)) := plainKey pl64 symCells (fun s => by simp [KindsOk, PK.ok]) sym_inj
theorem fits1_ac (l : List Rank) (hs : SortedR l) (hlen : l.length < 1099511627776) (f g : Sym) (x : Rank) (bf bl bx : Nat) (H : List AObj) (h1 : H[bf]? = some (.cells [.str f.name, .int .i64 f.arity])) (h2 : H[bl]? = some (.cells [.sl .none (encL encR l)])) (h3 : H[bx]? = some (.cells [.str x.name, .int .i64 x.rank, .int .i64 x.weight])) :
    ACall Tryz.prog 50 [encS g, .ptr bf 0, .ptr bl 0, .ptr bx 0] H (fun r H' => r = .bool (decide (g ≠ f) && decide (x.rank ≤ (ofP l g.name).rank)) ∧ H' = H) := by
  refine ACall_V (H.length) 15 [.tmp 5] Tryz.func50 rfl rfl rfl ?_
  have ex : ∀ {b : Nat} {o : AObj} {X : List AObj}, H[b]? = some o → (H ++ X)[b]? = some o := fun h => by
    rw [List.getElem?_append_left (List.getElem?_eq_some_iff.1 h).1]; exact h
  have g1 := ex (X := [.cells [.str g.name, .int .i64 g.arity]]) h1
  have g2 := ex (X := [.cells [.str g.name, .int .i64 g.arity]]) h2
  have g3 := ex (X := [.cells [.str g.name, .int .i64 g.arity]]) h3
  have hof := fun X => of_ac l hs g.name hlen X
  simp only [push_cast, Nat.reduceAdd, Nat.reduceSub, Nat.reduceMul, Nat.reduceLT, Nat.reduceLeDiff, Nat.reduceEqDiff, Int.reduceToNat, ↓reduceIte]
  by_cases hgf : g = f
  · have hd : decide (g = f) = true := decide_eq_true hgf
    have hd2 : decide (g ≠ f) = false := by rw [decide_eq_false_iff_not]; exact not_not_intro hgf
    apply AW_drawE [some 6, some 7, some 8, some 9, some 10, some 11, some 12, some 13, some 14, some 15, some 16, some 17, some 18, some 5] [([], _)] [none, none, none, none, none, none, none, none, none, none, none, none, none, none] 0 [(0, [], [4]), (1, [], [1]), (2, [], [6, 0]), (3, [], [8]), (4, [], [2, 6]), (5, [], [4, 4]), (6, [], [9, 1]), (7, [], [9, 0, 1]), (8, [], [9, 3]), (9, [], [3, 5]), (10, [], [9, 5]), (11, [], [9, 4, 1]), (12, [], [9, 7]), (13, [], [18])] [_, _, _, _, _, _, _, _, _, _, _, _, _, _]
    case' hm => exact dr
    case' hn => rfl
    case' hok => rfl
    case' hlen => rfl
    case' hd => rfl
    case' h0 => rfl
    case' hstep =>
     simp only [DAllG, push_cast, Option.isSome_some, Option.isSome_none]
     repeat' apply And.intro
     all_goals (apply DOne_V; simp only [push_cast, Nat.reduceAdd, Nat.reduceSub, Nat.reduceMul, Nat.reduceLT, Nat.reduceLeDiff, Nat.reduceEqDiff, Int.reduceToNat, ↓reduceIte, g1, g2, g3] <;> first | exact rfl | omega | exact ⟨rfl, rfl⟩ | exact trivial | exact ⟨by omega, rfl⟩ | exact ⟨by omega, by omega, rfl⟩ | exact ⟨by omega, rfl, rfl⟩ | exact ⟨by omega, by omega, rfl, rfl⟩ | (refine AOp_neq_law symEq g f rfl rfl ?_; simp only [push_cast, Nat.reduceAdd, Nat.reduceSub, Nat.reduceMul, Nat.reduceLT, Nat.reduceLeDiff, Nat.reduceEqDiff, Int.reduceToNat, ↓reduceIte, hd] <;> first | exact ⟨rfl, rfl⟩ | exact rfl))
    case' hQ => skip
    simp only [push_cast, Nat.reduceAdd, Nat.reduceSub, Nat.reduceMul, Nat.reduceLT, Nat.reduceLeDiff, Nat.reduceEqDiff, Int.reduceToNat, ↓reduceIte, hd2]
    rfl
  · have hd : decide (g = f) = false := decide_eq_false hgf
    have hd2 : decide (g ≠ f) = true := decide_eq_true hgf
    apply AW_drawE [some 6, some 7, some 8, some 9, some 10, some 11, some 12, some 13, some 14, some 15, some 16, some 17, some 18, some 5] [([], _)] [none, none, none, none, none, none, none, none, none, none, none, none, none, none] 0 [(0, [], [4]), (1, [], [1]), (2, [], [6, 0]), (3, [], [8]), (4, [], [2, 6]), (5, [], [4, 4]), (6, [], [9, 1]), (7, [], [9, 0, 1]), (8, [], [9, 3]), (9, [], [3, 5]), (10, [], [9, 5]), (11, [], [9, 4, 1]), (12, [], [9, 7]), (13, [], [18])] [_, _, _, _, _, _, _, _, _, _, _, _, _, _]
    case' hm => exact dr
    case' hn => rfl
    case' hok => rfl
    case' hlen => rfl
    case' hd => rfl
    case' h0 => rfl
    case' hstep =>
     simp only [DAllG, push_cast, Option.isSome_some, Option.isSome_none]
     repeat' apply And.intro
     all_goals (apply DOne_V; simp only [push_cast, Nat.reduceAdd, Nat.reduceSub, Nat.reduceMul, Nat.reduceLT, Nat.reduceLeDiff, Nat.reduceEqDiff, Int.reduceToNat, ↓reduceIte, g1, g2, g3] <;> first | exact rfl | omega | exact ⟨rfl, rfl⟩ | exact trivial | exact ⟨by omega, rfl⟩ | exact ⟨by omega, by omega, rfl⟩ | exact ⟨by omega, rfl, rfl⟩ | exact ⟨by omega, by omega, rfl, rfl⟩ | (refine AOp_neq_law symEq g f rfl rfl ?_; simp only [push_cast, Nat.reduceAdd, Nat.reduceSub, Nat.reduceMul, Nat.reduceLT, Nat.reduceLeDiff, Nat.reduceEqDiff, Int.reduceToNat, ↓reduceIte, hd] <;> first | exact ⟨rfl, rfl⟩ | exact rfl) | (refine (hof _).to ?_; exact ⟨rfl, rfl⟩))
    case' hQ => skip
    simp only [push_cast, Nat.reduceAdd, Nat.reduceSub, Nat.reduceMul, Nat.reduceLT, Nat.reduceLeDiff, Nat.reduceEqDiff, Int.reduceToNat, ↓reduceIte, hd2]
    rw [Bool.true_and]
theorem indexSm_ac (ss : List Sym) (g : Nat) (caps : List AV) (p : Sym → Bool) (H : List AObj) (hlen : ss.length < 1099511627776) (hg : callOk Tryz.prog g = true) (hsc : ScopedL H.length caps)
    (hf : ∀ i (h : i < ss.length), ACall Tryz.prog g (encS ss[i] :: caps) H (fun r H' => r = .bool (p ss[i]) ∧ H' = H)) :
    ACall Tryz.prog 84 [.sl .none (encL encS ss), .fn g caps] H (fun r H' => ∃ n : Int, r = .int .i64 n ∧ (0 ≤ n ↔ ss.any p = true) ∧ H' = H) := by
  refine ACall_W (H.length) 17 [.tmp 4] Tryz.func84 rfl rfl rfl ?_
  simp only [push_cast, Nat.reduceAdd, Nat.reduceSub, Nat.reduceMul, Nat.reduceLT, Nat.reduceLeDiff, Nat.reduceEqDiff, Int.reduceToNat, ↓reduceIte]
  refine AW_loopW (maskG 19 [0, 0, 5, 0]) (fun (i : Nat) => [(8, .int .i64 i)]) (fun _ => H) (fun i => i ≤ ss.length ∧ (ss.take i).any p = false) (fun i => ss.length - i) 0 ⟨Nat.zero_le _, by simp⟩ (by simp only [push_cast, Nat.reduceAdd, Nat.reduceSub, Nat.reduceMul, Nat.reduceLT, Nat.reduceLeDiff, Nat.reduceEqDiff, Int.reduceToNat, ↓reduceIte, hsc]) (fun i hi => ?_)
  simp only [push_cast, Nat.reduceAdd, Nat.reduceSub, Nat.reduceMul, Nat.reduceLT, Nat.reduceLeDiff, Nat.reduceEqDiff, Int.reduceToNat, ↓reduceIte, hg]
  refine cI (fun h => ⟨by omega, (hf i (by omega)).to ?_⟩) (fun h => ?_)
  · simp only [push_cast, Nat.reduceAdd, Nat.reduceSub, Nat.reduceMul, Nat.reduceLT, Nat.reduceLeDiff, Nat.reduceEqDiff, Int.reduceToNat, ↓reduceIte]
    refine cI (fun hp => ?_) (fun hp => ⟨by omega, loopW_n (i + 1) ⟨by omega, any_take_false hi.2 (by omega) (by simpa using hp)⟩ (by omega) (by simp only [push_cast, Nat.reduceAdd, Nat.reduceSub, Nat.reduceMul, Nat.reduceLT, Nat.reduceLeDiff, Nat.reduceEqDiff, Int.reduceToNat, ↓reduceIte, hsc])⟩)
    exact ⟨i, rfl, ⟨fun _ => any_get (by omega) hp, fun _ => by omega⟩⟩
  · have hs : ss.take i = ss := List.take_of_length_le (by omega)
    rw [hs] at hi
    exact ⟨-1, rfl, ⟨by omega, fun h => by rw [hi.2] at h; cases h⟩⟩
theorem containsSm_ac (ss : List Sym) (g : Nat) (caps : List AV) (p : Sym → Bool) (H : List AObj) (hlen : ss.length < 1099511627776) (hg : callOk Tryz.prog g = true) (hsc : ScopedL H.length caps)
    (hf : ∀ i (h : i < ss.length), ACall Tryz.prog g (encS ss[i] :: caps) H (fun r H' => r = .bool (p ss[i]) ∧ H' = H)) :
    ACall Tryz.prog 49 [.sl .none (encL encS ss), .fn g caps] H (fun r H' => r = .bool (ss.any p) ∧ H' = H) := by
  refine ACall_W (H.length) 7 [.tmp 4] Tryz.func49 rfl rfl rfl ?_
  simp only [push_cast, Nat.reduceAdd, Nat.reduceSub, Nat.reduceMul, Nat.reduceLT, Nat.reduceLeDiff, Nat.reduceEqDiff, Int.reduceToNat, ↓reduceIte]
  refine (indexSm_ac _ g caps p _ hlen hg hsc hf).mono ?_
  rintro r H ⟨n, rfl, hn, rfl⟩
  simp only [push_cast, Nat.reduceAdd, Nat.reduceSub, Nat.reduceMul, Nat.reduceLT, Nat.reduceLeDiff, Nat.reduceEqDiff, Int.reduceToNat, ↓reduceIte, hn]
  cases ss.any p <;> simp
def fitsAt (l : List Rank) (unit : Int) (ss : List Sym) (f : Sym) : Bool :=
  !(decide (f.arity = 0) && decide ((ofP l f.name).weight < unit)) &&
  (!decide (f.arity = 1) || decide (0 < (ofP l f.name).weight) || !ss.any fun g => decide (g ≠ f) && decide ((ofP l f.name).rank ≤ (ofP l g.name).rank))
def fitsW (l : List Rank) (unit : Int) (ss : List Sym) : Bool := ss.all (fitsAt l unit ss)
set_option maxHeartbeats 1600000 in
theorem fitsW_ac (l : List Rank) (hs : SortedR l) (hlen : l.length < 1099511627776) (unit : Int) (ss : List Sym) (hlen2 : ss.length < 1099511627776) (H : List AObj) :
    ACall Tryz.prog 20 [.sl .none (encL encR l), .int .i64 unit, .sl .none (encL encS ss)] H (fun r H' => r = .bool (fitsW l unit ss) ∧ H' = H) := by
  refine ACall_V (H.length) 38 [.tmp 6] Tryz.func20 rfl rfl rfl ?_
  simp only [push_cast, Nat.reduceAdd, Nat.reduceSub, Nat.reduceMul, Nat.reduceLT, Nat.reduceLeDiff, Nat.reduceEqDiff, Int.reduceToNat, ↓reduceIte]
  refine AW_loopW (maskG 41 [1, 0, 0, 6, 0, 0]) (fun (i : Nat) => [(12, .int .i64 i)]) (fun _ => H ++ [.cells [.sl .none (encL encR l)]]) (fun i => i ≤ ss.length ∧ (ss.take i).all (fitsAt l unit ss) = true) (fun i => ss.length - i) 0 ⟨Nat.zero_le _, by simp⟩ (by simp only [push_cast, Nat.reduceAdd, Nat.reduceSub, Nat.reduceMul, Nat.reduceLT, Nat.reduceLeDiff, Nat.reduceEqDiff, Int.reduceToNat, ↓reduceIte]) (fun i hi => ?_)
  obtain ⟨hi1, hi2⟩ := hi
  simp only [push_cast, Nat.reduceAdd, Nat.reduceSub, Nat.reduceMul, Nat.reduceLT, Nat.reduceLeDiff, Nat.reduceEqDiff, Int.reduceToNat, ↓reduceIte]
  refine cI (fun h => ?_) (fun h => ?_)
  · have hil : i < ss.length := by omega
    refine ⟨hil, ?_⟩
    refine (of_ac l hs (ss[i]'hil).name hlen _).to ?_
    obtain ⟨x, hx⟩ : ∃ x, x = ofP l (ss[i]'hil).name := ⟨_, rfl⟩
    have hbad : fitsAt l unit ss (ss[i]'hil) = false → fitsW l unit ss = false := fun hf => by
      unfold fitsW
      rw [← Bool.not_eq_true, List.all_eq_true]
      intro hall
      have := hall _ (List.getElem_mem hil)
      rw [hf] at this; cases this
    have hnext : fitsAt l unit ss (ss[i]'hil) = true → i + 1 ≤ ss.length ∧ (ss.take (i + 1)).all (fitsAt l unit ss) = true := fun hf => ⟨by omega, by rw [List.take_succ_eq_append_getElem hil, List.all_append, hi2]; simp [hf]⟩
    unfold fitsAt at hbad hnext
    rw [← hx] at hbad hnext ⊢
    simp only [push_cast, Nat.reduceAdd, Nat.reduceSub, Nat.reduceMul, Nat.reduceLT, Nat.reduceLeDiff, Nat.reduceEqDiff, Int.reduceToNat, ↓reduceIte]
    refine cI (fun ha => ?_) (fun ha => ?_)
    · refine cI (fun hw => ?_) (fun hw => ?_)
      · rw [hbad (by rw [decide_eq_true ha, decide_eq_true hw]; rfl)]
      · refine cI (fun h1 => absurd h1 (by omega)) (fun h1 => ?_)
        repeat' first | refine ⟨by omega, ?_⟩ | refine cI (fun _ => ?_) (fun _ => ?_)
        exact loopW_n (i + 1) (hnext (by rw [decide_eq_false hw, decide_eq_false h1]; simp)) (by omega) (by simp only [push_cast, Nat.reduceAdd, Nat.reduceSub, Nat.reduceMul, Nat.reduceLT, Nat.reduceLeDiff, Nat.reduceEqDiff, Int.reduceToNat, ↓reduceIte])
    · refine cI (fun h1 => ?_) (fun h1 => ?_)
      · refine cI (fun hw => ?_) (fun hw => ?_)
        · repeat' first | refine ⟨by omega, ?_⟩ | refine cI (fun _ => ?_) (fun _ => ?_)
          exact loopW_n (i + 1) (hnext (by rw [decide_eq_false ha, decide_eq_true hw]; simp)) (by omega) (by simp only [push_cast, Nat.reduceAdd, Nat.reduceSub, Nat.reduceMul, Nat.reduceLT, Nat.reduceLeDiff, Nat.reduceEqDiff, Int.reduceToNat, ↓reduceIte])
        · refine (containsSm_ac ss 50 [.ptr (H.length + 1) 0, .ptr H.length 0, .ptr (H.length + 2) 0] (fun g => decide (g ≠ ss[i]'hil) && decide (x.rank ≤ (ofP l g.name).rank)) _ hlen2 ok50 (by simp only [push_cast, Nat.reduceAdd, Nat.reduceSub, Nat.reduceMul, Nat.reduceLT, Nat.reduceLeDiff, Nat.reduceEqDiff, Int.reduceToNat, ↓reduceIte]) (fun k h => fits1_ac l hs hlen (ss[i]'hil) _ x _ _ _ _ (by exact (agetN _ _ 1).trans rfl) (by exact aget0 _ _ _) (by exact (agetN _ _ 2).trans rfl))).to ?_
          simp only [push_cast, Nat.reduceAdd, Nat.reduceSub, Nat.reduceMul, Nat.reduceLT, Nat.reduceLeDiff, Nat.reduceEqDiff, Int.reduceToNat, ↓reduceIte]
          refine cI (fun hc => ?_) (fun hc => ?_)
          · rw [hbad (by rw [decide_eq_false ha, decide_eq_true h1, decide_eq_false hw, hc]; rfl)]
          · repeat' first | refine ⟨by omega, ?_⟩ | refine cI (fun _ => ?_) (fun _ => ?_)
            exact loopW_n (i + 1) (hnext (by rw [decide_eq_false ha, Bool.eq_false_iff.2 hc]; simp)) (by omega) (by simp only [push_cast, Nat.reduceAdd, Nat.reduceSub, Nat.reduceMul, Nat.reduceLT, Nat.reduceLeDiff, Nat.reduceEqDiff, Int.reduceToNat, ↓reduceIte])
      · repeat' first | refine ⟨by omega, ?_⟩ | refine cI (fun _ => ?_) (fun _ => ?_)
        exact loopW_n (i + 1) (hnext (by rw [decide_eq_false ha, decide_eq_false h1]; simp)) (by omega) (by simp only [push_cast, Nat.reduceAdd, Nat.reduceSub, Nat.reduceMul, Nat.reduceLT, Nat.reduceLeDiff, Nat.reduceEqDiff, Int.reduceToNat, ↓reduceIte])
  · have hall : ss.take i = ss := List.take_of_length_le (by omega)
    rw [hall] at hi2
    unfold fitsW
    rw [hi2]
end Ab
