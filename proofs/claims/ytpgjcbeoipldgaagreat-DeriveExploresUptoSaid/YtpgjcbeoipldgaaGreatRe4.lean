/- Part 4 of 6 of a proof. The law DeriveExplores of chapter 05 returns true at every input up to the bound: Explore, Normals and Longest are the reference's. -/
import Derived.Test.YtpgjcbeoipldgaaGreatRe3
import Derived.Shelf.Spec.SlicesInsertGrow
import Derived.Shelf.SlSortCmp.WholeK
import Derived.Shelf.SlSortCmp.NoneTotal
import Derived.Shelf.Small.Strs
import Derived.Test.YtpgjcbeoipldgaaGreatProg
set_option linter.unusedVariables false
set_option linter.unusedSimpArgs false
set_option maxRecDepth 10000
namespace Ab
open Go Go.Proofs
def ndT (x : Term) : List (List UInt8 × Nat) := if x.var then [] else [(x.name, x.args.length)]
def nodesI (items : List (List Int × Term)) : List (List UInt8 × Nat) := items.flatMap fun x => ndT x.2
def nodesL : List Term → List (List UInt8 × Nat)
  | [] => []
  | .mk n u xs :: r => ndT (.mk n u xs) ++ (nodesL xs ++ nodesL r)
theorem nodesI_app (a b : List (List Int × Term)) : nodesI (a ++ b) = nodesI a ++ nodesI b := by simp [nodesI]
theorem nodesI_nil : nodesI [] = [] := (rfl)
theorem nodesI_snoc (a : List (List Int × Term)) (x : List Int × Term) : nodesI (a ++ [x]) = nodesI a ++ ndT x.2 := by simp [nodesI]
theorem nodes_walkL : ∀ (xs : List Term) (i : Int) (p : List Int), nodesI (walkL xs i p) = nodesL xs
  | [], _, _ => by simp [walkL, nodesL, nodesI]
  | .mk n u xs :: r, i, p => by
    have h1 := nodes_walkL xs 0 (p ++ [i])
    have h2 := nodes_walkL r (i + 1) p
    rw [walkL, nodesL, ← h1, ← h2, ← nodesI_app]
    simp [nodesI]
theorem nodes_walkT (t : Term) (p : List Int) : nodesI (walkT t p) = nodesL [t] := by
  cases t with
  | mk n u xs =>
    have := nodes_walkL xs 0 p
    unfold walkT
    rw [nodesL, nodesL, List.append_nil, ← this]
    rfl
theorem nodesL_app : ∀ (a b : List Term), nodesL (a ++ b) = nodesL a ++ nodesL b
  | [], b => by simp [nodesL]
  | .mk n u xs :: r, b => by
    have := nodesL_app r b
    rw [List.cons_append, nodesL, nodesL, this]; simp
def arC (q : Nat × List (List UInt8 × Nat)) (s : List UInt8 × Nat) : Bool := match aget q.2 s.1 with
  | some j => !decide (j = s.2)
  | none => false
def arStep (q : Nat × List (List UInt8 × Nat)) (s : List UInt8 × Nat) : Nat × List (List UInt8 × Nat) := if arC q s then q else (q.1 + 1, aset q.2 s.1 s.2)
def arF (q : Nat × List (List UInt8 × Nat)) (L : List (List UInt8 × Nat)) : Nat × List (List UInt8 × Nat) := L.foldl arStep q
def arBad : Nat × List (List UInt8 × Nat) → List (List UInt8 × Nat) → Bool
  | _, [] => false
  | q, s :: r => arC q s || arBad (arStep q s) r
theorem arF_app (q : Nat × List (List UInt8 × Nat)) (a b : List (List UInt8 × Nat)) : arF q (a ++ b) = arF (arF q a) b := by simp [arF]
theorem arF_nil (q : Nat × List (List UInt8 × Nat)) : arF q [] = q := (rfl)
theorem arBad_app : ∀ (a b : List (List UInt8 × Nat)) (q : Nat × List (List UInt8 × Nat)), arBad q (a ++ b) = (arBad q a || arBad (arF q a) b)
  | [], b, q => by simp [arBad, arF]
  | s :: a, b, q => by
    have := arBad_app a b (arStep q s)
    rw [List.cons_append, arBad, arBad, this, Bool.or_assoc]; rfl
def Cons (L : List (List UInt8 × Nat)) : Prop := ∀ a, a ∈ L → ∀ b, b ∈ L → a.1 = b.1 → a = b
theorem Cons.sub {L M : List (List UInt8 × Nat)} (h : Cons L) (hs : ∀ x, x ∈ M → x ∈ L) : Cons M := fun a ha b hb e => h a (hs a ha) b (hs b hb) e
theorem nodup_inj : ∀ {l : List (List UInt8 × Nat)}, (l.map (·.1)).Nodup → Cons l
  | [], _ => fun a ha => by cases ha
  | p :: l, h => by
    rw [List.map_cons, List.nodup_cons] at h
    have ih := nodup_inj h.2
    intro a ha b hb e
    rcases List.mem_cons.1 ha with ha1 | ha1
    · rcases List.mem_cons.1 hb with hb1 | hb1
      · rw [ha1, hb1]
      · exact absurd (List.mem_map.2 ⟨b, hb1, by rw [← e, ha1]⟩) h.1
    · rcases List.mem_cons.1 hb with hb1 | hb1
      · exact absurd (List.mem_map.2 ⟨a, ha1, by rw [e, hb1]⟩) h.1
      · exact ih a ha1 b hb1 e
theorem aget_mem {α : Type} : ∀ {m : List (List UInt8 × α)} {k : List UInt8} {v : α}, aget m k = some v → (k, v) ∈ m
  | [], _, _, h => by cases h
  | p :: m, k, v, h => by
    unfold aget at h
    split at h
    · rename_i e
      injection h with h
      subst e h
      simp
    · exact List.mem_cons_of_mem _ (aget_mem h)
theorem aget_no {α : Type} : ∀ {m : List (List UInt8 × α)} {k : List UInt8}, aget m k = none → ∀ p, p ∈ m → p.1 ≠ k
  | [], _, _, p, hp => by cases hp
  | q :: m, k, h, p, hp => by
    unfold aget at h
    split at h
    · cases h
    · rename_i e
      rcases List.mem_cons.1 hp with rfl | hp
      · exact e
      · exact aget_no h p hp
theorem aset_id {α : Type} : ∀ {m : List (List UInt8 × α)} {k : List UInt8} {v : α}, aget m k = some v → aset m k v = m
  | [], _, _, h => by cases h
  | p :: m, k, v, h => by
    unfold aget at h
    unfold aset
    split at h
    · rename_i e
      injection h with h
      rw [if_pos e, ← e, ← h]
    · rename_i e
      rw [if_neg e, aset_id h]
theorem arStep_spec (q : Nat × List (List UInt8 × Nat)) (s : List UInt8 × Nat) (hi : (q.2.map (·.1)).Nodup) (h : arC q s = false) : ((arStep q s).2.map (·.1)).Nodup ∧ ∀ x, x ∈ (arStep q s).2 ↔ x ∈ q.2 ∨ x = s := by
  unfold arStep
  rw [h]
  simp only [Bool.false_eq_true, if_false]
  unfold arC at h
  cases hg : aget q.2 s.1 with
  | none =>
    have h1 := aget_no hg
    rw [(aget_none h1).2]
    refine ⟨?_, fun x => by simp⟩
    rw [List.map_append, List.nodup_append]
    refine ⟨hi, by simp, ?_⟩
    intro a ha b hb e
    simp at hb
    subst hb
    obtain ⟨p, hp, hpe⟩ := List.mem_map.1 ha
    exact h1 p hp (hpe.trans e)
  | some j =>
    rw [hg] at h
    have hj : j = s.2 := by simpa using h
    subst hj
    rw [aset_id hg]
    refine ⟨hi, fun x => ⟨.inl, ?_⟩⟩
    rintro (hx | rfl)
    · exact hx
    · exact aget_mem hg
theorem ar_spec : ∀ (L : List (List UInt8 × Nat)) (q : Nat × List (List UInt8 × Nat)), (q.2.map (·.1)).Nodup → (arBad q L = false ↔ Cons (q.2 ++ L)) ∧ (arBad q L = false → ((arF q L).2.map (·.1)).Nodup ∧ ∀ x, x ∈ (arF q L).2 ↔ x ∈ q.2 ∨ x ∈ L)
  | [], q, hi => by
    refine ⟨⟨fun _ => ?_, fun _ => rfl⟩, fun _ => ⟨hi, fun x => by simp [arF]⟩⟩
    rw [List.append_nil]
    exact nodup_inj hi
  | s :: r, q, hi => by
    cases hc : arC q s with
    | true =>
      refine ⟨⟨fun h => ?_, fun h => ?_⟩, fun h => ?_⟩
      · rw [arBad, hc] at h; cases h
      · unfold arC at hc
        cases hg : aget q.2 s.1 with
        | none => rw [hg] at hc; cases hc
        | some j =>
          rw [hg] at hc
          have hj : ¬ j = s.2 := by simpa using hc
          have := h (s.1, j) (List.mem_append_left _ (aget_mem hg)) s (by simp) rfl
          exact absurd (congrArg Prod.snd this) hj
      · rw [arBad, hc] at h; cases h
    | false =>
      obtain ⟨g1, g2⟩ := arStep_spec q s hi hc
      obtain ⟨i1, i2⟩ := ar_spec r (arStep q s) g1
      have hb : arBad q (s :: r) = arBad (arStep q s) r := by rw [arBad, hc]; rfl
      have hm : ∀ x, x ∈ (arStep q s).2 ++ r ↔ x ∈ q.2 ++ s :: r := fun x => by
        rw [List.mem_append, List.mem_append, g2, List.mem_cons, or_assoc]
      rw [hb]
      refine ⟨i1.trans ⟨fun h => h.sub fun x hx => (hm x).2 hx, fun h => h.sub fun x hx => (hm x).1 hx⟩, fun h => ?_⟩
      obtain ⟨j1, j2⟩ := i2 h
      have hf : arF q (s :: r) = arF (arStep q s) r := rfl
      rw [hf]
      exact ⟨j1, fun x => by rw [j2, g2, List.mem_cons, or_assoc]⟩
def syAt (l : List (List UInt8 × Nat)) (n : List UInt8) : Nat := insAt (l.map (·.1)) n
def insSy (l : List (List UInt8 × Nat)) (s : List UInt8 × Nat) : List (List UInt8 × Nat) := if (l.map (·.1))[syAt l s.1]? = some s.1 then l else l.take (syAt l s.1) ++ [s] ++ l.drop (syAt l s.1)
def cfSy (l : List (List UInt8 × Nat)) (s : List UInt8 × Nat) : Bool := match (insSy l s)[syAt l s.1]? with
  | some x => !decide (x.2 = s.2)
  | none => false
def symRs : List Term → List (List UInt8 × Nat) → List (List UInt8 × Nat) × Bool
  | [], l => (l, true)
  | .mk n u xs :: r, l => if u then symRs r l else if markedP n then (l, false) else if cfSy l (n, xs.length) then (l, false) else
    if (symRs xs (insSy l (n, xs.length))).2 then symRs r (symRs xs (insSy l (n, xs.length))).1 else (l, false)
def symR (t : Term) (l : List (List UInt8 × Nat)) : List (List UInt8 × Nat) × Bool := if t.var then (l, true) else if markedP t.name then (l, false) else if cfSy l (t.name, t.args.length) then (insSy l (t.name, t.args.length), false) else symRs t.args (insSy l (t.name, t.args.length))
theorem symRs_cons (t : Term) (r : List Term) (l : List (List UInt8 × Nat)) : symRs (t :: r) l = if (symR t l).2 then symRs r (symR t l).1 else (l, false) := by
  cases t with
  | mk n u xs =>
    rw [symRs]
    unfold symR
    simp only [Term.mk_name, Term.mk_var, Term.mk_args]
    cases u <;> simp only [Bool.false_eq_true, if_true, if_false]
    by_cases hm : markedP n = true
    · simp [hm]
    · by_cases hc : cfSy l (n, xs.length) = true
      · simp [hm, hc]
      · simp [hm, hc]
theorem insSy_names (l : List (List UInt8 × Nat)) (s : List UInt8 × Nat) : (insSy l s).map (·.1) = insertP (l.map (·.1)) s.1 := by
  unfold insSy insertP syAt
  split
  · rfl
  · simp [List.map_take, List.map_drop]
theorem sortedS_cons {l : List (List UInt8 × Nat)} (h : SortedN (l.map (·.1))) : Cons l := nodup_inj (sortedN_nodup h)
theorem insSy_mem {l : List (List UInt8 × Nat)} {s : List UInt8 × Nat} (h : cfSy l s = false) (x : List UInt8 × Nat) : x ∈ insSy l s ↔ x ∈ l ∨ x = s := by
  unfold cfSy at h
  unfold insSy at h ⊢
  split
  · rename_i hp
    rw [if_pos hp] at h
    refine ⟨.inl, ?_⟩
    rintro (hx | rfl)
    · exact hx
    · rw [List.getElem?_map] at hp
      cases hg : l[syAt l x.1]? with
      | none => rw [hg] at hp; cases hp
      | some y =>
        rw [hg] at h hp
        injection hp with hp
        have h2 : y.2 = x.2 := by simpa using h
        have : y = x := Prod.ext hp h2
        rw [← this]
        exact List.mem_of_getElem? hg
  · rw [List.mem_append, List.mem_append, List.mem_singleton]
    conv => rhs; rw [← List.take_append_drop (syAt l s.1) l, List.mem_append]
    constructor
    · rintro ((h | h) | h)
      · exact .inl (.inl h)
      · exact .inr h
      · exact .inl (.inr h)
    · rintro ((h | h) | h)
      · exact .inl (.inl h)
      · exact .inr h
      · exact .inl (.inr h)
theorem cfSy_true {l : List (List UInt8 × Nat)} {s : List UInt8 × Nat} (h : cfSy l s = true) : ∃ j, (s.1, j) ∈ l ∧ j ≠ s.2 := by
  unfold cfSy at h
  split at h
  · rename_i x hx
    have hne : ¬ x.2 = s.2 := by simpa using h
    unfold insSy at hx
    split at hx
    · rename_i hp
      rw [List.getElem?_map, hx] at hp
      injection hp with hp
      refine ⟨x.2, ?_, hne⟩
      rw [← hp]
      exact List.mem_of_getElem? hx
    · exfalso
      have hle : syAt l s.1 ≤ l.length := by
        unfold syAt insAt
        have := (List.takeWhile_prefix (fun x => decide (Lib.compareBytes x s.1 < 0)) (l := l.map (·.1))).length_le
        simpa using this
      rw [List.append_assoc, List.getElem?_append_right (by simp; omega)] at hx
      have e : syAt l s.1 - (l.take (syAt l s.1)).length = 0 := by simp; omega
      rw [e] at hx
      simp at hx
      exact hne (by rw [hx])
  · cases h
theorem symRs_spec : ∀ (ts : List Term) (l : List (List UInt8 × Nat)), (∀ t, t ∈ ts → formedP t = true) → SortedN (l.map (·.1)) →
    ((symRs ts l).2 = true ↔ (∀ s, s ∈ nodesL ts → markedP s.1 = false) ∧ Cons (l ++ nodesL ts)) ∧ ((symRs ts l).2 = true → SortedN ((symRs ts l).1.map (·.1)) ∧ ∀ x, x ∈ (symRs ts l).1 ↔ x ∈ l ∨ x ∈ nodesL ts)
  | [], l, _, hl => by
    refine ⟨⟨fun _ => ⟨fun s hs => by simp [nodesL] at hs, by rw [nodesL, List.append_nil]; exact sortedS_cons hl⟩, fun _ => by simp [symRs]⟩, fun _ => ⟨by simpa [symRs] using hl, fun x => by simp [symRs, nodesL]⟩⟩
  | .mk n true xs :: r, l, hf, hl => by
    have h0 := hf (.mk n true xs) (by simp)
    rw [formedP_mk] at h0
    simp only [if_true, Bool.and_eq_true, decide_eq_true_eq] at h0
    have hx := List.eq_nil_of_length_eq_zero h0.1
    subst hx
    have ih := symRs_spec r l (fun t ht => hf t (by simp [ht])) hl
    have hn : nodesL (.mk n true [] :: r) = nodesL r := by simp [nodesL, ndT, Term.mk_var]
    have hs : symRs (.mk n true [] :: r) l = symRs r l := by rw [symRs]; simp
    rw [hn, hs]; exact ih
  | .mk n false xs :: r, l, hf, hl => by
    have h0 := hf (.mk n false xs) (by simp)
    rw [formedP_mk] at h0
    simp only [Bool.false_eq_true, if_false, Bool.and_eq_true, List.all_eq_true] at h0
    have hn : nodesL (.mk n false xs :: r) = (n, xs.length) :: (nodesL xs ++ nodesL r) := by simp [nodesL, ndT, Term.mk_var, Term.mk_name, Term.mk_args]
    rw [hn, symRs]
    simp only [Bool.false_eq_true, if_false]
    cases hm : markedP n with
    | true =>
      simp only [if_true, Bool.false_eq_true, false_iff, false_implies, and_true]
      rintro ⟨h1, _⟩
      have := h1 (n, xs.length) (by simp)
      rw [hm] at this; cases this
    | false =>
      simp only [Bool.false_eq_true, if_false]
      cases hc : cfSy l (n, xs.length) with
      | true =>
        simp only [if_true, Bool.false_eq_true, false_iff, false_implies, and_true]
        rintro ⟨_, h2⟩
        obtain ⟨j, hj, hne⟩ := cfSy_true hc
        have := h2 (n, j) (List.mem_append_left _ hj) (n, xs.length) (by simp) rfl
        exact hne (congrArg Prod.snd this)
      | false =>
        simp only [Bool.false_eq_true, if_false]
        have hmem := insSy_mem hc
        have hl1 : SortedN ((insSy l (n, xs.length)).map (·.1)) := by rw [insSy_names]; exact insertP_sorted _ _ hl
        obtain ⟨l1, hl1e⟩ : ∃ l1, l1 = insSy l (n, xs.length) := ⟨_, rfl⟩
        rw [← hl1e] at hmem hl1 ⊢
        obtain ⟨a1, a2⟩ := symRs_spec xs l1 h0.2 hl1
        cases hq : (symRs xs l1).2 with
        | false =>
          simp only [Bool.false_eq_true, if_false, false_iff, false_implies, and_true]
          rintro ⟨h1, h2⟩
          have := a1.2 ⟨fun s hs => h1 s (by simp [hs]), h2.sub fun x hx => by
            rcases List.mem_append.1 hx with hx | hx
            · rcases (hmem x).1 hx with hx | rfl
              · exact List.mem_append_left _ hx
              · simp
            · simp [hx]⟩
          rw [hq] at this; cases this
        | true =>
          simp only [if_true]
          obtain ⟨b1, b2⟩ := a2 hq
          obtain ⟨c1, c2⟩ := a1.1 hq
          obtain ⟨d1, d2⟩ := symRs_spec r (symRs xs l1).1 (fun t ht => hf t (by simp [ht])) b1
          have hmm : ∀ x, x ∈ (symRs xs l1).1 ++ nodesL r ↔ x ∈ l ++ (n, xs.length) :: (nodesL xs ++ nodesL r) := fun x => by
            rw [List.mem_append, b2, hmem, List.mem_append, List.mem_cons, List.mem_append]
            constructor
            · rintro (((h | h) | h) | h)
              · exact .inl h
              · exact .inr (.inl h)
              · exact .inr (.inr (.inl h))
              · exact .inr (.inr (.inr h))
            · rintro (h | h | h | h)
              · exact .inl (.inl (.inl h))
              · exact .inl (.inl (.inr h))
              · exact .inl (.inr h)
              · exact .inr h
          refine ⟨d1.trans ⟨fun h => ⟨fun s hs => ?_, h.2.sub fun x hx => (hmm x).2 hx⟩, fun h => ⟨fun s hs => h.1 s (by simp [hs]), h.2.sub fun x hx => (hmm x).1 hx⟩⟩, fun h => ?_⟩
          · rcases List.mem_cons.1 hs with rfl | hs
            · exact hm
            · rcases List.mem_append.1 hs with hs | hs
              · exact c1 s hs
              · exact h.1 s hs
          · obtain ⟨e1, e2⟩ := d2 h
            refine ⟨e1, fun x => ?_⟩
            rw [e2, ← List.mem_append, hmm, List.mem_append]
theorem sys_agree (ts : List Term) (hf : ∀ t, t ∈ ts → formedP t = true) : (symRs ts []).2 = (!arBad (0, []) (nodesL ts) && (arF (0, []) (nodesL ts)).2.all fun s => !markedP s.1) := by
  obtain ⟨a1, a2⟩ := symRs_spec ts [] hf List.Pairwise.nil
  obtain ⟨b1, b2⟩ := ar_spec (nodesL ts) (0, []) (by simp)
  rw [Bool.eq_iff_iff, a1, Bool.and_eq_true, Bool.not_eq_true', b1]
  simp only [List.nil_append]
  constructor
  · rintro ⟨h1, h2⟩
    refine ⟨h2, ?_⟩
    rw [List.all_eq_true]
    intro x hx
    have := ((b2 (b1.2 h2)).2 x).1 hx
    simp only [List.not_mem_nil, false_or] at this
    rw [h1 x this]; rfl
  · rintro ⟨h1, h2⟩
    refine ⟨fun s hs => ?_, h1⟩
    rw [List.all_eq_true] at h2
    have := h2 s (((b2 (b1.2 h1)).2 s).2 (.inr hs))
    simpa using this
end Ab
set_option maxRecDepth 10000
namespace Ab
open Go Go.Proofs
theorem foldC_nil (l : List (List UInt8)) : foldC [] l = l := (rfl)
theorem collect_ac (t : Term) : ∀ l : List (List UInt8), t.bulk ≤ 1099511627775 → l.length + t.size ≤ 1099511627770 → (∀ x, x ∈ l → x.length < 1099511627776) → ∀ H, ACall Tryz.prog 172 [encT t, .sl .none (encN l)] H (fun r H' => r = .sl .none (encN (collectP t l)) ∧ H' = H) := by
  induction t using Term.ind with | _ n v xs ih
  intro l hb hl hnl H
  have hsz := (Term.mk n v xs).size_le
  have hlen := Term.len_le (n := n) (v := v) (xs := xs)
  have hnm := Term.name_le (n := n) (v := v) (xs := xs)
  rw [Term.size_mk] at hl
  rw [collectP_fold]
  have hi0 := insertP_length l n
  obtain ⟨L0, hL0⟩ : ∃ L0, L0 = if v then insertP l n else l := ⟨_, rfl⟩
  have hL1 : L0.length ≤ l.length + 1 := by rw [hL0]; split <;> omega
  have hL2 : ∀ x, x ∈ L0 → x.length < 1099511627776 := by
    intro x hx
    rw [hL0] at hx
    split at hx
    · rcases (mem_insertP l n x).1 hx with h | h
      · exact hnl x h
      · subst h; omega
    · exact hnl x hx
  have hbk : ∀ x, x ∈ xs → x.bulk ≤ 1099511627775 := fun x hx => by have := Term.arg_le (n := n) (v := v) hx; omega
  rw [← hL0]
  have hround : ∀ i (h : i < xs.length) H, ACall Tryz.prog 172 [encT xs[i], .sl .none (encN (foldC (xs.take i) L0))] H (fun r H' => r = .sl .none (encN (foldC (xs.take (i + 1)) L0)) ∧ H' = H) := fun i h H => by
    have hf1 := foldC_length (xs.take i) L0
    have hf2 := take_sum Term.size xs i h
    have hf3 := take_sum_le Term.size xs (i + 1)
    rw [foldC_take xs L0 i h]
    exact ih _ (List.getElem_mem h) _ (hbk _ (List.getElem_mem h)) (by omega) (foldC_names _ _ (fun x hx => hbk x (List.mem_of_mem_take hx)) hL2) H
  cases v with
  | true =>
    simp only [if_true] at hL0
    refine ACall_V (H.length) 23 [.tmp 4] Tryz.func172 rfl rfl rfl ?_
    simp only [push_cast, Nat.reduceAdd, Nat.reduceSub, Nat.reduceMul, Nat.reduceLT, Nat.reduceLeDiff, Nat.reduceEqDiff, Int.reduceToNat, ↓reduceIte]
    refine (insert_ac l n (by omega) hnl (by omega) _).to ?_
    rw [← hL0]
    simp only [push_cast, Nat.reduceAdd, Nat.reduceSub, Nat.reduceMul, Nat.reduceLT, Nat.reduceLeDiff, Nat.reduceEqDiff, Int.reduceToNat, ↓reduceIte]
    refine AW_loopW (maskG 25 [1, 12, 0, 0]) (fun (i : Nat) => [(1, .sl .none (encN (foldC (xs.take i) L0))), (16, .int .i64 i)]) (fun i => H ++ [.cells [.str n, .bool true, .sl .none (encTs xs)]]) (fun i => i ≤ xs.length) (fun i => xs.length - i) 0 (Nat.zero_le _) (by simp only [push_cast, Nat.reduceAdd, Nat.reduceSub, Nat.reduceMul, Nat.reduceLT, Nat.reduceLeDiff, Nat.reduceEqDiff, Int.reduceToNat, ↓reduceIte, List.take_zero, foldC_nil]) (fun i hi => ?_)
    simp only [push_cast, Nat.reduceAdd, Nat.reduceSub, Nat.reduceMul, Nat.reduceLT, Nat.reduceLeDiff, Nat.reduceEqDiff, Int.reduceToNat, ↓reduceIte]
    refine cI (fun h => ?_) (fun h => ?_)
    · repeat refine ⟨by omega, ?_⟩
      refine (hround i (by omega) _).to ?_
      simp only [push_cast, Nat.reduceAdd, Nat.reduceSub, Nat.reduceMul, Nat.reduceLT, Nat.reduceLeDiff, Nat.reduceEqDiff, Int.reduceToNat, ↓reduceIte]
      repeat' first | refine ⟨by omega, ?_⟩ | refine cI (fun _ => ?_) (fun _ => ?_)
      exact loopW_n (i + 1) (by omega) (by omega) (by simp only [push_cast, Nat.reduceAdd, Nat.reduceSub, Nat.reduceMul, Nat.reduceLT, Nat.reduceLeDiff, Nat.reduceEqDiff, Int.reduceToNat, ↓reduceIte])
    · simp only [push_cast, Nat.reduceAdd, Nat.reduceSub, Nat.reduceMul, Nat.reduceLT, Nat.reduceLeDiff, Nat.reduceEqDiff, Int.reduceToNat, ↓reduceIte, List.take_of_length_le (show xs.length ≤ i by omega)]
  | false =>
    simp only [Bool.false_eq_true, if_false] at hL0
    subst hL0
    refine ACall_V (H.length) 23 [.tmp 4] Tryz.func172 rfl rfl rfl ?_
    simp only [push_cast, Nat.reduceAdd, Nat.reduceSub, Nat.reduceMul, Nat.reduceLT, Nat.reduceLeDiff, Nat.reduceEqDiff, Int.reduceToNat, ↓reduceIte]
    refine AW_loopW (maskG 25 [1, 12, 0, 0]) (fun (i : Nat) => [(1, .sl .none (encN (foldC (xs.take i) L0))), (16, .int .i64 i)]) (fun i => H ++ [.cells [.str n, .bool false, .sl .none (encTs xs)]]) (fun i => i ≤ xs.length) (fun i => xs.length - i) 0 (Nat.zero_le _) (by simp only [push_cast, Nat.reduceAdd, Nat.reduceSub, Nat.reduceMul, Nat.reduceLT, Nat.reduceLeDiff, Nat.reduceEqDiff, Int.reduceToNat, ↓reduceIte, List.take_zero, foldC_nil]) (fun i hi => ?_)
    simp only [push_cast, Nat.reduceAdd, Nat.reduceSub, Nat.reduceMul, Nat.reduceLT, Nat.reduceLeDiff, Nat.reduceEqDiff, Int.reduceToNat, ↓reduceIte]
    refine cI (fun h => ?_) (fun h => ?_)
    · repeat refine ⟨by omega, ?_⟩
      refine (hround i (by omega) _).to ?_
      simp only [push_cast, Nat.reduceAdd, Nat.reduceSub, Nat.reduceMul, Nat.reduceLT, Nat.reduceLeDiff, Nat.reduceEqDiff, Int.reduceToNat, ↓reduceIte]
      repeat' first | refine ⟨by omega, ?_⟩ | refine cI (fun _ => ?_) (fun _ => ?_)
      exact loopW_n (i + 1) (by omega) (by omega) (by simp only [push_cast, Nat.reduceAdd, Nat.reduceSub, Nat.reduceMul, Nat.reduceLT, Nat.reduceLeDiff, Nat.reduceEqDiff, Int.reduceToNat, ↓reduceIte])
    · simp only [push_cast, Nat.reduceAdd, Nat.reduceSub, Nat.reduceMul, Nat.reduceLT, Nat.reduceLeDiff, Nat.reduceEqDiff, Int.reduceToNat, ↓reduceIte, List.take_of_length_le (show xs.length ≤ i by omega)]
theorem varsR_ac (ts : List Term) (hlen : ts.length < 1099511627776) (hb : ∀ x, x ∈ ts → x.bulk ≤ 1099511627775) (hsz : (ts.map Term.size).sum ≤ 1099511627770) (H : List AObj) : ACall Tryz.prog 137 [.sl .none (encTs ts)] H (fun r H' => r = .sl .none (encN (varsP ts)) ∧ H' = H) := by
  have hv : varsP ts = foldC ts [] := rfl
  rw [hv]
  refine ACall_V (H.length) 16 [.tmp 2] Tryz.func137 rfl rfl rfl ?_
  simp only [push_cast, Nat.reduceAdd, Nat.reduceSub, Nat.reduceMul, Nat.reduceLT, Nat.reduceLeDiff, Nat.reduceEqDiff, Int.reduceToNat, ↓reduceIte]
  refine AW_loopW (maskG 17 [3, 2, 0, 0]) (fun (i : Nat) => [(3, .sl .none (encN (foldC (ts.take i) []))), (8, .int .i64 i)]) (fun _ => H) (fun i => i ≤ ts.length) (fun i => ts.length - i) 0 (Nat.zero_le _) (by simp only [push_cast, Nat.reduceAdd, Nat.reduceSub, Nat.reduceMul, Nat.reduceLT, Nat.reduceLeDiff, Nat.reduceEqDiff, Int.reduceToNat, ↓reduceIte, List.take_zero, foldC_nil]) (fun i hi => ?_)
  simp only [push_cast, Nat.reduceAdd, Nat.reduceSub, Nat.reduceMul, Nat.reduceLT, Nat.reduceLeDiff, Nat.reduceEqDiff, Int.reduceToNat, ↓reduceIte]
  refine cI (fun h => ?_) (fun h => ?_)
  · repeat refine ⟨by omega, ?_⟩
    have hil : i < ts.length := by omega
    have hf1 := foldC_length (ts.take i) []
    have hf2 := take_sum Term.size ts i hil
    have hf3 := take_sum_le Term.size ts (i + 1)
    simp only [List.length_nil] at hf1
    refine (collect_ac (ts[i]'hil) (foldC (ts.take i) []) (hb _ (List.getElem_mem hil)) (by omega) (foldC_names _ _ (fun x hx => hb x (List.mem_of_mem_take hx)) (by simp)) _).to ?_
    rw [← foldC_take ts [] i hil]
    simp only [push_cast, Nat.reduceAdd, Nat.reduceSub, Nat.reduceMul, Nat.reduceLT, Nat.reduceLeDiff, Nat.reduceEqDiff, Int.reduceToNat, ↓reduceIte]
    repeat' first | refine ⟨by omega, ?_⟩ | refine cI (fun _ => ?_) (fun _ => ?_)
    exact loopW_n (i + 1) (by omega) (by omega) (by simp only [push_cast, Nat.reduceAdd, Nat.reduceSub, Nat.reduceMul, Nat.reduceLT, Nat.reduceLeDiff, Nat.reduceEqDiff, Int.reduceToNat, ↓reduceIte])
  · simp only [push_cast, Nat.reduceAdd, Nat.reduceSub, Nat.reduceMul, Nat.reduceLT, Nat.reduceLeDiff, Nat.reduceEqDiff, Int.reduceToNat, ↓reduceIte, List.take_of_length_le (show ts.length ≤ i by omega)]
theorem vars1_ac (t : Term) (hb : t.bulk ≤ 1099511627770) (H : List AObj) : ACall Tryz.prog 131 [.sl .none [encT t]] H (fun r H' => r = .sl .none (encN (varsP [t])) ∧ H' = H) := by
  have hs := t.size_le
  have hl := seenT_len [t] (0, [])
  have := varsOf_ac [t] (by simp) (by simp; omega) (by simp at hl ⊢; omega) H
  rw [varsOf_eq, encTs_cons, encTs_nil] at this
  exact this
end Ab
set_option maxRecDepth 10000
namespace Ab
open Go Go.Proofs
theorem countR_ac (t : Term) (v : List UInt8) : t.bulk ≤ 1099511627775 → ∀ H, ACall Tryz.prog 138 [encT t, .str v] H (fun r H' => r = .int .i64 (countP v t) ∧ H' = H) := by
  induction t using Term.ind with | _ n u xs ih
  intro hb H
  have hlen := Term.len_le (n := n) (v := u) (xs := xs)
  have hsz := (Term.mk n u xs).size_le
  rw [Term.size_mk] at hsz
  rw [countP_mk]
  have hround : ∀ i (h : i < xs.length), ((xs.take (i + 1)).map (countP v)).sum = ((xs.take i).map (countP v)).sum + countP v xs[i] := fun i h => by
    rw [List.take_succ_eq_append_getElem h, List.map_append, List.sum_append]; simp
  have hcb : ∀ i, 0 ≤ ((xs.take i).map (countP v)).sum ∧ ((xs.take i).map (countP v)).sum ≤ 1099511627775 := fun i => by
    have h1 := counts_bound v (xs.take i)
    have h2 := take_sum_le Term.size xs i
    omega
  have hone : oneP v n u = if u = true ∧ n = v then 1 else 0 := rfl
  cases u with
  | true =>
    by_cases hn : n = v
    · have h1 : oneP v n true = 1 := by rw [hone]; simp [hn]
      rw [h1]
      refine ACall_V (H.length) 28 [.tmp 4] Tryz.func138 rfl rfl rfl ?_
      simp only [push_cast, Nat.reduceAdd, Nat.reduceSub, Nat.reduceMul, Nat.reduceLT, Nat.reduceLeDiff, Nat.reduceEqDiff, Int.reduceToNat, ↓reduceIte]
      refine cI (fun _ => ?_) (fun h => absurd hn h)
      repeat refine ⟨by omega, ?_⟩
      refine AW_loopW (maskG 30 [1, 3, 11, 0, 0]) (fun (i : Nat) => [(5, .int .i64 (1 + ((xs.take i).map (countP v)).sum)), (19, .int .i64 i)]) (fun i => H ++ [.cells [.str n, .bool true, .sl .none (encTs xs)]]) (fun i => i ≤ xs.length) (fun i => xs.length - i) 0 (Nat.zero_le _) (by simp only [push_cast, Nat.reduceAdd, Nat.reduceSub, Nat.reduceMul, Nat.reduceLT, Nat.reduceLeDiff, Nat.reduceEqDiff, Int.reduceToNat, ↓reduceIte, List.take_zero, List.map_nil, List.sum_nil]; rfl) (fun i hi => ?_)
      simp only [push_cast, Nat.reduceAdd, Nat.reduceSub, Nat.reduceMul, Nat.reduceLT, Nat.reduceLeDiff, Nat.reduceEqDiff, Int.reduceToNat, ↓reduceIte]
      refine cI (fun h => ?_) (fun h => ?_)
      · repeat refine ⟨by omega, ?_⟩
        refine (ih _ (List.getElem_mem (by omega)) (arg_bulk hb i (by omega)) _).to ?_
        simp only [push_cast, Nat.reduceAdd, Nat.reduceSub, Nat.reduceMul, Nat.reduceLT, Nat.reduceLeDiff, Nat.reduceEqDiff, Int.reduceToNat, ↓reduceIte]
        have g1 := hcb i
        have g2 := hcb (i + 1)
        have g3 := hround i (by omega)
        repeat' first | refine ⟨by omega, ?_⟩ | refine cI (fun _ => ?_) (fun _ => ?_)
        exact loopW_n (i + 1) (by omega) (by omega) (by simp only [push_cast, Nat.reduceAdd, Nat.reduceSub, Nat.reduceMul, Nat.reduceLT, Nat.reduceLeDiff, Nat.reduceEqDiff, Int.reduceToNat, ↓reduceIte, g3, Int.add_assoc])
      · simp only [push_cast, Nat.reduceAdd, Nat.reduceSub, Nat.reduceMul, Nat.reduceLT, Nat.reduceLeDiff, Nat.reduceEqDiff, Int.reduceToNat, ↓reduceIte, List.take_of_length_le (show xs.length ≤ i by omega)]
    · have h1 : oneP v n true = 0 := by rw [hone]; simp [hn]
      rw [h1]
      refine ACall_V (H.length) 28 [.tmp 4] Tryz.func138 rfl rfl rfl ?_
      simp only [push_cast, Nat.reduceAdd, Nat.reduceSub, Nat.reduceMul, Nat.reduceLT, Nat.reduceLeDiff, Nat.reduceEqDiff, Int.reduceToNat, ↓reduceIte]
      refine cI (fun h => absurd h hn) (fun _ => ?_)
      refine AW_loopW (maskG 30 [1, 3, 11, 0, 0]) (fun (i : Nat) => [(5, .int .i64 (((xs.take i).map (countP v)).sum)), (19, .int .i64 i)]) (fun i => H ++ [.cells [.str n, .bool true, .sl .none (encTs xs)]]) (fun i => i ≤ xs.length) (fun i => xs.length - i) 0 (Nat.zero_le _) (by simp only [push_cast, Nat.reduceAdd, Nat.reduceSub, Nat.reduceMul, Nat.reduceLT, Nat.reduceLeDiff, Nat.reduceEqDiff, Int.reduceToNat, ↓reduceIte, List.take_zero, List.map_nil, List.sum_nil]) (fun i hi => ?_)
      simp only [push_cast, Nat.reduceAdd, Nat.reduceSub, Nat.reduceMul, Nat.reduceLT, Nat.reduceLeDiff, Nat.reduceEqDiff, Int.reduceToNat, ↓reduceIte]
      refine cI (fun h => ?_) (fun h => ?_)
      · repeat refine ⟨by omega, ?_⟩
        refine (ih _ (List.getElem_mem (by omega)) (arg_bulk hb i (by omega)) _).to ?_
        simp only [push_cast, Nat.reduceAdd, Nat.reduceSub, Nat.reduceMul, Nat.reduceLT, Nat.reduceLeDiff, Nat.reduceEqDiff, Int.reduceToNat, ↓reduceIte]
        have g1 := hcb i
        have g2 := hcb (i + 1)
        have g3 := hround i (by omega)
        repeat' first | refine ⟨by omega, ?_⟩ | refine cI (fun _ => ?_) (fun _ => ?_)
        exact loopW_n (i + 1) (by omega) (by omega) (by simp only [push_cast, Nat.reduceAdd, Nat.reduceSub, Nat.reduceMul, Nat.reduceLT, Nat.reduceLeDiff, Nat.reduceEqDiff, Int.reduceToNat, ↓reduceIte, g3])
      · simp only [push_cast, Nat.reduceAdd, Nat.reduceSub, Nat.reduceMul, Nat.reduceLT, Nat.reduceLeDiff, Nat.reduceEqDiff, Int.reduceToNat, ↓reduceIte, List.take_of_length_le (show xs.length ≤ i by omega), Int.zero_add]
  | false =>
    have h1 : oneP v n false = 0 := by rw [hone]; simp
    rw [h1]
    refine ACall_V (H.length) 28 [.tmp 4] Tryz.func138 rfl rfl rfl ?_
    simp only [push_cast, Nat.reduceAdd, Nat.reduceSub, Nat.reduceMul, Nat.reduceLT, Nat.reduceLeDiff, Nat.reduceEqDiff, Int.reduceToNat, ↓reduceIte]
    refine AW_loopW (maskG 30 [1, 3, 11, 0, 0]) (fun (i : Nat) => [(5, .int .i64 (((xs.take i).map (countP v)).sum)), (19, .int .i64 i)]) (fun i => H ++ [.cells [.str n, .bool false, .sl .none (encTs xs)]]) (fun i => i ≤ xs.length) (fun i => xs.length - i) 0 (Nat.zero_le _) (by simp only [push_cast, Nat.reduceAdd, Nat.reduceSub, Nat.reduceMul, Nat.reduceLT, Nat.reduceLeDiff, Nat.reduceEqDiff, Int.reduceToNat, ↓reduceIte, List.take_zero, List.map_nil, List.sum_nil]) (fun i hi => ?_)
    simp only [push_cast, Nat.reduceAdd, Nat.reduceSub, Nat.reduceMul, Nat.reduceLT, Nat.reduceLeDiff, Nat.reduceEqDiff, Int.reduceToNat, ↓reduceIte]
    refine cI (fun h => ?_) (fun h => ?_)
    · repeat refine ⟨by omega, ?_⟩
      refine (ih _ (List.getElem_mem (by omega)) (arg_bulk hb i (by omega)) _).to ?_
      simp only [push_cast, Nat.reduceAdd, Nat.reduceSub, Nat.reduceMul, Nat.reduceLT, Nat.reduceLeDiff, Nat.reduceEqDiff, Int.reduceToNat, ↓reduceIte]
      have g1 := hcb i
      have g2 := hcb (i + 1)
      have g3 := hround i (by omega)
      repeat' first | refine ⟨by omega, ?_⟩ | refine cI (fun _ => ?_) (fun _ => ?_)
      exact loopW_n (i + 1) (by omega) (by omega) (by simp only [push_cast, Nat.reduceAdd, Nat.reduceSub, Nat.reduceMul, Nat.reduceLT, Nat.reduceLeDiff, Nat.reduceEqDiff, Int.reduceToNat, ↓reduceIte, g3])
    · simp only [push_cast, Nat.reduceAdd, Nat.reduceSub, Nat.reduceMul, Nat.reduceLT, Nat.reduceLeDiff, Nat.reduceEqDiff, Int.reduceToNat, ↓reduceIte, List.take_of_length_le (show xs.length ≤ i by omega), Int.zero_add]
theorem eqFunc_ac (xs ys : List Term) (g : Nat) (caps : List AV) (p : Term → Term → Bool) (H : List AObj) (hlen : xs.length < 1099511627776) (hlen2 : ys.length < 1099511627776) (hg : callOk Tryz.prog g = true) (hsc : ScopedL H.length caps)
    (hf : ∀ i (h : i < xs.length) (h' : i < ys.length) X, ACall Tryz.prog g (encT xs[i] :: encT ys[i] :: caps) X (fun r H' => r = .bool (p xs[i] ys[i]) ∧ H' = X)) :
    ACall Tryz.prog 108 [.sl .none (encTs xs), .sl .none (encTs ys), .fn g caps] H (fun r H' => r = .bool (decide (xs.length = ys.length) && (xs.zip ys).all fun q => p q.1 q.2) ∧ H' = H) := by
  refine ACall_V (H.length) 29 [.tmp 6] Tryz.func108 rfl rfl rfl ?_
  simp only [push_cast, Nat.reduceAdd, Nat.reduceSub, Nat.reduceMul, Nat.reduceLT, Nat.reduceLeDiff, Nat.reduceEqDiff, Int.reduceToNat, ↓reduceIte]
  refine cI (fun hl => ?_) (fun hl => ?_)
  · have hl : xs.length = ys.length := by omega
    have hz : (xs.zip ys).length = xs.length := by simp [hl]
    refine AW_loopW (maskG 32 [1, 0, 12, 0, 0]) (fun (i : Nat) => [(17, .int .i64 i)]) (fun _ => H) (fun i => i ≤ xs.length ∧ ((xs.zip ys).take i).all (fun q => p q.1 q.2) = true) (fun i => xs.length - i) 0 ⟨Nat.zero_le _, by simp⟩ (by simp only [push_cast, Nat.reduceAdd, Nat.reduceSub, Nat.reduceMul, Nat.reduceLT, Nat.reduceLeDiff, Nat.reduceEqDiff, Int.reduceToNat, ↓reduceIte, hsc]) (fun i hi => ?_)
    simp only [push_cast, Nat.reduceAdd, Nat.reduceSub, Nat.reduceMul, Nat.reduceLT, Nat.reduceLeDiff, Nat.reduceEqDiff, Int.reduceToNat, ↓reduceIte, hg]
    refine cI (fun h => ?_) (fun h => ?_)
    · repeat refine ⟨by omega, ?_⟩
      have hix : i < xs.length := by omega
      have hiy : i < ys.length := by omega
      refine (hf i hix hiy _).to ?_
      simp only [push_cast, Nat.reduceAdd, Nat.reduceSub, Nat.reduceMul, Nat.reduceLT, Nat.reduceLeDiff, Nat.reduceEqDiff, Int.reduceToNat, ↓reduceIte]
      refine cI (fun hp => ?_) (fun hp => ?_)
      · repeat' first | refine ⟨by omega, ?_⟩ | refine cI (fun _ => ?_) (fun _ => ?_)
        refine loopW_n (i + 1) ⟨by omega, all_take_true hi.2 (by omega) (by simpa using hp)⟩ (by omega) (by simp only [push_cast, Nat.reduceAdd, Nat.reduceSub, Nat.reduceMul, Nat.reduceLT, Nat.reduceLeDiff, Nat.reduceEqDiff, Int.reduceToNat, ↓reduceIte, hsc])
      · have ha := all_get (xs := xs.zip ys) (p := fun q => p q.1 q.2) (i := i) (by omega) (by simpa using hp)
        simp [ha]
    · have hs : (xs.zip ys).take i = xs.zip ys := List.take_of_length_le (by omega)
      rw [hs] at hi
      simp [hi.2, hl]
  · have hl' : ¬ xs.length = ys.length := by omega
    simp [hl']
theorem zip_all_eq : ∀ (xs ys : List Term), (decide (xs.length = ys.length) && (xs.zip ys).all fun q => decide (q.1 = q.2)) = decide (xs = ys)
  | [], [] => by simp
  | [], _ :: _ => by simp
  | _ :: _, [] => by simp
  | x :: xs, y :: ys => by
    have := zip_all_eq xs ys
    rw [Bool.eq_iff_iff] at this ⊢
    simp at this ⊢
    constructor
    · rintro ⟨a, b, c⟩; exact ⟨b, this.1 ⟨a, c⟩⟩
    · rintro ⟨b, c⟩; have := this.2 c; exact ⟨this.1, b, this.2⟩
theorem equal_ac (a : Term) : ∀ b : Term, a.bulk ≤ 1099511627775 → b.bulk ≤ 1099511627775 → ∀ H, ACall Tryz.prog 54 [encT a, encT b] H (fun r H' => r = .bool (decide (a = b)) ∧ H' = H) := by
  induction a using Term.ind with | _ n v xs ih
  rintro ⟨m, u, ys⟩ hb hb2 H
  have hlen := Term.len_le (n := n) (v := v) (xs := xs)
  have hlen2 := Term.len_le (n := m) (v := u) (xs := ys)
  refine ACall_V (H.length) 22 [.tmp 4] Tryz.func54 rfl rfl rfl ?_
  simp only [push_cast, Nat.reduceAdd, Nat.reduceSub, Nat.reduceMul, Nat.reduceLT, Nat.reduceLeDiff, Nat.reduceEqDiff, Int.reduceToNat, ↓reduceIte]
  refine cI (fun h1 => ?_) (fun h1 => ?_)
  · refine cI (fun h2 => ?_) (fun h2 => ?_)
    · have h2 : v = u := by simpa using h2
      refine (eqFunc_ac xs ys 54 [] (fun x y => decide (x = y)) _ (by omega) (by omega) ok54 (by simp [ScopedL]) (fun i h h' X => ih _ (List.getElem_mem h) _ (arg_bulk hb i h) (arg_bulk hb2 i h') X)).to ?_
      rw [zip_all_eq]
      simp only [push_cast, Nat.reduceAdd, Nat.reduceSub, Nat.reduceMul, Nat.reduceLT, Nat.reduceLeDiff, Nat.reduceEqDiff, Int.reduceToNat, ↓reduceIte]
      simp [h1, h2]
    · have h2 : ¬ v = u := by simpa using h2
      simp [h2]
  · simp [h1]
theorem compareString_ac (a b : List UInt8) (H : List AObj) : ACall Tryz.prog 166 [.str a, .str b] H (fun r H' => r = .int .i64 (Lib.compareBytes a b) ∧ H' = H) := by
  refine ACall_V (H.length) 6 [.tmp 4] Tryz.func166 rfl rfl rfl ?_
  simp only [push_cast, Nat.reduceAdd, Nat.reduceSub, Nat.reduceMul, Nat.reduceLT, Nat.reduceLeDiff, Nat.reduceEqDiff, Int.reduceToNat, ↓reduceIte]
  refine AOp_cmpstring a b xc184 rfl rfl ?_
  simp only [push_cast, Nat.reduceAdd, Nat.reduceSub, Nat.reduceMul, Nat.reduceLT, Nat.reduceLeDiff, Nat.reduceEqDiff, Int.reduceToNat, ↓reduceIte]
theorem compareStr_ac (a b : List UInt8) (H : List AObj) : ACall Tryz.prog 125 [.str a, .str b] H (fun r H' => r = .int .i64 (Lib.compareBytes a b) ∧ H' = H) := by
  refine ACall_V (H.length) 6 [.tmp 4] Tryz.func125 rfl rfl rfl ?_
  simp only [push_cast, Nat.reduceAdd, Nat.reduceSub, Nat.reduceMul, Nat.reduceLT, Nat.reduceLeDiff, Nat.reduceEqDiff, Int.reduceToNat, ↓reduceIte]
  refine (compareString_ac a b _).to ?_
  simp only [push_cast, Nat.reduceAdd, Nat.reduceSub, Nat.reduceMul, Nat.reduceLT, Nat.reduceLeDiff, Nat.reduceEqDiff, Int.reduceToNat, ↓reduceIte]
theorem isNaN_ac (a : Int) (H : List AObj) : ACall Tryz.prog 167 [.int .i64 a] H (fun r H' => r = .bool false ∧ H' = H) := by
  refine ACall_V (H.length) 5 [.tmp 2] Tryz.func167 rfl rfl rfl ?_
  simp only [push_cast, Nat.reduceAdd, Nat.reduceSub, Nat.reduceMul, Nat.reduceLT, Nat.reduceLeDiff, Nat.reduceEqDiff, Int.reduceToNat, ↓reduceIte]
theorem cmpCompare_ac (a b : Int) (H : List AObj) : ACall Tryz.prog 126 [.int .i64 a, .int .i64 b] H (fun r H' => r = .int .i64 (cmpI a b) ∧ H' = H) := by
  unfold cmpI
  refine ACall_V (H.length) 18 [.tmp 4] Tryz.func126 rfl rfl rfl ?_
  simp only [push_cast, Nat.reduceAdd, Nat.reduceSub, Nat.reduceMul, Nat.reduceLT, Nat.reduceLeDiff, Nat.reduceEqDiff, Int.reduceToNat, ↓reduceIte]
  refine (isNaN_ac a _).to ?_
  simp only [push_cast, Nat.reduceAdd, Nat.reduceSub, Nat.reduceMul, Nat.reduceLT, Nat.reduceLeDiff, Nat.reduceEqDiff, Int.reduceToNat, ↓reduceIte]
  refine (isNaN_ac b _).to ?_
  simp only [push_cast, Nat.reduceAdd, Nat.reduceSub, Nat.reduceMul, Nat.reduceLT, Nat.reduceLeDiff, Nat.reduceEqDiff, Int.reduceToNat, ↓reduceIte]
  refine cI (fun h => ?_) (fun h => cI (fun h2 => ?_) (fun h2 => ?_))
  · simp [h]
  · simp [h, h2]
  · simp [h, h2]
theorem cmpOr_ac (a b : Int) (H : List AObj) : ACall Tryz.prog 124 [.sl .none [.int .i64 a, .int .i64 b]] H (fun r H' => r = .int .i64 (if a ≠ 0 then a else b) ∧ H' = H) := by
  have e : [AV.int .i64 a, .int .i64 b] = encP [a, b] := rfl
  rw [e]
  refine ACall_V (H.length) 17 [.tmp 2] Tryz.func124 rfl rfl rfl ?_
  simp only [push_cast, Nat.reduceAdd, Nat.reduceSub, Nat.reduceMul, Nat.reduceLT, Nat.reduceLeDiff, Nat.reduceEqDiff, Int.reduceToNat, ↓reduceIte]
  refine AW_loopW (maskG 18 [3, 2, 0, 0]) (fun (i : Nat) => [(8, .int .i64 i)]) (fun _ => H) (fun i => i ≤ 2 ∧ ∀ j (h : j < [a, b].length), j < i → [a, b][j] = 0) (fun i => 2 - i) 0 ⟨Nat.zero_le _, fun j h h2 => by omega⟩ (by simp only [push_cast, Nat.reduceAdd, Nat.reduceSub, Nat.reduceMul, Nat.reduceLT, Nat.reduceLeDiff, Nat.reduceEqDiff, Int.reduceToNat, ↓reduceIte]) (fun i hi => ?_)
  simp only [push_cast, Nat.reduceAdd, Nat.reduceSub, Nat.reduceMul, Nat.reduceLT, Nat.reduceLeDiff, Nat.reduceEqDiff, Int.reduceToNat, ↓reduceIte]
  refine cI (fun h => ?_) (fun h => ?_)
  · have hi2 : i < 2 := by omega
    refine ⟨hi2, cI (fun h0 => ?_) (fun h0 => ?_)⟩
    · repeat' first | refine ⟨by omega, ?_⟩ | refine cI (fun _ => ?_) (fun _ => ?_)
      refine loopW_n (i + 1) ⟨by omega, fun j h1 hj => ?_⟩ (by omega) (by simp only [push_cast, Nat.reduceAdd, Nat.reduceSub, Nat.reduceMul, Nat.reduceLT, Nat.reduceLeDiff, Nat.reduceEqDiff, Int.reduceToNat, ↓reduceIte])
      rcases Nat.lt_or_ge j i with hj | hj
      · exact hi.2 j h1 hj
      · have hji : j = i := by omega
        subst hji; exact h0
    · have h01 : i = 0 ∨ i = 1 := by omega
      rcases h01 with rfl | rfl
      · have h0 : ¬ a = 0 := h0
        show a = _
        rw [if_pos h0]
      · have ha : a = 0 := hi.2 0 (by simp) (by omega)
        show b = _
        rw [if_neg (by simp [ha])]
  · have ha : a = 0 := hi.2 0 (by simp) (by omega)
    have hb : b = 0 := hi.2 1 (by simp) (by omega)
    subst ha; subst hb; rfl
theorem compareFunc_ac (xs ys : List Term) (g : Nat) (caps : List AV) (H : List AObj) (hlen : xs.length < 1099511627776) (hl : xs.length = ys.length) (hg : callOk Tryz.prog g = true) (hsc : ScopedL H.length caps)
    (hf : ∀ i (h : i < xs.length) (h' : i < ys.length) X, ACall Tryz.prog g (encT xs[i] :: encT ys[i] :: caps) X (fun r H' => r = .int .i64 (cmpT xs[i] ys[i]) ∧ H' = X)) :
    ACall Tryz.prog 127 [.sl .none (encTs xs), .sl .none (encTs ys), .fn g caps] H (fun r H' => r = .int .i64 (cmpTs xs ys) ∧ H' = H) := by
  refine ACall_V (H.length) 36 [.tmp 6] Tryz.func127 rfl rfl rfl ?_
  simp only [push_cast, Nat.reduceAdd, Nat.reduceSub, Nat.reduceMul, Nat.reduceLT, Nat.reduceLeDiff, Nat.reduceEqDiff, Int.reduceToNat, ↓reduceIte]
  refine AW_loopW (maskG 39 [0, 0, 0, 8, 0, 0]) (fun (i : Nat) => [(13, .int .i64 i)]) (fun _ => H) (fun i => i ≤ xs.length ∧ ∀ j (h1 : j < xs.length) (h2 : j < ys.length), j < i → cmpT xs[j] ys[j] = 0) (fun i => xs.length - i) 0 ⟨Nat.zero_le _, fun j h1 h2 h => by omega⟩ (by simp only [push_cast, Nat.reduceAdd, Nat.reduceSub, Nat.reduceMul, Nat.reduceLT, Nat.reduceLeDiff, Nat.reduceEqDiff, Int.reduceToNat, ↓reduceIte, hsc]) (fun i hi => ?_)
  simp only [push_cast, Nat.reduceAdd, Nat.reduceSub, Nat.reduceMul, Nat.reduceLT, Nat.reduceLeDiff, Nat.reduceEqDiff, Int.reduceToNat, ↓reduceIte, hg]
  refine cI (fun h => ?_) (fun h => ?_)
  · repeat refine ⟨by omega, ?_⟩
    have hix : i < xs.length := by omega
    have hiy : i < ys.length := by omega
    refine cI (fun h2 => by omega) (fun _ => ?_)
    repeat refine ⟨by omega, ?_⟩
    refine (hf i hix hiy _).to ?_
    simp only [push_cast, Nat.reduceAdd, Nat.reduceSub, Nat.reduceMul, Nat.reduceLT, Nat.reduceLeDiff, Nat.reduceEqDiff, Int.reduceToNat, ↓reduceIte]
    refine cI (fun hp => ?_) (fun hp => ?_)
    · repeat' first | refine ⟨by omega, ?_⟩ | refine cI (fun _ => ?_) (fun _ => ?_)
      refine loopW_n (i + 1) ⟨by omega, fun j j1 j2 hj => ?_⟩ (by omega) (by simp only [push_cast, Nat.reduceAdd, Nat.reduceSub, Nat.reduceMul, Nat.reduceLT, Nat.reduceLeDiff, Nat.reduceEqDiff, Int.reduceToNat, ↓reduceIte, hsc])
      rcases Nat.lt_or_ge j i with hj | hj
      · exact hi.2 j j1 j2 hj
      · have hji : j = i := by omega
        subst hji; exact hp
    · have hq : cmpTs xs ys = cmpT (xs[i]'hix) (ys[i]'hiy) := by rw [cmpTs_drop xs ys i hi.2 hl, List.drop_eq_getElem_cons hix, List.drop_eq_getElem_cons hiy, cmpTs_cons, if_pos hp]
      simp only [push_cast, Nat.reduceAdd, Nat.reduceSub, Nat.reduceMul, Nat.reduceLT, Nat.reduceLeDiff, Nat.reduceEqDiff, Int.reduceToNat, ↓reduceIte, hq]
  · have hq : cmpTs xs ys = 0 := by rw [cmpTs_drop xs ys i hi.2 hl, List.drop_eq_nil_of_le (show xs.length ≤ i by omega)]; exact cmpTs_nil _
    refine cI (fun h2 => by omega) (fun _ => ?_)
    simp only [push_cast, Nat.reduceAdd, Nat.reduceSub, Nat.reduceMul, Nat.reduceLT, Nat.reduceLeDiff, Nat.reduceEqDiff, Int.reduceToNat, ↓reduceIte, hq]
theorem compare_ac (s : Term) : ∀ t : Term, s.bulk ≤ 1099511627775 → t.bulk ≤ 1099511627775 → ∀ H, ACall Tryz.prog 87 [encT s, encT t] H (fun r H' => r = .int .i64 (cmpT s t) ∧ H' = H) := by
  induction s using Term.ind with | _ n v xs ih
  rintro ⟨m, u, ys⟩ hb hb2 H
  have hl1 := Term.len_le (n := n) (v := v) (xs := xs)
  have hl2 := Term.len_le (n := m) (v := u) (xs := ys)
  have hci := cmpI_len xs.length ys.length
  have hcm : cmpT (.mk n v xs) (.mk m u ys) = cmpC n v xs.length m u ys.length (cmpTs xs ys) := rfl
  rw [hcm]
  refine ACall_V (H.length) 33 [.tmp 4] Tryz.func87 rfl rfl rfl ?_
  simp only [push_cast, Nat.reduceAdd, Nat.reduceSub, Nat.reduceMul, Nat.reduceLT, Nat.reduceLeDiff, Nat.reduceEqDiff, Int.reduceToNat, ↓reduceIte]
  refine cI (fun h1 => ?_) (fun h1 => ?_)
  · have h1 : v = u := by simpa using h1
    apply AW_drawE [some 13, some 14, some 15, some 16, some 17, some 18, some 19, some 20, some 21, some 22, some 23, some 24, some 25, some 26, some 5] [([], _)] [none, none, none, none, none, none, none, none, none, none, none, none, none, none, none] 0 [(0, [], [2]), (1, [], [13]), (2, [], [3]), (3, [], [15]), (4, [], [14, 1]), (5, [], [2]), (6, [], [18]), (7, [], [19]), (8, [], [3]), (9, [], [21]), (10, [], [22]), (11, [], [20, 2]), (12, [], [17, 6]), (13, [], [25]), (14, [], [26])] [_, _, _, _, _, _, _, _, _, _, _, _, _, _, _]
    case' hm => exact dr
    case' hn => rfl
    case' hok => rfl
    case' hlen => rfl
    case' hd => rfl
    case' h0 => rfl
    case' hstep =>
     simp only [DAllG, push_cast, Option.isSome_some, Option.isSome_none]
     repeat' apply And.intro
     all_goals (apply DOne_V; simp only [push_cast, Nat.reduceAdd, Nat.reduceSub, Nat.reduceMul, Nat.reduceLT, Nat.reduceLeDiff, Nat.reduceEqDiff, Int.reduceToNat, ↓reduceIte] <;> first | exact rfl | omega | exact ⟨rfl, rfl⟩ | exact trivial | exact ⟨by omega, rfl⟩ | exact ⟨by omega, by omega, rfl⟩ | exact ⟨by omega, rfl, rfl⟩ | exact ⟨by omega, by omega, rfl, rfl⟩ | exact (compareStr_ac n m _).to ⟨rfl, rfl⟩ | exact (cmpCompare_ac _ _ _).to ⟨rfl, rfl⟩ | exact (cmpOr_ac _ _ _).to ⟨rfl, rfl⟩)
    case' hQ => skip
    simp only [push_cast, Nat.reduceAdd, Nat.reduceSub, Nat.reduceMul, Nat.reduceLT, Nat.reduceLeDiff, Nat.reduceEqDiff, Int.reduceToNat, ↓reduceIte]
    refine cI (fun h2 => ?_) (fun h2 => ?_)
    · have hc0 : Lib.compareBytes n m = 0 := by
        by_cases h : Lib.compareBytes n m = 0
        · exact h
        · rw [if_pos h] at h2; exact h2
      rw [if_neg (by simp [hc0])] at h2
      have hll : xs.length = ys.length := hci.1.1 h2
      refine (compareFunc_ac xs ys 87 [] _ (by omega) hll ok87 (by simp [ScopedL]) (fun i h h' X => ih _ (List.getElem_mem h) _ (arg_bulk hb i h) (arg_bulk hb2 i h') X)).to ?_
      simp only [push_cast, Nat.reduceAdd, Nat.reduceSub, Nat.reduceMul, Nat.reduceLT, Nat.reduceLeDiff, Nat.reduceEqDiff, Int.reduceToNat, ↓reduceIte]
      simp [cmpC, h1, hc0, hll]
    · by_cases hc0 : Lib.compareBytes n m = 0
      · rw [if_neg (by simp [hc0])] at h2 ⊢
        have h4 := hci.2 h2 (cmpTs xs ys)
        simp only [cmpC, h1, hc0, h4, ne_eq, not_true_eq_false, if_false]
      · simp [cmpC, h1, hc0]
  · have h1 : ¬ v = u := by simpa using h1
    refine cI (fun hv => ?_) (fun hv => ?_) <;> cases v <;> cases u <;> first | exact absurd rfl h1 | (simp [cmpC]; done) | (simp at hv)
end Ab
set_option maxRecDepth 10000
namespace Ab
open Go Go.Proofs
@[reducible] def encRu (r : Term × Term) : AV := .agg [.str r.1.name, .bool r.1.var, .sl .none (encTs r.1.args), .str r.2.name, .bool r.2.var, .sl .none (encTs r.2.args)]
theorem uniRu (l : List (Term × Term)) : Uni (5 + 1) (encL encRu l) = True := eq_true (uni_encL (enc := encRu) (k := 6) (fun _ => rfl) l)
theorem scRu_ (n : Nat) (l : List (Term × Term)) : ScopedL n (encL encRu l) = True := eq_true (scoped_encL (fun x => by simp [Scoped, ScopedL, scoped_encTs]) l)
attribute [push_cast] uniRu scRu_
theorem firstErr_app : ∀ a b : List Term, firstErr (a ++ b) = if firstErr a = 0 then firstErr b else firstErr a
  | [], b => by simp [firstErr]
  | t :: a, b => by
    have ih := firstErr_app a b
    rw [List.cons_append, firstErr, firstErr, ih]
    by_cases h : checkP t = 0 <;> simp [h]
theorem firstErr_at (ts : List Term) (i : Nat) (h : i < ts.length) (h0 : firstErr (ts.take i) = 0) (he : ¬ checkP ts[i] = 0) : firstErr ts = checkP ts[i] := by
  rw [firstErr_drop _ i h0, List.drop_eq_getElem_cons h]
  simp only [firstErr, he, if_false]
theorem all_ac (ts : List Term) (hlen : ts.length < 1099511627776) (hb : ∀ t, t ∈ ts → t.bulk ≤ 1099511627775) (H : List AObj) : ACall Tryz.prog 128 [.sl .none (encTs ts)] H (fun r H' => r = .int .i64 (firstErr ts) ∧ H' = H) := by
  refine ACall_V (H.length) 17 [.tmp 2] Tryz.func128 rfl rfl rfl ?_
  simp only [push_cast, Nat.reduceAdd, Nat.reduceSub, Nat.reduceMul, Nat.reduceLT, Nat.reduceLeDiff, Nat.reduceEqDiff, Int.reduceToNat, ↓reduceIte]
  refine AW_loopW (maskG 18 [6, 0, 0]) (fun (j : Nat) => [(8, .int .i64 j)]) (fun _ => H) (fun j => j ≤ ts.length ∧ firstErr (ts.take j) = 0) (fun j => ts.length - j) 0 ⟨Nat.zero_le _, rfl⟩ (by simp only [push_cast, Nat.reduceAdd, Nat.reduceSub, Nat.reduceMul, Nat.reduceLT, Nat.reduceLeDiff, Nat.reduceEqDiff, Int.reduceToNat, ↓reduceIte]) (fun j hj => ?_)
  simp only [push_cast, Nat.reduceAdd, Nat.reduceSub, Nat.reduceMul, Nat.reduceLT, Nat.reduceLeDiff, Nat.reduceEqDiff, Int.reduceToNat, ↓reduceIte]
  refine cI (fun h2 => ?_) (fun h2 => ?_)
  · repeat refine ⟨by omega, ?_⟩
    have hjl : j < ts.length := by omega
    refine (check_ac (ts[j]'hjl) (hb _ (List.getElem_mem hjl)) _).to ?_
    simp only [push_cast, Nat.reduceAdd, Nat.reduceSub, Nat.reduceMul, Nat.reduceLT, Nat.reduceLeDiff, Nat.reduceEqDiff, Int.reduceToNat, ↓reduceIte]
    refine cI (fun he => ?_) (fun he => ?_)
    · repeat' first | refine ⟨by omega, ?_⟩ | refine cI (fun _ => ?_) (fun _ => ?_)
      exact loopW_n (j + 1) ⟨by omega, firstErr_take _ j hjl hj.2 he⟩ (by omega) (by simp only [push_cast, Nat.reduceAdd, Nat.reduceSub, Nat.reduceMul, Nat.reduceLT, Nat.reduceLeDiff, Nat.reduceEqDiff, Int.reduceToNat, ↓reduceIte])
    · simp only [push_cast, Nat.reduceAdd, Nat.reduceSub, Nat.reduceMul, Nat.reduceLT, Nat.reduceLeDiff, Nat.reduceEqDiff, Int.reduceToNat, ↓reduceIte, firstErr_at ts j hjl hj.2 he]
  · have e := hj.2
    rw [List.take_of_length_le (by omega)] at e
    simp only [push_cast, Nat.reduceAdd, Nat.reduceSub, Nat.reduceMul, Nat.reduceLT, Nat.reduceLeDiff, Nat.reduceEqDiff, Int.reduceToNat, ↓reduceIte, e]
theorem allR_ac (ts : List Term) (hlen : ts.length < 1099511627776) (hb : ∀ t, t ∈ ts → t.bulk ≤ 1099511627775) (H : List AObj) : ACall Tryz.prog 82 [.sl .none (encTs ts)] H (fun r H' => r = .int .i64 (firstErr ts) ∧ H' = H) := by
  refine ACall_V (H.length) 17 [.tmp 2] Tryz.func82 rfl rfl rfl ?_
  simp only [push_cast, Nat.reduceAdd, Nat.reduceSub, Nat.reduceMul, Nat.reduceLT, Nat.reduceLeDiff, Nat.reduceEqDiff, Int.reduceToNat, ↓reduceIte]
  refine AW_loopW (maskG 18 [6, 0, 0]) (fun (j : Nat) => [(8, .int .i64 j)]) (fun _ => H) (fun j => j ≤ ts.length ∧ firstErr (ts.take j) = 0) (fun j => ts.length - j) 0 ⟨Nat.zero_le _, rfl⟩ (by simp only [push_cast, Nat.reduceAdd, Nat.reduceSub, Nat.reduceMul, Nat.reduceLT, Nat.reduceLeDiff, Nat.reduceEqDiff, Int.reduceToNat, ↓reduceIte]) (fun j hj => ?_)
  simp only [push_cast, Nat.reduceAdd, Nat.reduceSub, Nat.reduceMul, Nat.reduceLT, Nat.reduceLeDiff, Nat.reduceEqDiff, Int.reduceToNat, ↓reduceIte]
  refine cI (fun h2 => ?_) (fun h2 => ?_)
  · repeat refine ⟨by omega, ?_⟩
    have hjl : j < ts.length := by omega
    refine (checkR_ac (ts[j]'hjl) (hb _ (List.getElem_mem hjl)) _).to ?_
    simp only [push_cast, Nat.reduceAdd, Nat.reduceSub, Nat.reduceMul, Nat.reduceLT, Nat.reduceLeDiff, Nat.reduceEqDiff, Int.reduceToNat, ↓reduceIte]
    refine cI (fun he => ?_) (fun he => ?_)
    · repeat' first | refine ⟨by omega, ?_⟩ | refine cI (fun _ => ?_) (fun _ => ?_)
      exact loopW_n (j + 1) ⟨by omega, firstErr_take _ j hjl hj.2 he⟩ (by omega) (by simp only [push_cast, Nat.reduceAdd, Nat.reduceSub, Nat.reduceMul, Nat.reduceLT, Nat.reduceLeDiff, Nat.reduceEqDiff, Int.reduceToNat, ↓reduceIte])
    · simp only [push_cast, Nat.reduceAdd, Nat.reduceSub, Nat.reduceMul, Nat.reduceLT, Nat.reduceLeDiff, Nat.reduceEqDiff, Int.reduceToNat, ↓reduceIte, firstErr_at ts j hjl hj.2 he]
  · have e := hj.2
    rw [List.take_of_length_le (by omega)] at e
    simp only [push_cast, Nat.reduceAdd, Nat.reduceSub, Nat.reduceMul, Nat.reduceLT, Nat.reduceLeDiff, Nat.reduceEqDiff, Int.reduceToNat, ↓reduceIte, e]
def rT (rs : List (Term × Term)) : List Term := rs.flatMap fun r => [r.1, r.2]
theorem rT_take (rs : List (Term × Term)) (i : Nat) (h : i < rs.length) : rT (rs.take (i + 1)) = rT (rs.take i) ++ [rs[i].1, rs[i].2] := by
  unfold rT; rw [List.take_succ_eq_append_getElem h, List.flatMap_append]; simp
theorem rT_split (rs : List (Term × Term)) (i : Nat) (h : i < rs.length) : rT rs = rT (rs.take i) ++ ([rs[i].1, rs[i].2] ++ rT (rs.drop (i + 1))) := by
  have : rs = rs.take i ++ (rs[i] :: rs.drop (i + 1)) := by rw [← List.drop_eq_getElem_cons h, List.take_append_drop]
  have h2 := congrArg rT this
  rw [h2]
  unfold rT; rw [List.flatMap_append, List.flatMap_cons]
theorem rT_nil : rT [] = [] := (rfl)
theorem mem_rT {rs : List (Term × Term)} {t : Term} : t ∈ rT rs ↔ ∃ r, r ∈ rs ∧ (t = r.1 ∨ t = r.2) := by
  unfold rT; rw [List.mem_flatMap]
  constructor
  · rintro ⟨r, hr, h⟩; simp at h; exact ⟨r, hr, h⟩
  · rintro ⟨r, hr, h⟩; exact ⟨r, hr, by simp; exact h⟩
def rulesP (rs : List (Term × Term)) : Int := if rs.length > 64 then 3 else firstErr (rT rs)
theorem checkRules_ac (rs : List (Term × Term)) (hlen : rs.length < 1099511627776) (hb : ∀ r, r ∈ rs → r.1.bulk ≤ 1099511627775 ∧ r.2.bulk ≤ 1099511627775) (H : List AObj) : ACall Tryz.prog 89 [.sl .none (encL encRu rs)] H (fun r H' => r = .int .i64 (rulesP rs) ∧ H' = H) := by
  refine ACall_V (H.length) 24 [.tmp 2] Tryz.func89 rfl rfl rfl ?_
  simp only [push_cast, Nat.reduceAdd, Nat.reduceSub, Nat.reduceMul, Nat.reduceLT, Nat.reduceLeDiff, Nat.reduceEqDiff, Int.reduceToNat, ↓reduceIte]
  refine cI (fun h0 => ?_) (fun h0 => ?_)
  · have e : rulesP rs = 3 := by unfold rulesP; rw [if_pos (by omega)]
    simp only [push_cast, Nat.reduceAdd, Nat.reduceSub, Nat.reduceMul, Nat.reduceLT, Nat.reduceLeDiff, Nat.reduceEqDiff, Int.reduceToNat, ↓reduceIte, e]
  · have hP : rulesP rs = firstErr (rT rs) := by unfold rulesP; rw [if_neg (by omega)]
    refine AW_loopW (maskG 25 [9, 0, 0]) (fun (i : Nat) => [(11, .int .i64 i)]) (fun _ => H) (fun i => i ≤ rs.length ∧ firstErr (rT (rs.take i)) = 0) (fun i => rs.length - i) 0 ⟨Nat.zero_le _, rfl⟩ (by simp only [push_cast, Nat.reduceAdd, Nat.reduceSub, Nat.reduceMul, Nat.reduceLT, Nat.reduceLeDiff, Nat.reduceEqDiff, Int.reduceToNat, ↓reduceIte]) (fun i hi => ?_)
    simp only [push_cast, Nat.reduceAdd, Nat.reduceSub, Nat.reduceMul, Nat.reduceLT, Nat.reduceLeDiff, Nat.reduceEqDiff, Int.reduceToNat, ↓reduceIte]
    refine cI (fun h => ?_) (fun h => ?_)
    · repeat refine ⟨by omega, ?_⟩
      have hil : i < rs.length := by omega
      have hbi := hb _ (List.getElem_mem hil)
      have hal := fun H => all_ac [(rs[i]'hil).1, (rs[i]'hil).2] (by simp) (by intro t ht; simp at ht; rcases ht with rfl | rfl; exact hbi.1; exact hbi.2) H
      rw [encTs_cons, encTs_cons, encTs_nil] at hal
      refine (hal _).to ?_
      simp only [push_cast, Nat.reduceAdd, Nat.reduceSub, Nat.reduceMul, Nat.reduceLT, Nat.reduceLeDiff, Nat.reduceEqDiff, Int.reduceToNat, ↓reduceIte]
      refine cI (fun he => ?_) (fun he => ?_)
      · repeat' first | refine ⟨by omega, ?_⟩ | refine cI (fun _ => ?_) (fun _ => ?_)
        refine loopW_n (i + 1) ⟨by omega, ?_⟩ (by omega) (by simp only [push_cast, Nat.reduceAdd, Nat.reduceSub, Nat.reduceMul, Nat.reduceLT, Nat.reduceLeDiff, Nat.reduceEqDiff, Int.reduceToNat, ↓reduceIte])
        rw [rT_take rs i hil, firstErr_app, if_pos hi.2]; exact he
      · have e : firstErr (rT rs) = firstErr [(rs[i]'hil).1, (rs[i]'hil).2] := by
          rw [rT_split rs i hil, firstErr_app, if_pos hi.2, firstErr_app, if_neg he]
        simp only [push_cast, Nat.reduceAdd, Nat.reduceSub, Nat.reduceMul, Nat.reduceLT, Nat.reduceLeDiff, Nat.reduceEqDiff, Int.reduceToNat, ↓reduceIte, hP, e]
    · have e := hi.2
      rw [List.take_of_length_le (by omega)] at e
      simp only [push_cast, Nat.reduceAdd, Nat.reduceSub, Nat.reduceMul, Nat.reduceLT, Nat.reduceLeDiff, Nat.reduceEqDiff, Int.reduceToNat, ↓reduceIte, hP, e]
theorem rulesR_ac (rs : List (Term × Term)) (hlen : rs.length < 1099511627776) (hb : ∀ r, r ∈ rs → r.1.bulk ≤ 1099511627775 ∧ r.2.bulk ≤ 1099511627775) (H : List AObj) : ACall Tryz.prog 98 [.sl .none (encL encRu rs)] H (fun r H' => r = .int .i64 (rulesP rs) ∧ H' = H) := by
  refine ACall_V (H.length) 24 [.tmp 2] Tryz.func98 rfl rfl rfl ?_
  simp only [push_cast, Nat.reduceAdd, Nat.reduceSub, Nat.reduceMul, Nat.reduceLT, Nat.reduceLeDiff, Nat.reduceEqDiff, Int.reduceToNat, ↓reduceIte]
  refine cI (fun h0 => ?_) (fun h0 => ?_)
  · have e : rulesP rs = 3 := by unfold rulesP; rw [if_pos (by omega)]
    simp only [push_cast, Nat.reduceAdd, Nat.reduceSub, Nat.reduceMul, Nat.reduceLT, Nat.reduceLeDiff, Nat.reduceEqDiff, Int.reduceToNat, ↓reduceIte, e]
  · have hP : rulesP rs = firstErr (rT rs) := by unfold rulesP; rw [if_neg (by omega)]
    refine AW_loopW (maskG 25 [9, 0, 0]) (fun (i : Nat) => [(11, .int .i64 i)]) (fun _ => H) (fun i => i ≤ rs.length ∧ firstErr (rT (rs.take i)) = 0) (fun i => rs.length - i) 0 ⟨Nat.zero_le _, rfl⟩ (by simp only [push_cast, Nat.reduceAdd, Nat.reduceSub, Nat.reduceMul, Nat.reduceLT, Nat.reduceLeDiff, Nat.reduceEqDiff, Int.reduceToNat, ↓reduceIte]) (fun i hi => ?_)
    simp only [push_cast, Nat.reduceAdd, Nat.reduceSub, Nat.reduceMul, Nat.reduceLT, Nat.reduceLeDiff, Nat.reduceEqDiff, Int.reduceToNat, ↓reduceIte]
    refine cI (fun h => ?_) (fun h => ?_)
    · repeat refine ⟨by omega, ?_⟩
      have hil : i < rs.length := by omega
      have hbi := hb _ (List.getElem_mem hil)
      have hal := fun H => allR_ac [(rs[i]'hil).1, (rs[i]'hil).2] (by simp) (by intro t ht; simp at ht; rcases ht with rfl | rfl; exact hbi.1; exact hbi.2) H
      rw [encTs_cons, encTs_cons, encTs_nil] at hal
      refine (hal _).to ?_
      simp only [push_cast, Nat.reduceAdd, Nat.reduceSub, Nat.reduceMul, Nat.reduceLT, Nat.reduceLeDiff, Nat.reduceEqDiff, Int.reduceToNat, ↓reduceIte]
      refine cI (fun he => ?_) (fun he => ?_)
      · repeat' first | refine ⟨by omega, ?_⟩ | refine cI (fun _ => ?_) (fun _ => ?_)
        refine loopW_n (i + 1) ⟨by omega, ?_⟩ (by omega) (by simp only [push_cast, Nat.reduceAdd, Nat.reduceSub, Nat.reduceMul, Nat.reduceLT, Nat.reduceLeDiff, Nat.reduceEqDiff, Int.reduceToNat, ↓reduceIte])
        rw [rT_take rs i hil, firstErr_app, if_pos hi.2]; exact he
      · have e : firstErr (rT rs) = firstErr [(rs[i]'hil).1, (rs[i]'hil).2] := by
          rw [rT_split rs i hil, firstErr_app, if_pos hi.2, firstErr_app, if_neg he]
        simp only [push_cast, Nat.reduceAdd, Nat.reduceSub, Nat.reduceMul, Nat.reduceLT, Nat.reduceLeDiff, Nat.reduceEqDiff, Int.reduceToNat, ↓reduceIte, hP, e]
    · have e := hi.2
      rw [List.take_of_length_le (by omega)] at e
      simp only [push_cast, Nat.reduceAdd, Nat.reduceSub, Nat.reduceMul, Nat.reduceLT, Nat.reduceLeDiff, Nat.reduceEqDiff, Int.reduceToNat, ↓reduceIte, hP, e]
end Ab
set_option maxRecDepth 10000
namespace Ab
open Go Go.Proofs Go.Proofs.YtpgjcbeoipldgaaGreat
section
variable {H : Type}
theorem kdRule : kindOf Tryz.prog 94 = .struct [25, 25] := by kernel_rfl
theorem kdRules : kindOf Tryz.prog 22 = .slice 94 := by kernel_rfl
theorem agRule : aggK Tryz.prog 94 = true := by unfold aggK; rw [kdRule]
theorem len_sum {α : Type} (f : α → Nat) (xs : List α) {k : Nat} (h : (xs.map fun x => f x + 1).sum ≤ k) : xs.length ≤ k ∧ ∀ x, x ∈ xs → f x ≤ k := by
  induction xs generalizing k with
  | nil => simp
  | cons a r ih =>
    simp only [List.map_cons, List.sum_cons] at h
    obtain ⟨h1, h2⟩ := ih (k := k - (f a + 1)) (by omega)
    refine ⟨by simp; omega, fun x hx => ?_⟩
    rcases List.mem_cons.1 hx with rfl | hx
    · omega
    · have := h2 x hx; omega
theorem rule_form (n : Nat) (d : DataW H) (avs : List AV) (h : toAV Tryz.prog n 94 d = some avs) : ∃ r : Term × Term, .agg avs = encRu r ∧ r.1.bulk + r.2.bulk + 1 ≤ Rows.uptoBulk d := by
  obtain ⟨m, parts, avss, rfl, rfl, hl, hm, rfl⟩ := toAV_struct kdRule h
  match parts, hl, hm with
  | [d1, d2], _, hm =>
    obtain ⟨h1, h2⟩ := mapM_get hm
    match avss, h1, h2 with
    | [a1, a2], _, h2 =>
      obtain ⟨a, e1, b1⟩ := term_form m d1 a1 (h2 0 (by simp) (by simp))
      obtain ⟨b, e2, b2⟩ := term_form m d2 a2 (h2 1 (by simp) (by simp))
      injection e1 with e1; injection e2 with e2
      subst e1; subst e2
      exact ⟨(a, b), by simp, by simp only [Rows.uptoBulk, Rows.uptoBulkAll]; omega⟩
theorem rules_form (n : Nat) (d : DataW H) (avs : List AV) (h : toAV Tryz.prog n 22 d = some avs) : ∃ rs : List (Term × Term), avs = [.sl .none (encL encRu rs)] ∧ rs.length ≤ Rows.uptoBulk d ∧ ∀ r, r ∈ rs → r.1.bulk + r.2.bulk ≤ Rows.uptoBulk d := by
  obtain ⟨xs, ds, e3, hw, _, hd⟩ := row_form (fun r : Term × Term => encRu r) (fun r => r.1.bulk + r.2.bulk + 1) Rows.uptoBulk kdRules (n := n) (fun k d avs _ he => by
    obtain ⟨t, x1, x2⟩ := rule_form k d avs he
    exact ⟨t, by rw [agRule]; exact x1, x2⟩) h
  have hb := bulk_row hd
  have := len_sum (fun r : Term × Term => r.1.bulk + r.2.bulk) xs (k := Rows.uptoBulk d) (by omega)
  exact ⟨xs, e3, this.1, this.2⟩
end
end Ab
set_option maxRecDepth 10000
set_option linter.unusedVariables false
set_option linter.unusedSimpArgs false
namespace Go.Proofs
open Go.Shelf Go.RowKit Go.Lib Ab
theorem overlaps_no {P : Program} (w : World) (tS tR e : TypeId) (ht : P.underlying tS = some (.slice e)) (size : Nat) (hz : ∀ w, (Go.sizeOf e).run P w = .ok size w)
    (a b : Addr) (la ca lb cb : Nat) (hne : a.block ≠ b.block) (tA tB : TypeId) (kA kB : Nat)
    (hsa : w.shape? a.block = some (tA, kA)) (hkA : kA ≠ 0) (hsb : w.shape? b.block = some (tB, kB)) (hkB : kB ≠ 0)
    (hfb : w.frozen? b = false) (hfe : w.frozen? { block := b.block, off := kB } = false) :
    (Extern.SlicesOverlaps.overlaps #[tS, tS] #[tR] #[.slice (some a) la ca, .slice (some b) lb cb]).run P w = .ok (.bool false) w := by
  have hnb : (a.block != b.block) = true := by simpa using hne
  have hnb' : (a.block == b.block) = false := by simpa using hne
  change Sem.run P (α := Value) (do
    let some t := (#[tS, tS] : Array TypeId)[0]? | stuck "slices.overlaps: no parameter types"
    let .slice elem ← underlying t | stuck "slices.overlaps: slice type expected"
    let size ← sizeOf elem
    match (some a : Option Addr), (some b : Option Addr) with
    | some a, some b =>
      if la = 0 ∨ lb = 0 ∨ size = 0 then pure (Value.bool false)
      else if a.block != b.block && (← frozen a) && (← frozen b) then unsupported .addressObserved
      else do
        if a.block != b.block then do
          noView a; noView b
          if ← mayBeOne a b then return Value.bool ((← choose (.extern "sameAddr.stringBytes" 2)) == 1)
        pure (Value.bool (a.block == b.block && a.off < b.off + lb * size && b.off < a.off + la * size))
    | _, _ => pure (Value.bool false)) w = _
  by_cases h0 : la = 0 ∨ lb = 0 ∨ size = 0
  · simp [run_underlying ht, hz, h0]
  · cases kB with
    | zero => exact absurd rfl hkB
    | succ kB =>
      cases kA with
      | zero => exact absurd rfl hkA
      | succ kA =>
        cases hfa : w.frozen? a with
        | true => simp [run_underlying ht, hz, h0, hnb, hnb', frozen, noView, viewAt, mayBeOne, stringish, shape, Sem.run, hsa, hsb, hfa, hfb, hfe]
        | false =>
          cases hfA : w.frozen? { block := a.block, off := kA + 1 } with
          | true => simp [run_underlying ht, hz, h0, hnb, hnb', frozen, noView, viewAt, mayBeOne, stringish, shape, Sem.run, hsa, hsb, hfa, hfb, hfe, hfA]
          | false => simp [run_underlying ht, hz, h0, hnb, hnb', frozen, noView, viewAt, mayBeOne, stringish, shape, Sem.run, hsa, hsb, hfa, hfb, hfe, hfA]
theorem run_copy_k {P : Program} (w : World) (dT sT ty elem : TypeId) (k : Nat) (b o dLen dCap : Nat) (a : Addr) (sLen sCap : Nat) (cs : List Value)
    (hu : P.underlying dT = some (.slice elem)) (hs : (P.info? elem).map (·.size) = some k) (hn : cs.length = Nat.min sLen dLen * k)
    (hsrc : ∀ j v, cs[j]? = some v → w.cell? (a.add j) = some v) (hc : ∀ j, j < cs.length → (w.cell? ⟨b, o + j, none⟩).isSome = true) (hf : ∀ j, j < cs.length → w.frozen? ⟨b, o + j, none⟩ = false) (h1 : ∀ v ∈ cs, v.oneCell' = true) :
    (Builtin.copy_ #[dT, sT] ty #[.slice (some ⟨b, o, none⟩) dLen dCap, .slice (some a) sLen sCap]).run P w = .ok (goInt (Nat.min sLen dLen)) (w.setCells b o cs) := by
  have hl := run_loadCells_list (P := P) w a cs hsrc
  have hst := run_storeCells_cells (P := P) b o cs 0 w (by simpa using hc) (by simpa using hf) h1
  cases hq : P.info? elem with
  | none => simp [hq] at hs
  | some i =>
    have hi : i.size = k := by simpa [hq] using hs
    simp [Builtin.copy_, run_underlying hu, Builtin.lenOf, Builtin.firstCells, sizeOf, typeInfo, hq, hi, ← hn, hl, hst]
set_option maxHeartbeats 4000000 in
set_option maxRecDepth 100000 in
theorem Tryz.insShift (b n c i vb voff vc : Nat) (cs vs : List Value) (w : World) (hi : i < n) (hroom : n + 1 ≤ c) (hc63 : c ≤ 9223372036854775807) (hvb : vb ≠ b)
    (hcl : cs.length = n * 4) (hvl : vs.length = 4)
    (hcs : ∀ j v, cs[j]? = some v → w.cell? ⟨b, j, none⟩ = some v) (hsp : ∀ j, j < (n + 1) * 4 → (w.cell? ⟨b, j, none⟩).isSome = true) (hfz : ∀ j, w.frozen? ⟨b, j, none⟩ = false)
    (hvs : ∀ j v, vs[j]? = some v → w.cell? ⟨vb, voff + j, none⟩ = some v) (h1c : ∀ v ∈ cs, v.oneCell' = true) (h1v : ∀ v ∈ vs, v.oneCell' = true)
    (tA tB : TypeId) (kA kB : Nat) (hsa : w.shape? vb = some (tA, kA)) (hkA : kA ≠ 0) (hsb : w.shape? b = some (tB, kB)) (hkB : kB ≠ 0) :
    Calls Tryz.prog 201 #[.slice (some ⟨b, 0, none⟩) n c, .int .i64 i, .slice (some ⟨vb, voff, none⟩) 1 vc] w fun e w' =>
      e = .returned (.slice (some ⟨b, 0, none⟩) (n + 1) c) ∧ w' = (w.drew.setCells b ((i + 1) * 4) (cs.drop (i * 4))).setCells b (i * 4) vs := by
  have mixed := dr
  have hz2 : ¬ ((i : Int) = (n : Int)) := by omega
  have hsz : (Tryz.prog.info? 107).map (·.size) = some 4 := sz107
  have hov : ∀ lb cb, (callFunc 206 #[.slice (some ⟨vb, voff, none⟩) 1 vc, .slice (some ⟨b, (i + 1) * 4, none⟩) lb cb]).run Tryz.prog w = .ok (.value (.bool false)) w := fun lb cb => by
    rw [run_callFunc_extern Tryz.func206 (by kernel_rfl) (by kernel_rfl) (by kernel_rfl) (e := Extern.SlicesOverlaps.overlaps #[49, 49] #[4]) (by kernel_rfl),
      overlaps_no w 49 4 107 Tryz.underlying49 4 Tryz.sizeOf107 ⟨vb, voff, none⟩ ⟨b, (i + 1) * 4, none⟩ 1 vc lb cb hvb tA tB kA kB hsa hkA hsb hkB (hfz _) (hfz _)]
    rfl
  have hdl : (cs.drop (i * 4)).length = (n - i) * 4 := by rw [List.length_drop, hcl, Nat.sub_mul]
  have hsz1 : ∀ j, j < (cs.drop (i * 4)).length → (i + 1) * 4 + j < (n + 1) * 4 := fun j hj => by rw [hdl] at hj; omega
  have hw1 : IntKind.i64.wrap ((i : Int) + 1) = (i : Int) + 1 := by rw [IntKind.wrap_i64]; omega
  have hw2 : IntKind.i64.wrap ((n : Int) + 1) = (n : Int) + 1 := by rw [IntKind.wrap_i64]; omega
  have hb1 : (0 : Int) ≤ (i : Int) + 1 := by omega
  have hin : i ≤ n := by omega
  have htn : ((i : Int) + 1).toNat = i + 1 := by omega
  have htn2 : ((n : Int) + 1).toNat = n + 1 := by omega
  have hb2 : ¬ (c = i + 1) := by omega
  have hb3 : (i : Int) ≤ (n : Int) + 1 := by omega
  have hb4 : ¬ (c = i) := by omega
  have hb5 : ¬ ((c : Int) < (n : Int) + 1) := by omega
  have hb6 : n + 1 - (i + 1) = n - i := by omega
  have hmin1 : Nat.min (n + 1 - i) (n - i) = n - i := by simp only [Nat.min_def]; split <;> omega
  have hmin2 : Nat.min 1 (n + 1 - i) = 1 := by simp only [Nat.min_def]; split <;> omega
  have hcp1 : ∀ ty dc sc, (Builtin.copy_ #[49, 49] ty #[.slice (some ⟨b, (i + 1) * 4, none⟩) (n - i) dc, .slice (some ⟨b, i * 4, none⟩) (n + 1 - i) sc]).run Tryz.prog w.drew = .ok (goInt (n - i : Nat)) (w.drew.setCells b ((i + 1) * 4) (cs.drop (i * 4))) := fun ty dc sc => by
    have := run_copy_k (P := Tryz.prog) w.drew 49 49 ty 107 4 b ((i + 1) * 4) (n - i) dc ⟨b, i * 4, none⟩ (n + 1 - i) sc (cs.drop (i * 4)) Tryz.underlying49 hsz (by rw [hdl, hmin1])
      (fun j v hj => by rw [Addr.add_lit]; exact hcs (i * 4 + j) v (by rwa [List.getElem?_drop] at hj))
      (fun j hj => hsp _ (hsz1 j hj)) (fun j hj => hfz _) (fun v hv => h1c v (List.mem_of_mem_drop hv))
    rw [hmin1] at this
    exact this
  obtain ⟨W1, hW1⟩ : ∃ W1, W1 = w.drew.setCells b ((i + 1) * 4) (cs.drop (i * 4)) := ⟨_, rfl⟩
  have hsp1 : ∀ k, k < (n + 1) * 4 → (W1.cell? ⟨b, k, none⟩).isSome = true := fun k hk => by
    rw [hW1]
    exact isSome_setCells b _ _ w.drew (fun j hj => hsp _ (hsz1 j hj)) _ (hsp k hk)
  have hcp2 : ∀ (W : World), (∀ x, W.cell? x = W1.cell? x) → (∀ x, W.frozen? x = W1.frozen? x) → ∀ ty dc, (Builtin.copy_ #[49, 49] ty #[.slice (some ⟨b, i * 4, none⟩) (n + 1 - i) dc, .slice (some ⟨vb, voff, none⟩) 1 vc]).run Tryz.prog W = .ok (goInt (1 : Nat)) (W.setCells b (i * 4) vs) := fun W hWc hWf ty dc => by
    have := run_copy_k (P := Tryz.prog) W 49 49 ty 107 4 b (i * 4) (n + 1 - i) dc ⟨vb, voff, none⟩ 1 vc vs Tryz.underlying49 hsz (by rw [hvl, hmin2])
      (fun j v hj => by
        rw [Addr.add_lit, hWc, hW1, World.cell?_setCells_out b _ _ _ _ (fun h _ => absurd h hvb)]
        exact hvs j v hj)
      (fun j hj => by rw [hWc]; exact hsp1 _ (by omega)) (fun j hj => by rw [hWf, hW1, World.frozen?_setCells]; exact hfz _) h1v
    rw [hmin2] at this
    exact this
  rw [← hW1] at hcp1
  go_enter Tryz.func201, Tryz.ntmps201
  go_wp2_with (simp only [hov])
  go_region_law_o (refine step_copy_runI rfl _ _ 49 49 rfl _ _ (by simp [Act.eval, Act.put]) (by simp [Act.eval, Act.put]) (hcp1 _ _ _) ?_)
  go_wp2_with (at_builtin; refine wpList_copy_runI _ rfl _ _ 49 49 rfl _ _ rfl rfl (hcp2 _ (fun _ => rfl) (fun _ => rfl) _ _) ?_)
  go_ret
  first | exact ⟨rfl, rfl⟩ | exact ⟨rfl, by rw [hW1]⟩
set_option maxHeartbeats 4000000 in
set_option maxRecDepth 100000 in
theorem Tryz.insGrow (b n c i vb voff vc : Nat) (cs vs : List Value) (w : World) (zs : Array Value) (hi : i < n) (hnc : n ≤ c) (hroom : c < n + 1) (hbig : (n + 1) * 64 ≤ 140737488355328)
    (hcl : cs.length = n * 4) (hvl : vs.length = 4)
    (hcs : ∀ j v, cs[j]? = some v → w.cell? ⟨b, j, none⟩ = some v)
    (hvs : ∀ j v, vs[j]? = some v → w.cell? ⟨vb, voff + j, none⟩ = some v) (h1c : ∀ v ∈ cs, v.oneCell' = true) (h1v : ∀ v ∈ vs, v.oneCell' = true) :
    Calls Tryz.prog 201 #[.slice (some ⟨b, 0, none⟩) n c, .int .i64 i, .slice (some ⟨vb, voff, none⟩) 1 vc] w fun e w' =>
      ∃ (G : Nat) (z : Array Value), n + 1 ≤ G ∧ G ≤ maxLen ∧ z.size = 4 ∧ e = .returned (.slice (some ⟨w.heap.size, 0, none⟩) (n + 1) G) ∧
      w' = (((w.alloc (.cells ((cs.take (i * 4)).toArray ++ Builtin.zeroCells z (n + 1 - i) ++ Builtin.zeroCells z (G - (n + 1))) 107)).drew.setCells w.heap.size (i * 4) vs).drew).setCells w.heap.size ((i + 1) * 4) (cs.drop (i * 4)) := by
  have mixed := dr
  obtain ⟨i0, z0, hi0, hzs, hzb, hz0, hzc⟩ := info_of sz107 by107 zr107
  have hz2 : ¬ ((i : Int) = (n : Int)) := by omega
  have hz3 : (c : Int) < (n : Int) + 1 := by omega
  have hsz : (Tryz.prog.info? 107).map (·.size) = some 4 := sz107
  have hbw : b < w.heap.size := block_lt_of_cell (hcs 0 _ (List.getElem?_eq_getElem (by omega)))
  have hvw : vb < w.heap.size := block_lt_of_cell (hvs 0 _ (List.getElem?_eq_getElem (by omega)))
  have hkk : (n : Int) + 1 - (i : Int) = ((n + 1 - i : Nat) : Int) := by omega
  have hik : i + (n + 1 - i) = n + 1 := by omega
  have htl : (cs.take (i * 4)).length = i * 4 := by rw [List.length_take, hcl]; omega
  have hold : (Builtin.firstCells i0.size i (.slice (some ⟨b, 0, none⟩) i c)).run Tryz.prog w.drew = .ok (cs.take (i * 4)).toArray w.drew := by
    rw [hzs]
    exact run_firstCells_some w.drew 4 i ⟨b, 0, none⟩ i c (cs.take (i * 4)) (by rw [htl]) (fun j v hj => by
      rw [Addr.add_lit]
      rw [List.getElem?_take] at hj
      split at hj
      · rw [Nat.zero_add]; exact hcs j v hj
      · cases hj)
  have hrz : ∀ ty, (Builtin.append_ #[49, 3] ty #[.slice (some ⟨b, 0, none⟩) i c, .int .i64 ((n : Int) + 1 - (i : Int))]).run Tryz.prog w =
      .ok (.slice (some ⟨w.heap.size, 0, none⟩) (n + 1) (grownCap w (n + 1) c 107)) (w.drew.alloc (.cells ((cs.take (i * 4)).toArray ++ Builtin.zeroCells z0.cells (n + 1 - i) ++ Builtin.zeroCells z0.cells (grownCap w (n + 1) c 107 - (n + 1))) 107)) := fun ty => by
    have h := Lib.run_append_grow_zeros w 49 3 ty 107 i0 z0 .i64 .i64 Tryz.underlying49 Tryz.underlying3 hi0 hz0 (some ⟨b, 0, none⟩) i c (cs.take (i * 4)) hold (n + 1 - i) (by omega) (by omega) (by omega) (by omega) (by rw [hzb]; omega) (by rw [hzb, hik]; exact growslice_fits hroom hbig)
    rw [hik] at h
    rw [hkk]
    exact h
  obtain ⟨G, hG⟩ : ∃ G, G = grownCap w (n + 1) c 107 := ⟨_, rfl⟩
  have hzsz : z0.cells.size = 4 := by have := congrArg List.length hzc; simpa using this
  obtain ⟨ROW, hROW⟩ : ∃ ROW : Array Value, ROW = (cs.take (i * 4)).toArray ++ Builtin.zeroCells z0.cells (n + 1 - i) ++ Builtin.zeroCells z0.cells (G - (n + 1)) := ⟨_, rfl⟩
  rw [← hG] at hrz
  rw [← hROW] at hrz
  have hRl : (n + 1) * 4 ≤ ROW.size := by
    rw [hROW]
    simp only [Array.size_append, List.size_toArray, size_zeroCells, hzsz, htl]
    omega
  obtain ⟨W1, hW1⟩ : ∃ W1, W1 = w.drew.alloc (.cells ROW 107) := ⟨_, rfl⟩
  rw [← hW1] at hrz
  have hN : ∀ j, j < (n + 1) * 4 → (W1.cell? ⟨w.heap.size, j, none⟩).isSome = true := fun j hj => by
    rw [hW1, World.cell?_alloc_at (w := w.drew) ROW _ w.heap.size j rfl, Array.getElem?_eq_getElem (by omega)]; rfl
  have hNf : ∀ j, W1.frozen? ⟨w.heap.size, j, none⟩ = false := fun j => by rw [hW1]; exact World.frozen?_alloc_at (w := w.drew) ROW _ w.heap.size j rfl
  have hOb : ∀ j v, w.cell? ⟨b, j, none⟩ = some v → W1.cell? ⟨b, j, none⟩ = some v := fun j v h => by rw [hW1, World.cell?_alloc_past (w := w.drew) _ b j hbw]; exact h
  have hOv : ∀ j v, w.cell? ⟨vb, j, none⟩ = some v → W1.cell? ⟨vb, j, none⟩ = some v := fun j v h => by rw [hW1, World.cell?_alloc_past (w := w.drew) _ vb j hvw]; exact h
  have hminA : Nat.min 1 (n + 1 - i) = 1 := by simp only [Nat.min_def]; split <;> omega
  have hcpA : ∀ (W : World), (∀ x, W.cell? x = W1.cell? x) → (∀ x, W.frozen? x = W1.frozen? x) → ∀ ty dc, (Builtin.copy_ #[49, 49] ty #[.slice (some ⟨w.heap.size, i * 4, none⟩) (n + 1 - i) dc, .slice (some ⟨vb, voff, none⟩) 1 vc]).run Tryz.prog W = .ok (goInt (1 : Nat)) (W.setCells w.heap.size (i * 4) vs) := fun W hWc hWf ty dc => by
    have := run_copy_k (P := Tryz.prog) W 49 49 ty 107 4 w.heap.size (i * 4) (n + 1 - i) dc ⟨vb, voff, none⟩ 1 vc vs Tryz.underlying49 hsz (by rw [hvl, hminA])
      (fun j v hj => by rw [Addr.add_lit, hWc]; exact hOv _ v (hvs j v hj))
      (fun j hj => by rw [hWc]; exact hN _ (by omega)) (fun j hj => by rw [hWf]; exact hNf _) h1v
    rw [hminA] at this
    exact this
  have hGn : n + 1 ≤ G := by rw [hG]; exact grownCap_ge w _ _ _
  have hGm : G ≤ maxLen := by rw [hG]; exact grownCap_le_maxLen w (n + 1) c 107 (by unfold maxLen; omega)
  have hG63 : G ≤ 9223372036854775807 := by unfold maxLen at hGm; omega
  have hGi : ¬ (G = i) := by omega
  have hGim : ¬ (G = i + 1) := by omega
  have hci : ¬ (c = i) := by omega
  have hbN : b ≠ w.heap.size := by omega
  have hdl : (cs.drop (i * 4)).length = (n - i) * 4 := by rw [List.length_drop, hcl, Nat.sub_mul]
  have hsz1 : ∀ j, j < (cs.drop (i * 4)).length → (i + 1) * 4 + j < (n + 1) * 4 := fun j hj => by rw [hdl] at hj; omega
  have hb6 : n + 1 - (i + 1) = n - i := by omega
  have hminB : Nat.min (n - i) (n - i) = n - i := Nat.min_self _
  have hcpB : ∀ (W : World), (∀ x, W.cell? x = (W1.setCells w.heap.size (i * 4) vs).cell? x) → (∀ x, W.frozen? x = (W1.setCells w.heap.size (i * 4) vs).frozen? x) → ∀ ty dc sc, (Builtin.copy_ #[49, 49] ty #[.slice (some ⟨w.heap.size, (i + 1) * 4, none⟩) (n - i) dc, .slice (some ⟨b, i * 4, none⟩) (n - i) sc]).run Tryz.prog W = .ok (goInt (n - i : Nat)) (W.setCells w.heap.size ((i + 1) * 4) (cs.drop (i * 4))) := fun W hWc hWf ty dc sc => by
    have := run_copy_k (P := Tryz.prog) W 49 49 ty 107 4 w.heap.size ((i + 1) * 4) (n - i) dc ⟨b, i * 4, none⟩ (n - i) sc (cs.drop (i * 4)) Tryz.underlying49 hsz (by rw [hdl, hminB])
      (fun j v hj => by
        rw [Addr.add_lit, hWc, World.cell?_setCells_out _ _ _ _ _ (fun h _ => absurd h hbN)]
        exact hOb _ v (hcs (i * 4 + j) v (by rwa [List.getElem?_drop] at hj)))
      (fun j hj => by rw [hWc]; exact isSome_setCells _ _ _ _ (fun t ht => hN _ (by omega)) _ (hN _ (hsz1 j hj)))
      (fun j hj => by rw [hWf, World.frozen?_setCells]; exact hNf _) (fun v hv => h1c v (List.mem_of_mem_drop hv))
    rw [hminB] at this
    exact this
  subst hW1
  have hE1 : ∀ x, ((w.alloc (.cells ROW 107)).drew).cell? x = (w.drew.alloc (.cells ROW 107)).cell? x := fun x => rfl
  have hE2 : ∀ x, ((w.alloc (.cells ROW 107)).drew).frozen? x = (w.drew.alloc (.cells ROW 107)).frozen? x := fun x => rfl
  have hF1 : ∀ x, (((w.alloc (.cells ROW 107)).drew.setCells w.heap.size (i * 4) vs).drew).cell? x = ((w.drew.alloc (.cells ROW 107)).setCells w.heap.size (i * 4) vs).cell? x := fun x => rfl
  have hF2 : ∀ x, (((w.alloc (.cells ROW 107)).drew.setCells w.heap.size (i * 4) vs).drew).frozen? x = ((w.drew.alloc (.cells ROW 107)).setCells w.heap.size (i * 4) vs).frozen? x := fun x => rfl
  have hw1 : IntKind.i64.wrap ((i : Int) + 1) = (i : Int) + 1 := by rw [IntKind.wrap_i64]; omega
  have hw2 : IntKind.i64.wrap ((n : Int) + 1) = (n : Int) + 1 := by rw [IntKind.wrap_i64]; omega
  have hw3 : IntKind.i64.wrap ((n : Int) + 1 - (i : Int)) = (n : Int) + 1 - (i : Int) := by rw [IntKind.wrap_i64]; omega
  have hb1 : (0 : Int) ≤ (i : Int) + 1 := by omega
  have hin : i ≤ n := by omega
  have htn : ((i : Int) + 1).toNat = i + 1 := by omega
  have hb3 : (i : Int) ≤ (n : Int) := by omega
  have hb7 : (i : Int) ≤ (n : Int) + 1 := by omega
  have hb8 : (i : Int) ≤ (c : Int) := by omega
  refine Calls.mono (R := fun e w' => e = .returned (.slice (some ⟨w.heap.size, 0, none⟩) (n + 1) G) ∧ w' = (((w.alloc (.cells ROW 107)).drew.setCells w.heap.size (i * 4) vs).drew).setCells w.heap.size ((i + 1) * 4) (cs.drop (i * 4))) ?_ (fun e w' h => ⟨G, z0.cells, hGn, hGm, hzsz, h.1, by rw [← hROW]; exact h.2⟩)
  clear hkk hik hold hROW hG hRl
  go_enter Tryz.func201, Tryz.ntmps201
  go_wp2_with (first
    | (at_builtin; refine Lib.wpList_append_run _ rfl _ _ _ _ rfl _ _ rfl rfl _ _ (hrz _) ?_)
    | (at_builtin; refine wpList_copy_runI _ rfl _ _ 49 49 rfl _ _ rfl rfl (hcpA _ hE1 hE2 _ _) ?_)
    | (at_builtin; refine wpList_copy_runI _ rfl _ _ 49 49 rfl _ _ rfl rfl (hcpB _ (fun _ => rfl) (fun _ => rfl) _ _ _) ?_))
  go_region_law_o (refine step_copy_runI rfl _ _ 49 49 rfl (.slice (some ⟨w.heap.size, (i + 1) * 4, none⟩) (n - i) (G - (i + 1))) (.slice (some ⟨b, i * 4, none⟩) (n - i) (c - i)) (by simp [Act.eval, Act.put]) (by simp [Act.eval, Act.put]) (hcpB _ hF1 hF2 3 (G - (i + 1)) (c - i)) ?_)
  go_wp2
  go_ret
  exact ⟨rfl, rfl⟩
end Go.Proofs
set_option maxRecDepth 10000
namespace Ab
open Go Go.Proofs
theorem cb_self (a : List UInt8) : Lib.compareBytes a a = 0 := (compareBytes_eq a a).2 rfl
def subAt (σ : List (List UInt8 × Term)) (i : Nat) : Bool := isNameP (σ.getD i ([], .mk [] false [])).1 false && (decide (i = 0) || decide (Lib.compareBytes (σ.getD (i - 1) ([], .mk [] false [])).1 (σ.getD i ([], .mk [] false [])).1 < 0))
def subCheck (σ : List (List UInt8 × Term)) : Int := if (List.range σ.length).all (subAt σ) then firstErr (σ.map (·.2)) else 4
theorem sortedS_get {σ : List (List UInt8 × Term)} (h : SortedN (σ.map (·.1))) (i j : Nat) (hi : i < σ.length) (hj : j < σ.length) (hij : i < j) : Lib.compareBytes σ[i].1 σ[j].1 < 0 := by
  unfold SortedN at h
  rw [List.pairwise_map, List.pairwise_iff_getElem] at h
  exact h i j hi hj hij
def look (σ : List (List UInt8 × Term)) (v : List UInt8) : Option Term := (σ.find? fun b => decide (b.1 = v)).map (·.2)
theorem image_look (σ : List (List UInt8 × Term)) (v : List UInt8) : imageP σ v = (look σ v).getD (.mk v true []) := rfl
theorem look_some {σ : List (List UInt8 × Term)} (h : SortedN (σ.map (·.1))) (i : Nat) (hi : i < σ.length) : look σ σ[i].1 = some σ[i].2 := by
  unfold look
  have : σ.find? (fun b => decide (b.1 = σ[i].1)) = some σ[i] := by
    rw [List.find?_eq_some_iff_getElem]
    refine ⟨by simp, i, hi, rfl, fun j hj => ?_⟩
    have h1 := sortedS_get h j i (by omega) hi hj
    simp only [decide_eq_true_eq, Bool.not_eq_true', decide_eq_false_iff_not]
    intro e
    rw [e, cb_self] at h1
    omega
  rw [this]; rfl
theorem look_mem {σ : List (List UInt8 × Term)} (h : SortedN (σ.map (·.1))) {b : List UInt8 × Term} (hb : b ∈ σ) : look σ b.1 = some b.2 := by
  obtain ⟨i, hi, rfl⟩ := List.getElem_of_mem hb
  exact look_some h i hi
theorem look_none {σ : List (List UInt8 × Term)} {v : List UInt8} (h : ∀ b, b ∈ σ → b.1 ≠ v) : look σ v = none := by
  unfold look
  rw [List.find?_eq_none.2 (fun b hb => by simpa using h b hb)]; rfl
theorem look_some_mem {σ : List (List UInt8 × Term)} {v : List UInt8} {t : Term} (h : look σ v = some t) : (v, t) ∈ σ := by
  unfold look at h
  cases hf : σ.find? (fun b => decide (b.1 = v)) with
  | none => rw [hf] at h; cases h
  | some b =>
    rw [hf] at h
    injection h with h
    have h1 := List.find?_some hf
    have h2 := List.mem_of_find?_eq_some hf
    simp only [decide_eq_true_eq] at h1
    rw [← h1, ← h]; exact h2
theorem look_cases {σ : List (List UInt8 × Term)} (v : List UInt8) : (∃ b, b ∈ σ ∧ b.1 = v ∧ look σ v = some b.2) ∨ look σ v = none := by
  cases h : look σ v with
  | none => exact .inr rfl
  | some t => exact .inl ⟨(v, t), look_some_mem h, rfl, rfl⟩
theorem apply_size (σ : List (List UInt8 × Term)) (B : Nat) (hB : 1 ≤ B) (h : ∀ b, b ∈ σ → b.2.size ≤ B) (t : Term) : (applyP σ t).size ≤ t.size * B := by
  induction t using Term.ind with | _ n u xs ih
  rw [applyP_mk]
  split
  · have h1 : 1 ≤ (Term.mk n u xs).size := Term.size_pos _
    have h2 : (imageP σ n).size ≤ B := by
      rw [image_look]
      rcases look_cases (σ := σ) n with ⟨b, hb, _, e⟩ | e
      · rw [e]; exact h b hb
      · rw [e]; simpa [Term.size_mk] using hB
    calc (imageP σ n).size ≤ 1 * B := by omega
      _ ≤ _ := Nat.mul_le_mul_right B h1
  · rw [Term.size_mk, Term.size_mk, Nat.add_mul]
    have h2 : ((xs.map (applyP σ)).map Term.size).sum ≤ (xs.map Term.size).sum * B := by
      clear hB
      induction xs with
      | nil => simp
      | cons a r ih2 =>
        have h3 := ih a (by simp)
        have h4 := ih2 (fun x hx => ih x (by simp [hx]))
        simp only [List.map_cons, List.sum_cons, Nat.add_mul]
        omega
    omega
theorem apply_bulk (σ : List (List UInt8 × Term)) (B : Nat) (h : ∀ b, b ∈ σ → b.2.bulk ≤ B) (t : Term) : (applyP σ t).bulk ≤ t.bulk * (B + 1) := by
  induction t using Term.ind with | _ n u xs ih
  rw [applyP_mk]
  split
  · rw [image_look]
    have h1 : n.length < (Term.mk n u xs).bulk := Term.name_le
    rcases look_cases (σ := σ) n with ⟨b, hb, _, e⟩ | e
    · rw [e]
      have h3 := h b hb
      calc b.2.bulk ≤ 1 * (B + 1) := by omega
        _ ≤ _ := Nat.mul_le_mul_right (B + 1) (by omega)
    · rw [e]
      show (Term.mk n true []).bulk ≤ _
      calc (Term.mk n true []).bulk = 1 + n.length := by simp [Term.bulk_mk]
        _ ≤ (Term.mk n u xs).bulk * 1 := by omega
        _ ≤ _ := Nat.mul_le_mul_left _ (by omega)
  · rw [Term.bulk_mk, Term.bulk_mk, Nat.add_mul]
    have h2 : ((xs.map (applyP σ)).map Term.bulk).sum ≤ (xs.map Term.bulk).sum * (B + 1) := by
      induction xs with
      | nil => simp
      | cons a r ih2 =>
        have h3 := ih a (by simp)
        have h4 := ih2 (fun x hx => ih x (by simp [hx]))
        simp only [List.map_cons, List.sum_cons, Nat.add_mul]
        omega
    have h5 : 1 + n.length ≤ (1 + n.length) * (B + 1) := Nat.le_mul_of_pos_right _ (by omega)
    omega
theorem name_small {s : List UInt8} {m : Bool} (h : isNameP s m = true) : s.length ≤ 24 := by
  unfold isNameP at h
  rw [Bool.and_eq_true, decide_eq_true_eq] at h
  exact h.1
theorem formed_bulk (t : Term) : formedP t = true → t.bulk ≤ 25 * t.size := by
  induction t using Term.ind with | _ n u xs ih
  intro h
  rw [formedP_mk] at h
  rw [Term.bulk_mk, Term.size_mk]
  split at h
  · rw [Bool.and_eq_true, decide_eq_true_eq] at h
    have h1 := name_small h.2
    have h2 := List.eq_nil_of_length_eq_zero h.1
    subst h2
    simp; omega
  · rw [Bool.and_eq_true, Bool.and_eq_true, List.all_eq_true] at h
    have h1 := name_small h.1.2
    have h2 : (xs.map Term.bulk).sum ≤ 25 * (xs.map Term.size).sum := by
      have h3 := h.2
      clear h
      induction xs with
      | nil => simp
      | cons a r ih2 =>
        have h4 := ih a (by simp) (h3 a (by simp))
        have h5 := ih2 (fun x hx => ih x (by simp [hx])) (fun x hx => h3 x (by simp [hx]))
        simp only [List.map_cons, List.sum_cons]
        omega
    omega
theorem check_iff (t : Term) : checkP t = 0 ↔ formedP t = true ∧ fitsP t = true := by
  unfold checkP
  cases formedP t <;> cases fitsP t <;> simp
theorem fits_size {t : Term} (h : fitsP t = true) : t.size ≤ 4000 := by
  unfold fitsP at h
  rw [Bool.and_eq_true, decide_eq_true_eq] at h
  exact h.1
theorem check_small {t : Term} (h : checkP t = 0) : t.size ≤ 4000 ∧ t.bulk ≤ 100000 := by
  have h1 := (check_iff t).1 h
  have h2 := fits_size h1.2
  have h3 := formed_bulk t h1.1
  omega
theorem formed_apply (σ : List (List UInt8 × Term)) (h : ∀ b, b ∈ σ → formedP b.2 = true) (t : Term) : formedP t = true → formedP (applyP σ t) = true := by
  induction t using Term.ind with | _ n u xs ih
  intro ht
  rw [applyP_mk]
  rw [formedP_mk] at ht
  cases u with
  | true =>
    simp only [if_true] at ht ⊢
    rw [image_look]
    rcases look_cases (σ := σ) n with ⟨b, hb, _, e⟩ | e
    · rw [e]; exact h b hb
    · rw [e]
      show formedP (.mk n true []) = true
      rw [formedP_mk]
      rw [Bool.and_eq_true] at ht
      simp [ht.2]
  | false =>
    simp only [Bool.false_eq_true, if_false] at ht ⊢
    rw [formedP_mk]
    simp only [Bool.false_eq_true, if_false, List.length_map, List.all_map]
    rw [Bool.and_eq_true, List.all_eq_true] at ht ⊢
    exact ⟨ht.1, fun x hx => ih x hx (ht.2 x hx)⟩
theorem look_isNone {σ : List (List UInt8 × Term)} {v : List UInt8} : (look σ v).isNone = true ↔ ∀ b, b ∈ σ → b.1 ≠ v := by
  constructor
  · intro h b hb e
    subst e
    unfold look at h
    rw [Option.isNone_iff_eq_none, Option.map_eq_none_iff, List.find?_eq_none] at h
    exact h b hb (by simp)
  · intro h; rw [look_none h]; rfl
end Ab
set_option maxRecDepth 10000
namespace Ab
open Go Go.Proofs
theorem subOk (σ : List (List UInt8 × Term)) (j : Nat) (h : σ.length ≤ j) (ha : (List.range σ.length).all (subAt σ) = true) (hj : firstErr ((σ.map (·.2)).take j) = 0) : subCheck σ = 0 := by
  unfold subCheck
  rw [if_pos ha]
  rwa [List.take_of_length_le (by simpa using h)] at hj
end Ab
set_option maxRecDepth 10000
namespace Ab
open Go Go.Proofs
theorem imageR_ac (σ : List (List UInt8 × Term)) (v : List UInt8) (hlen : σ.length < 1099511627776) (H : List AObj) : ACall Tryz.prog 74 [.sl .none (encL encBd σ), .str v] H (fun r H' => r = encT (imageP σ v) ∧ H' = H) := by
  refine ACall_V (H.length) 20 [.cell 4 25] Tryz.func74 rfl rfl rfl ?_
  simp only [push_cast, Nat.reduceAdd, Nat.reduceSub, Nat.reduceMul, Nat.reduceLT, Nat.reduceLeDiff, Nat.reduceEqDiff, Int.reduceToNat, ↓reduceIte]
  refine AW_loopW (maskG 22 [1, 2, 2, 0, 0]) (fun (i : Nat) => [(9, .int .i64 i)]) (fun _ => H ++ [.cells [.str [], .bool false, .sl .zero []]]) (fun i => i ≤ σ.length ∧ ∀ x, x ∈ σ.take i → ¬ x.1 = v) (fun i => σ.length - i) 0 ⟨Nat.zero_le _, by simp⟩ (by simp only [push_cast, Nat.reduceAdd, Nat.reduceSub, Nat.reduceMul, Nat.reduceLT, Nat.reduceLeDiff, Nat.reduceEqDiff, Int.reduceToNat, ↓reduceIte]) (fun i hi => ?_)
  simp only [push_cast, Nat.reduceAdd, Nat.reduceSub, Nat.reduceMul, Nat.reduceLT, Nat.reduceLeDiff, Nat.reduceEqDiff, Int.reduceToNat, ↓reduceIte]
  refine cI (fun h => ?_) (fun h => ?_)
  · repeat refine ⟨by omega, ?_⟩
    have hil : i < σ.length := by omega
    refine cI (fun he => ?_) (fun he => ?_)
    · have hn : σ.find? (fun b => decide (b.1 = v)) = some (σ[i]'hil) := by
        rw [List.find?_eq_some_iff_getElem]
        refine ⟨by simpa using he, i, hil, rfl, fun j hj => ?_⟩
        have := hi.2 σ[j] (by rw [List.mem_take_iff_getElem]; exact ⟨j, by omega, rfl⟩)
        simpa using this
      have hI : imageP σ v = (σ[i]'hil).2 := by simp [imageP, hn]
      simp only [push_cast, Nat.reduceAdd, Nat.reduceSub, Nat.reduceMul, Nat.reduceLT, Nat.reduceLeDiff, Nat.reduceEqDiff, Int.reduceToNat, ↓reduceIte, hI]
    · repeat' first | refine ⟨by omega, ?_⟩ | refine cI (fun _ => ?_) (fun _ => ?_)
      refine loopW_n (i + 1) ⟨by omega, fun x hx => ?_⟩ (by omega) (by simp only [push_cast, Nat.reduceAdd, Nat.reduceSub, Nat.reduceMul, Nat.reduceLT, Nat.reduceLeDiff, Nat.reduceEqDiff, Int.reduceToNat, ↓reduceIte])
      rw [List.take_succ_eq_append_getElem hil] at hx
      rcases List.mem_append.1 hx with h | h
      · exact hi.2 x h
      · rw [List.mem_singleton] at h; subst h; exact he
  · have e : σ.take i = σ := List.take_of_length_le (by omega)
    rw [e] at hi
    have hn : σ.find? (fun b => decide (b.1 = v)) = none := by rw [List.find?_eq_none]; intro x hx; simpa using hi.2 x hx
    have hI : imageP σ v = .mk v true [] := by simp [imageP, hn]
    simp only [push_cast, Nat.reduceAdd, Nat.reduceSub, Nat.reduceMul, Nat.reduceLT, Nat.reduceLeDiff, Nat.reduceEqDiff, Int.reduceToNat, ↓reduceIte, hI]
def appL (σ : List (List UInt8 × Term)) (xs : List Term) : List Term := xs.map (applyP σ)
theorem appL_take (σ : List (List UInt8 × Term)) (xs : List Term) (i : Nat) (h : i < xs.length) : appL σ (xs.take (i + 1)) = appL σ (xs.take i) ++ [applyP σ xs[i]] := by
  unfold appL; rw [List.take_succ_eq_append_getElem h, List.map_append]; rfl
theorem appL_nil (σ : List (List UInt8 × Term)) : appL σ [] = [] := (rfl)
theorem appL_len (σ : List (List UInt8 × Term)) (xs : List Term) : (appL σ xs).length = xs.length := by simp [appL]
theorem applyP_t (σ : List (List UInt8 × Term)) (n : List UInt8) (xs : List Term) : applyP σ (.mk n true xs) = imageP σ n := by rw [applyP_mk]; simp
theorem applyP_f (σ : List (List UInt8 × Term)) (n : List UInt8) (xs : List Term) : applyP σ (.mk n false xs) = .mk n false (appL σ xs) := by rw [applyP_mk]; rfl
theorem applyR_ac (σ : List (List UInt8 × Term)) (hlen : σ.length < 1099511627776) (t : Term) : t.bulk ≤ 1099511627775 → ∀ H, ACall Tryz.prog 31 [.sl .none (encL encBd σ), encT t] H (fun r H' => r = encT (applyP σ t) ∧ H' = H) := by
  induction t using Term.ind with | _ n v xs ih
  intro hb H
  have hl := Term.len_le (n := n) (v := v) (xs := xs)
  cases v with
  | true =>
    rw [applyP_t]
    refine ACall_V (H.length) 32 [.cell 4 25] Tryz.func31 rfl rfl rfl ?_
    simp only [push_cast, Nat.reduceAdd, Nat.reduceSub, Nat.reduceMul, Nat.reduceLT, Nat.reduceLeDiff, Nat.reduceEqDiff, Int.reduceToNat, ↓reduceIte]
    refine (imageR_ac σ n hlen _).to ?_
    simp only [push_cast, Nat.reduceAdd, Nat.reduceSub, Nat.reduceMul, Nat.reduceLT, Nat.reduceLeDiff, Nat.reduceEqDiff, Int.reduceToNat, ↓reduceIte]
  | false =>
    rw [applyP_f]
    refine ACall_V (H.length) 32 [.cell 4 25] Tryz.func31 rfl rfl rfl ?_
    simp only [push_cast, Nat.reduceAdd, Nat.reduceSub, Nat.reduceMul, Nat.reduceLT, Nat.reduceLeDiff, Nat.reduceEqDiff, Int.reduceToNat, ↓reduceIte]
    refine AW_reserve 1 ?_
    refine AW_loopW (maskG 34 [0, 3, 0, 12, 0, 0]) (fun (i : Nat) => [(20, .int .i64 i)]) (fun i => H ++ [.cells [.str n, .bool false, .sl .none (encTs xs)], .cells [.str [], .bool false, .sl .zero []], .cells [.str n, .bool false, gSl (H.length + 3) (encTs (appL σ (xs.take i)))], gTok 25 3 (encTs (appL σ (xs.take i)))]) (fun i => i ≤ xs.length) (fun i => xs.length - i) 0 (Nat.zero_le _) (by simp only [push_cast, Nat.reduceAdd, Nat.reduceSub, Nat.reduceMul, Nat.reduceLT, Nat.reduceLeDiff, Nat.reduceEqDiff, Int.reduceToNat, ↓reduceIte, List.take_zero, appL_nil]) (fun i hi => ?_)
    simp only [push_cast, Nat.reduceAdd, Nat.reduceSub, Nat.reduceMul, Nat.reduceLT, Nat.reduceLeDiff, Nat.reduceEqDiff, Int.reduceToNat, ↓reduceIte]
    refine cI (fun h => ?_) (fun h => ?_)
    · have hil : i < xs.length := by omega
      repeat refine ⟨by omega, ?_⟩
      have hal := appL_len σ (xs.take i)
      rw [List.length_take] at hal
      apply AW_drawE [some 24, some 25, some 26, some 27, some 28, some 29, some 30, some 31, none] [([false, false], _), ([true, false], _), ([true, true], _)] [none, none, none, none, none, none, some 0, none, some 1] 2 [(0, [false, false], [5]), (1, [false, false], [24]), (2, [false, false], [0]), (3, [false, false], [7]), (4, [false, false], [26, 0]), (5, [false, false], [28]), (6, [false, false], [25, 3]), (7, [true, false], [5]), (8, [true, false], [30, 0]), (0, [true, false], [5]), (2, [true, false], [0]), (3, [true, false], [7])] [_, _, _, _, _, _, _, _, _]
      case' hm => exact dr
      case' hn => rfl
      case' hok => rfl
      case' hlen => rfl
      case' hd => rfl
      case' h0 => rfl
      case' hstep =>
       simp only [DAllG, push_cast, Option.isSome_some, Option.isSome_none]
       repeat' apply And.intro
       all_goals (apply DOne_V; simp only [push_cast, Nat.reduceAdd, Nat.reduceSub, Nat.reduceMul, Nat.reduceLT, Nat.reduceLeDiff, Nat.reduceEqDiff, Int.reduceToNat, ↓reduceIte] <;> first | exact rfl | omega | exact ⟨rfl, rfl⟩ | exact trivial | exact ⟨by omega, rfl⟩ | exact ⟨by omega, by omega, rfl⟩ | exact ⟨by omega, rfl, rfl⟩ | exact ⟨by omega, by omega, rfl, rfl⟩ | exact (ih _ (List.getElem_mem hil) (arg_bulk hb i hil) _).to ⟨rfl, rfl⟩ | (refine app1_T _ (H.length + 3) (appL σ (xs.take i)) (applyP σ (xs[i]'hil)) _ rfl rfl (by exact (agetN _ _ 3).trans rfl) sl23 sz25 by25 zr25 rfl (by decide) (by omega) ?_; simp only [push_cast, Nat.reduceAdd, Nat.reduceSub, Nat.reduceMul, Nat.reduceLT, Nat.reduceLeDiff, Nat.reduceEqDiff, Int.reduceToNat, ↓reduceIte]; exact ⟨rfl, rfl⟩))
      case' hQ => skip
      simp only [push_cast, Nat.reduceAdd, Nat.reduceSub, Nat.reduceMul, Nat.reduceLT, Nat.reduceLeDiff, Nat.reduceEqDiff, Int.reduceToNat, ↓reduceIte, ← appL_take σ xs i hil]
      repeat' first | refine ⟨by omega, ?_⟩ | refine cI (fun _ => ?_) (fun _ => ?_)
      exact loopW_n (i + 1) (by omega) (by omega) (by simp only [push_cast, Nat.reduceAdd, Nat.reduceSub, Nat.reduceMul, Nat.reduceLT, Nat.reduceLeDiff, Nat.reduceEqDiff, Int.reduceToNat, ↓reduceIte])
    · simp only [push_cast, Nat.reduceAdd, Nat.reduceSub, Nat.reduceMul, Nat.reduceLT, Nat.reduceLeDiff, Nat.reduceEqDiff, Int.reduceToNat, ↓reduceIte, List.take_of_length_le (show xs.length ≤ i by omega)]
end Ab
set_option maxRecDepth 10000
namespace Ab
open Go Go.Proofs
theorem searchB_ac (xs : List (List UInt8 × Term)) (v : List UInt8) (g : Nat) (caps : List AV) (c : List UInt8 × Term → Int) (H : List AObj) (hlen : xs.length < 1099511627776) (hg : callOk Tryz.prog g = true) (hsc : ScopedL H.length caps)
    (hmono : ∀ i j (hi : i < xs.length) (hj : j < xs.length), i ≤ j → c xs[j] < 0 → c xs[i] < 0)
    (hf : ∀ i (h : i < xs.length) X, ACall Tryz.prog g (encBd xs[i] :: .str v :: caps) X (fun r H' => r = .int .i64 (c xs[i]) ∧ H' = X)) :
    ACall Tryz.prog 176 [.sl .none (encL encBd xs), .str v, .fn g caps] H
      (fun r H' => ∃ i : Nat, i ≤ xs.length ∧ (∀ j (hj : j < xs.length), j < i → c xs[j] < 0) ∧ (∀ j (hj : j < xs.length), i ≤ j → ¬ c xs[j] < 0) ∧ r = .tup [.int .i64 i, .bool (decide (∃ h : i < xs.length, c xs[i] = 0))] ∧ H' = H) := by
  refine ACall_W (H.length) 46 [.tmp 6, .tmp 7] Tryz.func176 rfl rfl rfl ?_
  simp only [push_cast, Nat.reduceAdd, Nat.reduceSub, Nat.reduceMul, Nat.reduceLT, Nat.reduceLeDiff, Nat.reduceEqDiff, Int.reduceToNat, ↓reduceIte]
  refine AW_loopW (maskG 49 [0, 0, 0, 5, 0, 0]) (fun (q : Nat × Nat) => [(9, .int .i64 q.1), (10, .int .i64 q.2)]) (fun _ => H) (fun q => q.1 ≤ q.2 ∧ q.2 ≤ xs.length ∧ (∀ j (hj : j < xs.length), j < q.1 → c xs[j] < 0) ∧ (∀ j (hj : j < xs.length), q.2 ≤ j → ¬ c xs[j] < 0)) (fun q => q.2 - q.1) (0, xs.length) ⟨by simp, by simp, fun j hj h => by simp at h, fun j hj h => by simp at h; omega⟩ (by simp only [push_cast, Nat.reduceAdd, Nat.reduceSub, Nat.reduceMul, Nat.reduceLT, Nat.reduceLeDiff, Nat.reduceEqDiff, Int.reduceToNat, ↓reduceIte, hsc]) (fun q hq => ?_)
  obtain ⟨i, j⟩ := q
  obtain ⟨hi1, hi2, hi3, hi4⟩ := hq
  simp only at hi1 hi2 hi3 hi4
  simp only [push_cast, Nat.reduceAdd, Nat.reduceSub, Nat.reduceMul, Nat.reduceLT, Nat.reduceLeDiff, Nat.reduceEqDiff, Int.reduceToNat, ↓reduceIte, hg]
  refine cI (fun h => ?_) (fun h => ?_)
  · have e1 : ((i : Int) + j) / 2 ^ 1 = (((i + j) / 2 : Nat) : Int) := by rw [Int.pow_one]; omega
    have e2 : 1 ≤ IntKind.u64.bits := by decide
    obtain ⟨m, hm⟩ : ∃ m, m = (i + j) / 2 := ⟨_, rfl⟩
    rw [← hm] at e1
    rw [e1]
    repeat refine ⟨by omega, ?_⟩
    have hmx : m < xs.length := by omega
    refine (hf m hmx _).to ?_
    simp only [push_cast, Nat.reduceAdd, Nat.reduceSub, Nat.reduceMul, Nat.reduceLT, Nat.reduceLeDiff, Nat.reduceEqDiff, Int.reduceToNat, ↓reduceIte]
    refine cI (fun hc => ?_) (fun hc => ?_)
    · repeat' first | refine ⟨by omega, ?_⟩ | refine cI (fun _ => ?_) (fun _ => ?_)
      exact loopW_n (m + 1, j) ⟨by simp only; omega, by simp only; omega, fun k hk hkm => hmono k m hk hmx (by simp only at hkm; omega) hc, hi4⟩ (by simp only; omega) (by simp only [push_cast, Nat.reduceAdd, Nat.reduceSub, Nat.reduceMul, Nat.reduceLT, Nat.reduceLeDiff, Nat.reduceEqDiff, Int.reduceToNat, ↓reduceIte, hsc])
    · repeat' first | refine ⟨by omega, ?_⟩ | refine cI (fun _ => ?_) (fun _ => ?_)
      exact loopW_n (i, m) ⟨by simp only; omega, by simp only; omega, hi3, fun k hk hmk hneg => absurd (hmono m k hmx hk hmk hneg) hc⟩ (by simp only; omega) (by simp only [push_cast, Nat.reduceAdd, Nat.reduceSub, Nat.reduceMul, Nat.reduceLT, Nat.reduceLeDiff, Nat.reduceEqDiff, Int.reduceToNat, ↓reduceIte, hsc])
  · have hall : ∀ k (hk : k < xs.length), i ≤ k → ¬ c xs[k] < 0 := fun k hk hik => hi4 k hk (by omega)
    refine cI (fun hl => ?_) (fun hl => ?_)
    · have hil : i < xs.length := by omega
      repeat refine ⟨by omega, ?_⟩
      refine (hf i hil _).to ?_
      simp only [push_cast, Nat.reduceAdd, Nat.reduceSub, Nat.reduceMul, Nat.reduceLT, Nat.reduceLeDiff, Nat.reduceEqDiff, Int.reduceToNat, ↓reduceIte]
      refine ⟨i, by omega, hi3, hall, rfl, ?_⟩
      simp [hil]
    · refine ⟨i, by omega, hi3, hall, rfl, ?_⟩
      have hil : ¬ i < xs.length := by omega
      simp [hil]
theorem imageC_ac (x : List UInt8 × Term) (v : List UInt8) (H : List AObj) : ACall Tryz.prog 177 [encBd x, .str v] H (fun r H' => r = .int .i64 (Lib.compareBytes x.1 v) ∧ H' = H) := by
  refine ACall_V (H.length) 7 [.tmp 4] Tryz.func177 rfl rfl rfl ?_
  simp only [push_cast, Nat.reduceAdd, Nat.reduceSub, Nat.reduceMul, Nat.reduceLT, Nat.reduceLeDiff, Nat.reduceEqDiff, Int.reduceToNat, ↓reduceIte]
  refine (compareStr_ac x.1 v _).to ?_
  simp only [push_cast, Nat.reduceAdd, Nat.reduceSub, Nat.reduceMul, Nat.reduceLT, Nat.reduceLeDiff, Nat.reduceEqDiff, Int.reduceToNat, ↓reduceIte]
theorem imageT_ac (σ : List (List UInt8 × Term)) (hs : SortedN (σ.map (·.1))) (v : List UInt8) (hlen : σ.length < 1099511627776) (H : List AObj) : ACall Tryz.prog 150 [.sl .none (encL encBd σ), .str v] H (fun r H' => r = .tup [encT ((look σ v).getD (.mk [] false [])), .bool (look σ v).isSome] ∧ H' = H) := by
  refine ACall_V (H.length) 20 [.cell 4 25, .tmp 5] Tryz.func150 rfl rfl rfl ?_
  simp only [push_cast, Nat.reduceAdd, Nat.reduceSub, Nat.reduceMul, Nat.reduceLT, Nat.reduceLeDiff, Nat.reduceEqDiff, Int.reduceToNat, ↓reduceIte]
  refine (searchB_ac σ v 177 [] (fun b => Lib.compareBytes b.1 v) _ hlen ok177 (by simp [ScopedL]) (fun i j hi hj hij hc => ?_) (fun i h X => imageC_ac _ v _)).mono ?_
  · rcases Nat.lt_or_eq_of_le hij with h | h
    · exact cb_trans _ _ _ (sortedS_get hs i j hi hj h) hc
    · subst h; exact hc
  rintro r H' ⟨i, h1, h2, h3, rfl, rfl⟩
  by_cases hx : ∃ h : i < σ.length, Lib.compareBytes σ[i].1 v = 0
  · obtain ⟨hil, he⟩ := hx
    have hv := (compareBytes_eq _ _).1 he
    have hl : look σ v = some σ[i].2 := by rw [← hv]; exact look_some hs i hil
    have hd : decide (∃ h : i < σ.length, Lib.compareBytes σ[i].1 v = 0) = true := by rw [decide_eq_true_eq]; exact ⟨hil, he⟩
    simp only [push_cast, Nat.reduceAdd, Nat.reduceSub, Nat.reduceMul, Nat.reduceLT, Nat.reduceLeDiff, Nat.reduceEqDiff, Int.reduceToNat, ↓reduceIte, hd]
    repeat refine ⟨by omega, ?_⟩
    simp only [push_cast, Nat.reduceAdd, Nat.reduceSub, Nat.reduceMul, Nat.reduceLT, Nat.reduceLeDiff, Nat.reduceEqDiff, Int.reduceToNat, ↓reduceIte, hl]
    simp
  · have hl : look σ v = none := look_none fun b hb e => by
      obtain ⟨j, hj, rfl⟩ := List.getElem_of_mem hb
      have hj0 : Lib.compareBytes σ[j].1 v = 0 := by rw [e]; exact cb_self v
      rcases Nat.lt_trichotomy j i with h | h | h
      · have := h2 j hj h; omega
      · subst h; exact hx ⟨hj, hj0⟩
      · have h4 := sortedS_get hs i j (by omega) hj h
        rw [e] at h4
        exact h3 i (by omega) (Nat.le_refl _) h4
    have hd : decide (∃ h : i < σ.length, Lib.compareBytes σ[i].1 v = 0) = false := by rw [decide_eq_false_iff_not]; exact hx
    simp only [push_cast, Nat.reduceAdd, Nat.reduceSub, Nat.reduceMul, Nat.reduceLT, Nat.reduceLeDiff, Nat.reduceEqDiff, Int.reduceToNat, ↓reduceIte, hd, hl]
    simp
theorem image_bulk (σ : List (List UInt8 × Term)) (B : Nat) (hb : ∀ b, b ∈ σ → b.2.bulk ≤ B) (n : List UInt8) (hn : n.length < B) : (imageP σ n).bulk ≤ B := by
  rw [image_look]
  rcases look_cases (σ := σ) n with ⟨b, hbm, _, e⟩ | e
  · rw [e]; exact hb b hbm
  · rw [e]
    show (Term.mk n true []).bulk ≤ B
    rw [Term.bulk_mk]; simp; omega
theorem sizes_take (σ : List (List UInt8 × Term)) (xs : List Term) (i : Nat) (h : i < xs.length) : ((appL σ (xs.take (i + 1))).map Term.size).sum = ((appL σ (xs.take i)).map Term.size).sum + (applyP σ xs[i]).size ∧ ((appL σ (xs.take (i + 1))).map Term.depth).foldl max 0 = max (((appL σ (xs.take i)).map Term.depth).foldl max 0) (applyP σ xs[i]).depth := by
  rw [appL_take σ xs i h, List.map_append, List.map_append, List.sum_append, List.foldl_append]
  exact ⟨by simp, by simp⟩
theorem sizes_le (σ : List (List UInt8 × Term)) (xs : List Term) (i : Nat) : ((appL σ (xs.take i)).map Term.size).sum ≤ ((appL σ xs).map Term.size).sum ∧ ((appL σ (xs.take i)).map Term.depth).foldl max 0 ≤ ((appL σ xs).map Term.size).sum := by
  have h1 : appL σ (xs.take i) = (appL σ xs).take i := by simp [appL, List.map_take]
  have h2 := take_sum_le Term.size (appL σ xs) i
  have h3 := foldl_max_le Term.depth ((appL σ xs).take i) 0
  have h4 : (((appL σ xs).take i).map Term.depth).sum ≤ (((appL σ xs).take i).map Term.size).sum := by
    generalize (appL σ xs).take i = l
    induction l with
    | nil => simp
    | cons a r ih => have := a.depth_le; simp only [List.map_cons, List.sum_cons]; omega
  rw [h1]; omega
theorem measure_ac (σ : List (List UInt8 × Term)) (hs : SortedN (σ.map (·.1))) (hlen : σ.length < 1099511627776) (hbk : ∀ b, b ∈ σ → b.2.bulk ≤ 1099511627775) (t : Term) : t.bulk ≤ 1099511627775 → (applyP σ t).size ≤ 1099511627775 → ∀ H, ACall Tryz.prog 115 [.sl .none (encL encBd σ), encT t] H (fun r H' => r = .agg [.int .i64 (applyP σ t).size, .int .i64 (applyP σ t).depth] ∧ H' = H) := by
  induction t using Term.ind with | _ n u xs ih
  intro hb hb2 H
  have hl := Term.len_le (n := n) (v := u) (xs := xs)
  have hnl := Term.name_le (n := n) (v := u) (xs := xs)
  cases u with
  | true =>
    rw [applyP_t]
    have hib := image_bulk σ 1099511627775 hbk n (by omega)
    rw [image_look] at hib ⊢
    refine ACall_V (H.length) 54 [.cell 4 147] Tryz.func115 rfl rfl rfl ?_
    simp only [push_cast, Nat.reduceAdd, Nat.reduceSub, Nat.reduceMul, Nat.reduceLT, Nat.reduceLeDiff, Nat.reduceEqDiff, Int.reduceToNat, ↓reduceIte]
    refine (imageT_ac σ hs n hlen _).to ?_
    rcases look_cases (σ := σ) n with ⟨b, hbm, _, e⟩ | e
    · have hbb := hbk b hbm
      simp only [push_cast, Nat.reduceAdd, Nat.reduceSub, Nat.reduceMul, Nat.reduceLT, Nat.reduceLeDiff, Nat.reduceEqDiff, Int.reduceToNat, ↓reduceIte, e, Option.isSome_some, Option.getD_some]
      apply AW_drawE [some 21, some 22, some 23, some 24, some 25, none] [([false], _), ([true], _)] [none, none, none, none, none, some 0] 1 [(0, [false], [5]), (1, [false], [21]), (2, [false], [5]), (3, [false], [23]), (4, [false], [22, 1]), (5, [false], [4, 20])] [_, _, _, _, _, _]
      case' hm => exact dr
      case' hn => rfl
      case' hok => rfl
      case' hlen => rfl
      case' hd => rfl
      case' h0 => rfl
      case' hstep =>
       simp only [DAllG, push_cast, Option.isSome_some, Option.isSome_none]
       repeat' apply And.intro
       all_goals (apply DOne_V; simp only [push_cast, Nat.reduceAdd, Nat.reduceSub, Nat.reduceMul, Nat.reduceLT, Nat.reduceLeDiff, Nat.reduceEqDiff, Int.reduceToNat, ↓reduceIte] <;> first | exact rfl | omega | exact ⟨rfl, rfl⟩ | exact trivial | exact ⟨by omega, rfl⟩ | exact ⟨by omega, by omega, rfl⟩ | exact ⟨by omega, rfl, rfl⟩ | exact ⟨by omega, by omega, rfl, rfl⟩ | exact (size_ac b.2 (by omega) _).to ⟨rfl, rfl⟩ | exact (depth_ac b.2 (by omega) _).to ⟨rfl, rfl⟩)
      case' hQ => skip
      simp only [push_cast, Nat.reduceAdd, Nat.reduceSub, Nat.reduceMul, Nat.reduceLT, Nat.reduceLeDiff, Nat.reduceEqDiff, Int.reduceToNat, ↓reduceIte]
    · simp only [push_cast, Nat.reduceAdd, Nat.reduceSub, Nat.reduceMul, Nat.reduceLT, Nat.reduceLeDiff, Nat.reduceEqDiff, Int.reduceToNat, ↓reduceIte, e, Option.isSome_none, Option.getD_none, Term.size_mk, Term.depth_mk]
      simp
  | false =>
    rw [applyP_f] at hb2 ⊢
    have hdp := (Term.mk n false (appL σ xs)).depth_le
    rw [Term.size_mk] at hb2 hdp ⊢
    rw [Term.depth_mk] at hdp ⊢
    refine ACall_V (H.length) 54 [.cell 4 147] Tryz.func115 rfl rfl rfl ?_
    simp only [push_cast, Nat.reduceAdd, Nat.reduceSub, Nat.reduceMul, Nat.reduceLT, Nat.reduceLeDiff, Nat.reduceEqDiff, Int.reduceToNat, ↓reduceIte]
    refine AW_loopW (maskG 56 [0, 3, 2, 21, 0, 0]) (fun (i : Nat) => [(31, .int .i64 i)]) (fun i => H ++ [.cells [.str n, .bool false, .sl .none (encTs xs)], .cells [.int .i64 0, .int .i64 0], .cells [.int .i64 (1 + ((appL σ (xs.take i)).map Term.size).sum : Nat), .int .i64 (((appL σ (xs.take i)).map Term.depth).foldl max 0 : Nat)]]) (fun i => i ≤ xs.length) (fun i => xs.length - i) 0 (Nat.zero_le _) (by simp only [push_cast, Nat.reduceAdd, Nat.reduceSub, Nat.reduceMul, Nat.reduceLT, Nat.reduceLeDiff, Nat.reduceEqDiff, Int.reduceToNat, ↓reduceIte, List.take_zero, appL_nil]; simp) (fun i hi => ?_)
    simp only [push_cast, Nat.reduceAdd, Nat.reduceSub, Nat.reduceMul, Nat.reduceLT, Nat.reduceLeDiff, Nat.reduceEqDiff, Int.reduceToNat, ↓reduceIte]
    refine cI (fun h => ?_) (fun h => ?_)
    · have hil : i < xs.length := by omega
      repeat refine ⟨by omega, ?_⟩
      obtain ⟨hq1, hq2⟩ := sizes_take σ xs i hil
      obtain ⟨hw1, hw2⟩ := sizes_le σ xs (i + 1)
      obtain ⟨hw3, hw4⟩ := sizes_le σ xs i
      refine (ih _ (List.getElem_mem hil) (arg_bulk hb i hil) (by omega) _).to ?_
      simp only [push_cast, Nat.reduceAdd, Nat.reduceSub, Nat.reduceMul, Nat.reduceLT, Nat.reduceLeDiff, Nat.reduceEqDiff, Int.reduceToNat, ↓reduceIte]
      apply AW_drawE [some 38, some 39, some 40, some 41, some 42, some 43, some 44, some 45, some 46, some 47, some 48, none, some 49, none] [([false, false], _), ([true, false], _), ([true, true], _)] [none, none, none, none, none, none, none, none, none, none, none, some 0, none, some 1] 2 [(0, [false, false], [7]), (1, [false, false], [38]), (2, [false, false], [10]), (3, [false, false], [40]), (4, [false, false], [39, 1]), (5, [false, false], [7]), (6, [false, false], [43]), (7, [false, false], [10]), (8, [false, false], [45]), (9, [false, false], [44, 1]), (10, [false, false], [7]), (11, [false, false], [42, 5]), (12, [true, false], [7]), (13, [true, false], [47, 1]), (7, [true, false], [10]), (8, [true, false], [45]), (9, [true, false], [44, 1])] [_, _, _, _, _, _, _, _, _, _, _, _, _, _]
      case' hm => exact dr
      case' hn => rfl
      case' hok => rfl
      case' hlen => rfl
      case' hd => rfl
      case' h0 => rfl
      case' hstep =>
       simp only [DAllG, push_cast, Option.isSome_some, Option.isSome_none]
       repeat' apply And.intro
       all_goals (apply DOne_V; simp only [push_cast, Nat.reduceAdd, Nat.reduceSub, Nat.reduceMul, Nat.reduceLT, Nat.reduceLeDiff, Nat.reduceEqDiff, Int.reduceToNat, ↓reduceIte] <;> first | exact rfl | omega | exact ⟨rfl, rfl⟩ | exact trivial | exact ⟨by omega, rfl⟩ | exact ⟨by omega, by omega, rfl⟩ | exact ⟨by omega, rfl, rfl⟩ | exact ⟨by omega, by omega, rfl, rfl⟩ | skip)
      case' hQ => skip
      simp only [push_cast, Nat.reduceAdd, Nat.reduceSub, Nat.reduceMul, Nat.reduceLT, Nat.reduceLeDiff, Nat.reduceEqDiff, Int.reduceToNat, ↓reduceIte]
      repeat' first | refine ⟨by omega, ?_⟩ | refine cI (fun _ => ?_) (fun _ => ?_)
      exact loopW_n (i + 1) (by omega) (by omega) (by simp only [push_cast, Nat.reduceAdd, Nat.reduceSub, Nat.reduceMul, Nat.reduceLT, Nat.reduceLeDiff, Nat.reduceEqDiff, Int.reduceToNat, ↓reduceIte, hq1, hq2]; simp only [AObj.cells.injEq, List.cons.injEq, AV.int.injEq, and_true, true_and]; omega)
    · obtain ⟨hw3, hw4⟩ := sizes_le σ xs xs.length
      rw [List.take_of_length_le (Nat.le_refl _)] at hw3 hw4
      simp only [push_cast, Nat.reduceAdd, Nat.reduceSub, Nat.reduceMul, Nat.reduceLT, Nat.reduceLeDiff, Nat.reduceEqDiff, Int.reduceToNat, ↓reduceIte, List.take_of_length_le (show xs.length ≤ i by omega)]
      omega
end Ab
set_option maxRecDepth 10000
namespace Ab
open Go Go.Proofs
theorem setCells_heap (b : Nat) {e : TypeId} : ∀ (vs : List Value) (o : Nat) (w : World) (cur : Array Value), w.heap[b]? = some (.cells cur e (0, 0)) → o + vs.length ≤ cur.size →
    ∃ cur', (w.setCells b o vs).heap = w.heap.setIfInBounds b (.cells cur' e (0, 0)) ∧ cur'.size = cur.size ∧ SameOut w (w.setCells b o vs) ∧ ∀ j, cur'[j]? = if o ≤ j ∧ j < o + vs.length then vs[j - o]? else cur[j]?
  | [], o, w, cur, h, _ => by
    refine ⟨cur, ?_, rfl, ⟨rfl, rfl, rfl, by first | exact Nat.le_refl _ | exact Nat.le_add_right _ _⟩, fun j => by rw [if_neg (fun h => by simp at h; omega)]⟩
    apply Array.ext_getElem?
    intro k
    rw [Array.getElem?_setIfInBounds]
    split
    · rename_i hk; subst hk
      split
      · exact h
      · rename_i h1; exact absurd (Array.getElem?_eq_some_iff.1 h).1 h1
    · rfl
  | v :: r, o, w, cur, h, hl => by
    have hlt := (Array.getElem?_eq_some_iff.1 h).1
    have h1 : (w.setCell ⟨b, o, none⟩ v).heap = w.heap.setIfInBounds b (.cells (cur.setIfInBounds o v) e (0, 0)) := by
      apply Array.ext_getElem?
      intro k
      unfold World.setCell
      simp only [Array.getElem?_modify, Array.getElem?_setIfInBounds]
      by_cases hk : b = k
      · subst hk
        rw [if_pos rfl, if_pos rfl, if_pos hlt, h]; rfl
      · rw [if_neg hk, if_neg hk]
    have h2 : (w.setCell ⟨b, o, none⟩ v).heap[b]? = some (.cells (cur.setIfInBounds o v) e (0, 0)) := by rw [h1]; simp [hlt]
    obtain ⟨cur', g1, g2, g3, g4⟩ := setCells_heap b r (o + 1) (w.setCell ⟨b, o, none⟩ v) _ h2 (by simp at hl ⊢; omega)
    refine ⟨cur', ?_, by rw [g2]; simp, ⟨g3.1, g3.2, g3.3, g3.4⟩, fun j => ?_⟩
    · show ((w.setCell ⟨b, o, none⟩ v).setCells b (o + 1) r).heap = _
      rw [g1, h1]
      simp
    · rw [g4 j]
      simp only [List.length_cons] at hl ⊢
      by_cases hj : j = o
      · subst hj
        rw [if_neg (by omega), if_pos (by omega), Array.getElem?_setIfInBounds, if_pos rfl, if_pos (by omega)]
        simp
      · by_cases hj2 : o + 1 ≤ j ∧ j < o + 1 + r.length
        · rw [if_pos hj2, if_pos (by omega)]
          have e1 : j - o = (j - (o + 1)) + 1 := by omega
          rw [e1, List.getElem?_cons_succ]
        · rw [if_neg hj2, if_neg (by omega), Array.getElem?_setIfInBounds, if_neg (by omega)]
theorem insMid_ac (k : Nat) (xs : List AV) (y : AV) (tk : Tok) (i : Nat) (hi : i < xs.length) (hux : Uni 4 xs) (huy : y.cells.length = 4) (hcy : ∀ c, c ∈ y.cells → c.isCell = true) (hlen : xs.length < 1099511627776) (H : List AObj) (hk : H[k]? = some (.grow 107 4 (flat xs))) :
    ACall Tryz.prog 201 [.gr k xs.length, .int .i64 (i : Nat), .sl tk [y]] H (fun r H' => r = .gr k (xs.length + 1) ∧ H' = H.set k (.grow 107 4 ((flat xs).take (i * 4) ++ y.cells ++ (flat xs).drop (i * 4)))) := by
  intro C vs hg hH hsz hv
  match vs, hsz, hv with
  | ⟨[v0, v1, v2]⟩, _, hv =>
    have h0 : VRel C (.gr k xs.length) v0 := hv 0 (by simp) (by simp)
    have h1 : VRel C (.int .i64 (i : Nat)) v1 := hv 1 (by simp) (by simp)
    have h2 : VRel C (.sl tk [y]) v2 := hv 2 (by simp) (by simp)
    have e1 := h1.int_inv
    subst e1
    have hfx := flat_length hux
    have hkC : C.H[k]? = some (.grow 107 4 (flat xs)) := by rw [hH]; exact hk
    obtain ⟨c, cur, rfl, hb, hcm, hnc, hcs⟩ := gr_val h0 hkC hfx.symm
    obtain ⟨cur2, hb2, hfit, hS, hrel⟩ := hg.obj k _ hkC
    rw [hb] at hb2
    injection hb2 with hb2; injection hb2 with hb2 _ _
    subst hb2
    have hfy : flat [y] = y.cells := by simp [flat]
    have hmu := hg.lt k _ hkC (by simp [AObj.kind])
    have hkl : k < C.H.length := (List.getElem?_eq_some_iff.1 hkC).1
    have hcm' : c ≤ 9223372036854775807 := by unfold maxLen at hcm; omega
    cases h2 with
    | sl _ _ ad n c2 f hn hc2 hrow hrel2 htok =>
    subst hn
    have hfne : flat [y] ≠ [] := fun e => by rw [hfy] at e; rw [e] at huy; simp at huy
    obtain ⟨vb, vo, rfl, hr⟩ := hrow hfne
    have hfl : (flat [y]).length = 4 := by rw [hfy]; exact huy
    have hr0 := hr 0 (by omega)
    have hvb : vb ≠ C.μ k := fun e => by rw [e, hS] at hr0; omega
    have hvbl := hg.S_lt hr0.1
    obtain ⟨nw, hnw⟩ : ∃ nw, nw = (List.range 4).map f := ⟨_, rfl⟩
    have hnwl : nw.length = 4 := by rw [hnw]; simp
    have hnwg : ∀ j (hj : j < 4), nw[j]? = some (f j) := fun j hj => by rw [hnw]; simp [hj]
    have hvs : ∀ j v, nw[j]? = some v → C.w.cell? ⟨vb, vo + j, none⟩ = some v := fun j v hj => by
      have hj4 : j < 4 := by have := (List.getElem?_eq_some_iff.1 hj).1; omega
      rw [hnwg j hj4] at hj
      rw [(hr j (by omega)).2]; exact hj
    have h1v : ∀ v ∈ nw, v.oneCell' = true := fun v hv => by
      obtain ⟨j, hj, rfl⟩ := List.getElem_of_mem hv
      have hj4 : j < 4 := by omega
      have h3 := hrel2 j (by omega)
      have h4 : nw[j] = f j := by have := hnwg j hj4; rw [List.getElem?_eq_getElem hj] at this; injection this
      rw [h4]
      exact h3.oneCell (hcy _ (by rw [← hfy]; simp))
    obtain ⟨cs, hcsd⟩ : ∃ cs, cs = cur.toList.take (xs.length * 4) := ⟨_, rfl⟩
    have hxfit : xs.length * 4 ≤ cur.size := by rw [hfx] at hfit; exact hfit
    have hcl : cs.length = xs.length * 4 := by rw [hcsd, List.length_take]; simp; omega
    have hcsg : ∀ j, j < xs.length * 4 → cs[j]? = cur[j]? := fun j hj => by rw [hcsd, List.getElem?_take_of_lt hj]; simp
    have hcc : ∀ j v, cs[j]? = some v → C.w.cell? ⟨C.μ k, j, none⟩ = some v := fun j v hj => by
      have hjl : j < xs.length * 4 := by have := (List.getElem?_eq_some_iff.1 hj).1; omega
      rw [hcsg j hjl] at hj
      simp [World.cell?, hb, hj]
    have h1c : ∀ v ∈ cs, v.oneCell' = true := fun v hv => by
      obtain ⟨j, hj, rfl⟩ := List.getElem_of_mem hv
      have hjl : j < cur.size := by omega
      have h3 := hrel j (by omega) hjl
      have h4 : cs[j] = cur[j] := by
        have := hcsg j (by omega)
        rw [List.getElem?_eq_getElem hj, Array.getElem?_eq_getElem hjl] at this
        injection this
      rw [h4]; exact h3.1.oneCell h3.2
    have hsha : ∃ tA kA, C.w.shape? vb = some (tA, kA) ∧ kA ≠ 0 := by
      have h3 := hr0.2
      unfold World.cell? at h3
      unfold World.shape?
      cases hq : C.w.heap[vb]? with
      | none => rw [hq] at h3; simp at h3
      | some o =>
        rw [hq] at h3
        cases o with
        | cells cc ee ff =>
          simp at h3
          have := (Array.getElem?_eq_some_iff.1 h3).1
          exact ⟨_, _, rfl, by omega⟩
        | _ => simp at h3
    obtain ⟨tA, kA, hsa, hkA⟩ := hsha
    have hnewl : ((flat xs).take (i * 4) ++ y.cells ++ (flat xs).drop (i * 4)).length = (xs.length + 1) * 4 := by
      simp only [List.length_append, List.length_take, List.length_drop, hfx, huy]; omega
    have hnget : ∀ j (hj : j < ((flat xs).take (i * 4) ++ y.cells ++ (flat xs).drop (i * 4)).length), ∃ q, (((flat xs).take (i * 4) ++ y.cells ++ (flat xs).drop (i * 4))[j] = q) ∧
        ((j < i * 4 ∧ (flat xs)[j]? = some q) ∨ (i * 4 ≤ j ∧ j < (i + 1) * 4 ∧ (flat [y])[j - i * 4]? = some q) ∨ ((i + 1) * 4 ≤ j ∧ (flat xs)[j - 4]? = some q)) := fun j hj => by
      refine ⟨_, rfl, ?_⟩
      have hq := List.getElem?_eq_getElem hj
      generalize ((flat xs).take (i * 4) ++ y.cells ++ (flat xs).drop (i * 4))[j] = q at hq ⊢
      rw [hnewl] at hj
      by_cases g1 : j < i * 4
      · left; refine ⟨g1, ?_⟩
        rw [List.append_assoc, List.getElem?_append_left (by rw [List.length_take, hfx]; omega), List.getElem?_take_of_lt g1] at hq
        exact hq
      · right
        rw [List.append_assoc, List.getElem?_append_right (by rw [List.length_take, hfx]; omega)] at hq
        have e3 : ((flat xs).take (i * 4)).length = i * 4 := by rw [List.length_take, hfx]; omega
        rw [e3] at hq
        by_cases g2 : j < (i + 1) * 4
        · left; refine ⟨by omega, g2, ?_⟩
          rw [List.getElem?_append_left (by omega)] at hq
          rw [hfy]; exact hq
        · right; refine ⟨by omega, ?_⟩
          rw [List.getElem?_append_right (by omega), List.getElem?_drop, huy] at hq
          rw [show i * 4 + (j - i * 4 - 4) = j - 4 from by omega] at hq
          exact hq
    have hbig : (xs.length + 1) * 64 ≤ 140737488355328 := by omega
    by_cases hroom : xs.length + 1 ≤ c
    · refine (Tryz.insShift (C.μ k) xs.length c i vb vo c2 cs nw C.w hi hroom hcm' hvb hcl hnwl hcc (fun j hj => ?_) (fun j => by simp [World.frozen?, hb]) hvs h1c h1v tA 107 kA cur.size hsa hkA (by simp [World.shape?, hb]) (by omega)).mono fun e w' ⟨he, hw⟩ => ?_
      · have hjc : j < cur.size := by rw [hcs]; omega
        simp [World.cell?, hb, hjc]
      · have hdl : (cs.drop (i * 4)).length = (xs.length - i) * 4 := by rw [List.length_drop, hcl, Nat.sub_mul]
        obtain ⟨cur1, a1, a2, a3, a4⟩ := setCells_heap (C.μ k) (cs.drop (i * 4)) ((i + 1) * 4) C.w.drew cur hb (by rw [hdl, hcs]; omega)
        have hb1 : (C.w.drew.setCells (C.μ k) ((i + 1) * 4) (cs.drop (i * 4))).heap[C.μ k]? = some (.cells cur1 107 (0, 0)) := by rw [a1, Array.getElem?_setIfInBounds, if_pos rfl]; exact if_pos hmu
        obtain ⟨cur', b1, b2, b3, b4⟩ := setCells_heap (C.μ k) nw (i * 4) _ cur1 hb1 (by rw [hnwl, a2, hcs]; omega)
        have hheap : w'.heap = C.w.heap.setIfInBounds (C.μ k) (.cells cur' 107 (0, 0)) := by
          rw [hw, b1, a1]; simp; rfl
        have hcs2 : cur'.size = cur.size := by rw [b2, a2]
        have hget : ∀ j, j < (xs.length + 1) * 4 → cur'[j]? = if j < i * 4 then cur[j]? else if j < (i + 1) * 4 then some (f (j - i * 4)) else cur[j - 4]? := fun j hj => by
          rw [b4 j, a4 j, hnwl, hdl]
          by_cases g1 : j < i * 4
          · rw [if_neg (by omega), if_neg (by omega), if_pos g1]
          · rw [if_neg g1]
            by_cases g2 : j < (i + 1) * 4
            · rw [if_pos (by omega), if_pos g2, hnwg _ (by omega)]
            · rw [if_neg (by omega), if_neg g2, if_pos (by omega), List.getElem?_drop, hcsg _ (by omega)]
              congr 1; omega
        have hso : SameOut C.w w' := by
          rw [hw]
          exact ⟨b3.1.trans a3.1, b3.2.trans a3.2, b3.3.trans a3.3, by first | exact Nat.le_trans a3.4 b3.4 | (have x1 := a3.4; have x2 := b3.4; simp only [World.drew, World.alloc] at x1 x2 ⊢; first | omega | trace_state)⟩
        obtain ⟨hg', hx'⟩ := step_gr_in hg k (vs' := (flat xs).take (i * 4) ++ y.cells ++ (flat xs).drop (i * 4)) hkC hb hheap hso hcs2 (by rw [hnewl, hfx]; omega) rfl (fun hxx => by
          refine ⟨cur', by rw [hheap]; simp [hmu], by rw [hnewl, hcs2, hcs]; omega, hS, fun j hj hj' => ?_⟩
          obtain ⟨q, hq, hcase⟩ := hnget j hj
          have hgj := hget j (by rw [hnewl] at hj; exact hj)
          rw [Array.getElem?_eq_getElem hj'] at hgj
          rw [hq]
          rcases hcase with ⟨g1, g2⟩ | ⟨g1, g2, g3⟩ | ⟨g1, g2⟩
          · obtain ⟨z1, z2⟩ := List.getElem?_eq_some_iff.1 g2
            rw [if_pos g1, Array.getElem?_eq_getElem (by omega)] at hgj
            injection hgj with hgj
            rw [hgj, ← z2]
            exact ⟨(hrel j z1 (by omega)).1.ext hxx, (hrel j z1 (by omega)).2⟩
          · obtain ⟨z1, z2⟩ := List.getElem?_eq_some_iff.1 g3
            rw [if_neg (by omega), if_pos g2] at hgj
            injection hgj with hgj
            rw [hgj, ← z2]
            exact ⟨(hrel2 _ z1).ext hxx, hcy _ (by rw [← hfy]; simp)⟩
          · obtain ⟨z1, z2⟩ := List.getElem?_eq_some_iff.1 g2
            rw [if_neg (by omega), if_neg (by omega), Array.getElem?_eq_getElem (by omega)] at hgj
            injection hgj with hgj
            rw [hgj, ← z2]
            exact ⟨(hrel (j - 4) z1 (by omega)).1.ext hxx, (hrel (j - 4) z1 (by omega)).2⟩)
        refine ⟨_, .gr k (xs.length + 1), _, he, rfl, hg', hx', ?_, rfl, by rw [← hH]⟩
        exact .gr k _ _ _ ⟨107, 4, (flat xs).take (i * 4) ++ y.cells ++ (flat xs).drop (i * 4), by show (C.H.set k _)[k]? = _; simp [hkl], by rw [hnewl]; exact Nat.le_refl _, by decide, fun _ => ⟨cur', rfl, by show w'.heap[C.μ k]? = _; rw [hheap]; simp [hmu], hcm, hroom, by rw [hcs2, hcs]⟩⟩
    · refine (Tryz.insGrow (C.μ k) xs.length c i vb vo c2 cs nw C.w #[] hi hnc (by omega) hbig hcl hnwl hcc hvs h1c h1v).mono fun e w' ⟨G, z, hG1, hG2, hz4, he, hw⟩ => ?_
      have hdl : (cs.drop (i * 4)).length = (xs.length - i) * 4 := by rw [List.length_drop, hcl, Nat.sub_mul]
      obtain ⟨ROW, hROW⟩ : ∃ ROW, ROW = (cs.take (i * 4)).toArray ++ Builtin.zeroCells z (xs.length + 1 - i) ++ Builtin.zeroCells z (G - (xs.length + 1)) := ⟨_, rfl⟩
      rw [← hROW] at hw
      have htl : (cs.take (i * 4)).length = i * 4 := by rw [List.length_take, hcl]; omega
      have hRs : ROW.size = G * 4 := by
        rw [hROW]; simp only [Array.size_append, List.size_toArray, size_zeroCells, hz4, htl]; omega
      have hR0 : ∀ j, j < i * 4 → ROW[j]? = cur[j]? := fun j hj => by
        rw [hROW, Array.append_assoc, Array.getElem?_append_left (by simp [htl]; omega), List.getElem?_toArray, List.getElem?_take_of_lt hj, hcsg _ (by omega)]
      have hbn : ((C.w.alloc (.cells ROW 107)).drew).heap[C.w.heap.size]? = some (.cells ROW 107 (0, 0)) := heap_alloc_new C.w _
      obtain ⟨cur1, a1, a2, a3, a4⟩ := setCells_heap C.w.heap.size nw (i * 4) _ ROW hbn (by rw [hnwl, hRs]; omega)
      have hb1 : (((C.w.alloc (.cells ROW 107)).drew.setCells C.w.heap.size (i * 4) nw).drew).heap[C.w.heap.size]? = some (.cells cur1 107 (0, 0)) := by
        show ((C.w.alloc (.cells ROW 107)).drew.setCells C.w.heap.size (i * 4) nw).heap[C.w.heap.size]? = _
        rw [a1, Array.getElem?_setIfInBounds, if_pos rfl, if_pos (Array.getElem?_eq_some_iff.1 hbn).1]
      obtain ⟨cur', b1, b2, b3, b4⟩ := setCells_heap C.w.heap.size (cs.drop (i * 4)) ((i + 1) * 4) _ cur1 hb1 (by rw [hdl, a2, hRs]; omega)
      have hheap : w'.heap = C.w.heap.push (.cells cur' 107 (0, 0)) := by
        rw [hw, b1]
        show Array.setIfInBounds ((C.w.alloc (.cells ROW 107)).drew.setCells C.w.heap.size (i * 4) nw).heap _ _ = _
        rw [a1]
        show Array.setIfInBounds (Array.setIfInBounds (C.w.heap.push (.cells ROW 107 (0, 0))) _ _) _ _ = _
        apply Array.ext_getElem?
        intro q
        simp only [Array.getElem?_setIfInBounds, Array.getElem?_push, Array.size_setIfInBounds, Array.size_push]
        by_cases hq : C.w.heap.size = q
        · subst hq; simp
        · have hq' : ¬ q = C.w.heap.size := fun e => hq e.symm
          simp [hq, hq']
      have hcs2 : cur'.size = G * 4 := by rw [b2, a2, hRs]
      have hget : ∀ j, j < (xs.length + 1) * 4 → cur'[j]? = if j < i * 4 then cur[j]? else if j < (i + 1) * 4 then some (f (j - i * 4)) else cur[j - 4]? := fun j hj => by
        rw [b4 j, a4 j, hnwl, hdl]
        by_cases g1 : j < i * 4
        · rw [if_neg (by omega), if_neg (by omega), if_pos g1, hR0 j g1]
        · rw [if_neg g1]
          by_cases g2 : j < (i + 1) * 4
          · rw [if_neg (by omega), if_pos (by omega), if_pos g2, hnwg _ (by omega)]
          · rw [if_pos (by omega), if_neg g2, List.getElem?_drop, hcsg _ (by omega)]
            congr 1; omega
      have hso : SameOut C.w w' := by
        rw [hw]
        exact ⟨b3.1.trans a3.1, b3.2.trans a3.2, b3.3.trans a3.3, by first | exact Nat.le_trans a3.4 b3.4 | (have x1 := a3.4; have x2 := b3.4; simp only [World.drew, World.alloc] at x1 x2 ⊢; first | omega | trace_state)⟩
      obtain ⟨hg', hx'⟩ := step_gr_move hg k (vs' := (flat xs).take (i * 4) ++ y.cells ++ (flat xs).drop (i * 4)) hkC hheap hso (by rw [hnewl, hfx]; omega) rfl (fun hxx => by
        refine ⟨cur', by show w'.heap[if k = k then _ else _]? = _; rw [if_pos rfl, hheap]; simp, by rw [hnewl, hcs2]; omega, by show C.S (if k = k then _ else _) = _; rw [if_pos rfl]; exact hg.fresh _ (Nat.le_refl _), fun j hj hj' => ?_⟩
        obtain ⟨q, hq, hcase⟩ := hnget j hj
        have hgj := hget j (by rw [hnewl] at hj; exact hj)
        rw [Array.getElem?_eq_getElem hj'] at hgj
        rw [hq]
        rcases hcase with ⟨g1, g2⟩ | ⟨g1, g2, g3⟩ | ⟨g1, g2⟩
        · obtain ⟨z1, z2⟩ := List.getElem?_eq_some_iff.1 g2
          rw [if_pos g1, Array.getElem?_eq_getElem (by omega)] at hgj
          injection hgj with hgj
          rw [hgj, ← z2]
          exact ⟨(hrel j z1 (by omega)).1.ext hxx, (hrel j z1 (by omega)).2⟩
        · obtain ⟨z1, z2⟩ := List.getElem?_eq_some_iff.1 g3
          rw [if_neg (by omega), if_pos g2] at hgj
          injection hgj with hgj
          rw [hgj, ← z2]
          exact ⟨(hrel2 _ z1).ext hxx, hcy _ (by rw [← hfy]; simp)⟩
        · obtain ⟨z1, z2⟩ := List.getElem?_eq_some_iff.1 g2
          rw [if_neg (by omega), if_neg (by omega), Array.getElem?_eq_getElem (by omega)] at hgj
          injection hgj with hgj
          rw [hgj, ← z2]
          exact ⟨(hrel (j - 4) z1 (by omega)).1.ext hxx, (hrel (j - 4) z1 (by omega)).2⟩)
      refine ⟨_, .gr k (xs.length + 1), _, he, rfl, hg', hx', ?_, rfl, by rw [← hH]⟩
      refine .gr k _ _ _ ⟨107, 4, (flat xs).take (i * 4) ++ y.cells ++ (flat xs).drop (i * 4), by show (C.H.set k _)[k]? = _; simp [hkl], by rw [hnewl]; exact Nat.le_refl _, by decide, fun _ => ⟨cur', by simp, ?_, hG2, hG1, hcs2⟩⟩
      show w'.heap[if k = k then _ else _]? = _
      rw [if_pos rfl, hheap]; simp
end Ab
set_option maxRecDepth 10000
namespace Ab
open Go Go.Proofs
section
variable {P : Program} {ro : Option Nat} {st : ASt} {dst : Option Tmp} {ty : TypeId} {pos : String} {after : Array Edge} {guard : Option (Nat × Bool)} {K : AV → List AObj → Prop}
theorem AOp_slice_grJ {t e sz : Nat} {x : Operand} {lo hi : Option Operand} (id n l h : Nat) (e' : TypeId) (sz' : Nat) (vs : List AV) (hx : st.opd x = .gr id n) (hh : st.heap[id]? = some (.grow e' sz' vs)) (hn : n * sz' = vs.length) (ht : SliceT P t e) (hs : SzOf P e sz) (hlo : OptInt st lo l 0) (hhi : OptInt st hi h n) (h1 : l ≤ h) (h2 : h ≤ n)
    (k : K .junk st.heap) : AOp P ro ⟨dst, .slice t x lo hi none, ty, pos, after, guard⟩ K st :=
  AOp_pure _ (fun c => by simp) (fun C a hg hH hsr => by
    have hv := hsr.opd x
    rw [hx] at hv
    obtain ⟨c, cur, hxx, _, _, hnc, _⟩ := gr_val hv (by rw [hH]; exact hh) hn
    have ht' : P.underlying t = some (.slice e) := ht
    have hb := bounds_run (P := P) true n c (lo.map a.eval) (hi.map a.eval) l h C.w (hlo.val hsr) (hhi.val hsr) h1 (by omega)
    exact ⟨_, by simp [execOp, hxx, Instr.sliceAt, Instr.slice, run_underlying ht', hb, hs.run]; rfl, .junk _⟩) k
theorem app1_Gr {α : Type} (enc : α → AV) {t e by_ sz : Nat} {s x : Operand} (hu : ∀ x, (enc x).cells.length = sz) (hc : ∀ x c, c ∈ (enc x).cells → c.isCell = true) (zs : List Value) (k : Nat) (xs : List α) (y : α) (tk : Tok) (hs : st.opd s = grS k (encL enc xs)) (hx : st.opd x = .sl tk [enc y]) (hh : st.heap[k]? = some (grO e sz (encL enc xs)))
    (ht : SliceT P t e) (hsz : SzOf P e sz) (hby : BytesOf P e by_) (hz : ZeroOf P e zs) (hz0 : zs.length = sz) (h0 : 0 < sz) (hb : by_ ≤ 100) (hl : xs.length < 1099511627776)
    (k' : K (grS k (encL enc (xs ++ [y]))) (st.heap.set k (grO e sz (encL enc (xs ++ [y]))))) :
    AOp P ro ⟨dst, .call { callee := .builtin .append, args := #[s, x], argTypes := #[t, t] }, ty, pos, after, guard⟩ K st := by
  have e1 : encL enc (xs ++ [y]) = encL enc xs ++ [enc y] := by simp [encL]
  rw [e1] at k'
  refine AOp_append_Gr zs k (encL enc xs) [enc y] tk hs hx hh ht hsz hby hz hz0 h0 (uni_encL hu xs) (by intro x hx; rw [List.mem_singleton] at hx; subst hx; exact hu y) (fun c h => hc y c (by simpa [flat] using h)) ?_ (by rw [encL_length]; simp; omega) k'
  rw [encL_length]
  calc (xs.length + 1) * by_ ≤ 1099511627776 * 100 := Nat.mul_le_mul (by omega) hb
    _ ≤ _ := by decide
end
theorem flB_len (l : List (List UInt8 × Term)) : (flat (encL encBd l)).length = l.length * 4 := by rw [flat_length (uni_encL (enc := encBd) (k := 4) (fun _ => rfl) l), encL_length]
theorem flB_sc (n : Nat) (l : List (List UInt8 × Term)) : ScopedL n (flat (encL encBd l)) = True := by
  refine eq_true ?_
  rw [ScopedL_iff]
  intro v hv
  unfold flat encL at hv
  rw [List.mem_flatMap] at hv
  obtain ⟨a, ha, hv⟩ := hv
  obtain ⟨b, _, rfl⟩ := List.mem_map.1 ha
  simp only [AV.cells, List.mem_cons, List.not_mem_nil, or_false] at hv
  rcases hv with rfl | rfl | rfl | rfl <;> simp [Scoped, scoped_encTs]
theorem flB_app (a b : List (List UInt8 × Term)) : flat (encL encBd (a ++ b)) = flat (encL encBd a) ++ flat (encL encBd b) := by simp [flat, encL]
theorem flB_take (l : List (List UInt8 × Term)) (i : Nat) (h : i ≤ l.length) : (flat (encL encBd l)).take (i * 4) = flat (encL encBd (l.take i)) := by
  conv => lhs; rw [← List.take_append_drop i l, flB_app]
  rw [List.take_left' (by rw [flB_len, List.length_take]; omega)]
theorem flB_drop (l : List (List UInt8 × Term)) (i : Nat) (h : i ≤ l.length) : (flat (encL encBd l)).drop (i * 4) = flat (encL encBd (l.drop i)) := by
  conv => lhs; rw [← List.take_append_drop i l, flB_app]
  rw [List.drop_left' (by rw [flB_len, List.length_take]; omega)]
theorem bd4 (l : List (List UInt8 × Term)) (i : Nat) (h : i < l.length) : ((flat (encL encBd l)).drop (i * 4)).take 4 = [.str l[i].1, .str l[i].2.name, .bool l[i].2.var, .sl .none (encTs l[i].2.args)] := by
  rw [flB_drop l i (by omega), List.drop_eq_getElem_cons h]
  rfl
theorem bd3 (l : List (List UInt8 × Term)) (i : Nat) (h : i < l.length) : ((flat (encL encBd l)).drop (i * 4 + 1)).take 3 = [.str l[i].2.name, .bool l[i].2.var, .sl .none (encTs l[i].2.args)] := by
  rw [← List.drop_drop, flB_drop l i (by omega), List.drop_eq_getElem_cons h]
  rfl
theorem grS_cons (k : Nat) (b : List UInt8 × Term) (l : List (List UInt8 × Term)) : grS k (encL encBd (b :: l)) = .gr k (l.length + 1) := by
  show AV.gr k (encL encBd (b :: l)).length = _
  rw [encL_length]; rfl
theorem grO_cons (e : Nat) (b : List UInt8 × Term) (l : List (List UInt8 × Term)) : grO e 4 (encL encBd (b :: l)) = .grow e 4 (flat (encL encBd (b :: l))) := (rfl)
theorem strip_grS (n k : Nat) (xs : List AV) : strip n (grS k xs) = grS k xs := by cases xs <;> rfl
theorem osc_grB (n e : Nat) (l : List (List UInt8 × Term)) : OScoped n (grO e 4 (encL encBd l)) := of_eq_true (osc_grO _ _ _ _ (of_eq_true (flB_sc n l)))
theorem outok_set {H : List AObj} {k : Nat} {o : AObj} (ho : OScoped H.length o) : OutOk H (H.set k o) H.length := by
  refine ⟨by simp, Nat.le_refl _, fun j hj => ?_⟩
  by_cases h : k = j
  · subst h; exact .inr ⟨o, by simp [hj], ho⟩
  · exact .inl ⟨hj, by simp [h]⟩
theorem ins_fin {H : List AObj} {k : Nat} (hkl : k < H.length) (l : List (List UInt8 × Term)) : OutOk H (H.set k (grO 107 4 (encL encBd l))) H.length ∧ Scoped H.length (strip H.length (grS k (encL encBd l))) ∧ strip H.length (grS k (encL encBd l)) = grS k (encL encBd l) ∧ (H.set k (grO 107 4 (encL encBd l))).take H.length = H.set k (grO 107 4 (encL encBd l)) := by
  refine ⟨outok_set (osc_grB _ _ _), ?_, strip_grS _ _ _, List.take_of_length_le (by simp)⟩
  rw [strip_grS]; exact of_eq_true (sc_grS _ _ _ hkl)
theorem ins_ac (k : Nat) (σ : List (List UInt8 × Term)) (b : List UInt8 × Term) (tk : Tok) (i : Nat) (hi : i ≤ σ.length) (hlen : σ.length < 1099511627775) (H : List AObj) (hk : H[k]? = some (grO 107 4 (encL encBd σ))) :
    ACall Tryz.prog 201 [grS k (encL encBd σ), .int .i64 (i : Nat), .sl tk [encBd b]] H (fun r H' => r = grS k (encL encBd (σ.take i ++ [b] ++ σ.drop i)) ∧ H' = H.set k (grO 107 4 (encL encBd (σ.take i ++ [b] ++ σ.drop i)))) := by
  have hkl := (List.getElem?_eq_some_iff.1 hk).1
  rcases Nat.lt_or_eq_of_le hi with h | h
  · cases σ with
    | nil => simp at h
    | cons a r =>
      have h1 := insMid_ac k (encL encBd (a :: r)) (encBd b) tk i (by rw [encL_length]; exact h) (uni_encL (enc := encBd) (k := 4) (fun _ => rfl) _) rfl (cellBd b) (by rw [encL_length]; omega) H hk
      refine h1.mono ?_
      rintro r' H' ⟨rfl, rfl⟩
      obtain ⟨L, hL⟩ : ∃ L, L = (a :: r).take i ++ [b] ++ (a :: r).drop i := ⟨_, rfl⟩
      have hLl : L.length = (a :: r).length + 1 := by rw [hL]; simp only [List.length_append, List.length_take, List.length_drop, List.length_singleton]; omega
      rw [← hL]
      have hfl : (flat (encL encBd (a :: r))).take (i * 4) ++ (encBd b).cells ++ (flat (encL encBd (a :: r))).drop (i * 4) = flat (encL encBd L) := by
        rw [flB_take _ _ hi, flB_drop _ _ hi, hL, flB_app, flB_app]
        simp [flat, encL]
      rw [hfl]
      cases L with
      | nil => simp at hLl
      | cons c l =>
        refine ⟨?_, rfl⟩
        rw [grS_cons]
        simp only [List.length_cons] at hLl
        congr 1
        rw [encL_length]; simp only [List.length_cons]; omega
  · subst h
    rw [List.take_length, List.drop_length, List.append_nil]
    cases σ with
    | nil =>
      refine ACall_W (H.length) 92 [.tmp 6] Tryz.func201 rfl rfl rfl ?_
      simp only [push_cast, Nat.reduceAdd, Nat.reduceSub, Nat.reduceMul, Nat.reduceLT, Nat.reduceLeDiff, Nat.reduceEqDiff, Int.reduceToNat, ↓reduceIte]
      refine ⟨by omega, fun x hx => absurd hx (by simp), cI (fun h => absurd h (by decide)) (fun _ => ?_)⟩
      refine app1_Gr encBd (sz := 4) (fun _ => rfl) cellBd _ k [] b tk rfl rfl hk sl49 sz107 by107 zr107 rfl (by decide) (by decide) (by decide) ?_
      simp only [push_cast, Nat.reduceAdd, Nat.reduceSub, Nat.reduceMul, Nat.reduceLT, Nat.reduceLeDiff, Nat.reduceEqDiff, Int.reduceToNat, ↓reduceIte]
      exact ins_fin hkl _
    | cons a r =>
      rw [grS_cons]
      refine ACall_W (H.length) 92 [.tmp 6] Tryz.func201 rfl rfl rfl ?_
      simp only [push_cast, Nat.reduceAdd, Nat.reduceSub, Nat.reduceMul, Nat.reduceLT, Nat.reduceLeDiff, Nat.reduceEqDiff, Int.reduceToNat, ↓reduceIte]
      refine AOp_slice_grJ k (r.length + 1) (r.length + 1) (r.length + 1) _ _ _ rfl (hk.trans (congrArg some (grO_cons _ a r))) (flB_len (a :: r)).symm sl49 sz107 (.inr ⟨_, _, rfl, rfl⟩) (.inl ⟨rfl, rfl⟩) (Nat.le_refl _) (Nat.le_refl _) ?_
      simp only [push_cast, Nat.reduceAdd, Nat.reduceSub, Nat.reduceMul, Nat.reduceLT, Nat.reduceLeDiff, Nat.reduceEqDiff, Int.reduceToNat, ↓reduceIte]
      refine cI (fun h => absurd h (by decide)) (fun _ => ?_)
      refine app1_Gr encBd (sz := 4) (fun _ => rfl) cellBd _ k (a :: r) b tk (grS_cons k a r).symm rfl hk sl49 sz107 by107 zr107 rfl (by decide) (by decide) (by omega) ?_
      simp only [push_cast, Nat.reduceAdd, Nat.reduceSub, Nat.reduceMul, Nat.reduceLT, Nat.reduceLeDiff, Nat.reduceEqDiff, Int.reduceToNat, ↓reduceIte]
      exact ins_fin hkl _
theorem searchG_ac (k : Nat) (xs : List (List UInt8 × Term)) (hne : xs ≠ []) (v : List UInt8) (g : Nat) (caps : List AV) (c : List UInt8 × Term → Int) (H : List AObj) (hk : H[k]? = some (grO 107 4 (encL encBd xs))) (hlen : xs.length < 1099511627776) (hg : callOk Tryz.prog g = true) (hsc : ScopedL H.length caps)
    (hmono : ∀ i j (hi : i < xs.length) (hj : j < xs.length), i ≤ j → c xs[j] < 0 → c xs[i] < 0)
    (hf : ∀ i (h : i < xs.length) X, ACall Tryz.prog g (encBd xs[i] :: .str v :: caps) X (fun r H' => r = .int .i64 (c xs[i]) ∧ H' = X)) :
    ACall Tryz.prog 176 [grS k (encL encBd xs), .str v, .fn g caps] H
      (fun r H' => ∃ i : Nat, i ≤ xs.length ∧ (∀ j (hj : j < xs.length), j < i → c xs[j] < 0) ∧ (∀ j (hj : j < xs.length), i ≤ j → ¬ c xs[j] < 0) ∧ r = .tup [.int .i64 i, .bool (decide (∃ h : i < xs.length, c xs[i] = 0))] ∧ H' = H) := by
  have hkl := (List.getElem?_eq_some_iff.1 hk).1
  have hgr : grS k (encL encBd xs) = .gr k xs.length ∧ grO 107 4 (encL encBd xs) = .grow 107 4 (flat (encL encBd xs)) := by
    cases xs with
    | nil => exact absurd rfl hne
    | cons a r => exact ⟨grS_cons k a r, rfl⟩
  rw [hgr.2] at hk
  rw [hgr.1]
  have hfl := flB_len xs
  refine ACall_W (H.length) 46 [.tmp 6, .tmp 7] Tryz.func176 rfl rfl rfl ?_
  simp only [push_cast, Nat.reduceAdd, Nat.reduceSub, Nat.reduceMul, Nat.reduceLT, Nat.reduceLeDiff, Nat.reduceEqDiff, Int.reduceToNat, ↓reduceIte]
  refine AW_loopW (maskG 49 [0, 0, 0, 5, 0, 0]) (fun (q : Nat × Nat) => [(9, .int .i64 q.1), (10, .int .i64 q.2)]) (fun _ => H) (fun q => q.1 ≤ q.2 ∧ q.2 ≤ xs.length ∧ (∀ j (hj : j < xs.length), j < q.1 → c xs[j] < 0) ∧ (∀ j (hj : j < xs.length), q.2 ≤ j → ¬ c xs[j] < 0)) (fun q => q.2 - q.1) (0, xs.length) ⟨by simp, by simp, fun j hj h => by simp at h, fun j hj h => by simp at h; omega⟩ (by simp only [push_cast, Nat.reduceAdd, Nat.reduceSub, Nat.reduceMul, Nat.reduceLT, Nat.reduceLeDiff, Nat.reduceEqDiff, Int.reduceToNat, ↓reduceIte, hsc, Scoped, hkl]) (fun q hq => ?_)
  obtain ⟨i, j⟩ := q
  obtain ⟨hi1, hi2, hi3, hi4⟩ := hq
  simp only at hi1 hi2 hi3 hi4
  simp only [push_cast, Nat.reduceAdd, Nat.reduceSub, Nat.reduceMul, Nat.reduceLT, Nat.reduceLeDiff, Nat.reduceEqDiff, Int.reduceToNat, ↓reduceIte, hg, hk, hfl]
  refine cI (fun h => ?_) (fun h => ?_)
  · have e1 : ((i : Int) + j) / 2 ^ 1 = (((i + j) / 2 : Nat) : Int) := by rw [Int.pow_one]; omega
    have e2 : 1 ≤ IntKind.u64.bits := by decide
    obtain ⟨m, hm⟩ : ∃ m, m = (i + j) / 2 := ⟨_, rfl⟩
    rw [← hm] at e1
    rw [e1]
    have hmx : m < xs.length := by omega
    repeat refine ⟨by omega, ?_⟩
    rw [Int.toNat_natCast, bd4 xs m hmx]
    refine (hf m hmx _).to ?_
    simp only [push_cast, Nat.reduceAdd, Nat.reduceSub, Nat.reduceMul, Nat.reduceLT, Nat.reduceLeDiff, Nat.reduceEqDiff, Int.reduceToNat, ↓reduceIte]
    refine cI (fun hc => ?_) (fun hc => ?_)
    · repeat' first | refine ⟨by omega, ?_⟩ | refine cI (fun _ => ?_) (fun _ => ?_)
      exact loopW_n (m + 1, j) ⟨by simp only; omega, by simp only; omega, fun k hk hkm => hmono k m hk hmx (by simp only at hkm; omega) hc, hi4⟩ (by simp only; omega) (by simp only [push_cast, Nat.reduceAdd, Nat.reduceSub, Nat.reduceMul, Nat.reduceLT, Nat.reduceLeDiff, Nat.reduceEqDiff, Int.reduceToNat, ↓reduceIte, hsc, Scoped, hkl])
    · repeat' first | refine ⟨by omega, ?_⟩ | refine cI (fun _ => ?_) (fun _ => ?_)
      exact loopW_n (i, m) ⟨by simp only; omega, by simp only; omega, hi3, fun k hk hmk hneg => absurd (hmono m k hmx hk hmk hneg) hc⟩ (by simp only; omega) (by simp only [push_cast, Nat.reduceAdd, Nat.reduceSub, Nat.reduceMul, Nat.reduceLT, Nat.reduceLeDiff, Nat.reduceEqDiff, Int.reduceToNat, ↓reduceIte, hsc, Scoped, hkl])
  · have hall : ∀ k (hk : k < xs.length), i ≤ k → ¬ c xs[k] < 0 := fun k hk hik => hi4 k hk (by omega)
    refine cI (fun hl => ?_) (fun hl => ?_)
    · have hil : i < xs.length := by omega
      repeat refine ⟨by omega, ?_⟩
      rw [bd4 xs i hil]
      refine (hf i hil _).to ?_
      simp only [push_cast, Nat.reduceAdd, Nat.reduceSub, Nat.reduceMul, Nat.reduceLT, Nat.reduceLeDiff, Nat.reduceEqDiff, Int.reduceToNat, ↓reduceIte]
      refine ⟨i, by omega, hi3, hall, rfl, ?_⟩
      simp [hil]
    · refine ⟨i, by omega, hi3, hall, rfl, ?_⟩
      have hil : ¬ i < xs.length := by omega
      simp [hil]
theorem imageG_ac (k : Nat) (σ : List (List UInt8 × Term)) (hs : SortedN (σ.map (·.1))) (v : List UInt8) (hlen : σ.length < 1099511627776) (H : List AObj) (hk : H[k]? = some (grO 107 4 (encL encBd σ))) :
    ACall Tryz.prog 150 [grS k (encL encBd σ), .str v] H (fun r H' => r = .tup [encT ((look σ v).getD (.mk [] false [])), .bool (look σ v).isSome] ∧ H' = H) := by
  have hkl := (List.getElem?_eq_some_iff.1 hk).1
  by_cases hne : σ = []
  · subst hne
    exact ACall.forget (args' := [.sl .none (encL encBd []), .str v]) ⟨Forget.tok _ _, Forget.refl _, trivial⟩ (imageT_ac [] hs v hlen H)
  have hgr : grS k (encL encBd σ) = .gr k σ.length ∧ grO 107 4 (encL encBd σ) = .grow 107 4 (flat (encL encBd σ)) := by
    cases σ with
    | nil => exact absurd rfl hne
    | cons a r => exact ⟨grS_cons k a r, rfl⟩
  have hk0 := hk
  rw [hgr.2] at hk
  have hfl := flB_len σ
  rw [hgr.1]
  refine ACall_V (H.length) 20 [.cell 4 25, .tmp 5] Tryz.func150 rfl rfl rfl ?_
  have hk1 : ∀ o, (H ++ [o])[k]? = some (grO 107 4 (encL encBd σ)) := fun o => getD_app _ _ _ hk0
  simp only [push_cast, Nat.reduceAdd, Nat.reduceSub, Nat.reduceMul, Nat.reduceLT, Nat.reduceLeDiff, Nat.reduceEqDiff, Int.reduceToNat, ↓reduceIte]
  rw [← hgr.1]
  refine (searchG_ac k σ hne v 177 [] (fun b => Lib.compareBytes b.1 v) _ (hk1 _) hlen ok177 (by simp [ScopedL]) (fun i j hi hj hij hc => ?_) (fun i h X => imageC_ac _ v _)).mono ?_
  · rcases Nat.lt_or_eq_of_le hij with h | h
    · exact cb_trans _ _ _ (sortedS_get hs i j hi hj h) hc
    · subst h; exact hc
  rintro r H' ⟨i, h1, h2, h3, rfl, rfl⟩
  have hk2 : ∀ o, (H ++ [o])[k]? = some (.grow 107 4 (flat (encL encBd σ))) := fun o => getD_app _ _ _ hk
  by_cases hx : ∃ h : i < σ.length, Lib.compareBytes σ[i].1 v = 0
  · obtain ⟨hil, he⟩ := hx
    have hv := (compareBytes_eq _ _).1 he
    have hl : look σ v = some σ[i].2 := by rw [← hv]; exact look_some hs i hil
    have hd : decide (∃ h : i < σ.length, Lib.compareBytes σ[i].1 v = 0) = true := by rw [decide_eq_true_eq]; exact ⟨hil, he⟩
    simp only [push_cast, Nat.reduceAdd, Nat.reduceSub, Nat.reduceMul, Nat.reduceLT, Nat.reduceLeDiff, Nat.reduceEqDiff, Int.reduceToNat, ↓reduceIte, hd, hgr.1, hk2, hfl, bd3 σ i hil, hl]
    exact ⟨hil, by omega, rfl⟩
  · have hl : look σ v = none := look_none fun b hb e => by
      obtain ⟨j, hj, rfl⟩ := List.getElem_of_mem hb
      have hj0 : Lib.compareBytes σ[j].1 v = 0 := by rw [e]; exact cb_self v
      rcases Nat.lt_trichotomy j i with h | h | h
      · have := h2 j hj h; omega
      · subst h; exact hx ⟨hj, hj0⟩
      · have h4 := sortedS_get hs i j (by omega) hj h
        rw [e] at h4
        exact h3 i (by omega) (Nat.le_refl _) h4
    have hd : decide (∃ h : i < σ.length, Lib.compareBytes σ[i].1 v = 0) = false := by rw [decide_eq_false_iff_not]; exact hx
    simp only [push_cast, Nat.reduceAdd, Nat.reduceSub, Nat.reduceMul, Nat.reduceLT, Nat.reduceLeDiff, Nat.reduceEqDiff, Int.reduceToNat, ↓reduceIte, hd, hl]
    simp
end Ab
namespace Ab
open Go
def subLe (σ τ : List (List UInt8 × Term)) : Prop := ∀ v x, look σ v = some x → look τ v = some x
theorem subLe.refl (σ : List (List UInt8 × Term)) : subLe σ σ := fun _ _ h => h
theorem subLe.trans {a b c : List (List UInt8 × Term)} (h1 : subLe a b) (h2 : subLe b c) : subLe a c := fun v x h => h2 v x (h1 v x h)
def insB (σ : List (List UInt8 × Term)) (v : List UInt8) (t : Term) : List (List UInt8 × Term) := σ.take (insAt (σ.map (·.1)) v) ++ [(v, t)] ++ σ.drop (insAt (σ.map (·.1)) v)
theorem insB_length (σ : List (List UInt8 × Term)) (v : List UInt8) (t : Term) : (insB σ v t).length = σ.length + 1 := by
  unfold insB
  rw [List.length_append, List.length_append, List.length_take, List.length_drop, List.length_singleton]
  omega
theorem mem_insB {σ : List (List UInt8 × Term)} {v : List UInt8} {t : Term} (b : List UInt8 × Term) : b ∈ insB σ v t ↔ b ∈ σ ∨ b = (v, t) := by
  unfold insB
  rw [List.mem_append, List.mem_append, List.mem_singleton]
  have e := List.take_append_drop (insAt (σ.map (·.1)) v) σ
  constructor
  · rintro ((h | h) | h)
    · exact .inl (List.mem_of_mem_take h)
    · exact .inr h
    · exact .inl (List.mem_of_mem_drop h)
  · rintro (h | h)
    · rw [← e, List.mem_append] at h
      rcases h with h | h
      · exact .inl (.inl h)
      · exact .inr h
    · exact .inl (.inr h)
theorem insB_names {σ : List (List UInt8 × Term)} {v : List UInt8} {t : Term} (h : look σ v = none) : (insB σ v t).map (·.1) = insertP (σ.map (·.1)) v := by
  unfold insB insertP
  have hn := look_isNone (σ := σ) (v := v) |>.1 (by rw [h]; rfl)
  split
  · rename_i he
    obtain ⟨b, hb, rfl⟩ := List.mem_map.1 (List.mem_of_getElem? he)
    exact absurd rfl (hn b hb)
  · simp [List.map_take, List.map_drop]
theorem insB_sorted {σ : List (List UInt8 × Term)} {v : List UInt8} {t : Term} (hs : SortedN (σ.map (·.1))) (h : look σ v = none) : SortedN ((insB σ v t).map (·.1)) := by
  rw [insB_names h]; exact insertP_sorted _ _ hs
theorem look_iff {σ : List (List UInt8 × Term)} (hs : SortedN (σ.map (·.1))) (v : List UInt8) (x : Term) : look σ v = some x ↔ (v, x) ∈ σ := ⟨look_some_mem, fun h => look_mem hs h⟩
theorem insB_look {σ : List (List UInt8 × Term)} {v : List UInt8} {t : Term} (hs : SortedN (σ.map (·.1))) (h : look σ v = none) (u : List UInt8) (x : Term) : look (insB σ v t) u = some x ↔ look σ u = some x ∨ (u = v ∧ x = t) := by
  rw [look_iff (insB_sorted hs h), mem_insB, look_iff hs, Prod.mk.injEq]
theorem insB_le {σ : List (List UInt8 × Term)} {v : List UInt8} {t : Term} (hs : SortedN (σ.map (·.1))) (h : look σ v = none) : subLe σ (insB σ v t) := fun u x hx => (insB_look hs h u x).2 (.inl hx)
def leafM (σ : List (List UInt8 × Term)) (n : List UInt8) (y : Term) : List (List UInt8 × Term) × Bool := match look σ n with
  | some x => (σ, decide (x = y))
  | none => (insB σ n y, true)
def clash (n : List UInt8) (k : Nat) (y : Term) : Bool := y.var || decide (n ≠ y.name) || decide (k ≠ y.args.length)
def matchTs : List Term → List Term → List (List UInt8 × Term) → List (List UInt8 × Term) × Bool
  | .mk n v xs :: r, y :: r', σ =>
    if v then (if (leafM σ n y).2 then matchTs r r' (leafM σ n y).1 else ((leafM σ n y).1, false))
    else if clash n xs.length y then (σ, false)
    else if (matchTs xs y.args σ).2 then matchTs r r' (matchTs xs y.args σ).1 else ((matchTs xs y.args σ).1, false)
  | _, _, σ => (σ, true)
def matchP (p t : Term) (σ : List (List UInt8 × Term)) : List (List UInt8 × Term) × Bool :=
  if p.var then leafM σ p.name t else if clash p.name p.args.length t then (σ, false) else matchTs p.args t.args σ
theorem matchTs_cons (p y : Term) (r r' : List Term) (σ : List (List UInt8 × Term)) : matchTs (p :: r) (y :: r') σ = if (matchP p y σ).2 then matchTs r r' (matchP p y σ).1 else ((matchP p y σ).1, false) := by
  cases p with
  | mk n v xs =>
    rw [matchTs]
    unfold matchP
    simp only [Term.name_mk, Term.var_mk, Term.args_mk]
    cases v with
    | true => simp
    | false =>
      by_cases hc : clash n xs.length y = true
      · simp [hc]
      · simp [hc]
theorem matchTs_nil (ys : List Term) (σ : List (List UInt8 × Term)) : matchTs [] ys σ = (σ, true) := by cases ys <;> simp [matchTs]
theorem matchTs_nil2 (xs : List Term) (σ : List (List UInt8 × Term)) : matchTs xs [] σ = (σ, true) := by
  cases xs with
  | nil => simp [matchTs]
  | cons a r => cases a; simp [matchTs]
theorem clash_false {n : List UInt8} {k : Nat} {y : Term} : clash n k y = false ↔ y.var = false ∧ n = y.name ∧ k = y.args.length := by
  unfold clash
  simp [and_assoc]
theorem matchP_v (n : List UInt8) (xs : List Term) (y : Term) (σ : List (List UInt8 × Term)) : matchP (.mk n true xs) y σ = leafM σ n y := by unfold matchP; exact if_pos rfl
theorem matchP_c {n : List UInt8} {xs : List Term} {y : Term} (σ : List (List UInt8 × Term)) (h : clash n xs.length y = true) : matchP (.mk n false xs) y σ = (σ, false) := by
  unfold matchP
  exact (if_neg (by simp [Term.var_mk])).trans (if_pos h)
theorem matchP_g {n : List UInt8} {xs : List Term} {y : Term} (σ : List (List UInt8 × Term)) (h : clash n xs.length y = false) : matchP (.mk n false xs) y σ = matchTs xs y.args σ := by
  unfold matchP
  exact (if_neg (by simp [Term.var_mk])).trans (if_neg (fun e => by rw [show clash (Term.mk n false xs).name (Term.mk n false xs).args.length y = clash n xs.length y from rfl, h] at e; cases e))
structure MatchOk (σ σ' : List (List UInt8 × Term)) (S : Term → Prop) : Prop where
  sorted : SortedN (σ'.map (·.1))
  le : subLe σ σ'
  new : ∀ b, b ∈ σ' → b ∈ σ ∨ S b.2
  len : σ.length ≤ σ'.length
theorem MatchOk.refl {σ : List (List UInt8 × Term)} {S : Term → Prop} (hs : SortedN (σ.map (·.1))) : MatchOk σ σ S := ⟨hs, subLe.refl σ, fun _ h => .inl h, Nat.le_refl _⟩
theorem MatchOk.trans {a b c : List (List UInt8 × Term)} {S : Term → Prop} (h1 : MatchOk a b S) (h2 : MatchOk b c S) : MatchOk a c S :=
  ⟨h2.sorted, h1.le.trans h2.le, fun x hx => by
    rcases h2.new x hx with h | h
    · exact h1.new x h
    · exact .inr h, Nat.le_trans h1.len h2.len⟩
theorem MatchOk.mono {a b : List (List UInt8 × Term)} {S S' : Term → Prop} (h : MatchOk a b S) (hS : ∀ x, S x → S' x) : MatchOk a b S' := ⟨h.sorted, h.le, fun x hx => (h.new x hx).imp id (hS _), h.len⟩
theorem SubT.self : ∀ t : Term, SubT t t := fun t => at_sub [] t t (by cases t; rfl)
theorem leaf_ok {σ : List (List UInt8 × Term)} (hs : SortedN (σ.map (·.1))) (n : List UInt8) (y : Term) : MatchOk σ (leafM σ n y).1 (fun x => x = y) ∧ (leafM σ n y).1.length ≤ σ.length + 1 := by
  unfold leafM
  split
  · exact ⟨MatchOk.refl hs, by simp⟩
  · rename_i h
    exact ⟨⟨insB_sorted hs h, insB_le hs h, fun b hb => by
      rcases (mem_insB b).1 hb with h | h
      · exact .inl h
      · exact .inr (by rw [h]), by simp [insB_length]⟩, by simp [insB_length]⟩
theorem SubT.arg_of {y x a : Term} (ha : a ∈ y.args) (h : SubT a x) : SubT y x := by
  cases y with
  | mk n v xs => exact .arg ha h
theorem matchTs_ok : ∀ (xs ys : List Term) (σ : List (List UInt8 × Term)), SortedN (σ.map (·.1)) →
    MatchOk σ (matchTs xs ys σ).1 (fun x => ∃ y, y ∈ ys ∧ SubT y x) ∧ (matchTs xs ys σ).1.length ≤ σ.length + (xs.map Term.size).sum
  | [], ys, σ, hs => by rw [matchTs_nil]; exact ⟨MatchOk.refl hs, by simp⟩
  | .mk n u xs :: r, [], σ, hs => by rw [matchTs_nil2]; exact ⟨MatchOk.refl hs, by simp⟩
  | .mk n u xs :: r, y :: r', σ, hs => by
    have one : MatchOk σ (matchP (.mk n u xs) y σ).1 (fun x => SubT y x) ∧ (matchP (.mk n u xs) y σ).1.length ≤ σ.length + (Term.mk n u xs).size := by
      cases u with
      | true =>
        obtain ⟨h1, h2⟩ := leaf_ok hs n y
        rw [matchP_v]
        exact ⟨h1.mono fun x hx => by rw [hx]; exact SubT.self y, by rw [Term.size_mk]; omega⟩
      | false =>
        cases hc : clash n xs.length y with
        | true => rw [matchP_c σ hc]; exact ⟨MatchOk.refl hs, by simp⟩
        | false =>
          rw [matchP_g σ hc]
          obtain ⟨h1, h2⟩ := matchTs_ok xs y.args σ hs
          exact ⟨h1.mono fun x ⟨a, ha, hx⟩ => SubT.arg_of ha hx, by rw [Term.size_mk]; omega⟩
    obtain ⟨h1, h2⟩ := one
    have h1' : MatchOk σ (matchP (.mk n u xs) y σ).1 (fun x => ∃ z, z ∈ y :: r' ∧ SubT z x) := h1.mono fun x hx => ⟨y, by simp, hx⟩
    rw [matchTs_cons]
    cases (matchP (.mk n u xs) y σ).2 with
    | false => simp only [Bool.false_eq_true, if_false, List.map_cons, List.sum_cons]; exact ⟨h1', by omega⟩
    | true =>
      obtain ⟨g1, g2⟩ := matchTs_ok r r' (matchP (.mk n u xs) y σ).1 h1.sorted
      simp only [if_true, List.map_cons, List.sum_cons]
      exact ⟨h1'.trans (g1.mono fun x ⟨z, hz, hx⟩ => ⟨z, by simp [hz], hx⟩), by omega⟩
theorem matchP_ok (p t : Term) (σ : List (List UInt8 × Term)) (hs : SortedN (σ.map (·.1))) : MatchOk σ (matchP p t σ).1 (fun x => SubT t x) ∧ (matchP p t σ).1.length ≤ σ.length + p.size := by
  obtain ⟨h1, h2⟩ := matchTs_ok [p] [t] σ hs
  have e : (matchTs [p] [t] σ).1 = (matchP p t σ).1 := by
    rw [matchTs_cons, matchTs_nil]
    cases h : (matchP p t σ).2 <;> simp
  rw [e] at h1 h2
  exact ⟨h1.mono fun x ⟨z, hz, hx⟩ => by rw [List.mem_singleton] at hz; rw [← hz]; exact hx, by simpa using h2⟩
end Ab
set_option maxRecDepth 10000
namespace Ab
open Go Go.Proofs
theorem ins_at {σ : List (List UInt8 × Term)} {v : List UInt8} {i : Nat} (hi : i ≤ σ.length) (h1 : ∀ j (hj : j < σ.length), j < i → Lib.compareBytes σ[j].1 v < 0) (h2 : ∀ j (hj : j < σ.length), i ≤ j → ¬ Lib.compareBytes σ[j].1 v < 0) : insAt (σ.map (·.1)) v = i := by
  unfold insAt
  induction σ generalizing i with
  | nil => simp at hi ⊢; omega
  | cons a r ih =>
    cases i with
    | zero =>
      have := h2 0 (by simp) (by omega)
      simp only [List.getElem_cons_zero] at this
      simp [List.takeWhile_cons, this]
    | succ i =>
      have h0 := h1 0 (by simp) (by omega)
      simp only [List.getElem_cons_zero] at h0
      rw [List.map_cons, List.takeWhile_cons, if_pos (by simpa using h0), List.length_cons]
      rw [ih (i := i) (by simpa using hi) (fun j hj hji => by have := h1 (j + 1) (by simp; omega) (by omega); simpa using this) (fun j hj hji => by have := h2 (j + 1) (by simp; omega) (by omega); simpa using this)]
theorem searchX_ac (k : Nat) (xs : List (List UInt8 × Term)) (v : List UInt8) (g : Nat) (caps : List AV) (c : List UInt8 × Term → Int) (H : List AObj) (hk : H[k]? = some (grO 107 4 (encL encBd xs))) (hlen : xs.length < 1099511627776) (hg : callOk Tryz.prog g = true) (hsc : ScopedL H.length caps)
    (hmono : ∀ i j (hi : i < xs.length) (hj : j < xs.length), i ≤ j → c xs[j] < 0 → c xs[i] < 0)
    (hf : ∀ i (h : i < xs.length) X, ACall Tryz.prog g (encBd xs[i] :: .str v :: caps) X (fun r H' => r = .int .i64 (c xs[i]) ∧ H' = X)) :
    ACall Tryz.prog 176 [grS k (encL encBd xs), .str v, .fn g caps] H
      (fun r H' => ∃ i : Nat, i ≤ xs.length ∧ (∀ j (hj : j < xs.length), j < i → c xs[j] < 0) ∧ (∀ j (hj : j < xs.length), i ≤ j → ¬ c xs[j] < 0) ∧ r = .tup [.int .i64 i, .bool (decide (∃ h : i < xs.length, c xs[i] = 0))] ∧ H' = H) := by
  by_cases hne : xs = []
  · subst hne
    exact ACall.forget (args' := [.sl .none (encL encBd []), .str v, .fn g caps]) ⟨Forget.tok _ _, Forget.refl _, Forget.refl _, trivial⟩ (searchB_ac [] v g caps c H hlen hg hsc hmono hf)
  · exact searchG_ac k xs hne v g caps c H hk hlen hg hsc hmono hf
theorem bindC_ac (x : List UInt8 × Term) (v : List UInt8) (H : List AObj) : ACall Tryz.prog 200 [encBd x, .str v] H (fun r H' => r = .int .i64 (Lib.compareBytes x.1 v) ∧ H' = H) := by
  refine ACall_V (H.length) 7 [.tmp 4] Tryz.func200 rfl rfl rfl ?_
  simp only [push_cast, Nat.reduceAdd, Nat.reduceSub, Nat.reduceMul, Nat.reduceLT, Nat.reduceLeDiff, Nat.reduceEqDiff, Int.reduceToNat, ↓reduceIte]
  refine (compareStr_ac x.1 v _).to ?_
  simp only [push_cast, Nat.reduceAdd, Nat.reduceSub, Nat.reduceMul, Nat.reduceLT, Nat.reduceLeDiff, Nat.reduceEqDiff, Int.reduceToNat, ↓reduceIte]
theorem setA {H L : List AObj} {k : Nat} (o : AObj) (hk : k < H.length) : (H ++ L).set k o = H.set k o ++ L := List.set_append_left _ _ hk
theorem ins_finA {H L : List AObj} {k : Nat} (hkl : k < H.length) (l : List (List UInt8 × Term)) : OutOk H (H.set k (grO 107 4 (encL encBd l)) ++ L) H.length ∧ Scoped H.length (strip H.length (grS k (encL encBd l))) ∧ strip H.length (grS k (encL encBd l)) = grS k (encL encBd l) ∧ (H.set k (grO 107 4 (encL encBd l)) ++ L).take H.length = H.set k (grO 107 4 (encL encBd l)) := by
  obtain ⟨h1, h2, h3, h4⟩ := ins_fin hkl l
  refine ⟨?_, h2, h3, List.take_left' (by simp)⟩
  obtain ⟨a, b, c⟩ := h1
  refine ⟨by simp, b, fun j hj => ?_⟩
  have := c j hj
  rwa [List.getElem?_append_left (by simpa using hj)]
theorem bind_ac (k : Nat) (σ : List (List UInt8 × Term)) (hs : SortedN (σ.map (·.1))) (v : List UInt8) (t : Term) (hlen : σ.length < 1099511627775) (H : List AObj) (hk : H[k]? = some (grO 107 4 (encL encBd σ))) :
    ACall Tryz.prog 189 [grS k (encL encBd σ), .str v, encT t] H (fun r H' => r = grS k (encL encBd (insB σ v t)) ∧ H' = H.set k (grO 107 4 (encL encBd (insB σ v t)))) := by
  have hkl := (List.getElem?_eq_some_iff.1 hk).1
  have hk1 : ∀ L : List AObj, (H ++ L)[k]? = some (grO 107 4 (encL encBd σ)) := fun L => getD_app _ _ _ hk
  refine ACall_W (H.length) 19 [.tmp 6] Tryz.func189 rfl rfl rfl ?_
  simp only [push_cast, Nat.reduceAdd, Nat.reduceSub, Nat.reduceMul, Nat.reduceLT, Nat.reduceLeDiff, Nat.reduceEqDiff, Int.reduceToNat, ↓reduceIte]
  refine (searchX_ac k σ v 200 [] (fun b => Lib.compareBytes b.1 v) _ (hk1 _) (by omega) ok200 (by simp [ScopedL]) (fun i j hi hj hij hc => ?_) (fun i h X => bindC_ac _ v _)).mono ?_
  · rcases Nat.lt_or_eq_of_le hij with h | h
    · exact cb_trans _ _ _ (sortedS_get hs i j hi hj h) hc
    · subst h; exact hc
  rintro r H' ⟨i, h1, h2, h3, rfl, rfl⟩
  have hi := ins_at h1 h2 h3
  simp only [push_cast, Nat.reduceAdd, Nat.reduceSub, Nat.reduceMul, Nat.reduceLT, Nat.reduceLeDiff, Nat.reduceEqDiff, Int.reduceToNat, ↓reduceIte]
  refine (ins_ac k σ (v, t) _ i h1 hlen _ (hk1 _)).mono ?_
  rintro r H' ⟨rfl, rfl⟩
  have e : insB σ v t = σ.take i ++ [(v, t)] ++ σ.drop i := by unfold insB; rw [hi]
  rw [setA _ hkl, ← e]
  simp only [push_cast, Nat.reduceAdd, Nat.reduceSub, Nat.reduceMul, Nat.reduceLT, Nat.reduceLeDiff, Nat.reduceEqDiff, Int.reduceToNat, ↓reduceIte]
  exact ins_finA hkl _
def mH (G : List AObj) (m k : Nat) (σ : List (List UInt8 × Term)) : List AObj := (G.set m (.cells [grS k (encL encBd σ)])).set k (grO 107 4 (encL encBd σ))
theorem mH_len (G : List AObj) (m k : Nat) (σ : List (List UInt8 × Term)) : (mH G m k σ).length = G.length := by simp [mH]
theorem mH_app {G : List AObj} (L : List AObj) {m k : Nat} (hm : m < G.length) (hk : k < G.length) (σ : List (List UInt8 × Term)) : mH (G ++ L) m k σ = mH G m k σ ++ L := by
  unfold mH
  rw [setA _ hm, setA _ (by simpa using hk)]
theorem mH_k {G : List AObj} {m k : Nat} (hk : k < G.length) (σ : List (List UInt8 × Term)) (L : List AObj) : (mH G m k σ ++ L)[k]? = some (grO 107 4 (encL encBd σ)) := by
  refine getD_app _ _ _ ?_
  unfold mH
  simp [hk]
theorem mH_m {G : List AObj} {m k : Nat} (hm : m < G.length) (hne : k ≠ m) (σ : List (List UInt8 × Term)) (L : List AObj) : (mH G m k σ ++ L)[m]? = some (.cells [grS k (encL encBd σ)]) := by
  refine getD_app _ _ _ ?_
  unfold mH
  simp [hm, hne]
theorem mH_mk {G : List AObj} {m k : Nat} (hm : m < G.length) (hne : k ≠ m) (σ : List (List UInt8 × Term)) (L : List AObj) (o : AObj) : ((mH G m k σ ++ L).set k o)[m]? = some (.cells [grS k (encL encBd σ)]) := by
  rw [List.getElem?_set_ne hne]; exact mH_m hm hne σ L
theorem mH_st {G : List AObj} {m k : Nat} (hm : m < G.length) (hk : k < G.length) (hne : k ≠ m) (σ τ : List (List UInt8 × Term)) (L : List AObj) : ((mH G m k σ ++ L).set k (grO 107 4 (encL encBd τ))).set m (.cells [grS k (encL encBd τ)]) = mH G m k τ ++ L := by
  have e : (mH G m k σ ++ L).set k (grO 107 4 (encL encBd τ)) = (mH G m k σ).set k (grO 107 4 (encL encBd τ)) ++ L := setA _ (by rw [mH_len]; exact hk)
  rw [e, setA _ (by rw [List.length_set, mH_len]; exact hm)]
  congr 1
  unfold mH
  rw [List.set_set, List.set_comm _ _ hne, List.set_set]
theorem mH_g0 (G : List AObj) (m k : Nat) (σ : List (List UInt8 × Term)) (x : AObj) (L : List AObj) : (mH G m k σ ++ x :: L)[G.length]? = some x := by
  have := aget0 (mH G m k σ) L x
  rwa [mH_len] at this
theorem mH_gN (G : List AObj) (m k : Nat) (σ : List (List UInt8 × Term)) (L : List AObj) (i : Nat) : (mH G m k σ ++ L)[G.length + i]? = L[i]? := by
  have := agetN (mH G m k σ) L i
  rwa [mH_len] at this
theorem mH_sN (G : List AObj) (m k : Nat) (σ : List (List UInt8 × Term)) (L : List AObj) (i : Nat) (o : AObj) : (mH G m k σ ++ L).set (G.length + i) o = mH G m k σ ++ L.set i o := by
  rw [List.set_append_right _ _ (by rw [mH_len]; omega), mH_len, Nat.add_sub_cancel_left]
theorem mH_tk (G : List AObj) (m k : Nat) (σ : List (List UInt8 × Term)) (L : List AObj) (i : Nat) : (mH G m k σ ++ L).take (G.length + i) = mH G m k σ ++ L.take i := by
  have := takeAN' (mH G m k σ) L i
  rwa [mH_len] at this
theorem mH_t0 (G : List AObj) (m k : Nat) (σ : List (List UInt8 × Term)) (L : List AObj) : (mH G m k σ ++ L).take G.length = mH G m k σ := by
  have := takeA0' (mH G m k σ) L
  rwa [mH_len] at this
theorem mH_ok {G : List AObj} {m k : Nat} (hm : m < G.length) (hk : k < G.length) (σ τ : List (List UInt8 × Term)) (L : List AObj) (j : Nat) (h : scT (G.length + j) j L) : OutOk (mH G m k σ) (mH G m k τ ++ L) (G.length + j) = True := by
  obtain ⟨h1, h2⟩ := scT_spec h
  refine eq_true ⟨by rw [List.length_append, mH_len]; omega, by rw [mH_len]; omega, fun q hq => ?_⟩
  rcases Nat.lt_or_ge q G.length with hg | hg
  · rw [List.getElem?_append_left (by rw [mH_len]; exact hg)]
    by_cases e1 : q = k
    · subst e1
      exact .inr ⟨grO 107 4 (encL encBd τ), by unfold mH; simp [hg], osc_grB _ _ _⟩
    · by_cases e2 : q = m
      · subst e2
        refine .inr ⟨.cells [grS k (encL encBd τ)], by unfold mH; rw [List.getElem?_set_ne (fun h => e1 h.symm)]; simp [hg], ?_⟩
        have h3 : Scoped (G.length + j) (grS k (encL encBd τ)) := of_eq_true (sc_grS (G.length + j) k (encL encBd τ) (by omega))
        show ScopedL _ [_]
        exact ⟨h3, trivial⟩
      · refine .inl ⟨by rw [mH_len]; exact hg, ?_⟩
        unfold mH
        rw [List.getElem?_set_ne (fun h => e1 h.symm), List.getElem?_set_ne (fun h => e2 h.symm), List.getElem?_set_ne (fun h => e1 h.symm), List.getElem?_set_ne (fun h => e2 h.symm)]
  · rw [List.getElem?_append_right (by rw [mH_len]; exact hg)]
    simp only [mH_len]
    have hq2 : q - G.length < L.length := by omega
    refine .inr ⟨L[q - G.length], List.getElem?_eq_getElem hq2, h2 _ ?_⟩
    rw [List.mem_iff_getElem]
    exact ⟨q - G.length, by rw [List.length_take]; omega, by simp⟩
theorem mH_ok0 {G : List AObj} {m k : Nat} (hm : m < G.length) (hk : k < G.length) (σ τ : List (List UInt8 × Term)) (L : List AObj) : OutOk (mH G m k σ) (mH G m k τ ++ L) G.length = True := mH_ok hm hk σ τ L 0 (of_eq_true (scT_0 _ _))
theorem callG {f : Nat} {args : List AV} {G : List AObj} {m k : Nat} (hm : m < G.length) (hk : k < G.length) {σ τ : List (List UInt8 × Term)} {L : List AObj} {v : AV} {K : AV → List AObj → Prop}
    (h : ACall Tryz.prog f args (mH (G ++ L) m k σ) (fun r H' => r = v ∧ H' = mH (G ++ L) m k τ)) (hK : K v (mH G m k τ ++ L)) : ACall Tryz.prog f args (mH G m k σ ++ L) K := by
  rw [mH_app L hm hk] at h
  refine h.mono ?_
  rintro r H' ⟨rfl, rfl⟩
  rw [mH_app L hm hk]; exact hK
attribute [push_cast] mH_len mH_g0 mH_gN mH_sN mH_tk mH_t0
theorem SubT.bulk {s t : Term} (h : SubT s t) : t.bulk ≤ s.bulk := by
  induction h with
  | refl => exact Nat.le_refl _
  | arg ha _ ih => exact Nat.le_trans ih (Nat.le_of_lt (Term.arg_le ha))
theorem matchTs_split : ∀ (a a' b b' : List Term) (σ : List (List UInt8 × Term)), a.length = a'.length → matchTs (a ++ b) (a' ++ b') σ = if (matchTs a a' σ).2 then matchTs b b' (matchTs a a' σ).1 else ((matchTs a a' σ).1, false)
  | [], [], b, b', σ, _ => by rw [matchTs_nil]; simp
  | [], _ :: _, _, _, _, h => by simp at h
  | _ :: _, [], _, _, _, h => by simp at h
  | x :: r, y :: r', b, b', σ, h => by
    rw [List.cons_append, List.cons_append, matchTs_cons, matchTs_cons]
    cases hq : (matchP x y σ).2 with
    | false => simp
    | true =>
      simp only [if_true]
      exact matchTs_split r r' b b' _ (by simpa using h)
theorem matchTs_one (x y : Term) (σ : List (List UInt8 × Term)) : matchTs [x] [y] σ = matchP x y σ := by
  rw [matchTs_cons, matchTs_nil]
  cases h : (matchP x y σ).2 with
  | true => simp only [if_true]; rw [← h]
  | false => simp only [Bool.false_eq_true, if_false]; rw [← h]
theorem matchTs_take {xs ys : List Term} {σ : List (List UInt8 × Term)} (i : Nat) (h1 : i < xs.length) (h2 : i < ys.length) (h : (matchTs (xs.take i) (ys.take i) σ).2 = true) : matchTs (xs.take (i + 1)) (ys.take (i + 1)) σ = matchP xs[i] ys[i] (matchTs (xs.take i) (ys.take i) σ).1 := by
  rw [List.take_succ_eq_append_getElem h1, List.take_succ_eq_append_getElem h2, matchTs_split _ _ _ _ _ (by rw [List.length_take, List.length_take]; omega), h]
  simp only [if_true]
  exact matchTs_one _ _ _
theorem matchTs_bad {xs ys : List Term} {σ : List (List UInt8 × Term)} (i : Nat) (h1 : i < xs.length) (h2 : i < ys.length) (h : (matchTs (xs.take i) (ys.take i) σ).2 = true) (h3 : (matchP xs[i] ys[i] (matchTs (xs.take i) (ys.take i) σ).1).2 = false) : matchTs xs ys σ = matchP xs[i] ys[i] (matchTs (xs.take i) (ys.take i) σ).1 := by
  have e := matchTs_take i h1 h2 h
  have hs := matchTs_split (xs.take (i + 1)) (ys.take (i + 1)) (xs.drop (i + 1)) (ys.drop (i + 1)) σ (by rw [List.length_take, List.length_take]; omega)
  rw [List.take_append_drop, List.take_append_drop, e, h3] at hs
  rw [hs]
  simp only [Bool.false_eq_true, if_false]
  rw [← h3]
end Ab
set_option maxRecDepth 10000
namespace Ab
open Go Go.Proofs
theorem match_ac (p : Term) : ∀ (t : Term) (σ : List (List UInt8 × Term)), SortedN (σ.map (·.1)) → p.bulk ≤ 1099511627775 → t.bulk ≤ 1099511627775 → (∀ b, b ∈ σ → b.2.bulk ≤ 1099511627775) → σ.length + p.size < 1099511627775 →
    ∀ (G : List AObj) (m k : Nat), m < G.length → k < G.length → k ≠ m → ACall Tryz.prog 178 [.ptr m 0, encT p, encT t] (mH G m k σ) (fun r H' => r = .bool (matchP p t σ).2 ∧ H' = mH G m k (matchP p t σ).1) := by
  induction p using Term.ind with | _ n u xs ih
  intro t σ hs hb hb2 hb3 hl G m k hm hk hne
  obtain ⟨n2, u2, ys⟩ := t
  have hlx := Term.len_le (n := n) (v := u) (xs := xs)
  have hly := Term.len_le (n := n2) (v := u2) (xs := ys)
  have hz := Term.size_mk n u xs
  have hkm := fun L => mH_k (m := m) hk σ L
  have hmm := fun L => mH_m hm hne σ L
  have hok := fun τ L j => mH_ok hm hk σ τ L j
  have hok0 := fun τ L => mH_ok0 hm hk σ τ L
  refine ACall_W (G.length) 72 [.tmp 6] Tryz.func178 rfl rfl rfl ?_
  cases u with
  | true =>
    rw [matchP_v]
    simp only [push_cast, Nat.reduceAdd, Nat.reduceSub, Nat.reduceMul, Nat.reduceLT, Nat.reduceLeDiff, Nat.reduceEqDiff, Int.reduceToNat, ↓reduceIte]
    cases hlk : look σ n with
    | some x =>
      have hx := hb3 (n, x) (look_some_mem hlk)
      have e : leafM σ n (.mk n2 u2 ys) = (σ, decide (x = .mk n2 u2 ys)) := by unfold leafM; rw [hlk]
      apply AW_drawE [some 13, some 14, some 15, some 16, some 17, some 18, some 19, some 12, some 20, some 21, some 7, none, some 8] [([false, false], _), ([true, false], _), ([true, true], _)] [none, none, none, none, none, none, none, none, none, none, some 0, some 1, none] 2 [(0, [false, false], [0]), (1, [false, false], [13]), (2, [false, false], [14]), (3, [false, false], [15]), (4, [false, false], [4]), (5, [false, false], [17]), (6, [false, false], [16, 1]), (7, [false, false], [19]), (8, [false, false], [12]), (9, [false, false], [12]), (10, [false, false], []), (11, [true, false], [7, 12]), (12, [true, true], [21]), (0, [true, false], [0]), (1, [true, false], [13]), (2, [true, false], [14]), (3, [true, false], [15]), (4, [true, false], [4]), (5, [true, false], [17]), (6, [true, false], [16, 1]), (7, [true, false], [19]), (8, [true, false], [12]), (9, [true, false], [12]), (9, [true, true], [12])] [_, _, _, _, _, _, _, _, _, _, _, _, _]
      case' hm => exact dr
      case' hn => rfl
      case' hok => rfl
      case' hlen => rfl
      case' hd => rfl
      case' h0 => rfl
      case' hstep =>
       simp only [DAllG, push_cast, Option.isSome_some, Option.isSome_none]
       repeat' apply And.intro
       all_goals (apply DOne_V; simp only [push_cast, Nat.reduceAdd, Nat.reduceSub, Nat.reduceMul, Nat.reduceLT, Nat.reduceLeDiff, Nat.reduceEqDiff, Int.reduceToNat, ↓reduceIte, hkm, hmm] <;> first | exact rfl | omega | exact ⟨rfl, rfl⟩ | exact trivial | exact ⟨by omega, rfl⟩ | exact ⟨by omega, by omega, rfl⟩ | exact ⟨by omega, rfl, rfl⟩ | exact ⟨by omega, by omega, rfl, rfl⟩ | exact (imageG_ac k σ hs n (by omega) _ (hkm _)).to ⟨rfl, rfl⟩)
      case' hQ => skip
      simp only [push_cast, Nat.reduceAdd, Nat.reduceSub, Nat.reduceMul, Nat.reduceLT, Nat.reduceLeDiff, Nat.reduceEqDiff, Int.reduceToNat, ↓reduceIte, hlk, Option.isSome_some, Option.getD_some]
      refine (equal_ac x (.mk n2 u2 ys) hx hb2 _).to ?_
      simp only [push_cast, Nat.reduceAdd, Nat.reduceSub, Nat.reduceMul, Nat.reduceLT, Nat.reduceLeDiff, Nat.reduceEqDiff, Int.reduceToNat, ↓reduceIte, e, hok0]
    | none =>
      have e : leafM σ n (.mk n2 u2 ys) = (insB σ n (.mk n2 u2 ys), true) := by unfold leafM; rw [hlk]
      have hst := fun L => mH_st hm hk hne σ (insB σ n (.mk n2 u2 ys)) L
      have hmk := fun L o => mH_mk hm hne σ L o
      apply AW_drawE [some 13, some 14, some 15, some 16, some 17, some 18, some 19, some 12, some 20, some 21, some 7, none, some 8] [([false, false], _), ([true, false], _), ([true, true], _)] [none, none, none, none, none, none, none, none, none, none, some 0, some 1, none] 2 [(0, [false, false], [0]), (1, [false, false], [13]), (2, [false, false], [14]), (3, [false, false], [15]), (4, [false, false], [4]), (5, [false, false], [17]), (6, [false, false], [16, 1]), (7, [false, false], [19]), (8, [false, false], [12]), (9, [false, false], [12]), (10, [false, false], []), (11, [true, false], [7, 12]), (12, [true, true], [21]), (0, [true, false], [0]), (1, [true, false], [13]), (2, [true, false], [14]), (3, [true, false], [15]), (4, [true, false], [4]), (5, [true, false], [17]), (6, [true, false], [16, 1]), (7, [true, false], [19]), (8, [true, false], [12]), (9, [true, false], [12]), (9, [true, true], [12])] [_, _, _, _, _, _, _, _, _, _, _, _, _]
      case' hm => exact dr
      case' hn => rfl
      case' hok => rfl
      case' hlen => rfl
      case' hd => rfl
      case' h0 => rfl
      case' hstep =>
       simp only [DAllG, push_cast, Option.isSome_some, Option.isSome_none]
       repeat' apply And.intro
       all_goals (apply DOne_V; simp only [push_cast, Nat.reduceAdd, Nat.reduceSub, Nat.reduceMul, Nat.reduceLT, Nat.reduceLeDiff, Nat.reduceEqDiff, Int.reduceToNat, ↓reduceIte, hkm, hmm] <;> first | exact rfl | omega | exact ⟨rfl, rfl⟩ | exact trivial | exact ⟨by omega, rfl⟩ | exact ⟨by omega, by omega, rfl⟩ | exact ⟨by omega, rfl, rfl⟩ | exact ⟨by omega, by omega, rfl, rfl⟩ | exact (imageG_ac k σ hs n (by omega) _ (hkm _)).to ⟨rfl, rfl⟩)
      case' hQ => skip
      simp only [push_cast, Nat.reduceAdd, Nat.reduceSub, Nat.reduceMul, Nat.reduceLT, Nat.reduceLeDiff, Nat.reduceEqDiff, Int.reduceToNat, ↓reduceIte, hlk, Option.isSome_none, Option.getD_none]
      apply AW_drawE [some 26, some 27, some 28, some 29, some 30, some 31, some 32, some 33, some 34, some 35, some 36, none] [([false, false], _), ([true, false], _), ([true, true], _)] [none, none, none, none, none, none, none, none, some 0, none, none, some 1] 2 [(0, [false, false], [0]), (1, [false, false], [0]), (2, [false, false], [27]), (3, [false, false], [28]), (4, [false, false], [29]), (5, [false, false], [4]), (6, [false, false], [31]), (7, [false, false], [5]), (8, [false, false], [30, 1, 0]), (9, [true, false], [26]), (10, [true, false], [35]), (11, [true, false], [34, 1]), (0, [true, false], [0]), (1, [true, false], [0]), (2, [true, false], [27]), (3, [true, false], [28]), (5, [true, false], [4]), (9, [true, true], [26])] [_, _, _, _, _, _, _, _, _, _, _, _]
      case' hm => exact dr
      case' hn => rfl
      case' hok => rfl
      case' hlen => rfl
      case' hd => rfl
      case' h0 => rfl
      case' hstep =>
       simp only [DAllG, push_cast, Option.isSome_some, Option.isSome_none]
       repeat' apply And.intro
       all_goals (apply DOne_V; simp only [push_cast, Nat.reduceAdd, Nat.reduceSub, Nat.reduceMul, Nat.reduceLT, Nat.reduceLeDiff, Nat.reduceEqDiff, Int.reduceToNat, ↓reduceIte, hkm, hmm, hmk] <;> first | exact rfl | omega | exact ⟨rfl, rfl⟩ | exact trivial | exact ⟨by omega, rfl⟩ | exact ⟨by omega, by omega, rfl⟩ | exact ⟨by omega, rfl, rfl⟩ | exact ⟨by omega, by omega, rfl, rfl⟩ | exact (bind_ac k σ hs n (.mk n2 u2 ys) (by omega) _ (hkm _)).to ⟨rfl, rfl⟩)
      case' hQ => skip
      simp only [push_cast, Nat.reduceAdd, Nat.reduceSub, Nat.reduceMul, Nat.reduceLT, Nat.reduceLeDiff, Nat.reduceEqDiff, Int.reduceToNat, ↓reduceIte, hst, e, hok0]
  | false =>
    simp only [push_cast, Nat.reduceAdd, Nat.reduceSub, Nat.reduceMul, Nat.reduceLT, Nat.reduceLeDiff, Nat.reduceEqDiff, Int.reduceToNat, ↓reduceIte]
    cases u2 with
    | true =>
      have e : matchP (.mk n false xs) (.mk n2 true ys) σ = (σ, false) := matchP_c σ (by simp [clash, Term.var_mk])
      refine cI (fun _ => ?_) (fun h => absurd rfl h)
      simp only [push_cast, Nat.reduceAdd, Nat.reduceSub, Nat.reduceMul, Nat.reduceLT, Nat.reduceLeDiff, Nat.reduceEqDiff, Int.reduceToNat, ↓reduceIte, e, hok0]
    | false =>
      refine cI (fun h => absurd h (by decide)) (fun _ => ?_)
      refine cI (fun hn => ?_) (fun hn => ?_)
      · subst hn
        refine cI (fun hq => ?_) (fun hq => ?_)
        · have hlen : xs.length = ys.length := by omega
          have hc : clash n xs.length (.mk n false ys) = false := clash_false.2 ⟨rfl, rfl, hlen⟩
          have eg : matchP (.mk n false xs) (.mk n false ys) σ = matchTs xs ys σ := matchP_g σ hc
          rw [eg]
          refine AW_loopW (maskG 75 [0, 3, 0, 51, 0]) (fun (i : Nat) => [(58, .int .i64 i)]) (fun i => mH G m k (matchTs (xs.take i) (ys.take i) σ).1 ++ [.cells [.str n, .bool false, .sl .none (encTs xs)], .cells [.str n, .bool false, .sl .none (encTs ys)]]) (fun i => i ≤ xs.length ∧ (matchTs (xs.take i) (ys.take i) σ).2 = true) (fun i => xs.length - i) 0 ⟨Nat.zero_le _, by rw [List.take_zero, matchTs_nil]⟩ (by simp only [push_cast, Nat.reduceAdd, Nat.reduceSub, Nat.reduceMul, Nat.reduceLT, Nat.reduceLeDiff, Nat.reduceEqDiff, Int.reduceToNat, ↓reduceIte, List.take_zero, matchTs_nil, hok]; omega) (fun i hi => ?_)
          simp only [push_cast, Nat.reduceAdd, Nat.reduceSub, Nat.reduceMul, Nat.reduceLT, Nat.reduceLeDiff, Nat.reduceEqDiff, Int.reduceToNat, ↓reduceIte]
          refine cI (fun h => ?_) (fun h => ?_)
          · have hix : i < xs.length := by omega
            have hiy : i < ys.length := by omega
            repeat refine ⟨by omega, ?_⟩
            obtain ⟨o1, o2⟩ := matchTs_ok (xs.take i) (ys.take i) σ hs
            have hsum := take_sum_le Term.size xs i
            have hxi := le_sum Term.size (xs.drop i) xs[i] (by rw [List.drop_eq_getElem_cons hix]; exact List.mem_cons_self)
            have hsm : ((xs.take i).map Term.size).sum + ((xs.drop i).map Term.size).sum = (xs.map Term.size).sum := by rw [← List.sum_append, ← List.map_append, List.take_append_drop]
            have hstep := fun L => ih _ (List.getElem_mem hix) ys[i] (matchTs (xs.take i) (ys.take i) σ).1 o1.sorted (arg_bulk hb i hix) (arg_bulk hb2 i hiy) (fun b hb' => by
              rcases o1.new b hb' with h | ⟨y, hy, h⟩
              · exact hb3 b h
              · have h5 := h.bulk
                have h6 := Term.arg_le (n := n) (v := false) (List.mem_of_mem_take hy)
                omega) (by omega) (G ++ L) m k (by rw [List.length_append]; omega) (by rw [List.length_append]; omega) hne
            have et := matchTs_take i hix hiy hi.2
            apply AW_drawE [some 61, some 62, some 63, some 64, some 65, some 66, some 67, some 68, some 69, some 70, some 71, some 72, some 73] [([false], _), ([true], _)] [none, none, none, none, none, none, none, none, none, none, none, some 0, none] 1 [(0, [false], [0]), (1, [false], [4]), (2, [false], [62]), (3, [false], [9]), (4, [false], [63, 0]), (5, [false], [65]), (6, [false], [5]), (7, [false], [67]), (8, [false], [9]), (9, [false], [68, 0]), (10, [false], [70]), (11, [false], [61, 4, 4]), (12, [true], [72]), (1, [true], [4]), (2, [true], [62]), (3, [true], [9]), (4, [true], [63, 0]), (6, [true], [5]), (7, [true], [67]), (8, [true], [9]), (9, [true], [68, 0])] [_, _, _, _, _, _, _, _, _, _, _, _, _]
            case' hm => exact dr
            case' hn => rfl
            case' hok => rfl
            case' hlen => rfl
            case' hd => rfl
            case' h0 => rfl
            case' hstep =>
             simp only [DAllG, push_cast, Option.isSome_some, Option.isSome_none]
             repeat' apply And.intro
             all_goals (apply DOne_V; simp only [push_cast, Nat.reduceAdd, Nat.reduceSub, Nat.reduceMul, Nat.reduceLT, Nat.reduceLeDiff, Nat.reduceEqDiff, Int.reduceToNat, ↓reduceIte] <;> first | exact rfl | omega | exact ⟨rfl, rfl⟩ | exact trivial | exact ⟨by omega, rfl⟩ | exact ⟨by omega, by omega, rfl⟩ | exact ⟨by omega, rfl, rfl⟩ | exact ⟨by omega, by omega, rfl, rfl⟩ | exact ⟨by omega, trivial⟩ | (refine callG hm hk (hstep _) ?_; exact ⟨rfl, rfl⟩))
            case' hQ => skip
            simp only [push_cast, Nat.reduceAdd, Nat.reduceSub, Nat.reduceMul, Nat.reduceLT, Nat.reduceLeDiff, Nat.reduceEqDiff, Int.reduceToNat, ↓reduceIte]
            refine cI (fun hq => ?_) (fun hq => ?_)
            · repeat' first | refine ⟨by omega, ?_⟩ | refine cI (fun _ => ?_) (fun _ => ?_)
              refine loopW_n (i + 1) ⟨by omega, by rw [et]; exact hq⟩ (by omega) ?_
              rw [et]
              simp only [push_cast, Nat.reduceAdd, Nat.reduceSub, Nat.reduceMul, Nat.reduceLT, Nat.reduceLeDiff, Nat.reduceEqDiff, Int.reduceToNat, ↓reduceIte, hok]
              omega
            · have hq : (matchP xs[i] ys[i] (matchTs (xs.take i) (ys.take i) σ).1).2 = false := by simpa using hq
              have e2 := matchTs_bad i hix hiy hi.2 hq
              simp only [push_cast, Nat.reduceAdd, Nat.reduceSub, Nat.reduceMul, Nat.reduceLT, Nat.reduceLeDiff, Nat.reduceEqDiff, Int.reduceToNat, ↓reduceIte, hok0, e2, hq]
          · have hil : i = xs.length := by omega
            rw [List.take_of_length_le (show xs.length ≤ i by omega), List.take_of_length_le (show ys.length ≤ i by omega)] at hi ⊢
            simp only [push_cast, Nat.reduceAdd, Nat.reduceSub, Nat.reduceMul, Nat.reduceLT, Nat.reduceLeDiff, Nat.reduceEqDiff, Int.reduceToNat, ↓reduceIte, hok0, hi.2]
        · have hc : clash n xs.length (.mk n false ys) = true := by
            cases hcl : clash n xs.length (.mk n false ys) with
            | true => rfl
            | false => exact absurd (clash_false.1 hcl).2.2 (by show ¬ xs.length = ys.length; omega)
          have e := matchP_c σ hc
          simp only [push_cast, Nat.reduceAdd, Nat.reduceSub, Nat.reduceMul, Nat.reduceLT, Nat.reduceLeDiff, Nat.reduceEqDiff, Int.reduceToNat, ↓reduceIte, e, hok0]
      · have hc : clash n xs.length (.mk n2 false ys) = true := by
          unfold clash; simp [Term.args_mk, Term.name_mk, Term.var_mk, hn]
        have e := matchP_c σ hc
        simp only [push_cast, Nat.reduceAdd, Nat.reduceSub, Nat.reduceMul, Nat.reduceLT, Nat.reduceLeDiff, Nat.reduceEqDiff, Int.reduceToNat, ↓reduceIte, e, hok0]
theorem find_ac (p t : Term) (hb : p.bulk ≤ 1099511627770) (hb2 : t.bulk ≤ 1099511627775) (H : List AObj) : ACall Tryz.prog 155 [encT p, encT t] H (fun r H' => r = .tup [.sl .none (encL encBd (matchP p t []).1), .bool (matchP p t []).2] ∧ H' = H) := by
  have hsz := p.size_le
  refine ACall_VGA (H.length) 12 [.tmp 4, .tmp 5] Tryz.func155 rfl rfl rfl ?_
  refine AW_reserve 1 ?_
  refine AW_of_W ?_
  simp only [push_cast, Nat.reduceAdd, Nat.reduceSub, Nat.reduceMul, Nat.reduceLT, Nat.reduceLeDiff, Nat.reduceEqDiff, Int.reduceToNat, ↓reduceIte]
  have hm := match_ac p t [] (by simp [SortedN]) (by omega) hb2 (by simp) (by simp; omega) (H ++ [.dead, .cells [.str p.name, .bool p.var, .sl .none (encTs p.args)], .cells [.str t.name, .bool t.var, .sl .none (encTs t.args)], .cells [.sl .zero []]]) (H.length + 3) H.length (by simp) (by simp) (by omega)
  have e0 : ∀ L : List AObj, mH (H ++ (.dead :: L ++ [.cells [.sl .zero []]])) (H.length + L.length + 1) H.length [] = H ++ (.dead :: L ++ [.cells [.sl .zero []]]) := fun L => by
    unfold mH
    rw [encL_nil, grS_nil, grO_nil, Nat.add_assoc, hsetN, hset0]
    congr 1
    simp
  have e1 : ∀ (L : List AObj) (σ : List (List UInt8 × Term)), mH (H ++ (.dead :: L ++ [.cells [.sl .zero []]])) (H.length + L.length + 1) H.length σ = H ++ (grO 107 4 (encL encBd σ) :: L ++ [.cells [grS H.length (encL encBd σ)]]) := fun L σ => by
    unfold mH
    rw [Nat.add_assoc, hsetN, hset0]
    congr 1
    simp
  have h0 := e0 [.cells [.str p.name, .bool p.var, .sl .none (encTs p.args)], .cells [.str t.name, .bool t.var, .sl .none (encTs t.args)]]
  have h1 := e1 [.cells [.str p.name, .bool p.var, .sl .none (encTs p.args)], .cells [.str t.name, .bool t.var, .sl .none (encTs t.args)]] (matchP p t []).1
  simp only [List.cons_append, List.nil_append, List.length_cons, List.length_nil] at h0 h1
  rw [h0, h1] at hm
  refine hm.to ?_
  simp only [push_cast, Nat.reduceAdd, Nat.reduceSub, Nat.reduceMul, Nat.reduceLT, Nat.reduceLeDiff, Nat.reduceEqDiff, Int.reduceToNat, ↓reduceIte]
  refine .row2 H.length 107 4 (by exact aget0 _ _ _) (by rw [flB_len, encL_length]) (by omega) (of_eq_true (flB_sc _ _)) (by simp only [push_cast, Nat.reduceAdd, Nat.reduceSub, Nat.reduceMul, Nat.reduceLT, Nat.reduceLeDiff, Nat.reduceEqDiff, Int.reduceToNat, ↓reduceIte])
end Ab
set_option maxRecDepth 10000
namespace Ab
open Go Go.Proofs
theorem atR_ac (t : Term) (p : List Int) (hb : t.bulk ≤ 1099511627775) (hlen : p.length < 1099511627776) (H : List AObj) :
    ACall Tryz.prog 27 [encT t, .sl .none (encP p)] H (fun r H' => r = (match atP t p with | some x => .tup [encT x, .bool true] | none => .tup [encT (.mk [] false []), .bool false]) ∧ H' = H) := by
  refine ACall_V (H.length) 29 [.cell 4 25, .tmp 5] Tryz.func27 rfl rfl rfl ?_
  simp only [push_cast, Nat.reduceAdd, Nat.reduceSub, Nat.reduceMul, Nat.reduceLT, Nat.reduceLeDiff, Nat.reduceEqDiff, Int.reduceToNat, ↓reduceIte]
  refine AW_loopW (maskG 31 [2, 1, 3, 0, 0]) (fun (q : Nat × Term) => [(10, .int .i64 q.1)]) (fun q => H ++ [.cells [.str q.2.name, .bool q.2.var, .sl .none (encTs q.2.args)], .cells [.str [], .bool false, .sl .zero []]]) (fun q => q.1 ≤ p.length ∧ atP t (p.take q.1) = some q.2) (fun q => p.length - q.1) (0, t) ⟨Nat.zero_le _, by cases t; rfl⟩ (by simp only [push_cast, Nat.reduceAdd, Nat.reduceSub, Nat.reduceMul, Nat.reduceLT, Nat.reduceLeDiff, Nat.reduceEqDiff, Int.reduceToNat, ↓reduceIte]) (fun ⟨i, x⟩ hi => ?_)
  obtain ⟨hi, hx⟩ := hi
  simp only at hi hx
  have hbx := at_bulk _ _ _ hx
  have hlx : x.args.length < x.bulk := by cases x; exact Term.len_le
  simp only [push_cast, Nat.reduceAdd, Nat.reduceSub, Nat.reduceMul, Nat.reduceLT, Nat.reduceLeDiff, Nat.reduceEqDiff, Int.reduceToNat, ↓reduceIte]
  refine cI (fun h => ⟨by omega, ?_⟩) (fun h => ?_)
  · have hs := at_step x p[i] (p.drop (i + 1))
    have hap := at_app (p.take i) (p.drop i) t
    rw [List.take_append_drop, hx, List.drop_eq_getElem_cons (by omega)] at hap
    simp only [Option.bind_some] at hap
    have hap2 := at_app (p.take i) [p[i]] t
    rw [hx, ← List.take_succ_eq_append_getElem (by omega)] at hap2
    simp only [Option.bind_some] at hap2
    refine cI (fun h1 => ?_) (fun h1 => cI (fun h2 => ?_) (fun h2 => ?_))
    · simp only [push_cast, Nat.reduceAdd, Nat.reduceSub, Nat.reduceMul, Nat.reduceLT, Nat.reduceLeDiff, Nat.reduceEqDiff, Int.reduceToNat, ↓reduceIte, hap, hs.2 (fun hh => by omega)]
    · simp only [push_cast, Nat.reduceAdd, Nat.reduceSub, Nat.reduceMul, Nat.reduceLT, Nat.reduceLeDiff, Nat.reduceEqDiff, Int.reduceToNat, ↓reduceIte, hap, hs.2 (fun hh => by omega)]
    · have hk : 0 ≤ p[i] ∧ p[i].toNat < x.args.length := ⟨by omega, by omega⟩
      have hs2 := (at_step x p[i] []).1 hk
      refine ⟨by omega, by omega, by omega, loopW_n (i + 1, x.args[p[i].toNat]) ⟨by simp only; omega, ?_⟩ (by simp only; omega) (by simp only [push_cast, Nat.reduceAdd, Nat.reduceSub, Nat.reduceMul, Nat.reduceLT, Nat.reduceLeDiff, Nat.reduceEqDiff, Int.reduceToNat, ↓reduceIte])⟩
      simp only
      rw [hap2, hs2]
      cases x.args[p[i].toNat]; rfl
  · rw [List.take_of_length_le (by omega)] at hx
    simp only [push_cast, Nat.reduceAdd, Nat.reduceSub, Nat.reduceMul, Nat.reduceLT, Nat.reduceLeDiff, Nat.reduceEqDiff, Int.reduceToNat, ↓reduceIte, hx]
theorem walkL_pre : ∀ (xs : List Term) (i : Int) (p : List Int), (walkL xs i p).map (·.1) = ((walkL xs i []).map (·.1)).map (p ++ ·) := by
  have key : ∀ n (xs : List Term), (xs.map Term.size).sum < n → ∀ (i : Int) (p : List Int), (walkL xs i p).map (·.1) = ((walkL xs i []).map (·.1)).map (p ++ ·) := by
    intro n
    induction n with
    | zero => intro xs h; omega
    | succ n ih =>
      intro xs hn i p
      cases xs with
      | nil => simp [walkL]
      | cons t r =>
        cases t with
        | mk nm v ys =>
          simp only [List.map_cons, List.sum_cons, Term.size_mk] at hn
          simp only [walkL, List.map_cons, List.map_append]
          rw [ih ys (by omega) 0 (p ++ [i]), ih ys (by omega) 0 ([] ++ [i]), ih r (by omega) (i + 1) p]
          simp [List.map_map, Function.comp_def]
  exact fun xs => key _ xs (Nat.lt_succ_self _)
theorem posP_mk (n : List UInt8) (v : Bool) (xs : List Term) : posP (.mk n v xs) = [] :: (walkL xs 0 []).map (·.1) := rfl
theorem posL_take (xs : List Term) (i : Nat) (h : i < xs.length) : (walkL (xs.take (i + 1)) 0 []).map (·.1) = (walkL (xs.take i) 0 []).map (·.1) ++ (posP xs[i]).map ((i : Int) :: ·) := by
  rw [walkL_take _ _ _ h, List.map_append]
  congr 1
  simp only [posP, walkT, List.map_cons]
  rw [walkL_pre _ _ ([] ++ [(i : Int)])]
  simp
theorem posP_bound (t : Term) : ∀ p, p ∈ posP t → p.length < t.size := by
  intro p hp
  simp only [posP, List.mem_map] at hp
  obtain ⟨x, hx, rfl⟩ := hp
  have := walk_pos_len t [] x hx
  simpa using this
def posA (xs : List Term) (i : Nat) : List (List Int) := [] :: (walkL (xs.take i) 0 []).map (·.1)
theorem posA_0 (xs : List Term) : encL encQ (posA xs 0) = [.sl .none []] := by simp [posA, walkL, encL, encP]
theorem gSl_cons (k : Nat) (x : AV) (xs : List AV) : gSl k (x :: xs) = .sl (.own k) (x :: xs) := (rfl)
theorem gTok_cons (e sz : Nat) (x : AV) (xs : List AV) : gTok e sz (x :: xs) = .tok e sz (xs.length + 1) := (rfl)
theorem walkL_le : ∀ (xs : List Term) (k : Nat), (walkL (xs.take k) 0 []).length ≤ (xs.map Term.size).sum := by
  intro xs k
  have key : ∀ (ys : List Term) (i : Int) (p : List Int), (walkL ys i p).length = (ys.map Term.size).sum := walkL_length
  rw [key]
  conv => rhs; rw [← List.take_append_drop k xs, List.map_append, List.sum_append]
  omega
theorem positionsR_ac (t : Term) : t.bulk ≤ 1099511627775 → ∀ H, ACall Tryz.prog 140 [encT t] H (fun r H' => r = .sl .none (encL encQ (posP t)) ∧ H' = H) := by
  induction t using Term.ind with | _ n v xs ih
  intro hb H
  have hsz := (Term.mk n v xs).size_le
  rw [Term.size_mk] at hsz
  have hlen := Term.len_le (n := n) (v := v) (xs := xs)
  rw [posP_mk]
  refine ACall_VA (H.length) 34 [.tmp 2] Tryz.func140 rfl rfl rfl ?_
  refine AW_seq (AW_of_W ?_)
  simp only [push_cast, Nat.reduceAdd, Nat.reduceSub, Nat.reduceMul, Nat.reduceLT, Nat.reduceLeDiff, Nat.reduceEqDiff, Int.reduceToNat, ↓reduceIte]
  refine AW_reserve 1 ?_
  refine AW_seq (AW_regionAt _ [_] _ _ rfl rfl ?_)
  simp only [push_cast, Nat.reduceAdd, Nat.reduceSub, Nat.reduceMul, Nat.reduceLT, Nat.reduceLeDiff, Nat.reduceEqDiff, Int.reduceToNat, ↓reduceIte]
  refine bsliceG_sound (H.length + 1) ?_
  simp only [push_cast, Nat.reduceAdd, Nat.reduceSub, Nat.reduceMul, Nat.reduceLT, Nat.reduceLeDiff, Nat.reduceEqDiff, Int.reduceToNat, ↓reduceIte, bsliceG]
  refine AW_forget 3 (.sl (.own (H.length + 1)) [.sl .zero []]) (.sl (.own (H.length + 1)) [.sl .none []]) rfl (Forget.rowT _ rfl ⟨Forget.tok _ _, trivial⟩) ?_
  refine AW_seq (AW_of_W ?_)
  simp only [push_cast, Nat.reduceAdd, Nat.reduceSub, Nat.reduceMul, Nat.reduceLT, Nat.reduceLeDiff, Nat.reduceEqDiff, Int.reduceToNat, ↓reduceIte]
  refine AW_loopW (maskG 35 [3, 7, 0, 0]) (fun (i : Nat) => [(3, gSl (H.length + 1) (encL encQ (posA xs i))), (13, .int .i64 i)]) (fun i => H ++ [.cells [.str n, .bool v, .sl .none (encTs xs)], gTok 48 1 (encL encQ (posA xs i))]) (fun i => i ≤ xs.length) (fun i => xs.length - i) 0 (Nat.zero_le _) (by simp only [push_cast, Nat.reduceAdd, Nat.reduceSub, Nat.reduceMul, Nat.reduceLT, Nat.reduceLeDiff, Nat.reduceEqDiff, Int.reduceToNat, ↓reduceIte, posA_0, gSl_cons, gTok_cons]) (fun i hi => ?_)
  simp only [push_cast, Nat.reduceAdd, Nat.reduceSub, Nat.reduceMul, Nat.reduceLT, Nat.reduceLeDiff, Nat.reduceEqDiff, Int.reduceToNat, ↓reduceIte]
  refine cI (fun h => ?_) (fun h => ?_)
  · repeat refine ⟨by omega, ?_⟩
    have hi' : i < xs.length := by omega
    have hbx := arg_bulk hb i hi'
    have hszx := xs[i].size_le
    have hpl := posP_len xs[i]
    have hbd := posP_bound xs[i]
    have hst := posL_take xs i hi'
    refine (ih _ (List.getElem_mem hi') hbx _).to ?_
    obtain ⟨ps, hps⟩ : ∃ ps, ps = posP xs[i] := ⟨_, rfl⟩
    rw [← hps] at hpl hst hbd ⊢
    have hal : (posA xs i).length + ps.length ≤ 1 + (xs.map Term.size).sum := by
      have h1 := congrArg List.length hst
      simp only [List.length_append, List.length_map] at h1
      have h2 := walkL_le xs (i + 1)
      simp only [posA, List.length_cons, List.length_map]
      omega
    have hpa : posA xs (i + 1) = posA xs i ++ ps.map ((i : Int) :: ·) := by simp only [posA, hst, List.cons_append]
    simp only [push_cast, Nat.reduceAdd, Nat.reduceSub, Nat.reduceMul, Nat.reduceLT, Nat.reduceLeDiff, Nat.reduceEqDiff, Int.reduceToNat, ↓reduceIte]
    refine AW_loopA (maskG 35 [3, 0, 6, 0, 0, 5, 0, 0]) (fun (j : Nat) => [(3, gSl (H.length + 1) (encL encQ (posA xs i ++ (ps.take j).map ((i : Int) :: ·)))), (21, .int .i64 j)]) (fun j => H ++ [.cells [.str n, .bool v, .sl .none (encTs xs)], gTok 48 1 (encL encQ (posA xs i ++ (ps.take j).map ((i : Int) :: ·))), .cells [.str xs[i].name, .bool xs[i].var, .sl .none (encTs xs[i].args)]]) (fun j => j ≤ ps.length) (fun j => ps.length - j) 0 (Nat.zero_le _) (by simp only [push_cast, Nat.reduceAdd, Nat.reduceSub, Nat.reduceMul, Nat.reduceLT, Nat.reduceLeDiff, Nat.reduceEqDiff, Int.reduceToNat, ↓reduceIte, List.take_zero, List.map_nil, List.append_nil]) (fun j hj => ?_)
    refine AW_seq (AW_of_W ?_)
    simp only [push_cast, Nat.reduceAdd, Nat.reduceSub, Nat.reduceMul, Nat.reduceLT, Nat.reduceLeDiff, Nat.reduceEqDiff, Int.reduceToNat, ↓reduceIte]
    refine AW_seq (AW_of_W ?_)
    simp only [push_cast, Nat.reduceAdd, Nat.reduceSub, Nat.reduceMul, Nat.reduceLT, Nat.reduceLeDiff, Nat.reduceEqDiff, Int.reduceToNat, ↓reduceIte]
    refine cI (fun h => ?_) (fun h => ?_)
    · have hjl : j < ps.length := by omega
      refine AW_seq (AW_block ?_)
      refine AW_seq (AW_of_W ?_)
      simp only [push_cast, Nat.reduceAdd, Nat.reduceSub, Nat.reduceMul, Nat.reduceLT, Nat.reduceLeDiff, Nat.reduceEqDiff, Int.reduceToNat, ↓reduceIte]
      repeat refine ⟨by omega, ?_⟩
      refine AW_reserve 1 ?_
      refine AW_regionAt _ [_, _] _ _ rfl rfl ?_
      simp only [push_cast, Nat.reduceAdd, Nat.reduceSub, Nat.reduceMul, Nat.reduceLT, Nat.reduceLeDiff, Nat.reduceEqDiff, Int.reduceToNat, ↓reduceIte]
      refine bsliceG_sound (H.length + 3) ?_
      simp only [push_cast, Nat.reduceAdd, Nat.reduceSub, Nat.reduceMul, Nat.reduceLT, Nat.reduceLeDiff, Nat.reduceEqDiff, Int.reduceToNat, ↓reduceIte, bsliceG]
      have hbj := hbd _ (List.getElem_mem hjl)
      refine AOp.weakV (gSl_forget (H.length + 3) _) (app_L (fun i : Int => AV.int .i64 i) (sz := 1) (fun _ => rfl) (by intro x c hc; simp [AV.cells] at hc; subst hc; rfl) _ (H.length + 3) [(i : Int)] (ps[j]'hjl) _ rfl rfl (by exact (agetN _ _ 3).trans rfl) sl48 sz3 by3 zr3 rfl (by decide) (by decide) (by simp; omega) ⟨rfl, rfl⟩) ?_
      simp only [push_cast, Nat.reduceAdd, Nat.reduceSub, Nat.reduceMul, Nat.reduceLT, Nat.reduceLeDiff, Nat.reduceEqDiff, Int.reduceToNat, ↓reduceIte]
      refine app1_L encQ (sz := 1) (fun _ => rfl) (by intro x c hc; simp [AV.cells] at hc; subst hc; rfl) _ (H.length + 1) (posA xs i ++ (ps.take j).map ((i : Int) :: ·)) ((i : Int) :: ps[j]'hjl) _ rfl rfl (by exact (agetN _ _ 1).trans rfl) sl121 sz48 by48 zr48 rfl (by decide) (by decide) (by simp; omega) ?_
      simp only [push_cast, Nat.reduceAdd, Nat.reduceSub, Nat.reduceMul, Nat.reduceLT, Nat.reduceLeDiff, Nat.reduceEqDiff, Int.reduceToNat, ↓reduceIte]
      refine AW_of_W ?_
      have e1 : (ps.take (j + 1)).map ((i : Int) :: ·) = (ps.take j).map ((i : Int) :: ·) ++ [(i : Int) :: ps[j]'hjl] := by rw [List.take_succ_eq_append_getElem hjl, List.map_append]; rfl
      simp only [push_cast, Nat.reduceAdd, Nat.reduceSub, Nat.reduceMul, Nat.reduceLT, Nat.reduceLeDiff, Nat.reduceEqDiff, Int.reduceToNat, ↓reduceIte]
      repeat' first | refine ⟨by omega, ?_⟩ | refine cI (fun _ => ?_) (fun _ => ?_)
      exact loopW_n (j + 1) (by omega) (by omega) (by simp only [push_cast, Nat.reduceAdd, Nat.reduceSub, Nat.reduceMul, Nat.reduceLT, Nat.reduceLeDiff, Nat.reduceEqDiff, Int.reduceToNat, ↓reduceIte, e1])
    · repeat' first | refine ⟨by omega, ?_⟩ | refine cI (fun _ => ?_) (fun _ => ?_)
      refine loopW_n (i + 1) (by omega) (by omega) ?_
      rw [List.take_of_length_le (show ps.length ≤ j by omega), ← hpa]
      simp only [push_cast, Nat.reduceAdd, Nat.reduceSub, Nat.reduceMul, Nat.reduceLT, Nat.reduceLeDiff, Nat.reduceEqDiff, Int.reduceToNat, ↓reduceIte]
  · refine AW_seq (AW_of_W ?_)
    have hpe : posA xs i = [] :: (walkL xs 0 []).map (·.1) := by simp only [posA]; rw [List.take_of_length_le (show xs.length ≤ i by omega)]
    simp only [push_cast, Nat.reduceAdd, Nat.reduceSub, Nat.reduceMul, Nat.reduceLT, Nat.reduceLeDiff, Nat.reduceEqDiff, Int.reduceToNat, ↓reduceIte]
    refine AW_of_W ?_
    simp only [push_cast, Nat.reduceAdd, Nat.reduceSub, Nat.reduceMul, Nat.reduceLT, Nat.reduceLeDiff, Nat.reduceEqDiff, Int.reduceToNat, ↓reduceIte, hpe]
end Ab
set_option maxRecDepth 10000
namespace Ab
open Go
def atF : List (Term × Term) → Nat → List Int → Term → List (Int × List Int)
  | [], _, _, _ => []
  | x :: r, k, p, s => (if (matchP x.1 s []).2 then [((k : Int), p)] else []) ++ atF r (k + 1) p s
theorem atF_app : ∀ (a b : List (Term × Term)) (k : Nat) (p : List Int) (s : Term), atF (a ++ b) k p s = atF a k p s ++ atF b (k + a.length) p s
  | [], b, k, p, s => by simp [atF]
  | x :: r, b, k, p, s => by
    rw [List.cons_append, atF, atF, atF_app r b (k + 1) p s, List.append_assoc, List.length_cons]
    rw [show k + 1 + r.length = k + (r.length + 1) by omega]
theorem atF_take (rs : List (Term × Term)) (p : List Int) (s : Term) (i : Nat) (h : i < rs.length) : atF (rs.take (i + 1)) 0 p s = atF (rs.take i) 0 p s ++ (if (matchP rs[i].1 s []).2 then [((i : Int), p)] else []) := by
  rw [List.take_succ_eq_append_getElem h, atF_app, List.length_take]
  simp only [atF, List.append_nil]
  rw [show 0 + min i rs.length = i by omega]
theorem atF_mem : ∀ (rs : List (Term × Term)) (k : Nat) (p : List Int) (s : Term) x, x ∈ atF rs k p s → x.2 = p ∧ ∃ i : Nat, ∃ h : i < rs.length, x.1 = ((k + i : Nat) : Int) ∧ (matchP rs[i].1 s []).2 = true
  | [], _, _, _, x, hx => by simp [atF] at hx
  | r :: rs, k, p, s, x, hx => by
    rw [atF, List.mem_append] at hx
    rcases hx with hx | hx
    · split at hx
      · rename_i hm
        rw [List.mem_singleton] at hx
        subst hx
        exact ⟨rfl, 0, by simp, by simp, by simpa using hm⟩
      · simp at hx
    · obtain ⟨h1, i, h2, h3, h4⟩ := atF_mem rs (k + 1) p s x hx
      refine ⟨h1, i + 1, by simpa using h2, by rw [h3]; congr 1; omega, by simpa using h4⟩
theorem atF_len : ∀ (rs : List (Term × Term)) (k : Nat) (p : List Int) (s : Term), (atF rs k p s).length ≤ rs.length
  | [], _, _, _ => by simp [atF]
  | r :: rs, k, p, s => by
    have := atF_len rs (k + 1) p s
    rw [atF, List.length_append, List.length_cons]
    split <;> simp <;> omega
def atV (rs : List (Term × Term)) (p : List Int) (s : Term) : List (Int × List Int) := if s.var then [] else atF rs 0 p s
theorem atV_len (rs : List (Term × Term)) (p : List Int) (s : Term) : (atV rs p s).length ≤ rs.length := by
  unfold atV; split
  · simp
  · exact atF_len _ _ _ _
theorem atV_pos {rs : List (Term × Term)} {p : List Int} {s : Term} {x : Int × List Int} (h : x ∈ atV rs p s) : x.2 = p := by
  unfold atV at h; split at h
  · simp at h
  · exact (atF_mem _ _ _ _ _ h).1
def allI (rs : List (Term × Term)) (items : List (List Int × Term)) : List (Int × List Int) := items.flatMap fun x => atV rs x.1 x.2
theorem allI_nil (rs : List (Term × Term)) : allI rs [] = [] := (rfl)
theorem allI_snoc (rs : List (Term × Term)) (a : List (List Int × Term)) (x : List Int × Term) : allI rs (a ++ [x]) = allI rs a ++ atV rs x.1 x.2 := by simp [allI]
theorem allI_len (rs : List (Term × Term)) : ∀ items : List (List Int × Term), (allI rs items).length ≤ items.length * rs.length
  | [] => by simp [allI]
  | x :: l => by
    have h1 := allI_len rs l
    have h2 := atV_len rs x.1 x.2
    have e : allI rs (x :: l) = atV rs x.1 x.2 ++ allI rs l := by simp [allI]
    rw [e, List.length_append, List.length_cons, Nat.add_mul]
    omega
def allS (rs : List (Term × Term)) (t : Term) : List (Int × List Int) := allI rs (walkT t [])
end Ab
set_option maxRecDepth 10000
namespace Ab
open Go Go.Proofs
theorem marked_suffix (s : List UInt8) : decide (([35] : List UInt8).length ≤ s.length ∧ s.drop (s.length - ([35] : List UInt8).length) = [35]) = markedP s := by
  unfold markedP
  rw [Bool.eq_iff_iff, decide_eq_true_eq, decide_eq_true_eq]
  rcases List.eq_nil_or_concat s with rfl | ⟨l, a, rfl⟩
  · simp
  · simp
theorem stringsHasSuffix_ac (s suf : List UInt8) (H : List AObj) (h1 : s.length < 1099511627776) (h2 : suf.length < 1099511627776) :
    ACall Tryz.prog 129 [.str s, .str suf] H (fun r H' => r = .bool (decide (suf.length ≤ s.length ∧ s.drop (s.length - suf.length) = suf)) ∧ H' = H) := by
  refine ACall_V (H.length) 6 [.tmp 4] Tryz.func129 rfl rfl rfl ?_
  simp only [push_cast, Nat.reduceAdd, Nat.reduceSub, Nat.reduceMul, Nat.reduceLT, Nat.reduceLeDiff, Nat.reduceEqDiff, Int.reduceToNat, ↓reduceIte]
  refine (hasSuffix_ac s suf _ h1 h2).to ?_
  simp only [push_cast, Nat.reduceAdd, Nat.reduceSub, Nat.reduceMul, Nat.reduceLT, Nat.reduceLeDiff, Nat.reduceEqDiff, Int.reduceToNat, ↓reduceIte]
theorem markedT_ac (s : List UInt8) (h1 : s.length < 1099511627776) (H : List AObj) : ACall Tryz.prog 91 [.str s] H (fun r H' => r = .bool (markedP s) ∧ H' = H) := by
  rw [← marked_suffix]
  refine ACall_V (H.length) 4 [.tmp 2] Tryz.func91 rfl rfl rfl ?_
  simp only [push_cast, Nat.reduceAdd, Nat.reduceSub, Nat.reduceMul, Nat.reduceLT, Nat.reduceLeDiff, Nat.reduceEqDiff, Int.reduceToNat, ↓reduceIte]
  refine (stringsHasSuffix_ac s [35] _ h1 (by decide)).to ?_
  simp only [push_cast, Nat.reduceAdd, Nat.reduceSub, Nat.reduceMul, Nat.reduceLT, Nat.reduceLeDiff, Nat.reduceEqDiff, Int.reduceToNat, ↓reduceIte]
theorem indexS_ac (l : List (List UInt8)) (v : List UInt8) (hlen : l.length < 1099511627776) (H : List AObj) :
    ACall Tryz.prog 171 [.sl .none (encN l), .str v] H (fun r H' => ∃ n : Int, r = .int .i64 n ∧ (0 ≤ n ↔ v ∈ l) ∧ H' = H) := by
  refine ACall_W (H.length) 17 [.tmp 4] Tryz.func171 rfl rfl rfl ?_
  simp only [push_cast, Nat.reduceAdd, Nat.reduceSub, Nat.reduceMul, Nat.reduceLT, Nat.reduceLeDiff, Nat.reduceEqDiff, Int.reduceToNat, ↓reduceIte]
  refine AW_loopW (maskG 19 [0, 0, 5, 0]) (fun (i : Nat) => [(8, .int .i64 i)]) (fun _ => H) (fun i => i ≤ l.length ∧ ¬ v ∈ l.take i) (fun i => l.length - i) 0 ⟨Nat.zero_le _, by simp⟩ (by simp only [push_cast, Nat.reduceAdd, Nat.reduceSub, Nat.reduceMul, Nat.reduceLT, Nat.reduceLeDiff, Nat.reduceEqDiff, Int.reduceToNat, ↓reduceIte]) (fun i hi => ?_)
  simp only [push_cast, Nat.reduceAdd, Nat.reduceSub, Nat.reduceMul, Nat.reduceLT, Nat.reduceLeDiff, Nat.reduceEqDiff, Int.reduceToNat, ↓reduceIte]
  refine cI (fun h => ?_) (fun h => ?_)
  · repeat refine ⟨by omega, ?_⟩
    have hil : i < l.length := by omega
    refine cI (fun hp => ?_) (fun hp => ?_)
    · exact ⟨i, rfl, ⟨fun _ => by rw [hp]; exact List.getElem_mem hil, fun _ => by omega⟩⟩
    · repeat refine ⟨by omega, ?_⟩
      refine loopW_n (i + 1) ⟨by omega, ?_⟩ (by omega) (by simp only [push_cast, Nat.reduceAdd, Nat.reduceSub, Nat.reduceMul, Nat.reduceLT, Nat.reduceLeDiff, Nat.reduceEqDiff, Int.reduceToNat, ↓reduceIte])
      rw [List.take_succ_eq_append_getElem hil, List.mem_append, List.mem_singleton]
      rintro (h1 | h1)
      · exact hi.2 h1
      · exact hp h1
  · have hs : l.take i = l := List.take_of_length_le (by omega)
    rw [hs] at hi
    exact ⟨-1, rfl, ⟨by omega, fun h => absurd h hi.2⟩⟩
theorem containsS_ac (l : List (List UInt8)) (v : List UInt8) (hlen : l.length < 1099511627776) (H : List AObj) :
    ACall Tryz.prog 134 [.sl .none (encN l), .str v] H (fun r H' => r = .bool (decide (v ∈ l)) ∧ H' = H) := by
  refine ACall_V (H.length) 7 [.tmp 4] Tryz.func134 rfl rfl rfl ?_
  simp only [push_cast, Nat.reduceAdd, Nat.reduceSub, Nat.reduceMul, Nat.reduceLT, Nat.reduceLeDiff, Nat.reduceEqDiff, Int.reduceToNat, ↓reduceIte]
  refine (indexS_ac l v hlen _).mono ?_
  rintro r H' ⟨n, rfl, hn, rfl⟩
  simp only [push_cast, Nat.reduceAdd, Nat.reduceSub, Nat.reduceMul, Nat.reduceLT, Nat.reduceLeDiff, Nat.reduceEqDiff, Int.reduceToNat, ↓reduceIte, hn]
theorem extraC_ac (v : List UInt8) (L : List (List UInt8)) (hlen : L.length < 1099511627776) (H : List AObj) (o : AObj) :
    ACall Tryz.prog 133 [.str v, .ptr (H.length + 1) 0] (H ++ [o, .cells [.sl .none (encN L)]]) (fun r H' => r = .bool (!decide (v ∈ L)) ∧ H' = H ++ [o, .cells [.sl .none (encN L)]]) := by
  refine ACall_V (H.length + 2) 6 [.tmp 3] Tryz.func133 rfl rfl rfl ?_
  simp only [push_cast, Nat.reduceAdd, Nat.reduceSub, Nat.reduceMul, Nat.reduceLT, Nat.reduceLeDiff, Nat.reduceEqDiff, Int.reduceToNat, ↓reduceIte]
  refine (containsS_ac L v hlen _).to ?_
  simp only [push_cast, Nat.reduceAdd, Nat.reduceSub, Nat.reduceMul, Nat.reduceLT, Nat.reduceLeDiff, Nat.reduceEqDiff, Int.reduceToNat, ↓reduceIte]
  rw [show H.length + 2 = (H ++ [o, .cells [.sl .none (encN L)]]).length from by simp]
  exact outok_self
theorem indexN_ac (l : List (List UInt8)) (g : Nat) (caps : List AV) (p : List UInt8 → Bool) (H : List AObj) (hlen : l.length < 1099511627776) (hg : callOk Tryz.prog g = true) (hsc : ScopedL H.length caps)
    (hf : ∀ i (h : i < l.length), ACall Tryz.prog g (.str l[i] :: caps) H (fun r H' => r = .bool (p l[i]) ∧ H' = H)) :
    ACall Tryz.prog 170 [.sl .none (encN l), .fn g caps] H (fun r H' => ∃ n : Int, r = .int .i64 n ∧ (0 ≤ n ↔ l.any p = true) ∧ H' = H) := by
  refine ACall_W (H.length) 17 [.tmp 4] Tryz.func170 rfl rfl rfl ?_
  simp only [push_cast, Nat.reduceAdd, Nat.reduceSub, Nat.reduceMul, Nat.reduceLT, Nat.reduceLeDiff, Nat.reduceEqDiff, Int.reduceToNat, ↓reduceIte]
  refine AW_loopW (maskG 19 [0, 0, 5, 0]) (fun (i : Nat) => [(8, .int .i64 i)]) (fun _ => H) (fun i => i ≤ l.length ∧ (l.take i).any p = false) (fun i => l.length - i) 0 ⟨Nat.zero_le _, by simp⟩ (by simp only [push_cast, Nat.reduceAdd, Nat.reduceSub, Nat.reduceMul, Nat.reduceLT, Nat.reduceLeDiff, Nat.reduceEqDiff, Int.reduceToNat, ↓reduceIte, hsc]) (fun i hi => ?_)
  simp only [push_cast, Nat.reduceAdd, Nat.reduceSub, Nat.reduceMul, Nat.reduceLT, Nat.reduceLeDiff, Nat.reduceEqDiff, Int.reduceToNat, ↓reduceIte, hg]
  refine cI (fun h => ⟨by omega, (hf i (by omega)).to ?_⟩) (fun h => ?_)
  · simp only [push_cast, Nat.reduceAdd, Nat.reduceSub, Nat.reduceMul, Nat.reduceLT, Nat.reduceLeDiff, Nat.reduceEqDiff, Int.reduceToNat, ↓reduceIte]
    refine cI (fun hp => ?_) (fun hp => ⟨by omega, loopW_n (i + 1) ⟨by omega, any_take_false hi.2 (by omega) (by simpa using hp)⟩ (by omega) (by simp only [push_cast, Nat.reduceAdd, Nat.reduceSub, Nat.reduceMul, Nat.reduceLT, Nat.reduceLeDiff, Nat.reduceEqDiff, Int.reduceToNat, ↓reduceIte, hsc])⟩)
    exact ⟨i, rfl, ⟨fun _ => any_get (by omega) hp, fun _ => by omega⟩⟩
  · have hs : l.take i = l := List.take_of_length_le (by omega)
    rw [hs] at hi
    exact ⟨-1, rfl, ⟨by omega, fun h => by rw [hi.2] at h; cases h⟩⟩
theorem containsN_ac (l : List (List UInt8)) (g : Nat) (caps : List AV) (p : List UInt8 → Bool) (H : List AObj) (hlen : l.length < 1099511627776) (hg : callOk Tryz.prog g = true) (hsc : ScopedL H.length caps)
    (hf : ∀ i (h : i < l.length), ACall Tryz.prog g (.str l[i] :: caps) H (fun r H' => r = .bool (p l[i]) ∧ H' = H)) :
    ACall Tryz.prog 132 [.sl .none (encN l), .fn g caps] H (fun r H' => r = .bool (l.any p) ∧ H' = H) := by
  refine ACall_W (H.length) 7 [.tmp 4] Tryz.func132 rfl rfl rfl ?_
  simp only [push_cast, Nat.reduceAdd, Nat.reduceSub, Nat.reduceMul, Nat.reduceLT, Nat.reduceLeDiff, Nat.reduceEqDiff, Int.reduceToNat, ↓reduceIte]
  refine (indexN_ac _ g caps p _ hlen hg hsc hf).mono ?_
  rintro r H ⟨n, rfl, hn, rfl⟩
  simp only [push_cast, Nat.reduceAdd, Nat.reduceSub, Nat.reduceMul, Nat.reduceLT, Nat.reduceLeDiff, Nat.reduceEqDiff, Int.reduceToNat, ↓reduceIte, hn]
  cases l.any p <;> simp
theorem mem_vars1 (v : List UInt8) (t : Term) : v ∈ varsP [t] ↔ 0 < countP v t := by
  have := mem_foldC v [t] []
  simpa [varsP, foldC] using this
theorem vars1_len (t : Term) : (varsP [t]).length ≤ t.size := by
  have := foldC_length [t] []
  simpa [foldC, varsP] using this
def extraP (x : Term × Term) : Bool := x.1.var || (varsP [x.2]).any fun v => !decide (v ∈ varsP [x.1])
theorem extra_ac (x : Term × Term) (h1 : x.1.bulk ≤ 1099511627770) (h2 : x.2.bulk ≤ 1099511627770) (H : List AObj) : ACall Tryz.prog 93 [encRu x] H (fun r H' => r = .bool (extraP x) ∧ H' = H) := by
  have hs1 := x.1.size_le
  have hs2 := x.2.size_le
  have hl1 := vars1_len x.1
  have hl2 := vars1_len x.2
  refine ACall_V (H.length) 18 [.tmp 2] Tryz.func93 rfl rfl rfl ?_
  simp only [push_cast, Nat.reduceAdd, Nat.reduceSub, Nat.reduceMul, Nat.reduceLT, Nat.reduceLeDiff, Nat.reduceEqDiff, Int.reduceToNat, ↓reduceIte]
  refine (vars1_ac x.1 h1 _).to ?_
  simp only [push_cast, Nat.reduceAdd, Nat.reduceSub, Nat.reduceMul, Nat.reduceLT, Nat.reduceLeDiff, Nat.reduceEqDiff, Int.reduceToNat, ↓reduceIte]
  refine cI (fun hv => ?_) (fun hv => ?_)
  · have e : extraP x = true := by unfold extraP; rw [hv]; rfl
    simp only [push_cast, Nat.reduceAdd, Nat.reduceSub, Nat.reduceMul, Nat.reduceLT, Nat.reduceLeDiff, Nat.reduceEqDiff, Int.reduceToNat, ↓reduceIte, e]
  · have e : extraP x = (varsP [x.2]).any fun v => !decide (v ∈ varsP [x.1]) := by unfold extraP; rw [show x.1.var = false by simpa using hv]; rfl
    refine (vars1_ac x.2 h2 _).to ?_
    simp only [push_cast, Nat.reduceAdd, Nat.reduceSub, Nat.reduceMul, Nat.reduceLT, Nat.reduceLeDiff, Nat.reduceEqDiff, Int.reduceToNat, ↓reduceIte]
    refine (containsN_ac (varsP [x.2]) 133 [.ptr (H.length + 1) 0] (fun v => !decide (v ∈ varsP [x.1])) _ (by omega) ok133 (by simp only [push_cast, Nat.reduceAdd, Nat.reduceSub, Nat.reduceMul, Nat.reduceLT, Nat.reduceLeDiff, Nat.reduceEqDiff, Int.reduceToNat, ↓reduceIte]) (fun i h => extraC_ac _ _ (by omega) H _)).to ?_
    simp only [push_cast, Nat.reduceAdd, Nat.reduceSub, Nat.reduceMul, Nat.reduceLT, Nat.reduceLeDiff, Nat.reduceEqDiff, Int.reduceToNat, ↓reduceIte, e]
theorem indexRu_ac (rs : List (Term × Term)) (g : Nat) (caps : List AV) (p : (Term × Term) → Bool) (H : List AObj) (hlen : rs.length < 1099511627776) (hg : callOk Tryz.prog g = true) (hsc : ScopedL H.length caps)
    (hf : ∀ i (h : i < rs.length), ACall Tryz.prog g (encRu rs[i] :: caps) H (fun r H' => r = .bool (p rs[i]) ∧ H' = H)) :
    ACall Tryz.prog 130 [.sl .none (encL encRu rs), .fn g caps] H (fun r H' => ∃ n : Int, r = .int .i64 n ∧ (0 ≤ n ↔ rs.any p = true) ∧ H' = H) := by
  refine ACall_W (H.length) 17 [.tmp 4] Tryz.func130 rfl rfl rfl ?_
  simp only [push_cast, Nat.reduceAdd, Nat.reduceSub, Nat.reduceMul, Nat.reduceLT, Nat.reduceLeDiff, Nat.reduceEqDiff, Int.reduceToNat, ↓reduceIte]
  refine AW_loopW (maskG 19 [0, 0, 5, 0]) (fun (i : Nat) => [(8, .int .i64 i)]) (fun _ => H) (fun i => i ≤ rs.length ∧ (rs.take i).any p = false) (fun i => rs.length - i) 0 ⟨Nat.zero_le _, by simp⟩ (by simp only [push_cast, Nat.reduceAdd, Nat.reduceSub, Nat.reduceMul, Nat.reduceLT, Nat.reduceLeDiff, Nat.reduceEqDiff, Int.reduceToNat, ↓reduceIte, hsc]) (fun i hi => ?_)
  simp only [push_cast, Nat.reduceAdd, Nat.reduceSub, Nat.reduceMul, Nat.reduceLT, Nat.reduceLeDiff, Nat.reduceEqDiff, Int.reduceToNat, ↓reduceIte, hg]
  refine cI (fun h => ⟨by omega, (hf i (by omega)).to ?_⟩) (fun h => ?_)
  · simp only [push_cast, Nat.reduceAdd, Nat.reduceSub, Nat.reduceMul, Nat.reduceLT, Nat.reduceLeDiff, Nat.reduceEqDiff, Int.reduceToNat, ↓reduceIte]
    refine cI (fun hp => ?_) (fun hp => ⟨by omega, loopW_n (i + 1) ⟨by omega, any_take_false hi.2 (by omega) (by simpa using hp)⟩ (by omega) (by simp only [push_cast, Nat.reduceAdd, Nat.reduceSub, Nat.reduceMul, Nat.reduceLT, Nat.reduceLeDiff, Nat.reduceEqDiff, Int.reduceToNat, ↓reduceIte, hsc])⟩)
    exact ⟨i, rfl, ⟨fun _ => any_get (by omega) hp, fun _ => by omega⟩⟩
  · have hs : rs.take i = rs := List.take_of_length_le (by omega)
    rw [hs] at hi
    exact ⟨-1, rfl, ⟨by omega, fun h => by rw [hi.2] at h; cases h⟩⟩
theorem containsRu_ac (rs : List (Term × Term)) (g : Nat) (caps : List AV) (p : (Term × Term) → Bool) (H : List AObj) (hlen : rs.length < 1099511627776) (hg : callOk Tryz.prog g = true) (hsc : ScopedL H.length caps)
    (hf : ∀ i (h : i < rs.length), ACall Tryz.prog g (encRu rs[i] :: caps) H (fun r H' => r = .bool (p rs[i]) ∧ H' = H)) :
    ACall Tryz.prog 92 [.sl .none (encL encRu rs), .fn g caps] H (fun r H' => r = .bool (rs.any p) ∧ H' = H) := by
  refine ACall_W (H.length) 7 [.tmp 4] Tryz.func92 rfl rfl rfl ?_
  simp only [push_cast, Nat.reduceAdd, Nat.reduceSub, Nat.reduceMul, Nat.reduceLT, Nat.reduceLeDiff, Nat.reduceEqDiff, Int.reduceToNat, ↓reduceIte]
  refine (indexRu_ac _ g caps p _ hlen hg hsc hf).mono ?_
  rintro r H ⟨n, rfl, hn, rfl⟩
  simp only [push_cast, Nat.reduceAdd, Nat.reduceSub, Nat.reduceMul, Nat.reduceLT, Nat.reduceLeDiff, Nat.reduceEqDiff, Int.reduceToNat, ↓reduceIte, hn]
  cases rs.any p <;> simp
theorem withinR_ac (a b : Term) (h1 : a.bulk ≤ 1099511627770) (h2 : b.bulk ≤ 1099511627770) (H : List AObj) : ACall Tryz.prog 100 [encT a, encT b] H (fun r H' => r = .bool ((varsP [a]).all fun v => decide (v ∈ varsP [b])) ∧ H' = H) := by
  have hs1 := a.size_le
  have hl1 := vars1_len a
  have hv1 := fun H => varsR_ac [a] (by simp) (by simp; omega) (by simp; omega) H
  rw [encTs_cons, encTs_nil] at hv1
  obtain ⟨L, hL⟩ : ∃ L, L = varsP [a] := ⟨_, rfl⟩
  rw [← hL] at hl1 hv1 ⊢
  refine ACall_V (H.length) 18 [.tmp 4] Tryz.func100 rfl rfl rfl ?_
  simp only [push_cast, Nat.reduceAdd, Nat.reduceSub, Nat.reduceMul, Nat.reduceLT, Nat.reduceLeDiff, Nat.reduceEqDiff, Int.reduceToNat, ↓reduceIte]
  refine (hv1 _).to ?_
  simp only [push_cast, Nat.reduceAdd, Nat.reduceSub, Nat.reduceMul, Nat.reduceLT, Nat.reduceLeDiff, Nat.reduceEqDiff, Int.reduceToNat, ↓reduceIte]
  refine AW_loopW (maskG 20 [3, 5, 0, 0]) (fun (i : Nat) => [(11, .int .i64 i)]) (fun _ => H ++ [.cells [.str a.name, .bool a.var, .sl .none (encTs a.args)], .cells [.str b.name, .bool b.var, .sl .none (encTs b.args)]]) (fun i => i ≤ L.length ∧ (L.take i).all (fun v => decide (v ∈ varsP [b])) = true) (fun i => L.length - i) 0 ⟨Nat.zero_le _, by simp⟩ (by simp only [push_cast, Nat.reduceAdd, Nat.reduceSub, Nat.reduceMul, Nat.reduceLT, Nat.reduceLeDiff, Nat.reduceEqDiff, Int.reduceToNat, ↓reduceIte]) (fun i hi => ?_)
  simp only [push_cast, Nat.reduceAdd, Nat.reduceSub, Nat.reduceMul, Nat.reduceLT, Nat.reduceLeDiff, Nat.reduceEqDiff, Int.reduceToNat, ↓reduceIte]
  refine cI (fun h => ?_) (fun h => ?_)
  · have hil : i < L.length := by omega
    repeat refine ⟨by omega, ?_⟩
    have hcb := countP_bound (L[i]'hil) b
    have hm := mem_vars1 (L[i]'hil) b
    refine (countR_ac b (L[i]'hil) (by omega) _).to ?_
    simp only [push_cast, Nat.reduceAdd, Nat.reduceSub, Nat.reduceMul, Nat.reduceLT, Nat.reduceLeDiff, Nat.reduceEqDiff, Int.reduceToNat, ↓reduceIte]
    refine cI (fun hc => ?_) (fun hc => ?_)
    · have hn : ¬ (L[i]'hil) ∈ varsP [b] := by rw [hm]; omega
      have e := all_get (xs := L) (p := fun v => decide (v ∈ varsP [b])) hil (by simpa using hn)
      simp only [push_cast, Nat.reduceAdd, Nat.reduceSub, Nat.reduceMul, Nat.reduceLT, Nat.reduceLeDiff, Nat.reduceEqDiff, Int.reduceToNat, ↓reduceIte, e]
    · repeat' first | refine ⟨by omega, ?_⟩ | refine cI (fun _ => ?_) (fun _ => ?_)
      have hmm : (L[i]'hil) ∈ varsP [b] := by rw [hm]; omega
      exact loopW_n (i + 1) ⟨by omega, all_take_true hi.2 hil (by simpa using hmm)⟩ (by omega) (by simp only [push_cast, Nat.reduceAdd, Nat.reduceSub, Nat.reduceMul, Nat.reduceLT, Nat.reduceLeDiff, Nat.reduceEqDiff, Int.reduceToNat, ↓reduceIte])
  · have e := hi.2
    rw [List.take_of_length_le (show L.length ≤ i by omega)] at e
    exact e.symm
theorem extra_within (x : Term × Term) : extraP x = (x.1.var || !((varsP [x.2]).all fun v => decide (v ∈ varsP [x.1]))) := by
  unfold extraP
  rw [List.not_all_eq_any_not]
end Ab
set_option maxRecDepth 10000
namespace Ab
open Go Go.Proofs
def avN (n : Nat) : AV := .int .i64 n
def sA (m : List (List UInt8 × Nat)) : List (AV × AV) := amap AV.str avN m
def lN (o : Option (List UInt8 × Nat)) : Option (AV × AV) := o.map fun s => (AV.str s.1, avN s.2)
theorem sA_nil : sA [] = [] := (rfl)
theorem sA_len (m : List (List UInt8 × Nat)) : (sA m).length = m.length := by simp [sA, amap]
theorem osc_sA (n ver : Nat) (m : List (List UInt8 × Nat)) : OScoped n (.map ver (sA m)) = True := by
  refine eq_true ?_
  intro e he
  simp only [sA, amap, List.mem_map] at he
  obtain ⟨k, _, rfl⟩ := he
  exact ⟨trivial, trivial⟩
theorem osc_itA (n m ver : Nat) (l : List (List UInt8 × Nat)) (o : Option (List UInt8 × Nat)) (h : m < n) : OScoped n (.iter m ver (sA l) (lN o)) = True := by
  refine eq_true ⟨h, ?_⟩
  rintro e (he | he)
  · simp only [sA, amap, List.mem_map] at he
    obtain ⟨k, _, rfl⟩ := he
    exact ⟨trivial, trivial⟩
  · cases o with
    | none => cases he
    | some k => simp only [lN, Option.map_some, Option.some.injEq] at he; subst he; exact ⟨trivial, trivial⟩
theorem osc_itAn (n m ver : Nat) (l : List (List UInt8 × Nat)) (h : m < n) : OScoped n (.iter m ver (sA l) none) = True := osc_itA n m ver l none h
theorem osc_itAs (n m ver : Nat) (l : List (List UInt8 × Nat)) (a : List UInt8) (b : Nat) (h : m < n) : OScoped n (.iter m ver (sA l) (some (.str a, avN b))) = True := osc_itA n m ver l (some (a, b)) h
theorem lN_n : lN none = none := (rfl)
theorem lN_s (s : List UInt8 × Nat) : lN (some s) = some (AV.str s.1, avN s.2) := (rfl)
attribute [push_cast] osc_sA osc_itA osc_itAn osc_itAs
def arE (rs : List (Term × Term)) : Nat × List (List UInt8 × Nat) := arF (0, []) (nodesL (rT rs))
def arB (rs : List (Term × Term)) : Bool := arBad (0, []) (nodesL (rT rs))
theorem nodesL_nil : nodesL [] = [] := by simp [nodesL]
theorem arB_nil : arB [] = false := by simp [arB, rT, nodesL, arBad]
theorem arE_nil : arE [] = (0, []) := by simp [arE, rT, nodesL, arF]
def arNx (q : Nat × List (List UInt8 × Nat)) (pre : List (List Int × Term)) (x : List Int × Term) : Option Code := if x.2.var then none else if arC (arF q (nodesI pre)) (x.2.name, x.2.args.length) then some .ret else none
theorem nd_var {x : Term} (h : x.var = true) : ndT x = [] := by simp [ndT, h]
theorem nd_sym {x : Term} (h : ¬ x.var = true) : ndT x = [(x.name, x.args.length)] := by simp [ndT, h]
theorem arF_snoc (q : Nat × List (List UInt8 × Nat)) (L : List (List UInt8 × Nat)) (s : List UInt8 × Nat) : arF q (L ++ [s]) = arStep (arF q L) s := by rw [arF_app]; rfl
theorem arBad_one (q : Nat × List (List UInt8 × Nat)) (s : List UInt8 × Nat) : arBad q [s] = arC q s := by simp [arBad]
theorem arNx_ok (q : Nat × List (List UInt8 × Nat)) : ∀ (n : Nat) (items : List (List Int × Term)), items.length = n → AllNone (arNx q) items → arBad q (nodesI items) = false := by
  intro n
  induction n with
  | zero => intro items h _; rw [List.eq_nil_of_length_eq_zero h]; rfl
  | succ n ih =>
    intro items h hN
    rcases List.eq_nil_or_concat items with rfl | ⟨pre, x, rfl⟩
    · rfl
    · rw [List.concat_eq_append] at *
      have h1 := ih pre (by simpa using h) (fun p y s e => hN p y (s ++ [x]) (by rw [e]; simp))
      have h2 := hN pre x [] rfl
      rw [nodesI_snoc, arBad_app, h1, Bool.false_or]
      unfold arNx at h2
      by_cases hv : x.2.var = true
      · rw [nd_var hv]; rfl
      · rw [if_neg hv] at h2
        rw [nd_sym hv, arBad_one]
        split at h2
        · cases h2
        · rename_i h3; simpa using h3
theorem arNx_bad (q : Nat × List (List UInt8 × Nat)) (pre suf : List (List Int × Term)) (x : List Int × Term) (c : Code) (h : arNx q pre x = some c) : c = .ret ∧ arBad q (nodesI (pre ++ x :: suf)) = true := by
  unfold arNx at h
  by_cases hv : x.2.var = true
  · rw [if_pos hv] at h; cases h
  · rw [if_neg hv] at h
    split at h
    · rename_i h3
      injection h with h
      refine ⟨h.symm, ?_⟩
      have e : nodesI (pre ++ x :: suf) = nodesI pre ++ (ndT x.2 ++ nodesI suf) := by simp [nodesI]
      rw [e, arBad_app, nd_sym hv, arBad_app, arBad_one, h3]; simp
    · cases h
set_option maxHeartbeats 1600000 in
theorem arities_ac (rs : List (Term × Term)) (hlen : rs.length < 1099511627776) (hb : ∀ r, r ∈ rs → r.1.bulk ≤ 1099511627775 ∧ r.2.bulk ≤ 1099511627775) (H : List AObj) :
    ACall Tryz.prog 90 [.sl .none (encL encRu rs)] H (fun r H' => r = .tup [if arB rs then .lit (.map none) else .map (H.length + 2), .bool (!arB rs)] ∧ ∃ v es, H' = H ++ [.cells [if arB rs then .lit (.map none) else .map (H.length + 2)], .cells [.bool (!arB rs)], .map v es] ∧ (arB rs = false → v = (arE rs).1 ∧ es = sA (arE rs).2)) := by
  refine ACall_W (H.length + 3) 57 [.cell 2 125, .cell 3 4] Tryz.func90 rfl rfl rfl ?_
  simp only [push_cast, Nat.reduceAdd, Nat.reduceSub, Nat.reduceMul, Nat.reduceLT, Nat.reduceLeDiff, Nat.reduceEqDiff, Int.reduceToNat, ↓reduceIte]
  refine AW_loopW (maskG 58 [2, 0, 0, 9, 0, 0, 14]) (fun (i : Nat) => [(16, .int .i64 i)]) (fun i => H ++ [.cells [.lit (.map none)], .cells [.bool false], .map (arE (rs.take i)).1 (sA (arE (rs.take i)).2), .cells [.map (H.length + 2)]]) (fun i => i ≤ rs.length ∧ arB (rs.take i) = false) (fun i => rs.length - i) 0 ⟨Nat.zero_le _, by rw [List.take_zero]; exact arB_nil⟩ (by simp only [push_cast, Nat.reduceAdd, Nat.reduceSub, Nat.reduceMul, Nat.reduceLT, Nat.reduceLeDiff, Nat.reduceEqDiff, Int.reduceToNat, ↓reduceIte, List.take_zero, arE_nil, sA_nil]) (fun i hi => ?_)
  simp only [push_cast, Nat.reduceAdd, Nat.reduceSub, Nat.reduceMul, Nat.reduceLT, Nat.reduceLeDiff, Nat.reduceEqDiff, Int.reduceToNat, ↓reduceIte]
  refine cI (fun h => ?_) (fun h => ?_)
  · repeat refine ⟨by omega, ?_⟩
    have hil : i < rs.length := by omega
    obtain ⟨l, r, hlr⟩ : ∃ l r, rs[i]'hil = (l, r) := ⟨_, _, rfl⟩
    have hbi := hb _ (List.getElem_mem hil)
    rw [hlr] at hbi
    obtain ⟨hbl, hbr⟩ := hbi
    simp only at hbl hbr
    simp only [push_cast, Nat.reduceAdd, Nat.reduceSub, Nat.reduceMul, Nat.reduceLT, Nat.reduceLeDiff, Nat.reduceEqDiff, Int.reduceToNat, ↓reduceIte, hlr]
    refine AW_loopW (maskG 58 [2, 0, 0, 9, 0, 0, 7, 0, 5]) (fun (j : Nat) => [(25, .int .i64 j)]) (fun j => H ++ [.cells [.lit (.map none)], .cells [.bool false], .map (arF (arE (rs.take i)) (nodesL ([l, r].take j))).1 (sA (arF (arE (rs.take i)) (nodesL ([l, r].take j))).2), .cells [.map (H.length + 2)], .cells [.str l.name, .bool l.var, .sl .none (encTs l.args), .str r.name, .bool r.var, .sl .none (encTs r.args)]]) (fun j => j ≤ 2 ∧ arBad (arE (rs.take i)) (nodesL ([l, r].take j)) = false) (fun j => 2 - j) 0 ⟨by omega, by simp [nodesL, arBad]⟩ (by simp only [push_cast, Nat.reduceAdd, Nat.reduceSub, Nat.reduceMul, Nat.reduceLT, Nat.reduceLeDiff, Nat.reduceEqDiff, Int.reduceToNat, ↓reduceIte, List.take_zero, nodesL_nil, arF_nil]) (fun j hj => ?_)
    simp only [push_cast, Nat.reduceAdd, Nat.reduceSub, Nat.reduceMul, Nat.reduceLT, Nat.reduceLeDiff, Nat.reduceEqDiff, Int.reduceToNat, ↓reduceIte]
    refine cI (fun h2 => ?_) (fun h2 => ?_)
    · obtain ⟨t, hat, hbt, htk⟩ : ∃ t, (List.take 3 (List.drop (j * 3) [AV.str l.name, .bool l.var, .sl .none (encTs l.args), .str r.name, .bool r.var, .sl .none (encTs r.args)]) = [AV.str t.name, .bool t.var, .sl .none (encTs t.args)]) ∧ t.bulk ≤ 1099511627775 ∧ [l, r].take (j + 1) = [l, r].take j ++ [t] := by
        have hj01 : j = 0 ∨ j = 1 := by omega
        rcases hj01 with rfl | rfl
        · exact ⟨l, rfl, hbl, rfl⟩
        · exact ⟨r, rfl, hbr, rfl⟩
      repeat refine ⟨by omega, ?_⟩
      rw [hat]
      simp only [push_cast, Nat.reduceAdd, Nat.reduceSub, Nat.reduceMul, Nat.reduceLT, Nat.reduceLeDiff, Nat.reduceEqDiff, Int.reduceToNat, ↓reduceIte]
      refine (walkF_ac t _).to ?_
      simp only [push_cast, Nat.reduceAdd, Nat.reduceSub, Nat.reduceMul, Nat.reduceLT, Nat.reduceLeDiff, Nat.reduceEqDiff, Int.reduceToNat, ↓reduceIte]
      obtain ⟨q0, hq0⟩ : ∃ q0, q0 = arF (arE (rs.take i)) (nodesL ([l, r].take j)) := ⟨_, rfl⟩
      have hE2 : arF (arE (rs.take i)) (nodesL ([l, r].take (j + 1))) = arF q0 (nodesI (walkT t [])) := by rw [htk, nodesL_app, arF_app, ← hq0, nodes_walkT]
      have hB2 : arBad (arE (rs.take i)) (nodesL ([l, r].take (j + 1))) = arBad q0 (nodesI (walkT t [])) := by rw [htk, nodesL_app, arBad_app, hj.2, Bool.false_or, ← hq0, nodes_walkT]
      rw [← hq0]
      refine AW_iterW _ _ (walk_iter t hbt _) H (fun pre => [.cells [.lit (.map none)], .cells [.bool false], .map (arF q0 (nodesI pre)).1 (sA (arF q0 (nodesI pre)).2), .cells [.map (H.length + 2)], .cells [.str l.name, .bool l.var, .sl .none (encTs l.args), .str r.name, .bool r.var, .sl .none (encTs r.args)], .cells [.str t.name, .bool t.var, .sl .none (encTs t.args)], .cells [.str t.name, .bool t.var, .sl .none (encTs t.args)]]) 7 (arNx q0) rfl ok153 (by simp only [push_cast, Nat.reduceAdd, Nat.reduceSub, Nat.reduceMul, Nat.reduceLT, Nat.reduceLeDiff, Nat.reduceEqDiff, Int.reduceToNat, ↓reduceIte, nodesI_nil, arF_nil]) (fun _ => rfl) (fun lp => by simp only [push_cast, Nat.reduceAdd, Nat.reduceSub, Nat.reduceMul, Nat.reduceLT, Nat.reduceLeDiff, Nat.reduceEqDiff, Int.reduceToNat, ↓reduceIte]) (fun p => by simp only [push_cast, Nat.reduceAdd, Nat.reduceSub, Nat.reduceMul, Nat.reduceLT, Nat.reduceLeDiff, Nat.reduceEqDiff, Int.reduceToNat, ↓reduceIte]) (fun _ => rfl) (fun pre x suf X lid lp lp' he hn => ?_) (fun hN lp => ?_) (fun pre x suf c lp he hn hc => ?_)
      · simp only [push_cast, Nat.reduceAdd, Nat.reduceSub, Nat.reduceMul, Nat.reduceLT, Nat.reduceLeDiff, Nat.reduceEqDiff, Int.reduceToNat, ↓reduceIte, List.drop_length]
        refine cI (fun hv => ?_) (fun hv => ?_)
        · have e1 : arNx q0 pre x = none := by unfold arNx; rw [if_pos hv]
          have e2 : nodesI (pre ++ [x]) = nodesI pre := by rw [nodesI_snoc, nd_var hv, List.append_nil]
          simp only [push_cast, Nat.reduceAdd, Nat.reduceSub, Nat.reduceMul, Nat.reduceLT, Nat.reduceLeDiff, Nat.reduceEqDiff, Int.reduceToNat, ↓reduceIte, e1, e2]
        · have hsn : nodesI (pre ++ [x]) = nodesI pre ++ [(x.2.name, x.2.args.length)] := by rw [nodesI_snoc, nd_sym hv]
          obtain ⟨q, hq⟩ : ∃ q, q = arF q0 (nodesI pre) := ⟨_, rfl⟩
          have hst : arF q0 (nodesI (pre ++ [x])) = arStep q (x.2.name, x.2.args.length) := by rw [hsn, arF_snoc, ← hq]
          have hnx : arNx q0 pre x = if arC q (x.2.name, x.2.args.length) then some .ret else none := by unfold arNx; rw [if_neg hv, ← hq]
          rw [← hq, hst, hnx]
          refine AOp_lookupOk (strKey un9) avN q.2 (H.length + 2) q.1 x.2.name (.int .i64 0) rfl (by exact (agetN _ _ 2).trans rfl) rfl un125 (ZeroV_of (.int .i64 0) (by kernel_rfl)) ?_
          cases hg : aget q.2 x.2.name with
          | none =>
            have hc : arC q (x.2.name, x.2.args.length) = false := by simp [arC, hg]
            have hs : arStep q (x.2.name, x.2.args.length) = (q.1 + 1, aset q.2 x.2.name x.2.args.length) := by simp [arStep, hc]
            simp only [push_cast, Nat.reduceAdd, Nat.reduceSub, Nat.reduceMul, Nat.reduceLT, Nat.reduceLeDiff, Nat.reduceEqDiff, Int.reduceToNat, ↓reduceIte, hc, hs, Option.map_none, Option.getD_none, Option.isSome_none, Bool.false_eq_true, if_false]
            refine AOp_mapUpdate (strKey un9) avN q.2 (H.length + 2) q.1 x.2.name x.2.args.length rfl (by exact (agetN _ _ 2).trans rfl) rfl rfl un125 ?_
            simp only [push_cast, Nat.reduceAdd, Nat.reduceSub, Nat.reduceMul, Nat.reduceLT, Nat.reduceLeDiff, Nat.reduceEqDiff, Int.reduceToNat, ↓reduceIte, sA]
          | some k =>
            have hc : arC q (x.2.name, x.2.args.length) = !decide (k = x.2.args.length) := by simp [arC, hg]
            by_cases hk : k = x.2.args.length
            · have hc : arC q (x.2.name, x.2.args.length) = false := by rw [hc]; simpa using hk
              have hs : arStep q (x.2.name, x.2.args.length) = (q.1 + 1, aset q.2 x.2.name x.2.args.length) := by simp [arStep, hc]
              subst hk
              simp only [push_cast, Nat.reduceAdd, Nat.reduceSub, Nat.reduceMul, Nat.reduceLT, Nat.reduceLeDiff, Nat.reduceEqDiff, Int.reduceToNat, ↓reduceIte, hc, hs, avN, Option.getD_some, Option.isSome_some, Bool.false_eq_true, if_false]
              refine AOp_mapUpdate (strKey un9) avN q.2 (H.length + 2) q.1 x.2.name x.2.args.length rfl (by exact (agetN _ _ 2).trans rfl) rfl rfl un125 ?_
              simp only [push_cast, Nat.reduceAdd, Nat.reduceSub, Nat.reduceMul, Nat.reduceLT, Nat.reduceLeDiff, Nat.reduceEqDiff, Int.reduceToNat, ↓reduceIte, sA]
            · have hc : arC q (x.2.name, x.2.args.length) = true := by rw [hc]; simpa using hk
              have hs : arStep q (x.2.name, x.2.args.length) = q := by simp [arStep, hc]
              have hkz : decide ((k : Int) = (x.2.args.length : Int)) = false := by rw [decide_eq_false_iff_not]; omega
              simp only [push_cast, Nat.reduceAdd, Nat.reduceSub, Nat.reduceMul, Nat.reduceLT, Nat.reduceLeDiff, Nat.reduceEqDiff, Int.reduceToNat, ↓reduceIte, hc, hs, avN, Option.getD_some, Option.isSome_some, if_true, hkz]
      · have hbad := arNx_ok q0 _ _ rfl hN
        rw [← hB2] at hbad
        simp only [push_cast, Nat.reduceAdd, Nat.reduceSub, Nat.reduceMul, Nat.reduceLT, Nat.reduceLeDiff, Nat.reduceEqDiff, Int.reduceToNat, ↓reduceIte]
        repeat' first | refine ⟨by omega, ?_⟩ | refine cI (fun _ => ?_) (fun _ => ?_)
        refine loopW_n (j + 1) ⟨by omega, hbad⟩ (by omega) ?_
        rw [hE2]
        simp only [push_cast, Nat.reduceAdd, Nat.reduceSub, Nat.reduceMul, Nat.reduceLT, Nat.reduceLeDiff, Nat.reduceEqDiff, Int.reduceToNat, ↓reduceIte]
      · obtain ⟨rfl, hbad⟩ := arNx_bad q0 pre suf x c hc
        rw [← he, ← hB2] at hbad
        have hB : arB rs = true := by
          have e0 := rT_split rs i hil
          have h5 := hi.2
          unfold arB at h5 ⊢
          rw [e0, hlr, nodesL_app, arBad_app, h5, Bool.false_or, nodesL_app, arBad_app]
          have e6 : arBad (arE (rs.take i)) (nodesL [l, r]) = true := by
            have hj01 : j = 0 ∨ j = 1 := by omega
            rcases hj01 with rfl | rfl
            · have : [l, r] = [l, r].take 1 ++ [r] := rfl
              rw [this, nodesL_app, arBad_app, hbad]; rfl
            · exact hbad
          show (arBad (arE (rs.take i)) (nodesL [l, r]) || _) = true
          rw [e6]; rfl
        simp only [push_cast, Nat.reduceAdd, Nat.reduceSub, Nat.reduceMul, Nat.reduceLT, Nat.reduceLeDiff, Nat.reduceEqDiff, Int.reduceToNat, ↓reduceIte, hB]
        exact ⟨_, _, rfl, fun h => h.elim⟩
    · have hj2 : j = 2 := by omega
      subst hj2
      have e1 : rT (rs.take (i + 1)) = rT (rs.take i) ++ [l, r] := by rw [rT_take rs i hil, hlr]
      have e2 : arE (rs.take (i + 1)) = arF (arE (rs.take i)) (nodesL [l, r]) := by unfold arE; rw [e1, nodesL_app, arF_app]
      have e3 : arB (rs.take (i + 1)) = false := by
        have h5 := hi.2
        unfold arB at h5 ⊢
        rw [e1, nodesL_app, arBad_app, h5, Bool.false_or]; exact hj.2
      repeat' first | refine ⟨by omega, ?_⟩ | refine cI (fun _ => ?_) (fun _ => ?_)
      refine loopW_n (i + 1) ⟨by omega, e3⟩ (by omega) ?_
      rw [e2]
      simp only [push_cast, Nat.reduceAdd, Nat.reduceSub, Nat.reduceMul, Nat.reduceLT, Nat.reduceLeDiff, Nat.reduceEqDiff, Int.reduceToNat, ↓reduceIte, List.take_succ_cons, List.take_zero]
  · rw [List.take_of_length_le (show rs.length ≤ i by omega)] at hi ⊢
    simp only [push_cast, Nat.reduceAdd, Nat.reduceSub, Nat.reduceMul, Nat.reduceLT, Nat.reduceLeDiff, Nat.reduceEqDiff, Int.reduceToNat, ↓reduceIte, hi.2]
    exact ⟨_, _, rfl, fun _ => ⟨rfl, rfl⟩⟩
end Ab
set_option maxRecDepth 10000
namespace Ab
open Go Go.Proofs
theorem putRow_heapG {α : Type} [Inhabited α] (enc : α → Value) (w : World) (b off : Nat) (d : Array α) (cur : Array Value) (e : TypeId) (fr : Nat × Nat) (hb : w.heap[b]? = some (.cells cur e fr)) :
    (Go.Sort.putRow enc w b off d).heap = w.heap.setIfInBounds b (.cells (Go.Sort.putCells enc off d cur) e fr) := by
  have hlt := (Array.getElem?_eq_some_iff.1 hb).1
  unfold Go.Sort.putRow Go.Sort.mapBlock
  apply Array.ext_getElem?
  intro k
  simp only [Array.getElem?_modify, Array.getElem?_setIfInBounds]
  by_cases hk : b = k
  · subst hk
    rw [if_pos rfl, if_pos rfl, if_pos hlt, hb]; rfl
  · rw [if_neg hk, if_neg hk]
theorem putCells_getG {α : Type} [Inhabited α] (enc : α → Value) (d : Array α) (cur : Array Value) (j : Nat) (hj : j < d.size) (hj' : j < (Go.Sort.putCells enc 0 d cur).size) : (Go.Sort.putCells enc 0 d cur)[j] = enc d[j] := by
  unfold Go.Sort.putCells
  simp [hj]
end Ab
namespace Go.Proofs
open Go.Shelf Go.Sort Go.RowKit
def Tryz.sortTe_ren : Go.Shelf.Ren := ⟨fun | 6 => 86 | 15 => 123 | 14 => 122 | 28 => 164 | 29 => 165 | 20 => 156 | 21 => 157 | 22 => 158 | 23 => 159 | 24 => 160 | 25 => 161 | 26 => 162 | 27 => 163 | 46 => 179 | 47 => 180 | 48 => 181 | 49 => 182 | 50 => 183 | 57 => 190 | n => n, fun | 22 => 23 | 24 => 25 | 25 => 98 | 3 => 3 | 39 => 158 | 0 => 0 | 53 => 189 | 55 => 191 | 4 => 4 | 46 => 183 | 45 => 182 | 50 => 81 | 5 => 5 | 9 => 9 | 66 => 205 | 70 => 209 | 76 => 216 | 77 => 138 | n => n, fun | n => n⟩
theorem Tryz.sortTe : Go.Proofs.SlLaysF0.n6 Tryz.prog Tryz.sortTe_ren := {
  mixed := by kernel_rfl
  f6 := ⟨Tryz.f86.name, by decide, Tryz.func86.trans (congrArg some (by kernel_rfl))⟩
  f14 := ⟨Tryz.f122.name, by decide, Tryz.func122.trans (congrArg some (by kernel_rfl))⟩
  f15 := Tryz.func123.trans (congrArg some (by kernel_rfl))
  f20 := ⟨Tryz.f156.name, by decide, Tryz.func156.trans (congrArg some (by kernel_rfl))⟩
  f21 := ⟨Tryz.f157.name, by decide, Tryz.func157.trans (congrArg some (by kernel_rfl))⟩
  f22 := ⟨Tryz.f158.name, by decide, Tryz.func158.trans (congrArg some (by kernel_rfl))⟩
  f23 := ⟨Tryz.f159.name, by decide, Tryz.func159.trans (congrArg some (by kernel_rfl))⟩
  f24 := ⟨Tryz.f160.name, by decide, Tryz.func160.trans (congrArg some (by kernel_rfl))⟩
  f25 := ⟨Tryz.f161.name, by decide, Tryz.func161.trans (congrArg some (by kernel_rfl))⟩
  f26 := ⟨Tryz.f162.name, by decide, Tryz.func162.trans (congrArg some (by kernel_rfl))⟩
  f27 := ⟨Tryz.f163.name, by decide, Tryz.func163.trans (congrArg some (by kernel_rfl))⟩
  f28 := Tryz.func164.trans (congrArg some (by kernel_rfl))
  f29 := Tryz.func165.trans (congrArg some (by kernel_rfl))
  f46 := ⟨Tryz.f179.name, by decide, Tryz.func179.trans (congrArg some (by kernel_rfl))⟩
  f47 := Tryz.func180.trans (congrArg some (by kernel_rfl))
  f48 := Tryz.func181.trans (congrArg some (by kernel_rfl))
  f49 := ⟨Tryz.f182.name, by decide, Tryz.func182.trans (congrArg some (by kernel_rfl))⟩
  f50 := ⟨Tryz.f183.name, by decide, Tryz.func183.trans (congrArg some (by kernel_rfl))⟩
  f57 := ⟨Tryz.f190.name, by decide, Tryz.func190.trans (congrArg some (by kernel_rfl))⟩
  t0 := Tryz.underlying0
  a0 := Tryz.isAgg0
  z0 := Tryz.sizeOf0
  v0 := Tryz.zeroValue0
  t3 := Tryz.underlying3
  a3 := Tryz.isAgg3
  z3 := Tryz.sizeOf3
  v3 := Tryz.zeroValue3
  t4 := Tryz.underlying4
  a4 := Tryz.isAgg4
  z4 := Tryz.sizeOf4
  v4 := Tryz.zeroValue4
  t5 := Tryz.underlying5
  a5 := Tryz.isAgg5
  z5 := Tryz.sizeOf5
  v5 := Tryz.zeroValue5
  t9 := Tryz.underlying9
  a9 := Tryz.isAgg9
  z9 := Tryz.sizeOf9
  v9 := Tryz.zeroValue9
  t22 := Tryz.underlying23
  a22 := Tryz.isAgg23
  z22 := Tryz.sizeOf23
  v22 := Tryz.zeroValue23
  t25 := Tryz.underlying98
  a25 := Tryz.isAgg98
  z25 := Tryz.sizeOf98
  v25 := Tryz.zeroValue98
  t39 := Tryz.underlying158
  a39 := Tryz.isAgg158
  z39 := Tryz.sizeOf158
  v39 := Tryz.zeroValue158
  t45 := Tryz.underlying182
  a45 := Tryz.isAgg182
  z45 := Tryz.sizeOf182
  v45 := Tryz.zeroValue182
  t46 := Tryz.underlying183
  a46 := Tryz.isAgg183
  z46 := Tryz.sizeOf183
  v46 := Tryz.zeroValue183
  t50 := Tryz.underlying81
  a50 := Tryz.isAgg81
  z50 := Tryz.sizeOf81
  v50 := Tryz.zeroValue81
  t53 := Tryz.underlying189
  a53 := Tryz.isAgg189
  z53 := Tryz.sizeOf189
  v53 := Tryz.zeroValue189
  t55 := Tryz.underlying191
  a55 := Tryz.isAgg191
  z55 := Tryz.sizeOf191
  v55 := Tryz.zeroValue191
  t66 := Tryz.underlying205
  a66 := Tryz.isAgg205
  z66 := Tryz.sizeOf205
  v66 := Tryz.zeroValue205
  t70 := Tryz.underlying209
  a70 := Tryz.isAgg209
  z70 := Tryz.sizeOf209
  v70 := Tryz.zeroValue209
  t76 := Tryz.underlying216
  a76 := Tryz.isAgg216
  z76 := Tryz.sizeOf216
  v76 := Tryz.zeroValue216
  t77 := Tryz.underlying138
  a77 := Tryz.isAgg138
  z77 := Tryz.sizeOf138
  v77 := Tryz.zeroValue138 }
end Go.Proofs
set_option maxRecDepth 10000
namespace Go.Proofs
open Go.Shelf Go.RowKit Go.Lib Go.Sort
end Go.Proofs
namespace Ab
open Go Go.Proofs
@[reducible] def encSy (s : List UInt8 × Nat) : AV := .agg [.str s.1, .int .i64 (s.2 : Nat)]
theorem cellSy : ∀ (x : List UInt8 × Nat) c, c ∈ (encSy x).cells → c.isCell = true := by
  intro x c hc; simp [AV.cells] at hc; rcases hc with rfl | rfl <;> rfl
theorem uniSy (l : List (List UInt8 × Nat)) : Uni (1 + 1) (encL encSy l) = True := eq_true (uni_encL (enc := encSy) (k := 2) (fun _ => rfl) l)
theorem scSy_ (n : Nat) (l : List (List UInt8 × Nat)) : ScopedL n (encL encSy l) = True := eq_true (scoped_encL (fun x => by simp [Scoped, ScopedL]) l)
attribute [push_cast] uniSy scSy_
def sysP (rs : List (Term × Term)) : Int := if rulesP rs ≠ 0 then rulesP rs else if arB rs then 6 else if (arE rs).2.any (fun s => markedP s.1) then 6 else if rs.any extraP then 7 else 0
theorem rules_ok {rs : List (Term × Term)} (h : rulesP rs = 0) : rs.length ≤ 64 ∧ ∀ r, r ∈ rs → checkP r.1 = 0 ∧ checkP r.2 = 0 := by
  unfold rulesP at h
  split at h
  · cases h
  · rename_i h1
    refine ⟨by omega, fun r hr => ?_⟩
    rw [firstErr_iff] at h
    exact ⟨h _ (mem_rT.2 ⟨r, hr, .inl rfl⟩), h _ (mem_rT.2 ⟨r, hr, .inr rfl⟩)⟩
def BndR (rs : List (Term × Term)) : Prop := ∀ r, r ∈ rs → r.1.bulk ≤ 1099511627770 ∧ r.2.bulk ≤ 1099511627770
theorem nodes_key {L : List (List UInt8 × Nat)} {q : Nat × List (List UInt8 × Nat)} : ∀ x, x ∈ (arF q L).2 → (∃ y, y ∈ q.2 ∧ y.1 = x.1) ∨ ∃ y, y ∈ L ∧ y.1 = x.1 := by
  induction L generalizing q with
  | nil => intro x hx; exact .inl ⟨x, hx, rfl⟩
  | cons s r ih =>
    intro x hx
    rcases ih (q := arStep q s) x hx with ⟨y, hy, e⟩ | ⟨y, hy, e⟩
    · have : (∃ z, z ∈ q.2 ∧ z.1 = y.1) ∨ y.1 = s.1 := by
        unfold arStep at hy
        split at hy
        · exact .inl ⟨y, hy, rfl⟩
        · have : ∀ (m : List (List UInt8 × Nat)), y ∈ aset m s.1 s.2 → (∃ z, z ∈ m ∧ z.1 = y.1) ∨ y.1 = s.1 := by
            intro m
            induction m with
            | nil => intro h; simp [aset] at h; rw [h]; exact .inr rfl
            | cons p m ih2 =>
              intro h
              unfold aset at h
              split at h
              · rcases List.mem_cons.1 h with h | h
                · rw [h]; exact .inr rfl
                · exact .inl ⟨y, by simp [h], rfl⟩
              · rcases List.mem_cons.1 h with h | h
                · exact .inl ⟨y, by simp [h], rfl⟩
                · rcases ih2 h with ⟨z, hz, e2⟩ | h
                  · exact .inl ⟨z, by simp [hz], e2⟩
                  · exact .inr h
          exact this _ hy
      rcases this with ⟨z, hz, e2⟩ | e2
      · exact .inl ⟨z, hz, e2.trans e⟩
      · exact .inr ⟨s, by simp, by rw [← e, e2]⟩
    · exact .inr ⟨y, by simp [hy], e⟩
theorem nodes_name : ∀ (ts : List Term) x, x ∈ nodesL ts → ∃ t, t ∈ ts ∧ x.1.length < t.bulk
  | [], x, h => by simp [nodesL] at h
  | .mk n u xs :: r, x, h => by
    rw [nodesL, List.mem_append, List.mem_append] at h
    rcases h with h | h | h
    · refine ⟨_, List.mem_cons_self, ?_⟩
      unfold ndT at h
      split at h
      · cases h
      · rw [List.mem_singleton] at h; rw [h]; exact Term.name_le
    · obtain ⟨t, ht, hl⟩ := nodes_name xs x h
      have := Term.arg_le (n := n) (v := u) ht
      exact ⟨_, List.mem_cons_self, by omega⟩
    · obtain ⟨t, ht, hl⟩ := nodes_name r x h
      exact ⟨t, List.mem_cons_of_mem _ ht, hl⟩
theorem arE_name {rs : List (Term × Term)} (hb : BndR rs) : ∀ x, x ∈ (arE rs).2 → x.1.length < 1099511627776 := by
  intro x hx
  rcases nodes_key x hx with ⟨y, hy, _⟩ | ⟨y, hy, e⟩
  · cases hy
  · obtain ⟨t, ht, hl⟩ := nodes_name _ y hy
    obtain ⟨r, hr, h⟩ := mem_rT.1 ht
    have := hb r hr
    rw [← e]
    rcases h with rfl | rfl <;> omega
theorem checkSystem_ac (rs : List (Term × Term)) (hlen : rs.length < 1099511627776) (hb : BndR rs) (H : List AObj) : ACall Tryz.prog 43 [.sl .none (encL encRu rs)] H (fun r H' => r = .int .i64 (sysP rs) ∧ H' = H) := by
  have hb' : ∀ r, r ∈ rs → r.1.bulk ≤ 1099511627775 ∧ r.2.bulk ≤ 1099511627775 := fun r hr => by have := hb r hr; omega
  refine ACall_V (H.length) 28 [.tmp 2] Tryz.func43 rfl rfl rfl ?_
  simp only [push_cast, Nat.reduceAdd, Nat.reduceSub, Nat.reduceMul, Nat.reduceLT, Nat.reduceLeDiff, Nat.reduceEqDiff, Int.reduceToNat, ↓reduceIte]
  refine (checkRules_ac rs hlen hb' _).to ?_
  simp only [push_cast, Nat.reduceAdd, Nat.reduceSub, Nat.reduceMul, Nat.reduceLT, Nat.reduceLeDiff, Nat.reduceEqDiff, Int.reduceToNat, ↓reduceIte]
  refine cI (fun h1 => ?_) (fun h1 => ?_)
  · refine (arities_ac rs hlen hb' _).mono ?_
    rintro r H' ⟨rfl, v, es, rfl, hve⟩
    cases hB : arB rs with
    | true =>
      have e : sysP rs = 6 := by simp [sysP, h1, hB]
      simp only [push_cast, Nat.reduceAdd, Nat.reduceSub, Nat.reduceMul, Nat.reduceLT, Nat.reduceLeDiff, Nat.reduceEqDiff, Int.reduceToNat, ↓reduceIte, e, Bool.not_true]
    | false =>
      obtain ⟨rfl, rfl⟩ := hve hB
      simp only [push_cast, Nat.reduceAdd, Nat.reduceSub, Nat.reduceMul, Nat.reduceLT, Nat.reduceLeDiff, Nat.reduceEqDiff, Int.reduceToNat, ↓reduceIte, Bool.not_false, Bool.false_eq_true, if_false]
      have hnm := arE_name hb
      obtain ⟨q, hq⟩ : ∃ q, q = arE rs := ⟨_, rfl⟩
      rw [← hq] at hnm ⊢
      refine AOp_range_map (H.length + 2) q.1 (sA q.2) rfl (by exact (agetN _ _ 2).trans rfl) un125 ?_
      simp only [push_cast, Nat.reduceAdd, Nat.reduceSub, Nat.reduceMul, Nat.reduceLT, Nat.reduceLeDiff, Nat.reduceEqDiff, Int.reduceToNat, ↓reduceIte]
      refine AW_loopW (maskG 29 [0, 19]) (fun (p : List (List UInt8 × Nat) × List (List UInt8 × Nat) × Option (List UInt8 × Nat)) => []) (fun p => H ++ [.cells [.map (H.length + 2)], .cells [.bool true], .map q.1 (sA q.2), .iter (H.length + 2) q.1 (sA p.2.1) (lN p.2.2)]) (fun p => (p.1 ++ p.2.1).Perm q.2 ∧ p.1.any (fun s => markedP s.1) = false) (fun p => p.2.1.length) ([], q.2, none) ⟨List.Perm.refl _, rfl⟩ (by simp only [push_cast, Nat.reduceAdd, Nat.reduceSub, Nat.reduceMul, Nat.reduceLT, Nat.reduceLeDiff, Nat.reduceEqDiff, Int.reduceToNat, ↓reduceIte, lN_n]) (fun p hp => ?_)
      obtain ⟨xs, left, last⟩ := p
      obtain ⟨hp, hall⟩ := hp
      simp only at hp hall
      simp only [push_cast, Nat.reduceAdd, Nat.reduceSub, Nat.reduceMul, Nat.reduceLT, Nat.reduceLeDiff, Nat.reduceEqDiff, Int.reduceToNat, ↓reduceIte]
      refine AOp_next_map (H.length + 3) (H.length + 2) q.1 (sA q.2) (sA left) (lN last) rfl (by exact (agetN _ _ 3).trans rfl) (by exact (agetN _ _ 2).trans rfl) (fun he => ?_) (fun j hj => ?_)
      · have hl0 : left = [] := by cases left with | nil => rfl | cons a l => simp [sA, amap] at he
        subst hl0
        rw [List.append_nil] at hp
        have hm : q.2.any (fun s => markedP s.1) = false := by
          rw [← Bool.not_eq_true, List.any_eq_true] at hall ⊢
          rintro ⟨x, hx, hxm⟩
          exact hall ⟨x, hp.mem_iff.2 hx, hxm⟩
        simp only [push_cast, Nat.reduceAdd, Nat.reduceSub, Nat.reduceMul, Nat.reduceLT, Nat.reduceLeDiff, Nat.reduceEqDiff, Int.reduceToNat, ↓reduceIte]
        refine (containsRu_ac rs 93 [] extraP _ hlen ok93 (by simp [ScopedL]) (fun i h => extra_ac _ (hb _ (List.getElem_mem h)).1 (hb _ (List.getElem_mem h)).2 _)).to ?_
        simp only [push_cast, Nat.reduceAdd, Nat.reduceSub, Nat.reduceMul, Nat.reduceLT, Nat.reduceLeDiff, Nat.reduceEqDiff, Int.reduceToNat, ↓reduceIte]
        refine cI (fun hx => ?_) (fun hx => ?_)
        · have e : sysP rs = 7 := by simp only [sysP, h1, hB, ← hq, hm]; simp [hx]
          simp only [push_cast, Nat.reduceAdd, Nat.reduceSub, Nat.reduceMul, Nat.reduceLT, Nat.reduceLeDiff, Nat.reduceEqDiff, Int.reduceToNat, ↓reduceIte, e]
        · have e : sysP rs = 0 := by simp only [sysP, h1, hB, ← hq, hm]; simp [hx]
          simp only [push_cast, Nat.reduceAdd, Nat.reduceSub, Nat.reduceMul, Nat.reduceLT, Nat.reduceLeDiff, Nat.reduceEqDiff, Int.reduceToNat, ↓reduceIte, e]
      · have hjl : j < left.length := by rw [sA_len] at hj; exact hj
        have e1 : (sA left)[j] = (.str left[j].1, avN left[j].2) := by simp [sA, amap]
        have e2 : (sA left).eraseIdx j = sA (left.eraseIdx j) := by simp only [sA, amap, erase_map]
        have hmm : left[j] ∈ q.2 := hp.mem_iff.1 (by simp)
        rw [e1, e2]
        simp only [push_cast, Nat.reduceAdd, Nat.reduceSub, Nat.reduceMul, Nat.reduceLT, Nat.reduceLeDiff, Nat.reduceEqDiff, Int.reduceToNat, ↓reduceIte]
        refine AOp_entry_map (H.length + 3) (H.length + 2) q.1 (sA q.2) (sA (left.eraseIdx j)) (.str left[j].1, avN left[j].2) rfl (by exact (agetN _ _ 3).trans rfl) (by exact (agetN _ _ 2).trans rfl) ?_
        simp only [push_cast, Nat.reduceAdd, Nat.reduceSub, Nat.reduceMul, Nat.reduceLT, Nat.reduceLeDiff, Nat.reduceEqDiff, Int.reduceToNat, ↓reduceIte]
        refine (markedT_ac left[j].1 (hnm _ hmm) _).to ?_
        simp only [push_cast, Nat.reduceAdd, Nat.reduceSub, Nat.reduceMul, Nat.reduceLT, Nat.reduceLeDiff, Nat.reduceEqDiff, Int.reduceToNat, ↓reduceIte]
        refine cI (fun hx => ?_) (fun hx => ?_)
        · have hm : q.2.any (fun s => markedP s.1) = true := List.any_eq_true.2 ⟨_, hmm, hx⟩
          have e : sysP rs = 6 := by simp only [sysP, h1, hB, ← hq, hm]; simp
          simp only [push_cast, Nat.reduceAdd, Nat.reduceSub, Nat.reduceMul, Nat.reduceLT, Nat.reduceLeDiff, Nat.reduceEqDiff, Int.reduceToNat, ↓reduceIte, e]
        · refine loopW_n (xs ++ [left[j]], left.eraseIdx j, some left[j]) ⟨?_, ?_⟩ (by simp only [List.length_eraseIdx]; split <;> omega) (by simp only [push_cast, Nat.reduceAdd, Nat.reduceSub, Nat.reduceMul, Nat.reduceLT, Nat.reduceLeDiff, Nat.reduceEqDiff, Int.reduceToNat, ↓reduceIte, lN_s])
          · refine List.Perm.trans ?_ hp
            rw [List.append_assoc]
            refine List.Perm.append_left xs ?_
            rw [List.eraseIdx_eq_take_drop_succ]
            refine (List.perm_middle (l₁ := left.take j) (l₂ := left.drop (j + 1)) (a := left[j])).symm.trans ?_
            rw [← List.drop_eq_getElem_cons hjl, List.take_append_drop]
          · rw [List.any_append, hall]; simpa using hx
  · have e : sysP rs = rulesP rs := by simp [sysP, h1]
    simp only [push_cast, Nat.reduceAdd, Nat.reduceSub, Nat.reduceMul, Nat.reduceLT, Nat.reduceLeDiff, Nat.reduceEqDiff, Int.reduceToNat, ↓reduceIte, e]
end Ab
set_option maxRecDepth 10000
namespace Ab
open Go Go.Proofs
@[reducible] def encSt (s : Int × List Int) : AV := .agg [.int .i64 s.1, .sl .none (encP s.2)]
theorem cellSt : ∀ (x : Int × List Int) c, c ∈ (encSt x).cells → c.isCell = true := by
  intro x c hc
  simp only [encSt, AV.cells, List.mem_cons, List.not_mem_nil, or_false] at hc
  rcases hc with rfl | rfl <;> rfl
theorem uniSt (l : List (Int × List Int)) : Uni (1 + 1) (encL encSt l) = True := eq_true (uni_encL (enc := encSt) (k := 2) (fun _ => rfl) l)
theorem scSt_ (n : Nat) (l : List (Int × List Int)) : ScopedL n (encL encSt l) = True := eq_true (scoped_encL (fun x => by simp [Scoped, ScopedL, scoped_encP]) l)
attribute [push_cast] uniSt scSt_
def SysB (rs : List (Term × Term)) : Prop := rs.length ≤ 64 ∧ ∀ r, r ∈ rs → r.1.bulk ≤ 1099511627770 ∧ r.2.bulk ≤ 1099511627770
theorem at_ac' (rs : List (Term × Term)) (hr : SysB rs) (p : List Int) (hp : p.length < 1099511627770) (s : Term) (hs : s.bulk ≤ 1099511627775) (H : List AObj) :
    ACall Tryz.prog 121 [.sl .none (encL encRu rs), .sl .none (encP p), encT s] H (fun r H' => r = .sl .none (encL encSt (atV rs p s)) ∧ H' = H) := by
  obtain ⟨hr1, hr2⟩ := hr
  refine ACall_VA (H.length) 35 [.tmp 6] Tryz.func121 rfl rfl rfl ?_
  refine AW_reserve 1 ?_
  refine AW_of_W ?_
  simp only [push_cast, Nat.reduceAdd, Nat.reduceSub, Nat.reduceMul, Nat.reduceLT, Nat.reduceLeDiff, Nat.reduceEqDiff, Int.reduceToNat, ↓reduceIte]
  refine AW_loopW (maskG 38 [1, 3, 1, 4, 0, 0]) (fun (i : Nat) => [(14, .int .i64 i), (7, gSl H.length (encL encSt (atF (rs.take i) 0 p s)))]) (fun i => H ++ [gTok 86 2 (encL encSt (atF (rs.take i) 0 p s)), .cells [.str s.name, .bool s.var, .sl .none (encTs s.args)]]) (fun i => i ≤ rs.length ∧ (s.var = true → i = 0)) (fun i => rs.length - i) 0 ⟨Nat.zero_le _, fun _ => rfl⟩ (by simp only [push_cast, Nat.reduceAdd, Nat.reduceSub, Nat.reduceMul, Nat.reduceLT, Nat.reduceLeDiff, Nat.reduceEqDiff, Int.reduceToNat, ↓reduceIte, List.take_zero, atF, encL_nil]) (fun i hi => ?_)
  simp only [push_cast, Nat.reduceAdd, Nat.reduceSub, Nat.reduceMul, Nat.reduceLT, Nat.reduceLeDiff, Nat.reduceEqDiff, Int.reduceToNat, ↓reduceIte]
  have hal := atF_len (rs.take i) 0 p s
  rw [List.length_take] at hal
  refine cI (fun h => ?_) (fun h => ?_)
  · have hil : i < rs.length := by omega
    have hrb := hr2 _ (List.getElem_mem hil)
    refine ⟨hil, cI (fun hv => ?_) (fun hv => ?_)⟩
    · have hi0 := hi.2 hv
      subst hi0
      simp [atV, hv, atF]
    · refine (find_ac (rs[i]'hil).1 s hrb.1 hs _).to ?_
      have hst := atF_take rs p s i hil
      simp only [push_cast, Nat.reduceAdd, Nat.reduceSub, Nat.reduceMul, Nat.reduceLT, Nat.reduceLeDiff, Nat.reduceEqDiff, Int.reduceToNat, ↓reduceIte]
      refine cI (fun hm => ?_) (fun hm => ?_)
      · rw [if_pos hm] at hst
        refine (clone2_ac p (by omega) _).to ?_
        simp only [push_cast, Nat.reduceAdd, Nat.reduceSub, Nat.reduceMul, Nat.reduceLT, Nat.reduceLeDiff, Nat.reduceEqDiff, Int.reduceToNat, ↓reduceIte]
        refine app1_L encSt (sz := 2) (fun _ => rfl) cellSt _ H.length (atF (rs.take i) 0 p s) ((i : Int), p) _ rfl rfl (by exact aget0 _ _ _) sl26 sz86 by86 zr86 rfl (by decide) (by decide) (by omega) ?_
        rw [← hst]
        simp only [push_cast, Nat.reduceAdd, Nat.reduceSub, Nat.reduceMul, Nat.reduceLT, Nat.reduceLeDiff, Nat.reduceEqDiff, Int.reduceToNat, ↓reduceIte]
        repeat' first | refine ⟨by omega, ?_⟩ | refine cI (fun _ => ?_) (fun _ => ?_)
        exact loopW_n (i + 1) ⟨by omega, fun hv' => absurd hv' hv⟩ (by omega) (by simp only [push_cast, Nat.reduceAdd, Nat.reduceSub, Nat.reduceMul, Nat.reduceLT, Nat.reduceLeDiff, Nat.reduceEqDiff, Int.reduceToNat, ↓reduceIte])
      · rw [if_neg hm, List.append_nil] at hst
        repeat' first | refine ⟨by omega, ?_⟩ | refine cI (fun _ => ?_) (fun _ => ?_)
        refine loopW_n (i + 1) ⟨by omega, fun hv' => absurd hv' hv⟩ (by omega) ?_
        rw [hst]
        simp only [push_cast, Nat.reduceAdd, Nat.reduceSub, Nat.reduceMul, Nat.reduceLT, Nat.reduceLeDiff, Nat.reduceEqDiff, Int.reduceToNat, ↓reduceIte]
  · have hil : i = rs.length := by omega
    subst hil
    rw [List.take_length]
    cases hv : s.var with
    | true =>
      have h0 := hi.2 hv
      have e := List.eq_nil_of_length_eq_zero h0
      subst e
      simp [atV, hv, atF]
    | false => simp [atV, hv]
end Ab
set_option maxRecDepth 10000
namespace Ab
open Go Go.Proofs Go.Proofs.YtpgjcbeoipldgaaGreat
section
variable {H : Type}
theorem arg_scalar {P : Program} {enc : TypeId × Value → H} {W : World} {ts : List TypeId} (hts : closedK P ts = true) {t : TypeId} (ht : t ∈ ts) {v : Value} {d : DataW H} {ps : List MemPlace} {base : Nat} {spare : Nat → Bool} {held : Bool} {kd : IntKind} (hu : P.underlying t = some (.int kd)) {r : Reach} {b0 : Nat}
    (hok : Value.okWide P W r b0 t v) (h : DataW.Trod enc P W base spare held t v d ps) : ∃ n a, toAV P n t d = some [a] ∧ VRel (ctx0 W) a v := by
  obtain ⟨n, hn⟩ := h
  obtain ⟨avs, h1, h2⟩ := trod_av (C := ctx0 W) (ctx0_cell W) hts n t _ d ps hn ht
  have hagg : aggK P t = false := by unfold aggK kindOf; rw [hu]
  obtain ⟨a, rfl⟩ := toAV_one hagg h1
  refine ⟨n, a, h1, ?_⟩
  have hv : v.cells.toList = [v] := by
    unfold Value.okWide at hok
    rw [hu] at hok
    cases v <;> first | rfl | (unfold Cell.okWide at hok; simp [hu] at hok; done) | (simp [Cell.okWide, Cell.ok, hu] at hok; done)
  have := h2.rel 0 (by simp) (by rw [hv]; simp)
  simp only [hv] at this
  simpa using this
end
end Ab
