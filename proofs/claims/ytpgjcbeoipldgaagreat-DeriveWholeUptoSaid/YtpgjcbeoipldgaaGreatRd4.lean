/- Part 4 of 5 of a proof. The law DeriveWhole of chapter 05 returns true at every input up to the bound: a whole graph holds every derivation, and none is longer than the longest one. -/
import Derived.Test.YtpgjcbeoipldgaaGreatRd3
import Derived.Shelf.SlSortCmp.WholeK
import Derived.Shelf.SlSortCmp.NoneTotal
import Derived.Shelf.Small.Strs
import Derived.Test.YtpgjcbeoipldgaaGreatProg
set_option linter.unusedVariables false
set_option linter.unusedSimpArgs false
set_option maxRecDepth 10000
namespace Ab
open Go Go.Proofs
theorem cb_self (a : List UInt8) : Lib.compareBytes a a = 0 := (compareBytes_eq a a).2 rfl
def subAt (σ : List (List UInt8 × Term)) (i : Nat) : Bool := isNameP (σ.getD i ([], .mk [] false [])).1 false && (decide (i = 0) || decide (Lib.compareBytes (σ.getD (i - 1) ([], .mk [] false [])).1 (σ.getD i ([], .mk [] false [])).1 < 0))
def subCheck (σ : List (List UInt8 × Term)) : Int := if (List.range σ.length).all (subAt σ) then firstErr (σ.map (·.2)) else 4
theorem sortedS_get {σ : List (List UInt8 × Term)} (h : SortedN (σ.map (·.1))) (i j : Nat) (hi : i < σ.length) (hj : j < σ.length) (hij : i < j) : Lib.compareBytes σ[i].1 σ[j].1 < 0 := by
  unfold SortedN at h
  rw [List.pairwise_map, List.pairwise_iff_getElem] at h
  exact h i j hi hj hij
def look (σ : List (List UInt8 × Term)) (v : List UInt8) : Option Term := (σ.find? fun b => decide (b.1 = v)).map (·.2)
theorem image_look (σ : List (List UInt8 × Term)) (v : List UInt8) : imageP σ v = (look σ v).getD (.mk v true []) := rfl
theorem look_some {σ : List (List UInt8 × Term)} (h : SortedN (σ.map (·.1))) (i : Nat) (hi : i < σ.length) : look σ σ[i].1 = some σ[i].2 := by
  unfold look
  have : σ.find? (fun b => decide (b.1 = σ[i].1)) = some σ[i] := by
    rw [List.find?_eq_some_iff_getElem]
    refine ⟨by simp, i, hi, rfl, fun j hj => ?_⟩
    have h1 := sortedS_get h j i (by omega) hi hj
    simp only [decide_eq_true_eq, Bool.not_eq_true', decide_eq_false_iff_not]
    intro e
    rw [e, cb_self] at h1
    omega
  rw [this]; rfl
theorem look_mem {σ : List (List UInt8 × Term)} (h : SortedN (σ.map (·.1))) {b : List UInt8 × Term} (hb : b ∈ σ) : look σ b.1 = some b.2 := by
  obtain ⟨i, hi, rfl⟩ := List.getElem_of_mem hb
  exact look_some h i hi
theorem look_none {σ : List (List UInt8 × Term)} {v : List UInt8} (h : ∀ b, b ∈ σ → b.1 ≠ v) : look σ v = none := by
  unfold look
  rw [List.find?_eq_none.2 (fun b hb => by simpa using h b hb)]; rfl
theorem look_some_mem {σ : List (List UInt8 × Term)} {v : List UInt8} {t : Term} (h : look σ v = some t) : (v, t) ∈ σ := by
  unfold look at h
  cases hf : σ.find? (fun b => decide (b.1 = v)) with
  | none => rw [hf] at h; cases h
  | some b =>
    rw [hf] at h
    injection h with h
    have h1 := List.find?_some hf
    have h2 := List.mem_of_find?_eq_some hf
    simp only [decide_eq_true_eq] at h1
    rw [← h1, ← h]; exact h2
theorem look_cases {σ : List (List UInt8 × Term)} (v : List UInt8) : (∃ b, b ∈ σ ∧ b.1 = v ∧ look σ v = some b.2) ∨ look σ v = none := by
  cases h : look σ v with
  | none => exact .inr rfl
  | some t => exact .inl ⟨(v, t), look_some_mem h, rfl, rfl⟩
theorem apply_size (σ : List (List UInt8 × Term)) (B : Nat) (hB : 1 ≤ B) (h : ∀ b, b ∈ σ → b.2.size ≤ B) (t : Term) : (applyP σ t).size ≤ t.size * B := by
  induction t using Term.ind with | _ n u xs ih
  rw [applyP_mk]
  split
  · have h1 : 1 ≤ (Term.mk n u xs).size := Term.size_pos _
    have h2 : (imageP σ n).size ≤ B := by
      rw [image_look]
      rcases look_cases (σ := σ) n with ⟨b, hb, _, e⟩ | e
      · rw [e]; exact h b hb
      · rw [e]; simpa [Term.size_mk] using hB
    calc (imageP σ n).size ≤ 1 * B := by omega
      _ ≤ _ := Nat.mul_le_mul_right B h1
  · rw [Term.size_mk, Term.size_mk, Nat.add_mul]
    have h2 : ((xs.map (applyP σ)).map Term.size).sum ≤ (xs.map Term.size).sum * B := by
      clear hB
      induction xs with
      | nil => simp
      | cons a r ih2 =>
        have h3 := ih a (by simp)
        have h4 := ih2 (fun x hx => ih x (by simp [hx]))
        simp only [List.map_cons, List.sum_cons, Nat.add_mul]
        omega
    omega
theorem apply_bulk (σ : List (List UInt8 × Term)) (B : Nat) (h : ∀ b, b ∈ σ → b.2.bulk ≤ B) (t : Term) : (applyP σ t).bulk ≤ t.bulk * (B + 1) := by
  induction t using Term.ind with | _ n u xs ih
  rw [applyP_mk]
  split
  · rw [image_look]
    have h1 : n.length < (Term.mk n u xs).bulk := Term.name_le
    rcases look_cases (σ := σ) n with ⟨b, hb, _, e⟩ | e
    · rw [e]
      have h3 := h b hb
      calc b.2.bulk ≤ 1 * (B + 1) := by omega
        _ ≤ _ := Nat.mul_le_mul_right (B + 1) (by omega)
    · rw [e]
      show (Term.mk n true []).bulk ≤ _
      calc (Term.mk n true []).bulk = 1 + n.length := by simp [Term.bulk_mk]
        _ ≤ (Term.mk n u xs).bulk * 1 := by omega
        _ ≤ _ := Nat.mul_le_mul_left _ (by omega)
  · rw [Term.bulk_mk, Term.bulk_mk, Nat.add_mul]
    have h2 : ((xs.map (applyP σ)).map Term.bulk).sum ≤ (xs.map Term.bulk).sum * (B + 1) := by
      induction xs with
      | nil => simp
      | cons a r ih2 =>
        have h3 := ih a (by simp)
        have h4 := ih2 (fun x hx => ih x (by simp [hx]))
        simp only [List.map_cons, List.sum_cons, Nat.add_mul]
        omega
    have h5 : 1 + n.length ≤ (1 + n.length) * (B + 1) := Nat.le_mul_of_pos_right _ (by omega)
    omega
theorem name_small {s : List UInt8} {m : Bool} (h : isNameP s m = true) : s.length ≤ 24 := by
  unfold isNameP at h
  rw [Bool.and_eq_true, decide_eq_true_eq] at h
  exact h.1
theorem formed_bulk (t : Term) : formedP t = true → t.bulk ≤ 25 * t.size := by
  induction t using Term.ind with | _ n u xs ih
  intro h
  rw [formedP_mk] at h
  rw [Term.bulk_mk, Term.size_mk]
  split at h
  · rw [Bool.and_eq_true, decide_eq_true_eq] at h
    have h1 := name_small h.2
    have h2 := List.eq_nil_of_length_eq_zero h.1
    subst h2
    simp; omega
  · rw [Bool.and_eq_true, Bool.and_eq_true, List.all_eq_true] at h
    have h1 := name_small h.1.2
    have h2 : (xs.map Term.bulk).sum ≤ 25 * (xs.map Term.size).sum := by
      have h3 := h.2
      clear h
      induction xs with
      | nil => simp
      | cons a r ih2 =>
        have h4 := ih a (by simp) (h3 a (by simp))
        have h5 := ih2 (fun x hx => ih x (by simp [hx])) (fun x hx => h3 x (by simp [hx]))
        simp only [List.map_cons, List.sum_cons]
        omega
    omega
theorem check_iff (t : Term) : checkP t = 0 ↔ formedP t = true ∧ fitsP t = true := by
  unfold checkP
  cases formedP t <;> cases fitsP t <;> simp
theorem fits_size {t : Term} (h : fitsP t = true) : t.size ≤ 4000 := by
  unfold fitsP at h
  rw [Bool.and_eq_true, decide_eq_true_eq] at h
  exact h.1
theorem check_small {t : Term} (h : checkP t = 0) : t.size ≤ 4000 ∧ t.bulk ≤ 100000 := by
  have h1 := (check_iff t).1 h
  have h2 := fits_size h1.2
  have h3 := formed_bulk t h1.1
  omega
theorem formed_apply (σ : List (List UInt8 × Term)) (h : ∀ b, b ∈ σ → formedP b.2 = true) (t : Term) : formedP t = true → formedP (applyP σ t) = true := by
  induction t using Term.ind with | _ n u xs ih
  intro ht
  rw [applyP_mk]
  rw [formedP_mk] at ht
  cases u with
  | true =>
    simp only [if_true] at ht ⊢
    rw [image_look]
    rcases look_cases (σ := σ) n with ⟨b, hb, _, e⟩ | e
    · rw [e]; exact h b hb
    · rw [e]
      show formedP (.mk n true []) = true
      rw [formedP_mk]
      rw [Bool.and_eq_true] at ht
      simp [ht.2]
  | false =>
    simp only [Bool.false_eq_true, if_false] at ht ⊢
    rw [formedP_mk]
    simp only [Bool.false_eq_true, if_false, List.length_map, List.all_map]
    rw [Bool.and_eq_true, List.all_eq_true] at ht ⊢
    exact ⟨ht.1, fun x hx => ih x hx (ht.2 x hx)⟩
theorem look_isNone {σ : List (List UInt8 × Term)} {v : List UInt8} : (look σ v).isNone = true ↔ ∀ b, b ∈ σ → b.1 ≠ v := by
  constructor
  · intro h b hb e
    subst e
    unfold look at h
    rw [Option.isNone_iff_eq_none, Option.map_eq_none_iff, List.find?_eq_none] at h
    exact h b hb (by simp)
  · intro h; rw [look_none h]; rfl
end Ab
set_option maxRecDepth 10000
namespace Ab
open Go Go.Proofs
theorem subOk (σ : List (List UInt8 × Term)) (j : Nat) (h : σ.length ≤ j) (ha : (List.range σ.length).all (subAt σ) = true) (hj : firstErr ((σ.map (·.2)).take j) = 0) : subCheck σ = 0 := by
  unfold subCheck
  rw [if_pos ha]
  rwa [List.take_of_length_le (by simpa using h)] at hj
end Ab
set_option maxRecDepth 10000
namespace Ab
open Go Go.Proofs
theorem imageR_ac (σ : List (List UInt8 × Term)) (v : List UInt8) (hlen : σ.length < 1099511627776) (H : List AObj) : ACall Tryz.prog 74 [.sl .none (encL encBd σ), .str v] H (fun r H' => r = encT (imageP σ v) ∧ H' = H) := by
  refine ACall_V (H.length) 20 [.cell 4 25] Tryz.func74 rfl rfl rfl ?_
  simp only [push_cast, Nat.reduceAdd, Nat.reduceSub, Nat.reduceMul, Nat.reduceLT, Nat.reduceLeDiff, Nat.reduceEqDiff, Int.reduceToNat, ↓reduceIte]
  refine AW_loopW (maskG 22 [1, 2, 2, 0, 0]) (fun (i : Nat) => [(9, .int .i64 i)]) (fun _ => H ++ [.cells [.str [], .bool false, .sl .zero []]]) (fun i => i ≤ σ.length ∧ ∀ x, x ∈ σ.take i → ¬ x.1 = v) (fun i => σ.length - i) 0 ⟨Nat.zero_le _, by simp⟩ (by simp only [push_cast, Nat.reduceAdd, Nat.reduceSub, Nat.reduceMul, Nat.reduceLT, Nat.reduceLeDiff, Nat.reduceEqDiff, Int.reduceToNat, ↓reduceIte]) (fun i hi => ?_)
  simp only [push_cast, Nat.reduceAdd, Nat.reduceSub, Nat.reduceMul, Nat.reduceLT, Nat.reduceLeDiff, Nat.reduceEqDiff, Int.reduceToNat, ↓reduceIte]
  refine cI (fun h => ?_) (fun h => ?_)
  · repeat refine ⟨by omega, ?_⟩
    have hil : i < σ.length := by omega
    refine cI (fun he => ?_) (fun he => ?_)
    · have hn : σ.find? (fun b => decide (b.1 = v)) = some (σ[i]'hil) := by
        rw [List.find?_eq_some_iff_getElem]
        refine ⟨by simpa using he, i, hil, rfl, fun j hj => ?_⟩
        have := hi.2 σ[j] (by rw [List.mem_take_iff_getElem]; exact ⟨j, by omega, rfl⟩)
        simpa using this
      have hI : imageP σ v = (σ[i]'hil).2 := by simp [imageP, hn]
      simp only [push_cast, Nat.reduceAdd, Nat.reduceSub, Nat.reduceMul, Nat.reduceLT, Nat.reduceLeDiff, Nat.reduceEqDiff, Int.reduceToNat, ↓reduceIte, hI]
    · repeat' first | refine ⟨by omega, ?_⟩ | refine cI (fun _ => ?_) (fun _ => ?_)
      refine loopW_n (i + 1) ⟨by omega, fun x hx => ?_⟩ (by omega) (by simp only [push_cast, Nat.reduceAdd, Nat.reduceSub, Nat.reduceMul, Nat.reduceLT, Nat.reduceLeDiff, Nat.reduceEqDiff, Int.reduceToNat, ↓reduceIte])
      rw [List.take_succ_eq_append_getElem hil] at hx
      rcases List.mem_append.1 hx with h | h
      · exact hi.2 x h
      · rw [List.mem_singleton] at h; subst h; exact he
  · have e : σ.take i = σ := List.take_of_length_le (by omega)
    rw [e] at hi
    have hn : σ.find? (fun b => decide (b.1 = v)) = none := by rw [List.find?_eq_none]; intro x hx; simpa using hi.2 x hx
    have hI : imageP σ v = .mk v true [] := by simp [imageP, hn]
    simp only [push_cast, Nat.reduceAdd, Nat.reduceSub, Nat.reduceMul, Nat.reduceLT, Nat.reduceLeDiff, Nat.reduceEqDiff, Int.reduceToNat, ↓reduceIte, hI]
def appL (σ : List (List UInt8 × Term)) (xs : List Term) : List Term := xs.map (applyP σ)
theorem appL_take (σ : List (List UInt8 × Term)) (xs : List Term) (i : Nat) (h : i < xs.length) : appL σ (xs.take (i + 1)) = appL σ (xs.take i) ++ [applyP σ xs[i]] := by
  unfold appL; rw [List.take_succ_eq_append_getElem h, List.map_append]; rfl
theorem appL_nil (σ : List (List UInt8 × Term)) : appL σ [] = [] := (rfl)
theorem appL_len (σ : List (List UInt8 × Term)) (xs : List Term) : (appL σ xs).length = xs.length := by simp [appL]
theorem applyP_t (σ : List (List UInt8 × Term)) (n : List UInt8) (xs : List Term) : applyP σ (.mk n true xs) = imageP σ n := by rw [applyP_mk]; simp
theorem applyP_f (σ : List (List UInt8 × Term)) (n : List UInt8) (xs : List Term) : applyP σ (.mk n false xs) = .mk n false (appL σ xs) := by rw [applyP_mk]; rfl
theorem applyR_ac (σ : List (List UInt8 × Term)) (hlen : σ.length < 1099511627776) (t : Term) : t.bulk ≤ 1099511627775 → ∀ H, ACall Tryz.prog 31 [.sl .none (encL encBd σ), encT t] H (fun r H' => r = encT (applyP σ t) ∧ H' = H) := by
  induction t using Term.ind with | _ n v xs ih
  intro hb H
  have hl := Term.len_le (n := n) (v := v) (xs := xs)
  cases v with
  | true =>
    rw [applyP_t]
    refine ACall_V (H.length) 32 [.cell 4 25] Tryz.func31 rfl rfl rfl ?_
    simp only [push_cast, Nat.reduceAdd, Nat.reduceSub, Nat.reduceMul, Nat.reduceLT, Nat.reduceLeDiff, Nat.reduceEqDiff, Int.reduceToNat, ↓reduceIte]
    refine (imageR_ac σ n hlen _).to ?_
    simp only [push_cast, Nat.reduceAdd, Nat.reduceSub, Nat.reduceMul, Nat.reduceLT, Nat.reduceLeDiff, Nat.reduceEqDiff, Int.reduceToNat, ↓reduceIte]
  | false =>
    rw [applyP_f]
    refine ACall_V (H.length) 32 [.cell 4 25] Tryz.func31 rfl rfl rfl ?_
    simp only [push_cast, Nat.reduceAdd, Nat.reduceSub, Nat.reduceMul, Nat.reduceLT, Nat.reduceLeDiff, Nat.reduceEqDiff, Int.reduceToNat, ↓reduceIte]
    refine AW_reserve 1 ?_
    refine AW_loopW (maskG 34 [0, 3, 0, 12, 0, 0]) (fun (i : Nat) => [(20, .int .i64 i)]) (fun i => H ++ [.cells [.str n, .bool false, .sl .none (encTs xs)], .cells [.str [], .bool false, .sl .zero []], .cells [.str n, .bool false, gSl (H.length + 3) (encTs (appL σ (xs.take i)))], gTok 25 3 (encTs (appL σ (xs.take i)))]) (fun i => i ≤ xs.length) (fun i => xs.length - i) 0 (Nat.zero_le _) (by simp only [push_cast, Nat.reduceAdd, Nat.reduceSub, Nat.reduceMul, Nat.reduceLT, Nat.reduceLeDiff, Nat.reduceEqDiff, Int.reduceToNat, ↓reduceIte, List.take_zero, appL_nil]) (fun i hi => ?_)
    simp only [push_cast, Nat.reduceAdd, Nat.reduceSub, Nat.reduceMul, Nat.reduceLT, Nat.reduceLeDiff, Nat.reduceEqDiff, Int.reduceToNat, ↓reduceIte]
    refine cI (fun h => ?_) (fun h => ?_)
    · have hil : i < xs.length := by omega
      repeat refine ⟨by omega, ?_⟩
      have hal := appL_len σ (xs.take i)
      rw [List.length_take] at hal
      apply AW_drawE [some 24, some 25, some 26, some 27, some 28, some 29, some 30, some 31, none] [([false, false], _), ([true, false], _), ([true, true], _)] [none, none, none, none, none, none, some 0, none, some 1] 2 [(0, [false, false], [5]), (1, [false, false], [24]), (2, [false, false], [0]), (3, [false, false], [7]), (4, [false, false], [26, 0]), (5, [false, false], [28]), (6, [false, false], [25, 3]), (7, [true, false], [5]), (8, [true, false], [30, 0]), (0, [true, false], [5]), (2, [true, false], [0]), (3, [true, false], [7])] [_, _, _, _, _, _, _, _, _]
      case' hm => exact dr
      case' hn => rfl
      case' hok => rfl
      case' hlen => rfl
      case' hd => rfl
      case' h0 => rfl
      case' hstep =>
       simp only [DAllG, push_cast, Option.isSome_some, Option.isSome_none]
       repeat' apply And.intro
       all_goals (apply DOne_V; simp only [push_cast, Nat.reduceAdd, Nat.reduceSub, Nat.reduceMul, Nat.reduceLT, Nat.reduceLeDiff, Nat.reduceEqDiff, Int.reduceToNat, ↓reduceIte] <;> first | exact rfl | omega | exact ⟨rfl, rfl⟩ | exact trivial | exact ⟨by omega, rfl⟩ | exact ⟨by omega, by omega, rfl⟩ | exact ⟨by omega, rfl, rfl⟩ | exact ⟨by omega, by omega, rfl, rfl⟩ | exact (ih _ (List.getElem_mem hil) (arg_bulk hb i hil) _).to ⟨rfl, rfl⟩ | (refine app1_T _ (H.length + 3) (appL σ (xs.take i)) (applyP σ (xs[i]'hil)) _ rfl rfl (by exact (agetN _ _ 3).trans rfl) sl23 sz25 by25 zr25 rfl (by decide) (by omega) ?_; simp only [push_cast, Nat.reduceAdd, Nat.reduceSub, Nat.reduceMul, Nat.reduceLT, Nat.reduceLeDiff, Nat.reduceEqDiff, Int.reduceToNat, ↓reduceIte]; exact ⟨rfl, rfl⟩))
      case' hQ => skip
      simp only [push_cast, Nat.reduceAdd, Nat.reduceSub, Nat.reduceMul, Nat.reduceLT, Nat.reduceLeDiff, Nat.reduceEqDiff, Int.reduceToNat, ↓reduceIte, ← appL_take σ xs i hil]
      repeat' first | refine ⟨by omega, ?_⟩ | refine cI (fun _ => ?_) (fun _ => ?_)
      exact loopW_n (i + 1) (by omega) (by omega) (by simp only [push_cast, Nat.reduceAdd, Nat.reduceSub, Nat.reduceMul, Nat.reduceLT, Nat.reduceLeDiff, Nat.reduceEqDiff, Int.reduceToNat, ↓reduceIte])
    · simp only [push_cast, Nat.reduceAdd, Nat.reduceSub, Nat.reduceMul, Nat.reduceLT, Nat.reduceLeDiff, Nat.reduceEqDiff, Int.reduceToNat, ↓reduceIte, List.take_of_length_le (show xs.length ≤ i by omega)]
end Ab
set_option maxRecDepth 10000
namespace Ab
open Go Go.Proofs
theorem searchB_ac (xs : List (List UInt8 × Term)) (v : List UInt8) (g : Nat) (caps : List AV) (c : List UInt8 × Term → Int) (H : List AObj) (hlen : xs.length < 1099511627776) (hg : callOk Tryz.prog g = true) (hsc : ScopedL H.length caps)
    (hmono : ∀ i j (hi : i < xs.length) (hj : j < xs.length), i ≤ j → c xs[j] < 0 → c xs[i] < 0)
    (hf : ∀ i (h : i < xs.length) X, ACall Tryz.prog g (encBd xs[i] :: .str v :: caps) X (fun r H' => r = .int .i64 (c xs[i]) ∧ H' = X)) :
    ACall Tryz.prog 176 [.sl .none (encL encBd xs), .str v, .fn g caps] H
      (fun r H' => ∃ i : Nat, i ≤ xs.length ∧ (∀ j (hj : j < xs.length), j < i → c xs[j] < 0) ∧ (∀ j (hj : j < xs.length), i ≤ j → ¬ c xs[j] < 0) ∧ r = .tup [.int .i64 i, .bool (decide (∃ h : i < xs.length, c xs[i] = 0))] ∧ H' = H) := by
  refine ACall_W (H.length) 46 [.tmp 6, .tmp 7] Tryz.func176 rfl rfl rfl ?_
  simp only [push_cast, Nat.reduceAdd, Nat.reduceSub, Nat.reduceMul, Nat.reduceLT, Nat.reduceLeDiff, Nat.reduceEqDiff, Int.reduceToNat, ↓reduceIte]
  refine AW_loopW (maskG 49 [0, 0, 0, 5, 0, 0]) (fun (q : Nat × Nat) => [(9, .int .i64 q.1), (10, .int .i64 q.2)]) (fun _ => H) (fun q => q.1 ≤ q.2 ∧ q.2 ≤ xs.length ∧ (∀ j (hj : j < xs.length), j < q.1 → c xs[j] < 0) ∧ (∀ j (hj : j < xs.length), q.2 ≤ j → ¬ c xs[j] < 0)) (fun q => q.2 - q.1) (0, xs.length) ⟨by simp, by simp, fun j hj h => by simp at h, fun j hj h => by simp at h; omega⟩ (by simp only [push_cast, Nat.reduceAdd, Nat.reduceSub, Nat.reduceMul, Nat.reduceLT, Nat.reduceLeDiff, Nat.reduceEqDiff, Int.reduceToNat, ↓reduceIte, hsc]) (fun q hq => ?_)
  obtain ⟨i, j⟩ := q
  obtain ⟨hi1, hi2, hi3, hi4⟩ := hq
  simp only at hi1 hi2 hi3 hi4
  simp only [push_cast, Nat.reduceAdd, Nat.reduceSub, Nat.reduceMul, Nat.reduceLT, Nat.reduceLeDiff, Nat.reduceEqDiff, Int.reduceToNat, ↓reduceIte, hg]
  refine cI (fun h => ?_) (fun h => ?_)
  · have e1 : ((i : Int) + j) / 2 ^ 1 = (((i + j) / 2 : Nat) : Int) := by rw [Int.pow_one]; omega
    have e2 : 1 ≤ IntKind.u64.bits := by decide
    obtain ⟨m, hm⟩ : ∃ m, m = (i + j) / 2 := ⟨_, rfl⟩
    rw [← hm] at e1
    rw [e1]
    repeat refine ⟨by omega, ?_⟩
    have hmx : m < xs.length := by omega
    refine (hf m hmx _).to ?_
    simp only [push_cast, Nat.reduceAdd, Nat.reduceSub, Nat.reduceMul, Nat.reduceLT, Nat.reduceLeDiff, Nat.reduceEqDiff, Int.reduceToNat, ↓reduceIte]
    refine cI (fun hc => ?_) (fun hc => ?_)
    · repeat' first | refine ⟨by omega, ?_⟩ | refine cI (fun _ => ?_) (fun _ => ?_)
      exact loopW_n (m + 1, j) ⟨by simp only; omega, by simp only; omega, fun k hk hkm => hmono k m hk hmx (by simp only at hkm; omega) hc, hi4⟩ (by simp only; omega) (by simp only [push_cast, Nat.reduceAdd, Nat.reduceSub, Nat.reduceMul, Nat.reduceLT, Nat.reduceLeDiff, Nat.reduceEqDiff, Int.reduceToNat, ↓reduceIte, hsc])
    · repeat' first | refine ⟨by omega, ?_⟩ | refine cI (fun _ => ?_) (fun _ => ?_)
      exact loopW_n (i, m) ⟨by simp only; omega, by simp only; omega, hi3, fun k hk hmk hneg => absurd (hmono m k hmx hk hmk hneg) hc⟩ (by simp only; omega) (by simp only [push_cast, Nat.reduceAdd, Nat.reduceSub, Nat.reduceMul, Nat.reduceLT, Nat.reduceLeDiff, Nat.reduceEqDiff, Int.reduceToNat, ↓reduceIte, hsc])
  · have hall : ∀ k (hk : k < xs.length), i ≤ k → ¬ c xs[k] < 0 := fun k hk hik => hi4 k hk (by omega)
    refine cI (fun hl => ?_) (fun hl => ?_)
    · have hil : i < xs.length := by omega
      repeat refine ⟨by omega, ?_⟩
      refine (hf i hil _).to ?_
      simp only [push_cast, Nat.reduceAdd, Nat.reduceSub, Nat.reduceMul, Nat.reduceLT, Nat.reduceLeDiff, Nat.reduceEqDiff, Int.reduceToNat, ↓reduceIte]
      refine ⟨i, by omega, hi3, hall, rfl, ?_⟩
      simp [hil]
    · refine ⟨i, by omega, hi3, hall, rfl, ?_⟩
      have hil : ¬ i < xs.length := by omega
      simp [hil]
theorem imageC_ac (x : List UInt8 × Term) (v : List UInt8) (H : List AObj) : ACall Tryz.prog 177 [encBd x, .str v] H (fun r H' => r = .int .i64 (Lib.compareBytes x.1 v) ∧ H' = H) := by
  refine ACall_V (H.length) 7 [.tmp 4] Tryz.func177 rfl rfl rfl ?_
  simp only [push_cast, Nat.reduceAdd, Nat.reduceSub, Nat.reduceMul, Nat.reduceLT, Nat.reduceLeDiff, Nat.reduceEqDiff, Int.reduceToNat, ↓reduceIte]
  refine (compareStr_ac x.1 v _).to ?_
  simp only [push_cast, Nat.reduceAdd, Nat.reduceSub, Nat.reduceMul, Nat.reduceLT, Nat.reduceLeDiff, Nat.reduceEqDiff, Int.reduceToNat, ↓reduceIte]
theorem imageT_ac (σ : List (List UInt8 × Term)) (hs : SortedN (σ.map (·.1))) (v : List UInt8) (hlen : σ.length < 1099511627776) (H : List AObj) : ACall Tryz.prog 150 [.sl .none (encL encBd σ), .str v] H (fun r H' => r = .tup [encT ((look σ v).getD (.mk [] false [])), .bool (look σ v).isSome] ∧ H' = H) := by
  refine ACall_V (H.length) 20 [.cell 4 25, .tmp 5] Tryz.func150 rfl rfl rfl ?_
  simp only [push_cast, Nat.reduceAdd, Nat.reduceSub, Nat.reduceMul, Nat.reduceLT, Nat.reduceLeDiff, Nat.reduceEqDiff, Int.reduceToNat, ↓reduceIte]
  refine (searchB_ac σ v 177 [] (fun b => Lib.compareBytes b.1 v) _ hlen ok177 (by simp [ScopedL]) (fun i j hi hj hij hc => ?_) (fun i h X => imageC_ac _ v _)).mono ?_
  · rcases Nat.lt_or_eq_of_le hij with h | h
    · exact cb_trans _ _ _ (sortedS_get hs i j hi hj h) hc
    · subst h; exact hc
  rintro r H' ⟨i, h1, h2, h3, rfl, rfl⟩
  by_cases hx : ∃ h : i < σ.length, Lib.compareBytes σ[i].1 v = 0
  · obtain ⟨hil, he⟩ := hx
    have hv := (compareBytes_eq _ _).1 he
    have hl : look σ v = some σ[i].2 := by rw [← hv]; exact look_some hs i hil
    have hd : decide (∃ h : i < σ.length, Lib.compareBytes σ[i].1 v = 0) = true := by rw [decide_eq_true_eq]; exact ⟨hil, he⟩
    simp only [push_cast, Nat.reduceAdd, Nat.reduceSub, Nat.reduceMul, Nat.reduceLT, Nat.reduceLeDiff, Nat.reduceEqDiff, Int.reduceToNat, ↓reduceIte, hd]
    repeat refine ⟨by omega, ?_⟩
    simp only [push_cast, Nat.reduceAdd, Nat.reduceSub, Nat.reduceMul, Nat.reduceLT, Nat.reduceLeDiff, Nat.reduceEqDiff, Int.reduceToNat, ↓reduceIte, hl]
    simp
  · have hl : look σ v = none := look_none fun b hb e => by
      obtain ⟨j, hj, rfl⟩ := List.getElem_of_mem hb
      have hj0 : Lib.compareBytes σ[j].1 v = 0 := by rw [e]; exact cb_self v
      rcases Nat.lt_trichotomy j i with h | h | h
      · have := h2 j hj h; omega
      · subst h; exact hx ⟨hj, hj0⟩
      · have h4 := sortedS_get hs i j (by omega) hj h
        rw [e] at h4
        exact h3 i (by omega) (Nat.le_refl _) h4
    have hd : decide (∃ h : i < σ.length, Lib.compareBytes σ[i].1 v = 0) = false := by rw [decide_eq_false_iff_not]; exact hx
    simp only [push_cast, Nat.reduceAdd, Nat.reduceSub, Nat.reduceMul, Nat.reduceLT, Nat.reduceLeDiff, Nat.reduceEqDiff, Int.reduceToNat, ↓reduceIte, hd, hl]
    simp
theorem image_bulk (σ : List (List UInt8 × Term)) (B : Nat) (hb : ∀ b, b ∈ σ → b.2.bulk ≤ B) (n : List UInt8) (hn : n.length < B) : (imageP σ n).bulk ≤ B := by
  rw [image_look]
  rcases look_cases (σ := σ) n with ⟨b, hbm, _, e⟩ | e
  · rw [e]; exact hb b hbm
  · rw [e]
    show (Term.mk n true []).bulk ≤ B
    rw [Term.bulk_mk]; simp; omega
theorem sizes_take (σ : List (List UInt8 × Term)) (xs : List Term) (i : Nat) (h : i < xs.length) : ((appL σ (xs.take (i + 1))).map Term.size).sum = ((appL σ (xs.take i)).map Term.size).sum + (applyP σ xs[i]).size ∧ ((appL σ (xs.take (i + 1))).map Term.depth).foldl max 0 = max (((appL σ (xs.take i)).map Term.depth).foldl max 0) (applyP σ xs[i]).depth := by
  rw [appL_take σ xs i h, List.map_append, List.map_append, List.sum_append, List.foldl_append]
  exact ⟨by simp, by simp⟩
theorem sizes_le (σ : List (List UInt8 × Term)) (xs : List Term) (i : Nat) : ((appL σ (xs.take i)).map Term.size).sum ≤ ((appL σ xs).map Term.size).sum ∧ ((appL σ (xs.take i)).map Term.depth).foldl max 0 ≤ ((appL σ xs).map Term.size).sum := by
  have h1 : appL σ (xs.take i) = (appL σ xs).take i := by simp [appL, List.map_take]
  have h2 := take_sum_le Term.size (appL σ xs) i
  have h3 := foldl_max_le Term.depth ((appL σ xs).take i) 0
  have h4 : (((appL σ xs).take i).map Term.depth).sum ≤ (((appL σ xs).take i).map Term.size).sum := by
    generalize (appL σ xs).take i = l
    induction l with
    | nil => simp
    | cons a r ih => have := a.depth_le; simp only [List.map_cons, List.sum_cons]; omega
  rw [h1]; omega
theorem measure_ac (σ : List (List UInt8 × Term)) (hs : SortedN (σ.map (·.1))) (hlen : σ.length < 1099511627776) (hbk : ∀ b, b ∈ σ → b.2.bulk ≤ 1099511627775) (t : Term) : t.bulk ≤ 1099511627775 → (applyP σ t).size ≤ 1099511627775 → ∀ H, ACall Tryz.prog 115 [.sl .none (encL encBd σ), encT t] H (fun r H' => r = .agg [.int .i64 (applyP σ t).size, .int .i64 (applyP σ t).depth] ∧ H' = H) := by
  induction t using Term.ind with | _ n u xs ih
  intro hb hb2 H
  have hl := Term.len_le (n := n) (v := u) (xs := xs)
  have hnl := Term.name_le (n := n) (v := u) (xs := xs)
  cases u with
  | true =>
    rw [applyP_t]
    have hib := image_bulk σ 1099511627775 hbk n (by omega)
    rw [image_look] at hib ⊢
    refine ACall_V (H.length) 54 [.cell 4 147] Tryz.func115 rfl rfl rfl ?_
    simp only [push_cast, Nat.reduceAdd, Nat.reduceSub, Nat.reduceMul, Nat.reduceLT, Nat.reduceLeDiff, Nat.reduceEqDiff, Int.reduceToNat, ↓reduceIte]
    refine (imageT_ac σ hs n hlen _).to ?_
    rcases look_cases (σ := σ) n with ⟨b, hbm, _, e⟩ | e
    · have hbb := hbk b hbm
      simp only [push_cast, Nat.reduceAdd, Nat.reduceSub, Nat.reduceMul, Nat.reduceLT, Nat.reduceLeDiff, Nat.reduceEqDiff, Int.reduceToNat, ↓reduceIte, e, Option.isSome_some, Option.getD_some]
      apply AW_drawE [some 21, some 22, some 23, some 24, some 25, none] [([false], _), ([true], _)] [none, none, none, none, none, some 0] 1 [(0, [false], [5]), (1, [false], [21]), (2, [false], [5]), (3, [false], [23]), (4, [false], [22, 1]), (5, [false], [4, 20])] [_, _, _, _, _, _]
      case' hm => exact dr
      case' hn => rfl
      case' hok => rfl
      case' hlen => rfl
      case' hd => rfl
      case' h0 => rfl
      case' hstep =>
       simp only [DAllG, push_cast, Option.isSome_some, Option.isSome_none]
       repeat' apply And.intro
       all_goals (apply DOne_V; simp only [push_cast, Nat.reduceAdd, Nat.reduceSub, Nat.reduceMul, Nat.reduceLT, Nat.reduceLeDiff, Nat.reduceEqDiff, Int.reduceToNat, ↓reduceIte] <;> first | exact rfl | omega | exact ⟨rfl, rfl⟩ | exact trivial | exact ⟨by omega, rfl⟩ | exact ⟨by omega, by omega, rfl⟩ | exact ⟨by omega, rfl, rfl⟩ | exact ⟨by omega, by omega, rfl, rfl⟩ | exact (size_ac b.2 (by omega) _).to ⟨rfl, rfl⟩ | exact (depth_ac b.2 (by omega) _).to ⟨rfl, rfl⟩)
      case' hQ => skip
      simp only [push_cast, Nat.reduceAdd, Nat.reduceSub, Nat.reduceMul, Nat.reduceLT, Nat.reduceLeDiff, Nat.reduceEqDiff, Int.reduceToNat, ↓reduceIte]
    · simp only [push_cast, Nat.reduceAdd, Nat.reduceSub, Nat.reduceMul, Nat.reduceLT, Nat.reduceLeDiff, Nat.reduceEqDiff, Int.reduceToNat, ↓reduceIte, e, Option.isSome_none, Option.getD_none, Term.size_mk, Term.depth_mk]
      simp
  | false =>
    rw [applyP_f] at hb2 ⊢
    have hdp := (Term.mk n false (appL σ xs)).depth_le
    rw [Term.size_mk] at hb2 hdp ⊢
    rw [Term.depth_mk] at hdp ⊢
    refine ACall_V (H.length) 54 [.cell 4 147] Tryz.func115 rfl rfl rfl ?_
    simp only [push_cast, Nat.reduceAdd, Nat.reduceSub, Nat.reduceMul, Nat.reduceLT, Nat.reduceLeDiff, Nat.reduceEqDiff, Int.reduceToNat, ↓reduceIte]
    refine AW_loopW (maskG 56 [0, 3, 2, 21, 0, 0]) (fun (i : Nat) => [(31, .int .i64 i)]) (fun i => H ++ [.cells [.str n, .bool false, .sl .none (encTs xs)], .cells [.int .i64 0, .int .i64 0], .cells [.int .i64 (1 + ((appL σ (xs.take i)).map Term.size).sum : Nat), .int .i64 (((appL σ (xs.take i)).map Term.depth).foldl max 0 : Nat)]]) (fun i => i ≤ xs.length) (fun i => xs.length - i) 0 (Nat.zero_le _) (by simp only [push_cast, Nat.reduceAdd, Nat.reduceSub, Nat.reduceMul, Nat.reduceLT, Nat.reduceLeDiff, Nat.reduceEqDiff, Int.reduceToNat, ↓reduceIte, List.take_zero, appL_nil]; simp) (fun i hi => ?_)
    simp only [push_cast, Nat.reduceAdd, Nat.reduceSub, Nat.reduceMul, Nat.reduceLT, Nat.reduceLeDiff, Nat.reduceEqDiff, Int.reduceToNat, ↓reduceIte]
    refine cI (fun h => ?_) (fun h => ?_)
    · have hil : i < xs.length := by omega
      repeat refine ⟨by omega, ?_⟩
      obtain ⟨hq1, hq2⟩ := sizes_take σ xs i hil
      obtain ⟨hw1, hw2⟩ := sizes_le σ xs (i + 1)
      obtain ⟨hw3, hw4⟩ := sizes_le σ xs i
      refine (ih _ (List.getElem_mem hil) (arg_bulk hb i hil) (by omega) _).to ?_
      simp only [push_cast, Nat.reduceAdd, Nat.reduceSub, Nat.reduceMul, Nat.reduceLT, Nat.reduceLeDiff, Nat.reduceEqDiff, Int.reduceToNat, ↓reduceIte]
      apply AW_drawE [some 38, some 39, some 40, some 41, some 42, some 43, some 44, some 45, some 46, some 47, some 48, none, some 49, none] [([false, false], _), ([true, false], _), ([true, true], _)] [none, none, none, none, none, none, none, none, none, none, none, some 0, none, some 1] 2 [(0, [false, false], [7]), (1, [false, false], [38]), (2, [false, false], [10]), (3, [false, false], [40]), (4, [false, false], [39, 1]), (5, [false, false], [7]), (6, [false, false], [43]), (7, [false, false], [10]), (8, [false, false], [45]), (9, [false, false], [44, 1]), (10, [false, false], [7]), (11, [false, false], [42, 5]), (12, [true, false], [7]), (13, [true, false], [47, 1]), (7, [true, false], [10]), (8, [true, false], [45]), (9, [true, false], [44, 1])] [_, _, _, _, _, _, _, _, _, _, _, _, _, _]
      case' hm => exact dr
      case' hn => rfl
      case' hok => rfl
      case' hlen => rfl
      case' hd => rfl
      case' h0 => rfl
      case' hstep =>
       simp only [DAllG, push_cast, Option.isSome_some, Option.isSome_none]
       repeat' apply And.intro
       all_goals (apply DOne_V; simp only [push_cast, Nat.reduceAdd, Nat.reduceSub, Nat.reduceMul, Nat.reduceLT, Nat.reduceLeDiff, Nat.reduceEqDiff, Int.reduceToNat, ↓reduceIte] <;> first | exact rfl | omega | exact ⟨rfl, rfl⟩ | exact trivial | exact ⟨by omega, rfl⟩ | exact ⟨by omega, by omega, rfl⟩ | exact ⟨by omega, rfl, rfl⟩ | exact ⟨by omega, by omega, rfl, rfl⟩ | skip)
      case' hQ => skip
      simp only [push_cast, Nat.reduceAdd, Nat.reduceSub, Nat.reduceMul, Nat.reduceLT, Nat.reduceLeDiff, Nat.reduceEqDiff, Int.reduceToNat, ↓reduceIte]
      repeat' first | refine ⟨by omega, ?_⟩ | refine cI (fun _ => ?_) (fun _ => ?_)
      exact loopW_n (i + 1) (by omega) (by omega) (by simp only [push_cast, Nat.reduceAdd, Nat.reduceSub, Nat.reduceMul, Nat.reduceLT, Nat.reduceLeDiff, Nat.reduceEqDiff, Int.reduceToNat, ↓reduceIte, hq1, hq2]; simp only [AObj.cells.injEq, List.cons.injEq, AV.int.injEq, and_true, true_and]; omega)
    · obtain ⟨hw3, hw4⟩ := sizes_le σ xs xs.length
      rw [List.take_of_length_le (Nat.le_refl _)] at hw3 hw4
      simp only [push_cast, Nat.reduceAdd, Nat.reduceSub, Nat.reduceMul, Nat.reduceLT, Nat.reduceLeDiff, Nat.reduceEqDiff, Int.reduceToNat, ↓reduceIte, List.take_of_length_le (show xs.length ≤ i by omega)]
      omega
end Ab
set_option maxRecDepth 10000
namespace Ab
open Go Go.Proofs
theorem setCells_heap (b : Nat) {e : TypeId} : ∀ (vs : List Value) (o : Nat) (w : World) (cur : Array Value), w.heap[b]? = some (.cells cur e (0, 0)) → o + vs.length ≤ cur.size →
    ∃ cur', (w.setCells b o vs).heap = w.heap.setIfInBounds b (.cells cur' e (0, 0)) ∧ cur'.size = cur.size ∧ SameOut w (w.setCells b o vs) ∧ ∀ j, cur'[j]? = if o ≤ j ∧ j < o + vs.length then vs[j - o]? else cur[j]?
  | [], o, w, cur, h, _ => by
    refine ⟨cur, ?_, rfl, ⟨rfl, rfl, rfl, by first | exact Nat.le_refl _ | exact Nat.le_add_right _ _⟩, fun j => by rw [if_neg (fun h => by simp at h; omega)]⟩
    apply Array.ext_getElem?
    intro k
    rw [Array.getElem?_setIfInBounds]
    split
    · rename_i hk; subst hk
      split
      · exact h
      · rename_i h1; exact absurd (Array.getElem?_eq_some_iff.1 h).1 h1
    · rfl
  | v :: r, o, w, cur, h, hl => by
    have hlt := (Array.getElem?_eq_some_iff.1 h).1
    have h1 : (w.setCell ⟨b, o, none⟩ v).heap = w.heap.setIfInBounds b (.cells (cur.setIfInBounds o v) e (0, 0)) := by
      apply Array.ext_getElem?
      intro k
      unfold World.setCell
      simp only [Array.getElem?_modify, Array.getElem?_setIfInBounds]
      by_cases hk : b = k
      · subst hk
        rw [if_pos rfl, if_pos rfl, if_pos hlt, h]; rfl
      · rw [if_neg hk, if_neg hk]
    have h2 : (w.setCell ⟨b, o, none⟩ v).heap[b]? = some (.cells (cur.setIfInBounds o v) e (0, 0)) := by rw [h1]; simp [hlt]
    obtain ⟨cur', g1, g2, g3, g4⟩ := setCells_heap b r (o + 1) (w.setCell ⟨b, o, none⟩ v) _ h2 (by simp at hl ⊢; omega)
    refine ⟨cur', ?_, by rw [g2]; simp, ⟨g3.1, g3.2, g3.3, g3.4⟩, fun j => ?_⟩
    · show ((w.setCell ⟨b, o, none⟩ v).setCells b (o + 1) r).heap = _
      rw [g1, h1]
      simp
    · rw [g4 j]
      simp only [List.length_cons] at hl ⊢
      by_cases hj : j = o
      · subst hj
        rw [if_neg (by omega), if_pos (by omega), Array.getElem?_setIfInBounds, if_pos rfl, if_pos (by omega)]
        simp
      · by_cases hj2 : o + 1 ≤ j ∧ j < o + 1 + r.length
        · rw [if_pos hj2, if_pos (by omega)]
          have e1 : j - o = (j - (o + 1)) + 1 := by omega
          rw [e1, List.getElem?_cons_succ]
        · rw [if_neg hj2, if_neg (by omega), Array.getElem?_setIfInBounds, if_neg (by omega)]
theorem insMid_ac (k : Nat) (xs : List AV) (y : AV) (tk : Tok) (i : Nat) (hi : i < xs.length) (hux : Uni 4 xs) (huy : y.cells.length = 4) (hcy : ∀ c, c ∈ y.cells → c.isCell = true) (hlen : xs.length < 1099511627776) (H : List AObj) (hk : H[k]? = some (.grow 107 4 (flat xs))) :
    ACall Tryz.prog 201 [.gr k xs.length, .int .i64 (i : Nat), .sl tk [y]] H (fun r H' => r = .gr k (xs.length + 1) ∧ H' = H.set k (.grow 107 4 ((flat xs).take (i * 4) ++ y.cells ++ (flat xs).drop (i * 4)))) := by
  intro C vs hg hH hsz hv
  match vs, hsz, hv with
  | ⟨[v0, v1, v2]⟩, _, hv =>
    have h0 : VRel C (.gr k xs.length) v0 := hv 0 (by simp) (by simp)
    have h1 : VRel C (.int .i64 (i : Nat)) v1 := hv 1 (by simp) (by simp)
    have h2 : VRel C (.sl tk [y]) v2 := hv 2 (by simp) (by simp)
    have e1 := h1.int_inv
    subst e1
    have hfx := flat_length hux
    have hkC : C.H[k]? = some (.grow 107 4 (flat xs)) := by rw [hH]; exact hk
    obtain ⟨c, cur, rfl, hb, hcm, hnc, hcs⟩ := gr_val h0 hkC hfx.symm
    obtain ⟨cur2, hb2, hfit, hS, hrel⟩ := hg.obj k _ hkC
    rw [hb] at hb2
    injection hb2 with hb2; injection hb2 with hb2 _ _
    subst hb2
    have hfy : flat [y] = y.cells := by simp [flat]
    have hmu := hg.lt k _ hkC (by simp [AObj.kind])
    have hkl : k < C.H.length := (List.getElem?_eq_some_iff.1 hkC).1
    have hcm' : c ≤ 9223372036854775807 := by unfold maxLen at hcm; omega
    cases h2 with
    | sl _ _ ad n c2 f hn hc2 hrow hrel2 htok =>
    subst hn
    have hfne : flat [y] ≠ [] := fun e => by rw [hfy] at e; rw [e] at huy; simp at huy
    obtain ⟨vb, vo, rfl, hr⟩ := hrow hfne
    have hfl : (flat [y]).length = 4 := by rw [hfy]; exact huy
    have hr0 := hr 0 (by omega)
    have hvb : vb ≠ C.μ k := fun e => by rw [e, hS] at hr0; omega
    have hvbl := hg.S_lt hr0.1
    obtain ⟨nw, hnw⟩ : ∃ nw, nw = (List.range 4).map f := ⟨_, rfl⟩
    have hnwl : nw.length = 4 := by rw [hnw]; simp
    have hnwg : ∀ j (hj : j < 4), nw[j]? = some (f j) := fun j hj => by rw [hnw]; simp [hj]
    have hvs : ∀ j v, nw[j]? = some v → C.w.cell? ⟨vb, vo + j, none⟩ = some v := fun j v hj => by
      have hj4 : j < 4 := by have := (List.getElem?_eq_some_iff.1 hj).1; omega
      rw [hnwg j hj4] at hj
      rw [(hr j (by omega)).2]; exact hj
    have h1v : ∀ v ∈ nw, v.oneCell' = true := fun v hv => by
      obtain ⟨j, hj, rfl⟩ := List.getElem_of_mem hv
      have hj4 : j < 4 := by omega
      have h3 := hrel2 j (by omega)
      have h4 : nw[j] = f j := by have := hnwg j hj4; rw [List.getElem?_eq_getElem hj] at this; injection this
      rw [h4]
      exact h3.oneCell (hcy _ (by rw [← hfy]; simp))
    obtain ⟨cs, hcsd⟩ : ∃ cs, cs = cur.toList.take (xs.length * 4) := ⟨_, rfl⟩
    have hxfit : xs.length * 4 ≤ cur.size := by rw [hfx] at hfit; exact hfit
    have hcl : cs.length = xs.length * 4 := by rw [hcsd, List.length_take]; simp; omega
    have hcsg : ∀ j, j < xs.length * 4 → cs[j]? = cur[j]? := fun j hj => by rw [hcsd, List.getElem?_take_of_lt hj]; simp
    have hcc : ∀ j v, cs[j]? = some v → C.w.cell? ⟨C.μ k, j, none⟩ = some v := fun j v hj => by
      have hjl : j < xs.length * 4 := by have := (List.getElem?_eq_some_iff.1 hj).1; omega
      rw [hcsg j hjl] at hj
      simp [World.cell?, hb, hj]
    have h1c : ∀ v ∈ cs, v.oneCell' = true := fun v hv => by
      obtain ⟨j, hj, rfl⟩ := List.getElem_of_mem hv
      have hjl : j < cur.size := by omega
      have h3 := hrel j (by omega) hjl
      have h4 : cs[j] = cur[j] := by
        have := hcsg j (by omega)
        rw [List.getElem?_eq_getElem hj, Array.getElem?_eq_getElem hjl] at this
        injection this
      rw [h4]; exact h3.1.oneCell h3.2
    have hsha : ∃ tA kA, C.w.shape? vb = some (tA, kA) ∧ kA ≠ 0 := by
      have h3 := hr0.2
      unfold World.cell? at h3
      unfold World.shape?
      cases hq : C.w.heap[vb]? with
      | none => rw [hq] at h3; simp at h3
      | some o =>
        rw [hq] at h3
        cases o with
        | cells cc ee ff =>
          simp at h3
          have := (Array.getElem?_eq_some_iff.1 h3).1
          exact ⟨_, _, rfl, by omega⟩
        | _ => simp at h3
    obtain ⟨tA, kA, hsa, hkA⟩ := hsha
    have hnewl : ((flat xs).take (i * 4) ++ y.cells ++ (flat xs).drop (i * 4)).length = (xs.length + 1) * 4 := by
      simp only [List.length_append, List.length_take, List.length_drop, hfx, huy]; omega
    have hnget : ∀ j (hj : j < ((flat xs).take (i * 4) ++ y.cells ++ (flat xs).drop (i * 4)).length), ∃ q, (((flat xs).take (i * 4) ++ y.cells ++ (flat xs).drop (i * 4))[j] = q) ∧
        ((j < i * 4 ∧ (flat xs)[j]? = some q) ∨ (i * 4 ≤ j ∧ j < (i + 1) * 4 ∧ (flat [y])[j - i * 4]? = some q) ∨ ((i + 1) * 4 ≤ j ∧ (flat xs)[j - 4]? = some q)) := fun j hj => by
      refine ⟨_, rfl, ?_⟩
      have hq := List.getElem?_eq_getElem hj
      generalize ((flat xs).take (i * 4) ++ y.cells ++ (flat xs).drop (i * 4))[j] = q at hq ⊢
      rw [hnewl] at hj
      by_cases g1 : j < i * 4
      · left; refine ⟨g1, ?_⟩
        rw [List.append_assoc, List.getElem?_append_left (by rw [List.length_take, hfx]; omega), List.getElem?_take_of_lt g1] at hq
        exact hq
      · right
        rw [List.append_assoc, List.getElem?_append_right (by rw [List.length_take, hfx]; omega)] at hq
        have e3 : ((flat xs).take (i * 4)).length = i * 4 := by rw [List.length_take, hfx]; omega
        rw [e3] at hq
        by_cases g2 : j < (i + 1) * 4
        · left; refine ⟨by omega, g2, ?_⟩
          rw [List.getElem?_append_left (by omega)] at hq
          rw [hfy]; exact hq
        · right; refine ⟨by omega, ?_⟩
          rw [List.getElem?_append_right (by omega), List.getElem?_drop, huy] at hq
          rw [show i * 4 + (j - i * 4 - 4) = j - 4 from by omega] at hq
          exact hq
    have hbig : (xs.length + 1) * 64 ≤ 140737488355328 := by omega
    by_cases hroom : xs.length + 1 ≤ c
    · refine (Tryz.insShift (C.μ k) xs.length c i vb vo c2 cs nw C.w hi hroom hcm' hvb hcl hnwl hcc (fun j hj => ?_) (fun j => by simp [World.frozen?, hb]) hvs h1c h1v tA 107 kA cur.size hsa hkA (by simp [World.shape?, hb]) (by omega)).mono fun e w' ⟨he, hw⟩ => ?_
      · have hjc : j < cur.size := by rw [hcs]; omega
        simp [World.cell?, hb, hjc]
      · have hdl : (cs.drop (i * 4)).length = (xs.length - i) * 4 := by rw [List.length_drop, hcl, Nat.sub_mul]
        obtain ⟨cur1, a1, a2, a3, a4⟩ := setCells_heap (C.μ k) (cs.drop (i * 4)) ((i + 1) * 4) C.w.drew cur hb (by rw [hdl, hcs]; omega)
        have hb1 : (C.w.drew.setCells (C.μ k) ((i + 1) * 4) (cs.drop (i * 4))).heap[C.μ k]? = some (.cells cur1 107 (0, 0)) := by rw [a1, Array.getElem?_setIfInBounds, if_pos rfl]; exact if_pos hmu
        obtain ⟨cur', b1, b2, b3, b4⟩ := setCells_heap (C.μ k) nw (i * 4) _ cur1 hb1 (by rw [hnwl, a2, hcs]; omega)
        have hheap : w'.heap = C.w.heap.setIfInBounds (C.μ k) (.cells cur' 107 (0, 0)) := by
          rw [hw, b1, a1]; simp; rfl
        have hcs2 : cur'.size = cur.size := by rw [b2, a2]
        have hget : ∀ j, j < (xs.length + 1) * 4 → cur'[j]? = if j < i * 4 then cur[j]? else if j < (i + 1) * 4 then some (f (j - i * 4)) else cur[j - 4]? := fun j hj => by
          rw [b4 j, a4 j, hnwl, hdl]
          by_cases g1 : j < i * 4
          · rw [if_neg (by omega), if_neg (by omega), if_pos g1]
          · rw [if_neg g1]
            by_cases g2 : j < (i + 1) * 4
            · rw [if_pos (by omega), if_pos g2, hnwg _ (by omega)]
            · rw [if_neg (by omega), if_neg g2, if_pos (by omega), List.getElem?_drop, hcsg _ (by omega)]
              congr 1; omega
        have hso : SameOut C.w w' := by
          rw [hw]
          exact ⟨b3.1.trans a3.1, b3.2.trans a3.2, b3.3.trans a3.3, by first | exact Nat.le_trans a3.4 b3.4 | (have x1 := a3.4; have x2 := b3.4; simp only [World.drew, World.alloc] at x1 x2 ⊢; first | omega | trace_state)⟩
        obtain ⟨hg', hx'⟩ := step_gr_in hg k (vs' := (flat xs).take (i * 4) ++ y.cells ++ (flat xs).drop (i * 4)) hkC hb hheap hso hcs2 (by rw [hnewl, hfx]; omega) rfl (fun hxx => by
          refine ⟨cur', by rw [hheap]; simp [hmu], by rw [hnewl, hcs2, hcs]; omega, hS, fun j hj hj' => ?_⟩
          obtain ⟨q, hq, hcase⟩ := hnget j hj
          have hgj := hget j (by rw [hnewl] at hj; exact hj)
          rw [Array.getElem?_eq_getElem hj'] at hgj
          rw [hq]
          rcases hcase with ⟨g1, g2⟩ | ⟨g1, g2, g3⟩ | ⟨g1, g2⟩
          · obtain ⟨z1, z2⟩ := List.getElem?_eq_some_iff.1 g2
            rw [if_pos g1, Array.getElem?_eq_getElem (by omega)] at hgj
            injection hgj with hgj
            rw [hgj, ← z2]
            exact ⟨(hrel j z1 (by omega)).1.ext hxx, (hrel j z1 (by omega)).2⟩
          · obtain ⟨z1, z2⟩ := List.getElem?_eq_some_iff.1 g3
            rw [if_neg (by omega), if_pos g2] at hgj
            injection hgj with hgj
            rw [hgj, ← z2]
            exact ⟨(hrel2 _ z1).ext hxx, hcy _ (by rw [← hfy]; simp)⟩
          · obtain ⟨z1, z2⟩ := List.getElem?_eq_some_iff.1 g2
            rw [if_neg (by omega), if_neg (by omega), Array.getElem?_eq_getElem (by omega)] at hgj
            injection hgj with hgj
            rw [hgj, ← z2]
            exact ⟨(hrel (j - 4) z1 (by omega)).1.ext hxx, (hrel (j - 4) z1 (by omega)).2⟩)
        refine ⟨_, .gr k (xs.length + 1), _, he, rfl, hg', hx', ?_, rfl, by rw [← hH]⟩
        exact .gr k _ _ _ ⟨107, 4, (flat xs).take (i * 4) ++ y.cells ++ (flat xs).drop (i * 4), by show (C.H.set k _)[k]? = _; simp [hkl], by rw [hnewl]; exact Nat.le_refl _, by decide, fun _ => ⟨cur', rfl, by show w'.heap[C.μ k]? = _; rw [hheap]; simp [hmu], hcm, hroom, by rw [hcs2, hcs]⟩⟩
    · refine (Tryz.insGrow (C.μ k) xs.length c i vb vo c2 cs nw C.w #[] hi hnc (by omega) hbig hcl hnwl hcc hvs h1c h1v).mono fun e w' ⟨G, z, hG1, hG2, hz4, he, hw⟩ => ?_
      have hdl : (cs.drop (i * 4)).length = (xs.length - i) * 4 := by rw [List.length_drop, hcl, Nat.sub_mul]
      obtain ⟨ROW, hROW⟩ : ∃ ROW, ROW = (cs.take (i * 4)).toArray ++ Builtin.zeroCells z (xs.length + 1 - i) ++ Builtin.zeroCells z (G - (xs.length + 1)) := ⟨_, rfl⟩
      rw [← hROW] at hw
      have htl : (cs.take (i * 4)).length = i * 4 := by rw [List.length_take, hcl]; omega
      have hRs : ROW.size = G * 4 := by
        rw [hROW]; simp only [Array.size_append, List.size_toArray, size_zeroCells, hz4, htl]; omega
      have hR0 : ∀ j, j < i * 4 → ROW[j]? = cur[j]? := fun j hj => by
        rw [hROW, Array.append_assoc, Array.getElem?_append_left (by simp [htl]; omega), List.getElem?_toArray, List.getElem?_take_of_lt hj, hcsg _ (by omega)]
      have hbn : ((C.w.alloc (.cells ROW 107)).drew).heap[C.w.heap.size]? = some (.cells ROW 107 (0, 0)) := heap_alloc_new C.w _
      obtain ⟨cur1, a1, a2, a3, a4⟩ := setCells_heap C.w.heap.size nw (i * 4) _ ROW hbn (by rw [hnwl, hRs]; omega)
      have hb1 : (((C.w.alloc (.cells ROW 107)).drew.setCells C.w.heap.size (i * 4) nw).drew).heap[C.w.heap.size]? = some (.cells cur1 107 (0, 0)) := by
        show ((C.w.alloc (.cells ROW 107)).drew.setCells C.w.heap.size (i * 4) nw).heap[C.w.heap.size]? = _
        rw [a1, Array.getElem?_setIfInBounds, if_pos rfl, if_pos (Array.getElem?_eq_some_iff.1 hbn).1]
      obtain ⟨cur', b1, b2, b3, b4⟩ := setCells_heap C.w.heap.size (cs.drop (i * 4)) ((i + 1) * 4) _ cur1 hb1 (by rw [hdl, a2, hRs]; omega)
      have hheap : w'.heap = C.w.heap.push (.cells cur' 107 (0, 0)) := by
        rw [hw, b1]
        show Array.setIfInBounds ((C.w.alloc (.cells ROW 107)).drew.setCells C.w.heap.size (i * 4) nw).heap _ _ = _
        rw [a1]
        show Array.setIfInBounds (Array.setIfInBounds (C.w.heap.push (.cells ROW 107 (0, 0))) _ _) _ _ = _
        apply Array.ext_getElem?
        intro q
        simp only [Array.getElem?_setIfInBounds, Array.getElem?_push, Array.size_setIfInBounds, Array.size_push]
        by_cases hq : C.w.heap.size = q
        · subst hq; simp
        · have hq' : ¬ q = C.w.heap.size := fun e => hq e.symm
          simp [hq, hq']
      have hcs2 : cur'.size = G * 4 := by rw [b2, a2, hRs]
      have hget : ∀ j, j < (xs.length + 1) * 4 → cur'[j]? = if j < i * 4 then cur[j]? else if j < (i + 1) * 4 then some (f (j - i * 4)) else cur[j - 4]? := fun j hj => by
        rw [b4 j, a4 j, hnwl, hdl]
        by_cases g1 : j < i * 4
        · rw [if_neg (by omega), if_neg (by omega), if_pos g1, hR0 j g1]
        · rw [if_neg g1]
          by_cases g2 : j < (i + 1) * 4
          · rw [if_neg (by omega), if_pos (by omega), if_pos g2, hnwg _ (by omega)]
          · rw [if_pos (by omega), if_neg g2, List.getElem?_drop, hcsg _ (by omega)]
            congr 1; omega
      have hso : SameOut C.w w' := by
        rw [hw]
        exact ⟨b3.1.trans a3.1, b3.2.trans a3.2, b3.3.trans a3.3, by first | exact Nat.le_trans a3.4 b3.4 | (have x1 := a3.4; have x2 := b3.4; simp only [World.drew, World.alloc] at x1 x2 ⊢; first | omega | trace_state)⟩
      obtain ⟨hg', hx'⟩ := step_gr_move hg k (vs' := (flat xs).take (i * 4) ++ y.cells ++ (flat xs).drop (i * 4)) hkC hheap hso (by rw [hnewl, hfx]; omega) rfl (fun hxx => by
        refine ⟨cur', by show w'.heap[if k = k then _ else _]? = _; rw [if_pos rfl, hheap]; simp, by rw [hnewl, hcs2]; omega, by show C.S (if k = k then _ else _) = _; rw [if_pos rfl]; exact hg.fresh _ (Nat.le_refl _), fun j hj hj' => ?_⟩
        obtain ⟨q, hq, hcase⟩ := hnget j hj
        have hgj := hget j (by rw [hnewl] at hj; exact hj)
        rw [Array.getElem?_eq_getElem hj'] at hgj
        rw [hq]
        rcases hcase with ⟨g1, g2⟩ | ⟨g1, g2, g3⟩ | ⟨g1, g2⟩
        · obtain ⟨z1, z2⟩ := List.getElem?_eq_some_iff.1 g2
          rw [if_pos g1, Array.getElem?_eq_getElem (by omega)] at hgj
          injection hgj with hgj
          rw [hgj, ← z2]
          exact ⟨(hrel j z1 (by omega)).1.ext hxx, (hrel j z1 (by omega)).2⟩
        · obtain ⟨z1, z2⟩ := List.getElem?_eq_some_iff.1 g3
          rw [if_neg (by omega), if_pos g2] at hgj
          injection hgj with hgj
          rw [hgj, ← z2]
          exact ⟨(hrel2 _ z1).ext hxx, hcy _ (by rw [← hfy]; simp)⟩
        · obtain ⟨z1, z2⟩ := List.getElem?_eq_some_iff.1 g2
          rw [if_neg (by omega), if_neg (by omega), Array.getElem?_eq_getElem (by omega)] at hgj
          injection hgj with hgj
          rw [hgj, ← z2]
          exact ⟨(hrel (j - 4) z1 (by omega)).1.ext hxx, (hrel (j - 4) z1 (by omega)).2⟩)
      refine ⟨_, .gr k (xs.length + 1), _, he, rfl, hg', hx', ?_, rfl, by rw [← hH]⟩
      refine .gr k _ _ _ ⟨107, 4, (flat xs).take (i * 4) ++ y.cells ++ (flat xs).drop (i * 4), by show (C.H.set k _)[k]? = _; simp [hkl], by rw [hnewl]; exact Nat.le_refl _, by decide, fun _ => ⟨cur', by simp, ?_, hG2, hG1, hcs2⟩⟩
      show w'.heap[if k = k then _ else _]? = _
      rw [if_pos rfl, hheap]; simp
end Ab
set_option maxRecDepth 10000
namespace Ab
open Go Go.Proofs
section
variable {P : Program} {ro : Option Nat} {st : ASt} {dst : Option Tmp} {ty : TypeId} {pos : String} {after : Array Edge} {guard : Option (Nat × Bool)} {K : AV → List AObj → Prop}
theorem AOp_slice_grJ {t e sz : Nat} {x : Operand} {lo hi : Option Operand} (id n l h : Nat) (e' : TypeId) (sz' : Nat) (vs : List AV) (hx : st.opd x = .gr id n) (hh : st.heap[id]? = some (.grow e' sz' vs)) (hn : n * sz' = vs.length) (ht : SliceT P t e) (hs : SzOf P e sz) (hlo : OptInt st lo l 0) (hhi : OptInt st hi h n) (h1 : l ≤ h) (h2 : h ≤ n)
    (k : K .junk st.heap) : AOp P ro ⟨dst, .slice t x lo hi none, ty, pos, after, guard⟩ K st :=
  AOp_pure _ (fun c => by simp) (fun C a hg hH hsr => by
    have hv := hsr.opd x
    rw [hx] at hv
    obtain ⟨c, cur, hxx, _, _, hnc, _⟩ := gr_val hv (by rw [hH]; exact hh) hn
    have ht' : P.underlying t = some (.slice e) := ht
    have hb := bounds_run (P := P) true n c (lo.map a.eval) (hi.map a.eval) l h C.w (hlo.val hsr) (hhi.val hsr) h1 (by omega)
    exact ⟨_, by simp [execOp, hxx, Instr.sliceAt, Instr.slice, run_underlying ht', hb, hs.run]; rfl, .junk _⟩) k
theorem app1_Gr {α : Type} (enc : α → AV) {t e by_ sz : Nat} {s x : Operand} (hu : ∀ x, (enc x).cells.length = sz) (hc : ∀ x c, c ∈ (enc x).cells → c.isCell = true) (zs : List Value) (k : Nat) (xs : List α) (y : α) (tk : Tok) (hs : st.opd s = grS k (encL enc xs)) (hx : st.opd x = .sl tk [enc y]) (hh : st.heap[k]? = some (grO e sz (encL enc xs)))
    (ht : SliceT P t e) (hsz : SzOf P e sz) (hby : BytesOf P e by_) (hz : ZeroOf P e zs) (hz0 : zs.length = sz) (h0 : 0 < sz) (hb : by_ ≤ 100) (hl : xs.length < 1099511627776)
    (k' : K (grS k (encL enc (xs ++ [y]))) (st.heap.set k (grO e sz (encL enc (xs ++ [y]))))) :
    AOp P ro ⟨dst, .call { callee := .builtin .append, args := #[s, x], argTypes := #[t, t] }, ty, pos, after, guard⟩ K st := by
  have e1 : encL enc (xs ++ [y]) = encL enc xs ++ [enc y] := by simp [encL]
  rw [e1] at k'
  refine AOp_append_Gr zs k (encL enc xs) [enc y] tk hs hx hh ht hsz hby hz hz0 h0 (uni_encL hu xs) (by intro x hx; rw [List.mem_singleton] at hx; subst hx; exact hu y) (fun c h => hc y c (by simpa [flat] using h)) ?_ (by rw [encL_length]; simp; omega) k'
  rw [encL_length]
  calc (xs.length + 1) * by_ ≤ 1099511627776 * 100 := Nat.mul_le_mul (by omega) hb
    _ ≤ _ := by decide
end
theorem flB_len (l : List (List UInt8 × Term)) : (flat (encL encBd l)).length = l.length * 4 := by rw [flat_length (uni_encL (enc := encBd) (k := 4) (fun _ => rfl) l), encL_length]
theorem flB_sc (n : Nat) (l : List (List UInt8 × Term)) : ScopedL n (flat (encL encBd l)) = True := by
  refine eq_true ?_
  rw [ScopedL_iff]
  intro v hv
  unfold flat encL at hv
  rw [List.mem_flatMap] at hv
  obtain ⟨a, ha, hv⟩ := hv
  obtain ⟨b, _, rfl⟩ := List.mem_map.1 ha
  simp only [AV.cells, List.mem_cons, List.not_mem_nil, or_false] at hv
  rcases hv with rfl | rfl | rfl | rfl <;> simp [Scoped, scoped_encTs]
theorem flB_app (a b : List (List UInt8 × Term)) : flat (encL encBd (a ++ b)) = flat (encL encBd a) ++ flat (encL encBd b) := by simp [flat, encL]
theorem flB_take (l : List (List UInt8 × Term)) (i : Nat) (h : i ≤ l.length) : (flat (encL encBd l)).take (i * 4) = flat (encL encBd (l.take i)) := by
  conv => lhs; rw [← List.take_append_drop i l, flB_app]
  rw [List.take_left' (by rw [flB_len, List.length_take]; omega)]
theorem flB_drop (l : List (List UInt8 × Term)) (i : Nat) (h : i ≤ l.length) : (flat (encL encBd l)).drop (i * 4) = flat (encL encBd (l.drop i)) := by
  conv => lhs; rw [← List.take_append_drop i l, flB_app]
  rw [List.drop_left' (by rw [flB_len, List.length_take]; omega)]
theorem bd4 (l : List (List UInt8 × Term)) (i : Nat) (h : i < l.length) : ((flat (encL encBd l)).drop (i * 4)).take 4 = [.str l[i].1, .str l[i].2.name, .bool l[i].2.var, .sl .none (encTs l[i].2.args)] := by
  rw [flB_drop l i (by omega), List.drop_eq_getElem_cons h]
  rfl
theorem bd3 (l : List (List UInt8 × Term)) (i : Nat) (h : i < l.length) : ((flat (encL encBd l)).drop (i * 4 + 1)).take 3 = [.str l[i].2.name, .bool l[i].2.var, .sl .none (encTs l[i].2.args)] := by
  rw [← List.drop_drop, flB_drop l i (by omega), List.drop_eq_getElem_cons h]
  rfl
theorem grS_cons (k : Nat) (b : List UInt8 × Term) (l : List (List UInt8 × Term)) : grS k (encL encBd (b :: l)) = .gr k (l.length + 1) := by
  show AV.gr k (encL encBd (b :: l)).length = _
  rw [encL_length]; rfl
theorem grO_cons (e : Nat) (b : List UInt8 × Term) (l : List (List UInt8 × Term)) : grO e 4 (encL encBd (b :: l)) = .grow e 4 (flat (encL encBd (b :: l))) := (rfl)
theorem strip_grS (n k : Nat) (xs : List AV) : strip n (grS k xs) = grS k xs := by cases xs <;> rfl
theorem osc_grB (n e : Nat) (l : List (List UInt8 × Term)) : OScoped n (grO e 4 (encL encBd l)) := of_eq_true (osc_grO _ _ _ _ (of_eq_true (flB_sc n l)))
theorem outok_set {H : List AObj} {k : Nat} {o : AObj} (ho : OScoped H.length o) : OutOk H (H.set k o) H.length := by
  refine ⟨by simp, Nat.le_refl _, fun j hj => ?_⟩
  by_cases h : k = j
  · subst h; exact .inr ⟨o, by simp [hj], ho⟩
  · exact .inl ⟨hj, by simp [h]⟩
theorem ins_fin {H : List AObj} {k : Nat} (hkl : k < H.length) (l : List (List UInt8 × Term)) : OutOk H (H.set k (grO 107 4 (encL encBd l))) H.length ∧ Scoped H.length (strip H.length (grS k (encL encBd l))) ∧ strip H.length (grS k (encL encBd l)) = grS k (encL encBd l) ∧ (H.set k (grO 107 4 (encL encBd l))).take H.length = H.set k (grO 107 4 (encL encBd l)) := by
  refine ⟨outok_set (osc_grB _ _ _), ?_, strip_grS _ _ _, List.take_of_length_le (by simp)⟩
  rw [strip_grS]; exact of_eq_true (sc_grS _ _ _ hkl)
theorem ins_ac (k : Nat) (σ : List (List UInt8 × Term)) (b : List UInt8 × Term) (tk : Tok) (i : Nat) (hi : i ≤ σ.length) (hlen : σ.length < 1099511627775) (H : List AObj) (hk : H[k]? = some (grO 107 4 (encL encBd σ))) :
    ACall Tryz.prog 201 [grS k (encL encBd σ), .int .i64 (i : Nat), .sl tk [encBd b]] H (fun r H' => r = grS k (encL encBd (σ.take i ++ [b] ++ σ.drop i)) ∧ H' = H.set k (grO 107 4 (encL encBd (σ.take i ++ [b] ++ σ.drop i)))) := by
  have hkl := (List.getElem?_eq_some_iff.1 hk).1
  rcases Nat.lt_or_eq_of_le hi with h | h
  · cases σ with
    | nil => simp at h
    | cons a r =>
      have h1 := insMid_ac k (encL encBd (a :: r)) (encBd b) tk i (by rw [encL_length]; exact h) (uni_encL (enc := encBd) (k := 4) (fun _ => rfl) _) rfl (cellBd b) (by rw [encL_length]; omega) H hk
      refine h1.mono ?_
      rintro r' H' ⟨rfl, rfl⟩
      obtain ⟨L, hL⟩ : ∃ L, L = (a :: r).take i ++ [b] ++ (a :: r).drop i := ⟨_, rfl⟩
      have hLl : L.length = (a :: r).length + 1 := by rw [hL]; simp only [List.length_append, List.length_take, List.length_drop, List.length_singleton]; omega
      rw [← hL]
      have hfl : (flat (encL encBd (a :: r))).take (i * 4) ++ (encBd b).cells ++ (flat (encL encBd (a :: r))).drop (i * 4) = flat (encL encBd L) := by
        rw [flB_take _ _ hi, flB_drop _ _ hi, hL, flB_app, flB_app]
        simp [flat, encL]
      rw [hfl]
      cases L with
      | nil => simp at hLl
      | cons c l =>
        refine ⟨?_, rfl⟩
        rw [grS_cons]
        simp only [List.length_cons] at hLl
        congr 1
        rw [encL_length]; simp only [List.length_cons]; omega
  · subst h
    rw [List.take_length, List.drop_length, List.append_nil]
    cases σ with
    | nil =>
      refine ACall_W (H.length) 92 [.tmp 6] Tryz.func201 rfl rfl rfl ?_
      simp only [push_cast, Nat.reduceAdd, Nat.reduceSub, Nat.reduceMul, Nat.reduceLT, Nat.reduceLeDiff, Nat.reduceEqDiff, Int.reduceToNat, ↓reduceIte]
      refine ⟨by omega, fun x hx => absurd hx (by simp), cI (fun h => absurd h (by decide)) (fun _ => ?_)⟩
      refine app1_Gr encBd (sz := 4) (fun _ => rfl) cellBd _ k [] b tk rfl rfl hk sl49 sz107 by107 zr107 rfl (by decide) (by decide) (by decide) ?_
      simp only [push_cast, Nat.reduceAdd, Nat.reduceSub, Nat.reduceMul, Nat.reduceLT, Nat.reduceLeDiff, Nat.reduceEqDiff, Int.reduceToNat, ↓reduceIte]
      exact ins_fin hkl _
    | cons a r =>
      rw [grS_cons]
      refine ACall_W (H.length) 92 [.tmp 6] Tryz.func201 rfl rfl rfl ?_
      simp only [push_cast, Nat.reduceAdd, Nat.reduceSub, Nat.reduceMul, Nat.reduceLT, Nat.reduceLeDiff, Nat.reduceEqDiff, Int.reduceToNat, ↓reduceIte]
      refine AOp_slice_grJ k (r.length + 1) (r.length + 1) (r.length + 1) _ _ _ rfl (hk.trans (congrArg some (grO_cons _ a r))) (flB_len (a :: r)).symm sl49 sz107 (.inr ⟨_, _, rfl, rfl⟩) (.inl ⟨rfl, rfl⟩) (Nat.le_refl _) (Nat.le_refl _) ?_
      simp only [push_cast, Nat.reduceAdd, Nat.reduceSub, Nat.reduceMul, Nat.reduceLT, Nat.reduceLeDiff, Nat.reduceEqDiff, Int.reduceToNat, ↓reduceIte]
      refine cI (fun h => absurd h (by decide)) (fun _ => ?_)
      refine app1_Gr encBd (sz := 4) (fun _ => rfl) cellBd _ k (a :: r) b tk (grS_cons k a r).symm rfl hk sl49 sz107 by107 zr107 rfl (by decide) (by decide) (by omega) ?_
      simp only [push_cast, Nat.reduceAdd, Nat.reduceSub, Nat.reduceMul, Nat.reduceLT, Nat.reduceLeDiff, Nat.reduceEqDiff, Int.reduceToNat, ↓reduceIte]
      exact ins_fin hkl _
theorem searchG_ac (k : Nat) (xs : List (List UInt8 × Term)) (hne : xs ≠ []) (v : List UInt8) (g : Nat) (caps : List AV) (c : List UInt8 × Term → Int) (H : List AObj) (hk : H[k]? = some (grO 107 4 (encL encBd xs))) (hlen : xs.length < 1099511627776) (hg : callOk Tryz.prog g = true) (hsc : ScopedL H.length caps)
    (hmono : ∀ i j (hi : i < xs.length) (hj : j < xs.length), i ≤ j → c xs[j] < 0 → c xs[i] < 0)
    (hf : ∀ i (h : i < xs.length) X, ACall Tryz.prog g (encBd xs[i] :: .str v :: caps) X (fun r H' => r = .int .i64 (c xs[i]) ∧ H' = X)) :
    ACall Tryz.prog 176 [grS k (encL encBd xs), .str v, .fn g caps] H
      (fun r H' => ∃ i : Nat, i ≤ xs.length ∧ (∀ j (hj : j < xs.length), j < i → c xs[j] < 0) ∧ (∀ j (hj : j < xs.length), i ≤ j → ¬ c xs[j] < 0) ∧ r = .tup [.int .i64 i, .bool (decide (∃ h : i < xs.length, c xs[i] = 0))] ∧ H' = H) := by
  have hkl := (List.getElem?_eq_some_iff.1 hk).1
  have hgr : grS k (encL encBd xs) = .gr k xs.length ∧ grO 107 4 (encL encBd xs) = .grow 107 4 (flat (encL encBd xs)) := by
    cases xs with
    | nil => exact absurd rfl hne
    | cons a r => exact ⟨grS_cons k a r, rfl⟩
  rw [hgr.2] at hk
  rw [hgr.1]
  have hfl := flB_len xs
  refine ACall_W (H.length) 46 [.tmp 6, .tmp 7] Tryz.func176 rfl rfl rfl ?_
  simp only [push_cast, Nat.reduceAdd, Nat.reduceSub, Nat.reduceMul, Nat.reduceLT, Nat.reduceLeDiff, Nat.reduceEqDiff, Int.reduceToNat, ↓reduceIte]
  refine AW_loopW (maskG 49 [0, 0, 0, 5, 0, 0]) (fun (q : Nat × Nat) => [(9, .int .i64 q.1), (10, .int .i64 q.2)]) (fun _ => H) (fun q => q.1 ≤ q.2 ∧ q.2 ≤ xs.length ∧ (∀ j (hj : j < xs.length), j < q.1 → c xs[j] < 0) ∧ (∀ j (hj : j < xs.length), q.2 ≤ j → ¬ c xs[j] < 0)) (fun q => q.2 - q.1) (0, xs.length) ⟨by simp, by simp, fun j hj h => by simp at h, fun j hj h => by simp at h; omega⟩ (by simp only [push_cast, Nat.reduceAdd, Nat.reduceSub, Nat.reduceMul, Nat.reduceLT, Nat.reduceLeDiff, Nat.reduceEqDiff, Int.reduceToNat, ↓reduceIte, hsc, Scoped, hkl]) (fun q hq => ?_)
  obtain ⟨i, j⟩ := q
  obtain ⟨hi1, hi2, hi3, hi4⟩ := hq
  simp only at hi1 hi2 hi3 hi4
  simp only [push_cast, Nat.reduceAdd, Nat.reduceSub, Nat.reduceMul, Nat.reduceLT, Nat.reduceLeDiff, Nat.reduceEqDiff, Int.reduceToNat, ↓reduceIte, hg, hk, hfl]
  refine cI (fun h => ?_) (fun h => ?_)
  · have e1 : ((i : Int) + j) / 2 ^ 1 = (((i + j) / 2 : Nat) : Int) := by rw [Int.pow_one]; omega
    have e2 : 1 ≤ IntKind.u64.bits := by decide
    obtain ⟨m, hm⟩ : ∃ m, m = (i + j) / 2 := ⟨_, rfl⟩
    rw [← hm] at e1
    rw [e1]
    have hmx : m < xs.length := by omega
    repeat refine ⟨by omega, ?_⟩
    rw [Int.toNat_natCast, bd4 xs m hmx]
    refine (hf m hmx _).to ?_
    simp only [push_cast, Nat.reduceAdd, Nat.reduceSub, Nat.reduceMul, Nat.reduceLT, Nat.reduceLeDiff, Nat.reduceEqDiff, Int.reduceToNat, ↓reduceIte]
    refine cI (fun hc => ?_) (fun hc => ?_)
    · repeat' first | refine ⟨by omega, ?_⟩ | refine cI (fun _ => ?_) (fun _ => ?_)
      exact loopW_n (m + 1, j) ⟨by simp only; omega, by simp only; omega, fun k hk hkm => hmono k m hk hmx (by simp only at hkm; omega) hc, hi4⟩ (by simp only; omega) (by simp only [push_cast, Nat.reduceAdd, Nat.reduceSub, Nat.reduceMul, Nat.reduceLT, Nat.reduceLeDiff, Nat.reduceEqDiff, Int.reduceToNat, ↓reduceIte, hsc, Scoped, hkl])
    · repeat' first | refine ⟨by omega, ?_⟩ | refine cI (fun _ => ?_) (fun _ => ?_)
      exact loopW_n (i, m) ⟨by simp only; omega, by simp only; omega, hi3, fun k hk hmk hneg => absurd (hmono m k hmx hk hmk hneg) hc⟩ (by simp only; omega) (by simp only [push_cast, Nat.reduceAdd, Nat.reduceSub, Nat.reduceMul, Nat.reduceLT, Nat.reduceLeDiff, Nat.reduceEqDiff, Int.reduceToNat, ↓reduceIte, hsc, Scoped, hkl])
  · have hall : ∀ k (hk : k < xs.length), i ≤ k → ¬ c xs[k] < 0 := fun k hk hik => hi4 k hk (by omega)
    refine cI (fun hl => ?_) (fun hl => ?_)
    · have hil : i < xs.length := by omega
      repeat refine ⟨by omega, ?_⟩
      rw [bd4 xs i hil]
      refine (hf i hil _).to ?_
      simp only [push_cast, Nat.reduceAdd, Nat.reduceSub, Nat.reduceMul, Nat.reduceLT, Nat.reduceLeDiff, Nat.reduceEqDiff, Int.reduceToNat, ↓reduceIte]
      refine ⟨i, by omega, hi3, hall, rfl, ?_⟩
      simp [hil]
    · refine ⟨i, by omega, hi3, hall, rfl, ?_⟩
      have hil : ¬ i < xs.length := by omega
      simp [hil]
theorem imageG_ac (k : Nat) (σ : List (List UInt8 × Term)) (hs : SortedN (σ.map (·.1))) (v : List UInt8) (hlen : σ.length < 1099511627776) (H : List AObj) (hk : H[k]? = some (grO 107 4 (encL encBd σ))) :
    ACall Tryz.prog 150 [grS k (encL encBd σ), .str v] H (fun r H' => r = .tup [encT ((look σ v).getD (.mk [] false [])), .bool (look σ v).isSome] ∧ H' = H) := by
  have hkl := (List.getElem?_eq_some_iff.1 hk).1
  by_cases hne : σ = []
  · subst hne
    exact ACall.forget (args' := [.sl .none (encL encBd []), .str v]) ⟨Forget.tok _ _, Forget.refl _, trivial⟩ (imageT_ac [] hs v hlen H)
  have hgr : grS k (encL encBd σ) = .gr k σ.length ∧ grO 107 4 (encL encBd σ) = .grow 107 4 (flat (encL encBd σ)) := by
    cases σ with
    | nil => exact absurd rfl hne
    | cons a r => exact ⟨grS_cons k a r, rfl⟩
  have hk0 := hk
  rw [hgr.2] at hk
  have hfl := flB_len σ
  rw [hgr.1]
  refine ACall_V (H.length) 20 [.cell 4 25, .tmp 5] Tryz.func150 rfl rfl rfl ?_
  have hk1 : ∀ o, (H ++ [o])[k]? = some (grO 107 4 (encL encBd σ)) := fun o => getD_app _ _ _ hk0
  simp only [push_cast, Nat.reduceAdd, Nat.reduceSub, Nat.reduceMul, Nat.reduceLT, Nat.reduceLeDiff, Nat.reduceEqDiff, Int.reduceToNat, ↓reduceIte]
  rw [← hgr.1]
  refine (searchG_ac k σ hne v 177 [] (fun b => Lib.compareBytes b.1 v) _ (hk1 _) hlen ok177 (by simp [ScopedL]) (fun i j hi hj hij hc => ?_) (fun i h X => imageC_ac _ v _)).mono ?_
  · rcases Nat.lt_or_eq_of_le hij with h | h
    · exact cb_trans _ _ _ (sortedS_get hs i j hi hj h) hc
    · subst h; exact hc
  rintro r H' ⟨i, h1, h2, h3, rfl, rfl⟩
  have hk2 : ∀ o, (H ++ [o])[k]? = some (.grow 107 4 (flat (encL encBd σ))) := fun o => getD_app _ _ _ hk
  by_cases hx : ∃ h : i < σ.length, Lib.compareBytes σ[i].1 v = 0
  · obtain ⟨hil, he⟩ := hx
    have hv := (compareBytes_eq _ _).1 he
    have hl : look σ v = some σ[i].2 := by rw [← hv]; exact look_some hs i hil
    have hd : decide (∃ h : i < σ.length, Lib.compareBytes σ[i].1 v = 0) = true := by rw [decide_eq_true_eq]; exact ⟨hil, he⟩
    simp only [push_cast, Nat.reduceAdd, Nat.reduceSub, Nat.reduceMul, Nat.reduceLT, Nat.reduceLeDiff, Nat.reduceEqDiff, Int.reduceToNat, ↓reduceIte, hd, hgr.1, hk2, hfl, bd3 σ i hil, hl]
    exact ⟨hil, by omega, rfl⟩
  · have hl : look σ v = none := look_none fun b hb e => by
      obtain ⟨j, hj, rfl⟩ := List.getElem_of_mem hb
      have hj0 : Lib.compareBytes σ[j].1 v = 0 := by rw [e]; exact cb_self v
      rcases Nat.lt_trichotomy j i with h | h | h
      · have := h2 j hj h; omega
      · subst h; exact hx ⟨hj, hj0⟩
      · have h4 := sortedS_get hs i j (by omega) hj h
        rw [e] at h4
        exact h3 i (by omega) (Nat.le_refl _) h4
    have hd : decide (∃ h : i < σ.length, Lib.compareBytes σ[i].1 v = 0) = false := by rw [decide_eq_false_iff_not]; exact hx
    simp only [push_cast, Nat.reduceAdd, Nat.reduceSub, Nat.reduceMul, Nat.reduceLT, Nat.reduceLeDiff, Nat.reduceEqDiff, Int.reduceToNat, ↓reduceIte, hd, hl]
    simp
end Ab
namespace Ab
open Go
def subLe (σ τ : List (List UInt8 × Term)) : Prop := ∀ v x, look σ v = some x → look τ v = some x
theorem subLe.refl (σ : List (List UInt8 × Term)) : subLe σ σ := fun _ _ h => h
theorem subLe.trans {a b c : List (List UInt8 × Term)} (h1 : subLe a b) (h2 : subLe b c) : subLe a c := fun v x h => h2 v x (h1 v x h)
def insB (σ : List (List UInt8 × Term)) (v : List UInt8) (t : Term) : List (List UInt8 × Term) := σ.take (insAt (σ.map (·.1)) v) ++ [(v, t)] ++ σ.drop (insAt (σ.map (·.1)) v)
theorem insB_length (σ : List (List UInt8 × Term)) (v : List UInt8) (t : Term) : (insB σ v t).length = σ.length + 1 := by
  unfold insB
  rw [List.length_append, List.length_append, List.length_take, List.length_drop, List.length_singleton]
  omega
theorem mem_insB {σ : List (List UInt8 × Term)} {v : List UInt8} {t : Term} (b : List UInt8 × Term) : b ∈ insB σ v t ↔ b ∈ σ ∨ b = (v, t) := by
  unfold insB
  rw [List.mem_append, List.mem_append, List.mem_singleton]
  have e := List.take_append_drop (insAt (σ.map (·.1)) v) σ
  constructor
  · rintro ((h | h) | h)
    · exact .inl (List.mem_of_mem_take h)
    · exact .inr h
    · exact .inl (List.mem_of_mem_drop h)
  · rintro (h | h)
    · rw [← e, List.mem_append] at h
      rcases h with h | h
      · exact .inl (.inl h)
      · exact .inr h
    · exact .inl (.inr h)
theorem insB_names {σ : List (List UInt8 × Term)} {v : List UInt8} {t : Term} (h : look σ v = none) : (insB σ v t).map (·.1) = insertP (σ.map (·.1)) v := by
  unfold insB insertP
  have hn := look_isNone (σ := σ) (v := v) |>.1 (by rw [h]; rfl)
  split
  · rename_i he
    obtain ⟨b, hb, rfl⟩ := List.mem_map.1 (List.mem_of_getElem? he)
    exact absurd rfl (hn b hb)
  · simp [List.map_take, List.map_drop]
theorem insB_sorted {σ : List (List UInt8 × Term)} {v : List UInt8} {t : Term} (hs : SortedN (σ.map (·.1))) (h : look σ v = none) : SortedN ((insB σ v t).map (·.1)) := by
  rw [insB_names h]; exact insertP_sorted _ _ hs
theorem look_iff {σ : List (List UInt8 × Term)} (hs : SortedN (σ.map (·.1))) (v : List UInt8) (x : Term) : look σ v = some x ↔ (v, x) ∈ σ := ⟨look_some_mem, fun h => look_mem hs h⟩
theorem insB_look {σ : List (List UInt8 × Term)} {v : List UInt8} {t : Term} (hs : SortedN (σ.map (·.1))) (h : look σ v = none) (u : List UInt8) (x : Term) : look (insB σ v t) u = some x ↔ look σ u = some x ∨ (u = v ∧ x = t) := by
  rw [look_iff (insB_sorted hs h), mem_insB, look_iff hs, Prod.mk.injEq]
theorem insB_le {σ : List (List UInt8 × Term)} {v : List UInt8} {t : Term} (hs : SortedN (σ.map (·.1))) (h : look σ v = none) : subLe σ (insB σ v t) := fun u x hx => (insB_look hs h u x).2 (.inl hx)
def leafM (σ : List (List UInt8 × Term)) (n : List UInt8) (y : Term) : List (List UInt8 × Term) × Bool := match look σ n with
  | some x => (σ, decide (x = y))
  | none => (insB σ n y, true)
def clash (n : List UInt8) (k : Nat) (y : Term) : Bool := y.var || decide (n ≠ y.name) || decide (k ≠ y.args.length)
def matchTs : List Term → List Term → List (List UInt8 × Term) → List (List UInt8 × Term) × Bool
  | .mk n v xs :: r, y :: r', σ =>
    if v then (if (leafM σ n y).2 then matchTs r r' (leafM σ n y).1 else ((leafM σ n y).1, false))
    else if clash n xs.length y then (σ, false)
    else if (matchTs xs y.args σ).2 then matchTs r r' (matchTs xs y.args σ).1 else ((matchTs xs y.args σ).1, false)
  | _, _, σ => (σ, true)
def matchP (p t : Term) (σ : List (List UInt8 × Term)) : List (List UInt8 × Term) × Bool :=
  if p.var then leafM σ p.name t else if clash p.name p.args.length t then (σ, false) else matchTs p.args t.args σ
theorem matchTs_cons (p y : Term) (r r' : List Term) (σ : List (List UInt8 × Term)) : matchTs (p :: r) (y :: r') σ = if (matchP p y σ).2 then matchTs r r' (matchP p y σ).1 else ((matchP p y σ).1, false) := by
  cases p with
  | mk n v xs =>
    rw [matchTs]
    unfold matchP
    simp only [Term.name_mk, Term.var_mk, Term.args_mk]
    cases v with
    | true => simp
    | false =>
      by_cases hc : clash n xs.length y = true
      · simp [hc]
      · simp [hc]
theorem matchTs_nil (ys : List Term) (σ : List (List UInt8 × Term)) : matchTs [] ys σ = (σ, true) := by cases ys <;> simp [matchTs]
theorem matchTs_nil2 (xs : List Term) (σ : List (List UInt8 × Term)) : matchTs xs [] σ = (σ, true) := by
  cases xs with
  | nil => simp [matchTs]
  | cons a r => cases a; simp [matchTs]
theorem clash_false {n : List UInt8} {k : Nat} {y : Term} : clash n k y = false ↔ y.var = false ∧ n = y.name ∧ k = y.args.length := by
  unfold clash
  simp [and_assoc]
theorem matchP_v (n : List UInt8) (xs : List Term) (y : Term) (σ : List (List UInt8 × Term)) : matchP (.mk n true xs) y σ = leafM σ n y := by unfold matchP; exact if_pos rfl
theorem matchP_c {n : List UInt8} {xs : List Term} {y : Term} (σ : List (List UInt8 × Term)) (h : clash n xs.length y = true) : matchP (.mk n false xs) y σ = (σ, false) := by
  unfold matchP
  exact (if_neg (by simp [Term.var_mk])).trans (if_pos h)
theorem matchP_g {n : List UInt8} {xs : List Term} {y : Term} (σ : List (List UInt8 × Term)) (h : clash n xs.length y = false) : matchP (.mk n false xs) y σ = matchTs xs y.args σ := by
  unfold matchP
  exact (if_neg (by simp [Term.var_mk])).trans (if_neg (fun e => by rw [show clash (Term.mk n false xs).name (Term.mk n false xs).args.length y = clash n xs.length y from rfl, h] at e; cases e))
structure MatchOk (σ σ' : List (List UInt8 × Term)) (S : Term → Prop) : Prop where
  sorted : SortedN (σ'.map (·.1))
  le : subLe σ σ'
  new : ∀ b, b ∈ σ' → b ∈ σ ∨ S b.2
  len : σ.length ≤ σ'.length
theorem MatchOk.refl {σ : List (List UInt8 × Term)} {S : Term → Prop} (hs : SortedN (σ.map (·.1))) : MatchOk σ σ S := ⟨hs, subLe.refl σ, fun _ h => .inl h, Nat.le_refl _⟩
theorem MatchOk.trans {a b c : List (List UInt8 × Term)} {S : Term → Prop} (h1 : MatchOk a b S) (h2 : MatchOk b c S) : MatchOk a c S :=
  ⟨h2.sorted, h1.le.trans h2.le, fun x hx => by
    rcases h2.new x hx with h | h
    · exact h1.new x h
    · exact .inr h, Nat.le_trans h1.len h2.len⟩
theorem MatchOk.mono {a b : List (List UInt8 × Term)} {S S' : Term → Prop} (h : MatchOk a b S) (hS : ∀ x, S x → S' x) : MatchOk a b S' := ⟨h.sorted, h.le, fun x hx => (h.new x hx).imp id (hS _), h.len⟩
theorem SubT.self : ∀ t : Term, SubT t t := fun t => at_sub [] t t (by cases t; rfl)
theorem leaf_ok {σ : List (List UInt8 × Term)} (hs : SortedN (σ.map (·.1))) (n : List UInt8) (y : Term) : MatchOk σ (leafM σ n y).1 (fun x => x = y) ∧ (leafM σ n y).1.length ≤ σ.length + 1 := by
  unfold leafM
  split
  · exact ⟨MatchOk.refl hs, by simp⟩
  · rename_i h
    exact ⟨⟨insB_sorted hs h, insB_le hs h, fun b hb => by
      rcases (mem_insB b).1 hb with h | h
      · exact .inl h
      · exact .inr (by rw [h]), by simp [insB_length]⟩, by simp [insB_length]⟩
theorem SubT.arg_of {y x a : Term} (ha : a ∈ y.args) (h : SubT a x) : SubT y x := by
  cases y with
  | mk n v xs => exact .arg ha h
theorem matchTs_ok : ∀ (xs ys : List Term) (σ : List (List UInt8 × Term)), SortedN (σ.map (·.1)) →
    MatchOk σ (matchTs xs ys σ).1 (fun x => ∃ y, y ∈ ys ∧ SubT y x) ∧ (matchTs xs ys σ).1.length ≤ σ.length + (xs.map Term.size).sum
  | [], ys, σ, hs => by rw [matchTs_nil]; exact ⟨MatchOk.refl hs, by simp⟩
  | .mk n u xs :: r, [], σ, hs => by rw [matchTs_nil2]; exact ⟨MatchOk.refl hs, by simp⟩
  | .mk n u xs :: r, y :: r', σ, hs => by
    have one : MatchOk σ (matchP (.mk n u xs) y σ).1 (fun x => SubT y x) ∧ (matchP (.mk n u xs) y σ).1.length ≤ σ.length + (Term.mk n u xs).size := by
      cases u with
      | true =>
        obtain ⟨h1, h2⟩ := leaf_ok hs n y
        rw [matchP_v]
        exact ⟨h1.mono fun x hx => by rw [hx]; exact SubT.self y, by rw [Term.size_mk]; omega⟩
      | false =>
        cases hc : clash n xs.length y with
        | true => rw [matchP_c σ hc]; exact ⟨MatchOk.refl hs, by simp⟩
        | false =>
          rw [matchP_g σ hc]
          obtain ⟨h1, h2⟩ := matchTs_ok xs y.args σ hs
          exact ⟨h1.mono fun x ⟨a, ha, hx⟩ => SubT.arg_of ha hx, by rw [Term.size_mk]; omega⟩
    obtain ⟨h1, h2⟩ := one
    have h1' : MatchOk σ (matchP (.mk n u xs) y σ).1 (fun x => ∃ z, z ∈ y :: r' ∧ SubT z x) := h1.mono fun x hx => ⟨y, by simp, hx⟩
    rw [matchTs_cons]
    cases (matchP (.mk n u xs) y σ).2 with
    | false => simp only [Bool.false_eq_true, if_false, List.map_cons, List.sum_cons]; exact ⟨h1', by omega⟩
    | true =>
      obtain ⟨g1, g2⟩ := matchTs_ok r r' (matchP (.mk n u xs) y σ).1 h1.sorted
      simp only [if_true, List.map_cons, List.sum_cons]
      exact ⟨h1'.trans (g1.mono fun x ⟨z, hz, hx⟩ => ⟨z, by simp [hz], hx⟩), by omega⟩
theorem matchP_ok (p t : Term) (σ : List (List UInt8 × Term)) (hs : SortedN (σ.map (·.1))) : MatchOk σ (matchP p t σ).1 (fun x => SubT t x) ∧ (matchP p t σ).1.length ≤ σ.length + p.size := by
  obtain ⟨h1, h2⟩ := matchTs_ok [p] [t] σ hs
  have e : (matchTs [p] [t] σ).1 = (matchP p t σ).1 := by
    rw [matchTs_cons, matchTs_nil]
    cases h : (matchP p t σ).2 <;> simp
  rw [e] at h1 h2
  exact ⟨h1.mono fun x ⟨z, hz, hx⟩ => by rw [List.mem_singleton] at hz; rw [← hz]; exact hx, by simpa using h2⟩
end Ab
set_option maxRecDepth 10000
namespace Ab
open Go Go.Proofs
theorem ins_at {σ : List (List UInt8 × Term)} {v : List UInt8} {i : Nat} (hi : i ≤ σ.length) (h1 : ∀ j (hj : j < σ.length), j < i → Lib.compareBytes σ[j].1 v < 0) (h2 : ∀ j (hj : j < σ.length), i ≤ j → ¬ Lib.compareBytes σ[j].1 v < 0) : insAt (σ.map (·.1)) v = i := by
  unfold insAt
  induction σ generalizing i with
  | nil => simp at hi ⊢; omega
  | cons a r ih =>
    cases i with
    | zero =>
      have := h2 0 (by simp) (by omega)
      simp only [List.getElem_cons_zero] at this
      simp [List.takeWhile_cons, this]
    | succ i =>
      have h0 := h1 0 (by simp) (by omega)
      simp only [List.getElem_cons_zero] at h0
      rw [List.map_cons, List.takeWhile_cons, if_pos (by simpa using h0), List.length_cons]
      rw [ih (i := i) (by simpa using hi) (fun j hj hji => by have := h1 (j + 1) (by simp; omega) (by omega); simpa using this) (fun j hj hji => by have := h2 (j + 1) (by simp; omega) (by omega); simpa using this)]
theorem searchX_ac (k : Nat) (xs : List (List UInt8 × Term)) (v : List UInt8) (g : Nat) (caps : List AV) (c : List UInt8 × Term → Int) (H : List AObj) (hk : H[k]? = some (grO 107 4 (encL encBd xs))) (hlen : xs.length < 1099511627776) (hg : callOk Tryz.prog g = true) (hsc : ScopedL H.length caps)
    (hmono : ∀ i j (hi : i < xs.length) (hj : j < xs.length), i ≤ j → c xs[j] < 0 → c xs[i] < 0)
    (hf : ∀ i (h : i < xs.length) X, ACall Tryz.prog g (encBd xs[i] :: .str v :: caps) X (fun r H' => r = .int .i64 (c xs[i]) ∧ H' = X)) :
    ACall Tryz.prog 176 [grS k (encL encBd xs), .str v, .fn g caps] H
      (fun r H' => ∃ i : Nat, i ≤ xs.length ∧ (∀ j (hj : j < xs.length), j < i → c xs[j] < 0) ∧ (∀ j (hj : j < xs.length), i ≤ j → ¬ c xs[j] < 0) ∧ r = .tup [.int .i64 i, .bool (decide (∃ h : i < xs.length, c xs[i] = 0))] ∧ H' = H) := by
  by_cases hne : xs = []
  · subst hne
    exact ACall.forget (args' := [.sl .none (encL encBd []), .str v, .fn g caps]) ⟨Forget.tok _ _, Forget.refl _, Forget.refl _, trivial⟩ (searchB_ac [] v g caps c H hlen hg hsc hmono hf)
  · exact searchG_ac k xs hne v g caps c H hk hlen hg hsc hmono hf
theorem bindC_ac (x : List UInt8 × Term) (v : List UInt8) (H : List AObj) : ACall Tryz.prog 200 [encBd x, .str v] H (fun r H' => r = .int .i64 (Lib.compareBytes x.1 v) ∧ H' = H) := by
  refine ACall_V (H.length) 7 [.tmp 4] Tryz.func200 rfl rfl rfl ?_
  simp only [push_cast, Nat.reduceAdd, Nat.reduceSub, Nat.reduceMul, Nat.reduceLT, Nat.reduceLeDiff, Nat.reduceEqDiff, Int.reduceToNat, ↓reduceIte]
  refine (compareStr_ac x.1 v _).to ?_
  simp only [push_cast, Nat.reduceAdd, Nat.reduceSub, Nat.reduceMul, Nat.reduceLT, Nat.reduceLeDiff, Nat.reduceEqDiff, Int.reduceToNat, ↓reduceIte]
theorem setA {H L : List AObj} {k : Nat} (o : AObj) (hk : k < H.length) : (H ++ L).set k o = H.set k o ++ L := List.set_append_left _ _ hk
theorem ins_finA {H L : List AObj} {k : Nat} (hkl : k < H.length) (l : List (List UInt8 × Term)) : OutOk H (H.set k (grO 107 4 (encL encBd l)) ++ L) H.length ∧ Scoped H.length (strip H.length (grS k (encL encBd l))) ∧ strip H.length (grS k (encL encBd l)) = grS k (encL encBd l) ∧ (H.set k (grO 107 4 (encL encBd l)) ++ L).take H.length = H.set k (grO 107 4 (encL encBd l)) := by
  obtain ⟨h1, h2, h3, h4⟩ := ins_fin hkl l
  refine ⟨?_, h2, h3, List.take_left' (by simp)⟩
  obtain ⟨a, b, c⟩ := h1
  refine ⟨by simp, b, fun j hj => ?_⟩
  have := c j hj
  rwa [List.getElem?_append_left (by simpa using hj)]
theorem bind_ac (k : Nat) (σ : List (List UInt8 × Term)) (hs : SortedN (σ.map (·.1))) (v : List UInt8) (t : Term) (hlen : σ.length < 1099511627775) (H : List AObj) (hk : H[k]? = some (grO 107 4 (encL encBd σ))) :
    ACall Tryz.prog 189 [grS k (encL encBd σ), .str v, encT t] H (fun r H' => r = grS k (encL encBd (insB σ v t)) ∧ H' = H.set k (grO 107 4 (encL encBd (insB σ v t)))) := by
  have hkl := (List.getElem?_eq_some_iff.1 hk).1
  have hk1 : ∀ L : List AObj, (H ++ L)[k]? = some (grO 107 4 (encL encBd σ)) := fun L => getD_app _ _ _ hk
  refine ACall_W (H.length) 19 [.tmp 6] Tryz.func189 rfl rfl rfl ?_
  simp only [push_cast, Nat.reduceAdd, Nat.reduceSub, Nat.reduceMul, Nat.reduceLT, Nat.reduceLeDiff, Nat.reduceEqDiff, Int.reduceToNat, ↓reduceIte]
  refine (searchX_ac k σ v 200 [] (fun b => Lib.compareBytes b.1 v) _ (hk1 _) (by omega) ok200 (by simp [ScopedL]) (fun i j hi hj hij hc => ?_) (fun i h X => bindC_ac _ v _)).mono ?_
  · rcases Nat.lt_or_eq_of_le hij with h | h
    · exact cb_trans _ _ _ (sortedS_get hs i j hi hj h) hc
    · subst h; exact hc
  rintro r H' ⟨i, h1, h2, h3, rfl, rfl⟩
  have hi := ins_at h1 h2 h3
  simp only [push_cast, Nat.reduceAdd, Nat.reduceSub, Nat.reduceMul, Nat.reduceLT, Nat.reduceLeDiff, Nat.reduceEqDiff, Int.reduceToNat, ↓reduceIte]
  refine (ins_ac k σ (v, t) _ i h1 hlen _ (hk1 _)).mono ?_
  rintro r H' ⟨rfl, rfl⟩
  have e : insB σ v t = σ.take i ++ [(v, t)] ++ σ.drop i := by unfold insB; rw [hi]
  rw [setA _ hkl, ← e]
  simp only [push_cast, Nat.reduceAdd, Nat.reduceSub, Nat.reduceMul, Nat.reduceLT, Nat.reduceLeDiff, Nat.reduceEqDiff, Int.reduceToNat, ↓reduceIte]
  exact ins_finA hkl _
def mH (G : List AObj) (m k : Nat) (σ : List (List UInt8 × Term)) : List AObj := (G.set m (.cells [grS k (encL encBd σ)])).set k (grO 107 4 (encL encBd σ))
theorem mH_len (G : List AObj) (m k : Nat) (σ : List (List UInt8 × Term)) : (mH G m k σ).length = G.length := by simp [mH]
theorem mH_app {G : List AObj} (L : List AObj) {m k : Nat} (hm : m < G.length) (hk : k < G.length) (σ : List (List UInt8 × Term)) : mH (G ++ L) m k σ = mH G m k σ ++ L := by
  unfold mH
  rw [setA _ hm, setA _ (by simpa using hk)]
theorem mH_k {G : List AObj} {m k : Nat} (hk : k < G.length) (σ : List (List UInt8 × Term)) (L : List AObj) : (mH G m k σ ++ L)[k]? = some (grO 107 4 (encL encBd σ)) := by
  refine getD_app _ _ _ ?_
  unfold mH
  simp [hk]
theorem mH_m {G : List AObj} {m k : Nat} (hm : m < G.length) (hne : k ≠ m) (σ : List (List UInt8 × Term)) (L : List AObj) : (mH G m k σ ++ L)[m]? = some (.cells [grS k (encL encBd σ)]) := by
  refine getD_app _ _ _ ?_
  unfold mH
  simp [hm, hne]
theorem mH_mk {G : List AObj} {m k : Nat} (hm : m < G.length) (hne : k ≠ m) (σ : List (List UInt8 × Term)) (L : List AObj) (o : AObj) : ((mH G m k σ ++ L).set k o)[m]? = some (.cells [grS k (encL encBd σ)]) := by
  rw [List.getElem?_set_ne hne]; exact mH_m hm hne σ L
theorem mH_st {G : List AObj} {m k : Nat} (hm : m < G.length) (hk : k < G.length) (hne : k ≠ m) (σ τ : List (List UInt8 × Term)) (L : List AObj) : ((mH G m k σ ++ L).set k (grO 107 4 (encL encBd τ))).set m (.cells [grS k (encL encBd τ)]) = mH G m k τ ++ L := by
  have e : (mH G m k σ ++ L).set k (grO 107 4 (encL encBd τ)) = (mH G m k σ).set k (grO 107 4 (encL encBd τ)) ++ L := setA _ (by rw [mH_len]; exact hk)
  rw [e, setA _ (by rw [List.length_set, mH_len]; exact hm)]
  congr 1
  unfold mH
  rw [List.set_set, List.set_comm _ _ hne, List.set_set]
theorem mH_g0 (G : List AObj) (m k : Nat) (σ : List (List UInt8 × Term)) (x : AObj) (L : List AObj) : (mH G m k σ ++ x :: L)[G.length]? = some x := by
  have := aget0 (mH G m k σ) L x
  rwa [mH_len] at this
theorem mH_gN (G : List AObj) (m k : Nat) (σ : List (List UInt8 × Term)) (L : List AObj) (i : Nat) : (mH G m k σ ++ L)[G.length + i]? = L[i]? := by
  have := agetN (mH G m k σ) L i
  rwa [mH_len] at this
theorem mH_sN (G : List AObj) (m k : Nat) (σ : List (List UInt8 × Term)) (L : List AObj) (i : Nat) (o : AObj) : (mH G m k σ ++ L).set (G.length + i) o = mH G m k σ ++ L.set i o := by
  rw [List.set_append_right _ _ (by rw [mH_len]; omega), mH_len, Nat.add_sub_cancel_left]
theorem mH_tk (G : List AObj) (m k : Nat) (σ : List (List UInt8 × Term)) (L : List AObj) (i : Nat) : (mH G m k σ ++ L).take (G.length + i) = mH G m k σ ++ L.take i := by
  have := takeAN' (mH G m k σ) L i
  rwa [mH_len] at this
theorem mH_t0 (G : List AObj) (m k : Nat) (σ : List (List UInt8 × Term)) (L : List AObj) : (mH G m k σ ++ L).take G.length = mH G m k σ := by
  have := takeA0' (mH G m k σ) L
  rwa [mH_len] at this
theorem mH_ok {G : List AObj} {m k : Nat} (hm : m < G.length) (hk : k < G.length) (σ τ : List (List UInt8 × Term)) (L : List AObj) (j : Nat) (h : scT (G.length + j) j L) : OutOk (mH G m k σ) (mH G m k τ ++ L) (G.length + j) = True := by
  obtain ⟨h1, h2⟩ := scT_spec h
  refine eq_true ⟨by rw [List.length_append, mH_len]; omega, by rw [mH_len]; omega, fun q hq => ?_⟩
  rcases Nat.lt_or_ge q G.length with hg | hg
  · rw [List.getElem?_append_left (by rw [mH_len]; exact hg)]
    by_cases e1 : q = k
    · subst e1
      exact .inr ⟨grO 107 4 (encL encBd τ), by unfold mH; simp [hg], osc_grB _ _ _⟩
    · by_cases e2 : q = m
      · subst e2
        refine .inr ⟨.cells [grS k (encL encBd τ)], by unfold mH; rw [List.getElem?_set_ne (fun h => e1 h.symm)]; simp [hg], ?_⟩
        have h3 : Scoped (G.length + j) (grS k (encL encBd τ)) := of_eq_true (sc_grS (G.length + j) k (encL encBd τ) (by omega))
        show ScopedL _ [_]
        exact ⟨h3, trivial⟩
      · refine .inl ⟨by rw [mH_len]; exact hg, ?_⟩
        unfold mH
        rw [List.getElem?_set_ne (fun h => e1 h.symm), List.getElem?_set_ne (fun h => e2 h.symm), List.getElem?_set_ne (fun h => e1 h.symm), List.getElem?_set_ne (fun h => e2 h.symm)]
  · rw [List.getElem?_append_right (by rw [mH_len]; exact hg)]
    simp only [mH_len]
    have hq2 : q - G.length < L.length := by omega
    refine .inr ⟨L[q - G.length], List.getElem?_eq_getElem hq2, h2 _ ?_⟩
    rw [List.mem_iff_getElem]
    exact ⟨q - G.length, by rw [List.length_take]; omega, by simp⟩
theorem mH_ok0 {G : List AObj} {m k : Nat} (hm : m < G.length) (hk : k < G.length) (σ τ : List (List UInt8 × Term)) (L : List AObj) : OutOk (mH G m k σ) (mH G m k τ ++ L) G.length = True := mH_ok hm hk σ τ L 0 (of_eq_true (scT_0 _ _))
theorem callG {f : Nat} {args : List AV} {G : List AObj} {m k : Nat} (hm : m < G.length) (hk : k < G.length) {σ τ : List (List UInt8 × Term)} {L : List AObj} {v : AV} {K : AV → List AObj → Prop}
    (h : ACall Tryz.prog f args (mH (G ++ L) m k σ) (fun r H' => r = v ∧ H' = mH (G ++ L) m k τ)) (hK : K v (mH G m k τ ++ L)) : ACall Tryz.prog f args (mH G m k σ ++ L) K := by
  rw [mH_app L hm hk] at h
  refine h.mono ?_
  rintro r H' ⟨rfl, rfl⟩
  rw [mH_app L hm hk]; exact hK
attribute [push_cast] mH_len mH_g0 mH_gN mH_sN mH_tk mH_t0
theorem SubT.bulk {s t : Term} (h : SubT s t) : t.bulk ≤ s.bulk := by
  induction h with
  | refl => exact Nat.le_refl _
  | arg ha _ ih => exact Nat.le_trans ih (Nat.le_of_lt (Term.arg_le ha))
theorem matchTs_split : ∀ (a a' b b' : List Term) (σ : List (List UInt8 × Term)), a.length = a'.length → matchTs (a ++ b) (a' ++ b') σ = if (matchTs a a' σ).2 then matchTs b b' (matchTs a a' σ).1 else ((matchTs a a' σ).1, false)
  | [], [], b, b', σ, _ => by rw [matchTs_nil]; simp
  | [], _ :: _, _, _, _, h => by simp at h
  | _ :: _, [], _, _, _, h => by simp at h
  | x :: r, y :: r', b, b', σ, h => by
    rw [List.cons_append, List.cons_append, matchTs_cons, matchTs_cons]
    cases hq : (matchP x y σ).2 with
    | false => simp
    | true =>
      simp only [if_true]
      exact matchTs_split r r' b b' _ (by simpa using h)
theorem matchTs_one (x y : Term) (σ : List (List UInt8 × Term)) : matchTs [x] [y] σ = matchP x y σ := by
  rw [matchTs_cons, matchTs_nil]
  cases h : (matchP x y σ).2 with
  | true => simp only [if_true]; rw [← h]
  | false => simp only [Bool.false_eq_true, if_false]; rw [← h]
theorem matchTs_take {xs ys : List Term} {σ : List (List UInt8 × Term)} (i : Nat) (h1 : i < xs.length) (h2 : i < ys.length) (h : (matchTs (xs.take i) (ys.take i) σ).2 = true) : matchTs (xs.take (i + 1)) (ys.take (i + 1)) σ = matchP xs[i] ys[i] (matchTs (xs.take i) (ys.take i) σ).1 := by
  rw [List.take_succ_eq_append_getElem h1, List.take_succ_eq_append_getElem h2, matchTs_split _ _ _ _ _ (by rw [List.length_take, List.length_take]; omega), h]
  simp only [if_true]
  exact matchTs_one _ _ _
theorem matchTs_bad {xs ys : List Term} {σ : List (List UInt8 × Term)} (i : Nat) (h1 : i < xs.length) (h2 : i < ys.length) (h : (matchTs (xs.take i) (ys.take i) σ).2 = true) (h3 : (matchP xs[i] ys[i] (matchTs (xs.take i) (ys.take i) σ).1).2 = false) : matchTs xs ys σ = matchP xs[i] ys[i] (matchTs (xs.take i) (ys.take i) σ).1 := by
  have e := matchTs_take i h1 h2 h
  have hs := matchTs_split (xs.take (i + 1)) (ys.take (i + 1)) (xs.drop (i + 1)) (ys.drop (i + 1)) σ (by rw [List.length_take, List.length_take]; omega)
  rw [List.take_append_drop, List.take_append_drop, e, h3] at hs
  rw [hs]
  simp only [Bool.false_eq_true, if_false]
  rw [← h3]
end Ab
set_option maxRecDepth 10000
namespace Ab
open Go Go.Proofs
theorem match_ac (p : Term) : ∀ (t : Term) (σ : List (List UInt8 × Term)), SortedN (σ.map (·.1)) → p.bulk ≤ 1099511627775 → t.bulk ≤ 1099511627775 → (∀ b, b ∈ σ → b.2.bulk ≤ 1099511627775) → σ.length + p.size < 1099511627775 →
    ∀ (G : List AObj) (m k : Nat), m < G.length → k < G.length → k ≠ m → ACall Tryz.prog 178 [.ptr m 0, encT p, encT t] (mH G m k σ) (fun r H' => r = .bool (matchP p t σ).2 ∧ H' = mH G m k (matchP p t σ).1) := by
  induction p using Term.ind with | _ n u xs ih
  intro t σ hs hb hb2 hb3 hl G m k hm hk hne
  obtain ⟨n2, u2, ys⟩ := t
  have hlx := Term.len_le (n := n) (v := u) (xs := xs)
  have hly := Term.len_le (n := n2) (v := u2) (xs := ys)
  have hz := Term.size_mk n u xs
  have hkm := fun L => mH_k (m := m) hk σ L
  have hmm := fun L => mH_m hm hne σ L
  have hok := fun τ L j => mH_ok hm hk σ τ L j
  have hok0 := fun τ L => mH_ok0 hm hk σ τ L
  refine ACall_W (G.length) 72 [.tmp 6] Tryz.func178 rfl rfl rfl ?_
  cases u with
  | true =>
    rw [matchP_v]
    simp only [push_cast, Nat.reduceAdd, Nat.reduceSub, Nat.reduceMul, Nat.reduceLT, Nat.reduceLeDiff, Nat.reduceEqDiff, Int.reduceToNat, ↓reduceIte]
    cases hlk : look σ n with
    | some x =>
      have hx := hb3 (n, x) (look_some_mem hlk)
      have e : leafM σ n (.mk n2 u2 ys) = (σ, decide (x = .mk n2 u2 ys)) := by unfold leafM; rw [hlk]
      apply AW_drawE [some 13, some 14, some 15, some 16, some 17, some 18, some 19, some 12, some 20, some 21, some 7, none, some 8] [([false, false], _), ([true, false], _), ([true, true], _)] [none, none, none, none, none, none, none, none, none, none, some 0, some 1, none] 2 [(0, [false, false], [0]), (1, [false, false], [13]), (2, [false, false], [14]), (3, [false, false], [15]), (4, [false, false], [4]), (5, [false, false], [17]), (6, [false, false], [16, 1]), (7, [false, false], [19]), (8, [false, false], [12]), (9, [false, false], [12]), (10, [false, false], []), (11, [true, false], [7, 12]), (12, [true, true], [21]), (0, [true, false], [0]), (1, [true, false], [13]), (2, [true, false], [14]), (3, [true, false], [15]), (4, [true, false], [4]), (5, [true, false], [17]), (6, [true, false], [16, 1]), (7, [true, false], [19]), (8, [true, false], [12]), (9, [true, false], [12]), (9, [true, true], [12])] [_, _, _, _, _, _, _, _, _, _, _, _, _]
      case' hm => exact dr
      case' hn => rfl
      case' hok => rfl
      case' hlen => rfl
      case' hd => rfl
      case' h0 => rfl
      case' hstep =>
       simp only [DAllG, push_cast, Option.isSome_some, Option.isSome_none]
       repeat' apply And.intro
       all_goals (apply DOne_V; simp only [push_cast, Nat.reduceAdd, Nat.reduceSub, Nat.reduceMul, Nat.reduceLT, Nat.reduceLeDiff, Nat.reduceEqDiff, Int.reduceToNat, ↓reduceIte, hkm, hmm] <;> first | exact rfl | omega | exact ⟨rfl, rfl⟩ | exact trivial | exact ⟨by omega, rfl⟩ | exact ⟨by omega, by omega, rfl⟩ | exact ⟨by omega, rfl, rfl⟩ | exact ⟨by omega, by omega, rfl, rfl⟩ | exact (imageG_ac k σ hs n (by omega) _ (hkm _)).to ⟨rfl, rfl⟩)
      case' hQ => skip
      simp only [push_cast, Nat.reduceAdd, Nat.reduceSub, Nat.reduceMul, Nat.reduceLT, Nat.reduceLeDiff, Nat.reduceEqDiff, Int.reduceToNat, ↓reduceIte, hlk, Option.isSome_some, Option.getD_some]
      refine (equal_ac x (.mk n2 u2 ys) hx hb2 _).to ?_
      simp only [push_cast, Nat.reduceAdd, Nat.reduceSub, Nat.reduceMul, Nat.reduceLT, Nat.reduceLeDiff, Nat.reduceEqDiff, Int.reduceToNat, ↓reduceIte, e, hok0]
    | none =>
      have e : leafM σ n (.mk n2 u2 ys) = (insB σ n (.mk n2 u2 ys), true) := by unfold leafM; rw [hlk]
      have hst := fun L => mH_st hm hk hne σ (insB σ n (.mk n2 u2 ys)) L
      have hmk := fun L o => mH_mk hm hne σ L o
      apply AW_drawE [some 13, some 14, some 15, some 16, some 17, some 18, some 19, some 12, some 20, some 21, some 7, none, some 8] [([false, false], _), ([true, false], _), ([true, true], _)] [none, none, none, none, none, none, none, none, none, none, some 0, some 1, none] 2 [(0, [false, false], [0]), (1, [false, false], [13]), (2, [false, false], [14]), (3, [false, false], [15]), (4, [false, false], [4]), (5, [false, false], [17]), (6, [false, false], [16, 1]), (7, [false, false], [19]), (8, [false, false], [12]), (9, [false, false], [12]), (10, [false, false], []), (11, [true, false], [7, 12]), (12, [true, true], [21]), (0, [true, false], [0]), (1, [true, false], [13]), (2, [true, false], [14]), (3, [true, false], [15]), (4, [true, false], [4]), (5, [true, false], [17]), (6, [true, false], [16, 1]), (7, [true, false], [19]), (8, [true, false], [12]), (9, [true, false], [12]), (9, [true, true], [12])] [_, _, _, _, _, _, _, _, _, _, _, _, _]
      case' hm => exact dr
      case' hn => rfl
      case' hok => rfl
      case' hlen => rfl
      case' hd => rfl
      case' h0 => rfl
      case' hstep =>
       simp only [DAllG, push_cast, Option.isSome_some, Option.isSome_none]
       repeat' apply And.intro
       all_goals (apply DOne_V; simp only [push_cast, Nat.reduceAdd, Nat.reduceSub, Nat.reduceMul, Nat.reduceLT, Nat.reduceLeDiff, Nat.reduceEqDiff, Int.reduceToNat, ↓reduceIte, hkm, hmm] <;> first | exact rfl | omega | exact ⟨rfl, rfl⟩ | exact trivial | exact ⟨by omega, rfl⟩ | exact ⟨by omega, by omega, rfl⟩ | exact ⟨by omega, rfl, rfl⟩ | exact ⟨by omega, by omega, rfl, rfl⟩ | exact (imageG_ac k σ hs n (by omega) _ (hkm _)).to ⟨rfl, rfl⟩)
      case' hQ => skip
      simp only [push_cast, Nat.reduceAdd, Nat.reduceSub, Nat.reduceMul, Nat.reduceLT, Nat.reduceLeDiff, Nat.reduceEqDiff, Int.reduceToNat, ↓reduceIte, hlk, Option.isSome_none, Option.getD_none]
      apply AW_drawE [some 26, some 27, some 28, some 29, some 30, some 31, some 32, some 33, some 34, some 35, some 36, none] [([false, false], _), ([true, false], _), ([true, true], _)] [none, none, none, none, none, none, none, none, some 0, none, none, some 1] 2 [(0, [false, false], [0]), (1, [false, false], [0]), (2, [false, false], [27]), (3, [false, false], [28]), (4, [false, false], [29]), (5, [false, false], [4]), (6, [false, false], [31]), (7, [false, false], [5]), (8, [false, false], [30, 1, 0]), (9, [true, false], [26]), (10, [true, false], [35]), (11, [true, false], [34, 1]), (0, [true, false], [0]), (1, [true, false], [0]), (2, [true, false], [27]), (3, [true, false], [28]), (5, [true, false], [4]), (9, [true, true], [26])] [_, _, _, _, _, _, _, _, _, _, _, _]
      case' hm => exact dr
      case' hn => rfl
      case' hok => rfl
      case' hlen => rfl
      case' hd => rfl
      case' h0 => rfl
      case' hstep =>
       simp only [DAllG, push_cast, Option.isSome_some, Option.isSome_none]
       repeat' apply And.intro
       all_goals (apply DOne_V; simp only [push_cast, Nat.reduceAdd, Nat.reduceSub, Nat.reduceMul, Nat.reduceLT, Nat.reduceLeDiff, Nat.reduceEqDiff, Int.reduceToNat, ↓reduceIte, hkm, hmm, hmk] <;> first | exact rfl | omega | exact ⟨rfl, rfl⟩ | exact trivial | exact ⟨by omega, rfl⟩ | exact ⟨by omega, by omega, rfl⟩ | exact ⟨by omega, rfl, rfl⟩ | exact ⟨by omega, by omega, rfl, rfl⟩ | exact (bind_ac k σ hs n (.mk n2 u2 ys) (by omega) _ (hkm _)).to ⟨rfl, rfl⟩)
      case' hQ => skip
      simp only [push_cast, Nat.reduceAdd, Nat.reduceSub, Nat.reduceMul, Nat.reduceLT, Nat.reduceLeDiff, Nat.reduceEqDiff, Int.reduceToNat, ↓reduceIte, hst, e, hok0]
  | false =>
    simp only [push_cast, Nat.reduceAdd, Nat.reduceSub, Nat.reduceMul, Nat.reduceLT, Nat.reduceLeDiff, Nat.reduceEqDiff, Int.reduceToNat, ↓reduceIte]
    cases u2 with
    | true =>
      have e : matchP (.mk n false xs) (.mk n2 true ys) σ = (σ, false) := matchP_c σ (by simp [clash, Term.var_mk])
      refine cI (fun _ => ?_) (fun h => absurd rfl h)
      simp only [push_cast, Nat.reduceAdd, Nat.reduceSub, Nat.reduceMul, Nat.reduceLT, Nat.reduceLeDiff, Nat.reduceEqDiff, Int.reduceToNat, ↓reduceIte, e, hok0]
    | false =>
      refine cI (fun h => absurd h (by decide)) (fun _ => ?_)
      refine cI (fun hn => ?_) (fun hn => ?_)
      · subst hn
        refine cI (fun hq => ?_) (fun hq => ?_)
        · have hlen : xs.length = ys.length := by omega
          have hc : clash n xs.length (.mk n false ys) = false := clash_false.2 ⟨rfl, rfl, hlen⟩
          have eg : matchP (.mk n false xs) (.mk n false ys) σ = matchTs xs ys σ := matchP_g σ hc
          rw [eg]
          refine AW_loopW (maskG 75 [0, 3, 0, 51, 0]) (fun (i : Nat) => [(58, .int .i64 i)]) (fun i => mH G m k (matchTs (xs.take i) (ys.take i) σ).1 ++ [.cells [.str n, .bool false, .sl .none (encTs xs)], .cells [.str n, .bool false, .sl .none (encTs ys)]]) (fun i => i ≤ xs.length ∧ (matchTs (xs.take i) (ys.take i) σ).2 = true) (fun i => xs.length - i) 0 ⟨Nat.zero_le _, by rw [List.take_zero, matchTs_nil]⟩ (by simp only [push_cast, Nat.reduceAdd, Nat.reduceSub, Nat.reduceMul, Nat.reduceLT, Nat.reduceLeDiff, Nat.reduceEqDiff, Int.reduceToNat, ↓reduceIte, List.take_zero, matchTs_nil, hok]; omega) (fun i hi => ?_)
          simp only [push_cast, Nat.reduceAdd, Nat.reduceSub, Nat.reduceMul, Nat.reduceLT, Nat.reduceLeDiff, Nat.reduceEqDiff, Int.reduceToNat, ↓reduceIte]
          refine cI (fun h => ?_) (fun h => ?_)
          · have hix : i < xs.length := by omega
            have hiy : i < ys.length := by omega
            repeat refine ⟨by omega, ?_⟩
            obtain ⟨o1, o2⟩ := matchTs_ok (xs.take i) (ys.take i) σ hs
            have hsum := take_sum_le Term.size xs i
            have hxi := le_sum Term.size (xs.drop i) xs[i] (by rw [List.drop_eq_getElem_cons hix]; exact List.mem_cons_self)
            have hsm : ((xs.take i).map Term.size).sum + ((xs.drop i).map Term.size).sum = (xs.map Term.size).sum := by rw [← List.sum_append, ← List.map_append, List.take_append_drop]
            have hstep := fun L => ih _ (List.getElem_mem hix) ys[i] (matchTs (xs.take i) (ys.take i) σ).1 o1.sorted (arg_bulk hb i hix) (arg_bulk hb2 i hiy) (fun b hb' => by
              rcases o1.new b hb' with h | ⟨y, hy, h⟩
              · exact hb3 b h
              · have h5 := h.bulk
                have h6 := Term.arg_le (n := n) (v := false) (List.mem_of_mem_take hy)
                omega) (by omega) (G ++ L) m k (by rw [List.length_append]; omega) (by rw [List.length_append]; omega) hne
            have et := matchTs_take i hix hiy hi.2
            apply AW_drawE [some 61, some 62, some 63, some 64, some 65, some 66, some 67, some 68, some 69, some 70, some 71, some 72, some 73] [([false], _), ([true], _)] [none, none, none, none, none, none, none, none, none, none, none, some 0, none] 1 [(0, [false], [0]), (1, [false], [4]), (2, [false], [62]), (3, [false], [9]), (4, [false], [63, 0]), (5, [false], [65]), (6, [false], [5]), (7, [false], [67]), (8, [false], [9]), (9, [false], [68, 0]), (10, [false], [70]), (11, [false], [61, 4, 4]), (12, [true], [72]), (1, [true], [4]), (2, [true], [62]), (3, [true], [9]), (4, [true], [63, 0]), (6, [true], [5]), (7, [true], [67]), (8, [true], [9]), (9, [true], [68, 0])] [_, _, _, _, _, _, _, _, _, _, _, _, _]
            case' hm => exact dr
            case' hn => rfl
            case' hok => rfl
            case' hlen => rfl
            case' hd => rfl
            case' h0 => rfl
            case' hstep =>
             simp only [DAllG, push_cast, Option.isSome_some, Option.isSome_none]
             repeat' apply And.intro
             all_goals (apply DOne_V; simp only [push_cast, Nat.reduceAdd, Nat.reduceSub, Nat.reduceMul, Nat.reduceLT, Nat.reduceLeDiff, Nat.reduceEqDiff, Int.reduceToNat, ↓reduceIte] <;> first | exact rfl | omega | exact ⟨rfl, rfl⟩ | exact trivial | exact ⟨by omega, rfl⟩ | exact ⟨by omega, by omega, rfl⟩ | exact ⟨by omega, rfl, rfl⟩ | exact ⟨by omega, by omega, rfl, rfl⟩ | exact ⟨by omega, trivial⟩ | (refine callG hm hk (hstep _) ?_; exact ⟨rfl, rfl⟩))
            case' hQ => skip
            simp only [push_cast, Nat.reduceAdd, Nat.reduceSub, Nat.reduceMul, Nat.reduceLT, Nat.reduceLeDiff, Nat.reduceEqDiff, Int.reduceToNat, ↓reduceIte]
            refine cI (fun hq => ?_) (fun hq => ?_)
            · repeat' first | refine ⟨by omega, ?_⟩ | refine cI (fun _ => ?_) (fun _ => ?_)
              refine loopW_n (i + 1) ⟨by omega, by rw [et]; exact hq⟩ (by omega) ?_
              rw [et]
              simp only [push_cast, Nat.reduceAdd, Nat.reduceSub, Nat.reduceMul, Nat.reduceLT, Nat.reduceLeDiff, Nat.reduceEqDiff, Int.reduceToNat, ↓reduceIte, hok]
              omega
            · have hq : (matchP xs[i] ys[i] (matchTs (xs.take i) (ys.take i) σ).1).2 = false := by simpa using hq
              have e2 := matchTs_bad i hix hiy hi.2 hq
              simp only [push_cast, Nat.reduceAdd, Nat.reduceSub, Nat.reduceMul, Nat.reduceLT, Nat.reduceLeDiff, Nat.reduceEqDiff, Int.reduceToNat, ↓reduceIte, hok0, e2, hq]
          · have hil : i = xs.length := by omega
            rw [List.take_of_length_le (show xs.length ≤ i by omega), List.take_of_length_le (show ys.length ≤ i by omega)] at hi ⊢
            simp only [push_cast, Nat.reduceAdd, Nat.reduceSub, Nat.reduceMul, Nat.reduceLT, Nat.reduceLeDiff, Nat.reduceEqDiff, Int.reduceToNat, ↓reduceIte, hok0, hi.2]
        · have hc : clash n xs.length (.mk n false ys) = true := by
            cases hcl : clash n xs.length (.mk n false ys) with
            | true => rfl
            | false => exact absurd (clash_false.1 hcl).2.2 (by show ¬ xs.length = ys.length; omega)
          have e := matchP_c σ hc
          simp only [push_cast, Nat.reduceAdd, Nat.reduceSub, Nat.reduceMul, Nat.reduceLT, Nat.reduceLeDiff, Nat.reduceEqDiff, Int.reduceToNat, ↓reduceIte, e, hok0]
      · have hc : clash n xs.length (.mk n2 false ys) = true := by
          unfold clash; simp [Term.args_mk, Term.name_mk, Term.var_mk, hn]
        have e := matchP_c σ hc
        simp only [push_cast, Nat.reduceAdd, Nat.reduceSub, Nat.reduceMul, Nat.reduceLT, Nat.reduceLeDiff, Nat.reduceEqDiff, Int.reduceToNat, ↓reduceIte, e, hok0]
theorem find_ac (p t : Term) (hb : p.bulk ≤ 1099511627770) (hb2 : t.bulk ≤ 1099511627775) (H : List AObj) : ACall Tryz.prog 155 [encT p, encT t] H (fun r H' => r = .tup [.sl .none (encL encBd (matchP p t []).1), .bool (matchP p t []).2] ∧ H' = H) := by
  have hsz := p.size_le
  refine ACall_VGA (H.length) 12 [.tmp 4, .tmp 5] Tryz.func155 rfl rfl rfl ?_
  refine AW_reserve 1 ?_
  refine AW_of_W ?_
  simp only [push_cast, Nat.reduceAdd, Nat.reduceSub, Nat.reduceMul, Nat.reduceLT, Nat.reduceLeDiff, Nat.reduceEqDiff, Int.reduceToNat, ↓reduceIte]
  have hm := match_ac p t [] (by simp [SortedN]) (by omega) hb2 (by simp) (by simp; omega) (H ++ [.dead, .cells [.str p.name, .bool p.var, .sl .none (encTs p.args)], .cells [.str t.name, .bool t.var, .sl .none (encTs t.args)], .cells [.sl .zero []]]) (H.length + 3) H.length (by simp) (by simp) (by omega)
  have e0 : ∀ L : List AObj, mH (H ++ (.dead :: L ++ [.cells [.sl .zero []]])) (H.length + L.length + 1) H.length [] = H ++ (.dead :: L ++ [.cells [.sl .zero []]]) := fun L => by
    unfold mH
    rw [encL_nil, grS_nil, grO_nil, Nat.add_assoc, hsetN, hset0]
    congr 1
    simp
  have e1 : ∀ (L : List AObj) (σ : List (List UInt8 × Term)), mH (H ++ (.dead :: L ++ [.cells [.sl .zero []]])) (H.length + L.length + 1) H.length σ = H ++ (grO 107 4 (encL encBd σ) :: L ++ [.cells [grS H.length (encL encBd σ)]]) := fun L σ => by
    unfold mH
    rw [Nat.add_assoc, hsetN, hset0]
    congr 1
    simp
  have h0 := e0 [.cells [.str p.name, .bool p.var, .sl .none (encTs p.args)], .cells [.str t.name, .bool t.var, .sl .none (encTs t.args)]]
  have h1 := e1 [.cells [.str p.name, .bool p.var, .sl .none (encTs p.args)], .cells [.str t.name, .bool t.var, .sl .none (encTs t.args)]] (matchP p t []).1
  simp only [List.cons_append, List.nil_append, List.length_cons, List.length_nil] at h0 h1
  rw [h0, h1] at hm
  refine hm.to ?_
  simp only [push_cast, Nat.reduceAdd, Nat.reduceSub, Nat.reduceMul, Nat.reduceLT, Nat.reduceLeDiff, Nat.reduceEqDiff, Int.reduceToNat, ↓reduceIte]
  refine .row2 H.length 107 4 (by exact aget0 _ _ _) (by rw [flB_len, encL_length]) (by omega) (of_eq_true (flB_sc _ _)) (by simp only [push_cast, Nat.reduceAdd, Nat.reduceSub, Nat.reduceMul, Nat.reduceLT, Nat.reduceLeDiff, Nat.reduceEqDiff, Int.reduceToNat, ↓reduceIte])
end Ab
set_option maxRecDepth 10000
namespace Ab
open Go Go.Proofs
theorem atR_ac (t : Term) (p : List Int) (hb : t.bulk ≤ 1099511627775) (hlen : p.length < 1099511627776) (H : List AObj) :
    ACall Tryz.prog 27 [encT t, .sl .none (encP p)] H (fun r H' => r = (match atP t p with | some x => .tup [encT x, .bool true] | none => .tup [encT (.mk [] false []), .bool false]) ∧ H' = H) := by
  refine ACall_V (H.length) 29 [.cell 4 25, .tmp 5] Tryz.func27 rfl rfl rfl ?_
  simp only [push_cast, Nat.reduceAdd, Nat.reduceSub, Nat.reduceMul, Nat.reduceLT, Nat.reduceLeDiff, Nat.reduceEqDiff, Int.reduceToNat, ↓reduceIte]
  refine AW_loopW (maskG 31 [2, 1, 3, 0, 0]) (fun (q : Nat × Term) => [(10, .int .i64 q.1)]) (fun q => H ++ [.cells [.str q.2.name, .bool q.2.var, .sl .none (encTs q.2.args)], .cells [.str [], .bool false, .sl .zero []]]) (fun q => q.1 ≤ p.length ∧ atP t (p.take q.1) = some q.2) (fun q => p.length - q.1) (0, t) ⟨Nat.zero_le _, by cases t; rfl⟩ (by simp only [push_cast, Nat.reduceAdd, Nat.reduceSub, Nat.reduceMul, Nat.reduceLT, Nat.reduceLeDiff, Nat.reduceEqDiff, Int.reduceToNat, ↓reduceIte]) (fun ⟨i, x⟩ hi => ?_)
  obtain ⟨hi, hx⟩ := hi
  simp only at hi hx
  have hbx := at_bulk _ _ _ hx
  have hlx : x.args.length < x.bulk := by cases x; exact Term.len_le
  simp only [push_cast, Nat.reduceAdd, Nat.reduceSub, Nat.reduceMul, Nat.reduceLT, Nat.reduceLeDiff, Nat.reduceEqDiff, Int.reduceToNat, ↓reduceIte]
  refine cI (fun h => ⟨by omega, ?_⟩) (fun h => ?_)
  · have hs := at_step x p[i] (p.drop (i + 1))
    have hap := at_app (p.take i) (p.drop i) t
    rw [List.take_append_drop, hx, List.drop_eq_getElem_cons (by omega)] at hap
    simp only [Option.bind_some] at hap
    have hap2 := at_app (p.take i) [p[i]] t
    rw [hx, ← List.take_succ_eq_append_getElem (by omega)] at hap2
    simp only [Option.bind_some] at hap2
    refine cI (fun h1 => ?_) (fun h1 => cI (fun h2 => ?_) (fun h2 => ?_))
    · simp only [push_cast, Nat.reduceAdd, Nat.reduceSub, Nat.reduceMul, Nat.reduceLT, Nat.reduceLeDiff, Nat.reduceEqDiff, Int.reduceToNat, ↓reduceIte, hap, hs.2 (fun hh => by omega)]
    · simp only [push_cast, Nat.reduceAdd, Nat.reduceSub, Nat.reduceMul, Nat.reduceLT, Nat.reduceLeDiff, Nat.reduceEqDiff, Int.reduceToNat, ↓reduceIte, hap, hs.2 (fun hh => by omega)]
    · have hk : 0 ≤ p[i] ∧ p[i].toNat < x.args.length := ⟨by omega, by omega⟩
      have hs2 := (at_step x p[i] []).1 hk
      refine ⟨by omega, by omega, by omega, loopW_n (i + 1, x.args[p[i].toNat]) ⟨by simp only; omega, ?_⟩ (by simp only; omega) (by simp only [push_cast, Nat.reduceAdd, Nat.reduceSub, Nat.reduceMul, Nat.reduceLT, Nat.reduceLeDiff, Nat.reduceEqDiff, Int.reduceToNat, ↓reduceIte])⟩
      simp only
      rw [hap2, hs2]
      cases x.args[p[i].toNat]; rfl
  · rw [List.take_of_length_le (by omega)] at hx
    simp only [push_cast, Nat.reduceAdd, Nat.reduceSub, Nat.reduceMul, Nat.reduceLT, Nat.reduceLeDiff, Nat.reduceEqDiff, Int.reduceToNat, ↓reduceIte, hx]
theorem gSl_cons (k : Nat) (x : AV) (xs : List AV) : gSl k (x :: xs) = .sl (.own k) (x :: xs) := (rfl)
theorem gTok_cons (e sz : Nat) (x : AV) (xs : List AV) : gTok e sz (x :: xs) = .tok e sz (xs.length + 1) := (rfl)
end Ab
set_option maxRecDepth 10000
namespace Ab
open Go
def atF : List (Term × Term) → Nat → List Int → Term → List (Int × List Int)
  | [], _, _, _ => []
  | x :: r, k, p, s => (if (matchP x.1 s []).2 then [((k : Int), p)] else []) ++ atF r (k + 1) p s
theorem atF_app : ∀ (a b : List (Term × Term)) (k : Nat) (p : List Int) (s : Term), atF (a ++ b) k p s = atF a k p s ++ atF b (k + a.length) p s
  | [], b, k, p, s => by simp [atF]
  | x :: r, b, k, p, s => by
    rw [List.cons_append, atF, atF, atF_app r b (k + 1) p s, List.append_assoc, List.length_cons]
    rw [show k + 1 + r.length = k + (r.length + 1) by omega]
theorem atF_take (rs : List (Term × Term)) (p : List Int) (s : Term) (i : Nat) (h : i < rs.length) : atF (rs.take (i + 1)) 0 p s = atF (rs.take i) 0 p s ++ (if (matchP rs[i].1 s []).2 then [((i : Int), p)] else []) := by
  rw [List.take_succ_eq_append_getElem h, atF_app, List.length_take]
  simp only [atF, List.append_nil]
  rw [show 0 + min i rs.length = i by omega]
theorem atF_mem : ∀ (rs : List (Term × Term)) (k : Nat) (p : List Int) (s : Term) x, x ∈ atF rs k p s → x.2 = p ∧ ∃ i : Nat, ∃ h : i < rs.length, x.1 = ((k + i : Nat) : Int) ∧ (matchP rs[i].1 s []).2 = true
  | [], _, _, _, x, hx => by simp [atF] at hx
  | r :: rs, k, p, s, x, hx => by
    rw [atF, List.mem_append] at hx
    rcases hx with hx | hx
    · split at hx
      · rename_i hm
        rw [List.mem_singleton] at hx
        subst hx
        exact ⟨rfl, 0, by simp, by simp, by simpa using hm⟩
      · simp at hx
    · obtain ⟨h1, i, h2, h3, h4⟩ := atF_mem rs (k + 1) p s x hx
      refine ⟨h1, i + 1, by simpa using h2, by rw [h3]; congr 1; omega, by simpa using h4⟩
theorem atF_len : ∀ (rs : List (Term × Term)) (k : Nat) (p : List Int) (s : Term), (atF rs k p s).length ≤ rs.length
  | [], _, _, _ => by simp [atF]
  | r :: rs, k, p, s => by
    have := atF_len rs (k + 1) p s
    rw [atF, List.length_append, List.length_cons]
    split <;> simp <;> omega
def atV (rs : List (Term × Term)) (p : List Int) (s : Term) : List (Int × List Int) := if s.var then [] else atF rs 0 p s
theorem atV_len (rs : List (Term × Term)) (p : List Int) (s : Term) : (atV rs p s).length ≤ rs.length := by
  unfold atV; split
  · simp
  · exact atF_len _ _ _ _
theorem atV_pos {rs : List (Term × Term)} {p : List Int} {s : Term} {x : Int × List Int} (h : x ∈ atV rs p s) : x.2 = p := by
  unfold atV at h; split at h
  · simp at h
  · exact (atF_mem _ _ _ _ _ h).1
def allI (rs : List (Term × Term)) (items : List (List Int × Term)) : List (Int × List Int) := items.flatMap fun x => atV rs x.1 x.2
theorem allI_nil (rs : List (Term × Term)) : allI rs [] = [] := (rfl)
theorem allI_snoc (rs : List (Term × Term)) (a : List (List Int × Term)) (x : List Int × Term) : allI rs (a ++ [x]) = allI rs a ++ atV rs x.1 x.2 := by simp [allI]
theorem allI_len (rs : List (Term × Term)) : ∀ items : List (List Int × Term), (allI rs items).length ≤ items.length * rs.length
  | [] => by simp [allI]
  | x :: l => by
    have h1 := allI_len rs l
    have h2 := atV_len rs x.1 x.2
    have e : allI rs (x :: l) = atV rs x.1 x.2 ++ allI rs l := by simp [allI]
    rw [e, List.length_append, List.length_cons, Nat.add_mul]
    omega
def allS (rs : List (Term × Term)) (t : Term) : List (Int × List Int) := allI rs (walkT t [])
end Ab
set_option maxRecDepth 10000
namespace Ab
open Go Go.Proofs
theorem marked_suffix (s : List UInt8) : decide (([35] : List UInt8).length ≤ s.length ∧ s.drop (s.length - ([35] : List UInt8).length) = [35]) = markedP s := by
  unfold markedP
  rw [Bool.eq_iff_iff, decide_eq_true_eq, decide_eq_true_eq]
  rcases List.eq_nil_or_concat s with rfl | ⟨l, a, rfl⟩
  · simp
  · simp
theorem stringsHasSuffix_ac (s suf : List UInt8) (H : List AObj) (h1 : s.length < 1099511627776) (h2 : suf.length < 1099511627776) :
    ACall Tryz.prog 129 [.str s, .str suf] H (fun r H' => r = .bool (decide (suf.length ≤ s.length ∧ s.drop (s.length - suf.length) = suf)) ∧ H' = H) := by
  refine ACall_V (H.length) 6 [.tmp 4] Tryz.func129 rfl rfl rfl ?_
  simp only [push_cast, Nat.reduceAdd, Nat.reduceSub, Nat.reduceMul, Nat.reduceLT, Nat.reduceLeDiff, Nat.reduceEqDiff, Int.reduceToNat, ↓reduceIte]
  refine (hasSuffix_ac s suf _ h1 h2).to ?_
  simp only [push_cast, Nat.reduceAdd, Nat.reduceSub, Nat.reduceMul, Nat.reduceLT, Nat.reduceLeDiff, Nat.reduceEqDiff, Int.reduceToNat, ↓reduceIte]
theorem markedT_ac (s : List UInt8) (h1 : s.length < 1099511627776) (H : List AObj) : ACall Tryz.prog 91 [.str s] H (fun r H' => r = .bool (markedP s) ∧ H' = H) := by
  rw [← marked_suffix]
  refine ACall_V (H.length) 4 [.tmp 2] Tryz.func91 rfl rfl rfl ?_
  simp only [push_cast, Nat.reduceAdd, Nat.reduceSub, Nat.reduceMul, Nat.reduceLT, Nat.reduceLeDiff, Nat.reduceEqDiff, Int.reduceToNat, ↓reduceIte]
  refine (stringsHasSuffix_ac s [35] _ h1 (by decide)).to ?_
  simp only [push_cast, Nat.reduceAdd, Nat.reduceSub, Nat.reduceMul, Nat.reduceLT, Nat.reduceLeDiff, Nat.reduceEqDiff, Int.reduceToNat, ↓reduceIte]
theorem indexS_ac (l : List (List UInt8)) (v : List UInt8) (hlen : l.length < 1099511627776) (H : List AObj) :
    ACall Tryz.prog 171 [.sl .none (encN l), .str v] H (fun r H' => ∃ n : Int, r = .int .i64 n ∧ (0 ≤ n ↔ v ∈ l) ∧ H' = H) := by
  refine ACall_W (H.length) 17 [.tmp 4] Tryz.func171 rfl rfl rfl ?_
  simp only [push_cast, Nat.reduceAdd, Nat.reduceSub, Nat.reduceMul, Nat.reduceLT, Nat.reduceLeDiff, Nat.reduceEqDiff, Int.reduceToNat, ↓reduceIte]
  refine AW_loopW (maskG 19 [0, 0, 5, 0]) (fun (i : Nat) => [(8, .int .i64 i)]) (fun _ => H) (fun i => i ≤ l.length ∧ ¬ v ∈ l.take i) (fun i => l.length - i) 0 ⟨Nat.zero_le _, by simp⟩ (by simp only [push_cast, Nat.reduceAdd, Nat.reduceSub, Nat.reduceMul, Nat.reduceLT, Nat.reduceLeDiff, Nat.reduceEqDiff, Int.reduceToNat, ↓reduceIte]) (fun i hi => ?_)
  simp only [push_cast, Nat.reduceAdd, Nat.reduceSub, Nat.reduceMul, Nat.reduceLT, Nat.reduceLeDiff, Nat.reduceEqDiff, Int.reduceToNat, ↓reduceIte]
  refine cI (fun h => ?_) (fun h => ?_)
  · repeat refine ⟨by omega, ?_⟩
    have hil : i < l.length := by omega
    refine cI (fun hp => ?_) (fun hp => ?_)
    · exact ⟨i, rfl, ⟨fun _ => by rw [hp]; exact List.getElem_mem hil, fun _ => by omega⟩⟩
    · repeat refine ⟨by omega, ?_⟩
      refine loopW_n (i + 1) ⟨by omega, ?_⟩ (by omega) (by simp only [push_cast, Nat.reduceAdd, Nat.reduceSub, Nat.reduceMul, Nat.reduceLT, Nat.reduceLeDiff, Nat.reduceEqDiff, Int.reduceToNat, ↓reduceIte])
      rw [List.take_succ_eq_append_getElem hil, List.mem_append, List.mem_singleton]
      rintro (h1 | h1)
      · exact hi.2 h1
      · exact hp h1
  · have hs : l.take i = l := List.take_of_length_le (by omega)
    rw [hs] at hi
    exact ⟨-1, rfl, ⟨by omega, fun h => absurd h hi.2⟩⟩
theorem containsS_ac (l : List (List UInt8)) (v : List UInt8) (hlen : l.length < 1099511627776) (H : List AObj) :
    ACall Tryz.prog 134 [.sl .none (encN l), .str v] H (fun r H' => r = .bool (decide (v ∈ l)) ∧ H' = H) := by
  refine ACall_V (H.length) 7 [.tmp 4] Tryz.func134 rfl rfl rfl ?_
  simp only [push_cast, Nat.reduceAdd, Nat.reduceSub, Nat.reduceMul, Nat.reduceLT, Nat.reduceLeDiff, Nat.reduceEqDiff, Int.reduceToNat, ↓reduceIte]
  refine (indexS_ac l v hlen _).mono ?_
  rintro r H' ⟨n, rfl, hn, rfl⟩
  simp only [push_cast, Nat.reduceAdd, Nat.reduceSub, Nat.reduceMul, Nat.reduceLT, Nat.reduceLeDiff, Nat.reduceEqDiff, Int.reduceToNat, ↓reduceIte, hn]
theorem extraC_ac (v : List UInt8) (L : List (List UInt8)) (hlen : L.length < 1099511627776) (H : List AObj) (o : AObj) :
    ACall Tryz.prog 133 [.str v, .ptr (H.length + 1) 0] (H ++ [o, .cells [.sl .none (encN L)]]) (fun r H' => r = .bool (!decide (v ∈ L)) ∧ H' = H ++ [o, .cells [.sl .none (encN L)]]) := by
  refine ACall_V (H.length + 2) 6 [.tmp 3] Tryz.func133 rfl rfl rfl ?_
  simp only [push_cast, Nat.reduceAdd, Nat.reduceSub, Nat.reduceMul, Nat.reduceLT, Nat.reduceLeDiff, Nat.reduceEqDiff, Int.reduceToNat, ↓reduceIte]
  refine (containsS_ac L v hlen _).to ?_
  simp only [push_cast, Nat.reduceAdd, Nat.reduceSub, Nat.reduceMul, Nat.reduceLT, Nat.reduceLeDiff, Nat.reduceEqDiff, Int.reduceToNat, ↓reduceIte]
  rw [show H.length + 2 = (H ++ [o, .cells [.sl .none (encN L)]]).length from by simp]
  exact outok_self
theorem indexN_ac (l : List (List UInt8)) (g : Nat) (caps : List AV) (p : List UInt8 → Bool) (H : List AObj) (hlen : l.length < 1099511627776) (hg : callOk Tryz.prog g = true) (hsc : ScopedL H.length caps)
    (hf : ∀ i (h : i < l.length), ACall Tryz.prog g (.str l[i] :: caps) H (fun r H' => r = .bool (p l[i]) ∧ H' = H)) :
    ACall Tryz.prog 170 [.sl .none (encN l), .fn g caps] H (fun r H' => ∃ n : Int, r = .int .i64 n ∧ (0 ≤ n ↔ l.any p = true) ∧ H' = H) := by
  refine ACall_W (H.length) 17 [.tmp 4] Tryz.func170 rfl rfl rfl ?_
  simp only [push_cast, Nat.reduceAdd, Nat.reduceSub, Nat.reduceMul, Nat.reduceLT, Nat.reduceLeDiff, Nat.reduceEqDiff, Int.reduceToNat, ↓reduceIte]
  refine AW_loopW (maskG 19 [0, 0, 5, 0]) (fun (i : Nat) => [(8, .int .i64 i)]) (fun _ => H) (fun i => i ≤ l.length ∧ (l.take i).any p = false) (fun i => l.length - i) 0 ⟨Nat.zero_le _, by simp⟩ (by simp only [push_cast, Nat.reduceAdd, Nat.reduceSub, Nat.reduceMul, Nat.reduceLT, Nat.reduceLeDiff, Nat.reduceEqDiff, Int.reduceToNat, ↓reduceIte, hsc]) (fun i hi => ?_)
  simp only [push_cast, Nat.reduceAdd, Nat.reduceSub, Nat.reduceMul, Nat.reduceLT, Nat.reduceLeDiff, Nat.reduceEqDiff, Int.reduceToNat, ↓reduceIte, hg]
  refine cI (fun h => ⟨by omega, (hf i (by omega)).to ?_⟩) (fun h => ?_)
  · simp only [push_cast, Nat.reduceAdd, Nat.reduceSub, Nat.reduceMul, Nat.reduceLT, Nat.reduceLeDiff, Nat.reduceEqDiff, Int.reduceToNat, ↓reduceIte]
    refine cI (fun hp => ?_) (fun hp => ⟨by omega, loopW_n (i + 1) ⟨by omega, any_take_false hi.2 (by omega) (by simpa using hp)⟩ (by omega) (by simp only [push_cast, Nat.reduceAdd, Nat.reduceSub, Nat.reduceMul, Nat.reduceLT, Nat.reduceLeDiff, Nat.reduceEqDiff, Int.reduceToNat, ↓reduceIte, hsc])⟩)
    exact ⟨i, rfl, ⟨fun _ => any_get (by omega) hp, fun _ => by omega⟩⟩
  · have hs : l.take i = l := List.take_of_length_le (by omega)
    rw [hs] at hi
    exact ⟨-1, rfl, ⟨by omega, fun h => by rw [hi.2] at h; cases h⟩⟩
theorem containsN_ac (l : List (List UInt8)) (g : Nat) (caps : List AV) (p : List UInt8 → Bool) (H : List AObj) (hlen : l.length < 1099511627776) (hg : callOk Tryz.prog g = true) (hsc : ScopedL H.length caps)
    (hf : ∀ i (h : i < l.length), ACall Tryz.prog g (.str l[i] :: caps) H (fun r H' => r = .bool (p l[i]) ∧ H' = H)) :
    ACall Tryz.prog 132 [.sl .none (encN l), .fn g caps] H (fun r H' => r = .bool (l.any p) ∧ H' = H) := by
  refine ACall_W (H.length) 7 [.tmp 4] Tryz.func132 rfl rfl rfl ?_
  simp only [push_cast, Nat.reduceAdd, Nat.reduceSub, Nat.reduceMul, Nat.reduceLT, Nat.reduceLeDiff, Nat.reduceEqDiff, Int.reduceToNat, ↓reduceIte]
  refine (indexN_ac _ g caps p _ hlen hg hsc hf).mono ?_
  rintro r H ⟨n, rfl, hn, rfl⟩
  simp only [push_cast, Nat.reduceAdd, Nat.reduceSub, Nat.reduceMul, Nat.reduceLT, Nat.reduceLeDiff, Nat.reduceEqDiff, Int.reduceToNat, ↓reduceIte, hn]
  cases l.any p <;> simp
theorem vars1_len (t : Term) : (varsP [t]).length ≤ t.size := by
  have := foldC_length [t] []
  simpa [foldC, varsP] using this
def extraP (x : Term × Term) : Bool := x.1.var || (varsP [x.2]).any fun v => !decide (v ∈ varsP [x.1])
theorem extra_ac (x : Term × Term) (h1 : x.1.bulk ≤ 1099511627770) (h2 : x.2.bulk ≤ 1099511627770) (H : List AObj) : ACall Tryz.prog 93 [encRu x] H (fun r H' => r = .bool (extraP x) ∧ H' = H) := by
  have hs1 := x.1.size_le
  have hs2 := x.2.size_le
  have hl1 := vars1_len x.1
  have hl2 := vars1_len x.2
  refine ACall_V (H.length) 18 [.tmp 2] Tryz.func93 rfl rfl rfl ?_
  simp only [push_cast, Nat.reduceAdd, Nat.reduceSub, Nat.reduceMul, Nat.reduceLT, Nat.reduceLeDiff, Nat.reduceEqDiff, Int.reduceToNat, ↓reduceIte]
  refine (vars1_ac x.1 h1 _).to ?_
  simp only [push_cast, Nat.reduceAdd, Nat.reduceSub, Nat.reduceMul, Nat.reduceLT, Nat.reduceLeDiff, Nat.reduceEqDiff, Int.reduceToNat, ↓reduceIte]
  refine cI (fun hv => ?_) (fun hv => ?_)
  · have e : extraP x = true := by unfold extraP; rw [hv]; rfl
    simp only [push_cast, Nat.reduceAdd, Nat.reduceSub, Nat.reduceMul, Nat.reduceLT, Nat.reduceLeDiff, Nat.reduceEqDiff, Int.reduceToNat, ↓reduceIte, e]
  · have e : extraP x = (varsP [x.2]).any fun v => !decide (v ∈ varsP [x.1]) := by unfold extraP; rw [show x.1.var = false by simpa using hv]; rfl
    refine (vars1_ac x.2 h2 _).to ?_
    simp only [push_cast, Nat.reduceAdd, Nat.reduceSub, Nat.reduceMul, Nat.reduceLT, Nat.reduceLeDiff, Nat.reduceEqDiff, Int.reduceToNat, ↓reduceIte]
    refine (containsN_ac (varsP [x.2]) 133 [.ptr (H.length + 1) 0] (fun v => !decide (v ∈ varsP [x.1])) _ (by omega) ok133 (by simp only [push_cast, Nat.reduceAdd, Nat.reduceSub, Nat.reduceMul, Nat.reduceLT, Nat.reduceLeDiff, Nat.reduceEqDiff, Int.reduceToNat, ↓reduceIte]) (fun i h => extraC_ac _ _ (by omega) H _)).to ?_
    simp only [push_cast, Nat.reduceAdd, Nat.reduceSub, Nat.reduceMul, Nat.reduceLT, Nat.reduceLeDiff, Nat.reduceEqDiff, Int.reduceToNat, ↓reduceIte, e]
theorem indexRu_ac (rs : List (Term × Term)) (g : Nat) (caps : List AV) (p : (Term × Term) → Bool) (H : List AObj) (hlen : rs.length < 1099511627776) (hg : callOk Tryz.prog g = true) (hsc : ScopedL H.length caps)
    (hf : ∀ i (h : i < rs.length), ACall Tryz.prog g (encRu rs[i] :: caps) H (fun r H' => r = .bool (p rs[i]) ∧ H' = H)) :
    ACall Tryz.prog 130 [.sl .none (encL encRu rs), .fn g caps] H (fun r H' => ∃ n : Int, r = .int .i64 n ∧ (0 ≤ n ↔ rs.any p = true) ∧ H' = H) := by
  refine ACall_W (H.length) 17 [.tmp 4] Tryz.func130 rfl rfl rfl ?_
  simp only [push_cast, Nat.reduceAdd, Nat.reduceSub, Nat.reduceMul, Nat.reduceLT, Nat.reduceLeDiff, Nat.reduceEqDiff, Int.reduceToNat, ↓reduceIte]
  refine AW_loopW (maskG 19 [0, 0, 5, 0]) (fun (i : Nat) => [(8, .int .i64 i)]) (fun _ => H) (fun i => i ≤ rs.length ∧ (rs.take i).any p = false) (fun i => rs.length - i) 0 ⟨Nat.zero_le _, by simp⟩ (by simp only [push_cast, Nat.reduceAdd, Nat.reduceSub, Nat.reduceMul, Nat.reduceLT, Nat.reduceLeDiff, Nat.reduceEqDiff, Int.reduceToNat, ↓reduceIte, hsc]) (fun i hi => ?_)
  simp only [push_cast, Nat.reduceAdd, Nat.reduceSub, Nat.reduceMul, Nat.reduceLT, Nat.reduceLeDiff, Nat.reduceEqDiff, Int.reduceToNat, ↓reduceIte, hg]
  refine cI (fun h => ⟨by omega, (hf i (by omega)).to ?_⟩) (fun h => ?_)
  · simp only [push_cast, Nat.reduceAdd, Nat.reduceSub, Nat.reduceMul, Nat.reduceLT, Nat.reduceLeDiff, Nat.reduceEqDiff, Int.reduceToNat, ↓reduceIte]
    refine cI (fun hp => ?_) (fun hp => ⟨by omega, loopW_n (i + 1) ⟨by omega, any_take_false hi.2 (by omega) (by simpa using hp)⟩ (by omega) (by simp only [push_cast, Nat.reduceAdd, Nat.reduceSub, Nat.reduceMul, Nat.reduceLT, Nat.reduceLeDiff, Nat.reduceEqDiff, Int.reduceToNat, ↓reduceIte, hsc])⟩)
    exact ⟨i, rfl, ⟨fun _ => any_get (by omega) hp, fun _ => by omega⟩⟩
  · have hs : rs.take i = rs := List.take_of_length_le (by omega)
    rw [hs] at hi
    exact ⟨-1, rfl, ⟨by omega, fun h => by rw [hi.2] at h; cases h⟩⟩
theorem containsRu_ac (rs : List (Term × Term)) (g : Nat) (caps : List AV) (p : (Term × Term) → Bool) (H : List AObj) (hlen : rs.length < 1099511627776) (hg : callOk Tryz.prog g = true) (hsc : ScopedL H.length caps)
    (hf : ∀ i (h : i < rs.length), ACall Tryz.prog g (encRu rs[i] :: caps) H (fun r H' => r = .bool (p rs[i]) ∧ H' = H)) :
    ACall Tryz.prog 92 [.sl .none (encL encRu rs), .fn g caps] H (fun r H' => r = .bool (rs.any p) ∧ H' = H) := by
  refine ACall_W (H.length) 7 [.tmp 4] Tryz.func92 rfl rfl rfl ?_
  simp only [push_cast, Nat.reduceAdd, Nat.reduceSub, Nat.reduceMul, Nat.reduceLT, Nat.reduceLeDiff, Nat.reduceEqDiff, Int.reduceToNat, ↓reduceIte]
  refine (indexRu_ac _ g caps p _ hlen hg hsc hf).mono ?_
  rintro r H ⟨n, rfl, hn, rfl⟩
  simp only [push_cast, Nat.reduceAdd, Nat.reduceSub, Nat.reduceMul, Nat.reduceLT, Nat.reduceLeDiff, Nat.reduceEqDiff, Int.reduceToNat, ↓reduceIte, hn]
  cases rs.any p <;> simp
end Ab
set_option maxRecDepth 10000
namespace Ab
open Go Go.Proofs
def avN (n : Nat) : AV := .int .i64 n
def sA (m : List (List UInt8 × Nat)) : List (AV × AV) := amap AV.str avN m
def lN (o : Option (List UInt8 × Nat)) : Option (AV × AV) := o.map fun s => (AV.str s.1, avN s.2)
theorem sA_nil : sA [] = [] := (rfl)
theorem sA_len (m : List (List UInt8 × Nat)) : (sA m).length = m.length := by simp [sA, amap]
theorem osc_sA (n ver : Nat) (m : List (List UInt8 × Nat)) : OScoped n (.map ver (sA m)) = True := by
  refine eq_true ?_
  intro e he
  simp only [sA, amap, List.mem_map] at he
  obtain ⟨k, _, rfl⟩ := he
  exact ⟨trivial, trivial⟩
theorem osc_itA (n m ver : Nat) (l : List (List UInt8 × Nat)) (o : Option (List UInt8 × Nat)) (h : m < n) : OScoped n (.iter m ver (sA l) (lN o)) = True := by
  refine eq_true ⟨h, ?_⟩
  rintro e (he | he)
  · simp only [sA, amap, List.mem_map] at he
    obtain ⟨k, _, rfl⟩ := he
    exact ⟨trivial, trivial⟩
  · cases o with
    | none => cases he
    | some k => simp only [lN, Option.map_some, Option.some.injEq] at he; subst he; exact ⟨trivial, trivial⟩
theorem osc_itAn (n m ver : Nat) (l : List (List UInt8 × Nat)) (h : m < n) : OScoped n (.iter m ver (sA l) none) = True := osc_itA n m ver l none h
theorem osc_itAs (n m ver : Nat) (l : List (List UInt8 × Nat)) (a : List UInt8) (b : Nat) (h : m < n) : OScoped n (.iter m ver (sA l) (some (.str a, avN b))) = True := osc_itA n m ver l (some (a, b)) h
theorem lN_n : lN none = none := (rfl)
theorem lN_s (s : List UInt8 × Nat) : lN (some s) = some (AV.str s.1, avN s.2) := (rfl)
attribute [push_cast] osc_sA osc_itA osc_itAn osc_itAs
def arE (rs : List (Term × Term)) : Nat × List (List UInt8 × Nat) := arF (0, []) (nodesL (rT rs))
def arB (rs : List (Term × Term)) : Bool := arBad (0, []) (nodesL (rT rs))
theorem nodesL_nil : nodesL [] = [] := by simp [nodesL]
theorem arB_nil : arB [] = false := by simp [arB, rT, nodesL, arBad]
theorem arE_nil : arE [] = (0, []) := by simp [arE, rT, nodesL, arF]
def arNx (q : Nat × List (List UInt8 × Nat)) (pre : List (List Int × Term)) (x : List Int × Term) : Option Code := if x.2.var then none else if arC (arF q (nodesI pre)) (x.2.name, x.2.args.length) then some .ret else none
theorem nd_var {x : Term} (h : x.var = true) : ndT x = [] := by simp [ndT, h]
theorem nd_sym {x : Term} (h : ¬ x.var = true) : ndT x = [(x.name, x.args.length)] := by simp [ndT, h]
theorem arF_snoc (q : Nat × List (List UInt8 × Nat)) (L : List (List UInt8 × Nat)) (s : List UInt8 × Nat) : arF q (L ++ [s]) = arStep (arF q L) s := by rw [arF_app]; rfl
theorem arBad_one (q : Nat × List (List UInt8 × Nat)) (s : List UInt8 × Nat) : arBad q [s] = arC q s := by simp [arBad]
theorem arNx_ok (q : Nat × List (List UInt8 × Nat)) : ∀ (n : Nat) (items : List (List Int × Term)), items.length = n → AllNone (arNx q) items → arBad q (nodesI items) = false := by
  intro n
  induction n with
  | zero => intro items h _; rw [List.eq_nil_of_length_eq_zero h]; rfl
  | succ n ih =>
    intro items h hN
    rcases List.eq_nil_or_concat items with rfl | ⟨pre, x, rfl⟩
    · rfl
    · rw [List.concat_eq_append] at *
      have h1 := ih pre (by simpa using h) (fun p y s e => hN p y (s ++ [x]) (by rw [e]; simp))
      have h2 := hN pre x [] rfl
      rw [nodesI_snoc, arBad_app, h1, Bool.false_or]
      unfold arNx at h2
      by_cases hv : x.2.var = true
      · rw [nd_var hv]; rfl
      · rw [if_neg hv] at h2
        rw [nd_sym hv, arBad_one]
        split at h2
        · cases h2
        · rename_i h3; simpa using h3
theorem arNx_bad (q : Nat × List (List UInt8 × Nat)) (pre suf : List (List Int × Term)) (x : List Int × Term) (c : Code) (h : arNx q pre x = some c) : c = .ret ∧ arBad q (nodesI (pre ++ x :: suf)) = true := by
  unfold arNx at h
  by_cases hv : x.2.var = true
  · rw [if_pos hv] at h; cases h
  · rw [if_neg hv] at h
    split at h
    · rename_i h3
      injection h with h
      refine ⟨h.symm, ?_⟩
      have e : nodesI (pre ++ x :: suf) = nodesI pre ++ (ndT x.2 ++ nodesI suf) := by simp [nodesI]
      rw [e, arBad_app, nd_sym hv, arBad_app, arBad_one, h3]; simp
    · cases h
set_option maxHeartbeats 1600000 in
theorem arities_ac (rs : List (Term × Term)) (hlen : rs.length < 1099511627776) (hb : ∀ r, r ∈ rs → r.1.bulk ≤ 1099511627775 ∧ r.2.bulk ≤ 1099511627775) (H : List AObj) :
    ACall Tryz.prog 90 [.sl .none (encL encRu rs)] H (fun r H' => r = .tup [if arB rs then .lit (.map none) else .map (H.length + 2), .bool (!arB rs)] ∧ ∃ v es, H' = H ++ [.cells [if arB rs then .lit (.map none) else .map (H.length + 2)], .cells [.bool (!arB rs)], .map v es] ∧ (arB rs = false → v = (arE rs).1 ∧ es = sA (arE rs).2)) := by
  refine ACall_W (H.length + 3) 57 [.cell 2 125, .cell 3 4] Tryz.func90 rfl rfl rfl ?_
  simp only [push_cast, Nat.reduceAdd, Nat.reduceSub, Nat.reduceMul, Nat.reduceLT, Nat.reduceLeDiff, Nat.reduceEqDiff, Int.reduceToNat, ↓reduceIte]
  refine AW_loopW (maskG 58 [2, 0, 0, 9, 0, 0, 14]) (fun (i : Nat) => [(16, .int .i64 i)]) (fun i => H ++ [.cells [.lit (.map none)], .cells [.bool false], .map (arE (rs.take i)).1 (sA (arE (rs.take i)).2), .cells [.map (H.length + 2)]]) (fun i => i ≤ rs.length ∧ arB (rs.take i) = false) (fun i => rs.length - i) 0 ⟨Nat.zero_le _, by rw [List.take_zero]; exact arB_nil⟩ (by simp only [push_cast, Nat.reduceAdd, Nat.reduceSub, Nat.reduceMul, Nat.reduceLT, Nat.reduceLeDiff, Nat.reduceEqDiff, Int.reduceToNat, ↓reduceIte, List.take_zero, arE_nil, sA_nil]) (fun i hi => ?_)
  simp only [push_cast, Nat.reduceAdd, Nat.reduceSub, Nat.reduceMul, Nat.reduceLT, Nat.reduceLeDiff, Nat.reduceEqDiff, Int.reduceToNat, ↓reduceIte]
  refine cI (fun h => ?_) (fun h => ?_)
  · repeat refine ⟨by omega, ?_⟩
    have hil : i < rs.length := by omega
    obtain ⟨l, r, hlr⟩ : ∃ l r, rs[i]'hil = (l, r) := ⟨_, _, rfl⟩
    have hbi := hb _ (List.getElem_mem hil)
    rw [hlr] at hbi
    obtain ⟨hbl, hbr⟩ := hbi
    simp only at hbl hbr
    simp only [push_cast, Nat.reduceAdd, Nat.reduceSub, Nat.reduceMul, Nat.reduceLT, Nat.reduceLeDiff, Nat.reduceEqDiff, Int.reduceToNat, ↓reduceIte, hlr]
    refine AW_loopW (maskG 58 [2, 0, 0, 9, 0, 0, 7, 0, 5]) (fun (j : Nat) => [(25, .int .i64 j)]) (fun j => H ++ [.cells [.lit (.map none)], .cells [.bool false], .map (arF (arE (rs.take i)) (nodesL ([l, r].take j))).1 (sA (arF (arE (rs.take i)) (nodesL ([l, r].take j))).2), .cells [.map (H.length + 2)], .cells [.str l.name, .bool l.var, .sl .none (encTs l.args), .str r.name, .bool r.var, .sl .none (encTs r.args)]]) (fun j => j ≤ 2 ∧ arBad (arE (rs.take i)) (nodesL ([l, r].take j)) = false) (fun j => 2 - j) 0 ⟨by omega, by simp [nodesL, arBad]⟩ (by simp only [push_cast, Nat.reduceAdd, Nat.reduceSub, Nat.reduceMul, Nat.reduceLT, Nat.reduceLeDiff, Nat.reduceEqDiff, Int.reduceToNat, ↓reduceIte, List.take_zero, nodesL_nil, arF_nil]) (fun j hj => ?_)
    simp only [push_cast, Nat.reduceAdd, Nat.reduceSub, Nat.reduceMul, Nat.reduceLT, Nat.reduceLeDiff, Nat.reduceEqDiff, Int.reduceToNat, ↓reduceIte]
    refine cI (fun h2 => ?_) (fun h2 => ?_)
    · obtain ⟨t, hat, hbt, htk⟩ : ∃ t, (List.take 3 (List.drop (j * 3) [AV.str l.name, .bool l.var, .sl .none (encTs l.args), .str r.name, .bool r.var, .sl .none (encTs r.args)]) = [AV.str t.name, .bool t.var, .sl .none (encTs t.args)]) ∧ t.bulk ≤ 1099511627775 ∧ [l, r].take (j + 1) = [l, r].take j ++ [t] := by
        have hj01 : j = 0 ∨ j = 1 := by omega
        rcases hj01 with rfl | rfl
        · exact ⟨l, rfl, hbl, rfl⟩
        · exact ⟨r, rfl, hbr, rfl⟩
      repeat refine ⟨by omega, ?_⟩
      rw [hat]
      simp only [push_cast, Nat.reduceAdd, Nat.reduceSub, Nat.reduceMul, Nat.reduceLT, Nat.reduceLeDiff, Nat.reduceEqDiff, Int.reduceToNat, ↓reduceIte]
      refine (walkF_ac t _).to ?_
      simp only [push_cast, Nat.reduceAdd, Nat.reduceSub, Nat.reduceMul, Nat.reduceLT, Nat.reduceLeDiff, Nat.reduceEqDiff, Int.reduceToNat, ↓reduceIte]
      obtain ⟨q0, hq0⟩ : ∃ q0, q0 = arF (arE (rs.take i)) (nodesL ([l, r].take j)) := ⟨_, rfl⟩
      have hE2 : arF (arE (rs.take i)) (nodesL ([l, r].take (j + 1))) = arF q0 (nodesI (walkT t [])) := by rw [htk, nodesL_app, arF_app, ← hq0, nodes_walkT]
      have hB2 : arBad (arE (rs.take i)) (nodesL ([l, r].take (j + 1))) = arBad q0 (nodesI (walkT t [])) := by rw [htk, nodesL_app, arBad_app, hj.2, Bool.false_or, ← hq0, nodes_walkT]
      rw [← hq0]
      refine AW_iterW _ _ (walk_iter t hbt _) H (fun pre => [.cells [.lit (.map none)], .cells [.bool false], .map (arF q0 (nodesI pre)).1 (sA (arF q0 (nodesI pre)).2), .cells [.map (H.length + 2)], .cells [.str l.name, .bool l.var, .sl .none (encTs l.args), .str r.name, .bool r.var, .sl .none (encTs r.args)], .cells [.str t.name, .bool t.var, .sl .none (encTs t.args)], .cells [.str t.name, .bool t.var, .sl .none (encTs t.args)]]) 7 (arNx q0) rfl ok153 (by simp only [push_cast, Nat.reduceAdd, Nat.reduceSub, Nat.reduceMul, Nat.reduceLT, Nat.reduceLeDiff, Nat.reduceEqDiff, Int.reduceToNat, ↓reduceIte, nodesI_nil, arF_nil]) (fun _ => rfl) (fun lp => by simp only [push_cast, Nat.reduceAdd, Nat.reduceSub, Nat.reduceMul, Nat.reduceLT, Nat.reduceLeDiff, Nat.reduceEqDiff, Int.reduceToNat, ↓reduceIte]) (fun p => by simp only [push_cast, Nat.reduceAdd, Nat.reduceSub, Nat.reduceMul, Nat.reduceLT, Nat.reduceLeDiff, Nat.reduceEqDiff, Int.reduceToNat, ↓reduceIte]) (fun _ => rfl) (fun pre x suf X lid lp lp' he hn => ?_) (fun hN lp => ?_) (fun pre x suf c lp he hn hc => ?_)
      · simp only [push_cast, Nat.reduceAdd, Nat.reduceSub, Nat.reduceMul, Nat.reduceLT, Nat.reduceLeDiff, Nat.reduceEqDiff, Int.reduceToNat, ↓reduceIte, List.drop_length]
        refine cI (fun hv => ?_) (fun hv => ?_)
        · have e1 : arNx q0 pre x = none := by unfold arNx; rw [if_pos hv]
          have e2 : nodesI (pre ++ [x]) = nodesI pre := by rw [nodesI_snoc, nd_var hv, List.append_nil]
          simp only [push_cast, Nat.reduceAdd, Nat.reduceSub, Nat.reduceMul, Nat.reduceLT, Nat.reduceLeDiff, Nat.reduceEqDiff, Int.reduceToNat, ↓reduceIte, e1, e2]
        · have hsn : nodesI (pre ++ [x]) = nodesI pre ++ [(x.2.name, x.2.args.length)] := by rw [nodesI_snoc, nd_sym hv]
          obtain ⟨q, hq⟩ : ∃ q, q = arF q0 (nodesI pre) := ⟨_, rfl⟩
          have hst : arF q0 (nodesI (pre ++ [x])) = arStep q (x.2.name, x.2.args.length) := by rw [hsn, arF_snoc, ← hq]
          have hnx : arNx q0 pre x = if arC q (x.2.name, x.2.args.length) then some .ret else none := by unfold arNx; rw [if_neg hv, ← hq]
          rw [← hq, hst, hnx]
          refine AOp_lookupOk (strKey un9) avN q.2 (H.length + 2) q.1 x.2.name (.int .i64 0) rfl (by exact (agetN _ _ 2).trans rfl) rfl un125 (ZeroV_of (.int .i64 0) (by kernel_rfl)) ?_
          cases hg : aget q.2 x.2.name with
          | none =>
            have hc : arC q (x.2.name, x.2.args.length) = false := by simp [arC, hg]
            have hs : arStep q (x.2.name, x.2.args.length) = (q.1 + 1, aset q.2 x.2.name x.2.args.length) := by simp [arStep, hc]
            simp only [push_cast, Nat.reduceAdd, Nat.reduceSub, Nat.reduceMul, Nat.reduceLT, Nat.reduceLeDiff, Nat.reduceEqDiff, Int.reduceToNat, ↓reduceIte, hc, hs, Option.map_none, Option.getD_none, Option.isSome_none, Bool.false_eq_true, if_false]
            refine AOp_mapUpdate (strKey un9) avN q.2 (H.length + 2) q.1 x.2.name x.2.args.length rfl (by exact (agetN _ _ 2).trans rfl) rfl rfl un125 ?_
            simp only [push_cast, Nat.reduceAdd, Nat.reduceSub, Nat.reduceMul, Nat.reduceLT, Nat.reduceLeDiff, Nat.reduceEqDiff, Int.reduceToNat, ↓reduceIte, sA]
          | some k =>
            have hc : arC q (x.2.name, x.2.args.length) = !decide (k = x.2.args.length) := by simp [arC, hg]
            by_cases hk : k = x.2.args.length
            · have hc : arC q (x.2.name, x.2.args.length) = false := by rw [hc]; simpa using hk
              have hs : arStep q (x.2.name, x.2.args.length) = (q.1 + 1, aset q.2 x.2.name x.2.args.length) := by simp [arStep, hc]
              subst hk
              simp only [push_cast, Nat.reduceAdd, Nat.reduceSub, Nat.reduceMul, Nat.reduceLT, Nat.reduceLeDiff, Nat.reduceEqDiff, Int.reduceToNat, ↓reduceIte, hc, hs, avN, Option.getD_some, Option.isSome_some, Bool.false_eq_true, if_false]
              refine AOp_mapUpdate (strKey un9) avN q.2 (H.length + 2) q.1 x.2.name x.2.args.length rfl (by exact (agetN _ _ 2).trans rfl) rfl rfl un125 ?_
              simp only [push_cast, Nat.reduceAdd, Nat.reduceSub, Nat.reduceMul, Nat.reduceLT, Nat.reduceLeDiff, Nat.reduceEqDiff, Int.reduceToNat, ↓reduceIte, sA]
            · have hc : arC q (x.2.name, x.2.args.length) = true := by rw [hc]; simpa using hk
              have hs : arStep q (x.2.name, x.2.args.length) = q := by simp [arStep, hc]
              have hkz : decide ((k : Int) = (x.2.args.length : Int)) = false := by rw [decide_eq_false_iff_not]; omega
              simp only [push_cast, Nat.reduceAdd, Nat.reduceSub, Nat.reduceMul, Nat.reduceLT, Nat.reduceLeDiff, Nat.reduceEqDiff, Int.reduceToNat, ↓reduceIte, hc, hs, avN, Option.getD_some, Option.isSome_some, if_true, hkz]
      · have hbad := arNx_ok q0 _ _ rfl hN
        rw [← hB2] at hbad
        simp only [push_cast, Nat.reduceAdd, Nat.reduceSub, Nat.reduceMul, Nat.reduceLT, Nat.reduceLeDiff, Nat.reduceEqDiff, Int.reduceToNat, ↓reduceIte]
        repeat' first | refine ⟨by omega, ?_⟩ | refine cI (fun _ => ?_) (fun _ => ?_)
        refine loopW_n (j + 1) ⟨by omega, hbad⟩ (by omega) ?_
        rw [hE2]
        simp only [push_cast, Nat.reduceAdd, Nat.reduceSub, Nat.reduceMul, Nat.reduceLT, Nat.reduceLeDiff, Nat.reduceEqDiff, Int.reduceToNat, ↓reduceIte]
      · obtain ⟨rfl, hbad⟩ := arNx_bad q0 pre suf x c hc
        rw [← he, ← hB2] at hbad
        have hB : arB rs = true := by
          have e0 := rT_split rs i hil
          have h5 := hi.2
          unfold arB at h5 ⊢
          rw [e0, hlr, nodesL_app, arBad_app, h5, Bool.false_or, nodesL_app, arBad_app]
          have e6 : arBad (arE (rs.take i)) (nodesL [l, r]) = true := by
            have hj01 : j = 0 ∨ j = 1 := by omega
            rcases hj01 with rfl | rfl
            · have : [l, r] = [l, r].take 1 ++ [r] := rfl
              rw [this, nodesL_app, arBad_app, hbad]; rfl
            · exact hbad
          show (arBad (arE (rs.take i)) (nodesL [l, r]) || _) = true
          rw [e6]; rfl
        simp only [push_cast, Nat.reduceAdd, Nat.reduceSub, Nat.reduceMul, Nat.reduceLT, Nat.reduceLeDiff, Nat.reduceEqDiff, Int.reduceToNat, ↓reduceIte, hB]
        exact ⟨_, _, rfl, fun h => h.elim⟩
    · have hj2 : j = 2 := by omega
      subst hj2
      have e1 : rT (rs.take (i + 1)) = rT (rs.take i) ++ [l, r] := by rw [rT_take rs i hil, hlr]
      have e2 : arE (rs.take (i + 1)) = arF (arE (rs.take i)) (nodesL [l, r]) := by unfold arE; rw [e1, nodesL_app, arF_app]
      have e3 : arB (rs.take (i + 1)) = false := by
        have h5 := hi.2
        unfold arB at h5 ⊢
        rw [e1, nodesL_app, arBad_app, h5, Bool.false_or]; exact hj.2
      repeat' first | refine ⟨by omega, ?_⟩ | refine cI (fun _ => ?_) (fun _ => ?_)
      refine loopW_n (i + 1) ⟨by omega, e3⟩ (by omega) ?_
      rw [e2]
      simp only [push_cast, Nat.reduceAdd, Nat.reduceSub, Nat.reduceMul, Nat.reduceLT, Nat.reduceLeDiff, Nat.reduceEqDiff, Int.reduceToNat, ↓reduceIte, List.take_succ_cons, List.take_zero]
  · rw [List.take_of_length_le (show rs.length ≤ i by omega)] at hi ⊢
    simp only [push_cast, Nat.reduceAdd, Nat.reduceSub, Nat.reduceMul, Nat.reduceLT, Nat.reduceLeDiff, Nat.reduceEqDiff, Int.reduceToNat, ↓reduceIte, hi.2]
    exact ⟨_, _, rfl, fun _ => ⟨rfl, rfl⟩⟩
end Ab
set_option maxRecDepth 10000
namespace Ab
open Go Go.Proofs
theorem putRow_heapG {α : Type} [Inhabited α] (enc : α → Value) (w : World) (b off : Nat) (d : Array α) (cur : Array Value) (e : TypeId) (fr : Nat × Nat) (hb : w.heap[b]? = some (.cells cur e fr)) :
    (Go.Sort.putRow enc w b off d).heap = w.heap.setIfInBounds b (.cells (Go.Sort.putCells enc off d cur) e fr) := by
  have hlt := (Array.getElem?_eq_some_iff.1 hb).1
  unfold Go.Sort.putRow Go.Sort.mapBlock
  apply Array.ext_getElem?
  intro k
  simp only [Array.getElem?_modify, Array.getElem?_setIfInBounds]
  by_cases hk : b = k
  · subst hk
    rw [if_pos rfl, if_pos rfl, if_pos hlt, hb]; rfl
  · rw [if_neg hk, if_neg hk]
theorem putCells_getG {α : Type} [Inhabited α] (enc : α → Value) (d : Array α) (cur : Array Value) (j : Nat) (hj : j < d.size) (hj' : j < (Go.Sort.putCells enc 0 d cur).size) : (Go.Sort.putCells enc 0 d cur)[j] = enc d[j] := by
  unfold Go.Sort.putCells
  simp [hj]
end Ab
namespace Go.Proofs
open Go.Shelf Go.Sort Go.RowKit
def Tryz.sortTe_ren : Go.Shelf.Ren := ⟨fun | 6 => 86 | 15 => 123 | 14 => 122 | 28 => 164 | 29 => 165 | 20 => 156 | 21 => 157 | 22 => 158 | 23 => 159 | 24 => 160 | 25 => 161 | 26 => 162 | 27 => 163 | 46 => 179 | 47 => 180 | 48 => 181 | 49 => 182 | 50 => 183 | 57 => 190 | n => n, fun | 22 => 23 | 24 => 25 | 25 => 98 | 3 => 3 | 39 => 158 | 0 => 0 | 53 => 189 | 55 => 191 | 4 => 4 | 46 => 183 | 45 => 182 | 50 => 81 | 5 => 5 | 9 => 9 | 66 => 205 | 70 => 209 | 76 => 216 | 77 => 138 | n => n, fun | n => n⟩
theorem Tryz.sortTe : Go.Proofs.SlLaysF0.n6 Tryz.prog Tryz.sortTe_ren := {
  mixed := by kernel_rfl
  f6 := ⟨Tryz.f86.name, by decide, Tryz.func86.trans (congrArg some (by kernel_rfl))⟩
  f14 := ⟨Tryz.f122.name, by decide, Tryz.func122.trans (congrArg some (by kernel_rfl))⟩
  f15 := Tryz.func123.trans (congrArg some (by kernel_rfl))
  f20 := ⟨Tryz.f156.name, by decide, Tryz.func156.trans (congrArg some (by kernel_rfl))⟩
  f21 := ⟨Tryz.f157.name, by decide, Tryz.func157.trans (congrArg some (by kernel_rfl))⟩
  f22 := ⟨Tryz.f158.name, by decide, Tryz.func158.trans (congrArg some (by kernel_rfl))⟩
  f23 := ⟨Tryz.f159.name, by decide, Tryz.func159.trans (congrArg some (by kernel_rfl))⟩
  f24 := ⟨Tryz.f160.name, by decide, Tryz.func160.trans (congrArg some (by kernel_rfl))⟩
  f25 := ⟨Tryz.f161.name, by decide, Tryz.func161.trans (congrArg some (by kernel_rfl))⟩
  f26 := ⟨Tryz.f162.name, by decide, Tryz.func162.trans (congrArg some (by kernel_rfl))⟩
  f27 := ⟨Tryz.f163.name, by decide, Tryz.func163.trans (congrArg some (by kernel_rfl))⟩
  f28 := Tryz.func164.trans (congrArg some (by kernel_rfl))
  f29 := Tryz.func165.trans (congrArg some (by kernel_rfl))
  f46 := ⟨Tryz.f179.name, by decide, Tryz.func179.trans (congrArg some (by kernel_rfl))⟩
  f47 := Tryz.func180.trans (congrArg some (by kernel_rfl))
  f48 := Tryz.func181.trans (congrArg some (by kernel_rfl))
  f49 := ⟨Tryz.f182.name, by decide, Tryz.func182.trans (congrArg some (by kernel_rfl))⟩
  f50 := ⟨Tryz.f183.name, by decide, Tryz.func183.trans (congrArg some (by kernel_rfl))⟩
  f57 := ⟨Tryz.f190.name, by decide, Tryz.func190.trans (congrArg some (by kernel_rfl))⟩
  t0 := Tryz.underlying0
  a0 := Tryz.isAgg0
  z0 := Tryz.sizeOf0
  v0 := Tryz.zeroValue0
  t3 := Tryz.underlying3
  a3 := Tryz.isAgg3
  z3 := Tryz.sizeOf3
  v3 := Tryz.zeroValue3
  t4 := Tryz.underlying4
  a4 := Tryz.isAgg4
  z4 := Tryz.sizeOf4
  v4 := Tryz.zeroValue4
  t5 := Tryz.underlying5
  a5 := Tryz.isAgg5
  z5 := Tryz.sizeOf5
  v5 := Tryz.zeroValue5
  t9 := Tryz.underlying9
  a9 := Tryz.isAgg9
  z9 := Tryz.sizeOf9
  v9 := Tryz.zeroValue9
  t22 := Tryz.underlying23
  a22 := Tryz.isAgg23
  z22 := Tryz.sizeOf23
  v22 := Tryz.zeroValue23
  t25 := Tryz.underlying98
  a25 := Tryz.isAgg98
  z25 := Tryz.sizeOf98
  v25 := Tryz.zeroValue98
  t39 := Tryz.underlying158
  a39 := Tryz.isAgg158
  z39 := Tryz.sizeOf158
  v39 := Tryz.zeroValue158
  t45 := Tryz.underlying182
  a45 := Tryz.isAgg182
  z45 := Tryz.sizeOf182
  v45 := Tryz.zeroValue182
  t46 := Tryz.underlying183
  a46 := Tryz.isAgg183
  z46 := Tryz.sizeOf183
  v46 := Tryz.zeroValue183
  t50 := Tryz.underlying81
  a50 := Tryz.isAgg81
  z50 := Tryz.sizeOf81
  v50 := Tryz.zeroValue81
  t53 := Tryz.underlying189
  a53 := Tryz.isAgg189
  z53 := Tryz.sizeOf189
  v53 := Tryz.zeroValue189
  t55 := Tryz.underlying191
  a55 := Tryz.isAgg191
  z55 := Tryz.sizeOf191
  v55 := Tryz.zeroValue191
  t66 := Tryz.underlying205
  a66 := Tryz.isAgg205
  z66 := Tryz.sizeOf205
  v66 := Tryz.zeroValue205
  t70 := Tryz.underlying209
  a70 := Tryz.isAgg209
  z70 := Tryz.sizeOf209
  v70 := Tryz.zeroValue209
  t76 := Tryz.underlying216
  a76 := Tryz.isAgg216
  z76 := Tryz.sizeOf216
  v76 := Tryz.zeroValue216
  t77 := Tryz.underlying138
  a77 := Tryz.isAgg138
  z77 := Tryz.sizeOf138
  v77 := Tryz.zeroValue138 }
end Go.Proofs
set_option maxRecDepth 10000
namespace Go.Proofs
open Go.Shelf Go.RowKit Go.Lib Go.Sort
end Go.Proofs
namespace Ab
open Go Go.Proofs
def sysP (rs : List (Term × Term)) : Int := if rulesP rs ≠ 0 then rulesP rs else if arB rs then 6 else if (arE rs).2.any (fun s => markedP s.1) then 6 else if rs.any extraP then 7 else 0
theorem rules_ok {rs : List (Term × Term)} (h : rulesP rs = 0) : rs.length ≤ 64 ∧ ∀ r, r ∈ rs → checkP r.1 = 0 ∧ checkP r.2 = 0 := by
  unfold rulesP at h
  split at h
  · cases h
  · rename_i h1
    refine ⟨by omega, fun r hr => ?_⟩
    rw [firstErr_iff] at h
    exact ⟨h _ (mem_rT.2 ⟨r, hr, .inl rfl⟩), h _ (mem_rT.2 ⟨r, hr, .inr rfl⟩)⟩
def BndR (rs : List (Term × Term)) : Prop := ∀ r, r ∈ rs → r.1.bulk ≤ 1099511627770 ∧ r.2.bulk ≤ 1099511627770
theorem nodes_key {L : List (List UInt8 × Nat)} {q : Nat × List (List UInt8 × Nat)} : ∀ x, x ∈ (arF q L).2 → (∃ y, y ∈ q.2 ∧ y.1 = x.1) ∨ ∃ y, y ∈ L ∧ y.1 = x.1 := by
  induction L generalizing q with
  | nil => intro x hx; exact .inl ⟨x, hx, rfl⟩
  | cons s r ih =>
    intro x hx
    rcases ih (q := arStep q s) x hx with ⟨y, hy, e⟩ | ⟨y, hy, e⟩
    · have : (∃ z, z ∈ q.2 ∧ z.1 = y.1) ∨ y.1 = s.1 := by
        unfold arStep at hy
        split at hy
        · exact .inl ⟨y, hy, rfl⟩
        · have : ∀ (m : List (List UInt8 × Nat)), y ∈ aset m s.1 s.2 → (∃ z, z ∈ m ∧ z.1 = y.1) ∨ y.1 = s.1 := by
            intro m
            induction m with
            | nil => intro h; simp [aset] at h; rw [h]; exact .inr rfl
            | cons p m ih2 =>
              intro h
              unfold aset at h
              split at h
              · rcases List.mem_cons.1 h with h | h
                · rw [h]; exact .inr rfl
                · exact .inl ⟨y, by simp [h], rfl⟩
              · rcases List.mem_cons.1 h with h | h
                · exact .inl ⟨y, by simp [h], rfl⟩
                · rcases ih2 h with ⟨z, hz, e2⟩ | h
                  · exact .inl ⟨z, by simp [hz], e2⟩
                  · exact .inr h
          exact this _ hy
      rcases this with ⟨z, hz, e2⟩ | e2
      · exact .inl ⟨z, hz, e2.trans e⟩
      · exact .inr ⟨s, by simp, by rw [← e, e2]⟩
    · exact .inr ⟨y, by simp [hy], e⟩
theorem nodes_name : ∀ (ts : List Term) x, x ∈ nodesL ts → ∃ t, t ∈ ts ∧ x.1.length < t.bulk
  | [], x, h => by simp [nodesL] at h
  | .mk n u xs :: r, x, h => by
    rw [nodesL, List.mem_append, List.mem_append] at h
    rcases h with h | h | h
    · refine ⟨_, List.mem_cons_self, ?_⟩
      unfold ndT at h
      split at h
      · cases h
      · rw [List.mem_singleton] at h; rw [h]; exact Term.name_le
    · obtain ⟨t, ht, hl⟩ := nodes_name xs x h
      have := Term.arg_le (n := n) (v := u) ht
      exact ⟨_, List.mem_cons_self, by omega⟩
    · obtain ⟨t, ht, hl⟩ := nodes_name r x h
      exact ⟨t, List.mem_cons_of_mem _ ht, hl⟩
theorem arE_name {rs : List (Term × Term)} (hb : BndR rs) : ∀ x, x ∈ (arE rs).2 → x.1.length < 1099511627776 := by
  intro x hx
  rcases nodes_key x hx with ⟨y, hy, _⟩ | ⟨y, hy, e⟩
  · cases hy
  · obtain ⟨t, ht, hl⟩ := nodes_name _ y hy
    obtain ⟨r, hr, h⟩ := mem_rT.1 ht
    have := hb r hr
    rw [← e]
    rcases h with rfl | rfl <;> omega
theorem checkSystem_ac (rs : List (Term × Term)) (hlen : rs.length < 1099511627776) (hb : BndR rs) (H : List AObj) : ACall Tryz.prog 43 [.sl .none (encL encRu rs)] H (fun r H' => r = .int .i64 (sysP rs) ∧ H' = H) := by
  have hb' : ∀ r, r ∈ rs → r.1.bulk ≤ 1099511627775 ∧ r.2.bulk ≤ 1099511627775 := fun r hr => by have := hb r hr; omega
  refine ACall_V (H.length) 28 [.tmp 2] Tryz.func43 rfl rfl rfl ?_
  simp only [push_cast, Nat.reduceAdd, Nat.reduceSub, Nat.reduceMul, Nat.reduceLT, Nat.reduceLeDiff, Nat.reduceEqDiff, Int.reduceToNat, ↓reduceIte]
  refine (checkRules_ac rs hlen hb' _).to ?_
  simp only [push_cast, Nat.reduceAdd, Nat.reduceSub, Nat.reduceMul, Nat.reduceLT, Nat.reduceLeDiff, Nat.reduceEqDiff, Int.reduceToNat, ↓reduceIte]
  refine cI (fun h1 => ?_) (fun h1 => ?_)
  · refine (arities_ac rs hlen hb' _).mono ?_
    rintro r H' ⟨rfl, v, es, rfl, hve⟩
    cases hB : arB rs with
    | true =>
      have e : sysP rs = 6 := by simp [sysP, h1, hB]
      simp only [push_cast, Nat.reduceAdd, Nat.reduceSub, Nat.reduceMul, Nat.reduceLT, Nat.reduceLeDiff, Nat.reduceEqDiff, Int.reduceToNat, ↓reduceIte, e, Bool.not_true]
    | false =>
      obtain ⟨rfl, rfl⟩ := hve hB
      simp only [push_cast, Nat.reduceAdd, Nat.reduceSub, Nat.reduceMul, Nat.reduceLT, Nat.reduceLeDiff, Nat.reduceEqDiff, Int.reduceToNat, ↓reduceIte, Bool.not_false, Bool.false_eq_true, if_false]
      have hnm := arE_name hb
      obtain ⟨q, hq⟩ : ∃ q, q = arE rs := ⟨_, rfl⟩
      rw [← hq] at hnm ⊢
      refine AOp_range_map (H.length + 2) q.1 (sA q.2) rfl (by exact (agetN _ _ 2).trans rfl) un125 ?_
      simp only [push_cast, Nat.reduceAdd, Nat.reduceSub, Nat.reduceMul, Nat.reduceLT, Nat.reduceLeDiff, Nat.reduceEqDiff, Int.reduceToNat, ↓reduceIte]
      refine AW_loopW (maskG 29 [0, 19]) (fun (p : List (List UInt8 × Nat) × List (List UInt8 × Nat) × Option (List UInt8 × Nat)) => []) (fun p => H ++ [.cells [.map (H.length + 2)], .cells [.bool true], .map q.1 (sA q.2), .iter (H.length + 2) q.1 (sA p.2.1) (lN p.2.2)]) (fun p => (p.1 ++ p.2.1).Perm q.2 ∧ p.1.any (fun s => markedP s.1) = false) (fun p => p.2.1.length) ([], q.2, none) ⟨List.Perm.refl _, rfl⟩ (by simp only [push_cast, Nat.reduceAdd, Nat.reduceSub, Nat.reduceMul, Nat.reduceLT, Nat.reduceLeDiff, Nat.reduceEqDiff, Int.reduceToNat, ↓reduceIte, lN_n]) (fun p hp => ?_)
      obtain ⟨xs, left, last⟩ := p
      obtain ⟨hp, hall⟩ := hp
      simp only at hp hall
      simp only [push_cast, Nat.reduceAdd, Nat.reduceSub, Nat.reduceMul, Nat.reduceLT, Nat.reduceLeDiff, Nat.reduceEqDiff, Int.reduceToNat, ↓reduceIte]
      refine AOp_next_map (H.length + 3) (H.length + 2) q.1 (sA q.2) (sA left) (lN last) rfl (by exact (agetN _ _ 3).trans rfl) (by exact (agetN _ _ 2).trans rfl) (fun he => ?_) (fun j hj => ?_)
      · have hl0 : left = [] := by cases left with | nil => rfl | cons a l => simp [sA, amap] at he
        subst hl0
        rw [List.append_nil] at hp
        have hm : q.2.any (fun s => markedP s.1) = false := by
          rw [← Bool.not_eq_true, List.any_eq_true] at hall ⊢
          rintro ⟨x, hx, hxm⟩
          exact hall ⟨x, hp.mem_iff.2 hx, hxm⟩
        simp only [push_cast, Nat.reduceAdd, Nat.reduceSub, Nat.reduceMul, Nat.reduceLT, Nat.reduceLeDiff, Nat.reduceEqDiff, Int.reduceToNat, ↓reduceIte]
        refine (containsRu_ac rs 93 [] extraP _ hlen ok93 (by simp [ScopedL]) (fun i h => extra_ac _ (hb _ (List.getElem_mem h)).1 (hb _ (List.getElem_mem h)).2 _)).to ?_
        simp only [push_cast, Nat.reduceAdd, Nat.reduceSub, Nat.reduceMul, Nat.reduceLT, Nat.reduceLeDiff, Nat.reduceEqDiff, Int.reduceToNat, ↓reduceIte]
        refine cI (fun hx => ?_) (fun hx => ?_)
        · have e : sysP rs = 7 := by simp only [sysP, h1, hB, ← hq, hm]; simp [hx]
          simp only [push_cast, Nat.reduceAdd, Nat.reduceSub, Nat.reduceMul, Nat.reduceLT, Nat.reduceLeDiff, Nat.reduceEqDiff, Int.reduceToNat, ↓reduceIte, e]
        · have e : sysP rs = 0 := by simp only [sysP, h1, hB, ← hq, hm]; simp [hx]
          simp only [push_cast, Nat.reduceAdd, Nat.reduceSub, Nat.reduceMul, Nat.reduceLT, Nat.reduceLeDiff, Nat.reduceEqDiff, Int.reduceToNat, ↓reduceIte, e]
      · have hjl : j < left.length := by rw [sA_len] at hj; exact hj
        have e1 : (sA left)[j] = (.str left[j].1, avN left[j].2) := by simp [sA, amap]
        have e2 : (sA left).eraseIdx j = sA (left.eraseIdx j) := by simp only [sA, amap, erase_map]
        have hmm : left[j] ∈ q.2 := hp.mem_iff.1 (by simp)
        rw [e1, e2]
        simp only [push_cast, Nat.reduceAdd, Nat.reduceSub, Nat.reduceMul, Nat.reduceLT, Nat.reduceLeDiff, Nat.reduceEqDiff, Int.reduceToNat, ↓reduceIte]
        refine AOp_entry_map (H.length + 3) (H.length + 2) q.1 (sA q.2) (sA (left.eraseIdx j)) (.str left[j].1, avN left[j].2) rfl (by exact (agetN _ _ 3).trans rfl) (by exact (agetN _ _ 2).trans rfl) ?_
        simp only [push_cast, Nat.reduceAdd, Nat.reduceSub, Nat.reduceMul, Nat.reduceLT, Nat.reduceLeDiff, Nat.reduceEqDiff, Int.reduceToNat, ↓reduceIte]
        refine (markedT_ac left[j].1 (hnm _ hmm) _).to ?_
        simp only [push_cast, Nat.reduceAdd, Nat.reduceSub, Nat.reduceMul, Nat.reduceLT, Nat.reduceLeDiff, Nat.reduceEqDiff, Int.reduceToNat, ↓reduceIte]
        refine cI (fun hx => ?_) (fun hx => ?_)
        · have hm : q.2.any (fun s => markedP s.1) = true := List.any_eq_true.2 ⟨_, hmm, hx⟩
          have e : sysP rs = 6 := by simp only [sysP, h1, hB, ← hq, hm]; simp
          simp only [push_cast, Nat.reduceAdd, Nat.reduceSub, Nat.reduceMul, Nat.reduceLT, Nat.reduceLeDiff, Nat.reduceEqDiff, Int.reduceToNat, ↓reduceIte, e]
        · refine loopW_n (xs ++ [left[j]], left.eraseIdx j, some left[j]) ⟨?_, ?_⟩ (by simp only [List.length_eraseIdx]; split <;> omega) (by simp only [push_cast, Nat.reduceAdd, Nat.reduceSub, Nat.reduceMul, Nat.reduceLT, Nat.reduceLeDiff, Nat.reduceEqDiff, Int.reduceToNat, ↓reduceIte, lN_s])
          · refine List.Perm.trans ?_ hp
            rw [List.append_assoc]
            refine List.Perm.append_left xs ?_
            rw [List.eraseIdx_eq_take_drop_succ]
            refine (List.perm_middle (l₁ := left.take j) (l₂ := left.drop (j + 1)) (a := left[j])).symm.trans ?_
            rw [← List.drop_eq_getElem_cons hjl, List.take_append_drop]
          · rw [List.any_append, hall]; simpa using hx
  · have e : sysP rs = rulesP rs := by simp [sysP, h1]
    simp only [push_cast, Nat.reduceAdd, Nat.reduceSub, Nat.reduceMul, Nat.reduceLT, Nat.reduceLeDiff, Nat.reduceEqDiff, Int.reduceToNat, ↓reduceIte, e]
end Ab
set_option maxRecDepth 10000
namespace Ab
open Go Go.Proofs
@[reducible] def encSt (s : Int × List Int) : AV := .agg [.int .i64 s.1, .sl .none (encP s.2)]
theorem cellSt : ∀ (x : Int × List Int) c, c ∈ (encSt x).cells → c.isCell = true := by
  intro x c hc
  simp only [encSt, AV.cells, List.mem_cons, List.not_mem_nil, or_false] at hc
  rcases hc with rfl | rfl <;> rfl
theorem uniSt (l : List (Int × List Int)) : Uni (1 + 1) (encL encSt l) = True := eq_true (uni_encL (enc := encSt) (k := 2) (fun _ => rfl) l)
theorem scSt_ (n : Nat) (l : List (Int × List Int)) : ScopedL n (encL encSt l) = True := eq_true (scoped_encL (fun x => by simp [Scoped, ScopedL, scoped_encP]) l)
attribute [push_cast] uniSt scSt_
def SysB (rs : List (Term × Term)) : Prop := rs.length ≤ 64 ∧ ∀ r, r ∈ rs → r.1.bulk ≤ 1099511627770 ∧ r.2.bulk ≤ 1099511627770
theorem at_ac' (rs : List (Term × Term)) (hr : SysB rs) (p : List Int) (hp : p.length < 1099511627770) (s : Term) (hs : s.bulk ≤ 1099511627775) (H : List AObj) :
    ACall Tryz.prog 121 [.sl .none (encL encRu rs), .sl .none (encP p), encT s] H (fun r H' => r = .sl .none (encL encSt (atV rs p s)) ∧ H' = H) := by
  obtain ⟨hr1, hr2⟩ := hr
  refine ACall_VA (H.length) 35 [.tmp 6] Tryz.func121 rfl rfl rfl ?_
  refine AW_reserve 1 ?_
  refine AW_of_W ?_
  simp only [push_cast, Nat.reduceAdd, Nat.reduceSub, Nat.reduceMul, Nat.reduceLT, Nat.reduceLeDiff, Nat.reduceEqDiff, Int.reduceToNat, ↓reduceIte]
  refine AW_loopW (maskG 38 [1, 3, 1, 4, 0, 0]) (fun (i : Nat) => [(14, .int .i64 i), (7, gSl H.length (encL encSt (atF (rs.take i) 0 p s)))]) (fun i => H ++ [gTok 86 2 (encL encSt (atF (rs.take i) 0 p s)), .cells [.str s.name, .bool s.var, .sl .none (encTs s.args)]]) (fun i => i ≤ rs.length ∧ (s.var = true → i = 0)) (fun i => rs.length - i) 0 ⟨Nat.zero_le _, fun _ => rfl⟩ (by simp only [push_cast, Nat.reduceAdd, Nat.reduceSub, Nat.reduceMul, Nat.reduceLT, Nat.reduceLeDiff, Nat.reduceEqDiff, Int.reduceToNat, ↓reduceIte, List.take_zero, atF, encL_nil]) (fun i hi => ?_)
  simp only [push_cast, Nat.reduceAdd, Nat.reduceSub, Nat.reduceMul, Nat.reduceLT, Nat.reduceLeDiff, Nat.reduceEqDiff, Int.reduceToNat, ↓reduceIte]
  have hal := atF_len (rs.take i) 0 p s
  rw [List.length_take] at hal
  refine cI (fun h => ?_) (fun h => ?_)
  · have hil : i < rs.length := by omega
    have hrb := hr2 _ (List.getElem_mem hil)
    refine ⟨hil, cI (fun hv => ?_) (fun hv => ?_)⟩
    · have hi0 := hi.2 hv
      subst hi0
      simp [atV, hv, atF]
    · refine (find_ac (rs[i]'hil).1 s hrb.1 hs _).to ?_
      have hst := atF_take rs p s i hil
      simp only [push_cast, Nat.reduceAdd, Nat.reduceSub, Nat.reduceMul, Nat.reduceLT, Nat.reduceLeDiff, Nat.reduceEqDiff, Int.reduceToNat, ↓reduceIte]
      refine cI (fun hm => ?_) (fun hm => ?_)
      · rw [if_pos hm] at hst
        refine (clone2_ac p (by omega) _).to ?_
        simp only [push_cast, Nat.reduceAdd, Nat.reduceSub, Nat.reduceMul, Nat.reduceLT, Nat.reduceLeDiff, Nat.reduceEqDiff, Int.reduceToNat, ↓reduceIte]
        refine app1_L encSt (sz := 2) (fun _ => rfl) cellSt _ H.length (atF (rs.take i) 0 p s) ((i : Int), p) _ rfl rfl (by exact aget0 _ _ _) sl26 sz86 by86 zr86 rfl (by decide) (by decide) (by omega) ?_
        rw [← hst]
        simp only [push_cast, Nat.reduceAdd, Nat.reduceSub, Nat.reduceMul, Nat.reduceLT, Nat.reduceLeDiff, Nat.reduceEqDiff, Int.reduceToNat, ↓reduceIte]
        repeat' first | refine ⟨by omega, ?_⟩ | refine cI (fun _ => ?_) (fun _ => ?_)
        exact loopW_n (i + 1) ⟨by omega, fun hv' => absurd hv' hv⟩ (by omega) (by simp only [push_cast, Nat.reduceAdd, Nat.reduceSub, Nat.reduceMul, Nat.reduceLT, Nat.reduceLeDiff, Nat.reduceEqDiff, Int.reduceToNat, ↓reduceIte])
      · rw [if_neg hm, List.append_nil] at hst
        repeat' first | refine ⟨by omega, ?_⟩ | refine cI (fun _ => ?_) (fun _ => ?_)
        refine loopW_n (i + 1) ⟨by omega, fun hv' => absurd hv' hv⟩ (by omega) ?_
        rw [hst]
        simp only [push_cast, Nat.reduceAdd, Nat.reduceSub, Nat.reduceMul, Nat.reduceLT, Nat.reduceLeDiff, Nat.reduceEqDiff, Int.reduceToNat, ↓reduceIte]
  · have hil : i = rs.length := by omega
    subst hil
    rw [List.take_length]
    cases hv : s.var with
    | true =>
      have h0 := hi.2 hv
      have e := List.eq_nil_of_length_eq_zero h0
      subst e
      simp [atV, hv, atF]
    | false => simp [atV, hv]
end Ab
set_option maxRecDepth 10000
namespace Ab
open Go Go.Proofs Go.Proofs.YtpgjcbeoipldgaaGreat
section
variable {H : Type}
theorem arg_scalar {P : Program} {enc : TypeId × Value → H} {W : World} {ts : List TypeId} (hts : closedK P ts = true) {t : TypeId} (ht : t ∈ ts) {v : Value} {d : DataW H} {ps : List MemPlace} {base : Nat} {spare : Nat → Bool} {held : Bool} {kd : IntKind} (hu : P.underlying t = some (.int kd)) {r : Reach} {b0 : Nat}
    (hok : Value.okWide P W r b0 t v) (h : DataW.Trod enc P W base spare held t v d ps) : ∃ n a, toAV P n t d = some [a] ∧ VRel (ctx0 W) a v := by
  obtain ⟨n, hn⟩ := h
  obtain ⟨avs, h1, h2⟩ := trod_av (C := ctx0 W) (ctx0_cell W) hts n t _ d ps hn ht
  have hagg : aggK P t = false := by unfold aggK kindOf; rw [hu]
  obtain ⟨a, rfl⟩ := toAV_one hagg h1
  refine ⟨n, a, h1, ?_⟩
  have hv : v.cells.toList = [v] := by
    unfold Value.okWide at hok
    rw [hu] at hok
    cases v <;> first | rfl | (unfold Cell.okWide at hok; simp [hu] at hok; done) | (simp [Cell.okWide, Cell.ok, hu] at hok; done)
  have := h2.rel 0 (by simp) (by rw [hv]; simp)
  simp only [hv] at this
  simpa using this
theorem kdStep : kindOf Tryz.prog 86 = .struct [3, 48] := by kernel_rfl
theorem step_form (n : Nat) (d : DataW H) (avs : List AV) (h : toAV Tryz.prog n 86 d = some avs) : ∃ s : Int × List Int, .agg avs = encSt s ∧ s.2.length + 1 ≤ Rows.uptoBulk d := by
  obtain ⟨m, parts, avss, rfl, rfl, hl, hm, rfl⟩ := toAV_struct kdStep h
  match parts, hl, hm with
  | [d1, d2], _, hm =>
    obtain ⟨h1, h2⟩ := mapM_get hm
    match avss, h1, h2 with
    | [a1, a2], _, h2 =>
      obtain ⟨a, _, rfl⟩ := toAV_int kdInt (h2 0 (by simp) (by simp))
      obtain ⟨p, rfl, b2⟩ := pos_form m d2 a2 (h2 1 (by simp) (by simp))
      exact ⟨(a, p), by simp, by have := bulk_pos d1; simp only [Rows.uptoBulk, Rows.uptoBulkAll]; omega⟩
end
end Ab
set_option maxRecDepth 10000
namespace Ab
open Go Go.Proofs
def matchRs : List Term → List Term → List (List UInt8 × Term) → List (List UInt8 × Term) × Bool
  | .mk n v xs :: r, y :: r', σ =>
    if v then (if (leafM σ n y).2 then matchRs r r' (leafM σ n y).1 else ([], false))
    else if clash n xs.length y then ([], false)
    else if (matchRs xs y.args σ).2 then matchRs r r' (matchRs xs y.args σ).1 else ([], false)
  | _, _, σ => (σ, true)
def matchR (p t : Term) (σ : List (List UInt8 × Term)) : List (List UInt8 × Term) × Bool :=
  if p.var then leafM σ p.name t else if clash p.name p.args.length t then ([], false) else matchRs p.args t.args σ
theorem matchR_v (n : List UInt8) (xs : List Term) (y : Term) (σ : List (List UInt8 × Term)) : matchR (.mk n true xs) y σ = leafM σ n y := by unfold matchR; exact if_pos rfl
theorem matchR_c {n : List UInt8} {xs : List Term} {y : Term} (σ : List (List UInt8 × Term)) (h : clash n xs.length y = true) : matchR (.mk n false xs) y σ = ([], false) := by
  unfold matchR
  exact (if_neg (by simp [Term.var_mk])).trans (if_pos h)
theorem matchR_g {n : List UInt8} {xs : List Term} {y : Term} (σ : List (List UInt8 × Term)) (h : clash n xs.length y = false) : matchR (.mk n false xs) y σ = matchRs xs y.args σ := by
  unfold matchR
  exact (if_neg (by simp [Term.var_mk])).trans (if_neg (fun e => by rw [show clash (Term.mk n false xs).name (Term.mk n false xs).args.length y = clash n xs.length y from rfl, h] at e; cases e))
theorem matchRs_cons (p y : Term) (r r' : List Term) (σ : List (List UInt8 × Term)) : matchRs (p :: r) (y :: r') σ = if (matchR p y σ).2 then matchRs r r' (matchR p y σ).1 else ([], false) := by
  cases p with
  | mk n v xs =>
    rw [matchRs]
    cases v with
    | true => rw [matchR_v]; simp
    | false =>
      cases hc : clash n xs.length y with
      | true => rw [matchR_c σ hc]; simp
      | false => rw [matchR_g σ hc]; simp
theorem matchRs_nil (ys : List Term) (σ : List (List UInt8 × Term)) : matchRs [] ys σ = (σ, true) := by cases ys <;> simp [matchRs]
theorem matchRs_eq : ∀ (xs ys : List Term) (σ : List (List UInt8 × Term)), (matchRs xs ys σ).2 = (matchTs xs ys σ).2 ∧ ((matchTs xs ys σ).2 = true → matchRs xs ys σ = matchTs xs ys σ)
  | [], ys, σ => by rw [matchRs_nil, matchTs_nil]; exact ⟨rfl, fun _ => rfl⟩
  | .mk n v xs :: r, [], σ => by simp [matchRs, matchTs]
  | .mk n v xs :: r, y :: r', σ => by
    have one : (matchR (.mk n v xs) y σ).2 = (matchP (.mk n v xs) y σ).2 ∧ ((matchP (.mk n v xs) y σ).2 = true → matchR (.mk n v xs) y σ = matchP (.mk n v xs) y σ) := by
      cases v with
      | true => rw [matchR_v, matchP_v]; exact ⟨rfl, fun _ => rfl⟩
      | false =>
        cases hc : clash n xs.length y with
        | true => rw [matchR_c σ hc, matchP_c σ hc]; exact ⟨rfl, fun h => by cases h⟩
        | false => rw [matchR_g σ hc, matchP_g σ hc]; exact matchRs_eq xs y.args σ
    rw [matchRs_cons, matchTs_cons, one.1]
    cases hq : (matchP (.mk n v xs) y σ).2 with
    | false => simp
    | true =>
      simp only [if_true]
      rw [one.2 hq]
      exact matchRs_eq r r' _
theorem matchRs_one (x y : Term) (σ : List (List UInt8 × Term)) : (matchRs [x] [y] σ).2 = (matchR x y σ).2 ∧ ((matchR x y σ).2 = true → matchRs [x] [y] σ = matchR x y σ) := by
  rw [matchRs_cons, matchRs_nil]
  cases h : (matchR x y σ).2 with
  | true => simp only [if_true]; exact ⟨by simp, fun _ => by rw [← h]⟩
  | false => simp
theorem matchR_eq (p t : Term) (σ : List (List UInt8 × Term)) : (matchR p t σ).2 = (matchP p t σ).2 ∧ ((matchP p t σ).2 = true → matchR p t σ = matchP p t σ) := by
  obtain ⟨h1, h2⟩ := matchRs_eq [p] [t] σ
  obtain ⟨g1, g2⟩ := matchRs_one p t σ
  rw [matchTs_one] at h1 h2
  exact ⟨g1.symm.trans h1, fun h => (g2 (g1.symm.trans (h1.trans h))).symm.trans (h2 h)⟩
theorem matchRs_split : ∀ (a a' b b' : List Term) (σ : List (List UInt8 × Term)), a.length = a'.length → matchRs (a ++ b) (a' ++ b') σ = if (matchRs a a' σ).2 then matchRs b b' (matchRs a a' σ).1 else ([], false)
  | [], [], b, b', σ, _ => by rw [matchRs_nil]; simp
  | [], _ :: _, _, _, _, h => by simp at h
  | _ :: _, [], _, _, _, h => by simp at h
  | x :: r, y :: r', b, b', σ, h => by
    rw [List.cons_append, List.cons_append, matchRs_cons, matchRs_cons]
    cases hq : (matchR x y σ).2 with
    | false => simp
    | true =>
      simp only [if_true]
      exact matchRs_split r r' b b' _ (by simpa using h)
theorem matchRs_step {xs ys : List Term} {σ : List (List UInt8 × Term)} (i : Nat) (h1 : i < xs.length) (h2 : i < ys.length) (h : (matchRs (xs.take i) (ys.take i) σ).2 = true) :
    ((matchR xs[i] ys[i] (matchRs (xs.take i) (ys.take i) σ).1).2 = true → matchRs (xs.take (i + 1)) (ys.take (i + 1)) σ = matchR xs[i] ys[i] (matchRs (xs.take i) (ys.take i) σ).1) ∧
    ((matchR xs[i] ys[i] (matchRs (xs.take i) (ys.take i) σ).1).2 = false → matchRs xs ys σ = ([], false)) := by
  have e : matchRs (xs.take (i + 1)) (ys.take (i + 1)) σ = matchRs [xs[i]] [ys[i]] (matchRs (xs.take i) (ys.take i) σ).1 := by
    rw [List.take_succ_eq_append_getElem h1, List.take_succ_eq_append_getElem h2, matchRs_split _ _ _ _ _ (by rw [List.length_take, List.length_take]; omega), h]
    simp only [if_true]
  obtain ⟨g1, g2⟩ := matchRs_one xs[i] ys[i] (matchRs (xs.take i) (ys.take i) σ).1
  refine ⟨fun hq => e.trans (g2 hq), fun hq => ?_⟩
  have hs := matchRs_split (xs.take (i + 1)) (ys.take (i + 1)) (xs.drop (i + 1)) (ys.drop (i + 1)) σ (by rw [List.length_take, List.length_take]; omega)
  rw [List.take_append_drop, List.take_append_drop, e, g1, hq] at hs
  rw [hs]; simp
theorem bound_ac (σ : List (List UInt8 × Term)) (v : List UInt8) (hlen : σ.length < 1099511627776) (H : List AObj) : ACall Tryz.prog 187 [.sl .none (encL encBd σ), .str v] H (fun r H' => r = .bool (look σ v).isSome ∧ H' = H) := by
  have key : (look σ v).isSome = σ.any fun b => decide (b.1 = v) := by
    unfold look
    rw [Option.isSome_map, Bool.eq_iff_iff, List.find?_isSome, List.any_eq_true]
  refine ACall_V (H.length) 16 [.tmp 4] Tryz.func187 rfl rfl rfl ?_
  simp only [push_cast, Nat.reduceAdd, Nat.reduceSub, Nat.reduceMul, Nat.reduceLT, Nat.reduceLeDiff, Nat.reduceEqDiff, Int.reduceToNat, ↓reduceIte]
  refine AW_loopW (maskG 18 [1, 5, 0, 0]) (fun (i : Nat) => [(9, .int .i64 i)]) (fun _ => H) (fun i => i ≤ σ.length ∧ (σ.take i).any (fun b => decide (b.1 = v)) = false) (fun i => σ.length - i) 0 ⟨Nat.zero_le _, by simp⟩ (by simp only [push_cast, Nat.reduceAdd, Nat.reduceSub, Nat.reduceMul, Nat.reduceLT, Nat.reduceLeDiff, Nat.reduceEqDiff, Int.reduceToNat, ↓reduceIte]) (fun i hi => ?_)
  simp only [push_cast, Nat.reduceAdd, Nat.reduceSub, Nat.reduceMul, Nat.reduceLT, Nat.reduceLeDiff, Nat.reduceEqDiff, Int.reduceToNat, ↓reduceIte]
  refine cI (fun h => ?_) (fun h => ?_)
  · have hil : i < σ.length := by omega
    repeat refine ⟨by omega, ?_⟩
    refine cI (fun he => ?_) (fun he => ?_)
    · rw [key, any_get hil (by simpa using he)]
    · repeat' first | refine ⟨by omega, ?_⟩ | refine cI (fun _ => ?_) (fun _ => ?_)
      exact loopW_n (i + 1) ⟨by omega, any_take_false hi.2 hil (by simpa using he)⟩ (by omega) (by simp only [push_cast, Nat.reduceAdd, Nat.reduceSub, Nat.reduceMul, Nat.reduceLT, Nat.reduceLeDiff, Nat.reduceEqDiff, Int.reduceToNat, ↓reduceIte])
  · have e := hi.2
    rw [List.take_of_length_le (by omega)] at e
    rw [key, e]
theorem with_ac (σ : List (List UInt8 × Term)) (v : List UInt8) (t : Term) (hlen : σ.length < 1099511627775) (hv : v.length < 1099511627776) (hn : ∀ b, b ∈ σ → b.1.length < 1099511627776) (H : List AObj) :
    ACall Tryz.prog 188 [.sl .none (encL encBd σ), .str v, encT t] H (fun r H' => r = .sl .none (encL encBd (insB σ v t)) ∧ H' = H) := by
  refine ACall_VA (H.length) 35 [.tmp 6] Tryz.func188 rfl rfl rfl ?_
  refine AW_reserve 1 ?_
  refine AW_of_W ?_
  simp only [push_cast, Nat.reduceAdd, Nat.reduceSub, Nat.reduceMul, Nat.reduceLT, Nat.reduceLeDiff, Nat.reduceEqDiff, Int.reduceToNat, ↓reduceIte]
  refine AW_loopW (maskG 38 [0, 0, 3, 1]) (fun (i : Nat) => [(7, .int .i64 i)]) (fun _ => H ++ [.dead, .cells [.str t.name, .bool t.var, .sl .none (encTs t.args)]]) (fun i => i ≤ σ.length ∧ ∀ j (h : j < σ.length), j < i → Lib.compareBytes σ[j].1 v < 0) (fun i => σ.length - i) 0 ⟨Nat.zero_le _, fun j h1 h => by omega⟩ (by simp only [push_cast, Nat.reduceAdd, Nat.reduceSub, Nat.reduceMul, Nat.reduceLT, Nat.reduceLeDiff, Nat.reduceEqDiff, Int.reduceToNat, ↓reduceIte]) (fun i hi => ?_)
  simp only [push_cast, Nat.reduceAdd, Nat.reduceSub, Nat.reduceMul, Nat.reduceLT, Nat.reduceLeDiff, Nat.reduceEqDiff, Int.reduceToNat, ↓reduceIte]
  have hdr : List.take (σ.length - i) (List.drop i σ) = σ.drop i := List.take_of_length_le (by simp)
  have hfin : (∀ h : i < σ.length, ¬ Lib.compareBytes σ[i].1 v < 0) → insB σ v t = σ.take i ++ ([(v, t)] ++ σ.drop i) := by
    intro h1
    have hia := insAt_eq (σ.map (·.1)) v i (by rw [List.length_map]; exact hi.1) (fun j hj hji => by rw [List.getElem_map]; exact hi.2 j (by simpa using hj) hji) (fun hj => by rw [List.getElem_map]; exact h1 (by simpa using hj))
    unfold insB
    rw [hia, List.append_assoc]
  refine cI (fun h => ?_) (fun h => ?_)
  · have hil : i < σ.length := by omega
    refine ⟨hil, ?_⟩
    refine (cmpNames_ac (σ[i]'hil).1 v (hn _ (List.getElem_mem hil)) hv _).to ?_
    simp only [push_cast, Nat.reduceAdd, Nat.reduceSub, Nat.reduceMul, Nat.reduceLT, Nat.reduceLeDiff, Nat.reduceEqDiff, Int.reduceToNat, ↓reduceIte]
    refine cI (fun hc => ?_) (fun hc => ?_)
    · repeat' first | refine ⟨by omega, ?_⟩ | refine cI (fun _ => ?_) (fun _ => ?_)
      refine loopW_n (i + 1) ⟨by omega, fun j h1 h => ?_⟩ (by omega) (by simp only [push_cast, Nat.reduceAdd, Nat.reduceSub, Nat.reduceMul, Nat.reduceLT, Nat.reduceLeDiff, Nat.reduceEqDiff, Int.reduceToNat, ↓reduceIte])
      rcases Nat.lt_or_ge j i with hj | hj
      · exact hi.2 j h1 hj
      · have hji : j = i := by omega
        subst hji; exact hc
    · skip
      apply AW_drawE [some 24, some 25, some 26, some 27, some 28, some 29, some 30, some 31, some 32, some 33, some 34, some 35, some 36, some 37, some 6] [([false, false, false], _), ([true, false, false], _), ([true, true, false], _), ([true, true, true], _)] [none, none, none, none, some 0, none, none, none, none, some 1, none, none, none, some 2, none] 3 [(0, [false, false, false], []), (1, [false, false, false], [0]), (2, [false, false, false], [7]), (3, [false, false, false], [25, 0]), (4, [false, false, false], [24, 2]), (5, [true, false, false], [1]), (6, [true, false, false], [5]), (7, [true, false, false], [29, 0]), (8, [true, false, false], [31]), (9, [true, false, false], [28, 3]), (10, [true, true, false], [0]), (11, [true, true, false], [7]), (12, [true, true, false], [34, 0]), (13, [true, true, false], [33, 2]), (14, [true, true, true], [37]), (1, [true, false, false], [0]), (1, [true, true, false], [0]), (1, [true, true, true], [0]), (2, [true, false, false], [7]), (2, [true, true, false], [7]), (2, [true, true, true], [7]), (5, [false, false, false], [1]), (5, [true, true, false], [1]), (5, [true, true, true], [1]), (6, [false, false, false], [5]), (6, [true, true, false], [5]), (6, [true, true, true], [5]), (7, [false, false, false], [29, 0]), (7, [true, true, false], [29, 0]), (7, [true, true, true], [29, 0]), (8, [false, false, false], [31]), (10, [false, false, false], [0]), (10, [true, false, false], [0]), (10, [true, true, true], [0]), (11, [false, false, false], [7]), (11, [true, false, false], [7]), (11, [true, true, true], [7]), (12, [false, false, false], [34, 0]), (12, [true, false, false], [34, 0])] [_, _, _, _, _, _, _, _, _, _, _, _, _, _, _]
      case' hm => exact dr
      case' hn => rfl
      case' hok => rfl
      case' hlen => rfl
      case' hd => rfl
      case' h0 => rfl
      case' hstep =>
       simp only [DAllG, push_cast, Option.isSome_some, Option.isSome_none]
       repeat' apply And.intro
       all_goals (apply DOne_V; simp only [push_cast, Nat.reduceAdd, Nat.reduceSub, Nat.reduceMul, Nat.reduceLT, Nat.reduceLeDiff, Nat.reduceEqDiff, Int.reduceToNat, ↓reduceIte, List.drop_zero, Nat.sub_zero, hdr] <;> first | exact rfl | omega | exact ⟨rfl, rfl⟩ | exact trivial | exact ⟨by omega, rfl⟩ | exact ⟨by omega, by omega, rfl⟩ | exact ⟨by omega, rfl, rfl⟩ | exact ⟨by omega, by omega, rfl, rfl⟩ | (refine app_L encBd (sz := 4) (fun _ => rfl) cellBd _ H.length [] (σ.take i) _ rfl rfl (by exact aget0 _ _ _) sl49 sz107 by107 zr107 rfl (by decide) (by decide) (by simp; omega) ?_; simp only [push_cast, Nat.reduceAdd, Nat.reduceSub, Nat.reduceMul, Nat.reduceLT, Nat.reduceLeDiff, Nat.reduceEqDiff, Int.reduceToNat, ↓reduceIte, List.nil_append]; exact ⟨rfl, rfl⟩) | (refine app1_L encBd (sz := 4) (fun _ => rfl) cellBd _ H.length (σ.take i) (v, t) _ rfl rfl (by exact aget0 _ _ _) sl49 sz107 by107 zr107 rfl (by decide) (by decide) (by simp; omega) ?_; simp only [push_cast, Nat.reduceAdd, Nat.reduceSub, Nat.reduceMul, Nat.reduceLT, Nat.reduceLeDiff, Nat.reduceEqDiff, Int.reduceToNat, ↓reduceIte]; exact ⟨rfl, rfl⟩) | (refine app_L encBd (sz := 4) (fun _ => rfl) cellBd _ H.length (σ.take i ++ [(v, t)]) (σ.drop i) _ rfl rfl (by exact aget0 _ _ _) sl49 sz107 by107 zr107 rfl (by decide) (by decide) (by simp; omega) ?_; simp only [push_cast, Nat.reduceAdd, Nat.reduceSub, Nat.reduceMul, Nat.reduceLT, Nat.reduceLeDiff, Nat.reduceEqDiff, Int.reduceToNat, ↓reduceIte]; exact ⟨rfl, rfl⟩))
      case' hQ => skip
      simp only [push_cast, Nat.reduceAdd, Nat.reduceSub, Nat.reduceMul, Nat.reduceLT, Nat.reduceLeDiff, Nat.reduceEqDiff, Int.reduceToNat, ↓reduceIte, hfin (fun _ => hc)]
  · skip
    apply AW_drawE [some 24, some 25, some 26, some 27, some 28, some 29, some 30, some 31, some 32, some 33, some 34, some 35, some 36, some 37, some 6] [([false, false, false], _), ([true, false, false], _), ([true, true, false], _), ([true, true, true], _)] [none, none, none, none, some 0, none, none, none, none, some 1, none, none, none, some 2, none] 3 [(0, [false, false, false], []), (1, [false, false, false], [0]), (2, [false, false, false], [7]), (3, [false, false, false], [25, 0]), (4, [false, false, false], [24, 2]), (5, [true, false, false], [1]), (6, [true, false, false], [5]), (7, [true, false, false], [29, 0]), (8, [true, false, false], [31]), (9, [true, false, false], [28, 3]), (10, [true, true, false], [0]), (11, [true, true, false], [7]), (12, [true, true, false], [34, 0]), (13, [true, true, false], [33, 2]), (14, [true, true, true], [37]), (1, [true, false, false], [0]), (1, [true, true, false], [0]), (1, [true, true, true], [0]), (2, [true, false, false], [7]), (2, [true, true, false], [7]), (2, [true, true, true], [7]), (5, [false, false, false], [1]), (5, [true, true, false], [1]), (5, [true, true, true], [1]), (6, [false, false, false], [5]), (6, [true, true, false], [5]), (6, [true, true, true], [5]), (7, [false, false, false], [29, 0]), (7, [true, true, false], [29, 0]), (7, [true, true, true], [29, 0]), (8, [false, false, false], [31]), (10, [false, false, false], [0]), (10, [true, false, false], [0]), (10, [true, true, true], [0]), (11, [false, false, false], [7]), (11, [true, false, false], [7]), (11, [true, true, true], [7]), (12, [false, false, false], [34, 0]), (12, [true, false, false], [34, 0])] [_, _, _, _, _, _, _, _, _, _, _, _, _, _, _]
    case' hm => exact dr
    case' hn => rfl
    case' hok => rfl
    case' hlen => rfl
    case' hd => rfl
    case' h0 => rfl
    case' hstep =>
     simp only [DAllG, push_cast, Option.isSome_some, Option.isSome_none]
     repeat' apply And.intro
     all_goals (apply DOne_V; simp only [push_cast, Nat.reduceAdd, Nat.reduceSub, Nat.reduceMul, Nat.reduceLT, Nat.reduceLeDiff, Nat.reduceEqDiff, Int.reduceToNat, ↓reduceIte, List.drop_zero, Nat.sub_zero, hdr] <;> first | exact rfl | omega | exact ⟨rfl, rfl⟩ | exact trivial | exact ⟨by omega, rfl⟩ | exact ⟨by omega, by omega, rfl⟩ | exact ⟨by omega, rfl, rfl⟩ | exact ⟨by omega, by omega, rfl, rfl⟩ | (refine app_L encBd (sz := 4) (fun _ => rfl) cellBd _ H.length [] (σ.take i) _ rfl rfl (by exact aget0 _ _ _) sl49 sz107 by107 zr107 rfl (by decide) (by decide) (by simp; omega) ?_; simp only [push_cast, Nat.reduceAdd, Nat.reduceSub, Nat.reduceMul, Nat.reduceLT, Nat.reduceLeDiff, Nat.reduceEqDiff, Int.reduceToNat, ↓reduceIte, List.nil_append]; exact ⟨rfl, rfl⟩) | (refine app1_L encBd (sz := 4) (fun _ => rfl) cellBd _ H.length (σ.take i) (v, t) _ rfl rfl (by exact aget0 _ _ _) sl49 sz107 by107 zr107 rfl (by decide) (by decide) (by simp; omega) ?_; simp only [push_cast, Nat.reduceAdd, Nat.reduceSub, Nat.reduceMul, Nat.reduceLT, Nat.reduceLeDiff, Nat.reduceEqDiff, Int.reduceToNat, ↓reduceIte]; exact ⟨rfl, rfl⟩) | (refine app_L encBd (sz := 4) (fun _ => rfl) cellBd _ H.length (σ.take i ++ [(v, t)]) (σ.drop i) _ rfl rfl (by exact aget0 _ _ _) sl49 sz107 by107 zr107 rfl (by decide) (by decide) (by simp; omega) ?_; simp only [push_cast, Nat.reduceAdd, Nat.reduceSub, Nat.reduceMul, Nat.reduceLT, Nat.reduceLeDiff, Nat.reduceEqDiff, Int.reduceToNat, ↓reduceIte]; exact ⟨rfl, rfl⟩))
    case' hQ => skip
    simp only [push_cast, Nat.reduceAdd, Nat.reduceSub, Nat.reduceMul, Nat.reduceLT, Nat.reduceLeDiff, Nat.reduceEqDiff, Int.reduceToNat, ↓reduceIte, hfin (fun hh => absurd hh (by omega))]
theorem matchRs_ok : ∀ (xs ys : List Term) (σ : List (List UInt8 × Term)), SortedN (σ.map (·.1)) → (matchRs xs ys σ).2 = true → MatchOk σ (matchRs xs ys σ).1 (fun x => ∃ y, y ∈ ys ∧ SubT y x) ∧ (matchRs xs ys σ).1.length ≤ σ.length + (xs.map Term.size).sum := fun xs ys σ hs h => by
  obtain ⟨h1, h2⟩ := matchRs_eq xs ys σ
  rw [h2 (h1.symm.trans h)]
  exact matchTs_ok xs ys σ hs
theorem match_names : ∀ (xs ys : List Term) (σ : List (List UInt8 × Term)) (B : Nat), (∀ x, x ∈ xs → x.bulk ≤ B) → (∀ b, b ∈ σ → b.1.length ≤ B) → ∀ b, b ∈ (matchTs xs ys σ).1 → b.1.length ≤ B
  | [], ys, σ, B, _, h => by rw [matchTs_nil]; exact h
  | .mk n u xs :: r, [], σ, B, _, h => by rw [matchTs_nil2]; exact h
  | .mk n u xs :: r, y :: r', σ, B, hx, h => by
    have h0 := hx (.mk n u xs) (by simp)
    have hnl := Term.name_le (n := n) (v := u) (xs := xs)
    have one : ∀ b, b ∈ (matchP (.mk n u xs) y σ).1 → b.1.length ≤ B := by
      cases u with
      | true =>
        rw [matchP_v]
        unfold leafM
        split
        · exact h
        · intro b hb
          rcases (mem_insB b).1 hb with hb | rfl
          · exact h b hb
          · show n.length ≤ B; omega
      | false =>
        cases hc : clash n xs.length y with
        | true => rw [matchP_c σ hc]; exact h
        | false =>
          rw [matchP_g σ hc]
          exact match_names xs y.args σ B (fun x hx' => by have := Term.arg_le (n := n) (v := false) hx'; omega) h
    rw [matchTs_cons]
    cases (matchP (.mk n u xs) y σ).2 with
    | false => simpa using one
    | true => simp only [if_true]; exact match_names r r' _ B (fun x hx' => hx x (by simp [hx'])) one
theorem matchR_ac (p : Term) : ∀ (t : Term) (σ : List (List UInt8 × Term)), SortedN (σ.map (·.1)) → p.bulk ≤ 1099511627774 → t.bulk ≤ 1099511627775 → (∀ b, b ∈ σ → b.2.bulk ≤ 1099511627775 ∧ b.1.length ≤ 1099511627774) → σ.length + p.size < 1099511627775 →
    ∀ H, ACall Tryz.prog 173 [.sl .none (encL encBd σ), encT p, encT t] H (fun r H' => r = .tup [.sl .none (encL encBd (matchR p t σ).1), .bool (matchR p t σ).2] ∧ H' = H) := by
  induction p using Term.ind with | _ n u xs ih
  intro t σ hs hb hb2 hb3 hl H
  obtain ⟨n2, u2, ys⟩ := t
  have hlx := Term.len_le (n := n) (v := u) (xs := xs)
  have hnx := Term.name_le (n := n) (v := u) (xs := xs)
  have hly := Term.len_le (n := n2) (v := u2) (xs := ys)
  have hz := Term.size_mk n u xs
  refine ACall_V (H.length) 70 [.tmp 6, .tmp 7] Tryz.func173 rfl rfl rfl ?_
  cases u with
  | true =>
    rw [matchR_v]
    simp only [push_cast, Nat.reduceAdd, Nat.reduceSub, Nat.reduceMul, Nat.reduceLT, Nat.reduceLeDiff, Nat.reduceEqDiff, Int.reduceToNat, ↓reduceIte]
    refine (bound_ac σ n (by omega) _).to ?_
    cases hlk : look σ n with
    | some x =>
      have hx := hb3 (n, x) (look_some_mem hlk)
      have e : leafM σ n (.mk n2 u2 ys) = (σ, decide (x = .mk n2 u2 ys)) := by unfold leafM; rw [hlk]
      have ei : imageP σ n = x := by rw [image_look, hlk]; rfl
      simp only [push_cast, Nat.reduceAdd, Nat.reduceSub, Nat.reduceMul, Nat.reduceLT, Nat.reduceLeDiff, Nat.reduceEqDiff, Int.reduceToNat, ↓reduceIte, Option.isSome_some]
      apply AW_drawE [some 17, some 18, some 19, some 20, some 21, some 22, some 23, some 6, some 7] [([], _)] [none, none, none, none, none, none, none, none, none] 0 [(0, [], [0]), (1, [], [0]), (2, [], [4]), (3, [], [19]), (4, [], [18, 1]), (5, [], [5]), (6, [], [21, 0]), (7, [], [17]), (8, [], [23])] [_, _, _, _, _, _, _, _, _]
      case' hm => exact dr
      case' hn => rfl
      case' hok => rfl
      case' hlen => rfl
      case' hd => rfl
      case' h0 => rfl
      case' hstep =>
       simp only [DAllG, push_cast, Option.isSome_some, Option.isSome_none]
       repeat' apply And.intro
       all_goals (apply DOne_V; simp only [push_cast, Nat.reduceAdd, Nat.reduceSub, Nat.reduceMul, Nat.reduceLT, Nat.reduceLeDiff, Nat.reduceEqDiff, Int.reduceToNat, ↓reduceIte] <;> first | exact rfl | omega | exact ⟨rfl, rfl⟩ | exact trivial | exact ⟨by omega, rfl⟩ | exact ⟨by omega, by omega, rfl⟩ | exact ⟨by omega, rfl, rfl⟩ | exact ⟨by omega, by omega, rfl, rfl⟩ | exact (imageR_ac σ n (by omega) _).to ⟨rfl, rfl⟩ | (rw [ei]; exact (equalR_ac x (.mk n2 u2 ys) hx.1 hb2 _).to ⟨rfl, rfl⟩))
      case' hQ => skip
      simp only [push_cast, Nat.reduceAdd, Nat.reduceSub, Nat.reduceMul, Nat.reduceLT, Nat.reduceLeDiff, Nat.reduceEqDiff, Int.reduceToNat, ↓reduceIte, e]
    | none =>
      have e : leafM σ n (.mk n2 u2 ys) = (insB σ n (.mk n2 u2 ys), true) := by unfold leafM; rw [hlk]
      simp only [push_cast, Nat.reduceAdd, Nat.reduceSub, Nat.reduceMul, Nat.reduceLT, Nat.reduceLeDiff, Nat.reduceEqDiff, Int.reduceToNat, ↓reduceIte, Option.isSome_none]
      refine (with_ac σ n (.mk n2 u2 ys) (by omega) (by omega) (fun b hb' => by have := (hb3 b hb').2; omega) _).to ?_
      simp only [push_cast, Nat.reduceAdd, Nat.reduceSub, Nat.reduceMul, Nat.reduceLT, Nat.reduceLeDiff, Nat.reduceEqDiff, Int.reduceToNat, ↓reduceIte, e]
  | false =>
    simp only [push_cast, Nat.reduceAdd, Nat.reduceSub, Nat.reduceMul, Nat.reduceLT, Nat.reduceLeDiff, Nat.reduceEqDiff, Int.reduceToNat, ↓reduceIte]
    cases u2 with
    | true =>
      have e : matchR (.mk n false xs) (.mk n2 true ys) σ = ([], false) := matchR_c σ (by simp [clash, Term.var_mk])
      refine cI (fun _ => ?_) (fun h => absurd rfl h)
      simp only [push_cast, Nat.reduceAdd, Nat.reduceSub, Nat.reduceMul, Nat.reduceLT, Nat.reduceLeDiff, Nat.reduceEqDiff, Int.reduceToNat, ↓reduceIte, e, encL_nil]
    | false =>
      refine cI (fun h => absurd h (by decide)) (fun _ => ?_)
      refine cI (fun hn => ?_) (fun hn => ?_)
      · subst hn
        refine cI (fun hq => ?_) (fun hq => ?_)
        · have hlen : xs.length = ys.length := by omega
          have hc : clash n2 xs.length (.mk n2 false ys) = false := clash_false.2 ⟨rfl, rfl, hlen⟩
          have eg : matchR (.mk n2 false xs) (.mk n2 false ys) σ = matchRs xs ys σ := matchR_g σ hc
          rw [eg]
          refine AW_loopW (maskG 73 [0, 3, 0, 43, 0]) (fun (i : Nat) => [(50, .int .i64 i), (0, .sl .none (encL encBd (matchRs (xs.take i) (ys.take i) σ).1))]) (fun i => H ++ [.cells [.str n2, .bool false, .sl .none (encTs xs)], .cells [.str n2, .bool false, .sl .none (encTs ys)]]) (fun i => i ≤ xs.length ∧ (matchRs (xs.take i) (ys.take i) σ).2 = true) (fun i => xs.length - i) 0 ⟨Nat.zero_le _, by rw [List.take_zero, matchRs_nil]⟩ (by simp only [push_cast, Nat.reduceAdd, Nat.reduceSub, Nat.reduceMul, Nat.reduceLT, Nat.reduceLeDiff, Nat.reduceEqDiff, Int.reduceToNat, ↓reduceIte, List.take_zero, matchRs_nil]) (fun i hi => ?_)
          simp only [push_cast, Nat.reduceAdd, Nat.reduceSub, Nat.reduceMul, Nat.reduceLT, Nat.reduceLeDiff, Nat.reduceEqDiff, Int.reduceToNat, ↓reduceIte]
          refine cI (fun h => ?_) (fun h => ?_)
          · have hix : i < xs.length := by omega
            have hiy : i < ys.length := by omega
            repeat refine ⟨by omega, ?_⟩
            obtain ⟨o1, o2⟩ := matchRs_ok (xs.take i) (ys.take i) σ hs hi.2
            have onm : ∀ b, b ∈ (matchRs (xs.take i) (ys.take i) σ).1 → b.1.length ≤ 1099511627774 := by
              obtain ⟨z1, z2⟩ := matchRs_eq (xs.take i) (ys.take i) σ
              rw [z2 (z1.symm.trans hi.2)]
              exact match_names _ _ _ _ (fun x hx => by have := Term.arg_le (n := n2) (v := false) (List.mem_of_mem_take hx); omega) (fun b hb' => (hb3 b hb').2)
            have hsum := take_sum_le Term.size xs i
            have hxi := le_sum Term.size (xs.drop i) xs[i] (by rw [List.drop_eq_getElem_cons hix]; exact List.mem_cons_self)
            have hsm : ((xs.take i).map Term.size).sum + ((xs.drop i).map Term.size).sum = (xs.map Term.size).sum := by rw [← List.sum_append, ← List.map_append, List.take_append_drop]
            have hstep := fun X => ih _ (List.getElem_mem hix) ys[i] (matchRs (xs.take i) (ys.take i) σ).1 o1.sorted (arg_bulk hb i hix) (arg_bulk hb2 i hiy) (fun b hb' => ⟨by
              rcases o1.new b hb' with h | ⟨y, hy, h⟩
              · exact (hb3 b h).1
              · have h5 := h.bulk
                have h6 := Term.arg_le (n := n2) (v := false) (List.mem_of_mem_take hy)
                omega, onm b hb'⟩) (by omega) X
            obtain ⟨st1, st2⟩ := matchRs_step i hix hiy hi.2
            apply AW_drawE [some 54, some 55, some 56, some 57, some 58, some 59, some 60, some 61, some 62, some 63, some 64, some 65, some 53, some 66, some 67, some 9, some 10] [([], _)] [none, none, none, none, none, none, none, none, none, none, none, none, none, none, none, none, none] 0 [(0, [], [0]), (1, [], [4]), (2, [], [55]), (3, [], [8]), (4, [], [56, 0]), (5, [], [58]), (6, [], [5]), (7, [], [60]), (8, [], [8]), (9, [], [61, 0]), (10, [], [63]), (11, [], [54, 4, 4]), (12, [], [65]), (13, [], [53]), (14, [], [53]), (15, [], [66]), (16, [], [67])] [_, _, _, _, _, _, _, _, _, _, _, _, _, _, _, _, _]
            case' hm => exact dr
            case' hn => rfl
            case' hok => rfl
            case' hlen => rfl
            case' hd => rfl
            case' h0 => rfl
            case' hstep =>
             simp only [DAllG, push_cast, Option.isSome_some, Option.isSome_none]
             repeat' apply And.intro
             all_goals (apply DOne_V; simp only [push_cast, Nat.reduceAdd, Nat.reduceSub, Nat.reduceMul, Nat.reduceLT, Nat.reduceLeDiff, Nat.reduceEqDiff, Int.reduceToNat, ↓reduceIte] <;> first | exact rfl | omega | exact ⟨rfl, rfl⟩ | exact trivial | exact ⟨by omega, rfl⟩ | exact ⟨by omega, by omega, rfl⟩ | exact ⟨by omega, rfl, rfl⟩ | exact ⟨by omega, by omega, rfl, rfl⟩ | exact ⟨by omega, trivial⟩ | exact (hstep _).to ⟨rfl, rfl⟩)
            case' hQ => skip
            simp only [push_cast, Nat.reduceAdd, Nat.reduceSub, Nat.reduceMul, Nat.reduceLT, Nat.reduceLeDiff, Nat.reduceEqDiff, Int.reduceToNat, ↓reduceIte]
            refine cI (fun hq => ?_) (fun hq => ?_)
            · repeat' first | refine ⟨by omega, ?_⟩ | refine cI (fun _ => ?_) (fun _ => ?_)
              refine loopW_n (i + 1) ⟨by omega, by rw [st1 hq]; exact hq⟩ (by omega) ?_
              rw [st1 hq]
              simp only [push_cast, Nat.reduceAdd, Nat.reduceSub, Nat.reduceMul, Nat.reduceLT, Nat.reduceLeDiff, Nat.reduceEqDiff, Int.reduceToNat, ↓reduceIte]
            · simp only [push_cast, Nat.reduceAdd, Nat.reduceSub, Nat.reduceMul, Nat.reduceLT, Nat.reduceLeDiff, Nat.reduceEqDiff, Int.reduceToNat, ↓reduceIte, st2 (by simpa using hq), encL_nil]
          · have hil : i = xs.length := by omega
            rw [List.take_of_length_le (show xs.length ≤ i by omega), List.take_of_length_le (show ys.length ≤ i by omega)] at hi ⊢
            simp only [push_cast, Nat.reduceAdd, Nat.reduceSub, Nat.reduceMul, Nat.reduceLT, Nat.reduceLeDiff, Nat.reduceEqDiff, Int.reduceToNat, ↓reduceIte, hi.2]
        · have hc : clash n2 xs.length (.mk n2 false ys) = true := by
            cases hcl : clash n2 xs.length (.mk n2 false ys) with
            | true => rfl
            | false => exact absurd (clash_false.1 hcl).2.2 (by show ¬ xs.length = ys.length; omega)
          have e := matchR_c σ hc
          simp only [push_cast, Nat.reduceAdd, Nat.reduceSub, Nat.reduceMul, Nat.reduceLT, Nat.reduceLeDiff, Nat.reduceEqDiff, Int.reduceToNat, ↓reduceIte, e, encL_nil]
      · have hc : clash n xs.length (.mk n2 false ys) = true := by
          cases hcl : clash n xs.length (.mk n2 false ys) with
          | true => rfl
          | false => exact absurd (clash_false.1 hcl).2.1.symm hn
        have e := matchR_c σ hc
        simp only [push_cast, Nat.reduceAdd, Nat.reduceSub, Nat.reduceMul, Nat.reduceLT, Nat.reduceLeDiff, Nat.reduceEqDiff, Int.reduceToNat, ↓reduceIte, e, encL_nil]
theorem matchRef_ac (p t : Term) (hb : p.bulk ≤ 1099511627770) (hb2 : t.bulk ≤ 1099511627775) (H : List AObj) :
    ACall Tryz.prog 139 [encT p, encT t] H (fun r H' => r = .tup [.sl .none (encL encBd (matchR p t []).1), .bool (matchR p t []).2] ∧ H' = H) := by
  have hsz := p.size_le
  refine ACall_V (H.length) 9 [.tmp 4, .tmp 5] Tryz.func139 rfl rfl rfl ?_
  simp only [push_cast, Nat.reduceAdd, Nat.reduceSub, Nat.reduceMul, Nat.reduceLT, Nat.reduceLeDiff, Nat.reduceEqDiff, Int.reduceToNat, ↓reduceIte]
  refine ACall.forget (args' := [.sl .none (encL encBd []), encT p, encT t]) ⟨Forget.tok _ _, Forget.refl _, Forget.refl _, trivial⟩ ((matchR_ac p t [] (by simp [SortedN]) (by omega) hb2 (by simp) (by simp; omega) _).to ?_)
  simp only [push_cast, Nat.reduceAdd, Nat.reduceSub, Nat.reduceMul, Nat.reduceLT, Nat.reduceLeDiff, Nat.reduceEqDiff, Int.reduceToNat, ↓reduceIte]
end Ab
set_option maxRecDepth 10000
namespace Ab
open Go Go.Proofs
theorem walkL_at : ∀ (xs : List Term) (i : Nat) (p : List Int) x, x ∈ walkL xs i p → ∃ k : Nat, ∃ h : k < xs.length, ∃ q, x.1 = p ++ ((i + k : Nat) : Int) :: q ∧ atP xs[k] q = some x.2
  | [], _, _, x, hx => by simp [walkL] at hx
  | .mk n v ys :: r, i, p, x, hx => by
    rw [walkL_cons, List.mem_append] at hx
    rcases hx with hx | hx
    · refine ⟨0, by simp, ?_⟩
      simp only [walkT, List.mem_cons, Term.mk_args] at hx
      rcases hx with rfl | hx
      · exact ⟨[], by simp, by simp [atP]⟩
      · obtain ⟨k, h, q, h1, h2⟩ := walkL_at ys 0 (p ++ [(i : Int)]) x hx
        refine ⟨((0 + k : Nat) : Int) :: q, by rw [h1]; simp, ?_⟩
        have := (at_step (.mk n v ys) ((0 + k : Nat) : Int) q).1 ⟨by omega, by show (((0 + k : Nat) : Int)).toNat < ys.length; omega⟩
        simp only [List.getElem_cons_zero]
        rw [this, ← h2]
        congr 1
        show ys[_] = ys[_]
        congr 1; omega
    · obtain ⟨k, h, q, h1, h2⟩ := walkL_at r (i + 1) p x (by exact_mod_cast hx)
      refine ⟨k + 1, by simpa using h, q, by rw [h1]; congr 2; omega, by simpa using h2⟩
theorem walk_at (t : Term) (x : List Int × Term) (h : x ∈ walkT t []) : atP t x.1 = some x.2 := by
  cases t with
  | mk n v ys =>
    simp only [walkT, List.mem_cons, Term.mk_args] at h
    rcases h with rfl | h
    · simp [atP]
    · obtain ⟨k, hk, q, h1, h2⟩ := walkL_at ys 0 [] x h
      rw [h1]
      have := (at_step (.mk n v ys) ((0 + k : Nat) : Int) q).1 ⟨by omega, by show (((0 + k : Nat) : Int)).toNat < ys.length; omega⟩
      rw [List.nil_append, this, ← h2]
      congr 1
      show ys[_] = ys[_]
      congr 1; omega
theorem allSteps_ac (rs : List (Term × Term)) (hr : SysB rs) (t : Term) (hb : t.bulk ≤ 1000000000) (H : List AObj) : ACall Tryz.prog 85 [.sl .none (encL encRu rs), encT t] H (fun r H' => r = .sl .none (encL encSt (allS rs t)) ∧ H' = H) := by
  have hsz := t.size_le
  have hr1 := hr.1
  refine ACall_V (H.length) 17 [.tmp 4] Tryz.func85 rfl rfl rfl ?_
  simp only [push_cast, Nat.reduceAdd, Nat.reduceSub, Nat.reduceMul, Nat.reduceLT, Nat.reduceLeDiff, Nat.reduceEqDiff, Int.reduceToNat, ↓reduceIte]
  refine (walkF_ac t _).to ?_
  simp only [push_cast, Nat.reduceAdd, Nat.reduceSub, Nat.reduceMul, Nat.reduceLT, Nat.reduceLeDiff, Nat.reduceEqDiff, Int.reduceToNat, ↓reduceIte]
  refine AW_reserve 1 ?_
  refine AW_iterW _ _ (walk_iter t (by omega) _) H (fun pre => [.cells [.sl .none (encL encRu rs)], .cells [.str t.name, .bool t.var, .sl .none (encTs t.args)], .cells [gSl (H.length + 4) (encL encSt (allI rs pre))], .cells [.str t.name, .bool t.var, .sl .none (encTs t.args)], gTok 86 2 (encL encSt (allI rs pre))]) 5 (fun _ _ => none) rfl ok153 (by simp only [push_cast, Nat.reduceAdd, Nat.reduceSub, Nat.reduceMul, Nat.reduceLT, Nat.reduceLeDiff, Nat.reduceEqDiff, Int.reduceToNat, ↓reduceIte, allI_nil, encL_nil]) (fun _ => rfl) (fun lp => by simp only [push_cast, Nat.reduceAdd, Nat.reduceSub, Nat.reduceMul, Nat.reduceLT, Nat.reduceLeDiff, Nat.reduceEqDiff, Int.reduceToNat, ↓reduceIte]) (fun p => by simp only [push_cast, Nat.reduceAdd, Nat.reduceSub, Nat.reduceMul, Nat.reduceLT, Nat.reduceLeDiff, Nat.reduceEqDiff, Int.reduceToNat, ↓reduceIte]) (fun _ => rfl) (fun pre x suf X l lp lp' he hn => ?_) (fun _ lp => ?_) (fun pre x suf c lp _ _ h => by cases h)
  · have hx := walk_pos_len t [] x (by rw [he]; simp)
    have hxb : x.2.bulk ≤ t.bulk := (at_bulk _ _ _ (walk_at t x (by rw [he]; simp)))
    have hpl : pre.length < t.size := by have := walkT_length t []; rw [he] at this; simp at this; omega
    have hal := allI_len rs pre
    have hmul : pre.length * rs.length ≤ 1000000000 * 64 := Nat.mul_le_mul (by omega) hr1
    have hav := atV_len rs x.1 x.2
    simp only [push_cast, Nat.reduceAdd, Nat.reduceSub, Nat.reduceMul, Nat.reduceLT, Nat.reduceLeDiff, Nat.reduceEqDiff, Int.reduceToNat, ↓reduceIte, List.drop_length]
    apply AW_drawE [some 12, some 13, some 14, some 15, some 16, some 17, none] [([false, false, false], _), ([true, false, false], _), ([true, true, false], _), ([true, true, true], _)] [none, none, none, none, some 0, some 1, some 2] 3 [(0, [false, false, false], [5]), (1, [false, false, false], [2]), (2, [false, false, false], [6]), (3, [false, false, false], [7]), (4, [false, false, false], [13, 0, 0]), (5, [true, false, false], [12, 3]), (6, [true, true, false], [5, 11]), (0, [true, false, false], [5])] [_, _, _, _, _, _, _]
    case' hm => exact dr
    case' hn => rfl
    case' hok => rfl
    case' hlen => rfl
    case' hd => rfl
    case' h0 => rfl
    case' hstep =>
     simp only [DAllG, push_cast, Option.isSome_some, Option.isSome_none]
     repeat' apply And.intro
     all_goals (apply DOne_V; simp only [push_cast, Nat.reduceAdd, Nat.reduceSub, Nat.reduceMul, Nat.reduceLT, Nat.reduceLeDiff, Nat.reduceEqDiff, Int.reduceToNat, ↓reduceIte] <;> first | exact rfl | omega | exact ⟨rfl, rfl⟩ | exact trivial | exact ⟨by omega, rfl⟩ | exact ⟨by omega, by omega, rfl⟩ | exact ⟨by omega, rfl, rfl⟩ | exact ⟨by omega, by omega, rfl, rfl⟩ | exact (at_ac' rs hr x.1 (by simp at hx; omega) x.2 (by omega) _).to ⟨rfl, rfl⟩ | (refine app_L encSt (sz := 2) (fun _ => rfl) cellSt _ (H.length + 4) (allI rs pre) (atV rs x.1 x.2) _ rfl rfl (by exact (agetN _ _ 4).trans rfl) sl26 sz86 by86 zr86 rfl (by decide) (by decide) (by omega) ?_; simp only [push_cast, Nat.reduceAdd, Nat.reduceSub, Nat.reduceMul, Nat.reduceLT, Nat.reduceLeDiff, Nat.reduceEqDiff, Int.reduceToNat, ↓reduceIte]; exact ⟨rfl, rfl⟩))
    case' hQ => skip
    simp only [push_cast, Nat.reduceAdd, Nat.reduceSub, Nat.reduceMul, Nat.reduceLT, Nat.reduceLeDiff, Nat.reduceEqDiff, Int.reduceToNat, ↓reduceIte, allI_snoc]
  · simp only [push_cast, Nat.reduceAdd, Nat.reduceSub, Nat.reduceMul, Nat.reduceLT, Nat.reduceLeDiff, Nat.reduceEqDiff, Int.reduceToNat, ↓reduceIte, allS]
end Ab
set_option maxRecDepth 10000
namespace Ab
open Go
theorem allI_mem {rs : List (Term × Term)} {items : List (List Int × Term)} {s : Int × List Int} (h : s ∈ allI rs items) : ∃ x, x ∈ items ∧ s.2 = x.1 ∧ s ∈ atV rs x.1 x.2 := by
  unfold allI at h
  obtain ⟨x, hx, hs⟩ := List.mem_flatMap.1 h
  exact ⟨x, hx, atV_pos hs, hs⟩
end Ab
set_option maxRecDepth 10000
namespace Ab
open Go Go.Proofs
def bothP (rs : List (Term × Term)) (t : Term) : Int := if sysP rs ≠ 0 then sysP rs else checkP t
theorem both_ac (rs : List (Term × Term)) (hlen : rs.length < 1099511627776) (hb : BndR rs) (t : Term) (ht : t.bulk ≤ 1099511627775) (H : List AObj) : ACall Tryz.prog 75 [.sl .none (encL encRu rs), encT t] H (fun r H' => r = .int .i64 (bothP rs t) ∧ H' = H) := by
  refine ACall_V (H.length) 11 [.tmp 4] Tryz.func75 rfl rfl rfl ?_
  simp only [push_cast, Nat.reduceAdd, Nat.reduceSub, Nat.reduceMul, Nat.reduceLT, Nat.reduceLeDiff, Nat.reduceEqDiff, Int.reduceToNat, ↓reduceIte]
  refine (checkSystem_ac rs hlen hb _).to ?_
  simp only [push_cast, Nat.reduceAdd, Nat.reduceSub, Nat.reduceMul, Nat.reduceLT, Nat.reduceLeDiff, Nat.reduceEqDiff, Int.reduceToNat, ↓reduceIte]
  refine cI (fun h => ?_) (fun h => ?_)
  · refine (check_ac t ht _).to ?_
    simp only [push_cast, Nat.reduceAdd, Nat.reduceSub, Nat.reduceMul, Nat.reduceLT, Nat.reduceLeDiff, Nat.reduceEqDiff, Int.reduceToNat, ↓reduceIte, bothP, h]
    simp
  · simp only [push_cast, Nat.reduceAdd, Nat.reduceSub, Nat.reduceMul, Nat.reduceLT, Nat.reduceLeDiff, Nat.reduceEqDiff, Int.reduceToNat, ↓reduceIte, bothP, h]
    simp [h]
theorem step_len {rs : List (Term × Term)} {t : Term} {s : Int × List Int} (h : s ∈ allS rs t) : s.2.length < t.size := by
  obtain ⟨x, hx, e, _⟩ := allI_mem h
  have := walk_pos_len t [] x hx
  rw [e]; simpa using this
end Ab
set_option maxRecDepth 10000
namespace Ab
open Go Go.Proofs
theorem replace_ac (σ : List (List UInt8 × Term)) (hs : SortedN (σ.map (·.1))) (hlen : σ.length < 1099511627776) (hbk : ∀ b, b ∈ σ → b.2.bulk ≤ 1099511627775) (t : Term) : t.bulk ≤ 1099511627775 → ∀ H, ACall Tryz.prog 116 [.sl .none (encL encBd σ), encT t] H (fun r H' => r = encT (applyP σ t) ∧ H' = H) := by
  induction t using Term.ind with | _ n u xs ih
  intro hb H
  have hl := Term.len_le (n := n) (v := u) (xs := xs)
  cases u with
  | true =>
    rw [applyP_t, image_look]
    refine ACall_V (H.length) 43 [.cell 4 25] Tryz.func116 rfl rfl rfl ?_
    simp only [push_cast, Nat.reduceAdd, Nat.reduceSub, Nat.reduceMul, Nat.reduceLT, Nat.reduceLeDiff, Nat.reduceEqDiff, Int.reduceToNat, ↓reduceIte]
    refine (imageT_ac σ hs n hlen _).to ?_
    rcases look_cases (σ := σ) n with ⟨b, hbm, _, e⟩ | e
    · have hbb := hbk b hbm
      simp only [push_cast, Nat.reduceAdd, Nat.reduceSub, Nat.reduceMul, Nat.reduceLT, Nat.reduceLeDiff, Nat.reduceEqDiff, Int.reduceToNat, ↓reduceIte, e, Option.isSome_some, Option.getD_some]
      refine (own_ac b.2 (by omega) _).to ?_
      simp only [push_cast, Nat.reduceAdd, Nat.reduceSub, Nat.reduceMul, Nat.reduceLT, Nat.reduceLeDiff, Nat.reduceEqDiff, Int.reduceToNat, ↓reduceIte]
    · simp only [push_cast, Nat.reduceAdd, Nat.reduceSub, Nat.reduceMul, Nat.reduceLT, Nat.reduceLeDiff, Nat.reduceEqDiff, Int.reduceToNat, ↓reduceIte, e, Option.isSome_none, Option.getD_none]
  | false =>
    rw [applyP_f]
    refine ACall_V (H.length) 43 [.cell 4 25] Tryz.func116 rfl rfl rfl ?_
    simp only [push_cast, Nat.reduceAdd, Nat.reduceSub, Nat.reduceMul, Nat.reduceLT, Nat.reduceLeDiff, Nat.reduceEqDiff, Int.reduceToNat, ↓reduceIte]
    refine AW_reserve 1 ?_
    refine AW_loopW (maskG 45 [0, 3, 2, 21, 0, 0]) (fun (i : Nat) => [(31, .int .i64 i)]) (fun i => H ++ [.cells [.str n, .bool false, .sl .none (encTs xs)], .cells [.str [], .bool false, .sl .zero []], .cells [.str n, .bool false, gSl (H.length + 3) (encTs (appL σ (xs.take i)))], gTok 25 3 (encTs (appL σ (xs.take i)))]) (fun i => i ≤ xs.length) (fun i => xs.length - i) 0 (Nat.zero_le _) (by simp only [push_cast, Nat.reduceAdd, Nat.reduceSub, Nat.reduceMul, Nat.reduceLT, Nat.reduceLeDiff, Nat.reduceEqDiff, Int.reduceToNat, ↓reduceIte, List.take_zero, appL_nil]) (fun i hi => ?_)
    simp only [push_cast, Nat.reduceAdd, Nat.reduceSub, Nat.reduceMul, Nat.reduceLT, Nat.reduceLeDiff, Nat.reduceEqDiff, Int.reduceToNat, ↓reduceIte]
    refine cI (fun h => ?_) (fun h => ?_)
    · have hil : i < xs.length := by omega
      repeat refine ⟨by omega, ?_⟩
      have hal := appL_len σ (xs.take i)
      rw [List.length_take] at hal
      apply AW_drawE [some 35, some 36, some 37, some 38, some 39, some 40, some 41, some 42, none] [([false, false], _), ([true, false], _), ([true, true], _)] [none, none, none, none, none, none, some 0, none, some 1] 2 [(0, [false, false], [7]), (1, [false, false], [35]), (2, [false, false], [0]), (3, [false, false], [9]), (4, [false, false], [37, 0]), (5, [false, false], [39]), (6, [false, false], [36, 3]), (7, [true, false], [7]), (8, [true, false], [41, 0]), (0, [true, false], [7]), (2, [true, false], [0]), (3, [true, false], [9])] [_, _, _, _, _, _, _, _, _]
      case' hm => exact dr
      case' hn => rfl
      case' hok => rfl
      case' hlen => rfl
      case' hd => rfl
      case' h0 => rfl
      case' hstep =>
       simp only [DAllG, push_cast, Option.isSome_some, Option.isSome_none]
       repeat' apply And.intro
       all_goals (apply DOne_V; simp only [push_cast, Nat.reduceAdd, Nat.reduceSub, Nat.reduceMul, Nat.reduceLT, Nat.reduceLeDiff, Nat.reduceEqDiff, Int.reduceToNat, ↓reduceIte] <;> first | exact rfl | omega | exact ⟨rfl, rfl⟩ | exact trivial | exact ⟨by omega, rfl⟩ | exact ⟨by omega, by omega, rfl⟩ | exact ⟨by omega, rfl, rfl⟩ | exact ⟨by omega, by omega, rfl, rfl⟩ | exact (ih _ (List.getElem_mem hil) (arg_bulk hb i hil) _).to ⟨rfl, rfl⟩ | (refine app1_T _ (H.length + 3) (appL σ (xs.take i)) (applyP σ (xs[i]'hil)) _ rfl rfl (by exact (agetN _ _ 3).trans rfl) sl23 sz25 by25 zr25 rfl (by decide) (by omega) ?_; simp only [push_cast, Nat.reduceAdd, Nat.reduceSub, Nat.reduceMul, Nat.reduceLT, Nat.reduceLeDiff, Nat.reduceEqDiff, Int.reduceToNat, ↓reduceIte]; exact ⟨rfl, rfl⟩))
      case' hQ => skip
      simp only [push_cast, Nat.reduceAdd, Nat.reduceSub, Nat.reduceMul, Nat.reduceLT, Nat.reduceLeDiff, Nat.reduceEqDiff, Int.reduceToNat, ↓reduceIte, ← appL_take σ xs i hil]
      repeat' first | refine ⟨by omega, ?_⟩ | refine cI (fun _ => ?_) (fun _ => ?_)
      exact loopW_n (i + 1) (by omega) (by omega) (by simp only [push_cast, Nat.reduceAdd, Nat.reduceSub, Nat.reduceMul, Nat.reduceLT, Nat.reduceLeDiff, Nat.reduceEqDiff, Int.reduceToNat, ↓reduceIte])
    · simp only [push_cast, Nat.reduceAdd, Nat.reduceSub, Nat.reduceMul, Nat.reduceLT, Nat.reduceLeDiff, Nat.reduceEqDiff, Int.reduceToNat, ↓reduceIte, List.take_of_length_le (show xs.length ≤ i by omega)]
def instE (σ : List (List UInt8 × Term)) (t : Term) : Term × Int := if fitsP (applyP σ t) then (applyP σ t, 0) else (.mk [] false [], 3)
theorem instance_ac (σ : List (List UInt8 × Term)) (hs : SortedN (σ.map (·.1))) (hlen : σ.length < 1099511627776) (hbk : ∀ b, b ∈ σ → b.2.bulk ≤ 1099511627775) (t : Term) (hb : t.bulk ≤ 1099511627775) (hb2 : (applyP σ t).size ≤ 1099511627775) (H : List AObj) : ACall Tryz.prog 67 [.sl .none (encL encBd σ), encT t] H (fun r H' => r = encRE (instE σ t) ∧ H' = H) := by
  have hd := (applyP σ t).depth_le
  refine ACall_V (H.length) 20 [.cell 4 25, .tmp 5] Tryz.func67 rfl rfl rfl ?_
  simp only [push_cast, Nat.reduceAdd, Nat.reduceSub, Nat.reduceMul, Nat.reduceLT, Nat.reduceLeDiff, Nat.reduceEqDiff, Int.reduceToNat, ↓reduceIte]
  refine (measure_ac σ hs hlen hbk t hb hb2 _).to ?_
  simp only [push_cast, Nat.reduceAdd, Nat.reduceSub, Nat.reduceMul, Nat.reduceLT, Nat.reduceLeDiff, Nat.reduceEqDiff, Int.reduceToNat, ↓reduceIte]
  refine cI (fun h => ?_) (fun h => ?_)
  · have h1 : ¬ (applyP σ t).size ≤ 4000 := by omega
    have e : instE σ t = (.mk [] false [], 3) := by simp [instE, fitsP, h1]
    simp only [push_cast, Nat.reduceAdd, Nat.reduceSub, Nat.reduceMul, Nat.reduceLT, Nat.reduceLeDiff, Nat.reduceEqDiff, Int.reduceToNat, ↓reduceIte, e]
  · have h1 : (applyP σ t).size ≤ 4000 := by omega
    refine cI (fun h2 => ?_) (fun h2 => ?_)
    · have h3 : ¬ (applyP σ t).depth ≤ 200 := by omega
      have e : instE σ t = (.mk [] false [], 3) := by simp [instE, fitsP, h3]
      simp only [push_cast, Nat.reduceAdd, Nat.reduceSub, Nat.reduceMul, Nat.reduceLT, Nat.reduceLeDiff, Nat.reduceEqDiff, Int.reduceToNat, ↓reduceIte, e]
    · have h3 : (applyP σ t).depth ≤ 200 := by omega
      have e : instE σ t = (applyP σ t, 0) := by simp [instE, fitsP, h1, h3]
      refine (replace_ac σ hs hlen hbk t hb _).to ?_
      simp only [push_cast, Nat.reduceAdd, Nat.reduceSub, Nat.reduceMul, Nat.reduceLT, Nat.reduceLeDiff, Nat.reduceEqDiff, Int.reduceToNat, ↓reduceIte, e]
theorem grownR_ac (σ : List (List UInt8 × Term)) (hlen : σ.length < 1099511627776) (hbk : ∀ b, b ∈ σ → b.2.bulk ≤ 1099511627775) (t : Term) : t.bulk ≤ 1099511627775 → (applyP σ t).size ≤ 1099511627775 → ∀ H, ACall Tryz.prog 102 [.sl .none (encL encBd σ), encT t] H (fun r H' => r = .tup [.int .i64 (applyP σ t).size, .int .i64 (applyP σ t).depth] ∧ H' = H) := by
  induction t using Term.ind with | _ n u xs ih
  intro hb hb2 H
  have hl := Term.len_le (n := n) (v := u) (xs := xs)
  have hnl := Term.name_le (n := n) (v := u) (xs := xs)
  cases u with
  | true =>
    rw [applyP_t]
    have hib := image_bulk σ 1099511627775 hbk n (by omega)
    refine ACall_V (H.length) 44 [.tmp 4, .tmp 5] Tryz.func102 rfl rfl rfl ?_
    simp only [push_cast, Nat.reduceAdd, Nat.reduceSub, Nat.reduceMul, Nat.reduceLT, Nat.reduceLeDiff, Nat.reduceEqDiff, Int.reduceToNat, ↓reduceIte]
    refine (imageR_ac σ n hlen _).to ?_
    simp only [push_cast, Nat.reduceAdd, Nat.reduceSub, Nat.reduceMul, Nat.reduceLT, Nat.reduceLeDiff, Nat.reduceEqDiff, Int.reduceToNat, ↓reduceIte]
    apply AW_drawE [some 19, some 20, some 21, some 22, some 4, some 5] [([], _)] [none, none, none, none, none, none] 0 [(0, [], [6]), (1, [], [19]), (2, [], [6]), (3, [], [21]), (4, [], [20]), (5, [], [22])] [_, _, _, _, _, _]
    case' hm => exact dr
    case' hn => rfl
    case' hok => rfl
    case' hlen => rfl
    case' hd => rfl
    case' h0 => rfl
    case' hstep =>
     simp only [DAllG, push_cast, Option.isSome_some, Option.isSome_none]
     repeat' apply And.intro
     all_goals (apply DOne_V; simp only [push_cast, Nat.reduceAdd, Nat.reduceSub, Nat.reduceMul, Nat.reduceLT, Nat.reduceLeDiff, Nat.reduceEqDiff, Int.reduceToNat, ↓reduceIte] <;> first | exact rfl | omega | exact ⟨rfl, rfl⟩ | exact trivial | exact ⟨by omega, rfl⟩ | exact ⟨by omega, by omega, rfl⟩ | exact ⟨by omega, rfl, rfl⟩ | exact ⟨by omega, by omega, rfl, rfl⟩ | exact (sizeR_ac (imageP σ n) (by omega) _).to ⟨rfl, rfl⟩ | exact (depthR_ac (imageP σ n) (by omega) _).to ⟨rfl, rfl⟩)
    case' hQ => skip
    simp only [push_cast, Nat.reduceAdd, Nat.reduceSub, Nat.reduceMul, Nat.reduceLT, Nat.reduceLeDiff, Nat.reduceEqDiff, Int.reduceToNat, ↓reduceIte]
  | false =>
    rw [applyP_f] at hb2 ⊢
    have hdp := (Term.mk n false (appL σ xs)).depth_le
    rw [Term.size_mk] at hb2 hdp ⊢
    rw [Term.depth_mk] at hdp ⊢
    refine ACall_V (H.length) 44 [.tmp 4, .tmp 5] Tryz.func102 rfl rfl rfl ?_
    simp only [push_cast, Nat.reduceAdd, Nat.reduceSub, Nat.reduceMul, Nat.reduceLT, Nat.reduceLeDiff, Nat.reduceEqDiff, Int.reduceToNat, ↓reduceIte]
    refine AW_loopW (maskG 46 [0, 6, 0, 15, 0, 0]) (fun (i : Nat) => [(26, .int .i64 i), (7, .int .i64 (1 + ((appL σ (xs.take i)).map Term.size).sum : Nat)), (8, .int .i64 (((appL σ (xs.take i)).map Term.depth).foldl max 0 : Nat))]) (fun i => H ++ [.cells [.str n, .bool false, .sl .none (encTs xs)]]) (fun i => i ≤ xs.length) (fun i => xs.length - i) 0 (Nat.zero_le _) (by simp only [push_cast, Nat.reduceAdd, Nat.reduceSub, Nat.reduceMul, Nat.reduceLT, Nat.reduceLeDiff, Nat.reduceEqDiff, Int.reduceToNat, ↓reduceIte, List.take_zero, appL_nil]; simp) (fun i hi => ?_)
    simp only [push_cast, Nat.reduceAdd, Nat.reduceSub, Nat.reduceMul, Nat.reduceLT, Nat.reduceLeDiff, Nat.reduceEqDiff, Int.reduceToNat, ↓reduceIte]
    refine cI (fun h => ?_) (fun h => ?_)
    · have hil : i < xs.length := by omega
      repeat refine ⟨by omega, ?_⟩
      obtain ⟨hq1, hq2⟩ := sizes_take σ xs i hil
      obtain ⟨hw1, hw2⟩ := sizes_le σ xs (i + 1)
      obtain ⟨hw3, hw4⟩ := sizes_le σ xs i
      refine (ih _ (List.getElem_mem hil) (arg_bulk hb i hil) (by omega) _).to ?_
      simp only [push_cast, Nat.reduceAdd, Nat.reduceSub, Nat.reduceMul, Nat.reduceLT, Nat.reduceLeDiff, Nat.reduceEqDiff, Int.reduceToNat, ↓reduceIte]
      repeat' first | refine ⟨by omega, ?_⟩ | refine cI (fun _ => ?_) (fun _ => ?_)
      exact loopW_n (i + 1) (by omega) (by omega) (by simp only [push_cast, Nat.reduceAdd, Nat.reduceSub, Nat.reduceMul, Nat.reduceLT, Nat.reduceLeDiff, Nat.reduceEqDiff, Int.reduceToNat, ↓reduceIte, hq1, hq2]; omega)
    · obtain ⟨hw3, hw4⟩ := sizes_le σ xs xs.length
      rw [List.take_of_length_le (Nat.le_refl _)] at hw3 hw4
      simp only [push_cast, Nat.reduceAdd, Nat.reduceSub, Nat.reduceMul, Nat.reduceLT, Nat.reduceLeDiff, Nat.reduceEqDiff, Int.reduceToNat, ↓reduceIte, List.take_of_length_le (show xs.length ≤ i by omega)]
      omega
end Ab
set_option maxRecDepth 10000
namespace Ab
open Go Go.Proofs
def ruleN (rs : List (Term × Term)) (i : Int) : Term × Term := rs.getD i.toNat (zeroT, zeroT)
theorem ruleN_get {rs : List (Term × Term)} {i : Int} (h : i.toNat < rs.length) : ruleN rs i = rs[i.toNat] := by unfold ruleN; rw [List.getD_eq_getElem?_getD, List.getElem?_eq_getElem h]; rfl
def findE (rs : List (Term × Term)) (t : Term) (s : Int × List Int) : List (List UInt8 × Term) × Int :=
  if 0 ≤ s.1 ∧ s.1.toNat < rs.length then (match atP t s.2 with
    | some x => if (matchP (ruleN rs s.1).1 x []).2 then ((matchP (ruleN rs s.1).1 x []).1, 0) else ([], 9)
    | none => ([], 8)) else ([], 8)
def encFE (q : List (List UInt8 × Term) × Int) : AV := .tup [.sl .none (encL encBd q.1), .int .i64 q.2]
theorem stepFind_ac (rs : List (Term × Term)) (hr : SysB rs) (t : Term) (hb : t.bulk ≤ 1099511627775) (s : Int × List Int) (hs : s.2.length < 1099511627776) (H : List AObj) :
    ACall Tryz.prog 135 [.sl .none (encL encRu rs), encT t, encSt s] H (fun r H' => r = encFE (findE rs t s) ∧ H' = H) := by
  obtain ⟨hr1, hr2⟩ := hr
  refine ACall_V (H.length) 41 [.tmp 6, .tmp 7] Tryz.func135 rfl rfl rfl ?_
  simp only [push_cast, Nat.reduceAdd, Nat.reduceSub, Nat.reduceMul, Nat.reduceLT, Nat.reduceLeDiff, Nat.reduceEqDiff, Int.reduceToNat, ↓reduceIte]
  have bad : ¬ (0 ≤ s.1 ∧ s.1.toNat < rs.length) → findE rs t s = ([], 8) := fun h => if_neg h
  refine cI (fun h => ?_) (fun h => ?_)
  · simp only [push_cast, Nat.reduceAdd, Nat.reduceSub, Nat.reduceMul, Nat.reduceLT, Nat.reduceLeDiff, Nat.reduceEqDiff, Int.reduceToNat, ↓reduceIte, bad (by omega), encFE, encL_nil]
  · refine cI (fun h2 => ?_) (fun h2 => ?_)
    · simp only [push_cast, Nat.reduceAdd, Nat.reduceSub, Nat.reduceMul, Nat.reduceLT, Nat.reduceLeDiff, Nat.reduceEqDiff, Int.reduceToNat, ↓reduceIte, bad (by omega), encFE, encL_nil]
    · have hin : 0 ≤ s.1 ∧ s.1.toNat < rs.length := by omega
      have e : findE rs t s = (match atP t s.2 with
        | some x => if (matchP (ruleN rs s.1).1 x []).2 then ((matchP (ruleN rs s.1).1 x []).1, 0) else ([], 9)
        | none => ([], 8)) := if_pos hin
      refine (sub_ac t s.2 hb hs _).to ?_
      cases ha : atP t s.2 with
      | none =>
        simp only [ha] at e
        simp only [push_cast, Nat.reduceAdd, Nat.reduceSub, Nat.reduceMul, Nat.reduceLT, Nat.reduceLeDiff, Nat.reduceEqDiff, Int.reduceToNat, ↓reduceIte, e, encFE, encL_nil]
      | some x =>
        simp only [ha] at e
        have hxb := at_bulk _ _ _ ha
        have hrn := ruleN_get hin.2
        have hlb := hr2 _ (List.getElem_mem hin.2)
        simp only [push_cast, Nat.reduceAdd, Nat.reduceSub, Nat.reduceMul, Nat.reduceLT, Nat.reduceLeDiff, Nat.reduceEqDiff, Int.reduceToNat, ↓reduceIte]
        apply AW_drawE [some 31, some 32, some 33, some 34, some 35, some 36, some 37, some 38, some 30, some 39, some 40, some 10, some 9] [([], _)] [none, none, none, none, none, none, none, none, none, none, none, none, none] 0 [(0, [], [0]), (1, [], [5]), (2, [], [32]), (3, [], [31, 1]), (4, [], [34]), (5, [], [35]), (6, [], [8]), (7, [], [36, 0]), (8, [], [38]), (9, [], [30]), (10, [], [30]), (11, [], [39]), (12, [], [40])] [_, _, _, _, _, _, _, _, _, _, _, _, _]
        case' hm => exact dr
        case' hn => rfl
        case' hok => rfl
        case' hlen => rfl
        case' hd => rfl
        case' h0 => rfl
        case' hstep =>
         simp only [DAllG, push_cast, Option.isSome_some, Option.isSome_none]
         repeat' apply And.intro
         all_goals (apply DOne_V; simp only [push_cast, Nat.reduceAdd, Nat.reduceSub, Nat.reduceMul, Nat.reduceLT, Nat.reduceLeDiff, Nat.reduceEqDiff, Int.reduceToNat, ↓reduceIte] <;> first | exact rfl | omega | exact ⟨rfl, rfl⟩ | exact trivial | exact ⟨by omega, rfl⟩ | exact ⟨by omega, by omega, rfl⟩ | exact ⟨by omega, rfl, rfl⟩ | exact ⟨by omega, by omega, rfl, rfl⟩ | exact ⟨by omega, by omega, trivial⟩ | exact (find_ac (rs[s.1.toNat]'hin.2).1 x hlb.1 (by omega) _).to ⟨rfl, rfl⟩)
        case' hQ => skip
        rw [← hrn]
        cases hm : (matchP (ruleN rs s.1).1 x []).2 with
        | true =>
          rw [hm] at e
          simp only [if_true] at e
          simp only [push_cast, Nat.reduceAdd, Nat.reduceSub, Nat.reduceMul, Nat.reduceLT, Nat.reduceLeDiff, Nat.reduceEqDiff, Int.reduceToNat, ↓reduceIte, e, encFE]
        | false =>
          rw [hm] at e
          simp only [Bool.false_eq_true, if_false] at e
          simp only [push_cast, Nat.reduceAdd, Nat.reduceSub, Nat.reduceMul, Nat.reduceLT, Nat.reduceLeDiff, Nat.reduceEqDiff, Int.reduceToNat, ↓reduceIte, e, encFE, encL_nil]
theorem sys_B {rs : List (Term × Term)} (h : sysP rs = 0) : SysB rs ∧ (∀ r, r ∈ rs → checkP r.1 = 0 ∧ checkP r.2 = 0) ∧ ∀ r, r ∈ rs → extraP r = false := by
  unfold sysP at h
  split at h
  · rename_i h0; exact absurd h h0
  · rename_i h0
    have h0 : rulesP rs = 0 := by simpa using h0
    obtain ⟨h1, h2⟩ := rules_ok h0
    split at h
    · cases h
    · split at h
      · cases h
      · split at h
        · cases h
        · rename_i h3
          refine ⟨⟨h1, fun r hr => ?_⟩, h2, fun r hr => ?_⟩
          · have g1 := check_small (h2 r hr).1
            have g2 := check_small (h2 r hr).2
            omega
          · cases he : extraP r with
            | false => rfl
            | true => exact absurd (List.any_eq_true.2 ⟨r, hr, he⟩) h3
theorem both_ok {rs : List (Term × Term)} {t : Term} (h : bothP rs t = 0) : sysP rs = 0 ∧ checkP t = 0 := by
  unfold bothP at h
  split at h
  · rename_i h0; exact absurd h h0
  · rename_i h0; exact ⟨by simpa using h0, h⟩
structure FindOk (rs : List (Term × Term)) (t : Term) (s : Int × List Int) (x : Term) (σ : List (List UInt8 × Term)) : Prop where
  lo : 0 ≤ s.1
  hi : s.1.toNat < rs.length
  at' : atP t s.2 = some x
  ok : (matchP (ruleN rs s.1).1 x []).2 = true
  eq : (matchP (ruleN rs s.1).1 x []).1 = σ
  mem : ruleN rs s.1 ∈ rs
theorem find_ok {rs : List (Term × Term)} {t : Term} {s : Int × List Int} (h : (findE rs t s).2 = 0) : ∃ x, FindOk rs t s x (findE rs t s).1 := by
  unfold findE at h ⊢
  by_cases hin : 0 ≤ s.1 ∧ s.1.toNat < rs.length
  · rw [if_pos hin] at h ⊢
    cases ha : atP t s.2 with
    | none => rw [ha] at h; cases h
    | some x =>
      rw [ha] at h
      simp only at h ⊢
      cases hm : (matchP (ruleN rs s.1).1 x []).2 with
      | false => rw [hm] at h; cases h
      | true => exact ⟨x, hin.1, hin.2, ha, hm, rfl, by rw [ruleN_get hin.2]; exact List.getElem_mem hin.2⟩
  · rw [if_neg hin] at h; cases h
structure SubOk (σ : List (List UInt8 × Term)) (x : Term) : Prop where
  sorted : SortedN (σ.map (·.1))
  sub : ∀ b, b ∈ σ → SubT x b.2
theorem FindOk.subOk {rs : List (Term × Term)} {t : Term} {s : Int × List Int} {x : Term} {σ : List (List UInt8 × Term)} (h : FindOk rs t s x σ) : SubOk σ x ∧ σ.length ≤ (ruleN rs s.1).1.size := by
  obtain ⟨h1, h2⟩ := matchP_ok (ruleN rs s.1).1 x [] (by simp [SortedN])
  rw [h.eq] at h1 h2
  exact ⟨⟨h1.sorted, fun b hb => (h1.new b hb).resolve_left (by simp)⟩, by simpa using h2⟩
theorem SubOk.bulk {σ : List (List UInt8 × Term)} {x : Term} (h : SubOk σ x) : ∀ b, b ∈ σ → b.2.bulk ≤ x.bulk ∧ b.2.size ≤ x.size := fun b hb => ⟨(h.sub b hb).bulk, (h.sub b hb).sizes.1⟩
theorem SubOk.apply {σ : List (List UInt8 × Term)} {x : Term} (h : SubOk σ x) (hx : x.size ≤ 4000 ∧ x.bulk ≤ 100000) {r : Term} (hr : r.size ≤ 4000 ∧ r.bulk ≤ 100000) : (applyP σ r).size ≤ 16000000 ∧ (applyP σ r).bulk ≤ 20000000000 := by
  have h1 := apply_size σ 4000 (by decide) (fun b hb => by have := (h.bulk b hb).2; omega) r
  have h2 := apply_bulk σ 100000 (fun b hb => by have := (h.bulk b hb).1; omega) r
  have h3 : r.size * 4000 ≤ 4000 * 4000 := Nat.mul_le_mul hr.1 (Nat.le_refl _)
  have h4 : r.bulk * (100000 + 1) ≤ 100000 * (100000 + 1) := Nat.mul_le_mul hr.2 (Nat.le_refl _)
  omega
def rhsP (rs : List (Term × Term)) (t : Term) (s : Int × List Int) : Term := applyP (findE rs t s).1 (ruleN rs s.1).2
def doE (rs : List (Term × Term)) (t : Term) (s : Int × List Int) : Term × Int :=
  if (findE rs t s).2 ≠ 0 then (zeroT, (findE rs t s).2) else if fitsP (rhsP rs t s) = true ∧ fitsP (putP t s.2 (rhsP rs t s)) = true then (putP t s.2 (rhsP rs t s), 0) else (zeroT, 3)
theorem do_ac (rs : List (Term × Term)) (hr : sysP rs = 0) (t : Term) (ht : checkP t = 0) (s : Int × List Int) (hs : s.2.length < 1099511627776) (H : List AObj) :
    ACall Tryz.prog 94 [.sl .none (encL encRu rs), encT t, encSt s] H (fun r H' => r = encRE (doE rs t s) ∧ H' = H) := by
  obtain ⟨hB, hck, _⟩ := sys_B hr
  have htb := check_small ht
  refine ACall_V (H.length) 42 [.cell 6 25, .tmp 7] Tryz.func94 rfl rfl rfl ?_
  simp only [push_cast, Nat.reduceAdd, Nat.reduceSub, Nat.reduceMul, Nat.reduceLT, Nat.reduceLeDiff, Nat.reduceEqDiff, Int.reduceToNat, ↓reduceIte]
  refine (stepFind_ac rs hB t (by omega) s hs _).to ?_
  simp only [push_cast, Nat.reduceAdd, Nat.reduceSub, Nat.reduceMul, Nat.reduceLT, Nat.reduceLeDiff, Nat.reduceEqDiff, Int.reduceToNat, ↓reduceIte, encFE]
  refine cI (fun h => ?_) (fun h => ?_)
  · obtain ⟨x, hf⟩ := find_ok h
    obtain ⟨hso, hsl⟩ := hf.subOk
    have hxs := at_sub _ _ _ hf.at'
    have hxc := check_small (hxs.check ht)
    have hrc := check_small (hck _ hf.mem).2
    have hlc := check_small (hck _ hf.mem).1
    have hap := hso.apply hxc hrc
    have hrn := ruleN_get hf.hi
    have hpb := put_bulk (rhsP rs t s) _ _ _ hf.at'
    have hfm := ((check_iff _).1 ht).1
    have hsp := setP_put _ _ (rhsP rs t s) _ hf.at' hfm
    refine ⟨hf.lo, hf.hi, ?_⟩
    rw [← hrn]
    refine (instance_ac (findE rs t s).1 hso.sorted (by omega) (fun b hb => by have := (hso.bulk b hb).1; omega) (ruleN rs s.1).2 (by omega) (by omega) _).to ?_
    have hb2 : (rhsP rs t s).bulk ≤ 20000000000 := hap.2
    have ed : doE rs t s = if fitsP (rhsP rs t s) = true ∧ fitsP (putP t s.2 (rhsP rs t s)) = true then (putP t s.2 (rhsP rs t s), 0) else (zeroT, 3) := if_neg (by simpa using h)
    cases hf1 : fitsP (rhsP rs t s) with
    | true =>
      have e1 : instE (findE rs t s).1 (ruleN rs s.1).2 = (rhsP rs t s, 0) := if_pos hf1
      simp only [push_cast, Nat.reduceAdd, Nat.reduceSub, Nat.reduceMul, Nat.reduceLT, Nat.reduceLeDiff, Nat.reduceEqDiff, Int.reduceToNat, ↓reduceIte, e1]
      refine (set_ac (rhsP rs t s) (by omega) t (by omega) s.2 hs ⟨x, hf.at'⟩ _).to ?_
      rw [hsp]
      simp only [push_cast, Nat.reduceAdd, Nat.reduceSub, Nat.reduceMul, Nat.reduceLT, Nat.reduceLeDiff, Nat.reduceEqDiff, Int.reduceToNat, ↓reduceIte]
      refine (fit_ac (putP t s.2 (rhsP rs t s)) (by omega) _).to ?_
      cases hf2 : fitsP (putP t s.2 (rhsP rs t s)) with
      | true =>
        have e : doE rs t s = (putP t s.2 (rhsP rs t s), 0) := ed.trans (if_pos ⟨hf1, hf2⟩)
        simp only [push_cast, Nat.reduceAdd, Nat.reduceSub, Nat.reduceMul, Nat.reduceLT, Nat.reduceLeDiff, Nat.reduceEqDiff, Int.reduceToNat, ↓reduceIte, if_true, e]
      | false =>
        have e : doE rs t s = (zeroT, 3) := ed.trans (if_neg (by rw [hf2]; simp))
        simp only [push_cast, Nat.reduceAdd, Nat.reduceSub, Nat.reduceMul, Nat.reduceLT, Nat.reduceLeDiff, Nat.reduceEqDiff, Int.reduceToNat, ↓reduceIte, Bool.false_eq_true, if_false, e]
    | false =>
      have e1 : instE (findE rs t s).1 (ruleN rs s.1).2 = (.mk [] false [], 3) := if_neg (by rw [show fitsP (applyP (findE rs t s).1 (ruleN rs s.1).2) = false from hf1]; simp)
      have e : doE rs t s = (zeroT, 3) := ed.trans (if_neg (by rw [hf1]; simp))
      simp only [push_cast, Nat.reduceAdd, Nat.reduceSub, Nat.reduceMul, Nat.reduceLT, Nat.reduceLeDiff, Nat.reduceEqDiff, Int.reduceToNat, ↓reduceIte, e1, e]
      refine cI (fun h => absurd h (by decide)) (fun _ => ?_)
      simp only [push_cast, Nat.reduceAdd, Nat.reduceSub, Nat.reduceMul, Nat.reduceLT, Nat.reduceLeDiff, Nat.reduceEqDiff, Int.reduceToNat, ↓reduceIte]
  · have e : doE rs t s = (zeroT, (findE rs t s).2) := if_pos h
    simp only [push_cast, Nat.reduceAdd, Nat.reduceSub, Nat.reduceMul, Nat.reduceLT, Nat.reduceLeDiff, Nat.reduceEqDiff, Int.reduceToNat, ↓reduceIte, e]
end Ab
namespace Ab
open Go Go.Proofs
theorem step_some {n : List UInt8} {v : Bool} {xs : List Term} {i : Int} {p : List Int} {y : Term} (h : atP (.mk n v xs) (i :: p) = some y) : ∃ hi : 0 ≤ i ∧ i.toNat < xs.length, atP (xs[i.toNat]'hi.2) p = some y := by
  simp only [atP] at h
  split at h
  · rename_i hi; exact ⟨hi, h⟩
  · cases h
theorem step_put (n : List UInt8) (v : Bool) (xs : List Term) (i : Int) (p : List Int) (x : Term) (h : i.toNat < xs.length) : putP (.mk n v xs) (i :: p) x = .mk n false (xs.set i.toNat (putP (xs[i.toNat]'h) p x)) := by
  simp [putP, List.getD_eq_getElem?_getD, List.getElem?_eq_getElem h]
theorem place_at (n : List UInt8) (v : Bool) (xs : List Term) (i : Int) (p : List Int) (h : 0 ≤ i ∧ i.toNat < xs.length) : atP (.mk n v xs) (i :: p) = atP (xs[i.toNat]'h.2) p := by
  simp only [atP]; exact dif_pos h
theorem at_put : ∀ (p : List Int) (t x y : Term), atP t p = some y → atP (putP t p x) p = some x
  | [], t, x, y, _ => by cases t; rfl
  | i :: p, .mk n v xs, x, y, h => by
    obtain ⟨hi, h⟩ := step_some h
    rw [step_put _ _ _ _ _ _ hi.2, place_at _ _ _ _ _ ⟨hi.1, by simpa using hi.2⟩]
    simp only [List.getElem_set_self]
    exact at_put p _ x y h
theorem put_formed : ∀ (p : List Int) (t x y : Term), atP t p = some y → formedP t = true → formedP x = true → formedP (putP t p x) = true
  | [], t, x, y, _, _, hx => by cases t; exact hx
  | i :: p, .mk n v xs, x, y, h, hf, hx => by
    have hv := at_var h (by simp) hf
    obtain ⟨hi, ha⟩ := step_some h
    simp only [Term.var_mk] at hv
    subst hv
    rw [step_put _ _ _ _ _ _ hi.2]
    rw [formedP_mk] at hf ⊢
    simp only [Bool.false_eq_true, if_false, Bool.and_eq_true, decide_eq_true_eq, List.all_eq_true, List.length_set] at hf ⊢
    refine ⟨hf.1, fun z hz => ?_⟩
    rcases List.mem_or_eq_of_mem_set hz with hz | rfl
    · exact hf.2 _ hz
    · exact put_formed p _ x y ha (hf.2 _ (List.getElem_mem _)) hx
end Ab
set_option maxRecDepth 10000
namespace Ab
open Go Go.Proofs
theorem do_check {rs : List (Term × Term)} {t : Term} {s : Int × List Int} (hr : sysP rs = 0) (ht : checkP t = 0) (h : (doE rs t s).2 = 0) : checkP (doE rs t s).1 = 0 := by
  obtain ⟨_, hck, _⟩ := sys_B hr
  unfold doE at h ⊢
  by_cases hf : (findE rs t s).2 ≠ 0
  · rw [if_pos hf] at h; exact absurd h hf
  · rw [if_neg hf] at h ⊢
    have hf : (findE rs t s).2 = 0 := by simpa using hf
    obtain ⟨x, hfo⟩ := find_ok hf
    by_cases h2 : fitsP (rhsP rs t s) = true ∧ fitsP (putP t s.2 (rhsP rs t s)) = true
    · rw [if_pos h2] at h ⊢
      refine (check_iff _).2 ⟨?_, h2.2⟩
      refine put_formed _ _ _ _ hfo.at' ((check_iff _).1 ht).1 ?_
      refine formed_apply _ (fun b hb => ?_) _ ((check_iff _).1 (hck _ hfo.mem).2).1
      exact (((hfo.subOk).1.sub b hb).formed ((at_sub _ _ _ hfo.at').formed ((check_iff _).1 ht).1))
    · rw [if_neg h2] at h; cases h
end Ab
set_option maxRecDepth 10000
namespace Ab
open Go Go.Proofs
theorem putR_ac (x : Term) (hx : x.bulk ≤ 1099511627775) : ∀ (p : List Int) (t y : Term), t.bulk ≤ 1099511627775 → p.length < 1099511627776 → atP t p = some y → ∀ H,
    ACall Tryz.prog 28 [encT t, .sl .none (encP p), encT x] H (fun r H' => r = encT (putP t p x) ∧ H' = H) := by
  intro p
  induction p with
  | nil =>
    rintro ⟨n, u, xs⟩ y hb hlen hat H
    refine ACall_V (H.length) 32 [.cell 6 25] Tryz.func28 rfl rfl rfl ?_
    simp only [push_cast, Nat.reduceAdd, Nat.reduceSub, Nat.reduceMul, Nat.reduceLT, Nat.reduceLeDiff, Nat.reduceEqDiff, Int.reduceToNat, ↓reduceIte, putP]
  | cons k q ih =>
    rintro ⟨n, u, xs⟩ y hb hlen hat H
    have hl2 := Term.len_le (n := n) (v := u) (xs := xs)
    obtain ⟨hk, hat2⟩ := step_some hat
    rw [step_put _ _ _ _ _ _ hk.2]
    have hbx := arg_bulk hb k.toNat hk.2
    have hne : encTs xs ≠ [] := fun e => by have := congrArg List.length e; rw [encTs_length] at this; simp at this; rw [this] at hk; simp at hk
    have hrec := fun H => ih (xs[k.toNat]'hk.2) y hbx (by simp at hlen; omega) hat2 H
    have hget := flat_encTs_get xs k.toNat hk.2
    have hset := flat_encTs_set2 xs k.toNat hk.2
    have hfl := flat_encTs_len xs
    refine ACall_VA (H.length) 32 [.cell 6 25] Tryz.func28 rfl rfl rfl ?_
    refine AW_seq (AW_of_W ?_)
    simp only [push_cast, Nat.reduceAdd, Nat.reduceSub, Nat.reduceMul, Nat.reduceLT, Nat.reduceLeDiff, Nat.reduceEqDiff, Int.reduceToNat, ↓reduceIte]
    refine AW_reserve 1 ?_
    refine AW_seq (AW_of_W ?_)
    simp only [push_cast, Nat.reduceAdd, Nat.reduceSub, Nat.reduceMul, Nat.reduceLT, Nat.reduceLeDiff, Nat.reduceEqDiff, Int.reduceToNat, ↓reduceIte]
    refine cI (fun h => by omega) (fun _ => ?_)
    refine AW_seq (AW_of_W ?_)
    simp only [push_cast, Nat.reduceAdd, Nat.reduceSub, Nat.reduceMul, Nat.reduceLT, Nat.reduceLeDiff, Nat.reduceEqDiff, Int.reduceToNat, ↓reduceIte]
    refine AOp_append_arrAt (H.length + 3) (by exact (agetN _ _ 3).trans rfl) _ (encTs xs) _ rfl rfl sl23 sz25 by25 zr25 rfl (by decide) (uni_encTs _) (cell_encTs _) hne (by rw [encTs_length]; omega) (by rw [encTs_length]; omega) ?_
    simp only [push_cast, Nat.reduceAdd, Nat.reduceSub, Nat.reduceMul, Nat.reduceLT, Nat.reduceLeDiff, Nat.reduceEqDiff, Int.reduceToNat, ↓reduceIte]
    refine AW_seq ?_
    apply AW_drawE [some 16, some 17, some 18, some 19, some 20, some 21, some 22, some 23, some 24, some 25, some 26, some 27, some 28, some 29, some 30, none] [([false], _), ([true], _)] [none, none, none, none, none, none, none, none, none, none, none, none, none, none, none, some 0] 1 [(0, [false], [7]), (1, [false], [1]), (2, [false], [17]), (3, [false], [18]), (4, [false], [7]), (5, [false], [1]), (6, [false], [21]), (7, [false], [22]), (8, [false], [20, 2]), (9, [false], [24]), (10, [false], [1]), (11, [false], [26]), (12, [false], [5]), (13, [false], [25, 1, 0]), (14, [false], [16, 2]), (15, [false], [29, 0])] [_, _, _, _, _, _, _, _, _, _, _, _, _, _, _, _]
    case' hm => exact dr
    case' hn => rfl
    case' hok => rfl
    case' hlen => rfl
    case' hd => rfl
    case' h0 => rfl
    case' hstep =>
     simp only [DAllG, push_cast, Option.isSome_some, Option.isSome_none]
     repeat' apply And.intro
     all_goals (apply DOne_V; simp only [push_cast, Nat.reduceAdd, Nat.reduceSub, Nat.reduceMul, Nat.reduceLT, Nat.reduceLeDiff, Nat.reduceEqDiff, Int.reduceToNat, ↓reduceIte] <;> first | exact rfl | omega | exact ⟨rfl, rfl⟩ | exact trivial | exact ⟨by omega, rfl⟩ | exact ⟨by omega, by omega, rfl⟩ | exact ⟨by omega, rfl, rfl⟩ | exact ⟨by omega, by omega, rfl, rfl⟩ | (rw [hget]; exact ⟨leL_of (by rw [hfl]; omega), rfl⟩) | exact (hrec _).to ⟨rfl, rfl⟩ | (rw [hset]; exact ⟨leL_of (by rw [hfl]; omega), rfl, rfl⟩))
    case' hQ => skip
    obtain ⟨zs, hzs⟩ : ∃ zs, zs = xs.set k.toNat (putP (xs[k.toNat]'hk.2) q x) := ⟨_, rfl⟩
    rw [← hzs]
    have hzl : zs.length = xs.length := by rw [hzs, List.length_set]
    have hLl : (H ++ [AObj.cells [.str n, .bool u, .sl .none (encTs xs)], .cells [.str x.name, .bool x.var, .sl .none (encTs x.args)], .cells [.str [], .bool false, .sl .zero []]]).length = H.length + 3 := by simp
    simp only [push_cast, Nat.reduceAdd, Nat.reduceSub, Nat.reduceMul, Nat.reduceLT, Nat.reduceLeDiff, Nat.reduceEqDiff, Int.reduceToNat, ↓reduceIte]
    apply AW_freezeA (H ++ [.cells [.str n, .bool u, .sl .none (encTs xs)], .cells [.str x.name, .bool x.var, .sl .none (encTs x.args)], .cells [.str [], .bool false, .sl .zero []]]) (flat (encTs zs))
    case' hh => simp
    case' hm => rw [hLl]; simp only [push_cast, Nat.reduceAdd, Nat.reduceSub, Nat.reduceMul, Nat.reduceLT, Nat.reduceLeDiff, Nat.reduceEqDiff, Int.reduceToNat, ↓reduceIte]
    case' hvs => exact scoped_flatT _ zs
    case' hsl => (rw [hLl]; repeat (first | exact FrzOk.nil | apply FrzOk.froz | (apply FrzOk.row (xs := encTs zs); (case' hxs => rfl); (case' hn => (rw [encTs_length, hzl]))) | (apply FrzOk.same; (case' hv => (first | (simp [push_cast]; done) | (simp [push_cast, Scoped, ScopedL, scoped_encTs]; done)))) | apply FrzOk.junk))
    refine AW_of_W ?_
    simp only [push_cast, Nat.reduceAdd, Nat.reduceSub, Nat.reduceMul, Nat.reduceLT, Nat.reduceLeDiff, Nat.reduceEqDiff, Int.reduceToNat, ↓reduceIte]
end Ab
set_option maxRecDepth 10000
namespace Ab
open Go Go.Proofs
set_option maxHeartbeats 2000000 in
theorem substRX_ac (rs : List (Term × Term)) (hr2 : ∀ r, r ∈ rs → r.1.bulk ≤ 1099511627770) (t : Term) (hb : t.bulk ≤ 1099511627775) (s : Int × List Int) (hs : s.2.length < 1099511627776) (H : List AObj) :
    ACall Tryz.prog 101 [.sl .none (encL encRu rs), encT t, encSt s] H (fun r H' => r = encFE (findE rs t s) ∧ H' = H) := by
  refine ACall_V (H.length) 43 [.tmp 6, .tmp 7] Tryz.func101 rfl rfl rfl ?_
  simp only [push_cast, Nat.reduceAdd, Nat.reduceSub, Nat.reduceMul, Nat.reduceLT, Nat.reduceLeDiff, Nat.reduceEqDiff, Int.reduceToNat, ↓reduceIte]
  have bad : ¬ (0 ≤ s.1 ∧ s.1.toNat < rs.length) → findE rs t s = ([], 8) := fun h => if_neg h
  refine (atR_ac t s.2 hb hs _).to ?_
  cases ha : atP t s.2 with
  | none =>
    have e : findE rs t s = ([], 8) := by
      unfold findE
      split
      · rw [ha]
      · rfl
    simp only [push_cast, Nat.reduceAdd, Nat.reduceSub, Nat.reduceMul, Nat.reduceLT, Nat.reduceLeDiff, Nat.reduceEqDiff, Int.reduceToNat, ↓reduceIte, e, encFE, encL_nil]
    exact cI (fun _ => trivial) (fun _ => cI (fun _ => trivial) (fun _ => trivial))
  | some x =>
    simp only [push_cast, Nat.reduceAdd, Nat.reduceSub, Nat.reduceMul, Nat.reduceLT, Nat.reduceLeDiff, Nat.reduceEqDiff, Int.reduceToNat, ↓reduceIte]
    refine cI (fun h => ?_) (fun h => ?_)
    · simp only [push_cast, Nat.reduceAdd, Nat.reduceSub, Nat.reduceMul, Nat.reduceLT, Nat.reduceLeDiff, Nat.reduceEqDiff, Int.reduceToNat, ↓reduceIte, bad (by omega), encFE, encL_nil]
    · refine cI (fun h2 => ?_) (fun h2 => ?_)
      · simp only [push_cast, Nat.reduceAdd, Nat.reduceSub, Nat.reduceMul, Nat.reduceLT, Nat.reduceLeDiff, Nat.reduceEqDiff, Int.reduceToNat, ↓reduceIte, bad (by omega), encFE, encL_nil]
      · have hin : 0 ≤ s.1 ∧ s.1.toNat < rs.length := by omega
        have e : findE rs t s = (match atP t s.2 with
          | some x => if (matchP (ruleN rs s.1).1 x []).2 then ((matchP (ruleN rs s.1).1 x []).1, 0) else ([], 9)
          | none => ([], 8)) := if_pos hin
        simp only [ha] at e
        have hxb := at_bulk _ _ _ ha
        have hrn := ruleN_get hin.2
        have hlb := hr2 _ (List.getElem_mem hin.2)
        apply AW_drawE [some 33, some 34, some 35, some 36, some 37, some 38, some 39, some 40, some 32, some 41, some 42, some 10, some 9] [([], _)] [none, none, none, none, none, none, none, none, none, none, none, none, none] 0 [(0, [], [0]), (1, [], [5]), (2, [], [34]), (3, [], [33, 1]), (4, [], [36]), (5, [], [37]), (6, [], [8]), (7, [], [38, 0]), (8, [], [40]), (9, [], [32]), (10, [], [32]), (11, [], [41]), (12, [], [42])] [_, _, _, _, _, _, _, _, _, _, _, _, _]
        case' hm => exact dr
        case' hn => rfl
        case' hok => rfl
        case' hlen => rfl
        case' hd => rfl
        case' h0 => rfl
        case' hstep =>
         simp only [DAllG, push_cast, Option.isSome_some, Option.isSome_none]
         repeat' apply And.intro
         all_goals (apply DOne_V; simp only [push_cast, Nat.reduceAdd, Nat.reduceSub, Nat.reduceMul, Nat.reduceLT, Nat.reduceLeDiff, Nat.reduceEqDiff, Int.reduceToNat, ↓reduceIte] <;> first | exact rfl | omega | exact ⟨rfl, rfl⟩ | exact trivial | exact ⟨by omega, rfl⟩ | exact ⟨by omega, by omega, rfl⟩ | exact ⟨by omega, rfl, rfl⟩ | exact ⟨by omega, by omega, rfl, rfl⟩ | exact ⟨by omega, by omega, trivial⟩ | exact (matchRef_ac (rs[s.1.toNat]'hin.2).1 x hlb (by omega) _).to ⟨rfl, rfl⟩)
        case' hQ => skip
        rw [← hrn]
        have g1 := (matchR_eq (ruleN rs s.1).1 x []).1
        have g2 := (matchR_eq (ruleN rs s.1).1 x []).2
        rcases Bool.eq_false_or_eq_true (matchP (ruleN rs s.1).1 x []).2 with hm | hm
        · have em : matchR (ruleN rs s.1).1 x [] = ((matchP (ruleN rs s.1).1 x []).1, true) := (g2 hm).trans (by rw [← hm])
          rw [if_pos hm] at e
          rw [em, e]
          generalize (matchP (ruleN rs s.1).1 x []).1 = σ
          simp only [push_cast, Nat.reduceAdd, Nat.reduceSub, Nat.reduceMul, Nat.reduceLT, Nat.reduceLeDiff, Nat.reduceEqDiff, Int.reduceToNat, ↓reduceIte, encFE]
        · have em : matchR (ruleN rs s.1).1 x [] = ((matchR (ruleN rs s.1).1 x []).1, false) := by rw [← g1.trans hm]
          rw [if_neg (by rw [hm]; simp)] at e
          rw [em, e]
          generalize (matchR (ruleN rs s.1).1 x []).1 = σ
          simp only [push_cast, Nat.reduceAdd, Nat.reduceSub, Nat.reduceMul, Nat.reduceLT, Nat.reduceLeDiff, Nat.reduceEqDiff, Int.reduceToNat, ↓reduceIte, encFE, encL_nil]
theorem put_size (s : Term) : ∀ (p : List Int) (c x : Term), atP c p = some x → (putP c p s).size ≤ c.size + s.size
  | [], c, x, _ => by cases c; simp [putP]
  | i :: p, .mk n u xs, x, h => by
    obtain ⟨hk, h2⟩ := step_some h
    have ih := put_size s p _ x h2
    rw [step_put n u xs i p s hk.2, Term.size_mk, Term.size_mk]
    have h1 := sum_setN Term.size xs i.toNat hk.2 (putP (xs[i.toNat]'hk.2) p s)
    omega
theorem set_sizes (f : Term → Nat) (xs : List Term) (k : Nat) (z : Term) (i : Nat) (h : i < xs.length) : ((xs.set k z)[i]'(by simpa using h)) = if k = i then z else xs[i] := by
  rw [List.getElem_set]
set_option maxHeartbeats 2000000 in
theorem replacedX_ac (x : Term) (hx : x.size ≤ 100000000000) (hxd : x.depth ≤ 100000000000) : ∀ (p : List Int) (t y : Term), t.bulk ≤ 100000000000 → p.length < 1099511627776 → atP t p = some y → ∀ H,
    ACall Tryz.prog 103 [encT t, .sl .none (encP p), .int .i64 x.size, .int .i64 x.depth] H (fun r H' => r = .tup [.int .i64 (putP t p x).size, .int .i64 (putP t p x).depth] ∧ H' = H) := by
  intro p
  induction p with
  | nil =>
    intro t y hb hp ha H
    have e : putP t [] x = x := by cases t; rfl
    rw [e]
    refine ACall_V (H.length) 53 [.tmp 8, .tmp 9] Tryz.func103 rfl rfl rfl ?_
    simp only [push_cast, Nat.reduceAdd, Nat.reduceSub, Nat.reduceMul, Nat.reduceLT, Nat.reduceLeDiff, Nat.reduceEqDiff, Int.reduceToNat, ↓reduceIte, encP_length]
  | cons k p ih =>
    intro t y hb hp ha H
    obtain ⟨n, u, xs⟩ := t
    obtain ⟨hk, ha2⟩ := step_some ha
    have hlx := Term.len_le (n := n) (v := u) (xs := xs)
    have ep := step_put n u xs k p x hk.2
    obtain ⟨z, hz⟩ : ∃ z, z = putP (xs[k.toNat]'hk.2) p x := ⟨_, rfl⟩
    rw [ep, ← hz]
    have hkb := Term.arg_le (n := n) (v := u) (List.getElem_mem hk.2)
    have hpb := put_size x _ _ _ ha2
    rw [← hz] at hpb
    have hxs0 := (xs[k.toNat]'hk.2).size_le
    have hzd := z.depth_le
    obtain ⟨ys, hys⟩ : ∃ ys, ys = xs.set k.toNat z := ⟨_, rfl⟩
    have hyl : ys.length = xs.length := by rw [hys]; simp
    rw [← hys, Term.size_mk, Term.depth_mk]
    have hget : ∀ i (h : i < xs.length), ys[i]'(by omega) = if k.toNat = i then z else xs[i] := fun i h => by
      simp only [hys]; exact set_sizes Term.size xs k.toNat z i h
    have hys2 : (ys.map Term.size).sum ≤ 300000000000 := by
      have h1 := sum_setN Term.size xs k.toNat hk.2 z
      rw [← hys] at h1
      have h2 := (Term.mk n u xs).size_le
      rw [Term.size_mk] at h2
      omega
    refine ACall_V (H.length) 53 [.tmp 8, .tmp 9] Tryz.func103 rfl rfl rfl ?_
    simp only [push_cast, Nat.reduceAdd, Nat.reduceSub, Nat.reduceMul, Nat.reduceLT, Nat.reduceLeDiff, Nat.reduceEqDiff, Int.reduceToNat, ↓reduceIte, encP_length]
    refine cI (fun h => absurd h (by omega)) (fun _ => ?_)
    refine AW_loopW (maskG 57 [1, 0, 0, 6, 0, 10, 0, 0]) (fun (i : Nat) => [(24, .int .i64 i), (10, .int .i64 (1 + ((ys.take i).map Term.size).sum : Nat)), (11, .int .i64 (((ys.take i).map Term.depth).foldl max 0 : Nat))]) (fun i => H ++ [.cells [.str n, .bool u, .sl .none (encTs xs)]]) (fun i => i ≤ xs.length) (fun i => xs.length - i) 0 (Nat.zero_le _) (by simp only [push_cast, Nat.reduceAdd, Nat.reduceSub, Nat.reduceMul, Nat.reduceLT, Nat.reduceLeDiff, Nat.reduceEqDiff, Int.reduceToNat, ↓reduceIte, List.take_zero]; simp) (fun i hi => ?_)
    simp only [push_cast, Nat.reduceAdd, Nat.reduceSub, Nat.reduceMul, Nat.reduceLT, Nat.reduceLeDiff, Nat.reduceEqDiff, Int.reduceToNat, ↓reduceIte]
    refine cI (fun h => ?_) (fun h => ?_)
    · have hix : i < xs.length := by omega
      have hiy : i < ys.length := by omega
      refine ⟨hix, ?_⟩
      have hib := Term.arg_le (n := n) (v := u) (List.getElem_mem hix)
      have hst1 := take_sum Term.size ys i hiy
      have hst2 := take_depth ys i hiy
      have hg := hget i hix
      have hle := take_sum_le Term.size ys (i + 1)
      have hle0 := take_sum_le Term.size ys i
      have hdl := foldl_max_le Term.depth (ys.take i) 0
      have hdl2 : ((ys.take i).map Term.depth).sum ≤ ((ys.take i).map Term.size).sum := by
        generalize ys.take i = l
        induction l with
        | nil => simp
        | cons a r ih => have := a.depth_le; simp only [List.map_cons, List.sum_cons]; omega
      have hsi := xs[i].size_le
      have hdi := xs[i].depth_le
      apply AW_drawE [some 29, some 30, some 31, some 32, some 14, some 15] [([], _)] [none, none, none, none, none, none] 0 [(0, [], [13]), (1, [], [29]), (2, [], [13]), (3, [], [31]), (4, [], [30]), (5, [], [32])] [_, _, _, _, _, _]
      case' hm => exact dr
      case' hn => rfl
      case' hok => rfl
      case' hlen => rfl
      case' hd => rfl
      case' h0 => rfl
      case' hstep =>
       simp only [DAllG, push_cast, Option.isSome_some, Option.isSome_none]
       repeat' apply And.intro
       all_goals (apply DOne_V; simp only [push_cast, Nat.reduceAdd, Nat.reduceSub, Nat.reduceMul, Nat.reduceLT, Nat.reduceLeDiff, Nat.reduceEqDiff, Int.reduceToNat, ↓reduceIte] <;> first | exact rfl | omega | exact ⟨rfl, rfl⟩ | exact trivial | exact ⟨by omega, rfl⟩ | exact ⟨by omega, by omega, rfl⟩ | exact ⟨by omega, rfl, rfl⟩ | exact ⟨by omega, by omega, rfl, rfl⟩ | exact (sizeR_ac xs[i] (by omega) _).to ⟨rfl, rfl⟩ | exact (depthR_ac xs[i] (by omega) _).to ⟨rfl, rfl⟩)
      case' hQ => skip
      simp only [push_cast, Nat.reduceAdd, Nat.reduceSub, Nat.reduceMul, Nat.reduceLT, Nat.reduceLeDiff, Nat.reduceEqDiff, Int.reduceToNat, ↓reduceIte]
      refine ⟨by omega, by simp, ?_⟩
      refine cI (fun hik => ?_) (fun hik => ?_)
      · have hki : k.toNat = i := by omega
        rw [if_pos hki] at hg
        subst hki
        have hdr : List.drop 1 (encP (k :: p)) = encP p := rfl
        apply AW_drawE [some 39, some 40, some 41, some 42, some 43, some 44, some 38, some 45, some 46, some 14, some 15] [([], _)] [none, none, none, none, none, none, none, none, none, none, none] 0 [(0, [], [13]), (1, [], [1]), (2, [], [40]), (3, [], [2]), (4, [], [3]), (5, [], [39, 1, 0, 0]), (6, [], [44]), (7, [], [38]), (8, [], [38]), (9, [], [45]), (10, [], [46])] [_, _, _, _, _, _, _, _, _, _, _]
        case' hm => exact dr
        case' hn => rfl
        case' hok => rfl
        case' hlen => rfl
        case' hd => rfl
        case' h0 => rfl
        case' hstep =>
         simp only [DAllG, push_cast, Option.isSome_some, Option.isSome_none]
         repeat' apply And.intro
         all_goals (apply DOne_V; simp only [push_cast, Nat.reduceAdd, Nat.reduceSub, Nat.reduceMul, Nat.reduceLT, Nat.reduceLeDiff, Nat.reduceEqDiff, Int.reduceToNat, ↓reduceIte] <;> first | exact rfl | omega | exact ⟨rfl, rfl⟩ | exact trivial | exact ⟨by omega, rfl⟩ | exact ⟨by omega, by omega, rfl⟩ | exact ⟨by omega, rfl, rfl⟩ | exact ⟨by omega, by omega, rfl, rfl⟩ | exact (ih (xs[k.toNat]'hk.2) y (by omega) (by simp at hp; omega) ha2 _).to ⟨rfl, rfl⟩)
        case' hQ => skip
        rw [← hz]
        rw [hg] at hst1 hst2
        simp only [push_cast, Nat.reduceAdd, Nat.reduceSub, Nat.reduceMul, Nat.reduceLT, Nat.reduceLeDiff, Nat.reduceEqDiff, Int.reduceToNat, ↓reduceIte]
        repeat' first | refine ⟨by omega, ?_⟩ | refine cI (fun _ => ?_) (fun _ => ?_)
        refine loopW_n (k.toNat + 1) (by omega) (by omega) ?_
        rw [hst1, hst2]
        simp only [push_cast, Nat.reduceAdd, Nat.reduceSub, Nat.reduceMul, Nat.reduceLT, Nat.reduceLeDiff, Nat.reduceEqDiff, Int.reduceToNat, ↓reduceIte]
        omega
      · have hki : ¬ k.toNat = i := by omega
        rw [if_neg hki] at hg
        rw [hg] at hst1 hst2
        repeat' first | refine ⟨by omega, ?_⟩ | refine cI (fun _ => ?_) (fun _ => ?_)
        refine loopW_n (i + 1) (by omega) (by omega) ?_
        rw [hst1, hst2]
        simp only [push_cast, Nat.reduceAdd, Nat.reduceSub, Nat.reduceMul, Nat.reduceLT, Nat.reduceLeDiff, Nat.reduceEqDiff, Int.reduceToNat, ↓reduceIte]
        omega
    · rw [List.take_of_length_le (show ys.length ≤ i by omega)]
      have hdl := foldl_max_le Term.depth ys 0
      have hdl2 : (ys.map Term.depth).sum ≤ (ys.map Term.size).sum := by
        generalize ys = l
        induction l with
        | nil => simp
        | cons a r ih => have := a.depth_le; simp only [List.map_cons, List.sum_cons]; omega
      simp only [push_cast, Nat.reduceAdd, Nat.reduceSub, Nat.reduceMul, Nat.reduceLT, Nat.reduceLeDiff, Nat.reduceEqDiff, Int.reduceToNat, ↓reduceIte]
      omega
end Ab
set_option maxRecDepth 10000
namespace Ab
open Go Go.Proofs
theorem do_alt {rs : List (Term × Term)} {t : Term} {s : Int × List Int} : doE rs t s = if (findE rs t s).2 ≠ 0 then (zeroT, (findE rs t s).2) else if fitsP (putP t s.2 (rhsP rs t s)) = true then (putP t s.2 (rhsP rs t s), 0) else (zeroT, 3) := by
  unfold doE
  by_cases h : (findE rs t s).2 ≠ 0
  · rw [if_pos h, if_pos h]
  · rw [if_neg h, if_neg h]
    obtain ⟨x, hf⟩ := find_ok (by simpa using h)
    by_cases h2 : fitsP (putP t s.2 (rhsP rs t s)) = true
    · have hs := (at_sub _ _ _ (at_put _ _ (rhsP rs t s) _ hf.at')).sizes
      have h1 : fitsP (rhsP rs t s) = true := by
        unfold fitsP at h2 ⊢
        rw [Bool.and_eq_true, decide_eq_true_eq, decide_eq_true_eq] at h2 ⊢
        omega
      rw [if_pos ⟨h1, h2⟩, if_pos h2]
    · rw [if_neg h2, if_neg (fun h => h2 h.2)]
end Ab
set_option maxRecDepth 10000
namespace Ab
open Go Go.Proofs
def nmB (N : Nat) : Term → Bool
  | .mk n _ xs => decide (n.length ≤ N) && (xs.map (nmB N)).all id
theorem nmB_mk (N : Nat) (n : List UInt8) (u : Bool) (xs : List Term) : nmB N (.mk n u xs) = (decide (n.length ≤ N) && xs.all (nmB N)) := by rw [nmB, List.all_map]; rfl
theorem nmB_iff (N : Nat) (n : List UInt8) (u : Bool) (xs : List Term) : nmB N (.mk n u xs) = true ↔ n.length ≤ N ∧ ∀ x, x ∈ xs → nmB N x = true := by rw [nmB_mk, Bool.and_eq_true, decide_eq_true_eq, List.all_eq_true]
theorem nm_bulk (N : Nat) (t : Term) : nmB N t = true → t.bulk ≤ t.size * (N + 1) := by
  induction t using Term.ind with | _ n u xs ih
  intro h
  obtain ⟨h1, h2⟩ := (nmB_iff N n u xs).1 h
  rw [Term.bulk_mk, Term.size_mk]
  have key : ∀ ys : List Term, (∀ y, y ∈ ys → y ∈ xs) → (ys.map Term.bulk).sum ≤ (ys.map Term.size).sum * (N + 1) := by
    intro ys
    induction ys with
    | nil => intro _; simp
    | cons y ys ih2 =>
      intro hy
      have a := ih y (hy y (by simp)) (h2 y (hy y (by simp)))
      have b := ih2 (fun z hz => hy z (by simp [hz]))
      simp only [List.map_cons, List.sum_cons, Nat.add_mul]
      omega
  have := key xs (fun y h => h)
  rw [Nat.add_mul]
  omega
theorem nm_of (N : Nat) (t : Term) : t.bulk ≤ N → nmB N t = true := by
  induction t using Term.ind with | _ n u xs ih
  intro h
  have h1 := Term.name_le (n := n) (v := u) (xs := xs)
  exact (nmB_iff N n u xs).2 ⟨by omega, fun x hx => ih x hx (by have := Term.arg_le (n := n) (v := u) hx; omega)⟩
theorem nm_sub {N : Nat} {s t : Term} (h : SubT s t) : nmB N s = true → nmB N t = true := by
  induction h with
  | refl => exact id
  | arg hx _ ih => intro hs; exact ih (((nmB_iff _ _ _ _).1 hs).2 _ hx)
theorem nm_image {N : Nat} {σ : List (List UInt8 × Term)} (h : ∀ b, b ∈ σ → nmB N b.2 = true) (v : List UInt8) (hv : v.length ≤ N) : nmB N (imageP σ v) = true := by
  unfold imageP
  cases hf : σ.find? fun b => decide (b.1 = v) with
  | none => exact (nmB_iff _ _ _ _).2 ⟨hv, fun x hx => by simp at hx⟩
  | some b => exact h b (List.mem_of_find?_eq_some hf)
theorem nm_apply {N : Nat} {σ : List (List UInt8 × Term)} (h : ∀ b, b ∈ σ → nmB N b.2 = true) (t : Term) : nmB N t = true → nmB N (applyP σ t) = true := by
  induction t using Term.ind with | _ n u xs ih
  intro ht
  obtain ⟨h1, h2⟩ := (nmB_iff _ _ _ _).1 ht
  rw [applyP_mk]
  split
  · exact nm_image h n h1
  · refine (nmB_iff _ _ _ _).2 ⟨h1, fun x hx => ?_⟩
    obtain ⟨y, hy, rfl⟩ := List.mem_map.1 hx
    exact ih y hy (h2 y hy)
theorem nm_put {N : Nat} {x : Term} (hx : nmB N x = true) : ∀ (p : List Int) (t y : Term), atP t p = some y → nmB N t = true → nmB N (putP t p x) = true
  | [], t, y, _, _ => by cases t; exact hx
  | i :: p, .mk n u xs, y, h, ht => by
    obtain ⟨hk, h2⟩ := step_some h
    obtain ⟨h1, h3⟩ := (nmB_iff _ _ _ _).1 ht
    rw [step_put n u xs i p x hk.2]
    refine (nmB_iff _ _ _ _).2 ⟨h1, fun z hz => ?_⟩
    rcases List.mem_or_eq_of_mem_set hz with hz | rfl
    · exact h3 z hz
    · exact nm_put hx p _ y h2 (h3 _ (List.getElem_mem hk.2))
def TmB (t : Term) : Prop := t.size ≤ 4000 ∧ nmB 1048576 t = true
theorem TmB.bulk {t : Term} (h : TmB t) : t.bulk ≤ 4194308000 := by
  have h1 := nm_bulk 1048576 t h.2
  have h2 : t.size * (1048576 + 1) ≤ 4000 * (1048576 + 1) := Nat.mul_le_mul h.1 (Nat.le_refl _)
  omega
def RuB (rs : List (Term × Term)) : Prop := ∀ r, r ∈ rs → r.1.bulk ≤ 1048576 ∧ r.2.bulk ≤ 1048576
theorem rhs_nm {rs : List (Term × Term)} (hr : RuB rs) {t : Term} (ht : TmB t) {s : Int × List Int} {x : Term} (hf : FindOk rs t s x (findE rs t s).1) : nmB 1048576 (rhsP rs t s) = true := by
  have hxn := nm_sub (at_sub _ _ _ hf.at') ht.2
  exact nm_apply (fun b hb => nm_sub (hf.subOk.1.sub b hb) hxn) _ (nm_of _ _ (hr _ hf.mem).2)
theorem do_TmB {rs : List (Term × Term)} (hr : RuB rs) {t : Term} (ht : TmB t) {s : Int × List Int} (h : (doE rs t s).2 = 0) : TmB (doE rs t s).1 := by
  rw [do_alt] at h ⊢
  split
  · rename_i h1; rw [if_pos h1] at h; exact absurd h h1
  · rename_i h1
    rw [if_neg h1] at h
    obtain ⟨x, hf⟩ := find_ok (by simpa using h1)
    split
    · rename_i h2
      exact ⟨fits_size h2, nm_put (rhs_nm hr ht hf) _ _ _ hf.at' ht.2⟩
    · rename_i h2; rw [if_neg h2] at h; cases h
set_option maxHeartbeats 2000000 in
theorem stepRX_ac (rs : List (Term × Term)) (hr : RuB rs) (t : Term) (ht : TmB t) (s : Int × List Int) (hs : s.2.length < 1099511627776) (H : List AObj) :
    ACall Tryz.prog 51 [.sl .none (encL encRu rs), encT t, encSt s] H (fun r H' => r = encRE (doE rs t s) ∧ H' = H) := by
  have htb := ht.bulk
  rw [do_alt]
  refine ACall_V (H.length) 59 [.cell 6 25, .tmp 7] Tryz.func51 rfl rfl rfl ?_
  simp only [push_cast, Nat.reduceAdd, Nat.reduceSub, Nat.reduceMul, Nat.reduceLT, Nat.reduceLeDiff, Nat.reduceEqDiff, Int.reduceToNat, ↓reduceIte]
  refine (substRX_ac rs (fun r h => by have := hr r h; omega) t (by omega) s hs _).to ?_
  simp only [push_cast, Nat.reduceAdd, Nat.reduceSub, Nat.reduceMul, Nat.reduceLT, Nat.reduceLeDiff, Nat.reduceEqDiff, Int.reduceToNat, ↓reduceIte, encFE]
  refine cI (fun h => ?_) (fun h => ?_)
  · rw [if_neg (by simpa using h)]
    obtain ⟨x, hf⟩ := find_ok h
    obtain ⟨hso, hsl⟩ := hf.subOk
    have hxs := at_sub _ _ _ hf.at'
    have hrb := hr _ hf.mem
    have hlz := (ruleN rs s.1).1.size_le
    have hrz := (ruleN rs s.1).2.size_le
    have hrn := ruleN_get hf.hi
    have hxz := hxs.sizes.1
    have hxb := hxs.bulk
    have ht1 := ht.1
    have hap : (rhsP rs t s).size ≤ (ruleN rs s.1).2.size * 4000 := apply_size _ 4000 (by decide) (fun b hb => by have := (hso.bulk b hb).2; omega) _
    have hap2 : (rhsP rs t s).size ≤ 4194304000 := by omega
    have hapd := (rhsP rs t s).depth_le
    have hnm := rhs_nm hr ht hf
    have hap3 : (applyP (findE rs t s).1 (ruleN rs s.1).2).size ≤ 4194304000 := hap2
    have hsbk : ∀ b, b ∈ (findE rs t s).1 → b.2.bulk ≤ 1099511627775 := fun b hb => by have := (hso.bulk b hb).1; omega
    refine ⟨hf.lo, hf.hi, ?_⟩
    rw [← hrn]
    refine (grownR_ac (findE rs t s).1 (by omega) hsbk (ruleN rs s.1).2 (by omega) (by omega) _).to ?_
    simp only [push_cast, Nat.reduceAdd, Nat.reduceSub, Nat.reduceMul, Nat.reduceLT, Nat.reduceLeDiff, Nat.reduceEqDiff, Int.reduceToNat, ↓reduceIte]
    refine (replacedX_ac (rhsP rs t s) (by omega) (by omega) s.2 t x (by omega) hs hf.at' _).to ?_
    simp only [push_cast, Nat.reduceAdd, Nat.reduceSub, Nat.reduceMul, Nat.reduceLT, Nat.reduceLeDiff, Nat.reduceEqDiff, Int.reduceToNat, ↓reduceIte]
    have hsub := at_sub _ _ _ (at_put _ _ (rhsP rs t s) _ hf.at')
    obtain ⟨u, hu⟩ : ∃ u, u = putP t s.2 (rhsP rs t s) := ⟨_, rfl⟩
    rw [← hu] at hsub ⊢
    have fn : ¬ (u.size ≤ 4000 ∧ u.depth ≤ 200) → ¬ fitsP u = true := fun h1 h2 => by
      unfold fitsP at h2
      rw [Bool.and_eq_true, decide_eq_true_eq, decide_eq_true_eq] at h2
      exact h1 h2
    refine cI (fun h1 => ?_) (fun h1 => ?_)
    · rw [if_neg (fn (by omega))]
      simp only [push_cast, Nat.reduceAdd, Nat.reduceSub, Nat.reduceMul, Nat.reduceLT, Nat.reduceLeDiff, Nat.reduceEqDiff, Int.reduceToNat, ↓reduceIte]
    · refine cI (fun h2 => ?_) (fun h2 => ?_)
      · rw [if_neg (fn (by omega))]
        simp only [push_cast, Nat.reduceAdd, Nat.reduceSub, Nat.reduceMul, Nat.reduceLT, Nat.reduceLeDiff, Nat.reduceEqDiff, Int.reduceToNat, ↓reduceIte]
      · have hfu : fitsP u = true := by unfold fitsP; rw [Bool.and_eq_true, decide_eq_true_eq, decide_eq_true_eq]; omega
        rw [if_pos hfu]
        have hus := hsub.sizes.1
        have hub := (show TmB (rhsP rs t s) from ⟨by omega, hnm⟩).bulk
        apply AW_drawE [some 50, some 51, some 52, some 53, some 54, some 55, some 56, some 57, some 58, some 59, some 60, some 61, none, some 7] [([false], _), ([true], _)] [none, none, none, none, none, none, none, none, none, none, none, none, some 0, none] 1 [(0, [false], [4]), (1, [false], [5]), (2, [false], [51]), (3, [false], [8]), (4, [false], [0]), (5, [false], [5]), (6, [false], [55]), (7, [false], [54, 1]), (8, [false], [57]), (9, [false], [58]), (10, [false], [53, 5]), (11, [false], [50, 1, 7]), (12, [false], [6, 54]), (13, [true], [])] [_, _, _, _, _, _, _, _, _, _, _, _, _, _]
        case' hm => exact dr
        case' hn => rfl
        case' hok => rfl
        case' hlen => rfl
        case' hd => rfl
        case' h0 => rfl
        case' hstep =>
         simp only [DAllG, push_cast, Option.isSome_some, Option.isSome_none]
         repeat' apply And.intro
         all_goals (apply DOne_V; simp only [push_cast, Nat.reduceAdd, Nat.reduceSub, Nat.reduceMul, Nat.reduceLT, Nat.reduceLeDiff, Nat.reduceEqDiff, Int.reduceToNat, ↓reduceIte] <;> first | exact rfl | omega | exact ⟨rfl, rfl⟩ | exact trivial | exact ⟨by omega, rfl⟩ | exact ⟨by omega, by omega, rfl⟩ | exact ⟨by omega, rfl, rfl⟩ | exact ⟨by omega, by omega, rfl, rfl⟩ | exact ⟨hf.lo, hf.hi, rfl⟩ | (rw [← hrn]; refine (applyR_ac (findE rs t s).1 (by omega) (ruleN rs s.1).2 (by omega) _).to ?_; exact ⟨rfl, rfl⟩) | (refine (putR_ac (rhsP rs t s) (by omega) s.2 t x (by omega) hs hf.at' _).to ?_; exact ⟨rfl, rfl⟩))
        case' hQ => skip
        rw [← hu]
        simp only [push_cast, Nat.reduceAdd, Nat.reduceSub, Nat.reduceMul, Nat.reduceLT, Nat.reduceLeDiff, Nat.reduceEqDiff, Int.reduceToNat, ↓reduceIte]
  · rw [if_pos h]
    simp only [push_cast, Nat.reduceAdd, Nat.reduceSub, Nat.reduceMul, Nat.reduceLT, Nat.reduceLeDiff, Nat.reduceEqDiff, Int.reduceToNat, ↓reduceIte]
def runF (rs : List (Term × Term)) : List Term → Term → List (Int × List Int) → List Term × Int
  | acc, _, [] => (acc, 0)
  | acc, t, s :: r => if (doE rs t s).2 ≠ 0 then ([], (doE rs t s).2) else runF rs (acc ++ [(doE rs t s).1]) (doE rs t s).1 r
def termsE (rs : List (Term × Term)) (c : Term × List (Int × List Int)) : List Term × Int :=
  if 4096 < c.2.length then ([], 3) else if checkP c.1 ≠ 0 then ([], checkP c.1) else runF rs [c.1] c.1 c.2
def encTE (q : List Term × Int) : AV := .tup [.sl .none (encTs q.1), .int .i64 q.2]
theorem check_TmB {t : Term} (h : checkP t = 0) : TmB t := ⟨(check_small h).1, nm_of _ _ (by have := (check_small h).2; omega)⟩
theorem gSl_tk (k : Nat) (xs : List AV) : ∃ tk, gSl k xs = .sl tk xs := by cases xs <;> exact ⟨_, rfl⟩
@[reducible] def encCh (c : Term × List (Int × List Int)) : AV := .agg [.str c.1.name, .bool c.1.var, .sl .none (encTs c.1.args), .sl .none (encL encSt c.2)]
set_option maxHeartbeats 2000000 in
theorem termsR_ac (rs : List (Term × Term)) (hr : RuB rs) (c : Term × List (Int × List Int)) (hc1 : c.1.bulk ≤ 1099511627775) (hc2 : c.2.length < 1099511627776) (hc3 : ∀ x, x ∈ c.2 → x.2.length < 1099511627776) (H : List AObj) :
    ACall Tryz.prog 15 [.sl .none (encL encRu rs), encCh c] H (fun r H' => r = encTE (termsE rs c) ∧ H' = H) := by
  refine ACall_VA (H.length) 51 [.tmp 4, .tmp 5] Tryz.func15 rfl rfl rfl ?_
  refine AW_reserve 1 ?_
  refine AW_seq (AW_of_W ?_)
  simp only [push_cast, Nat.reduceAdd, Nat.reduceSub, Nat.reduceMul, Nat.reduceLT, Nat.reduceLeDiff, Nat.reduceEqDiff, Int.reduceToNat, ↓reduceIte]
  refine AW_seq (AW_of_W ?_)
  simp only [push_cast, Nat.reduceAdd, Nat.reduceSub, Nat.reduceMul, Nat.reduceLT, Nat.reduceLeDiff, Nat.reduceEqDiff, Int.reduceToNat, ↓reduceIte]
  refine cI (fun h => ?_) (fun h => ?_)
  · have e : termsE rs c = ([], 3) := if_pos (by omega)
    rw [e]
    simp only [push_cast, Nat.reduceAdd, Nat.reduceSub, Nat.reduceMul, Nat.reduceLT, Nat.reduceLeDiff, Nat.reduceEqDiff, Int.reduceToNat, ↓reduceIte, encTE, encTs_nil]
  · have e0 : termsE rs c = if checkP c.1 ≠ 0 then ([], checkP c.1) else runF rs [c.1] c.1 c.2 := if_neg (by omega)
    refine AW_seq (AW_of_W ?_)
    simp only [push_cast, Nat.reduceAdd, Nat.reduceSub, Nat.reduceMul, Nat.reduceLT, Nat.reduceLeDiff, Nat.reduceEqDiff, Int.reduceToNat, ↓reduceIte]
    refine (checkR_ac c.1 hc1 _).to ?_
    simp only [push_cast, Nat.reduceAdd, Nat.reduceSub, Nat.reduceMul, Nat.reduceLT, Nat.reduceLeDiff, Nat.reduceEqDiff, Int.reduceToNat, ↓reduceIte]
    refine cI (fun h2 => ?_) (fun h2 => ?_)
    · refine AW_seq ?_
      refine AW_regionAt _ [_, _] _ _ rfl rfl ?_
      simp only [push_cast, Nat.reduceAdd, Nat.reduceSub, Nat.reduceMul, Nat.reduceLT, Nat.reduceLeDiff, Nat.reduceEqDiff, Int.reduceToNat, ↓reduceIte]
      refine bsliceG_sound H.length ?_
      simp only [push_cast, Nat.reduceAdd, Nat.reduceSub, Nat.reduceMul, Nat.reduceLT, Nat.reduceLeDiff, Nat.reduceEqDiff, Int.reduceToNat, ↓reduceIte, bsliceG]
      refine AW_of_W ?_
      simp only [push_cast, Nat.reduceAdd, Nat.reduceSub, Nat.reduceMul, Nat.reduceLT, Nat.reduceLeDiff, Nat.reduceEqDiff, Int.reduceToNat, ↓reduceIte]
      have e1 : termsE rs c = runF rs [c.1] c.1 c.2 := e0.trans (if_neg (by simpa using h2))
      obtain ⟨l, hl⟩ : ∃ l, l = c.2 := ⟨_, rfl⟩
      have hll : l.length ≤ 4096 := by rw [hl]; omega
      refine AW_loopW (maskG 53 [0, 6, 18, 0, 0]) (fun (q : Nat × List Term × Term) => [(28, .int .i64 q.1), (7, gSl H.length (encTs (q.2.1 ++ [q.2.2])))]) (fun q => H ++ [gTok 25 3 (encTs (q.2.1 ++ [q.2.2])), .cells [.str c.1.name, .bool c.1.var, .sl .none (encTs c.1.args), .sl .none (encL encSt c.2)]]) (fun q => q.1 ≤ c.2.length ∧ q.2.1.length = q.1 ∧ TmB q.2.2 ∧ termsE rs c = runF rs (q.2.1 ++ [q.2.2]) q.2.2 (c.2.drop q.1)) (fun q => c.2.length - q.1) (0, [], c.1) ⟨Nat.zero_le _, rfl, check_TmB (by simpa using h2), by rw [e1]; rfl⟩ (by simp only [push_cast, Nat.reduceAdd, Nat.reduceSub, Nat.reduceMul, Nat.reduceLT, Nat.reduceLeDiff, Nat.reduceEqDiff, Int.reduceToNat, ↓reduceIte, List.nil_append, encTs_one, gSl_cons, gTok_cons]) (fun q hq => ?_)
      obtain ⟨i, pre, u⟩ := q
      obtain ⟨q1, q2, q3, q4⟩ := hq
      simp only at q1 q2 q3 q4
      obtain ⟨acc, hacc⟩ : ∃ acc, acc = pre ++ [u] := ⟨_, rfl⟩
      have hal : acc.length = pre.length + 1 := by rw [hacc]; simp
      have hget : ∀ h, acc[pre.length]'h = u := by intro h; simp only [hacc]; simp
      have hm : (acc.length : Int) - 1 = ((pre.length : Nat) : Int) := by omega
      rw [← hacc] at q4 ⊢
      simp only [push_cast, Nat.reduceAdd, Nat.reduceSub, Nat.reduceMul, Nat.reduceLT, Nat.reduceLeDiff, Nat.reduceEqDiff, Int.reduceToNat, ↓reduceIte]
      refine cI (fun h => ?_) (fun h => ?_)
      · have hil : i < c.2.length := by omega
        refine ⟨hil, ?_⟩
        obtain ⟨s, hs⟩ : ∃ s, s = c.2[i]'hil := ⟨_, rfl⟩
        have hsb : s.2.length < 1099511627776 := by rw [hs]; exact hc3 _ (List.getElem_mem hil)
        rw [List.drop_eq_getElem_cons hil, ← hs] at q4
        rw [← hs]
        have hst := fun X => stepRX_ac rs hr u q3 s hsb X
        obtain ⟨tk, htk⟩ := gSl_tk H.length (encTs acc)
        rw [htk]
        apply AW_drawE [some 33, some 34, some 35, some 36, some 37, some 38, some 39, some 40, some 41, some 32, some 42, some 43, some 10, none, some 11] [([false, false], _), ([true, false], _), ([true, true], _)] [none, none, none, none, none, none, none, none, none, none, none, none, some 0, some 1, none] 2 [(0, [false, false], [0]), (1, [false, false], [7]), (2, [false, false], [7]), (3, [false, false], [35]), (4, [false, false], [36]), (5, [false, false], [34, 2]), (6, [false, false], [38]), (7, [false, false], [9]), (8, [false, false], [33, 5, 0]), (9, [false, false], [41]), (10, [false, false], [32]), (11, [false, false], [32]), (12, [false, false], []), (13, [true, false], [10, 31]), (14, [true, true], [43]), (0, [true, false], [0]), (1, [true, false], [7]), (2, [true, false], [7]), (3, [true, false], [35]), (4, [true, false], [36]), (5, [true, false], [34, 2]), (6, [true, false], [38]), (7, [true, false], [9]), (8, [true, false], [33, 5, 0]), (9, [true, false], [41]), (10, [true, false], [32]), (11, [true, false], [32]), (11, [true, true], [32])] [_, _, _, _, _, _, _, _, _, _, _, _, _, _, _]
        case' hm => exact dr
        case' hn => rfl
        case' hok => rfl
        case' hlen => rfl
        case' hd => rfl
        case' h0 => rfl
        case' hstep =>
         simp only [DAllG, push_cast, Option.isSome_some, Option.isSome_none]
         repeat' apply And.intro
         all_goals (apply DOne_V; simp only [push_cast, Nat.reduceAdd, Nat.reduceSub, Nat.reduceMul, Nat.reduceLT, Nat.reduceLeDiff, Nat.reduceEqDiff, Int.reduceToNat, ↓reduceIte, hm, hget] <;> first | exact rfl | omega | exact ⟨rfl, rfl⟩ | exact trivial | exact ⟨by omega, rfl⟩ | exact ⟨by omega, by omega, rfl⟩ | exact ⟨by omega, rfl, rfl⟩ | exact ⟨by omega, by omega, rfl, rfl⟩ | exact ⟨by omega, by omega, trivial⟩ | exact ⟨by omega, trivial⟩ | (refine (hst _).to ?_; exact ⟨rfl, rfl⟩))
        case' hQ => skip
        simp only [push_cast, Nat.reduceAdd, Nat.reduceSub, Nat.reduceMul, Nat.reduceLT, Nat.reduceLeDiff, Nat.reduceEqDiff, Int.reduceToNat, ↓reduceIte]
        have hd := do_TmB hr q3 (s := s)
        have hapl : acc.length < 1099511627776 := by omega
        refine cI (fun h3 => ?_) (fun h3 => ?_)
        · refine app1_T _ H.length acc (doE rs u s).1 _ (by rw [htk]; rfl) rfl (by exact aget0 _ _ _) sl23 sz25 by25 zr25 rfl (by decide) (by omega) ?_
          simp only [push_cast, Nat.reduceAdd, Nat.reduceSub, Nat.reduceMul, Nat.reduceLT, Nat.reduceLeDiff, Nat.reduceEqDiff, Int.reduceToNat, ↓reduceIte]
          repeat' first | refine ⟨by omega, ?_⟩ | refine cI (fun _ => ?_) (fun _ => ?_)
          refine loopW_n (i + 1, pre ++ [u], (doE rs u s).1) ⟨by simp only; omega, by simp; omega, hd h3, ?_⟩ (by simp only; omega) ?_
          · rw [q4, runF, if_neg (by simpa using h3), hacc]
          · rw [← hacc]
            simp only [push_cast, Nat.reduceAdd, Nat.reduceSub, Nat.reduceMul, Nat.reduceLT, Nat.reduceLeDiff, Nat.reduceEqDiff, Int.reduceToNat, ↓reduceIte]
        · rw [q4, runF, if_pos h3]
          simp only [push_cast, Nat.reduceAdd, Nat.reduceSub, Nat.reduceMul, Nat.reduceLT, Nat.reduceLeDiff, Nat.reduceEqDiff, Int.reduceToNat, ↓reduceIte, encTE, encTs_nil]
      · rw [List.drop_of_length_le (show c.2.length ≤ i by omega)] at q4
        rw [q4]
        simp only [push_cast, Nat.reduceAdd, Nat.reduceSub, Nat.reduceMul, Nat.reduceLT, Nat.reduceLeDiff, Nat.reduceEqDiff, Int.reduceToNat, ↓reduceIte, encTE, runF]
    · have e : termsE rs c = ([], checkP c.1) := e0.trans (if_pos h2)
      rw [e]
      simp only [push_cast, Nat.reduceAdd, Nat.reduceSub, Nat.reduceMul, Nat.reduceLT, Nat.reduceLeDiff, Nat.reduceEqDiff, Int.reduceToNat, ↓reduceIte, encTE, encTs_nil]
end Ab
set_option maxRecDepth 10000
namespace Ab
open Go Go.Proofs Go.Proofs.YtpgjcbeoipldgaaGreat
section
variable {H : Type}
theorem kdStepsC : kindOf Tryz.prog 26 = .slice 86 := by kernel_rfl
theorem agStepC : aggK Tryz.prog 86 = true := by unfold aggK; rw [kdStep]
theorem stepsC_form (n : Nat) (d : DataW H) (avs : List AV) (h : toAV Tryz.prog n 26 d = some avs) : ∃ l : List (Int × List Int), avs = [.sl .none (encL encSt l)] ∧ l.length ≤ Rows.uptoBulk d ∧ ∀ s, s ∈ l → s.2.length ≤ Rows.uptoBulk d := by
  obtain ⟨xs, ds, e3, hw, _, hd⟩ := row_form (fun s : Int × List Int => encSt s) (fun s => s.2.length + 1) Rows.uptoBulk kdStepsC (n := n) (fun k d avs _ he => by
    obtain ⟨t, x1, x2⟩ := step_form k d avs he
    exact ⟨t, by rw [agStepC]; exact x1, x2⟩) h
  have hb := bulk_row hd
  have := len_sum (fun s : Int × List Int => s.2.length) xs (k := Rows.uptoBulk d) (by omega)
  exact ⟨xs, e3, this.1, this.2⟩
theorem kdChain : kindOf Tryz.prog 28 = .struct [25, 26] := by kernel_rfl
theorem chain_form (n : Nat) (d : DataW H) (avs : List AV) (h : toAV Tryz.prog n 28 d = some avs) : ∃ c : Term × List (Int × List Int), AV.agg avs = encCh c ∧ c.1.bulk ≤ Rows.uptoBulk d ∧ c.2.length ≤ Rows.uptoBulk d ∧ ∀ s, s ∈ c.2 → s.2.length ≤ Rows.uptoBulk d := by
  obtain ⟨m, parts, avss, rfl, rfl, hl, hm, rfl⟩ := toAV_struct kdChain h
  match parts, hl, hm with
  | [d1, d2], _, hm =>
    obtain ⟨h1, h2⟩ := mapM_get hm
    match avss, h1, h2 with
    | [a1, a2], _, h2 =>
      obtain ⟨a, e1, b1⟩ := term_form m d1 a1 (h2 0 (by simp) (by simp))
      obtain ⟨l, rfl, b2, c2⟩ := stepsC_form m d2 a2 (h2 1 (by simp) (by simp))
      injection e1 with e1
      subst e1
      refine ⟨(a, l), by simp, ?_⟩
      simp only [Rows.uptoBulk, Rows.uptoBulkAll]
      exact ⟨by omega, by omega, fun s hs => by have := c2 s hs; omega⟩
end
end Ab
