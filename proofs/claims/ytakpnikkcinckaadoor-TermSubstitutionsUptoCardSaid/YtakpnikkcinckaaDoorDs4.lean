/- Part 4 of 4 of a proof. The law TermSubstitutions, walked region by region and joined to the card. -/
import Derived.Test.YtakpnikkcinckaaDoorDs3
import Derived.Test.YtakpnikkcinckaaDoorCards
import Derived.Test.YtakpnikkcinckaaDoorTie
import Derived.Deep.DeepHandedRow
import Derived.Lib.LaidTab
set_option linter.unusedVariables false
set_option linter.unusedSimpArgs false
set_option maxRecDepth 10000
namespace Ab
open Go Go.Proofs
theorem subBad (σ : List (List UInt8 × Term)) (i : Nat) (h : i < σ.length) (hb : subAt σ i = false) : subCheck σ = 4 := by
  unfold subCheck
  rw [if_neg]
  intro ha
  rw [List.all_eq_true] at ha
  rw [ha i (by simpa using h)] at hb
  cases hb
theorem subErr (σ : List (List UInt8 × Term)) (j : Nat) (h : j < σ.length) (ha : (List.range σ.length).all (subAt σ) = true) (hj : firstErr ((σ.map (·.2)).take j) = 0) (he : ¬ checkP σ[j].2 = 0) : subCheck σ = checkP σ[j].2 := by
  unfold subCheck
  rw [if_pos ha, firstErr_drop _ j hj, List.drop_eq_getElem_cons (by simpa using h)]
  simp only [firstErr, List.getElem_map, he, if_false]
theorem subOk (σ : List (List UInt8 × Term)) (j : Nat) (h : σ.length ≤ j) (ha : (List.range σ.length).all (subAt σ) = true) (hj : firstErr ((σ.map (·.2)).take j) = 0) : subCheck σ = 0 := by
  unfold subCheck
  rw [if_pos ha]
  rwa [List.take_of_length_le (by simpa using h)] at hj
theorem subCheckT_ac (σ : List (List UInt8 × Term)) (hlen : σ.length < 1099511627776) (hnl : ∀ b, b ∈ σ → b.1.length < 1099511627776 ∧ b.2.bulk ≤ 1099511627775) (H : List AObj) : ACall Tryd.prog 45 [.sl .none (encL encBd σ)] H (fun r H' => r = .int .i64 (subCheck σ) ∧ H' = H) := by
  refine ACall_V (H.length) 47 [.tmp 2] Tryd.func45 rfl rfl rfl ?_
  simp only [push_cast, Nat.reduceAdd, Nat.reduceSub, Nat.reduceMul, Nat.reduceLT, Nat.reduceLeDiff, Nat.reduceEqDiff, Int.reduceToNat, ↓reduceIte]
  refine AW_loopW (maskG 48 [0, 7, 0, 0]) (fun (i : Nat) => [(10, .int .i64 i)]) (fun _ => H) (fun i => i ≤ σ.length ∧ (List.range i).all (subAt σ) = true) (fun i => σ.length - i) 0 ⟨Nat.zero_le _, by simp⟩ (by simp only [push_cast, Nat.reduceAdd, Nat.reduceSub, Nat.reduceMul, Nat.reduceLT, Nat.reduceLeDiff, Nat.reduceEqDiff, Int.reduceToNat, ↓reduceIte]) (fun i hi => ?_)
  simp only [push_cast, Nat.reduceAdd, Nat.reduceSub, Nat.reduceMul, Nat.reduceLT, Nat.reduceLeDiff, Nat.reduceEqDiff, Int.reduceToNat, ↓reduceIte]
  refine cI (fun h => ?_) (fun h => ?_)
  · repeat refine ⟨by omega, ?_⟩
    have hil : i < σ.length := by omega
    have hnli := (hnl σ[i] (List.getElem_mem hil)).1
    have hat := subAt_eq σ i hil
    have hnm := fun H => isName_ac σ[i].1 false H hnli
    cases hb : isNameP σ[i].1 false with
    | false =>
      rw [hb] at hat hnm
      apply AW_drawE [some 15, some 16, some 17, some 18, some 19, some 20, some 21, some 22, some 23, some 24, some 25, some 26, some 27, some 28, some 29, some 30, some 31, some 32, some 33] [([], _)] [none, none, none, none, none, none, none, none, none, none, none, none, none, none, none, none, none, none, none] 0 [(0, [], [4]), (1, [], [15]), (2, [], [16]), (3, [], [17]), (4, [], [18]), (5, [], [3, 15]), (6, [], [19, 0]), (7, [], [19, 1]), (8, [], [4, 17]), (9, [], [22, 0]), (10, [], [0, 21]), (11, [], [3, 18]), (12, [], [22, 3]), (13, [], [22, 2, 1]), (14, [], [22, 5]), (15, [], [22, 6]), (16, [], [22, 1, 5]), (17, [], [19, 2, 8]), (18, [], [19, 12])] [_, _, _, _, _, _, _, _, _, _, _, _, _, _, _, _, _, _, _]
      case' hm => exact dr
      case' hn => rfl
      case' hok => rfl
      case' hlen => rfl
      case' hd => rfl
      case' h0 => rfl
      case' hstep =>
       simp only [DAllG, push_cast, Option.isSome_some, Option.isSome_none]
       repeat' apply And.intro
       all_goals (apply DOne_V; simp only [push_cast, Nat.reduceAdd, Nat.reduceSub, Nat.reduceMul, Nat.reduceLT, Nat.reduceLeDiff, Nat.reduceEqDiff, Int.reduceToNat, ↓reduceIte] <;> first | exact rfl | omega | exact ⟨rfl, rfl⟩ | exact trivial | exact ⟨by omega, rfl⟩ | exact ⟨by omega, by omega, rfl⟩ | exact ⟨by omega, rfl, rfl⟩ | exact ⟨by omega, by omega, rfl, rfl⟩ | exact (hnm _).to ⟨rfl, rfl⟩)
      case' hQ => skip
      simp only [push_cast, Nat.reduceAdd, Nat.reduceSub, Nat.reduceMul, Nat.reduceLT, Nat.reduceLeDiff, Nat.reduceEqDiff, Int.reduceToNat, ↓reduceIte, subBad σ i hil hat]
    | true =>
      rw [hb] at hat hnm
      by_cases h0 : 0 < i
      · have hd : decide ((0 : Int) < (i : Int)) = true := by simp; omega
        have hx : (i : Int) - 1 = ((i - 1 : Nat) : Int) := by omega
        have hat : subAt σ i = decide (Lib.compareBytes (σ[i - 1]'(by omega)).1 σ[i].1 < 0) := by rw [hat]; simp; omega
        skip
        apply AW_drawE [some 15, some 16, some 17, some 18, some 19, some 20, some 21, some 22, some 23, some 24, some 25, some 26, some 27, some 28, some 29, some 30, some 31, some 32, some 33] [([], _)] [none, none, none, none, none, none, none, none, none, none, none, none, none, none, none, none, none, none, none] 0 [(0, [], [4]), (1, [], [15]), (2, [], [16]), (3, [], [17]), (4, [], [18]), (5, [], [3, 15]), (6, [], [19, 0]), (7, [], [19, 1]), (8, [], [4, 17]), (9, [], [22, 0]), (10, [], [0, 21]), (11, [], [3, 18]), (12, [], [22, 3]), (13, [], [22, 2, 1]), (14, [], [22, 5]), (15, [], [22, 6]), (16, [], [22, 1, 5]), (17, [], [19, 2, 8]), (18, [], [19, 12])] [_, _, _, _, _, _, _, _, _, _, _, _, _, _, _, _, _, _, _]
        case' hm => exact dr
        case' hn => rfl
        case' hok => rfl
        case' hlen => rfl
        case' hd => rfl
        case' h0 => rfl
        case' hstep =>
         simp only [DAllG, push_cast, Option.isSome_some, Option.isSome_none]
         repeat' apply And.intro
         all_goals (apply DOne_V; simp only [push_cast, Nat.reduceAdd, Nat.reduceSub, Nat.reduceMul, Nat.reduceLT, Nat.reduceLeDiff, Nat.reduceEqDiff, Int.reduceToNat, ↓reduceIte, hd, hx, leS_cmp] <;> first | exact rfl | omega | exact ⟨rfl, rfl⟩ | exact trivial | exact ⟨by omega, rfl⟩ | exact ⟨by omega, by omega, rfl⟩ | exact ⟨by omega, rfl, rfl⟩ | exact ⟨by omega, by omega, rfl, rfl⟩ | exact (hnm _).to ⟨rfl, rfl⟩ | skip)
        case' hQ => skip
        simp only [push_cast, Nat.reduceAdd, Nat.reduceSub, Nat.reduceMul, Nat.reduceLT, Nat.reduceLeDiff, Nat.reduceEqDiff, Int.reduceToNat, ↓reduceIte, leS_cmp]
        refine cI (fun hc => ?_) (fun hc => ?_)
        rotate_left
        · simp only [push_cast, Nat.reduceAdd, Nat.reduceSub, Nat.reduceMul, Nat.reduceLT, Nat.reduceLeDiff, Nat.reduceEqDiff, Int.reduceToNat, ↓reduceIte, subBad σ i hil (by rw [hat]; simpa using hc)]
        · repeat' first | refine ⟨by omega, ?_⟩ | refine cI (fun _ => ?_) (fun _ => ?_)
          refine loopW_n (i + 1) ⟨by omega, ?_⟩ (by omega) (by simp only [push_cast, Nat.reduceAdd, Nat.reduceSub, Nat.reduceMul, Nat.reduceLT, Nat.reduceLeDiff, Nat.reduceEqDiff, Int.reduceToNat, ↓reduceIte])
          rw [List.range_succ, List.all_append, hi.2]
          have : subAt σ i = true := by rw [hat]; simpa using hc
          simp [this]
      · have hd : decide ((0 : Int) < (i : Int)) = false := by simp; omega
        have hat : subAt σ i = true := by rw [hat]; simp; omega
        apply AW_drawE [some 15, some 16, some 17, some 18, some 19, some 20, some 21, some 22, some 23, some 24, some 25, some 26, some 27, some 28, some 29, some 30, some 31, some 32, some 33] [([], _)] [none, none, none, none, none, none, none, none, none, none, none, none, none, none, none, none, none, none, none] 0 [(0, [], [4]), (1, [], [15]), (2, [], [16]), (3, [], [17]), (4, [], [18]), (5, [], [3, 15]), (6, [], [19, 0]), (7, [], [19, 1]), (8, [], [4, 17]), (9, [], [22, 0]), (10, [], [0, 21]), (11, [], [3, 18]), (12, [], [22, 3]), (13, [], [22, 2, 1]), (14, [], [22, 5]), (15, [], [22, 6]), (16, [], [22, 1, 5]), (17, [], [19, 2, 8]), (18, [], [19, 12])] [_, _, _, _, _, _, _, _, _, _, _, _, _, _, _, _, _, _, _]
        case' hm => exact dr
        case' hn => rfl
        case' hok => rfl
        case' hlen => rfl
        case' hd => rfl
        case' h0 => rfl
        case' hstep =>
         simp only [DAllG, push_cast, Option.isSome_some, Option.isSome_none]
         repeat' apply And.intro
         all_goals (apply DOne_V; simp only [push_cast, Nat.reduceAdd, Nat.reduceSub, Nat.reduceMul, Nat.reduceLT, Nat.reduceLeDiff, Nat.reduceEqDiff, Int.reduceToNat, ↓reduceIte, hd] <;> first | exact rfl | omega | exact ⟨rfl, rfl⟩ | exact trivial | exact ⟨by omega, rfl⟩ | exact ⟨by omega, by omega, rfl⟩ | exact ⟨by omega, rfl, rfl⟩ | exact ⟨by omega, by omega, rfl, rfl⟩ | exact (hnm _).to ⟨rfl, rfl⟩)
        case' hQ => skip
        simp only [push_cast, Nat.reduceAdd, Nat.reduceSub, Nat.reduceMul, Nat.reduceLT, Nat.reduceLeDiff, Nat.reduceEqDiff, Int.reduceToNat, ↓reduceIte]
        repeat' first | refine ⟨by omega, ?_⟩ | refine cI (fun _ => ?_) (fun _ => ?_)
        refine loopW_n (i + 1) ⟨by omega, ?_⟩ (by omega) (by simp only [push_cast, Nat.reduceAdd, Nat.reduceSub, Nat.reduceMul, Nat.reduceLT, Nat.reduceLeDiff, Nat.reduceEqDiff, Int.reduceToNat, ↓reduceIte])
        rw [List.range_succ, List.all_append, hi.2]
        simp [hat]
  · have hil : i = σ.length := by omega
    rw [hil] at hi
    refine AW_loopW (maskG 48 [35, 0, 0]) (fun (j : Nat) => [(37, .int .i64 j)]) (fun _ => H) (fun j => j ≤ σ.length ∧ firstErr ((σ.map (·.2)).take j) = 0) (fun j => σ.length - j) 0 ⟨Nat.zero_le _, rfl⟩ (by simp only [push_cast, Nat.reduceAdd, Nat.reduceSub, Nat.reduceMul, Nat.reduceLT, Nat.reduceLeDiff, Nat.reduceEqDiff, Int.reduceToNat, ↓reduceIte]) (fun j hj => ?_)
    simp only [push_cast, Nat.reduceAdd, Nat.reduceSub, Nat.reduceMul, Nat.reduceLT, Nat.reduceLeDiff, Nat.reduceEqDiff, Int.reduceToNat, ↓reduceIte]
    refine cI (fun h2 => ?_) (fun h2 => ?_)
    · repeat refine ⟨by omega, ?_⟩
      have hjl : j < σ.length := by omega
      refine (check_ac (σ[j]'hjl).2 (hnl _ (List.getElem_mem hjl)).2 _).to ?_
      simp only [push_cast, Nat.reduceAdd, Nat.reduceSub, Nat.reduceMul, Nat.reduceLT, Nat.reduceLeDiff, Nat.reduceEqDiff, Int.reduceToNat, ↓reduceIte]
      refine cI (fun he => ?_) (fun he => ?_)
      · repeat' first | refine ⟨by omega, ?_⟩ | refine cI (fun _ => ?_) (fun _ => ?_)
        exact loopW_n (j + 1) ⟨by omega, firstErr_take _ j (by simpa using hjl) hj.2 (by simpa using he)⟩ (by omega) (by simp only [push_cast, Nat.reduceAdd, Nat.reduceSub, Nat.reduceMul, Nat.reduceLT, Nat.reduceLeDiff, Nat.reduceEqDiff, Int.reduceToNat, ↓reduceIte])
      · simp only [push_cast, Nat.reduceAdd, Nat.reduceSub, Nat.reduceMul, Nat.reduceLT, Nat.reduceLeDiff, Nat.reduceEqDiff, Int.reduceToNat, ↓reduceIte, subErr σ j hjl hi.2 hj.2 he]
    · simp only [push_cast, Nat.reduceAdd, Nat.reduceSub, Nat.reduceMul, Nat.reduceLT, Nat.reduceLeDiff, Nat.reduceEqDiff, Int.reduceToNat, ↓reduceIte, subOk σ j (by omega) hi.2 hj.2]
theorem subCheckR_ac (σ : List (List UInt8 × Term)) (hlen : σ.length < 1099511627776) (hnl : ∀ b, b ∈ σ → b.1.length < 1099511627776 ∧ b.2.bulk ≤ 1099511627775) (H : List AObj) : ACall Tryd.prog 44 [.sl .none (encL encBd σ)] H (fun r H' => r = .int .i64 (subCheck σ) ∧ H' = H) := by
  refine ACall_V (H.length) 48 [.tmp 2] Tryd.func44 rfl rfl rfl ?_
  simp only [push_cast, Nat.reduceAdd, Nat.reduceSub, Nat.reduceMul, Nat.reduceLT, Nat.reduceLeDiff, Nat.reduceEqDiff, Int.reduceToNat, ↓reduceIte]
  refine AW_loopW (maskG 49 [0, 7, 0, 0]) (fun (i : Nat) => [(10, .int .i64 i)]) (fun _ => H) (fun i => i ≤ σ.length ∧ (List.range i).all (subAt σ) = true) (fun i => σ.length - i) 0 ⟨Nat.zero_le _, by simp⟩ (by simp only [push_cast, Nat.reduceAdd, Nat.reduceSub, Nat.reduceMul, Nat.reduceLT, Nat.reduceLeDiff, Nat.reduceEqDiff, Int.reduceToNat, ↓reduceIte]) (fun i hi => ?_)
  simp only [push_cast, Nat.reduceAdd, Nat.reduceSub, Nat.reduceMul, Nat.reduceLT, Nat.reduceLeDiff, Nat.reduceEqDiff, Int.reduceToNat, ↓reduceIte]
  refine cI (fun h => ?_) (fun h => ?_)
  · repeat refine ⟨by omega, ?_⟩
    have hil : i < σ.length := by omega
    have hnli := (hnl σ[i] (List.getElem_mem hil)).1
    have hat := subAt_eq σ i hil
    have hnm := fun H => isNameR_ac σ[i].1 false hnli H
    cases hb : isNameP σ[i].1 false with
    | false =>
      rw [hb] at hat hnm
      apply AW_drawE [some 15, some 16, some 17, some 18, some 19, some 20, some 21, some 22, some 23, some 24, some 25, some 26, some 27, some 28, some 29, some 30, some 31, some 32, some 33, some 34] [([], _)] [none, none, none, none, none, none, none, none, none, none, none, none, none, none, none, none, none, none, none, none] 0 [(0, [], [4]), (1, [], [15]), (2, [], [16]), (3, [], [17]), (4, [], [18]), (5, [], [3, 15]), (6, [], [19, 0]), (7, [], [19, 1]), (8, [], [0, 21]), (9, [], [3, 18]), (10, [], [22, 1]), (11, [], [22, 0, 1]), (12, [], [22, 3]), (13, [], [22, 4]), (14, [], [4, 17]), (15, [], [22, 6]), (16, [], [22, 5, 1]), (17, [], [22, 8]), (18, [], [19, 2, 9]), (19, [], [19, 13])] [_, _, _, _, _, _, _, _, _, _, _, _, _, _, _, _, _, _, _, _]
      case' hm => exact dr
      case' hn => rfl
      case' hok => rfl
      case' hlen => rfl
      case' hd => rfl
      case' h0 => rfl
      case' hstep =>
       simp only [DAllG, push_cast, Option.isSome_some, Option.isSome_none]
       repeat' apply And.intro
       all_goals (apply DOne_V; simp only [push_cast, Nat.reduceAdd, Nat.reduceSub, Nat.reduceMul, Nat.reduceLT, Nat.reduceLeDiff, Nat.reduceEqDiff, Int.reduceToNat, ↓reduceIte] <;> first | exact rfl | omega | exact ⟨rfl, rfl⟩ | exact trivial | exact ⟨by omega, rfl⟩ | exact ⟨by omega, by omega, rfl⟩ | exact ⟨by omega, rfl, rfl⟩ | exact ⟨by omega, by omega, rfl, rfl⟩ | exact (hnm _).to ⟨rfl, rfl⟩)
      case' hQ => skip
      simp only [push_cast, Nat.reduceAdd, Nat.reduceSub, Nat.reduceMul, Nat.reduceLT, Nat.reduceLeDiff, Nat.reduceEqDiff, Int.reduceToNat, ↓reduceIte, subBad σ i hil hat]
    | true =>
      rw [hb] at hat hnm
      by_cases h0 : 0 < i
      · have hd : decide ((0 : Int) < (i : Int)) = true := by simp; omega
        have hx : (i : Int) - 1 = ((i - 1 : Nat) : Int) := by omega
        have hat : subAt σ i = decide (Lib.compareBytes (σ[i - 1]'(by omega)).1 σ[i].1 < 0) := by rw [hat]; simp; omega
        have hcm := fun H => cmpNames_ac (σ[i - 1]'(by omega)).1 σ[i].1 (hnl _ (List.getElem_mem _)).1 hnli H
        apply AW_drawE [some 15, some 16, some 17, some 18, some 19, some 20, some 21, some 22, some 23, some 24, some 25, some 26, some 27, some 28, some 29, some 30, some 31, some 32, some 33, some 34] [([], _)] [none, none, none, none, none, none, none, none, none, none, none, none, none, none, none, none, none, none, none, none] 0 [(0, [], [4]), (1, [], [15]), (2, [], [16]), (3, [], [17]), (4, [], [18]), (5, [], [3, 15]), (6, [], [19, 0]), (7, [], [19, 1]), (8, [], [0, 21]), (9, [], [3, 18]), (10, [], [22, 1]), (11, [], [22, 0, 1]), (12, [], [22, 3]), (13, [], [22, 4]), (14, [], [4, 17]), (15, [], [22, 6]), (16, [], [22, 5, 1]), (17, [], [22, 8]), (18, [], [19, 2, 9]), (19, [], [19, 13])] [_, _, _, _, _, _, _, _, _, _, _, _, _, _, _, _, _, _, _, _]
        case' hm => exact dr
        case' hn => rfl
        case' hok => rfl
        case' hlen => rfl
        case' hd => rfl
        case' h0 => rfl
        case' hstep =>
         simp only [DAllG, push_cast, Option.isSome_some, Option.isSome_none]
         repeat' apply And.intro
         all_goals (apply DOne_V; simp only [push_cast, Nat.reduceAdd, Nat.reduceSub, Nat.reduceMul, Nat.reduceLT, Nat.reduceLeDiff, Nat.reduceEqDiff, Int.reduceToNat, ↓reduceIte, hd, hx, leS_cmp] <;> first | exact rfl | omega | exact ⟨rfl, rfl⟩ | exact trivial | exact ⟨by omega, rfl⟩ | exact ⟨by omega, by omega, rfl⟩ | exact ⟨by omega, rfl, rfl⟩ | exact ⟨by omega, by omega, rfl, rfl⟩ | exact (hnm _).to ⟨rfl, rfl⟩ | exact (hcm _).to ⟨rfl, rfl⟩)
        case' hQ => skip
        simp only [push_cast, Nat.reduceAdd, Nat.reduceSub, Nat.reduceMul, Nat.reduceLT, Nat.reduceLeDiff, Nat.reduceEqDiff, Int.reduceToNat, ↓reduceIte, leS_cmp]
        refine cI (fun hc => ?_) (fun hc => ?_)
        skip
        · simp only [push_cast, Nat.reduceAdd, Nat.reduceSub, Nat.reduceMul, Nat.reduceLT, Nat.reduceLeDiff, Nat.reduceEqDiff, Int.reduceToNat, ↓reduceIte, subBad σ i hil (by rw [hat]; simpa using hc)]
        · repeat' first | refine ⟨by omega, ?_⟩ | refine cI (fun _ => ?_) (fun _ => ?_)
          refine loopW_n (i + 1) ⟨by omega, ?_⟩ (by omega) (by simp only [push_cast, Nat.reduceAdd, Nat.reduceSub, Nat.reduceMul, Nat.reduceLT, Nat.reduceLeDiff, Nat.reduceEqDiff, Int.reduceToNat, ↓reduceIte])
          rw [List.range_succ, List.all_append, hi.2]
          have : subAt σ i = true := by rw [hat]; simpa using hc
          simp [this]
      · have hd : decide ((0 : Int) < (i : Int)) = false := by simp; omega
        have hat : subAt σ i = true := by rw [hat]; simp; omega
        apply AW_drawE [some 15, some 16, some 17, some 18, some 19, some 20, some 21, some 22, some 23, some 24, some 25, some 26, some 27, some 28, some 29, some 30, some 31, some 32, some 33, some 34] [([], _)] [none, none, none, none, none, none, none, none, none, none, none, none, none, none, none, none, none, none, none, none] 0 [(0, [], [4]), (1, [], [15]), (2, [], [16]), (3, [], [17]), (4, [], [18]), (5, [], [3, 15]), (6, [], [19, 0]), (7, [], [19, 1]), (8, [], [0, 21]), (9, [], [3, 18]), (10, [], [22, 1]), (11, [], [22, 0, 1]), (12, [], [22, 3]), (13, [], [22, 4]), (14, [], [4, 17]), (15, [], [22, 6]), (16, [], [22, 5, 1]), (17, [], [22, 8]), (18, [], [19, 2, 9]), (19, [], [19, 13])] [_, _, _, _, _, _, _, _, _, _, _, _, _, _, _, _, _, _, _, _]
        case' hm => exact dr
        case' hn => rfl
        case' hok => rfl
        case' hlen => rfl
        case' hd => rfl
        case' h0 => rfl
        case' hstep =>
         simp only [DAllG, push_cast, Option.isSome_some, Option.isSome_none]
         repeat' apply And.intro
         all_goals (apply DOne_V; simp only [push_cast, Nat.reduceAdd, Nat.reduceSub, Nat.reduceMul, Nat.reduceLT, Nat.reduceLeDiff, Nat.reduceEqDiff, Int.reduceToNat, ↓reduceIte, hd] <;> first | exact rfl | omega | exact ⟨rfl, rfl⟩ | exact trivial | exact ⟨by omega, rfl⟩ | exact ⟨by omega, by omega, rfl⟩ | exact ⟨by omega, rfl, rfl⟩ | exact ⟨by omega, by omega, rfl, rfl⟩ | exact (hnm _).to ⟨rfl, rfl⟩)
        case' hQ => skip
        simp only [push_cast, Nat.reduceAdd, Nat.reduceSub, Nat.reduceMul, Nat.reduceLT, Nat.reduceLeDiff, Nat.reduceEqDiff, Int.reduceToNat, ↓reduceIte]
        repeat' first | refine ⟨by omega, ?_⟩ | refine cI (fun _ => ?_) (fun _ => ?_)
        refine loopW_n (i + 1) ⟨by omega, ?_⟩ (by omega) (by simp only [push_cast, Nat.reduceAdd, Nat.reduceSub, Nat.reduceMul, Nat.reduceLT, Nat.reduceLeDiff, Nat.reduceEqDiff, Int.reduceToNat, ↓reduceIte])
        rw [List.range_succ, List.all_append, hi.2]
        simp [hat]
  · have hil : i = σ.length := by omega
    rw [hil] at hi
    refine AW_loopW (maskG 49 [36, 0, 0]) (fun (j : Nat) => [(38, .int .i64 j)]) (fun _ => H) (fun j => j ≤ σ.length ∧ firstErr ((σ.map (·.2)).take j) = 0) (fun j => σ.length - j) 0 ⟨Nat.zero_le _, rfl⟩ (by simp only [push_cast, Nat.reduceAdd, Nat.reduceSub, Nat.reduceMul, Nat.reduceLT, Nat.reduceLeDiff, Nat.reduceEqDiff, Int.reduceToNat, ↓reduceIte]) (fun j hj => ?_)
    simp only [push_cast, Nat.reduceAdd, Nat.reduceSub, Nat.reduceMul, Nat.reduceLT, Nat.reduceLeDiff, Nat.reduceEqDiff, Int.reduceToNat, ↓reduceIte]
    refine cI (fun h2 => ?_) (fun h2 => ?_)
    · repeat refine ⟨by omega, ?_⟩
      have hjl : j < σ.length := by omega
      refine (checkR_ac (σ[j]'hjl).2 (hnl _ (List.getElem_mem hjl)).2 _).to ?_
      simp only [push_cast, Nat.reduceAdd, Nat.reduceSub, Nat.reduceMul, Nat.reduceLT, Nat.reduceLeDiff, Nat.reduceEqDiff, Int.reduceToNat, ↓reduceIte]
      refine cI (fun he => ?_) (fun he => ?_)
      · repeat' first | refine ⟨by omega, ?_⟩ | refine cI (fun _ => ?_) (fun _ => ?_)
        exact loopW_n (j + 1) ⟨by omega, firstErr_take _ j (by simpa using hjl) hj.2 (by simpa using he)⟩ (by omega) (by simp only [push_cast, Nat.reduceAdd, Nat.reduceSub, Nat.reduceMul, Nat.reduceLT, Nat.reduceLeDiff, Nat.reduceEqDiff, Int.reduceToNat, ↓reduceIte])
      · simp only [push_cast, Nat.reduceAdd, Nat.reduceSub, Nat.reduceMul, Nat.reduceLT, Nat.reduceLeDiff, Nat.reduceEqDiff, Int.reduceToNat, ↓reduceIte, subErr σ j hjl hi.2 hj.2 he]
    · simp only [push_cast, Nat.reduceAdd, Nat.reduceSub, Nat.reduceMul, Nat.reduceLT, Nat.reduceLeDiff, Nat.reduceEqDiff, Int.reduceToNat, ↓reduceIte, subOk σ j (by omega) hi.2 hj.2]
end Ab
set_option maxRecDepth 10000
namespace Ab
open Go Go.Proofs
theorem sortedP_take (l : List (List UInt8)) (i : Nat) (h : i < l.length) : sortedP (l.take (i + 1)) = insertP (sortedP (l.take i)) l[i] := by
  unfold sortedP; rw [List.take_succ_eq_append_getElem h, List.foldl_append]; rfl
theorem sortedP_len (l : List (List UInt8)) : (sortedP l).length ≤ l.length := by
  have : ∀ (l m : List (List UInt8)), (l.foldl insertP m).length ≤ m.length + l.length := by
    intro l
    induction l with
    | nil => intro m; simp
    | cons a l ih => intro m; have h1 := ih (insertP m a); have h2 := insertP_length m a; simp only [List.foldl_cons, List.length_cons]; omega
  simpa [sortedP] using this l []
theorem sortedP_nil : sortedP [] = [] := (rfl)
theorem imageR_ac (σ : List (List UInt8 × Term)) (v : List UInt8) (hlen : σ.length < 1099511627776) (H : List AObj) : ACall Tryd.prog 74 [.sl .none (encL encBd σ), .str v] H (fun r H' => r = encT (imageP σ v) ∧ H' = H) := by
  refine ACall_V (H.length) 20 [.cell 4 24] Tryd.func74 rfl rfl rfl ?_
  simp only [push_cast, Nat.reduceAdd, Nat.reduceSub, Nat.reduceMul, Nat.reduceLT, Nat.reduceLeDiff, Nat.reduceEqDiff, Int.reduceToNat, ↓reduceIte]
  refine AW_loopW (maskG 22 [1, 2, 2, 0, 0]) (fun (i : Nat) => [(9, .int .i64 i)]) (fun _ => H ++ [.cells [.str [], .bool false, .sl .zero []]]) (fun i => i ≤ σ.length ∧ ∀ x, x ∈ σ.take i → ¬ x.1 = v) (fun i => σ.length - i) 0 ⟨Nat.zero_le _, by simp⟩ (by simp only [push_cast, Nat.reduceAdd, Nat.reduceSub, Nat.reduceMul, Nat.reduceLT, Nat.reduceLeDiff, Nat.reduceEqDiff, Int.reduceToNat, ↓reduceIte]) (fun i hi => ?_)
  simp only [push_cast, Nat.reduceAdd, Nat.reduceSub, Nat.reduceMul, Nat.reduceLT, Nat.reduceLeDiff, Nat.reduceEqDiff, Int.reduceToNat, ↓reduceIte]
  refine cI (fun h => ?_) (fun h => ?_)
  · repeat refine ⟨by omega, ?_⟩
    have hil : i < σ.length := by omega
    refine cI (fun he => ?_) (fun he => ?_)
    · have hn : σ.find? (fun b => decide (b.1 = v)) = some (σ[i]'hil) := by
        rw [List.find?_eq_some_iff_getElem]
        refine ⟨by simpa using he, i, hil, rfl, fun j hj => ?_⟩
        have := hi.2 σ[j] (by rw [List.mem_take_iff_getElem]; exact ⟨j, by omega, rfl⟩)
        simpa using this
      have hI : imageP σ v = (σ[i]'hil).2 := by simp [imageP, hn]
      simp only [push_cast, Nat.reduceAdd, Nat.reduceSub, Nat.reduceMul, Nat.reduceLT, Nat.reduceLeDiff, Nat.reduceEqDiff, Int.reduceToNat, ↓reduceIte, hI]
    · repeat' first | refine ⟨by omega, ?_⟩ | refine cI (fun _ => ?_) (fun _ => ?_)
      refine loopW_n (i + 1) ⟨by omega, fun x hx => ?_⟩ (by omega) (by simp only [push_cast, Nat.reduceAdd, Nat.reduceSub, Nat.reduceMul, Nat.reduceLT, Nat.reduceLeDiff, Nat.reduceEqDiff, Int.reduceToNat, ↓reduceIte])
      rw [List.take_succ_eq_append_getElem hil] at hx
      rcases List.mem_append.1 hx with h | h
      · exact hi.2 x h
      · rw [List.mem_singleton] at h; subst h; exact he
  · have e : σ.take i = σ := List.take_of_length_le (by omega)
    rw [e] at hi
    have hn : σ.find? (fun b => decide (b.1 = v)) = none := by rw [List.find?_eq_none]; intro x hx; simpa using hi.2 x hx
    have hI : imageP σ v = .mk v true [] := by simp [imageP, hn]
    simp only [push_cast, Nat.reduceAdd, Nat.reduceSub, Nat.reduceMul, Nat.reduceLT, Nat.reduceLeDiff, Nat.reduceEqDiff, Int.reduceToNat, ↓reduceIte, hI]
def appL (σ : List (List UInt8 × Term)) (xs : List Term) : List Term := xs.map (applyP σ)
theorem appL_take (σ : List (List UInt8 × Term)) (xs : List Term) (i : Nat) (h : i < xs.length) : appL σ (xs.take (i + 1)) = appL σ (xs.take i) ++ [applyP σ xs[i]] := by
  unfold appL; rw [List.take_succ_eq_append_getElem h, List.map_append]; rfl
theorem appL_nil (σ : List (List UInt8 × Term)) : appL σ [] = [] := (rfl)
theorem appL_len (σ : List (List UInt8 × Term)) (xs : List Term) : (appL σ xs).length = xs.length := by simp [appL]
theorem applyP_t (σ : List (List UInt8 × Term)) (n : List UInt8) (xs : List Term) : applyP σ (.mk n true xs) = imageP σ n := by rw [applyP_mk]; simp
theorem applyP_f (σ : List (List UInt8 × Term)) (n : List UInt8) (xs : List Term) : applyP σ (.mk n false xs) = .mk n false (appL σ xs) := by rw [applyP_mk]; rfl
theorem applyR_ac (σ : List (List UInt8 × Term)) (hlen : σ.length < 1099511627776) (t : Term) : t.bulk ≤ 1099511627775 → ∀ H, ACall Tryd.prog 31 [.sl .none (encL encBd σ), encT t] H (fun r H' => r = encT (applyP σ t) ∧ H' = H) := by
  induction t using Term.ind with | _ n v xs ih
  intro hb H
  have hl := Term.len_le (n := n) (v := v) (xs := xs)
  cases v with
  | true =>
    rw [applyP_t]
    refine ACall_V (H.length) 32 [.cell 4 24] Tryd.func31 rfl rfl rfl ?_
    simp only [push_cast, Nat.reduceAdd, Nat.reduceSub, Nat.reduceMul, Nat.reduceLT, Nat.reduceLeDiff, Nat.reduceEqDiff, Int.reduceToNat, ↓reduceIte]
    refine (imageR_ac σ n hlen _).to ?_
    simp only [push_cast, Nat.reduceAdd, Nat.reduceSub, Nat.reduceMul, Nat.reduceLT, Nat.reduceLeDiff, Nat.reduceEqDiff, Int.reduceToNat, ↓reduceIte]
  | false =>
    rw [applyP_f]
    refine ACall_V (H.length) 32 [.cell 4 24] Tryd.func31 rfl rfl rfl ?_
    simp only [push_cast, Nat.reduceAdd, Nat.reduceSub, Nat.reduceMul, Nat.reduceLT, Nat.reduceLeDiff, Nat.reduceEqDiff, Int.reduceToNat, ↓reduceIte]
    refine AW_reserve 1 ?_
    refine AW_loopW (maskG 34 [0, 3, 0, 12, 0, 0]) (fun (i : Nat) => [(20, .int .i64 i)]) (fun i => H ++ [.cells [.str n, .bool false, .sl .none (encTs xs)], .cells [.str [], .bool false, .sl .zero []], .cells [.str n, .bool false, gSl (H.length + 3) (encTs (appL σ (xs.take i)))], gTok 24 3 (encTs (appL σ (xs.take i)))]) (fun i => i ≤ xs.length) (fun i => xs.length - i) 0 (Nat.zero_le _) (by simp only [push_cast, Nat.reduceAdd, Nat.reduceSub, Nat.reduceMul, Nat.reduceLT, Nat.reduceLeDiff, Nat.reduceEqDiff, Int.reduceToNat, ↓reduceIte, List.take_zero, appL_nil]) (fun i hi => ?_)
    simp only [push_cast, Nat.reduceAdd, Nat.reduceSub, Nat.reduceMul, Nat.reduceLT, Nat.reduceLeDiff, Nat.reduceEqDiff, Int.reduceToNat, ↓reduceIte]
    refine cI (fun h => ?_) (fun h => ?_)
    · have hil : i < xs.length := by omega
      repeat refine ⟨by omega, ?_⟩
      have hal := appL_len σ (xs.take i)
      rw [List.length_take] at hal
      apply AW_drawE [some 24, some 25, some 26, some 27, some 28, some 29, some 30, some 31, none] [([false, false], _), ([true, false], _), ([true, true], _)] [none, none, none, none, none, none, some 0, none, some 1] 2 [(0, [false, false], [5]), (1, [false, false], [24]), (2, [false, false], [0]), (3, [false, false], [7]), (4, [false, false], [26, 0]), (5, [false, false], [28]), (6, [false, false], [25, 3]), (7, [true, false], [5]), (8, [true, false], [30, 0]), (0, [true, false], [5]), (2, [true, false], [0]), (3, [true, false], [7])] [_, _, _, _, _, _, _, _, _]
      case' hm => exact dr
      case' hn => rfl
      case' hok => rfl
      case' hlen => rfl
      case' hd => rfl
      case' h0 => rfl
      case' hstep =>
       simp only [DAllG, push_cast, Option.isSome_some, Option.isSome_none]
       repeat' apply And.intro
       all_goals (apply DOne_V; simp only [push_cast, Nat.reduceAdd, Nat.reduceSub, Nat.reduceMul, Nat.reduceLT, Nat.reduceLeDiff, Nat.reduceEqDiff, Int.reduceToNat, ↓reduceIte] <;> first | exact rfl | omega | exact ⟨rfl, rfl⟩ | exact trivial | exact ⟨by omega, rfl⟩ | exact ⟨by omega, by omega, rfl⟩ | exact ⟨by omega, rfl, rfl⟩ | exact ⟨by omega, by omega, rfl, rfl⟩ | exact (ih _ (List.getElem_mem hil) (arg_bulk hb i hil) _).to ⟨rfl, rfl⟩ | (refine app1_T _ (H.length + 3) (appL σ (xs.take i)) (applyP σ (xs[i]'hil)) _ rfl rfl (by exact (agetN _ _ 3).trans rfl) sl22 sz24 by24 zr24 rfl (by decide) (by omega) ?_; simp only [push_cast, Nat.reduceAdd, Nat.reduceSub, Nat.reduceMul, Nat.reduceLT, Nat.reduceLeDiff, Nat.reduceEqDiff, Int.reduceToNat, ↓reduceIte]; exact ⟨rfl, rfl⟩))
      case' hQ => skip
      simp only [push_cast, Nat.reduceAdd, Nat.reduceSub, Nat.reduceMul, Nat.reduceLT, Nat.reduceLeDiff, Nat.reduceEqDiff, Int.reduceToNat, ↓reduceIte, ← appL_take σ xs i hil]
      repeat' first | refine ⟨by omega, ?_⟩ | refine cI (fun _ => ?_) (fun _ => ?_)
      exact loopW_n (i + 1) (by omega) (by omega) (by simp only [push_cast, Nat.reduceAdd, Nat.reduceSub, Nat.reduceMul, Nat.reduceLT, Nat.reduceLeDiff, Nat.reduceEqDiff, Int.reduceToNat, ↓reduceIte])
    · simp only [push_cast, Nat.reduceAdd, Nat.reduceSub, Nat.reduceMul, Nat.reduceLT, Nat.reduceLeDiff, Nat.reduceEqDiff, Int.reduceToNat, ↓reduceIte, List.take_of_length_le (show xs.length ≤ i by omega)]
end Ab
set_option maxRecDepth 10000
namespace Ab
open Go Go.Proofs
theorem searchB_ac (xs : List (List UInt8 × Term)) (v : List UInt8) (g : Nat) (caps : List AV) (c : List UInt8 × Term → Int) (H : List AObj) (hlen : xs.length < 1099511627776) (hg : callOk Tryd.prog g = true) (hsc : ScopedL H.length caps)
    (hmono : ∀ i j (hi : i < xs.length) (hj : j < xs.length), i ≤ j → c xs[j] < 0 → c xs[i] < 0)
    (hf : ∀ i (h : i < xs.length) X, ACall Tryd.prog g (encBd xs[i] :: .str v :: caps) X (fun r H' => r = .int .i64 (c xs[i]) ∧ H' = X)) :
    ACall Tryd.prog 107 [.sl .none (encL encBd xs), .str v, .fn g caps] H
      (fun r H' => ∃ i : Nat, i ≤ xs.length ∧ (∀ j (hj : j < xs.length), j < i → c xs[j] < 0) ∧ (∀ j (hj : j < xs.length), i ≤ j → ¬ c xs[j] < 0) ∧ r = .tup [.int .i64 i, .bool (decide (∃ h : i < xs.length, c xs[i] = 0))] ∧ H' = H) := by
  refine ACall_W (H.length) 46 [.tmp 6, .tmp 7] Tryd.func107 rfl rfl rfl ?_
  simp only [push_cast, Nat.reduceAdd, Nat.reduceSub, Nat.reduceMul, Nat.reduceLT, Nat.reduceLeDiff, Nat.reduceEqDiff, Int.reduceToNat, ↓reduceIte]
  refine AW_loopW (maskG 49 [0, 0, 0, 5, 0, 0]) (fun (q : Nat × Nat) => [(9, .int .i64 q.1), (10, .int .i64 q.2)]) (fun _ => H) (fun q => q.1 ≤ q.2 ∧ q.2 ≤ xs.length ∧ (∀ j (hj : j < xs.length), j < q.1 → c xs[j] < 0) ∧ (∀ j (hj : j < xs.length), q.2 ≤ j → ¬ c xs[j] < 0)) (fun q => q.2 - q.1) (0, xs.length) ⟨by simp, by simp, fun j hj h => by simp at h, fun j hj h => by simp at h; omega⟩ (by simp only [push_cast, Nat.reduceAdd, Nat.reduceSub, Nat.reduceMul, Nat.reduceLT, Nat.reduceLeDiff, Nat.reduceEqDiff, Int.reduceToNat, ↓reduceIte, hsc]) (fun q hq => ?_)
  obtain ⟨i, j⟩ := q
  obtain ⟨hi1, hi2, hi3, hi4⟩ := hq
  simp only at hi1 hi2 hi3 hi4
  simp only [push_cast, Nat.reduceAdd, Nat.reduceSub, Nat.reduceMul, Nat.reduceLT, Nat.reduceLeDiff, Nat.reduceEqDiff, Int.reduceToNat, ↓reduceIte, hg]
  refine cI (fun h => ?_) (fun h => ?_)
  · have e1 : ((i : Int) + j) / 2 ^ 1 = (((i + j) / 2 : Nat) : Int) := by rw [Int.pow_one]; omega
    have e2 : 1 ≤ IntKind.u64.bits := by decide
    obtain ⟨m, hm⟩ : ∃ m, m = (i + j) / 2 := ⟨_, rfl⟩
    rw [← hm] at e1
    rw [e1]
    repeat refine ⟨by omega, ?_⟩
    have hmx : m < xs.length := by omega
    refine (hf m hmx _).to ?_
    simp only [push_cast, Nat.reduceAdd, Nat.reduceSub, Nat.reduceMul, Nat.reduceLT, Nat.reduceLeDiff, Nat.reduceEqDiff, Int.reduceToNat, ↓reduceIte]
    refine cI (fun hc => ?_) (fun hc => ?_)
    · repeat' first | refine ⟨by omega, ?_⟩ | refine cI (fun _ => ?_) (fun _ => ?_)
      exact loopW_n (m + 1, j) ⟨by simp only; omega, by simp only; omega, fun k hk hkm => hmono k m hk hmx (by simp only at hkm; omega) hc, hi4⟩ (by simp only; omega) (by simp only [push_cast, Nat.reduceAdd, Nat.reduceSub, Nat.reduceMul, Nat.reduceLT, Nat.reduceLeDiff, Nat.reduceEqDiff, Int.reduceToNat, ↓reduceIte, hsc])
    · repeat' first | refine ⟨by omega, ?_⟩ | refine cI (fun _ => ?_) (fun _ => ?_)
      exact loopW_n (i, m) ⟨by simp only; omega, by simp only; omega, hi3, fun k hk hmk hneg => absurd (hmono m k hmx hk hmk hneg) hc⟩ (by simp only; omega) (by simp only [push_cast, Nat.reduceAdd, Nat.reduceSub, Nat.reduceMul, Nat.reduceLT, Nat.reduceLeDiff, Nat.reduceEqDiff, Int.reduceToNat, ↓reduceIte, hsc])
  · have hall : ∀ k (hk : k < xs.length), i ≤ k → ¬ c xs[k] < 0 := fun k hk hik => hi4 k hk (by omega)
    refine cI (fun hl => ?_) (fun hl => ?_)
    · have hil : i < xs.length := by omega
      repeat refine ⟨by omega, ?_⟩
      refine (hf i hil _).to ?_
      simp only [push_cast, Nat.reduceAdd, Nat.reduceSub, Nat.reduceMul, Nat.reduceLT, Nat.reduceLeDiff, Nat.reduceEqDiff, Int.reduceToNat, ↓reduceIte]
      refine ⟨i, by omega, hi3, hall, rfl, ?_⟩
      simp [hil]
    · refine ⟨i, by omega, hi3, hall, rfl, ?_⟩
      have hil : ¬ i < xs.length := by omega
      simp [hil]
theorem imageC_ac (x : List UInt8 × Term) (v : List UInt8) (H : List AObj) : ACall Tryd.prog 108 [encBd x, .str v] H (fun r H' => r = .int .i64 (Lib.compareBytes x.1 v) ∧ H' = H) := by
  refine ACall_V (H.length) 7 [.tmp 4] Tryd.func108 rfl rfl rfl ?_
  simp only [push_cast, Nat.reduceAdd, Nat.reduceSub, Nat.reduceMul, Nat.reduceLT, Nat.reduceLeDiff, Nat.reduceEqDiff, Int.reduceToNat, ↓reduceIte]
  refine (compareStr_ac x.1 v _).to ?_
  simp only [push_cast, Nat.reduceAdd, Nat.reduceSub, Nat.reduceMul, Nat.reduceLT, Nat.reduceLeDiff, Nat.reduceEqDiff, Int.reduceToNat, ↓reduceIte]
theorem imageT_ac (σ : List (List UInt8 × Term)) (hs : SortedN (σ.map (·.1))) (v : List UInt8) (hlen : σ.length < 1099511627776) (H : List AObj) : ACall Tryd.prog 85 [.sl .none (encL encBd σ), .str v] H (fun r H' => r = .tup [encT ((look σ v).getD (.mk [] false [])), .bool (look σ v).isSome] ∧ H' = H) := by
  refine ACall_V (H.length) 20 [.cell 4 24, .tmp 5] Tryd.func85 rfl rfl rfl ?_
  simp only [push_cast, Nat.reduceAdd, Nat.reduceSub, Nat.reduceMul, Nat.reduceLT, Nat.reduceLeDiff, Nat.reduceEqDiff, Int.reduceToNat, ↓reduceIte]
  refine (searchB_ac σ v 108 [] (fun b => Lib.compareBytes b.1 v) _ hlen ok108 (by simp [ScopedL]) (fun i j hi hj hij hc => ?_) (fun i h X => imageC_ac _ v _)).mono ?_
  · rcases Nat.lt_or_eq_of_le hij with h | h
    · exact cb_trans _ _ _ (sortedS_get hs i j hi hj h) hc
    · subst h; exact hc
  rintro r H' ⟨i, h1, h2, h3, rfl, rfl⟩
  by_cases hx : ∃ h : i < σ.length, Lib.compareBytes σ[i].1 v = 0
  · obtain ⟨hil, he⟩ := hx
    have hv := (compareBytes_eq _ _).1 he
    have hl : look σ v = some σ[i].2 := by rw [← hv]; exact look_some hs i hil
    have hd : decide (∃ h : i < σ.length, Lib.compareBytes σ[i].1 v = 0) = true := by rw [decide_eq_true_eq]; exact ⟨hil, he⟩
    simp only [push_cast, Nat.reduceAdd, Nat.reduceSub, Nat.reduceMul, Nat.reduceLT, Nat.reduceLeDiff, Nat.reduceEqDiff, Int.reduceToNat, ↓reduceIte, hd]
    repeat refine ⟨by omega, ?_⟩
    simp only [push_cast, Nat.reduceAdd, Nat.reduceSub, Nat.reduceMul, Nat.reduceLT, Nat.reduceLeDiff, Nat.reduceEqDiff, Int.reduceToNat, ↓reduceIte, hl]
    simp
  · have hl : look σ v = none := look_none fun b hb e => by
      obtain ⟨j, hj, rfl⟩ := List.getElem_of_mem hb
      have hj0 : Lib.compareBytes σ[j].1 v = 0 := by rw [e]; exact cb_self v
      rcases Nat.lt_trichotomy j i with h | h | h
      · have := h2 j hj h; omega
      · subst h; exact hx ⟨hj, hj0⟩
      · have h4 := sortedS_get hs i j (by omega) hj h
        rw [e] at h4
        exact h3 i (by omega) (Nat.le_refl _) h4
    have hd : decide (∃ h : i < σ.length, Lib.compareBytes σ[i].1 v = 0) = false := by rw [decide_eq_false_iff_not]; exact hx
    simp only [push_cast, Nat.reduceAdd, Nat.reduceSub, Nat.reduceMul, Nat.reduceLT, Nat.reduceLeDiff, Nat.reduceEqDiff, Int.reduceToNat, ↓reduceIte, hd, hl]
    simp
theorem image_bulk (σ : List (List UInt8 × Term)) (B : Nat) (hb : ∀ b, b ∈ σ → b.2.bulk ≤ B) (n : List UInt8) (hn : n.length < B) : (imageP σ n).bulk ≤ B := by
  rw [image_look]
  rcases look_cases (σ := σ) n with ⟨b, hbm, _, e⟩ | e
  · rw [e]; exact hb b hbm
  · rw [e]
    show (Term.mk n true []).bulk ≤ B
    rw [Term.bulk_mk]; simp; omega
theorem sizes_take (σ : List (List UInt8 × Term)) (xs : List Term) (i : Nat) (h : i < xs.length) : ((appL σ (xs.take (i + 1))).map Term.size).sum = ((appL σ (xs.take i)).map Term.size).sum + (applyP σ xs[i]).size ∧ ((appL σ (xs.take (i + 1))).map Term.depth).foldl max 0 = max (((appL σ (xs.take i)).map Term.depth).foldl max 0) (applyP σ xs[i]).depth := by
  rw [appL_take σ xs i h, List.map_append, List.map_append, List.sum_append, List.foldl_append]
  exact ⟨by simp, by simp⟩
theorem sizes_le (σ : List (List UInt8 × Term)) (xs : List Term) (i : Nat) : ((appL σ (xs.take i)).map Term.size).sum ≤ ((appL σ xs).map Term.size).sum ∧ ((appL σ (xs.take i)).map Term.depth).foldl max 0 ≤ ((appL σ xs).map Term.size).sum := by
  have h1 : appL σ (xs.take i) = (appL σ xs).take i := by simp [appL, List.map_take]
  have h2 := take_sum_le Term.size (appL σ xs) i
  have h3 := foldl_max_le Term.depth ((appL σ xs).take i) 0
  have h4 : (((appL σ xs).take i).map Term.depth).sum ≤ (((appL σ xs).take i).map Term.size).sum := by
    generalize (appL σ xs).take i = l
    induction l with
    | nil => simp
    | cons a r ih => have := a.depth_le; simp only [List.map_cons, List.sum_cons]; omega
  rw [h1]; omega
theorem measure_ac (σ : List (List UInt8 × Term)) (hs : SortedN (σ.map (·.1))) (hlen : σ.length < 1099511627776) (hbk : ∀ b, b ∈ σ → b.2.bulk ≤ 1099511627775) (t : Term) : t.bulk ≤ 1099511627775 → (applyP σ t).size ≤ 1099511627775 → ∀ H, ACall Tryd.prog 105 [.sl .none (encL encBd σ), encT t] H (fun r H' => r = .agg [.int .i64 (applyP σ t).size, .int .i64 (applyP σ t).depth] ∧ H' = H) := by
  induction t using Term.ind with | _ n u xs ih
  intro hb hb2 H
  have hl := Term.len_le (n := n) (v := u) (xs := xs)
  have hnl := Term.name_le (n := n) (v := u) (xs := xs)
  cases u with
  | true =>
    rw [applyP_t]
    have hib := image_bulk σ 1099511627775 hbk n (by omega)
    rw [image_look] at hib ⊢
    refine ACall_V (H.length) 54 [.cell 4 117] Tryd.func105 rfl rfl rfl ?_
    simp only [push_cast, Nat.reduceAdd, Nat.reduceSub, Nat.reduceMul, Nat.reduceLT, Nat.reduceLeDiff, Nat.reduceEqDiff, Int.reduceToNat, ↓reduceIte]
    refine (imageT_ac σ hs n hlen _).to ?_
    rcases look_cases (σ := σ) n with ⟨b, hbm, _, e⟩ | e
    · have hbb := hbk b hbm
      simp only [push_cast, Nat.reduceAdd, Nat.reduceSub, Nat.reduceMul, Nat.reduceLT, Nat.reduceLeDiff, Nat.reduceEqDiff, Int.reduceToNat, ↓reduceIte, e, Option.isSome_some, Option.getD_some]
      apply AW_drawE [some 21, some 22, some 23, some 24, some 25, none] [([false], _), ([true], _)] [none, none, none, none, none, some 0] 1 [(0, [false], [5]), (1, [false], [21]), (2, [false], [5]), (3, [false], [23]), (4, [false], [22, 1]), (5, [false], [4, 20])] [_, _, _, _, _, _]
      case' hm => exact dr
      case' hn => rfl
      case' hok => rfl
      case' hlen => rfl
      case' hd => rfl
      case' h0 => rfl
      case' hstep =>
       simp only [DAllG, push_cast, Option.isSome_some, Option.isSome_none]
       repeat' apply And.intro
       all_goals (apply DOne_V; simp only [push_cast, Nat.reduceAdd, Nat.reduceSub, Nat.reduceMul, Nat.reduceLT, Nat.reduceLeDiff, Nat.reduceEqDiff, Int.reduceToNat, ↓reduceIte] <;> first | exact rfl | omega | exact ⟨rfl, rfl⟩ | exact trivial | exact ⟨by omega, rfl⟩ | exact ⟨by omega, by omega, rfl⟩ | exact ⟨by omega, rfl, rfl⟩ | exact ⟨by omega, by omega, rfl, rfl⟩ | exact (size_ac b.2 (by omega) _).to ⟨rfl, rfl⟩ | exact (depth_ac b.2 (by omega) _).to ⟨rfl, rfl⟩)
      case' hQ => skip
      simp only [push_cast, Nat.reduceAdd, Nat.reduceSub, Nat.reduceMul, Nat.reduceLT, Nat.reduceLeDiff, Nat.reduceEqDiff, Int.reduceToNat, ↓reduceIte]
    · simp only [push_cast, Nat.reduceAdd, Nat.reduceSub, Nat.reduceMul, Nat.reduceLT, Nat.reduceLeDiff, Nat.reduceEqDiff, Int.reduceToNat, ↓reduceIte, e, Option.isSome_none, Option.getD_none, Term.size_mk, Term.depth_mk]
      simp
  | false =>
    rw [applyP_f] at hb2 ⊢
    have hdp := (Term.mk n false (appL σ xs)).depth_le
    rw [Term.size_mk] at hb2 hdp ⊢
    rw [Term.depth_mk] at hdp ⊢
    refine ACall_V (H.length) 54 [.cell 4 117] Tryd.func105 rfl rfl rfl ?_
    simp only [push_cast, Nat.reduceAdd, Nat.reduceSub, Nat.reduceMul, Nat.reduceLT, Nat.reduceLeDiff, Nat.reduceEqDiff, Int.reduceToNat, ↓reduceIte]
    refine AW_loopW (maskG 56 [0, 3, 2, 21, 0, 0]) (fun (i : Nat) => [(31, .int .i64 i)]) (fun i => H ++ [.cells [.str n, .bool false, .sl .none (encTs xs)], .cells [.int .i64 0, .int .i64 0], .cells [.int .i64 (1 + ((appL σ (xs.take i)).map Term.size).sum : Nat), .int .i64 (((appL σ (xs.take i)).map Term.depth).foldl max 0 : Nat)]]) (fun i => i ≤ xs.length) (fun i => xs.length - i) 0 (Nat.zero_le _) (by simp only [push_cast, Nat.reduceAdd, Nat.reduceSub, Nat.reduceMul, Nat.reduceLT, Nat.reduceLeDiff, Nat.reduceEqDiff, Int.reduceToNat, ↓reduceIte, List.take_zero, appL_nil]; simp) (fun i hi => ?_)
    simp only [push_cast, Nat.reduceAdd, Nat.reduceSub, Nat.reduceMul, Nat.reduceLT, Nat.reduceLeDiff, Nat.reduceEqDiff, Int.reduceToNat, ↓reduceIte]
    refine cI (fun h => ?_) (fun h => ?_)
    · have hil : i < xs.length := by omega
      repeat refine ⟨by omega, ?_⟩
      obtain ⟨hq1, hq2⟩ := sizes_take σ xs i hil
      obtain ⟨hw1, hw2⟩ := sizes_le σ xs (i + 1)
      obtain ⟨hw3, hw4⟩ := sizes_le σ xs i
      refine (ih _ (List.getElem_mem hil) (arg_bulk hb i hil) (by omega) _).to ?_
      simp only [push_cast, Nat.reduceAdd, Nat.reduceSub, Nat.reduceMul, Nat.reduceLT, Nat.reduceLeDiff, Nat.reduceEqDiff, Int.reduceToNat, ↓reduceIte]
      apply AW_drawE [some 38, some 39, some 40, some 41, some 42, some 43, some 44, some 45, some 46, some 47, some 48, none, some 49, none] [([false, false], _), ([true, false], _), ([true, true], _)] [none, none, none, none, none, none, none, none, none, none, none, some 0, none, some 1] 2 [(0, [false, false], [7]), (1, [false, false], [38]), (2, [false, false], [10]), (3, [false, false], [40]), (4, [false, false], [39, 1]), (5, [false, false], [7]), (6, [false, false], [43]), (7, [false, false], [10]), (8, [false, false], [45]), (9, [false, false], [44, 1]), (10, [false, false], [7]), (11, [false, false], [42, 5]), (12, [true, false], [7]), (13, [true, false], [47, 1]), (7, [true, false], [10]), (8, [true, false], [45]), (9, [true, false], [44, 1])] [_, _, _, _, _, _, _, _, _, _, _, _, _, _]
      case' hm => exact dr
      case' hn => rfl
      case' hok => rfl
      case' hlen => rfl
      case' hd => rfl
      case' h0 => rfl
      case' hstep =>
       simp only [DAllG, push_cast, Option.isSome_some, Option.isSome_none]
       repeat' apply And.intro
       all_goals (apply DOne_V; simp only [push_cast, Nat.reduceAdd, Nat.reduceSub, Nat.reduceMul, Nat.reduceLT, Nat.reduceLeDiff, Nat.reduceEqDiff, Int.reduceToNat, ↓reduceIte] <;> first | exact rfl | omega | exact ⟨rfl, rfl⟩ | exact trivial | exact ⟨by omega, rfl⟩ | exact ⟨by omega, by omega, rfl⟩ | exact ⟨by omega, rfl, rfl⟩ | exact ⟨by omega, by omega, rfl, rfl⟩ | skip)
      case' hQ => skip
      simp only [push_cast, Nat.reduceAdd, Nat.reduceSub, Nat.reduceMul, Nat.reduceLT, Nat.reduceLeDiff, Nat.reduceEqDiff, Int.reduceToNat, ↓reduceIte]
      repeat' first | refine ⟨by omega, ?_⟩ | refine cI (fun _ => ?_) (fun _ => ?_)
      exact loopW_n (i + 1) (by omega) (by omega) (by simp only [push_cast, Nat.reduceAdd, Nat.reduceSub, Nat.reduceMul, Nat.reduceLT, Nat.reduceLeDiff, Nat.reduceEqDiff, Int.reduceToNat, ↓reduceIte, hq1, hq2]; simp only [AObj.cells.injEq, List.cons.injEq, AV.int.injEq, and_true, true_and]; omega)
    · obtain ⟨hw3, hw4⟩ := sizes_le σ xs xs.length
      rw [List.take_of_length_le (Nat.le_refl _)] at hw3 hw4
      simp only [push_cast, Nat.reduceAdd, Nat.reduceSub, Nat.reduceMul, Nat.reduceLT, Nat.reduceLeDiff, Nat.reduceEqDiff, Int.reduceToNat, ↓reduceIte, List.take_of_length_le (show xs.length ≤ i by omega)]
      omega
end Ab
set_option maxRecDepth 10000
namespace Ab
open Go Go.Proofs
theorem replace_ac (σ : List (List UInt8 × Term)) (hs : SortedN (σ.map (·.1))) (hlen : σ.length < 1099511627776) (hbk : ∀ b, b ∈ σ → b.2.bulk ≤ 1099511627775) (t : Term) : t.bulk ≤ 1099511627775 → ∀ H, ACall Tryd.prog 106 [.sl .none (encL encBd σ), encT t] H (fun r H' => r = encT (applyP σ t) ∧ H' = H) := by
  induction t using Term.ind with | _ n u xs ih
  intro hb H
  have hl := Term.len_le (n := n) (v := u) (xs := xs)
  cases u with
  | true =>
    rw [applyP_t, image_look]
    refine ACall_V (H.length) 43 [.cell 4 24] Tryd.func106 rfl rfl rfl ?_
    simp only [push_cast, Nat.reduceAdd, Nat.reduceSub, Nat.reduceMul, Nat.reduceLT, Nat.reduceLeDiff, Nat.reduceEqDiff, Int.reduceToNat, ↓reduceIte]
    refine (imageT_ac σ hs n hlen _).to ?_
    rcases look_cases (σ := σ) n with ⟨b, hbm, _, e⟩ | e
    · have hbb := hbk b hbm
      simp only [push_cast, Nat.reduceAdd, Nat.reduceSub, Nat.reduceMul, Nat.reduceLT, Nat.reduceLeDiff, Nat.reduceEqDiff, Int.reduceToNat, ↓reduceIte, e, Option.isSome_some, Option.getD_some]
      refine (own_ac b.2 (by omega) _).to ?_
      simp only [push_cast, Nat.reduceAdd, Nat.reduceSub, Nat.reduceMul, Nat.reduceLT, Nat.reduceLeDiff, Nat.reduceEqDiff, Int.reduceToNat, ↓reduceIte]
    · simp only [push_cast, Nat.reduceAdd, Nat.reduceSub, Nat.reduceMul, Nat.reduceLT, Nat.reduceLeDiff, Nat.reduceEqDiff, Int.reduceToNat, ↓reduceIte, e, Option.isSome_none, Option.getD_none]
  | false =>
    rw [applyP_f]
    refine ACall_V (H.length) 43 [.cell 4 24] Tryd.func106 rfl rfl rfl ?_
    simp only [push_cast, Nat.reduceAdd, Nat.reduceSub, Nat.reduceMul, Nat.reduceLT, Nat.reduceLeDiff, Nat.reduceEqDiff, Int.reduceToNat, ↓reduceIte]
    refine AW_reserve 1 ?_
    refine AW_loopW (maskG 45 [0, 3, 2, 21, 0, 0]) (fun (i : Nat) => [(31, .int .i64 i)]) (fun i => H ++ [.cells [.str n, .bool false, .sl .none (encTs xs)], .cells [.str [], .bool false, .sl .zero []], .cells [.str n, .bool false, gSl (H.length + 3) (encTs (appL σ (xs.take i)))], gTok 24 3 (encTs (appL σ (xs.take i)))]) (fun i => i ≤ xs.length) (fun i => xs.length - i) 0 (Nat.zero_le _) (by simp only [push_cast, Nat.reduceAdd, Nat.reduceSub, Nat.reduceMul, Nat.reduceLT, Nat.reduceLeDiff, Nat.reduceEqDiff, Int.reduceToNat, ↓reduceIte, List.take_zero, appL_nil]) (fun i hi => ?_)
    simp only [push_cast, Nat.reduceAdd, Nat.reduceSub, Nat.reduceMul, Nat.reduceLT, Nat.reduceLeDiff, Nat.reduceEqDiff, Int.reduceToNat, ↓reduceIte]
    refine cI (fun h => ?_) (fun h => ?_)
    · have hil : i < xs.length := by omega
      repeat refine ⟨by omega, ?_⟩
      have hal := appL_len σ (xs.take i)
      rw [List.length_take] at hal
      apply AW_drawE [some 35, some 36, some 37, some 38, some 39, some 40, some 41, some 42, none] [([false, false], _), ([true, false], _), ([true, true], _)] [none, none, none, none, none, none, some 0, none, some 1] 2 [(0, [false, false], [7]), (1, [false, false], [35]), (2, [false, false], [0]), (3, [false, false], [9]), (4, [false, false], [37, 0]), (5, [false, false], [39]), (6, [false, false], [36, 3]), (7, [true, false], [7]), (8, [true, false], [41, 0]), (0, [true, false], [7]), (2, [true, false], [0]), (3, [true, false], [9])] [_, _, _, _, _, _, _, _, _]
      case' hm => exact dr
      case' hn => rfl
      case' hok => rfl
      case' hlen => rfl
      case' hd => rfl
      case' h0 => rfl
      case' hstep =>
       simp only [DAllG, push_cast, Option.isSome_some, Option.isSome_none]
       repeat' apply And.intro
       all_goals (apply DOne_V; simp only [push_cast, Nat.reduceAdd, Nat.reduceSub, Nat.reduceMul, Nat.reduceLT, Nat.reduceLeDiff, Nat.reduceEqDiff, Int.reduceToNat, ↓reduceIte] <;> first | exact rfl | omega | exact ⟨rfl, rfl⟩ | exact trivial | exact ⟨by omega, rfl⟩ | exact ⟨by omega, by omega, rfl⟩ | exact ⟨by omega, rfl, rfl⟩ | exact ⟨by omega, by omega, rfl, rfl⟩ | exact (ih _ (List.getElem_mem hil) (arg_bulk hb i hil) _).to ⟨rfl, rfl⟩ | (refine app1_T _ (H.length + 3) (appL σ (xs.take i)) (applyP σ (xs[i]'hil)) _ rfl rfl (by exact (agetN _ _ 3).trans rfl) sl22 sz24 by24 zr24 rfl (by decide) (by omega) ?_; simp only [push_cast, Nat.reduceAdd, Nat.reduceSub, Nat.reduceMul, Nat.reduceLT, Nat.reduceLeDiff, Nat.reduceEqDiff, Int.reduceToNat, ↓reduceIte]; exact ⟨rfl, rfl⟩))
      case' hQ => skip
      simp only [push_cast, Nat.reduceAdd, Nat.reduceSub, Nat.reduceMul, Nat.reduceLT, Nat.reduceLeDiff, Nat.reduceEqDiff, Int.reduceToNat, ↓reduceIte, ← appL_take σ xs i hil]
      repeat' first | refine ⟨by omega, ?_⟩ | refine cI (fun _ => ?_) (fun _ => ?_)
      exact loopW_n (i + 1) (by omega) (by omega) (by simp only [push_cast, Nat.reduceAdd, Nat.reduceSub, Nat.reduceMul, Nat.reduceLT, Nat.reduceLeDiff, Nat.reduceEqDiff, Int.reduceToNat, ↓reduceIte])
    · simp only [push_cast, Nat.reduceAdd, Nat.reduceSub, Nat.reduceMul, Nat.reduceLT, Nat.reduceLeDiff, Nat.reduceEqDiff, Int.reduceToNat, ↓reduceIte, List.take_of_length_le (show xs.length ≤ i by omega)]
def instE (σ : List (List UInt8 × Term)) (t : Term) : Term × Int := if fitsP (applyP σ t) then (applyP σ t, 0) else (.mk [] false [], 3)
theorem instance_ac (σ : List (List UInt8 × Term)) (hs : SortedN (σ.map (·.1))) (hlen : σ.length < 1099511627776) (hbk : ∀ b, b ∈ σ → b.2.bulk ≤ 1099511627775) (t : Term) (hb : t.bulk ≤ 1099511627775) (hb2 : (applyP σ t).size ≤ 1099511627775) (H : List AObj) : ACall Tryd.prog 84 [.sl .none (encL encBd σ), encT t] H (fun r H' => r = encRE (instE σ t) ∧ H' = H) := by
  have hd := (applyP σ t).depth_le
  refine ACall_V (H.length) 20 [.cell 4 24, .tmp 5] Tryd.func84 rfl rfl rfl ?_
  simp only [push_cast, Nat.reduceAdd, Nat.reduceSub, Nat.reduceMul, Nat.reduceLT, Nat.reduceLeDiff, Nat.reduceEqDiff, Int.reduceToNat, ↓reduceIte]
  refine (measure_ac σ hs hlen hbk t hb hb2 _).to ?_
  simp only [push_cast, Nat.reduceAdd, Nat.reduceSub, Nat.reduceMul, Nat.reduceLT, Nat.reduceLeDiff, Nat.reduceEqDiff, Int.reduceToNat, ↓reduceIte]
  refine cI (fun h => ?_) (fun h => ?_)
  · have h1 : ¬ (applyP σ t).size ≤ 4000 := by omega
    have e : instE σ t = (.mk [] false [], 3) := by simp [instE, fitsP, h1]
    simp only [push_cast, Nat.reduceAdd, Nat.reduceSub, Nat.reduceMul, Nat.reduceLT, Nat.reduceLeDiff, Nat.reduceEqDiff, Int.reduceToNat, ↓reduceIte, e]
  · have h1 : (applyP σ t).size ≤ 4000 := by omega
    refine cI (fun h2 => ?_) (fun h2 => ?_)
    · have h3 : ¬ (applyP σ t).depth ≤ 200 := by omega
      have e : instE σ t = (.mk [] false [], 3) := by simp [instE, fitsP, h3]
      simp only [push_cast, Nat.reduceAdd, Nat.reduceSub, Nat.reduceMul, Nat.reduceLT, Nat.reduceLeDiff, Nat.reduceEqDiff, Int.reduceToNat, ↓reduceIte, e]
    · have h3 : (applyP σ t).depth ≤ 200 := by omega
      have e : instE σ t = (applyP σ t, 0) := by simp [instE, fitsP, h1, h3]
      refine (replace_ac σ hs hlen hbk t hb _).to ?_
      simp only [push_cast, Nat.reduceAdd, Nat.reduceSub, Nat.reduceMul, Nat.reduceLT, Nat.reduceLeDiff, Nat.reduceEqDiff, Int.reduceToNat, ↓reduceIte, e]
def applyE (σ : List (List UInt8 × Term)) (t : Term) : Term × Int := if subCheck σ ≠ 0 then (.mk [] false [], subCheck σ) else if checkP t ≠ 0 then (.mk [] false [], checkP t) else instE σ t
theorem sub_ok {σ : List (List UInt8 × Term)} (h : subCheck σ = 0) : SortedN (σ.map (·.1)) ∧ (∀ b, b ∈ σ → b.2.size ≤ 4000 ∧ b.2.bulk ≤ 100000 ∧ formedP b.2 = true) ∧ ∀ b, b ∈ σ → b.1.length ≤ 24 := by
  obtain ⟨h1, h2⟩ := (subCheck_iff σ).1 h
  refine ⟨h1, fun b hb => ?_, fun b hb => name_small (h2 b hb).1⟩
  have h3 := check_small (h2 b hb).2
  exact ⟨h3.1, h3.2, ((check_iff _).1 (h2 b hb).2).1⟩
theorem inst_size {σ : List (List UInt8 × Term)} (h : subCheck σ = 0) {t : Term} (ht : checkP t = 0) : (applyP σ t).size ≤ 16000000 ∧ (applyP σ t).bulk ≤ 400000000 := by
  obtain ⟨h1, h2, h3⟩ := sub_ok h
  have h4 := check_small ht
  have h5 := apply_size σ 4000 (by decide) (fun b hb => (h2 b hb).1) t
  have h6 := formed_bulk _ (formed_apply σ (fun b hb => (h2 b hb).2.2) t ((check_iff t).1 ht).1)
  omega
theorem applyT_ac (σ : List (List UInt8 × Term)) (hlen : σ.length < 1099511627776) (hnl : ∀ b, b ∈ σ → b.1.length < 1099511627776 ∧ b.2.bulk ≤ 1099511627775) (t : Term) (hb : t.bulk ≤ 1099511627775) (H : List AObj) : ACall Tryd.prog 46 [.sl .none (encL encBd σ), encT t] H (fun r H' => r = encRE (applyE σ t) ∧ H' = H) := by
  refine ACall_V (H.length) 23 [.cell 4 24, .tmp 5] Tryd.func46 rfl rfl rfl ?_
  simp only [push_cast, Nat.reduceAdd, Nat.reduceSub, Nat.reduceMul, Nat.reduceLT, Nat.reduceLeDiff, Nat.reduceEqDiff, Int.reduceToNat, ↓reduceIte]
  refine (subCheckT_ac σ hlen hnl _).to ?_
  simp only [push_cast, Nat.reduceAdd, Nat.reduceSub, Nat.reduceMul, Nat.reduceLT, Nat.reduceLeDiff, Nat.reduceEqDiff, Int.reduceToNat, ↓reduceIte]
  refine cI (fun h => ?_) (fun h => ?_)
  · refine (check_ac t hb _).to ?_
    simp only [push_cast, Nat.reduceAdd, Nat.reduceSub, Nat.reduceMul, Nat.reduceLT, Nat.reduceLeDiff, Nat.reduceEqDiff, Int.reduceToNat, ↓reduceIte]
    refine cI (fun h2 => ?_) (fun h2 => ?_)
    · have hz := inst_size h h2
      refine (instance_ac σ (sub_ok h).1 hlen (fun b hb => (hnl b hb).2) t hb (by omega) _).to ?_
      have e : applyE σ t = instE σ t := by simp [applyE, h, h2]
      simp only [push_cast, Nat.reduceAdd, Nat.reduceSub, Nat.reduceMul, Nat.reduceLT, Nat.reduceLeDiff, Nat.reduceEqDiff, Int.reduceToNat, ↓reduceIte, e]
    · have e : applyE σ t = (.mk [] false [], checkP t) := by simp [applyE, h, h2]
      simp only [push_cast, Nat.reduceAdd, Nat.reduceSub, Nat.reduceMul, Nat.reduceLT, Nat.reduceLeDiff, Nat.reduceEqDiff, Int.reduceToNat, ↓reduceIte, e]
  · have e : applyE σ t = (.mk [] false [], subCheck σ) := by simp [applyE, h]
    simp only [push_cast, Nat.reduceAdd, Nat.reduceSub, Nat.reduceMul, Nat.reduceLT, Nat.reduceLeDiff, Nat.reduceEqDiff, Int.reduceToNat, ↓reduceIte, e]
theorem grownR_ac (σ : List (List UInt8 × Term)) (hlen : σ.length < 1099511627776) (hbk : ∀ b, b ∈ σ → b.2.bulk ≤ 1099511627775) (t : Term) : t.bulk ≤ 1099511627775 → (applyP σ t).size ≤ 1099511627775 → ∀ H, ACall Tryd.prog 88 [.sl .none (encL encBd σ), encT t] H (fun r H' => r = .tup [.int .i64 (applyP σ t).size, .int .i64 (applyP σ t).depth] ∧ H' = H) := by
  induction t using Term.ind with | _ n u xs ih
  intro hb hb2 H
  have hl := Term.len_le (n := n) (v := u) (xs := xs)
  have hnl := Term.name_le (n := n) (v := u) (xs := xs)
  cases u with
  | true =>
    rw [applyP_t]
    have hib := image_bulk σ 1099511627775 hbk n (by omega)
    refine ACall_V (H.length) 44 [.tmp 4, .tmp 5] Tryd.func88 rfl rfl rfl ?_
    simp only [push_cast, Nat.reduceAdd, Nat.reduceSub, Nat.reduceMul, Nat.reduceLT, Nat.reduceLeDiff, Nat.reduceEqDiff, Int.reduceToNat, ↓reduceIte]
    refine (imageR_ac σ n hlen _).to ?_
    simp only [push_cast, Nat.reduceAdd, Nat.reduceSub, Nat.reduceMul, Nat.reduceLT, Nat.reduceLeDiff, Nat.reduceEqDiff, Int.reduceToNat, ↓reduceIte]
    apply AW_drawE [some 19, some 20, some 21, some 22, some 4, some 5] [([], _)] [none, none, none, none, none, none] 0 [(0, [], [6]), (1, [], [19]), (2, [], [6]), (3, [], [21]), (4, [], [20]), (5, [], [22])] [_, _, _, _, _, _]
    case' hm => exact dr
    case' hn => rfl
    case' hok => rfl
    case' hlen => rfl
    case' hd => rfl
    case' h0 => rfl
    case' hstep =>
     simp only [DAllG, push_cast, Option.isSome_some, Option.isSome_none]
     repeat' apply And.intro
     all_goals (apply DOne_V; simp only [push_cast, Nat.reduceAdd, Nat.reduceSub, Nat.reduceMul, Nat.reduceLT, Nat.reduceLeDiff, Nat.reduceEqDiff, Int.reduceToNat, ↓reduceIte] <;> first | exact rfl | omega | exact ⟨rfl, rfl⟩ | exact trivial | exact ⟨by omega, rfl⟩ | exact ⟨by omega, by omega, rfl⟩ | exact ⟨by omega, rfl, rfl⟩ | exact ⟨by omega, by omega, rfl, rfl⟩ | exact (sizeR_ac (imageP σ n) (by omega) _).to ⟨rfl, rfl⟩ | exact (depthR_ac (imageP σ n) (by omega) _).to ⟨rfl, rfl⟩)
    case' hQ => skip
    simp only [push_cast, Nat.reduceAdd, Nat.reduceSub, Nat.reduceMul, Nat.reduceLT, Nat.reduceLeDiff, Nat.reduceEqDiff, Int.reduceToNat, ↓reduceIte]
  | false =>
    rw [applyP_f] at hb2 ⊢
    have hdp := (Term.mk n false (appL σ xs)).depth_le
    rw [Term.size_mk] at hb2 hdp ⊢
    rw [Term.depth_mk] at hdp ⊢
    refine ACall_V (H.length) 44 [.tmp 4, .tmp 5] Tryd.func88 rfl rfl rfl ?_
    simp only [push_cast, Nat.reduceAdd, Nat.reduceSub, Nat.reduceMul, Nat.reduceLT, Nat.reduceLeDiff, Nat.reduceEqDiff, Int.reduceToNat, ↓reduceIte]
    refine AW_loopW (maskG 46 [0, 6, 0, 15, 0, 0]) (fun (i : Nat) => [(26, .int .i64 i), (7, .int .i64 (1 + ((appL σ (xs.take i)).map Term.size).sum : Nat)), (8, .int .i64 (((appL σ (xs.take i)).map Term.depth).foldl max 0 : Nat))]) (fun i => H ++ [.cells [.str n, .bool false, .sl .none (encTs xs)]]) (fun i => i ≤ xs.length) (fun i => xs.length - i) 0 (Nat.zero_le _) (by simp only [push_cast, Nat.reduceAdd, Nat.reduceSub, Nat.reduceMul, Nat.reduceLT, Nat.reduceLeDiff, Nat.reduceEqDiff, Int.reduceToNat, ↓reduceIte, List.take_zero, appL_nil]; simp) (fun i hi => ?_)
    simp only [push_cast, Nat.reduceAdd, Nat.reduceSub, Nat.reduceMul, Nat.reduceLT, Nat.reduceLeDiff, Nat.reduceEqDiff, Int.reduceToNat, ↓reduceIte]
    refine cI (fun h => ?_) (fun h => ?_)
    · have hil : i < xs.length := by omega
      repeat refine ⟨by omega, ?_⟩
      obtain ⟨hq1, hq2⟩ := sizes_take σ xs i hil
      obtain ⟨hw1, hw2⟩ := sizes_le σ xs (i + 1)
      obtain ⟨hw3, hw4⟩ := sizes_le σ xs i
      refine (ih _ (List.getElem_mem hil) (arg_bulk hb i hil) (by omega) _).to ?_
      simp only [push_cast, Nat.reduceAdd, Nat.reduceSub, Nat.reduceMul, Nat.reduceLT, Nat.reduceLeDiff, Nat.reduceEqDiff, Int.reduceToNat, ↓reduceIte]
      repeat' first | refine ⟨by omega, ?_⟩ | refine cI (fun _ => ?_) (fun _ => ?_)
      exact loopW_n (i + 1) (by omega) (by omega) (by simp only [push_cast, Nat.reduceAdd, Nat.reduceSub, Nat.reduceMul, Nat.reduceLT, Nat.reduceLeDiff, Nat.reduceEqDiff, Int.reduceToNat, ↓reduceIte, hq1, hq2]; omega)
    · obtain ⟨hw3, hw4⟩ := sizes_le σ xs xs.length
      rw [List.take_of_length_le (Nat.le_refl _)] at hw3 hw4
      simp only [push_cast, Nat.reduceAdd, Nat.reduceSub, Nat.reduceMul, Nat.reduceLT, Nat.reduceLeDiff, Nat.reduceEqDiff, Int.reduceToNat, ↓reduceIte, List.take_of_length_le (show xs.length ≤ i by omega)]
      omega
theorem fitsR1_ac (σ : List (List UInt8 × Term)) (hlen : σ.length < 1099511627776) (hbk : ∀ b, b ∈ σ → b.2.bulk ≤ 1099511627775) (t : Term) (hb : t.bulk ≤ 1099511627775) (hb2 : (applyP σ t).size ≤ 1099511627775) (H : List AObj) : ACall Tryd.prog 48 [.sl .none (encL encBd σ), encT t] H (fun r H' => r = .bool (fitsP (applyP σ t)) ∧ H' = H) := by
  have hd := (applyP σ t).depth_le
  refine ACall_V (H.length) 17 [.tmp 4] Tryd.func48 rfl rfl rfl ?_
  simp only [push_cast, Nat.reduceAdd, Nat.reduceSub, Nat.reduceMul, Nat.reduceLT, Nat.reduceLeDiff, Nat.reduceEqDiff, Int.reduceToNat, ↓reduceIte]
  refine (grownR_ac σ hlen hbk t hb hb2 _).to ?_
  simp only [push_cast, Nat.reduceAdd, Nat.reduceSub, Nat.reduceMul, Nat.reduceLT, Nat.reduceLeDiff, Nat.reduceEqDiff, Int.reduceToNat, ↓reduceIte]
  refine cI (fun h => ?_) (fun h => ?_)
  · have h1 : (applyP σ t).size ≤ 4000 := by omega
    have e : fitsP (applyP σ t) = decide ((applyP σ t).depth ≤ 200) := by simp [fitsP, h1]
    have e2 : decide (((applyP σ t).depth : Int) ≤ 200) = decide ((applyP σ t).depth ≤ 200) := by simp; omega
    simp only [push_cast, Nat.reduceAdd, Nat.reduceSub, Nat.reduceMul, Nat.reduceLT, Nat.reduceLeDiff, Nat.reduceEqDiff, Int.reduceToNat, ↓reduceIte, e, e2]
  · have h1 : ¬ (applyP σ t).size ≤ 4000 := by omega
    have e : fitsP (applyP σ t) = false := by simp [fitsP, h1]
    simp only [push_cast, Nat.reduceAdd, Nat.reduceSub, Nat.reduceMul, Nat.reduceLT, Nat.reduceLeDiff, Nat.reduceEqDiff, Int.reduceToNat, ↓reduceIte, e]
end Ab
set_option maxRecDepth 10000
namespace Go.Proofs
open Go.Shelf Go.RowKit Go.Lib Go.Sort
set_option maxHeartbeats 1000000 in
theorem Tryd.sortBindC (a b : ByteArray) (a1 a2 a3 b1 b2 b3 : Value) (W : World) : Calls Tryd.prog 87 #[.agg #[.string a, a1, a2, a3], .agg #[.string b, b1, b2, b3]] W fun e w' => e = .returned (.int .i64 (Lib.compareBytes a.data.toList b.data.toList)) ∧ ∃ q os', w' = grow (W.drewN q) os' := by
  have hcon := fun W' => Tryd.strings_Compare a b W'
  generalize Lib.compareBytes a.data.toList b.data.toList = r at hcon ⊢
  go_enter Tryd.func87, Tryd.ntmps87
  go_wp2_with (go_at_call 79; refine (hcon _).mono ?_; rintro e w' ⟨rfl, rfl⟩)
  go_ret
  exact ⟨rfl, 0, _, by rw [alloc_eq_grow, alloc_eq_grow, grow_grow]; rfl⟩
end Go.Proofs
namespace Ab
open Go Go.Proofs
@[reducible] def BR := (List UInt8 × Term) × (Option Addr × Nat × Nat)
instance : Inhabited BR := ⟨(([], .mk [] false []), (none, 0, 0))⟩
def encBR (a : BR) : List Value := [.string ⟨a.1.1.toArray⟩, .string ⟨a.1.2.name.toArray⟩, .bool a.1.2.var, .slice a.2.1 a.2.2.1 a.2.2.2]
theorem cb_swo : Go.Sort.SWO (ltOf fun a b : BR => Lib.compareBytes a.1.1 b.1.1) := by
  have hz : ∀ x y : BR, ltOf (fun a b : BR => Lib.compareBytes a.1.1 b.1.1) x y = decide (Lib.compareBytes x.1.1 y.1.1 < 0) := fun _ _ => rfl
  refine ⟨fun x => ?_, fun x y z h1 h2 => ?_, fun x y z h1 h2 => ?_⟩
  · rw [hz, cb_self]; rfl
  · rw [hz, decide_eq_true_eq] at *; exact cb_trans _ _ _ h1 h2
  · rw [hz, decide_eq_false_iff_not] at *
    intro h3
    by_cases e : x.1.1 = y.1.1
    · rw [e] at h3; exact h2 h3
    · exact h2 (cb_trans _ _ _ (cb_tot _ _ h1 e) h3)
theorem sortB_ac (k : Nat) (σ : List (List UInt8 × Term)) (hlen : σ.length < 1099511627776) (H : List AObj) (hk : H[k]? = some (grO 57 4 (encL encBd σ))) :
    ACall Tryd.prog 86 [grS k (encL encBd σ), .fn 87 []] H (fun r H' => ∃ σ', σ.Perm σ' ∧ σ'.Pairwise (fun a b => ¬ Lib.compareBytes b.1 a.1 < 0) ∧ r = .tup [] ∧ H' = H.set k (grO 57 4 (encL encBd σ'))) :=
  sortG (ρ := Tryd.sortBind_ren) Tryd.sortBind 4 (by decide) Tryd.isAgg57 Tryd.sizeOf57 encBd (fun _ => rfl) cellBd encBR (fun _ => rfl) (fun a v hv => by
      simp only [encBR, List.mem_cons, List.not_mem_nil, or_false] at hv
      rcases hv with rfl | rfl | rfl | rfl <;> rfl) Prod.fst (fun C x vs hl h => by
      match vs, hl with
      | [a, b, c, d], _ =>
        have h0 := h 0 (by simp [AV.cells]) (by simp)
        have h1 := h 1 (by simp [AV.cells]) (by simp)
        have h2 := h 2 (by simp [AV.cells]) (by simp)
        have h3 := h 3 (by simp [AV.cells]) (by simp)
        have g0 := VRel.str_inv (show VRel C (.str x.1) a from h0)
        have g1 := VRel.str_inv (show VRel C (.str x.2.name) b from h1)
        have h2' : VRel C (.bool x.2.var) c := h2
        have h3' : VRel C (.sl .none (encTs x.2.args)) d := h3
        subst g0 g1
        cases h2'
        cases h3' with
        | sl _ _ ad n cp f hn hc hrow hrel htok => exact ⟨(x, (ad, n, cp)), rfl, rfl⟩)
    (fun a b => Lib.compareBytes a.1 b.1) cb_swo 87 (enters_of Tryd.func87 (by kernel_rfl) rfl) (fun w a b => Tryd.sortBindC _ _ _ _ _ _ _ _ w) k σ 57 hlen H hk
end Ab
set_option maxRecDepth 10000
namespace Ab
open Go Go.Proofs
section
variable {P : Program} {ro : Option Nat} {st : ASt} {dst : Option Tmp} {ty : TypeId} {pos : String} {after : Array Edge} {guard : Option (Nat × Bool)} {K : AV → List AObj → Prop}
theorem app1_G {α : Type} (enc : α → AV) {t e by_ sz : Nat} {s x : Operand} (hu : ∀ x, (enc x).cells.length = sz) (hc : ∀ x c, c ∈ (enc x).cells → c.isCell = true) (zs : List Value) (k : Nat) (xs : List α) (y : α) (tk : Tok) (hs : st.opd s = grS k (encL enc xs)) (hx : st.opd x = .sl tk [enc y]) (hh : st.heap[k]? = some (grO e sz (encL enc xs)))
    (ht : SliceT P t e) (hsz : SzOf P e sz) (hby : BytesOf P e by_) (hz : ZeroOf P e zs) (hz0 : zs.length = sz) (h0 : 0 < sz) (hb : by_ ≤ 100) (hl : xs.length < 1099511627776)
    (k' : K (grS k (encL enc (xs ++ [y]))) (st.heap.set k (grO e sz (encL enc (xs ++ [y]))))) :
    AOp P ro ⟨dst, .call { callee := .builtin .append, args := #[s, x], argTypes := #[t, t] }, ty, pos, after, guard⟩ K st := by
  have e1 : encL enc (xs ++ [y]) = encL enc xs ++ [enc y] := by simp [encL]
  rw [e1] at k'
  refine AOp_append_Gr zs k (encL enc xs) [enc y] tk hs hx hh ht hsz hby hz hz0 h0 (uni_encL hu xs) (by intro x hx; rw [List.mem_singleton] at hx; subst hx; exact hu y) (fun c h => hc y c (by simpa [flat] using h)) ?_ (by rw [encL_length]; simp; omega) k'
  rw [encL_length]
  calc (xs.length + 1) * by_ ≤ 1099511627776 * 100 := Nat.mul_le_mul (by omega) hb
    _ ≤ _ := by decide
end
def compE (σ τ : List (List UInt8 × Term)) : List (List UInt8 × Term) × Int := if subCheck σ ≠ 0 then ([], subCheck σ) else if subCheck τ ≠ 0 then ([], subCheck τ) else if σ.all (fun b => fitsP (applyP τ b.2)) then (compS σ τ, 0) else ([], 3)
def encSE (r : List (List UInt8 × Term) × Int) : AV := .tup [.sl .none (encL encBd r.1), .int .i64 r.2]
def mapA (τ σ : List (List UInt8 × Term)) : List (List UInt8 × Term) := σ.map fun b => (b.1, applyP τ b.2)
theorem mapA_take (τ σ : List (List UInt8 × Term)) (i : Nat) (h : i < σ.length) : mapA τ (σ.take (i + 1)) = mapA τ (σ.take i) ++ [(σ[i].1, applyP τ σ[i].2)] := by
  unfold mapA; rw [List.take_succ_eq_append_getElem h, List.map_append]; rfl
theorem mapA_nil (τ : List (List UInt8 × Term)) : mapA τ [] = [] := (rfl)
theorem mapA_len (τ σ : List (List UInt8 × Term)) : (mapA τ σ).length = σ.length := by simp [mapA]
theorem insOnly_nil (σ : List (List UInt8 × Term)) : insOnly σ [] = [] := (rfl)
theorem insOnly_take (σ τ : List (List UInt8 × Term)) (i : Nat) (h : i < τ.length) : insOnly σ (τ.take (i + 1)) = insOnly σ (τ.take i) ++ (if (look σ τ[i].1).isNone then [τ[i]] else []) := by
  unfold insOnly; rw [List.take_succ_eq_append_getElem h, List.filter_append]; congr 1
  by_cases e : (look σ τ[i].1).isNone = true <;> simp [e]
theorem insOnly_len (σ τ : List (List UInt8 × Term)) : (insOnly σ τ).length ≤ τ.length := List.length_filter_le _ _
theorem flat_encBd (l : List (List UInt8 × Term)) : (flat (encL encBd l)).length = l.length * 4 := by rw [flat_length (uni_encL (enc := encBd) (k := 4) (fun _ => rfl) l), encL_length]
theorem scflB (n : Nat) (l : List (List UInt8 × Term)) : ScopedL n (flat (encL encBd l)) = True := by
  refine eq_true ?_
  rw [ScopedL_iff]
  intro v hv
  unfold flat encL at hv
  rw [List.mem_flatMap] at hv
  obtain ⟨a, ha, hv⟩ := hv
  obtain ⟨b, _, rfl⟩ := List.mem_map.1 ha
  simp only [AV.cells, List.mem_cons, List.not_mem_nil, or_false] at hv
  rcases hv with rfl | rfl | rfl | rfl <;> simp [Scoped, scoped_encTs]
attribute [push_cast] scflB
theorem compose_ac (σ τ : List (List UInt8 × Term)) (h1 : σ.length < 1000000000) (h2 : τ.length < 1000000000) (hn1 : ∀ b, b ∈ σ → b.1.length < 1099511627776 ∧ b.2.bulk ≤ 1099511627775) (hn2 : ∀ b, b ∈ τ → b.1.length < 1099511627776 ∧ b.2.bulk ≤ 1099511627775) (H : List AObj) :
    ACall Tryd.prog 47 [.sl .none (encL encBd σ), .sl .none (encL encBd τ)] H (fun r H' => r = encSE (compE σ τ) ∧ H' = H) := by
  refine ACall_VGA (H.length) 80 [.tmp 4, .tmp 5] Tryd.func47 rfl rfl rfl ?_
  refine AW_reserve 1 ?_
  refine AW_of_W ?_
  simp only [push_cast, Nat.reduceAdd, Nat.reduceSub, Nat.reduceMul, Nat.reduceLT, Nat.reduceLeDiff, Nat.reduceEqDiff, Int.reduceToNat, ↓reduceIte]
  refine AW_loopW (maskG 82 [0, 0, 18, 0]) (fun (i : Nat) => [(21, .int .i64 i)]) (fun i => H ++ [.dead]) (fun i => i ≤ 2 ∧ (0 < i → subCheck σ = 0) ∧ (1 < i → subCheck τ = 0)) (fun i => 2 - i) 0 ⟨by omega, by omega, by omega⟩ (by simp only [push_cast, Nat.reduceAdd, Nat.reduceSub, Nat.reduceMul, Nat.reduceLT, Nat.reduceLeDiff, Nat.reduceEqDiff, Int.reduceToNat, ↓reduceIte]) (fun i hi => ?_)
  simp only [push_cast, Nat.reduceAdd, Nat.reduceSub, Nat.reduceMul, Nat.reduceLT, Nat.reduceLeDiff, Nat.reduceEqDiff, Int.reduceToNat, ↓reduceIte]
  refine cI (fun h => ?_) (fun h => ?_)
  · have hi01 : i = 0 ∨ i = 1 := by omega
    rcases hi01 with rfl | rfl
    · repeat refine ⟨by omega, ?_⟩
      simp only [push_cast, Nat.reduceAdd, Nat.reduceSub, Nat.reduceMul, Nat.reduceLT, Nat.reduceLeDiff, Nat.reduceEqDiff, Int.reduceToNat, ↓reduceIte, Nat.zero_mul, List.getElem_cons_zero]
      refine (subCheckT_ac σ (by omega) hn1 _).to ?_
      simp only [push_cast, Nat.reduceAdd, Nat.reduceSub, Nat.reduceMul, Nat.reduceLT, Nat.reduceLeDiff, Nat.reduceEqDiff, Int.reduceToNat, ↓reduceIte]
      refine cI (fun hs => ?_) (fun hs => ?_)
      · repeat' first | refine ⟨by omega, ?_⟩ | refine cI (fun _ => ?_) (fun _ => ?_)
        exact loopW_n 1 ⟨by omega, fun _ => hs, by omega⟩ (by omega) (by simp only [push_cast, Nat.reduceAdd, Nat.reduceSub, Nat.reduceMul, Nat.reduceLT, Nat.reduceLeDiff, Nat.reduceEqDiff, Int.reduceToNat, ↓reduceIte])
      · have e : compE σ τ = ([], subCheck σ) := by simp [compE, hs]
        simp only [push_cast, Nat.reduceAdd, Nat.reduceSub, Nat.reduceMul, Nat.reduceLT, Nat.reduceLeDiff, Nat.reduceEqDiff, Int.reduceToNat, ↓reduceIte, e, encSE, encL_nil]
        exact .fgt (by simp only [push_cast, Nat.reduceAdd, Nat.reduceSub, Nat.reduceMul, Nat.reduceLT, Nat.reduceLeDiff, Nat.reduceEqDiff, Int.reduceToNat, ↓reduceIte])
    · repeat refine ⟨by omega, ?_⟩
      simp only [push_cast, Nat.reduceAdd, Nat.reduceSub, Nat.reduceMul, Nat.reduceLT, Nat.reduceLeDiff, Nat.reduceEqDiff, Int.reduceToNat, ↓reduceIte, Nat.one_mul, List.getElem_cons_succ, List.getElem_cons_zero]
      refine (subCheckT_ac τ (by omega) hn2 _).to ?_
      simp only [push_cast, Nat.reduceAdd, Nat.reduceSub, Nat.reduceMul, Nat.reduceLT, Nat.reduceLeDiff, Nat.reduceEqDiff, Int.reduceToNat, ↓reduceIte]
      refine cI (fun hs => ?_) (fun hs => ?_)
      · repeat' first | refine ⟨by omega, ?_⟩ | refine cI (fun _ => ?_) (fun _ => ?_)
        exact loopW_n 2 ⟨by omega, fun _ => hi.2.1 (by omega), fun _ => hs⟩ (by omega) (by simp only [push_cast, Nat.reduceAdd, Nat.reduceSub, Nat.reduceMul, Nat.reduceLT, Nat.reduceLeDiff, Nat.reduceEqDiff, Int.reduceToNat, ↓reduceIte])
      · have e : compE σ τ = ([], subCheck τ) := by simp [compE, hs, hi.2.1]
        simp only [push_cast, Nat.reduceAdd, Nat.reduceSub, Nat.reduceMul, Nat.reduceLT, Nat.reduceLeDiff, Nat.reduceEqDiff, Int.reduceToNat, ↓reduceIte, e, encSE, encL_nil]
        exact .fgt (by simp only [push_cast, Nat.reduceAdd, Nat.reduceSub, Nat.reduceMul, Nat.reduceLT, Nat.reduceLeDiff, Nat.reduceEqDiff, Int.reduceToNat, ↓reduceIte])
  · have hs := hi.2.1 (by omega)
    have ht := hi.2.2 (by omega)
    refine AW_loopW (maskG 82 [0, 0, 7, 20, 0, 0]) (fun (i : Nat) => [(9, grS H.length (encL encBd (mapA τ (σ.take i)))), (32, .int .i64 i)]) (fun i => H ++ [grO 57 4 (encL encBd (mapA τ (σ.take i)))]) (fun i => i ≤ σ.length ∧ (σ.take i).all (fun b => fitsP (applyP τ b.2)) = true) (fun i => σ.length - i) 0 ⟨by omega, by simp⟩ (by simp only [push_cast, Nat.reduceAdd, Nat.reduceSub, Nat.reduceMul, Nat.reduceLT, Nat.reduceLeDiff, Nat.reduceEqDiff, Int.reduceToNat, ↓reduceIte, List.take_zero, mapA_nil, encL_nil]) (fun i hi => ?_)
    simp only [push_cast, Nat.reduceAdd, Nat.reduceSub, Nat.reduceMul, Nat.reduceLT, Nat.reduceLeDiff, Nat.reduceEqDiff, Int.reduceToNat, ↓reduceIte]
    refine cI (fun h2 => ?_) (fun h2 => ?_)
    · have hil : i < σ.length := by omega
      repeat refine ⟨by omega, ?_⟩
      have hbm := List.getElem_mem hil
      have hck := (((subCheck_iff σ).1 hs).2 _ hbm).2
      have hz := inst_size ht hck
      have hml := mapA_len τ (σ.take i)
      rw [List.length_take] at hml
      refine (instance_ac τ (sub_ok ht).1 (by omega) (fun b hb => (hn2 b hb).2) (σ[i]'hil).2 (hn1 _ hbm).2 (by omega) _).to ?_
      cases hf : fitsP (applyP τ (σ[i]'hil).2) with
      | true =>
        have e : instE τ (σ[i]'hil).2 = (applyP τ (σ[i]'hil).2, 0) := by simp [instE, hf]
        simp only [push_cast, Nat.reduceAdd, Nat.reduceSub, Nat.reduceMul, Nat.reduceLT, Nat.reduceLeDiff, Nat.reduceEqDiff, Int.reduceToNat, ↓reduceIte, e]
        refine app1_G encBd (sz := 4) (fun _ => rfl) cellBd _ H.length (mapA τ (σ.take i)) ((σ[i]'hil).1, applyP τ (σ[i]'hil).2) _ rfl rfl (by exact aget0 _ _ _) sl52 sz57 by57 zr57 rfl (by decide) (by decide) (by omega) ?_
        rw [← mapA_take τ σ i hil]
        simp only [push_cast, Nat.reduceAdd, Nat.reduceSub, Nat.reduceMul, Nat.reduceLT, Nat.reduceLeDiff, Nat.reduceEqDiff, Int.reduceToNat, ↓reduceIte]
        repeat' first | refine ⟨by omega, ?_⟩ | refine cI (fun _ => ?_) (fun _ => ?_)
        exact loopW_n (i + 1) ⟨by omega, all_take_true hi.2 hil hf⟩ (by omega) (by simp only [push_cast, Nat.reduceAdd, Nat.reduceSub, Nat.reduceMul, Nat.reduceLT, Nat.reduceLeDiff, Nat.reduceEqDiff, Int.reduceToNat, ↓reduceIte])
      | false =>
        have e : instE τ (σ[i]'hil).2 = (.mk [] false [], 3) := by simp [instE, hf]
        have e2 : compE σ τ = ([], 3) := by
          have := all_get (xs := σ) (p := fun b => fitsP (applyP τ b.2)) hil hf
          simp [compE, hs, ht, this]
        simp only [push_cast, Nat.reduceAdd, Nat.reduceSub, Nat.reduceMul, Nat.reduceLT, Nat.reduceLeDiff, Nat.reduceEqDiff, Int.reduceToNat, ↓reduceIte, e, e2, encSE, encL_nil]
        exact cI (fun h => absurd h (by decide)) (fun _ => .fgt (by simp only [push_cast, Nat.reduceAdd, Nat.reduceSub, Nat.reduceMul, Nat.reduceLT, Nat.reduceLeDiff, Nat.reduceEqDiff, Int.reduceToNat, ↓reduceIte]))
    · have hil : i = σ.length := by omega
      rw [hil, List.take_length] at hi
      rw [List.take_of_length_le (show σ.length ≤ i by omega)]
      have hml := mapA_len τ σ
      refine AW_loopW (maskG 82 [0, 8, 44, 0, 0]) (fun (i : Nat) => [(9, grS H.length (encL encBd (mapA τ σ ++ insOnly σ (τ.take i)))), (56, .int .i64 i)]) (fun i => H ++ [grO 57 4 (encL encBd (mapA τ σ ++ insOnly σ (τ.take i)))]) (fun i => i ≤ τ.length) (fun i => τ.length - i) 0 (by omega) (by simp only [push_cast, Nat.reduceAdd, Nat.reduceSub, Nat.reduceMul, Nat.reduceLT, Nat.reduceLeDiff, Nat.reduceEqDiff, Int.reduceToNat, ↓reduceIte, List.take_zero, insOnly_nil]) (fun j hj => ?_)
      simp only [push_cast, Nat.reduceAdd, Nat.reduceSub, Nat.reduceMul, Nat.reduceLT, Nat.reduceLeDiff, Nat.reduceEqDiff, Int.reduceToNat, ↓reduceIte]
      refine cI (fun h3 => ?_) (fun h3 => ?_)
      · have hjl : j < τ.length := by omega
        repeat refine ⟨by omega, ?_⟩
        have hbm := List.getElem_mem hjl
        have htk := insOnly_take σ τ j hjl
        have hol := insOnly_len σ (τ.take j)
        rw [List.length_take] at hol
        refine (imageT_ac σ (sub_ok hs).1 (τ[j]'hjl).1 (by omega) _).to ?_
        cases hk : (look σ (τ[j]'hjl).1) with
        | some t =>
          simp only [hk, Option.isNone_some, Bool.false_eq_true, if_false, List.append_nil] at htk
          simp only [push_cast, Nat.reduceAdd, Nat.reduceSub, Nat.reduceMul, Nat.reduceLT, Nat.reduceLeDiff, Nat.reduceEqDiff, Int.reduceToNat, ↓reduceIte, Option.isSome_some]
          repeat' first | refine ⟨by omega, ?_⟩ | refine cI (fun _ => ?_) (fun _ => ?_)
          refine loopW_n (j + 1) (by omega) (by omega) ?_
          rw [htk]
          simp only [push_cast, Nat.reduceAdd, Nat.reduceSub, Nat.reduceMul, Nat.reduceLT, Nat.reduceLeDiff, Nat.reduceEqDiff, Int.reduceToNat, ↓reduceIte]
        | none =>
          simp only [hk, Option.isNone_none, if_true] at htk
          simp only [push_cast, Nat.reduceAdd, Nat.reduceSub, Nat.reduceMul, Nat.reduceLT, Nat.reduceLeDiff, Nat.reduceEqDiff, Int.reduceToNat, ↓reduceIte, Option.isSome_none]
          apply AW_drawO [[9], [], [], [], [], [], [], [], [], []] [some 69, some 70, some 71, some 72, some 73, some 74, some 75, some 76, some 77, some 9] [([false], _), ([true], _)] [none, none, none, none, none, none, none, none, some 0, none] 1 [(0, [false], [9]), (1, [false], [15]), (2, [false], [70]), (3, [false], [15]), (4, [false], [72]), (5, [false], [73]), (6, [false], [71, 2]), (7, [false], [75]), (8, [false], [69, 6]), (9, [true], [77]), (1, [true], [15]), (2, [true], [70]), (3, [true], [15]), (4, [true], [72]), (6, [true], [71, 2])] [_, _, _, _, _, _, _, _, _, _]
          case' hm => exact dr
          case' hn => rfl
          case' hok => rfl
          case' hlen => rfl
          case' hd => rfl
          case' h0 => rfl
          case' hstep =>
           simp only [DAllO, push_cast, Option.isSome_some, Option.isSome_none]
           repeat' apply And.intro
           all_goals (apply DOne_V; simp only [push_cast, Nat.reduceAdd, Nat.reduceSub, Nat.reduceMul, Nat.reduceLT, Nat.reduceLeDiff, Nat.reduceEqDiff, Int.reduceToNat, ↓reduceIte] <;> first | exact rfl | omega | exact ⟨rfl, rfl⟩ | exact trivial | exact ⟨by omega, rfl⟩ | exact ⟨by omega, by omega, rfl⟩ | exact ⟨by omega, rfl, rfl⟩ | exact ⟨by omega, by omega, rfl, rfl⟩ | exact (own_ac (τ[j]'hjl).2 (hn2 _ hbm).2 _).to ⟨rfl, rfl⟩ | (refine app1_G encBd (sz := 4) (fun _ => rfl) cellBd _ H.length (mapA τ σ ++ insOnly σ (τ.take j)) (τ[j]'hjl) _ rfl rfl (by exact aget0 _ _ _) sl52 sz57 by57 zr57 rfl (by decide) (by decide) (by rw [List.length_append]; omega) ?_; simp only [push_cast, Nat.reduceAdd, Nat.reduceSub, Nat.reduceMul, Nat.reduceLT, Nat.reduceLeDiff, Nat.reduceEqDiff, Int.reduceToNat, ↓reduceIte]; exact ⟨rfl, rfl⟩))
          case' hQ => skip
          simp only [push_cast, Nat.reduceAdd, Nat.reduceSub, Nat.reduceMul, Nat.reduceLT, Nat.reduceLeDiff, Nat.reduceEqDiff, Int.reduceToNat, ↓reduceIte]
          repeat' first | refine ⟨by omega, ?_⟩ | refine cI (fun _ => ?_) (fun _ => ?_)
          refine loopW_n (j + 1) (by omega) (by omega) ?_
          rw [htk, ← List.append_assoc]
          simp only [push_cast, Nat.reduceAdd, Nat.reduceSub, Nat.reduceMul, Nat.reduceLT, Nat.reduceLeDiff, Nat.reduceEqDiff, Int.reduceToNat, ↓reduceIte]
      · rw [List.take_of_length_le (show τ.length ≤ j by omega)]
        have hol := insOnly_len σ τ
        have hcl : (mapA τ σ ++ insOnly σ τ).length < 1099511627776 := by rw [List.length_append]; omega
        have hcp : (compS σ τ).Perm (mapA τ σ ++ insOnly σ τ) := compL_perm (sub_ok hs).1 (sub_ok ht).1
        obtain ⟨L, hL⟩ : ∃ L, L = mapA τ σ ++ insOnly σ τ := ⟨_, rfl⟩
        rw [← hL] at hcl hcp ⊢
        refine (sortB_ac H.length L hcl _ (by exact aget0 _ _ _)).mono ?_
        rintro r H' ⟨σ', hp, hw, rfl, rfl⟩
        have hσ : σ' = compS σ τ := sortedS_unique (hcp.trans hp) (compS_sorted σ τ) hw
        subst hσ
        have e : compE σ τ = (compS σ τ, 0) := by simp [compE, hs, ht, hi.2]
        simp only [push_cast, Nat.reduceAdd, Nat.reduceSub, Nat.reduceMul, Nat.reduceLT, Nat.reduceLeDiff, Nat.reduceEqDiff, Int.reduceToNat, ↓reduceIte, e, encSE]
        rw [grS_len H.length (show (encL encBd L).length = (encL encBd (compS σ τ)).length by rw [encL_length, encL_length, hp.length_eq])]
        exact .row2 H.length 57 4 (by exact aget0 _ _ _) (by rw [flat_encBd, encL_length]) (by omega) (of_eq_true (scflB _ _)) (by simp only [push_cast, Nat.reduceAdd, Nat.reduceSub, Nat.reduceMul, Nat.reduceLT, Nat.reduceLeDiff, Nat.reduceEqDiff, Int.reduceToNat, ↓reduceIte])
end Ab
set_option maxRecDepth 10000
namespace Ab
open Go Go.Proofs
theorem sameSubst_ac (a b : List (List UInt8 × Term)) (h1 : a.length < 1099511627776) (h2 : b.length < 1099511627776) (h3 : ∀ x, x ∈ a → x.2.bulk ≤ 1099511627775) (h4 : ∀ x, x ∈ b → x.2.bulk ≤ 1099511627775) (H : List AObj) :
    ACall Tryd.prog 50 [.sl .none (encL encBd a), .sl .none (encL encBd b)] H (fun r H' => r = .bool (decide (a = b)) ∧ H' = H) := by
  refine ACall_V (H.length) 40 [.tmp 4] Tryd.func50 rfl rfl rfl ?_
  simp only [push_cast, Nat.reduceAdd, Nat.reduceSub, Nat.reduceMul, Nat.reduceLT, Nat.reduceLeDiff, Nat.reduceEqDiff, Int.reduceToNat, ↓reduceIte]
  refine cI (fun hl => ?_) (fun hl => ?_)
  · have hl : a.length = b.length := by omega
    refine AW_loopW (maskG 42 [0, 0, 10, 0]) (fun (i : Nat) => [(13, .int .i64 i)]) (fun _ => H) (fun i => i ≤ a.length ∧ a.take i = b.take i) (fun i => a.length - i) 0 ⟨Nat.zero_le _, rfl⟩ (by simp only [push_cast, Nat.reduceAdd, Nat.reduceSub, Nat.reduceMul, Nat.reduceLT, Nat.reduceLeDiff, Nat.reduceEqDiff, Int.reduceToNat, ↓reduceIte]) (fun i hi => ?_)
    simp only [push_cast, Nat.reduceAdd, Nat.reduceSub, Nat.reduceMul, Nat.reduceLT, Nat.reduceLeDiff, Nat.reduceEqDiff, Int.reduceToNat, ↓reduceIte]
    refine cI (fun h => ?_) (fun h => ?_)
    · repeat refine ⟨by omega, ?_⟩
      have hia : i < a.length := by omega
      have hib : i < b.length := by omega
      have heq := fun H => equalR_ac (a[i]'hia).2 (b[i]'hib).2 (h3 _ (List.getElem_mem hia)) (h4 _ (List.getElem_mem hib)) H
      by_cases hn : (a[i]'hia).1 = (b[i]'hib).1
      · have hd : decide ((a[i]'hia).1 = (b[i]'hib).1) = true := by simpa using hn
        apply AW_drawE [some 16, some 17, some 18, some 19, some 20, some 21, some 22, some 23, some 24, some 25, some 26, some 27, some 28, some 29, some 30, some 31, some 32, some 33, some 34, some 35, some 36, some 37, some 38, some 39, some 40] [([], _)] [none, none, none, none, none, none, none, none, none, none, none, none, none, none, none, none, none, none, none, none, none, none, none, none, none] 0 [(0, [], [0]), (1, [], [5]), (2, [], [16, 0]), (3, [], [18]), (4, [], [19]), (5, [], [1]), (6, [], [5]), (7, [], [21, 0]), (8, [], [23]), (9, [], [24]), (10, [], [20, 4]), (11, [], [26]), (12, [], [0, 26]), (13, [], [5, 21]), (14, [], [27, 0, 0]), (15, [], [27, 2]), (16, [], [27, 3]), (17, [], [1, 25]), (18, [], [5, 21]), (19, [], [27, 5, 0]), (20, [], [27, 7]), (21, [], [27, 8]), (22, [], [27, 4, 4]), (23, [], [27, 10]), (24, [], [27, 11])] [_, _, _, _, _, _, _, _, _, _, _, _, _, _, _, _, _, _, _, _, _, _, _, _, _]
        case' hm => exact dr
        case' hn => rfl
        case' hok => rfl
        case' hlen => rfl
        case' hd => rfl
        case' h0 => rfl
        case' hstep =>
         simp only [DAllG, push_cast, Option.isSome_some, Option.isSome_none]
         repeat' apply And.intro
         all_goals (apply DOne_V; simp only [push_cast, Nat.reduceAdd, Nat.reduceSub, Nat.reduceMul, Nat.reduceLT, Nat.reduceLeDiff, Nat.reduceEqDiff, Int.reduceToNat, ↓reduceIte, hd] <;> first | exact rfl | omega | exact ⟨rfl, rfl⟩ | exact trivial | exact ⟨by omega, rfl⟩ | exact ⟨by omega, by omega, rfl⟩ | exact ⟨by omega, rfl, rfl⟩ | exact ⟨by omega, by omega, rfl, rfl⟩ | exact (heq _).to ⟨rfl, rfl⟩)
        case' hQ => skip
        simp only [push_cast, Nat.reduceAdd, Nat.reduceSub, Nat.reduceMul, Nat.reduceLT, Nat.reduceLeDiff, Nat.reduceEqDiff, Int.reduceToNat, ↓reduceIte, hd]
        refine cI (fun he => ?_) (fun he => ?_)
        · repeat' first | refine ⟨by omega, ?_⟩ | refine cI (fun _ => ?_) (fun _ => ?_)
          refine loopW_n (i + 1) ⟨by omega, ?_⟩ (by omega) (by simp only [push_cast, Nat.reduceAdd, Nat.reduceSub, Nat.reduceMul, Nat.reduceLT, Nat.reduceLeDiff, Nat.reduceEqDiff, Int.reduceToNat, ↓reduceIte])
          rw [List.take_succ_eq_append_getElem hia, List.take_succ_eq_append_getElem hib, hi.2]
          congr 2
          exact Prod.ext hn he
        · have hne : a ≠ b := fun e => he (by subst e; rfl)
          simp [hne]
      · have hd : decide ((a[i]'hia).1 = (b[i]'hib).1) = false := by simpa using hn
        apply AW_drawE [some 16, some 17, some 18, some 19, some 20, some 21, some 22, some 23, some 24, some 25, some 26, some 27, some 28, some 29, some 30, some 31, some 32, some 33, some 34, some 35, some 36, some 37, some 38, some 39, some 40] [([], _)] [none, none, none, none, none, none, none, none, none, none, none, none, none, none, none, none, none, none, none, none, none, none, none, none, none] 0 [(0, [], [0]), (1, [], [5]), (2, [], [16, 0]), (3, [], [18]), (4, [], [19]), (5, [], [1]), (6, [], [5]), (7, [], [21, 0]), (8, [], [23]), (9, [], [24]), (10, [], [20, 4]), (11, [], [26]), (12, [], [0, 26]), (13, [], [5, 21]), (14, [], [27, 0, 0]), (15, [], [27, 2]), (16, [], [27, 3]), (17, [], [1, 25]), (18, [], [5, 21]), (19, [], [27, 5, 0]), (20, [], [27, 7]), (21, [], [27, 8]), (22, [], [27, 4, 4]), (23, [], [27, 10]), (24, [], [27, 11])] [_, _, _, _, _, _, _, _, _, _, _, _, _, _, _, _, _, _, _, _, _, _, _, _, _]
        case' hm => exact dr
        case' hn => rfl
        case' hok => rfl
        case' hlen => rfl
        case' hd => rfl
        case' h0 => rfl
        case' hstep =>
         simp only [DAllG, push_cast, Option.isSome_some, Option.isSome_none]
         repeat' apply And.intro
         all_goals (apply DOne_V; simp only [push_cast, Nat.reduceAdd, Nat.reduceSub, Nat.reduceMul, Nat.reduceLT, Nat.reduceLeDiff, Nat.reduceEqDiff, Int.reduceToNat, ↓reduceIte, hd] <;> first | exact rfl | omega | exact ⟨rfl, rfl⟩ | exact trivial | exact ⟨by omega, rfl⟩ | exact ⟨by omega, by omega, rfl⟩ | exact ⟨by omega, rfl, rfl⟩ | exact ⟨by omega, by omega, rfl, rfl⟩ | skip)
        case' hQ => skip
        have hne : a ≠ b := fun e => hn (by subst e; rfl)
        simp only [push_cast, Nat.reduceAdd, Nat.reduceSub, Nat.reduceMul, Nat.reduceLT, Nat.reduceLeDiff, Nat.reduceEqDiff, Int.reduceToNat, ↓reduceIte, hd, decide_eq_false hne]
    · have e := hi.2
      rw [List.take_of_length_le (by omega), List.take_of_length_le (by omega)] at e
      simp [e]
  · have hne : a ≠ b := fun e => hl (by rw [e])
    simp [hne]
theorem gSl_sl (k : Nat) (xs : List AV) : ∃ tk, gSl k xs = .sl tk xs := by cases xs <;> exact ⟨_, rfl⟩
def outL (σ τ : List (List UInt8 × Term)) (L : List (List UInt8)) : List (List UInt8 × Term) := L.map fun v => (v, applyP τ (imageP σ v))
theorem outL_nil (σ τ : List (List UInt8 × Term)) : outL σ τ [] = [] := (rfl)
theorem outL_take (σ τ : List (List UInt8 × Term)) (L : List (List UInt8)) (i : Nat) (h : i < L.length) : outL σ τ (L.take (i + 1)) = outL σ τ (L.take i) ++ [(L[i], applyP τ (imageP σ L[i]))] := by
  unfold outL; rw [List.take_succ_eq_append_getElem h, List.map_append]; rfl
theorem outL_len (σ τ : List (List UInt8 × Term)) (L : List (List UInt8)) : (outL σ τ L).length = L.length := by simp [outL]
def compFit (σ τ : List (List UInt8 × Term)) : Bool := (compNames σ τ).all fun v => fitsP (applyP τ (imageP σ v))
theorem compFit_eq {σ τ : List (List UInt8 × Term)} (hs : subCheck σ = 0) (ht : subCheck τ = 0) : compFit σ τ = σ.all fun b => fitsP (applyP τ b.2) := by
  have h1 := (subCheck_iff σ).1 hs
  have h2 := (subCheck_iff τ).1 ht
  unfold compFit
  rw [Bool.eq_iff_iff, List.all_eq_true, List.all_eq_true]
  constructor
  · intro h b hb
    have := h b.1 ((mem_compNames σ τ _).2 (.inl ⟨b, hb, rfl⟩))
    rwa [image_look, look_mem h1.1 hb] at this
  · intro h v hv
    rcases look_cases (σ := σ) v with ⟨b, hb, rfl, e⟩ | e
    · rw [image_look, e]; exact h b hb
    · have hn := look_isNone (σ := σ).1 (by rw [e]; rfl)
      rcases (mem_compNames σ τ v).1 hv with ⟨b, hb, hbv⟩ | ⟨b, hb, rfl⟩
      · exact absurd hbv (hn b hb)
      · rw [image_look σ, e]
        show fitsP (applyP τ (.mk b.1 true [])) = true
        rw [apply_var, image_look, look_mem h2.1 hb]
        exact ((check_iff _).1 (h2.2 b hb).2).2
theorem comp_size {σ τ : List (List UInt8 × Term)} (hs : subCheck σ = 0) (ht : subCheck τ = 0) (v : List UInt8) (hv : v.length ≤ 24) : (imageP σ v).bulk ≤ 100000 ∧ (imageP σ v).size ≤ 4000 ∧ (applyP τ (imageP σ v)).size ≤ 16000000 := by
  obtain ⟨h1, h2, h3⟩ := sub_ok hs
  obtain ⟨g1, g2, g3⟩ := sub_ok ht
  have hb := image_bulk σ 100000 (fun b hb => (h2 b hb).2.1) v (by omega)
  have hz : (imageP σ v).size ≤ 4000 := by
    rw [image_look]
    rcases look_cases (σ := σ) v with ⟨b, hb, _, e⟩ | e
    · rw [e]; exact (h2 b hb).1
    · rw [e]; show (Term.mk v true []).size ≤ 4000; simp [Term.size_mk]
  have hq := apply_size τ 4000 (by decide) (fun b hb => (g2 b hb).1) (imageP σ v)
  omega
theorem comp_names {σ τ : List (List UInt8 × Term)} (hs : subCheck σ = 0) (ht : subCheck τ = 0) (v : List UInt8) (hv : v ∈ compNames σ τ) : v.length ≤ 24 := by
  rcases (mem_compNames σ τ v).1 hv with ⟨b, hb, rfl⟩ | ⟨b, hb, rfl⟩
  · exact (sub_ok hs).2.2 b hb
  · exact (sub_ok ht).2.2 b hb
theorem composeR_ac (σ τ : List (List UInt8 × Term)) (h1 : σ.length < 1000000000) (h2 : τ.length < 1000000000) (hs : subCheck σ = 0) (ht : subCheck τ = 0) (H : List AObj) :
    ACall Tryd.prog 49 [.sl .none (encL encBd σ), .sl .none (encL encBd τ)] H (fun r H' => r = .tup [.sl .none (encL encBd (if compFit σ τ then compS σ τ else [])), .bool (compFit σ τ)] ∧ H' = H) := by
  refine ACall_VA (H.length) 49 [.tmp 4, .tmp 5] Tryd.func49 rfl rfl rfl ?_
  refine AW_reserve 1 ?_
  refine AW_of_W ?_
  simp only [push_cast, Nat.reduceAdd, Nat.reduceSub, Nat.reduceMul, Nat.reduceLT, Nat.reduceLeDiff, Nat.reduceEqDiff, Int.reduceToNat, ↓reduceIte]
  refine app_L encBd (sz := 4) (fun _ => rfl) cellBd _ H.length [] σ _ rfl rfl (by exact aget0 _ _ _) sl52 sz57 by57 zr57 rfl (by decide) (by decide) (by simp; omega) ?_
  simp only [push_cast, Nat.reduceAdd, Nat.reduceSub, Nat.reduceMul, Nat.reduceLT, Nat.reduceLeDiff, Nat.reduceEqDiff, Int.reduceToNat, ↓reduceIte, List.nil_append]
  refine app_L encBd (sz := 4) (fun _ => rfl) cellBd _ H.length σ τ _ rfl rfl (by exact aget0 _ _ _) sl52 sz57 by57 zr57 rfl (by decide) (by decide) (by omega) ?_
  obtain ⟨tk, htk⟩ := gSl_sl H.length (encL encBd (σ ++ τ))
  rw [htk]
  obtain ⟨L, hL⟩ : ∃ L, L = σ ++ τ := ⟨_, rfl⟩
  have hLl : L.length = σ.length + τ.length := by rw [hL, List.length_append]
  have hCN : compNames σ τ = sortedP (L.map (·.1)) := by rw [hL]; rfl
  have hnm : ∀ b, b ∈ L → b.1.length ≤ 24 := by
    intro b hb
    rw [hL, List.mem_append] at hb
    rcases hb with hb | hb
    · exact (sub_ok hs).2.2 b hb
    · exact (sub_ok ht).2.2 b hb
  rw [← hL]
  simp only [push_cast, Nat.reduceAdd, Nat.reduceSub, Nat.reduceMul, Nat.reduceLT, Nat.reduceLeDiff, Nat.reduceEqDiff, Int.reduceToNat, ↓reduceIte]
  refine AW_reserve 1 ?_
  refine AW_loopW (maskG 51 [0, 0, 4, 10, 0, 0]) (fun (i : Nat) => [(6, .sl .none (encN (sortedP ((L.map (·.1)).take i)))), (17, .sl .none (encL encBd L)), (19, .int .i64 i)]) (fun i => H ++ [gTok 57 4 (encL encBd L), .dead]) (fun i => i ≤ L.length) (fun i => L.length - i) 0 (Nat.zero_le _) (by simp only [push_cast, Nat.reduceAdd, Nat.reduceSub, Nat.reduceMul, Nat.reduceLT, Nat.reduceLeDiff, Nat.reduceEqDiff, Int.reduceToNat, ↓reduceIte, List.take_zero, sortedP_nil]) (fun i hi => ?_)
  simp only [push_cast, Nat.reduceAdd, Nat.reduceSub, Nat.reduceMul, Nat.reduceLT, Nat.reduceLeDiff, Nat.reduceEqDiff, Int.reduceToNat, ↓reduceIte]
  refine cI (fun h => ?_) (fun h => ?_)
  · have hil : i < L.length := by omega
    repeat refine ⟨by omega, ?_⟩
    have hln := sortedP_len ((L.map (·.1)).take i)
    rw [List.length_take, List.length_map] at hln
    have hst := sortedP_take (L.map (·.1)) i (by simpa using hil)
    simp only [List.getElem_map] at hst
    refine (insert_ac (sortedP ((L.map (·.1)).take i)) (L[i]'hil).1 (by omega) (fun x hx => ?_) (by have := hnm _ (List.getElem_mem hil); omega) _).to ?_
    · obtain ⟨b, hb, rfl⟩ := List.mem_map.1 (List.mem_of_mem_take ((mem_sortedP _ _).1 hx))
      have := hnm b hb; omega
    simp only [push_cast, Nat.reduceAdd, Nat.reduceSub, Nat.reduceMul, Nat.reduceLT, Nat.reduceLeDiff, Nat.reduceEqDiff, Int.reduceToNat, ↓reduceIte]
    repeat' first | refine ⟨by omega, ?_⟩ | refine cI (fun _ => ?_) (fun _ => ?_)
    refine loopW_n (i + 1) (by omega) (by omega) ?_
    rw [hst]
    simp only [push_cast, Nat.reduceAdd, Nat.reduceSub, Nat.reduceMul, Nat.reduceLT, Nat.reduceLeDiff, Nat.reduceEqDiff, Int.reduceToNat, ↓reduceIte]
  · rw [List.take_of_length_le (show (L.map (·.1)).length ≤ i by simp; omega), ← hCN]
    obtain ⟨N, hN⟩ : ∃ N, N = compNames σ τ := ⟨_, rfl⟩
    have hNl : N.length ≤ L.length := by rw [hN, hCN]; have := sortedP_len (L.map (·.1)); simpa using this
    rw [← hN]
    refine AW_loopW (maskG 51 [0, 0, 7, 18, 0, 0]) (fun (i : Nat) => [(9, gSl (H.length + 1) (encL encBd (outL σ τ (N.take i)))), (30, .int .i64 i)]) (fun i => H ++ [gTok 57 4 (encL encBd L), gTok 57 4 (encL encBd (outL σ τ (N.take i)))]) (fun i => i ≤ N.length ∧ (N.take i).all (fun v => fitsP (applyP τ (imageP σ v))) = true) (fun i => N.length - i) 0 ⟨Nat.zero_le _, by simp⟩ (by simp only [push_cast, Nat.reduceAdd, Nat.reduceSub, Nat.reduceMul, Nat.reduceLT, Nat.reduceLeDiff, Nat.reduceEqDiff, Int.reduceToNat, ↓reduceIte, List.take_zero, outL_nil]) (fun j hj => ?_)
    simp only [push_cast, Nat.reduceAdd, Nat.reduceSub, Nat.reduceMul, Nat.reduceLT, Nat.reduceLeDiff, Nat.reduceEqDiff, Int.reduceToNat, ↓reduceIte]
    refine cI (fun h2 => ?_) (fun h2 => ?_)
    · have hjl : j < N.length := by omega
      repeat refine ⟨by omega, ?_⟩
      obtain ⟨v, hv⟩ : ∃ v, v = N[j]'hjl := ⟨_, rfl⟩
      have hvm : v ∈ compNames σ τ := by rw [hv, ← hN]; exact List.getElem_mem hjl
      have hvl := comp_names hs ht v hvm
      obtain ⟨hz1, hz2, hz3⟩ := comp_size hs ht v hvl
      have hol := outL_len σ τ (N.take j)
      rw [List.length_take] at hol
      have hot := outL_take σ τ N j hjl
      rw [← hv] at hot ⊢
      refine (imageR_ac σ v (by omega) _).to ?_
      simp only [push_cast, Nat.reduceAdd, Nat.reduceSub, Nat.reduceMul, Nat.reduceLT, Nat.reduceLeDiff, Nat.reduceEqDiff, Int.reduceToNat, ↓reduceIte]
      refine (fitsR1_ac τ (by omega) (fun b hb => by have := ((sub_ok ht).2.1 b hb).2.1; omega) (imageP σ v) (by omega) (by omega) _).to ?_
      cases hf : fitsP (applyP τ (imageP σ v)) with
      | true =>
        simp only [push_cast, Nat.reduceAdd, Nat.reduceSub, Nat.reduceMul, Nat.reduceLT, Nat.reduceLeDiff, Nat.reduceEqDiff, Int.reduceToNat, ↓reduceIte]
        refine (applyR_ac τ (by omega) (imageP σ v) (by omega) _).to ?_
        simp only [push_cast, Nat.reduceAdd, Nat.reduceSub, Nat.reduceMul, Nat.reduceLT, Nat.reduceLeDiff, Nat.reduceEqDiff, Int.reduceToNat, ↓reduceIte]
        refine app1_L encBd (sz := 4) (fun _ => rfl) cellBd _ (H.length + 1) (outL σ τ (N.take j)) (v, applyP τ (imageP σ v)) _ rfl rfl (by exact (agetN _ _ 1).trans rfl) sl52 sz57 by57 zr57 rfl (by decide) (by decide) (by omega) ?_
        rw [← hot]
        simp only [push_cast, Nat.reduceAdd, Nat.reduceSub, Nat.reduceMul, Nat.reduceLT, Nat.reduceLeDiff, Nat.reduceEqDiff, Int.reduceToNat, ↓reduceIte]
        repeat' first | refine ⟨by omega, ?_⟩ | refine cI (fun _ => ?_) (fun _ => ?_)
        exact loopW_n (j + 1) ⟨by omega, all_take_true hj.2 hjl (by rw [← hv]; exact hf)⟩ (by omega) (by simp only [push_cast, Nat.reduceAdd, Nat.reduceSub, Nat.reduceMul, Nat.reduceLT, Nat.reduceLeDiff, Nat.reduceEqDiff, Int.reduceToNat, ↓reduceIte])
      | false =>
        have e : compFit σ τ = false := by unfold compFit; rw [← hN]; exact all_get hjl (by rw [← hv]; exact hf)
        simp only [push_cast, Nat.reduceAdd, Nat.reduceSub, Nat.reduceMul, Nat.reduceLT, Nat.reduceLeDiff, Nat.reduceEqDiff, Int.reduceToNat, ↓reduceIte, e, encL_nil, Bool.false_eq_true, if_false]
    · rw [List.take_of_length_le (show N.length ≤ j by omega)] at hj ⊢
      have e : compFit σ τ = true := by unfold compFit; rw [← hN]; exact hj.2
      have e2 : outL σ τ N = compS σ τ := by rw [hN]; rfl
      rw [e2]
      simp only [push_cast, Nat.reduceAdd, Nat.reduceSub, Nat.reduceMul, Nat.reduceLT, Nat.reduceLeDiff, Nat.reduceEqDiff, Int.reduceToNat, ↓reduceIte, e]
end Ab
set_option maxRecDepth 10000
namespace Ab
open Go Go.Proofs
theorem isP_bad (w : Term) (e : Int) (h : e ≠ 0) : isP zeroT e w e = true := by simp [isP, h]
theorem isP_ok (w : Term) : isP w 0 w 0 = true := by simp [isP]
end Ab
set_option maxRecDepth 10000
namespace Ab
open Go Go.Proofs
theorem comp_bulk {σ τ : List (List UInt8 × Term)} (hs : subCheck σ = 0) (ht : subCheck τ = 0) (v : List UInt8) (hv : v.length ≤ 24) : (applyP τ (imageP σ v)).bulk ≤ 100000 * 100001 := by
  obtain ⟨h1, h2, h3⟩ := comp_size hs ht v hv
  obtain ⟨g1, g2, g3⟩ := sub_ok ht
  have h4 := apply_bulk τ 100000 (fun b hb => (g2 b hb).2.1) (imageP σ v)
  exact Nat.le_trans h4 (Nat.mul_le_mul_right _ h1)
theorem isP_badZ {z : Term} (hz : z = .mk [] false []) (w : Term) (e : Int) (h : e ≠ 0) : isP z e w e = true := by rw [hz]; exact isP_bad w e h
theorem zT_bulk : (Term.mk [] false []).bulk ≤ 1099511627775 := by simp [Term.bulk_mk]
theorem substs1_ac (hit : ∀ i H, i < 100 → ACall Tryd.prog 92 [.int .i64 (i : Nat)] H (fun r H' => r = .str (Lib.decDigits i) ∧ H' = H)) (σ τ : List (List UInt8 × Term)) (t : Term) (h1 : σ.length ≤ 1048576) (h2 : τ.length ≤ 1048576) (hn1 : ∀ b, b ∈ σ → b.1.length < 1099511627776 ∧ b.2.bulk ≤ 1099511627775) (hn2 : ∀ b, b ∈ τ → b.1.length < 1099511627776 ∧ b.2.bulk ≤ 1099511627775) (hb : t.bulk ≤ 1048576)
    (hs : subCheck σ = 0) (hc : checkP t = 0 ∧ fitsP (applyP σ t) = true) (H : List AObj) :
    ACall Tryd.prog 8 [.sl .none (encL encBd σ), .sl .none (encL encBd τ), encT t] H (fun r H' => r = .bool true ∧ H' = H) := by
  obtain ⟨z, hz0⟩ : ∃ z, z = Term.mk [] false [] := ⟨_, rfl⟩
  have hzb : z.bulk ≤ 1099511627775 := by rw [hz0]; exact zT_bulk
  have hae : applyE σ t = (applyP σ t, 0) := by simp [applyE, instE, hs, hc]
  have hcs : ∀ b, b ∈ compS σ τ → subCheck τ = 0 → b.2.bulk ≤ 1099511627775 := by
    intro b hbm ht
    obtain ⟨v, hv, rfl⟩ := List.mem_map.1 hbm
    have h5 := comp_bulk hs ht v (comp_names hs ht v hv)
    show (applyP τ (imageP σ v)).bulk ≤ _
    omega
  have hcl : (compS σ τ).length < 1099511627776 := by
    have h5 := sortedP_len ((σ ++ τ).map (·.1))
    rw [List.length_map, List.length_append] at h5
    unfold compS compNames
    rw [List.length_map]; omega
  refine ACall_V (H.length) 103 [.tmp 6] Tryd.func8 rfl rfl rfl ?_
  simp only [push_cast, Nat.reduceAdd, Nat.reduceSub, Nat.reduceMul, Nat.reduceLT, Nat.reduceLeDiff, Nat.reduceEqDiff, Int.reduceToNat, ↓reduceIte]
  refine (subCheckR_ac σ (by omega) hn1 _).to ?_
  simp only [push_cast, Nat.reduceAdd, Nat.reduceSub, Nat.reduceMul, Nat.reduceLT, Nat.reduceLeDiff, Nat.reduceEqDiff, Int.reduceToNat, ↓reduceIte]
  refine (subCheckT_ac σ (by omega) hn1 _).to ?_
  simp only [push_cast, Nat.reduceAdd, Nat.reduceSub, Nat.reduceMul, Nat.reduceLT, Nat.reduceLeDiff, Nat.reduceEqDiff, Int.reduceToNat, ↓reduceIte, decide_true, Bool.not_true]
  refine (applyT_ac σ (by omega) hn1 t (by omega) _).to ?_
  simp only [push_cast, Nat.reduceAdd, Nat.reduceSub, Nat.reduceMul, Nat.reduceLT, Nat.reduceLeDiff, Nat.reduceEqDiff, Int.reduceToNat, ↓reduceIte, hae]
  refine (compose_ac σ τ (by omega) (by omega) hn1 hn2 _).to ?_
  simp only [push_cast, Nat.reduceAdd, Nat.reduceSub, Nat.reduceMul, Nat.reduceLT, Nat.reduceLeDiff, Nat.reduceEqDiff, Int.reduceToNat, ↓reduceIte, hs, decide_true, encSE]
  refine (checkR_ac t (by omega) _).to ?_
  simp only [push_cast, Nat.reduceAdd, Nat.reduceSub, Nat.reduceMul, Nat.reduceLT, Nat.reduceLeDiff, Nat.reduceEqDiff, Int.reduceToNat, ↓reduceIte]
  refine (subCheckR_ac τ (by omega) hn2 _).to ?_
  simp only [push_cast, Nat.reduceAdd, Nat.reduceSub, Nat.reduceMul, Nat.reduceLT, Nat.reduceLeDiff, Nat.reduceEqDiff, Int.reduceToNat, ↓reduceIte, hc.1, decide_true]
  have hz := inst_size hs hc.1
  refine (fitsR1_ac σ (by omega) (fun b hbm => (hn1 b hbm).2) t (by omega) (by omega) _).to ?_
  simp only [push_cast, Nat.reduceAdd, Nat.reduceSub, Nat.reduceMul, Nat.reduceLT, Nat.reduceLeDiff, Nat.reduceEqDiff, Int.reduceToNat, ↓reduceIte, hc.2]
  apply AW_drawE [some 58, some 59, some 60, some 61, some 62, some 63, some 64] [([], _)] [none, none, none, none, none, none, none] 0 [(0, [], [8]), (1, [], [9]), (2, [], [0]), (3, [], [5]), (4, [], [60, 0]), (5, [], [58, 0, 2]), (6, [], [63])] [_, _, _, _, _, _, _]
  case' hm => exact dr
  case' hn => rfl
  case' hok => rfl
  case' hlen => rfl
  case' hd => rfl
  case' h0 => rfl
  case' hstep =>
   simp only [DAllG, push_cast, Option.isSome_some, Option.isSome_none]
   repeat' apply And.intro
   all_goals (apply DOne_V; simp only [push_cast, Nat.reduceAdd, Nat.reduceSub, Nat.reduceMul, Nat.reduceLT, Nat.reduceLeDiff, Nat.reduceEqDiff, Int.reduceToNat, ↓reduceIte, isP_ok] <;> first | exact rfl | omega | exact ⟨rfl, rfl⟩ | exact trivial | exact ⟨by omega, rfl⟩ | exact ⟨by omega, by omega, rfl⟩ | exact ⟨by omega, rfl, rfl⟩ | exact ⟨by omega, by omega, rfl, rfl⟩ | exact (applyR_ac σ (by omega) t (by omega) _).to ⟨rfl, rfl⟩ | exact (is_ac (applyP σ t) 0 (applyP σ t) 0 (by omega) (by omega) _).to ⟨rfl, rfl⟩)
  case' hQ => skip
  simp only [push_cast, Nat.reduceAdd, Nat.reduceSub, Nat.reduceMul, Nat.reduceLT, Nat.reduceLeDiff, Nat.reduceEqDiff, Int.reduceToNat, ↓reduceIte, isP_ok]
  · refine cI (fun ht => ?_) (fun ht => ?_)
    · refine (composeR_ac σ τ (by omega) (by omega) hs ht _).to ?_
      have hcf := compFit_eq hs ht
      cases hf : compFit σ τ with
      | true =>
        rw [hf] at hcf
        have e : compE σ τ = (compS σ τ, 0) := by simp [compE, hs, ht, ← hcf]
        simp only [push_cast, Nat.reduceAdd, Nat.reduceSub, Nat.reduceMul, Nat.reduceLT, Nat.reduceLeDiff, Nat.reduceEqDiff, Int.reduceToNat, ↓reduceIte, e, encSE, if_true, Bool.not_true, decide_true]
        refine (sameSubst_ac _ _ hcl hcl (fun b hbm => hcs b hbm ht) (fun b hbm => hcs b hbm ht) _).to ?_
        simp only [push_cast, Nat.reduceAdd, Nat.reduceSub, Nat.reduceMul, Nat.reduceLT, Nat.reduceLeDiff, Nat.reduceEqDiff, Int.reduceToNat, ↓reduceIte, decide_true]
        refine (alive_ac hit _).to ?_
        simp only [push_cast, Nat.reduceAdd, Nat.reduceSub, Nat.reduceMul, Nat.reduceLT, Nat.reduceLeDiff, Nat.reduceEqDiff, Int.reduceToNat, ↓reduceIte]
      | false =>
        rw [hf] at hcf
        have e : compE σ τ = ([], 3) := by simp [compE, hs, ht, ← hcf]
        simp only [push_cast, Nat.reduceAdd, Nat.reduceSub, Nat.reduceMul, Nat.reduceLT, Nat.reduceLeDiff, Nat.reduceEqDiff, Int.reduceToNat, ↓reduceIte, e, encSE, encL_nil, Bool.not_false, decide_true]
        refine (alive_ac hit _).to ?_
        simp only [push_cast, Nat.reduceAdd, Nat.reduceSub, Nat.reduceMul, Nat.reduceLT, Nat.reduceLeDiff, Nat.reduceEqDiff, Int.reduceToNat, ↓reduceIte]
    · have e : compE σ τ = ([], subCheck τ) := by simp [compE, hs, ht]
      simp only [push_cast, Nat.reduceAdd, Nat.reduceSub, Nat.reduceMul, Nat.reduceLT, Nat.reduceLeDiff, Nat.reduceEqDiff, Int.reduceToNat, ↓reduceIte, e, encSE, encL_nil, decide_true]
      refine (alive_ac hit _).to ?_
      simp only [push_cast, Nat.reduceAdd, Nat.reduceSub, Nat.reduceMul, Nat.reduceLT, Nat.reduceLeDiff, Nat.reduceEqDiff, Int.reduceToNat, ↓reduceIte]
theorem substs2_ac (hit : ∀ i H, i < 100 → ACall Tryd.prog 92 [.int .i64 (i : Nat)] H (fun r H' => r = .str (Lib.decDigits i) ∧ H' = H)) (σ τ : List (List UInt8 × Term)) (t : Term) (h1 : σ.length ≤ 1048576) (h2 : τ.length ≤ 1048576) (hn1 : ∀ b, b ∈ σ → b.1.length < 1099511627776 ∧ b.2.bulk ≤ 1099511627775) (hn2 : ∀ b, b ∈ τ → b.1.length < 1099511627776 ∧ b.2.bulk ≤ 1099511627775) (hb : t.bulk ≤ 1048576)
    (hs : subCheck σ = 0) (hc : checkP t = 0 ∧ fitsP (applyP σ t) = false) (H : List AObj) :
    ACall Tryd.prog 8 [.sl .none (encL encBd σ), .sl .none (encL encBd τ), encT t] H (fun r H' => r = .bool true ∧ H' = H) := by
  obtain ⟨z, hz0⟩ : ∃ z, z = Term.mk [] false [] := ⟨_, rfl⟩
  have hzb : z.bulk ≤ 1099511627775 := by rw [hz0]; exact zT_bulk
  have hae : applyE σ t = (z, 3) := by simp [applyE, instE, hs, hc, hz0]
  have hcs : ∀ b, b ∈ compS σ τ → subCheck τ = 0 → b.2.bulk ≤ 1099511627775 := by
    intro b hbm ht
    obtain ⟨v, hv, rfl⟩ := List.mem_map.1 hbm
    have h5 := comp_bulk hs ht v (comp_names hs ht v hv)
    show (applyP τ (imageP σ v)).bulk ≤ _
    omega
  have hcl : (compS σ τ).length < 1099511627776 := by
    have h5 := sortedP_len ((σ ++ τ).map (·.1))
    rw [List.length_map, List.length_append] at h5
    unfold compS compNames
    rw [List.length_map]; omega
  refine ACall_V (H.length) 103 [.tmp 6] Tryd.func8 rfl rfl rfl ?_
  simp only [push_cast, Nat.reduceAdd, Nat.reduceSub, Nat.reduceMul, Nat.reduceLT, Nat.reduceLeDiff, Nat.reduceEqDiff, Int.reduceToNat, ↓reduceIte]
  refine (subCheckR_ac σ (by omega) hn1 _).to ?_
  simp only [push_cast, Nat.reduceAdd, Nat.reduceSub, Nat.reduceMul, Nat.reduceLT, Nat.reduceLeDiff, Nat.reduceEqDiff, Int.reduceToNat, ↓reduceIte]
  refine (subCheckT_ac σ (by omega) hn1 _).to ?_
  simp only [push_cast, Nat.reduceAdd, Nat.reduceSub, Nat.reduceMul, Nat.reduceLT, Nat.reduceLeDiff, Nat.reduceEqDiff, Int.reduceToNat, ↓reduceIte, decide_true, Bool.not_true]
  refine (applyT_ac σ (by omega) hn1 t (by omega) _).to ?_
  simp only [push_cast, Nat.reduceAdd, Nat.reduceSub, Nat.reduceMul, Nat.reduceLT, Nat.reduceLeDiff, Nat.reduceEqDiff, Int.reduceToNat, ↓reduceIte, hae]
  refine (compose_ac σ τ (by omega) (by omega) hn1 hn2 _).to ?_
  simp only [push_cast, Nat.reduceAdd, Nat.reduceSub, Nat.reduceMul, Nat.reduceLT, Nat.reduceLeDiff, Nat.reduceEqDiff, Int.reduceToNat, ↓reduceIte, hs, decide_true, encSE]
  refine (checkR_ac t (by omega) _).to ?_
  simp only [push_cast, Nat.reduceAdd, Nat.reduceSub, Nat.reduceMul, Nat.reduceLT, Nat.reduceLeDiff, Nat.reduceEqDiff, Int.reduceToNat, ↓reduceIte]
  refine (subCheckR_ac τ (by omega) hn2 _).to ?_
  simp only [push_cast, Nat.reduceAdd, Nat.reduceSub, Nat.reduceMul, Nat.reduceLT, Nat.reduceLeDiff, Nat.reduceEqDiff, Int.reduceToNat, ↓reduceIte, hc.1, decide_true]
  have hz := inst_size hs hc.1
  refine (fitsR1_ac σ (by omega) (fun b hbm => (hn1 b hbm).2) t (by omega) (by omega) _).to ?_
  simp only [push_cast, Nat.reduceAdd, Nat.reduceSub, Nat.reduceMul, Nat.reduceLT, Nat.reduceLeDiff, Nat.reduceEqDiff, Int.reduceToNat, ↓reduceIte, hc.2, Bool.not_false]
  refine cI (fun h => absurd h (by decide)) (fun _ => (is_ac z 3 t 3 hzb (by omega) _).to ?_)
  simp only [push_cast, Nat.reduceAdd, Nat.reduceSub, Nat.reduceMul, Nat.reduceLT, Nat.reduceLeDiff, Nat.reduceEqDiff, Int.reduceToNat, ↓reduceIte, isP_badZ hz0 t 3 (by decide)]
  · refine cI (fun ht => ?_) (fun ht => ?_)
    · refine (composeR_ac σ τ (by omega) (by omega) hs ht _).to ?_
      have hcf := compFit_eq hs ht
      cases hf : compFit σ τ with
      | true =>
        rw [hf] at hcf
        have e : compE σ τ = (compS σ τ, 0) := by simp [compE, hs, ht, ← hcf]
        simp only [push_cast, Nat.reduceAdd, Nat.reduceSub, Nat.reduceMul, Nat.reduceLT, Nat.reduceLeDiff, Nat.reduceEqDiff, Int.reduceToNat, ↓reduceIte, e, encSE, if_true, Bool.not_true, decide_true]
        refine (sameSubst_ac _ _ hcl hcl (fun b hbm => hcs b hbm ht) (fun b hbm => hcs b hbm ht) _).to ?_
        simp only [push_cast, Nat.reduceAdd, Nat.reduceSub, Nat.reduceMul, Nat.reduceLT, Nat.reduceLeDiff, Nat.reduceEqDiff, Int.reduceToNat, ↓reduceIte, decide_true]
        refine (alive_ac hit _).to ?_
        simp only [push_cast, Nat.reduceAdd, Nat.reduceSub, Nat.reduceMul, Nat.reduceLT, Nat.reduceLeDiff, Nat.reduceEqDiff, Int.reduceToNat, ↓reduceIte]
      | false =>
        rw [hf] at hcf
        have e : compE σ τ = ([], 3) := by simp [compE, hs, ht, ← hcf]
        simp only [push_cast, Nat.reduceAdd, Nat.reduceSub, Nat.reduceMul, Nat.reduceLT, Nat.reduceLeDiff, Nat.reduceEqDiff, Int.reduceToNat, ↓reduceIte, e, encSE, encL_nil, Bool.not_false, decide_true]
        refine (alive_ac hit _).to ?_
        simp only [push_cast, Nat.reduceAdd, Nat.reduceSub, Nat.reduceMul, Nat.reduceLT, Nat.reduceLeDiff, Nat.reduceEqDiff, Int.reduceToNat, ↓reduceIte]
    · have e : compE σ τ = ([], subCheck τ) := by simp [compE, hs, ht]
      simp only [push_cast, Nat.reduceAdd, Nat.reduceSub, Nat.reduceMul, Nat.reduceLT, Nat.reduceLeDiff, Nat.reduceEqDiff, Int.reduceToNat, ↓reduceIte, e, encSE, encL_nil, decide_true]
      refine (alive_ac hit _).to ?_
      simp only [push_cast, Nat.reduceAdd, Nat.reduceSub, Nat.reduceMul, Nat.reduceLT, Nat.reduceLeDiff, Nat.reduceEqDiff, Int.reduceToNat, ↓reduceIte]
theorem substs3_ac (hit : ∀ i H, i < 100 → ACall Tryd.prog 92 [.int .i64 (i : Nat)] H (fun r H' => r = .str (Lib.decDigits i) ∧ H' = H)) (σ τ : List (List UInt8 × Term)) (t : Term) (h1 : σ.length ≤ 1048576) (h2 : τ.length ≤ 1048576) (hn1 : ∀ b, b ∈ σ → b.1.length < 1099511627776 ∧ b.2.bulk ≤ 1099511627775) (hn2 : ∀ b, b ∈ τ → b.1.length < 1099511627776 ∧ b.2.bulk ≤ 1099511627775) (hb : t.bulk ≤ 1048576)
    (hs : subCheck σ = 0) (hc : ¬ checkP t = 0) (H : List AObj) :
    ACall Tryd.prog 8 [.sl .none (encL encBd σ), .sl .none (encL encBd τ), encT t] H (fun r H' => r = .bool true ∧ H' = H) := by
  obtain ⟨z, hz0⟩ : ∃ z, z = Term.mk [] false [] := ⟨_, rfl⟩
  have hzb : z.bulk ≤ 1099511627775 := by rw [hz0]; exact zT_bulk
  have hae : applyE σ t = (z, checkP t) := by simp [applyE, hs, hc, hz0]
  have hcs : ∀ b, b ∈ compS σ τ → subCheck τ = 0 → b.2.bulk ≤ 1099511627775 := by
    intro b hbm ht
    obtain ⟨v, hv, rfl⟩ := List.mem_map.1 hbm
    have h5 := comp_bulk hs ht v (comp_names hs ht v hv)
    show (applyP τ (imageP σ v)).bulk ≤ _
    omega
  have hcl : (compS σ τ).length < 1099511627776 := by
    have h5 := sortedP_len ((σ ++ τ).map (·.1))
    rw [List.length_map, List.length_append] at h5
    unfold compS compNames
    rw [List.length_map]; omega
  refine ACall_V (H.length) 103 [.tmp 6] Tryd.func8 rfl rfl rfl ?_
  simp only [push_cast, Nat.reduceAdd, Nat.reduceSub, Nat.reduceMul, Nat.reduceLT, Nat.reduceLeDiff, Nat.reduceEqDiff, Int.reduceToNat, ↓reduceIte]
  refine (subCheckR_ac σ (by omega) hn1 _).to ?_
  simp only [push_cast, Nat.reduceAdd, Nat.reduceSub, Nat.reduceMul, Nat.reduceLT, Nat.reduceLeDiff, Nat.reduceEqDiff, Int.reduceToNat, ↓reduceIte]
  refine (subCheckT_ac σ (by omega) hn1 _).to ?_
  simp only [push_cast, Nat.reduceAdd, Nat.reduceSub, Nat.reduceMul, Nat.reduceLT, Nat.reduceLeDiff, Nat.reduceEqDiff, Int.reduceToNat, ↓reduceIte, decide_true, Bool.not_true]
  refine (applyT_ac σ (by omega) hn1 t (by omega) _).to ?_
  simp only [push_cast, Nat.reduceAdd, Nat.reduceSub, Nat.reduceMul, Nat.reduceLT, Nat.reduceLeDiff, Nat.reduceEqDiff, Int.reduceToNat, ↓reduceIte, hae]
  refine (compose_ac σ τ (by omega) (by omega) hn1 hn2 _).to ?_
  simp only [push_cast, Nat.reduceAdd, Nat.reduceSub, Nat.reduceMul, Nat.reduceLT, Nat.reduceLeDiff, Nat.reduceEqDiff, Int.reduceToNat, ↓reduceIte, hs, decide_true, encSE]
  refine (checkR_ac t (by omega) _).to ?_
  simp only [push_cast, Nat.reduceAdd, Nat.reduceSub, Nat.reduceMul, Nat.reduceLT, Nat.reduceLeDiff, Nat.reduceEqDiff, Int.reduceToNat, ↓reduceIte]
  refine (subCheckR_ac τ (by omega) hn2 _).to ?_
  simp only [push_cast, Nat.reduceAdd, Nat.reduceSub, Nat.reduceMul, Nat.reduceLT, Nat.reduceLeDiff, Nat.reduceEqDiff, Int.reduceToNat, ↓reduceIte]
  refine cI (fun h => absurd h hc) (fun _ => ?_)
  refine cI (fun h => absurd h hc) (fun _ => ?_)
  refine (is_ac z (checkP t) t (checkP t) hzb (by omega) _).to ?_
  simp only [push_cast, Nat.reduceAdd, Nat.reduceSub, Nat.reduceMul, Nat.reduceLT, Nat.reduceLeDiff, Nat.reduceEqDiff, Int.reduceToNat, ↓reduceIte, isP_badZ hz0 t (checkP t) hc]
  skip
  · refine cI (fun ht => ?_) (fun ht => ?_)
    · refine (composeR_ac σ τ (by omega) (by omega) hs ht _).to ?_
      have hcf := compFit_eq hs ht
      cases hf : compFit σ τ with
      | true =>
        rw [hf] at hcf
        have e : compE σ τ = (compS σ τ, 0) := by simp [compE, hs, ht, ← hcf]
        simp only [push_cast, Nat.reduceAdd, Nat.reduceSub, Nat.reduceMul, Nat.reduceLT, Nat.reduceLeDiff, Nat.reduceEqDiff, Int.reduceToNat, ↓reduceIte, e, encSE, if_true, Bool.not_true, decide_true]
        refine (sameSubst_ac _ _ hcl hcl (fun b hbm => hcs b hbm ht) (fun b hbm => hcs b hbm ht) _).to ?_
        simp only [push_cast, Nat.reduceAdd, Nat.reduceSub, Nat.reduceMul, Nat.reduceLT, Nat.reduceLeDiff, Nat.reduceEqDiff, Int.reduceToNat, ↓reduceIte, decide_true]
        refine (alive_ac hit _).to ?_
        simp only [push_cast, Nat.reduceAdd, Nat.reduceSub, Nat.reduceMul, Nat.reduceLT, Nat.reduceLeDiff, Nat.reduceEqDiff, Int.reduceToNat, ↓reduceIte]
      | false =>
        rw [hf] at hcf
        have e : compE σ τ = ([], 3) := by simp [compE, hs, ht, ← hcf]
        simp only [push_cast, Nat.reduceAdd, Nat.reduceSub, Nat.reduceMul, Nat.reduceLT, Nat.reduceLeDiff, Nat.reduceEqDiff, Int.reduceToNat, ↓reduceIte, e, encSE, encL_nil, Bool.not_false, decide_true]
        refine (alive_ac hit _).to ?_
        simp only [push_cast, Nat.reduceAdd, Nat.reduceSub, Nat.reduceMul, Nat.reduceLT, Nat.reduceLeDiff, Nat.reduceEqDiff, Int.reduceToNat, ↓reduceIte]
    · have e : compE σ τ = ([], subCheck τ) := by simp [compE, hs, ht]
      simp only [push_cast, Nat.reduceAdd, Nat.reduceSub, Nat.reduceMul, Nat.reduceLT, Nat.reduceLeDiff, Nat.reduceEqDiff, Int.reduceToNat, ↓reduceIte, e, encSE, encL_nil, decide_true]
      refine (alive_ac hit _).to ?_
      simp only [push_cast, Nat.reduceAdd, Nat.reduceSub, Nat.reduceMul, Nat.reduceLT, Nat.reduceLeDiff, Nat.reduceEqDiff, Int.reduceToNat, ↓reduceIte]
theorem substs4_ac (hit : ∀ i H, i < 100 → ACall Tryd.prog 92 [.int .i64 (i : Nat)] H (fun r H' => r = .str (Lib.decDigits i) ∧ H' = H)) (σ τ : List (List UInt8 × Term)) (t : Term) (h1 : σ.length ≤ 1048576) (h2 : τ.length ≤ 1048576) (hn1 : ∀ b, b ∈ σ → b.1.length < 1099511627776 ∧ b.2.bulk ≤ 1099511627775) (hn2 : ∀ b, b ∈ τ → b.1.length < 1099511627776 ∧ b.2.bulk ≤ 1099511627775) (hb : t.bulk ≤ 1048576)
    (hs : ¬ subCheck σ = 0) (H : List AObj) :
    ACall Tryd.prog 8 [.sl .none (encL encBd σ), .sl .none (encL encBd τ), encT t] H (fun r H' => r = .bool true ∧ H' = H) := by
  obtain ⟨z, hz0⟩ : ∃ z, z = Term.mk [] false [] := ⟨_, rfl⟩
  have hzb : z.bulk ≤ 1099511627775 := by rw [hz0]; exact zT_bulk
  have hae : applyE σ t = (z, subCheck σ) := by simp [applyE, hs, hz0]
  have e : compE σ τ = ([], subCheck σ) := by simp [compE, hs]
  refine ACall_V (H.length) 103 [.tmp 6] Tryd.func8 rfl rfl rfl ?_
  simp only [push_cast, Nat.reduceAdd, Nat.reduceSub, Nat.reduceMul, Nat.reduceLT, Nat.reduceLeDiff, Nat.reduceEqDiff, Int.reduceToNat, ↓reduceIte]
  refine (subCheckR_ac σ (by omega) hn1 _).to ?_
  simp only [push_cast, Nat.reduceAdd, Nat.reduceSub, Nat.reduceMul, Nat.reduceLT, Nat.reduceLeDiff, Nat.reduceEqDiff, Int.reduceToNat, ↓reduceIte]
  refine (subCheckT_ac σ (by omega) hn1 _).to ?_
  simp only [push_cast, Nat.reduceAdd, Nat.reduceSub, Nat.reduceMul, Nat.reduceLT, Nat.reduceLeDiff, Nat.reduceEqDiff, Int.reduceToNat, ↓reduceIte, decide_true, Bool.not_true]
  refine (applyT_ac σ (by omega) hn1 t (by omega) _).to ?_
  simp only [push_cast, Nat.reduceAdd, Nat.reduceSub, Nat.reduceMul, Nat.reduceLT, Nat.reduceLeDiff, Nat.reduceEqDiff, Int.reduceToNat, ↓reduceIte, hae]
  refine (compose_ac σ τ (by omega) (by omega) hn1 hn2 _).to ?_
  simp only [push_cast, Nat.reduceAdd, Nat.reduceSub, Nat.reduceMul, Nat.reduceLT, Nat.reduceLeDiff, Nat.reduceEqDiff, Int.reduceToNat, ↓reduceIte, e, encSE, encL_nil, decide_true]
  refine cI (fun h => absurd h hs) (fun _ => ?_)
  refine cI (fun h => absurd h hs) (fun _ => ?_)
  refine cI (fun h => absurd h hs) (fun _ => ?_)
  refine (is_ac z (subCheck σ) t (subCheck σ) hzb (by omega) _).to ?_
  simp only [push_cast, Nat.reduceAdd, Nat.reduceSub, Nat.reduceMul, Nat.reduceLT, Nat.reduceLeDiff, Nat.reduceEqDiff, Int.reduceToNat, ↓reduceIte, isP_badZ hz0 t (subCheck σ) hs]
  refine cI (fun h => absurd h hs) (fun _ => ?_)
  trace_state
  refine (alive_ac hit _).to ?_
  simp only [push_cast, Nat.reduceAdd, Nat.reduceSub, Nat.reduceMul, Nat.reduceLT, Nat.reduceLeDiff, Nat.reduceEqDiff, Int.reduceToNat, ↓reduceIte]
theorem substitutions_ac (hit : ∀ i H, i < 100 → ACall Tryd.prog 92 [.int .i64 (i : Nat)] H (fun r H' => r = .str (Lib.decDigits i) ∧ H' = H)) (σ τ : List (List UInt8 × Term)) (t : Term) (h1 : σ.length ≤ 1048576) (h2 : τ.length ≤ 1048576) (hn1 : ∀ b, b ∈ σ → b.1.length < 1099511627776 ∧ b.2.bulk ≤ 1099511627775) (hn2 : ∀ b, b ∈ τ → b.1.length < 1099511627776 ∧ b.2.bulk ≤ 1099511627775) (hb : t.bulk ≤ 1048576) (H : List AObj) :
    ACall Tryd.prog 8 [.sl .none (encL encBd σ), .sl .none (encL encBd τ), encT t] H (fun r H' => r = .bool true ∧ H' = H) := by
  by_cases hs : subCheck σ = 0
  · by_cases hc : checkP t = 0
    · cases hf : fitsP (applyP σ t) with
      | true => exact substs1_ac hit σ τ t h1 h2 hn1 hn2 hb hs ⟨hc, hf⟩ H
      | false => exact substs2_ac hit σ τ t h1 h2 hn1 hn2 hb hs ⟨hc, hf⟩ H
    · exact substs3_ac hit σ τ t h1 h2 hn1 hn2 hb hs hc H
  · exact substs4_ac hit σ τ t h1 h2 hn1 hn2 hb hs H
end Ab
set_option maxRecDepth 10000
namespace Go.Proofs.YtakpnikkcinckaaDoor
open Go Ab
namespace nss
theorem own : ownKnob Tryd.prog.godebug = none := by kernel_rfl
theorem laid : laidOutB Tryd.prog = true := by kernel_rfl
theorem readable : ∀ t, t ∈ Tryd.f8.params.toList → Tryd.prog.readableRec t = true ∧ t < Tryd.prog.types.size := by
  rw [Tryd.params8]; intro t ht
  simp only [List.mem_cons, List.not_mem_nil, or_false] at ht
  rcases ht with rfl | rfl | rfl <;> exact ⟨by kernel_rfl, of_decide_eq_true (by kernel_rfl)⟩
theorem closed : closedK Tryd.prog [52, 57, 9, 24, 4, 22] = true := by kernel_rfl
theorem contract (H : Type) (enc : TypeId × Value → H) (W : World) (base : Nat) (args : Array Value) (ds gs : List (DataW H)) (before : List MemPlace)
    (hval : ∀ (j : Nat) t v, Tryd.f8.params[j]? = some t → args[j]? = some v → Value.okWide Tryd.prog W .any base t v)
    (hW : DataW.Whole enc Tryd.prog Tryd.f8.params.toList Rows.termSubstitutionsSpec.vars false W args.toList ds gs before) (hk : Rows.uptoSmall H (ds ++ gs) = true) (hl : laidMetH Tryd.prog Rows.termSubstitutionsUptoRow.laid W) :
    Calls Tryd.prog 8 args W fun e W' => ∃ v, e = .returned v ∧ Rows.termSubstitutionsSpec.post enc Tryd.prog Tryd.f8 false true false false W args v W' := by
  have hW' := hW
  obtain ⟨p, q, hA0, hV, rfl, hfz, hnd⟩ := hW
  have hA : DataW.TrodAll enc Tryd.prog W 0 (fun _ => true) true Tryd.f8.params.toList args.toList ds p := hA0
  rw [Tryd.params8] at hA hval
  obtain ⟨v0, vs0, d0, ds0, p0, q0, hargs, rfl, rfl, h0, r0⟩ := ChangeShapes.trodAll_cons hA
  obtain ⟨v1, vs1, d1, ds1, p1, q1, rfl, rfl, rfl, h1, r1⟩ := ChangeShapes.trodAll_cons r0
  obtain ⟨v2, vs2, d2, ds2, p2, q2, rfl, rfl, rfl, h2, r2⟩ := ChangeShapes.trodAll_cons r1
  obtain ⟨rfl, rfl, rfl⟩ := ChangeShapes.trodAll_nil r2
  obtain rfl : args = #[v0, v1, v2] := by cases args; simp_all
  have hg : gs = [] := by cases gs with | nil => rfl | cons _ _ => exact hV.elim
  subst hg
  have hb : Rows.uptoBulk d0 + Rows.uptoBulk d1 + Rows.uptoBulk d2 ≤ 1048576 := by
    have := of_decide_eq_true hk
    simp only [List.cons_append, List.nil_append, List.append_nil, Rows.uptoBulkAll] at this
    omega
  obtain ⟨n0, a0, e0, x0⟩ := arg_slice closed (by decide) Tryd.underlying52 (hval 0 _ v0 rfl rfl) h0
  obtain ⟨n1, a1, e1, x1⟩ := arg_slice closed (by decide) Tryd.underlying52 (hval 1 _ v1 rfl rfl) h1
  obtain ⟨n2, a2, e2, x2⟩ := arg_struct closed (by decide) Tryd.underlying24 (hval 2 _ v2 rfl rfl) h2
  obtain ⟨σ, f0, b1, c1⟩ := binds_form n0 d0 [a0] e0
  obtain ⟨τ, f1, b2, c2⟩ := binds_form n1 d1 [a1] e1
  obtain ⟨t, f2, b3⟩ := term_form n2 d2 a2 e2
  try simp only [List.cons.injEq, and_true] at f0
  try simp only [List.cons.injEq, and_true] at f1
  rw [f0] at x0; rw [f1] at x1; rw [f2] at x2
  have hc := law_calls (args := #[v0, v1, v2]) (avs := [.sl .none (encL encBd σ), .sl .none (encL encBd τ), encT t]) (W := W) (substitutions_ac (fun i H hi => itoa_ac i H (by omega)) σ τ t (by omega) (by omega) (fun b hb => by have := c1 b hb; omega) (fun b hb => by have := c2 b hb; omega) (by omega) []) (tabW_of hl) rfl (fun i hi hi' => by
    match i, hi with
    | 0, _ => exact x0
    | 1, _ => exact x1
    | 2, _ => exact x2)
  refine hc.mono fun e W' ⟨he, hbl⟩ => ?_
  subst he
  exact ⟨_, rfl, post_law rfl ⟨rfl, rfl, rfl⟩ hW' hbl rfl Tryd.underlying4 laid readable⟩
noncomputable def laidWorld (os : Os) : World := { World.holding Tryd.prog os ⟨#[], #[], []⟩ with heap := ((((World.holding Tryd.prog os ⟨#[], #[], []⟩).heap).modify 2 (fun | .cells _ t fz => .cells #[.int .u8 0, .int .u8 1, .int .u8 28, .int .u8 2, .int .u8 29, .int .u8 14, .int .u8 24, .int .u8 3, .int .u8 30, .int .u8 22, .int .u8 20, .int .u8 15, .int .u8 25, .int .u8 17, .int .u8 4, .int .u8 8, .int .u8 31, .int .u8 27, .int .u8 13, .int .u8 23, .int .u8 21, .int .u8 19, .int .u8 16, .int .u8 7, .int .u8 26, .int .u8 12, .int .u8 18, .int .u8 6, .int .u8 11, .int .u8 5, .int .u8 10, .int .u8 9] t fz | o => o)).modify 3 (fun | .cells _ t fz => .cells #[.int .u8 0, .int .u8 1, .int .u8 56, .int .u8 2, .int .u8 57, .int .u8 49, .int .u8 28, .int .u8 3, .int .u8 61, .int .u8 58, .int .u8 42, .int .u8 50, .int .u8 38, .int .u8 29, .int .u8 17, .int .u8 4, .int .u8 62, .int .u8 47, .int .u8 59, .int .u8 36, .int .u8 45, .int .u8 43, .int .u8 51, .int .u8 22, .int .u8 53, .int .u8 39, .int .u8 33, .int .u8 30, .int .u8 24, .int .u8 18, .int .u8 12, .int .u8 5, .int .u8 63, .int .u8 55, .int .u8 48, .int .u8 27, .int .u8 60, .int .u8 41, .int .u8 37, .int .u8 16, .int .u8 46, .int .u8 35, .int .u8 44, .int .u8 21, .int .u8 52, .int .u8 32, .int .u8 23, .int .u8 11, .int .u8 54, .int .u8 26, .int .u8 40, .int .u8 15, .int .u8 34, .int .u8 20, .int .u8 31, .int .u8 10, .int .u8 25, .int .u8 14, .int .u8 19, .int .u8 9, .int .u8 13, .int .u8 8, .int .u8 7, .int .u8 6] t fz | o => o)).modify 1 (fun | .cells _ t fz => .cells #[.int .u64 1, .int .u64 10, .int .u64 100, .int .u64 1000, .int .u64 10000, .int .u64 100000, .int .u64 1000000, .int .u64 10000000, .int .u64 100000000, .int .u64 1000000000, .int .u64 10000000000, .int .u64 100000000000, .int .u64 1000000000000, .int .u64 10000000000000, .int .u64 100000000000000, .int .u64 1000000000000000, .int .u64 10000000000000000, .int .u64 100000000000000000, .int .u64 1000000000000000000, .int .u64 10000000000000000000] t fz | o => o) }
set_option maxRecDepth 100000 in
theorem laid_met (os : Os) : laidMet Tryd.prog Rows.termSubstitutionsUptoRow.laid ((laidWorld os).forCall (fun _ _ => 0) ⟨#[], #[.slice none 0 0, .slice none 0 0, .agg #[.string ⟨#[]⟩, .bool false, .slice none 0 0]], []⟩).memory :=
  laidMet_of_run' 80 (by kernel_rfl) (by kernel_rfl)
set_option maxRecDepth 100000 in
theorem reads (os : Os) {H : Type} (enc : TypeId × Value → H) : ∃ places, DataW.whole enc Tryd.prog ((laidWorld os).forCall (fun _ _ => 0) ⟨#[], #[.slice none 0 0, .slice none 0 0, .agg #[.string ⟨#[]⟩, .bool false, .slice none 0 0]], []⟩).memory Tryd.f8.params.toList (Rows.OpenSpec.upto Rows.termSubstitutionsSpec).vars false #[.slice none 0 0, .slice none 0 0, .agg #[.string ⟨#[]⟩, .bool false, .slice none 0 0]].toList 8 = some ([.nil, .nil, .agg [.lit (.string []), .lit (.bool false), .nil]], [], places) := ⟨[], by kernel_rfl⟩
set_option maxRecDepth 100000 in
theorem lifted (os : Os) (started : os.Started) (H : Type) (enc : TypeId × Value → H) (F : Stop.Interp) :
    ReturnsInHanded {} Tryd.checked os 8 .any ((Rows.OpenSpec.upto Rows.termSubstitutionsSpec).preRow enc Tryd.prog Tryd.f8 Rows.termSubstitutionsUptoRow.domain false Rows.termSubstitutionsUptoRow.laid) (((Rows.OpenSpec.upto Rows.termSubstitutionsSpec).at F).post enc Tryd.prog Tryd.f8 false true false false) := by
  obtain ⟨places, hx⟩ := reads os enc
  refine returnsInHanded_of_row (C := Tryd.checked) (s := Rows.OpenSpec.upto Rows.termSubstitutionsSpec) own started (by kernel_rfl) Tryd.func8
    (witness_row_at (enc := enc) (C := Tryd.checked) false (laidWorld os) #[.slice none 0 0, .slice none 0 0, .agg #[.string ⟨#[]⟩, .bool false, .slice none 0 0]] rfl (by kernel_rfl) (by kernel_rfl) (by kernel_rfl)
      (OpenSpec.preRow_of_cond 8 hx (by kernel_rfl) (fun k hk => by cases hk; kernel_rfl) (by kernel_rfl) (laid_met os))) ?_
  intro W base args ds gs before hval hW _ hk _ hl _ _
  exact contract H enc W base args ds gs before hval hW (hk _ rfl) hl
theorem over : Rows.TermSubstitutionsUptoSaid :=
  OpenClaim.holds_of_cond 8 Tryd.f8 rfl rfl rfl rfl rfl rfl rfl ⟨rfl, rfl, rfl, rfl, rfl⟩ rfl rfl rfl rfl rfl (by kernel_rfl) Tryd.func8 (by kernel_rfl)
    (of_decide_eq_true (by kernel_rfl)) (by unfold Func.isWrapper; first | (rw [if_pos (by decide +kernel)]; kernel_rfl) | (rw [if_neg (by decide +kernel)]; exact ⟨rfl, rfl⟩))
    (fun os started H enc _ F => by rw [OpenClaim.pre_eq_preRow]; exact lifted os started H enc F)
theorem plain (f : FuncId) (fn : Func) (hf : Tryd.pinned.checked.prog.funcNamed "dwindle/dwindlelaw01.TermSubstitutions" = some f) (hfn : Tryd.pinned.checked.prog.funcs[f]? = some fn) :
    false = Tryd.pinned.checked.prog.looks [] ∧ ∀ (j : Nat) t, fn.params[j]? = some t → Tryd.pinned.checked.prog.wantsStandIn t = false := by
  obtain rfl : f = 8 := Option.some.inj ((show Tryd.prog.funcNamed "dwindle/dwindlelaw01.TermSubstitutions" = some 8 by kernel_rfl).symm.trans hf) |>.symm
  obtain rfl : fn = Tryd.f8 := (Option.some.inj (Tryd.func8.symm.trans hfn)).symm
  refine ⟨by kernel_rfl, fun j t ht => ?_⟩
  rw [Tryd.params8] at ht
  have hm := Array.mem_of_getElem? ht
  simp only [List.mem_toArray, List.mem_cons, List.not_mem_nil, or_false] at hm
  rcases hm with rfl | rfl | rfl
  · exact (show Tryd.prog.wantsStandIn 52 = false by kernel_rfl)
  · exact (show Tryd.prog.wantsStandIn 52 = false by kernel_rfl)
  · exact (show Tryd.prog.wantsStandIn 24 = false by kernel_rfl)
end nss
theorem termSubstitutions_card : Rows.TermSubstitutionsUptoCardSaid :=
  Claim7.holds_tied_plain_at .later [] _ _ _ _ nss.over (fun _ h => by cases h) (by kernel_rfl) (fun _ h => by cases h) termSubstitutionsUpto_row_tie rfl ⟨rfl, rfl⟩ (by kernel_rfl) rfl nss.plain (by kernel_rfl)
end Go.Proofs.YtakpnikkcinckaaDoor
