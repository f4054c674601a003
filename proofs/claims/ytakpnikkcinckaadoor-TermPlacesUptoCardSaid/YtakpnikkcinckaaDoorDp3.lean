/- Part 3 of 3 of a proof. The law TermPlaces holds: Positions, At and Put of the package term answer as the reference says, or with its error, on every term, place and subterm within the row's bound; the proof has no further premise. -/
import Derived.Test.YtakpnikkcinckaaDoorDp2
import Derived.Shelf.Strconv.Itoa3
import Derived.Shelf.LaysM
import Derived.Shelf.Sort.Plain
import Derived.Test.YtakpnikkcinckaaDoorProg
import Derived.Lib.LaidTab
import Derived.MakeChecks
import Derived.Stop.LaidErr
import Derived.Test.YtakpnikkcinckaaDoorRows
import Derived.KernelRfl
import Derived.Lib.ItoaNum
import Derived.Test.YtakpnikkcinckaaDoorCards
import Derived.Test.YtakpnikkcinckaaDoorTie
import Derived.Deep.DeepHandedRow
set_option linter.unusedVariables false
set_option linter.unusedSimpArgs false
set_option maxRecDepth 10000
namespace Ab
open Go Go.Proofs
theorem clone_ac (p : List Int) (hb : p.length ≤ 1099511627776) (H : List AObj) : ACall Tryd.prog 56 [.sl .none (encP p)] H
    (fun r H' => (p = [] ∧ r = .sl .zero [] ∧ H' = H) ∨ (p ≠ [] ∧ r = .sl (.own H.length) (encP p) ∧ H' = H ++ [.tok 3 1 p.length])) := by
  have hl : (encP p).length = p.length := encL_length _ _
  by_cases hp : p = []
  · subst hp
    refine ACall_W (H.length) 7 [.tmp 2] Tryd.func56 rfl rfl rfl ?_
    simp only [push_cast, Nat.reduceAdd, Nat.reduceSub, Nat.reduceMul, Nat.reduceLT, Nat.reduceLeDiff, Nat.reduceEqDiff, Int.reduceToNat, ↓reduceIte]
    refine AOp_eql_nil _ _ rfl sl30 (fun b hb => ?_)
    simp only [push_cast, Nat.reduceAdd, Nat.reduceSub, Nat.reduceMul, Nat.reduceLT, Nat.reduceLeDiff, Nat.reduceEqDiff, Int.reduceToNat, ↓reduceIte]
    refine cI (fun _ => ?_) (fun _ => ?_)
    · simp
    · refine AOp_append_zero0 _ _ rfl rfl sl30 sz3 by3 zr3 ?_
      simp only [push_cast, Nat.reduceAdd, Nat.reduceSub, Nat.reduceMul, Nat.reduceLT, Nat.reduceLeDiff, Nat.reduceEqDiff, Int.reduceToNat, ↓reduceIte]
      simp
  · have hne : encP p ≠ [] := fun h => hp (List.eq_nil_of_length_eq_zero (by rw [← hl, h]; rfl))
    have hfl : flat (encP p) ≠ [] := fun h => by
      have := flat_length (uni_encP p)
      rw [h, hl] at this
      have := List.length_pos_iff.2 hp
      simp at *; omega
    refine ACall_W (H.length + 1) 7 [.tmp 2] Tryd.func56 rfl rfl rfl ?_
    simp only [push_cast, Nat.reduceAdd, Nat.reduceSub, Nat.reduceMul, Nat.reduceLT, Nat.reduceLeDiff, Nat.reduceEqDiff, Int.reduceToNat, ↓reduceIte]
    refine AOp_eql_nil _ _ rfl sl30 (fun b hb => ?_)
    have hb := hb hfl
    subst hb
    simp only [push_cast, Nat.reduceAdd, Nat.reduceSub, Nat.reduceMul, Nat.reduceLT, Nat.reduceLeDiff, Nat.reduceEqDiff, Int.reduceToNat, ↓reduceIte]
    refine AOp_append_zero _ _ _ rfl rfl sl30 sz3 by3 zr3 rfl (by decide) (uni_encP p) (cell_encP p) hne (by omega) (by omega) ?_
    simp only [push_cast, Nat.reduceAdd, Nat.reduceSub, Nat.reduceMul, Nat.reduceLT, Nat.reduceLeDiff, Nat.reduceEqDiff, Int.reduceToNat, ↓reduceIte, hl, Nat.lt_succ_self]
    simp [hp]
theorem walk_ac (id n : Nat) (hp : List (List Int × Term) → Option Code → List AObj) (nx : List (List Int × Term) → List Int × Term → Option Code) (items : List (List Int × Term)) (hid : id < n)
    (hlen : ∀ p j, (hp p j).length = n) (hsc : ∀ p j o, o ∈ hp p j → OScoped n o) (hy : YieldSeq Tryd.prog id items encItem hp nx) (t : Term) :
    t.bulk ≤ 1099511627775 → ∀ (p : List Int) (pre suf : List (List Int × Term)) (X : List AObj), p.length + t.depth ≤ 1099511627775 → items = pre ++ walkT t p ++ suf → AllNone nx pre →
    ACall Tryd.prog 97 [encT t, .sl .none (encP p), .yld id] (hp pre none ++ X)
      (fun r H' => r = .bool (runTo nx pre (walkT t p)).2.isNone ∧ H' = hp (runTo nx pre (walkT t p)).1 (runTo nx pre (walkT t p)).2 ++ X) := by
  induction t using Term.ind with | _ nm v xs ih
  intro hb p pre suf X hpl hitems hnone
  have hlen2 := Term.len_le (n := nm) (v := v) (xs := xs)
  rw [Term.depth_mk] at hpl
  obtain ⟨G, hG⟩ : ∃ G : List (List Int × Term) → Option Code → List AObj, ∀ q j, G q j = hp q j ++ X := ⟨fun q j => hp q j ++ X, fun _ _ => rfl⟩
  obtain ⟨N, hN⟩ : ∃ N, N = n + X.length := ⟨_, rfl⟩
  have hGl : ∀ q j, (G q j).length = N := fun q j => by rw [hG, hN]; simp [hlen]
  have hg0 : ∀ q j L, (G q j ++ L)[N]? = L[0]? := fun q j L => by have := agetN (G q j) L 0; rw [hGl] at this; exact this
  have hgk : ∀ q j L k, (G q j ++ L)[N + k]? = L[k]? := fun q j L k => by rw [← hGl q j]; exact agetN _ _ _
  have ht0 : ∀ q j L, (G q j ++ L).take N = G q j := fun q j L => takeE0 (hGl q j)
  have htk : ∀ q j L k, (G q j ++ L).take (N + k) = G q j ++ L.take k := fun q j L k => takeEN (hGl q j)
  have hsk : ∀ q j L k x, (G q j ++ L).set (N + k) x = G q j ++ L.set k x := fun q j L k x => hsetEN (hGl q j)
  have hs0 : ∀ q j L x, (G q j ++ L).set N x = G q j ++ L.set 0 x := fun q j L x => hsetE0 (hGl q j)
  have hy' : ∀ q x s L, items = q ++ x :: s → AllNone nx q → AYield Tryd.prog id (encItem x) (G q none ++ L) (fun r H' => r = .bool (nx q x).isNone ∧ H' = G (q ++ [x]) (nx q x) ++ L) := fun q x s L h1 h2 => by
    have := hy q x s (X ++ L) h1 h2
    simpa only [hG, List.append_assoc] using this
  have ih' : ∀ x, x ∈ xs → ∀ (p' : List Int) (q s : List (List Int × Term)) (L : List AObj), p'.length + x.depth ≤ 1099511627775 → items = q ++ walkT x p' ++ s → AllNone nx q →
      ACall Tryd.prog 97 [encT x, .sl .none (encP p'), .yld id] (G q none ++ L) (fun r H' => r = .bool (runTo nx q (walkT x p')).2.isNone ∧ H' = G (runTo nx q (walkT x p')).1 (runTo nx q (walkT x p')).2 ++ L) := fun x hx p' q s L h1 h2 h3 => by
    have hbx := Term.arg_le (n := nm) (v := v) hx
    have := ih x hx (by omega) p' q s (X ++ L) h1 h2 h3
    simpa only [hG, List.append_assoc] using this
  have hout : ∀ q j k L, scT (N + k) k L → OutOk (G pre none) (G q j ++ L) (N + k) := fun q j k L h => by
    rw [hG, hG]; exact outok_hp k (by rw [hlen, hlen]) (fun o ho => by rw [hlen]; exact hsc _ _ o ho) (by simp [hlen, hN]) (scT_spec h).1 (scT_spec h).2
  have hou0 : ∀ q j L, OutOk (G pre none) (G q j ++ L) N = True := fun q j L => eq_true (hout q j 0 L trivial)
  have houk : ∀ q j k L, scT (N + k) k L → OutOk (G pre none) (G q j ++ L) (N + k) = True := fun q j k L h => eq_true (hout q j k L h)
  have hidN : id < N := by omega
  have hidk : ∀ k, id < N + k := fun k => by omega
  have hNk : ∀ k, N < N + (k + 1) := fun k => by omega
  have hwT : walkT (.mk nm v xs) p = (p, .mk nm v xs) :: walkL xs 0 p := rfl
  have hgoal : ∀ (r : AV) (H' : List AObj), (r = .bool (runTo nx pre (walkT (.mk nm v xs) p)).2.isNone ∧ H' = G (runTo nx pre (walkT (.mk nm v xs) p)).1 (runTo nx pre (walkT (.mk nm v xs) p)).2) →
      (r = .bool (runTo nx pre (walkT (.mk nm v xs) p)).2.isNone ∧ H' = hp (runTo nx pre (walkT (.mk nm v xs) p)).1 (runTo nx pre (walkT (.mk nm v xs) p)).2 ++ X) := fun r H' h => by rw [← hG]; exact h
  rw [← hG]
  refine ACall.mono ?_ hgoal
  clear hgoal
  rw [hwT] at hitems ⊢
  have hnx0 : (nx pre (p, .mk nm v xs)).isNone = false → ∃ c, nx pre (p, .mk nm v xs) = some c := fun h => by
    cases hc : nx pre (p, .mk nm v xs) with
    | none => rw [hc] at h; cases h
    | some c => exact ⟨c, rfl⟩
  clear hG
  refine ACall_W (N) 29 [.tmp 6] Tryd.func97 rfl rfl rfl ?_
  simp only [push_cast, Nat.reduceAdd, Nat.reduceSub, Nat.reduceMul, Nat.reduceLT, Nat.reduceLeDiff, Nat.reduceEqDiff, Int.reduceToNat, ↓reduceIte, hGl, hg0, hgk, hsk, hs0]
  refine (hy' pre (p, .mk nm v xs) _ _ (by simpa using hitems) hnone).mono ?_
  rintro r H' ⟨rfl, rfl⟩
  simp only [push_cast, Nat.reduceAdd, Nat.reduceSub, Nat.reduceMul, Nat.reduceLT, Nat.reduceLeDiff, Nat.reduceEqDiff, Int.reduceToNat, ↓reduceIte, hGl, hg0, hgk, hsk, hs0, hou0, ht0]
  refine cI (fun h0 => ?_) (fun h0 => ?_)
  · have hn0 : nx pre (p, .mk nm v xs) = none := Option.isNone_iff_eq_none.1 h0
    have hq0 : G (pre ++ [(p, .mk nm v xs)]) (nx pre (p, .mk nm v xs)) = G (pre ++ (p, .mk nm v xs) :: walkL (xs.take 0) 0 p) none := by rw [hn0]; simp [walkL]
    rw [hq0]
    have hi0 : AllNone nx (pre ++ (p, .mk nm v xs) :: walkL (xs.take 0) 0 p) := by
      have := hnone.snoc (x := (p, Term.mk nm v xs)) hn0
      simpa [walkL] using this
    refine AW_loopW (maskG 32 [1, 0, 12, 0, 0]) (fun (i : Nat) => [(17, .int .i64 i)]) (fun i => G (pre ++ (p, .mk nm v xs) :: walkL (xs.take i) 0 p) none ++ [.cells [.str nm, .bool v, .sl .none (encTs xs)]]) (fun i => i ≤ xs.length ∧ AllNone nx (pre ++ (p, .mk nm v xs) :: walkL (xs.take i) 0 p)) (fun i => xs.length - i) 0 ⟨Nat.zero_le _, hi0⟩ (by simp only [push_cast, Nat.reduceAdd, Nat.reduceSub, Nat.reduceMul, Nat.reduceLT, Nat.reduceLeDiff, Nat.reduceEqDiff, Int.reduceToNat, ↓reduceIte, hGl, houk, htk, hidk, hNk, Nat.lt_succ_self]) (fun i hi => ?_)
    simp only [push_cast, Nat.reduceAdd, Nat.reduceSub, Nat.reduceMul, Nat.reduceLT, Nat.reduceLeDiff, Nat.reduceEqDiff, Int.reduceToNat, ↓reduceIte, hGl, hg0, hgk, hsk, hs0, hou0, ht0]
    refine cI (fun h => ⟨by omega, ?_⟩) (fun h => ?_)
    · have hil : i < xs.length := by omega
      have hmem : xs[i] ∈ xs := by simp
      have hdx := (le_foldl_max Term.depth xs 0).2 _ hmem
      have hit : items = (pre ++ (p, Term.mk nm v xs) :: walkL (xs.take i) 0 p) ++ walkT xs[i] (p ++ [(i : Int)]) ++ (walkL (xs.drop (i + 1)) (0 + (i : Int) + 1) p ++ suf) := by
        rw [hitems, walkL_split xs i 0 p (by omega), List.drop_eq_getElem_cons hil, walkL_cons]; simp
      obtain ⟨⟨q, j⟩, hr⟩ : ∃ y, runTo nx (pre ++ (p, Term.mk nm v xs) :: walkL (xs.take i) 0 p) (walkT xs[i] (p ++ [(i : Int)])) = y := ⟨_, rfl⟩
      have hpre : pre ++ (p, Term.mk nm v xs) :: walkL (xs.take i) 0 p ++ walkT xs[i] (p ++ [(i : Int)]) = pre ++ (p, Term.mk nm v xs) :: walkL (xs.take (i + 1)) 0 p := by rw [walkL_take _ _ _ (by omega)]; simp
      have hfin1 : j.isNone = true → q = pre ++ (p, Term.mk nm v xs) :: walkL (xs.take (i + 1)) 0 p ∧ j = none ∧ AllNone nx q := by
        intro hj
        have hj : j = none := Option.isNone_iff_eq_none.1 hj
        have hq := runTo_none nx (walkT xs[i] (p ++ [(i : Int)])) _ hi.2 (by rw [hr]; exact hj)
        rw [hr, hpre] at hq
        obtain ⟨hq1, hq2⟩ := hq
        simp only at hq1
        exact ⟨hq1, hj, hq1 ▸ hq2⟩
      have hfin2 : ¬ j.isNone = true → runTo nx pre ((p, Term.mk nm v xs) :: walkL xs 0 p) = (q, j) ∧ j.isNone = false := by
        intro hj
        obtain ⟨c, rfl⟩ : ∃ c, j = some c := by
          cases j with
          | none => simp at hj
          | some c => exact ⟨c, rfl⟩
        refine ⟨?_, rfl⟩
        rw [walkL_split xs i 0 p (by omega), List.drop_eq_getElem_cons (by omega), walkL_cons, ← List.cons_append, runTo_mid nx _ _ _ hi.2, runTo_append, Int.zero_add, hr]
      by_cases hp0 : p = []
      · skip
        apply AW_drawE [some 22, some 23, some 24, some 25, some 26, some 27, some 28, some 29, some 30] [([false, false, false], _), ([true, false, false], _), ([true, true, false], _), ([true, true, true], _)] [none, none, some 0, none, none, some 1, none, some 2, none] 3 [(0, [false, false, false], [8]), (1, [false, false, false], [1]), (2, [false, false, false], [23]), (3, [true, false, false], [7]), (4, [true, false, false], [25]), (5, [true, false, false], [24, 1]), (6, [true, true, false], [2]), (7, [true, true, false], [22, 4, 0]), (8, [true, true, true], [29]), (0, [true, false, false], [8]), (0, [true, true, false], [8]), (3, [false, false, false], [7]), (3, [true, true, false], [7]), (3, [true, true, true], [7]), (4, [false, false, false], [25]), (6, [false, false, false], [2]), (6, [true, false, false], [2])] [_, _, _, _, _, _, _, _, _]
        case' hm => exact dr
        case' hn => rfl
        case' hok => rfl
        case' hlen => rfl
        case' hd => rfl
        case' h0 => rfl
        case' hstep =>
         simp only [DAllG, push_cast, Option.isSome_some, Option.isSome_none]
         repeat' apply And.intro
         all_goals (apply DOne_V; simp only [push_cast, Nat.reduceAdd, Nat.reduceSub, Nat.reduceMul, Nat.reduceLT, Nat.reduceLeDiff, Nat.reduceEqDiff, Int.reduceToNat, ↓reduceIte, hGl, hg0, hgk, hsk, hs0] <;> first | exact rfl | omega | exact ⟨rfl, rfl⟩ | exact trivial | exact ⟨by omega, rfl⟩ | exact ⟨by omega, by omega, rfl⟩ | exact ⟨by omega, rfl, rfl⟩ | exact ⟨by omega, by omega, rfl, rfl⟩ | (refine (clone_ac p (by omega) _).mono ?_; rintro r H' (⟨hcl, rfl, rfl⟩ | ⟨hcl, rfl, rfl⟩) <;> first | exact absurd hp0 hcl | exact ⟨rfl, rfl⟩) | (refine AOp_append_zero _ _ _ rfl rfl sl30 sz3 by3 zr3 rfl (by decide) (by intro x hx; simp at hx; subst hx; rfl) (by simp [flat, AV.cells, AV.isCell]) (by simp) (by simp) (by simp) ?_; simp only [push_cast, Nat.reduceAdd, Nat.reduceSub, Nat.reduceMul, Nat.reduceLT, Nat.reduceLeDiff, Nat.reduceEqDiff, Int.reduceToNat, ↓reduceIte, hGl]; exact ⟨rfl, rfl⟩) | (refine ACall.forget (args' := [encT xs[i], .sl .none (encP (p ++ [(i : Int)])), .yld id]) ⟨Forget.refl _, by first | (rw [← encP_snoc]; exact Forget.tok _ _) | (have he : encP (p ++ [(i : Int)]) = [.int .i64 i] := (by rw [hp0]; rfl); rw [he]; exact Forget.tok _ _), Forget.refl _, trivial⟩ ((ih' xs[i] hmem (p ++ [(i : Int)]) _ _ _ (by simp; omega) hit hi.2).to ⟨rfl, rfl⟩)))
        case' hQ => skip
        simp only [push_cast, Nat.reduceAdd, Nat.reduceSub, Nat.reduceMul, Nat.reduceLT, Nat.reduceLeDiff, Nat.reduceEqDiff, Int.reduceToNat, ↓reduceIte, hr, hGl, hg0, hgk, hsk, hs0, hou0, ht0]
        refine cI (fun hj => ?_) (fun hj => ?_)
        · obtain ⟨rfl, rfl, hq2⟩ := hfin1 hj
          repeat' first | refine ⟨by omega, ?_⟩ | refine cI (fun _ => ?_) (fun _ => ?_)
          exact loopW_n (i + 1) ⟨by omega, hq2⟩ (by omega) (by simp only [push_cast, Nat.reduceAdd, Nat.reduceSub, Nat.reduceMul, Nat.reduceLT, Nat.reduceLeDiff, Nat.reduceEqDiff, Int.reduceToNat, ↓reduceIte, hGl, houk, htk, hidk, hNk, Nat.lt_succ_self])
        · obtain ⟨e1, e2⟩ := hfin2 hj
          rw [e1]
          exact ⟨e2.symm, rfl⟩
      · skip
        apply AW_drawE [some 22, some 23, some 24, some 25, some 26, some 27, some 28, some 29, some 30] [([false, false, false], _), ([true, false, false], _), ([true, true, false], _), ([true, true, true], _)] [none, none, some 0, none, none, some 1, none, some 2, none] 3 [(0, [false, false, false], [8]), (1, [false, false, false], [1]), (2, [false, false, false], [23]), (3, [true, false, false], [7]), (4, [true, false, false], [25]), (5, [true, false, false], [24, 1]), (6, [true, true, false], [2]), (7, [true, true, false], [22, 4, 0]), (8, [true, true, true], [29]), (0, [true, false, false], [8]), (0, [true, true, false], [8]), (3, [false, false, false], [7]), (3, [true, true, false], [7]), (3, [true, true, true], [7]), (4, [false, false, false], [25]), (6, [false, false, false], [2]), (6, [true, false, false], [2])] [_, _, _, _, _, _, _, _, _]
        case' hm => exact dr
        case' hn => rfl
        case' hok => rfl
        case' hlen => rfl
        case' hd => rfl
        case' h0 => rfl
        case' hstep =>
         simp only [DAllG, push_cast, Option.isSome_some, Option.isSome_none]
         repeat' apply And.intro
         all_goals (apply DOne_V; simp only [push_cast, Nat.reduceAdd, Nat.reduceSub, Nat.reduceMul, Nat.reduceLT, Nat.reduceLeDiff, Nat.reduceEqDiff, Int.reduceToNat, ↓reduceIte, hGl, hg0, hgk, hsk, hs0] <;> first | exact rfl | omega | exact ⟨rfl, rfl⟩ | exact trivial | exact ⟨by omega, rfl⟩ | exact ⟨by omega, by omega, rfl⟩ | exact ⟨by omega, rfl, rfl⟩ | exact ⟨by omega, by omega, rfl, rfl⟩ | (refine (clone_ac p (by omega) _).mono ?_; rintro r H' (⟨hcl, rfl, rfl⟩ | ⟨hcl, rfl, rfl⟩) <;> first | exact absurd hcl hp0 | exact ⟨rfl, rfl⟩) | (refine AOp_append_own _ _ _ _ _ rfl rfl ((hgk _ _ _ 2).trans (by rw [encP_length]; rfl)) sl30 sz3 by3 zr3 rfl (by decide) (uni_encP p) (by intro x hx; simp at hx; subst hx; rfl) (by simp [flat, AV.cells, AV.isCell]) (by simp only [encP_length, List.length_cons, List.length_nil]; omega) (by simp only [encP_length, List.length_cons, List.length_nil]; omega) ?_; simp only [push_cast, Nat.reduceAdd, Nat.reduceSub, Nat.reduceMul, Nat.reduceLT, Nat.reduceLeDiff, Nat.reduceEqDiff, Int.reduceToNat, ↓reduceIte, hGl, hsk]; exact ⟨rfl, rfl⟩) | (refine ACall.forget (args' := [encT xs[i], .sl .none (encP (p ++ [(i : Int)])), .yld id]) ⟨Forget.refl _, by first | (rw [← encP_snoc]; exact Forget.tok _ _) | (have he : encP (p ++ [(i : Int)]) = [.int .i64 i] := (by rw [hp0]; rfl); rw [he]; exact Forget.tok _ _), Forget.refl _, trivial⟩ ((ih' xs[i] hmem (p ++ [(i : Int)]) _ _ _ (by simp; omega) hit hi.2).to ⟨rfl, rfl⟩)))
        case' hQ => skip
        simp only [push_cast, Nat.reduceAdd, Nat.reduceSub, Nat.reduceMul, Nat.reduceLT, Nat.reduceLeDiff, Nat.reduceEqDiff, Int.reduceToNat, ↓reduceIte, hr, hGl, hg0, hgk, hsk, hs0, hou0, ht0]
        refine cI (fun hj => ?_) (fun hj => ?_)
        · obtain ⟨rfl, rfl, hq2⟩ := hfin1 hj
          repeat' first | refine ⟨by omega, ?_⟩ | refine cI (fun _ => ?_) (fun _ => ?_)
          exact loopW_n (i + 1) ⟨by omega, hq2⟩ (by omega) (by simp only [push_cast, Nat.reduceAdd, Nat.reduceSub, Nat.reduceMul, Nat.reduceLT, Nat.reduceLeDiff, Nat.reduceEqDiff, Int.reduceToNat, ↓reduceIte, hGl, houk, htk, hidk, hNk, Nat.lt_succ_self])
        · obtain ⟨e1, e2⟩ := hfin2 hj
          rw [e1]
          exact ⟨e2.symm, rfl⟩
    · have hs : xs.take i = xs := List.take_of_length_le (by omega)
      rw [hs] at hi ⊢
      have e := runTo_all nx _ _ hi.2
      rw [e]; simp
  · obtain ⟨c, hc0⟩ := hnx0 (by simpa only [Bool.not_eq_true] using h0)
    simp [runTo, hc0]
end Ab
set_option maxRecDepth 10000
namespace Ab
open Go Go.Proofs
theorem walk_iter (t : Term) (hb : t.bulk ≤ 1099511627775) (b : Nat) : IterC Tryd.prog 96 [.ptr b 0] (walkT t []) encItem (fun H => H[b]? = some (.cells [.str t.name, .bool t.var, .sl .none (encTs t.args)])) := by
  intro id n hp nx hid hlen hsc hA hy
  obtain ⟨H, hH⟩ : ∃ H, H = hp [] none := ⟨_, rfl⟩
  rw [← hH] at hA ⊢
  have hd := t.depth_le
  have hsz := t.size_le
  have hout : ∀ q j, OutOk H (hp q j) n := fun q j => by
    have := outok_hp (A := hp [] none) (B := hp q j) (X := []) (L := []) (m := n) 0 (by rw [hlen, hlen]) (fun o ho => by rw [hlen]; exact hsc _ _ o ho) (by simp [hlen]) (Nat.zero_le _) (by simp)
    simpa [hH] using this
  refine ACall_W (n) 4 [] Tryd.func96 rfl rfl rfl ?_
  simp only [push_cast, Nat.reduceAdd, Nat.reduceSub, Nat.reduceMul, Nat.reduceLT, Nat.reduceLeDiff, Nat.reduceEqDiff, Int.reduceToNat, ↓reduceIte, hA]
  refine ACall.forget (args' := [encT t, .sl .none (encP []), .yld id]) ⟨Forget.refl _, Forget.tok _ _, Forget.refl _, trivial⟩ ?_
  have hw := walk_ac id n hp nx (walkT t []) hid hlen hsc hy t hb [] [] [] [] (by simp; omega) (by simp) AllNone.nil
  simp only [List.append_nil, ← hH] at hw
  refine hw.to ?_
  simp only [push_cast, Nat.reduceAdd, Nat.reduceSub, Nat.reduceMul, Nat.reduceLT, Nat.reduceLeDiff, Nat.reduceEqDiff, Int.reduceToNat, ↓reduceIte]
  refine ⟨hout _ _, ?_⟩
  rw [List.take_of_length_le (by rw [hlen]; exact Nat.le_refl _)]
  exact iterOut_runTo nx _ hp
theorem walkF_ac (t : Term) (H : List AObj) : ACall Tryd.prog 55 [encT t] H (fun r H' => r = .fn 96 [.ptr H.length 0] ∧ H' = H ++ [.cells [.str t.name, .bool t.var, .sl .none (encTs t.args)]]) := by
  refine ACall_W (H.length + 1) 3 [.tmp 2] Tryd.func55 rfl rfl rfl ?_
  simp only [push_cast, Nat.reduceAdd, Nat.reduceSub, Nat.reduceMul, Nat.reduceLT, Nat.reduceLeDiff, Nat.reduceEqDiff, Int.reduceToNat, ↓reduceIte]
  trace_state
end Ab
set_option maxRecDepth 10000
namespace Ab
open Go Go.Proofs
theorem Term.var_mk (n : List UInt8) (v : Bool) (xs : List Term) : (Term.mk n v xs).var = v := rfl
theorem Term.args_mk (n : List UInt8) (v : Bool) (xs : List Term) : (Term.mk n v xs).args = xs := rfl
def atP : Term → List Int → Option Term
  | t, [] => some t
  | .mk _ _ xs, i :: p => if h : 0 ≤ i ∧ i.toNat < xs.length then atP xs[i.toNat] p else none
def putP : Term → List Int → Term → Term
  | _, [], x => x
  | .mk n _ xs, i :: p, x => .mk n false (xs.set i.toNat (putP (xs.getD i.toNat (.mk [] false [])) p x))
theorem sum_setN (f : Term → Nat) : ∀ (xs : List Term) (j : Nat) (h : j < xs.length) (a : Term), ((xs.set j a).map f).sum + f xs[j] = (xs.map f).sum + f a
  | x :: xs, 0, h, a => by simp; omega
  | x :: xs, j + 1, h, a => by
    have := sum_setN f xs j (by simpa using h) a
    simp only [List.set_cons_succ, List.map_cons, List.sum_cons, List.getElem_cons_succ]; omega
theorem put_bulk (s : Term) : ∀ (p : List Int) (c x : Term), atP c p = some x → (putP c p s).bulk ≤ c.bulk + s.bulk
  | [], c, x, _ => by cases c; simp [putP]
  | i :: p, .mk n u xs, x, h => by
    simp only [atP] at h
    split at h
    · rename_i hi
      have ih := put_bulk s p xs[i.toNat] x h
      have hg : xs.getD i.toNat (.mk [] false []) = xs[i.toNat] := by simp [hi.2]
      simp only [putP, hg]
      have := sum_setN Term.bulk xs i.toNat hi.2 (putP xs[i.toNat] p s)
      rw [Term.bulk_mk, Term.bulk_mk]; omega
    · cases h
theorem checkP_iff (t : Term) : checkP t = 0 ↔ formedP t = true ∧ fitsP t = true := by
  unfold checkP
  cases formedP t <;> cases fitsP t <;> simp
theorem at_bulk : ∀ (p : List Int) (t x : Term), atP t p = some x → x.bulk ≤ t.bulk
  | [], t, x, h => by simp [atP] at h; subst h; exact Nat.le_refl _
  | i :: p, .mk n u xs, x, h => by
    simp only [atP] at h
    split at h
    · rename_i hi
      have h1 := at_bulk p _ x h
      have h2 := Term.arg_le (n := n) (v := u) (List.getElem_mem hi.2)
      omega
    · cases h
theorem at_app : ∀ (p q : List Int) (t : Term), atP t (p ++ q) = (atP t p).bind fun x => atP x q
  | [], q, t => by simp [atP]
  | i :: p, q, .mk n u xs => by
    simp only [List.cons_append, atP]
    split
    · exact at_app p q _
    · rfl
theorem flat_encTs_cons (x : Term) (xs : List Term) : flat (encTs (x :: xs)) = [.str x.name, .bool x.var, .sl .none (encTs x.args)] ++ flat (encTs xs) := by rw [encTs_cons]; simp [flat, AV.cells]
theorem flat_encTs_len : ∀ xs : List Term, (flat (encTs xs)).length = xs.length * 3
  | [] => by simp [encTs, flat]
  | x :: xs => by rw [flat_encTs_cons, List.length_append, flat_encTs_len xs]; simp; omega
theorem scoped_flatT (n : Nat) : ∀ xs : List Term, ScopedL n (flat (encTs xs))
  | [] => by simp [encTs, flat, ScopedL]
  | x :: xs => by rw [flat_encTs_cons]; simp [ScopedL, Scoped, scoped_encTs, scoped_flatT n xs]
theorem flat_encTs_get : ∀ (xs : List Term) (i : Nat) (h : i < xs.length), ((flat (encTs xs)).drop (i * 3)).take 3 = [.str xs[i].name, .bool xs[i].var, .sl .none (encTs xs[i].args)]
  | x :: xs, 0, h => by rw [flat_encTs_cons]; simp
  | x :: xs, i + 1, h => by
    have := flat_encTs_get xs i (by simpa using h)
    rw [flat_encTs_cons, List.drop_append, show (i + 1) * 3 = i * 3 + 3 by omega]
    simpa using this
theorem flat_encTs_set : ∀ (xs : List Term) (i : Nat) (h : i < xs.length) (y : Term), splice (flat (encTs xs)) (i * 3) [.str y.name, .bool y.var, .sl .none (encTs y.args)] = flat (encTs (xs.set i y))
  | x :: xs, 0, h, y => by rw [flat_encTs_cons, List.set_cons_zero, flat_encTs_cons]; simp [splice]
  | x :: xs, i + 1, h, y => by
    have := flat_encTs_set xs i (by simpa using h) y
    rw [List.set_cons_succ, flat_encTs_cons, flat_encTs_cons, ← this]
    unfold splice
    rw [show (i + 1) * 3 = i * 3 + 3 by omega, List.take_append, List.drop_append]
    simp
theorem flat_encTs_set2 (xs : List Term) (i : Nat) (h : i < xs.length) (y : Term) : List.take (i * 3) (flat (encTs xs)) ++ AV.str y.name :: AV.bool y.var :: AV.sl .none (encTs y.args) :: List.drop (i * 3 + 3) (flat (encTs xs)) = flat (encTs (xs.set i y)) := by
  have := flat_encTs_set xs i h y
  simpa [splice] using this
theorem at_step (x : Term) (k : Int) (q : List Int) : (∀ h : 0 ≤ k ∧ k.toNat < x.args.length, atP x (k :: q) = atP (x.args[k.toNat]'h.2) q) ∧ (¬ (0 ≤ k ∧ k.toNat < x.args.length) → atP x (k :: q) = none) := by
  cases x with
  | mk n u xs => exact ⟨fun h => by simp only [atP, Term.args_mk]; exact dif_pos h, fun h => by simp only [atP]; exact dif_neg h⟩
theorem at_var {t x : Term} {p : List Int} (h : atP t p = some x) (hp : p ≠ []) (hf : formedP t = true) : t.var = false := by
  cases p with
  | nil => exact absurd rfl hp
  | cons i p =>
    cases t with
    | mk n u xs =>
      simp only [atP] at h
      split at h
      · rename_i hi
        cases u with
        | false => rfl
        | true => rw [formedP_mk] at hf; simp at hf; have := hi.2; rw [hf.1] at this; simp at this
      · cases h
def setP : Term → List Int → Term → Term
  | _, [], x => x
  | .mk n v xs, i :: p, x => .mk n v (xs.set i.toNat (setP (xs.getD i.toNat (.mk [] false [])) p x))
theorem setP_put : ∀ (p : List Int) (t x y : Term), atP t p = some y → formedP t = true → setP t p x = putP t p x
  | [], t, x, y, _, _ => by cases t; rfl
  | i :: p, .mk n v xs, x, y, h, hf => by
    have hv := at_var h (by simp) hf
    simp only [atP] at h
    split at h
    · rename_i hi
      have hm := List.getElem_mem hi.2
      have hg : xs.getD i.toNat (.mk [] false []) = xs[i.toNat] := by simp [hi.2]
      simp only [Term.var_mk] at hv
      subst hv
      have hx : formedP xs[i.toNat] = true := by rw [formedP_mk] at hf; simp at hf; exact hf.2 _ hm
      simp only [setP, putP, hg]
      rw [setP_put p _ x y h hx]
    · cases h
end Ab
set_option maxRecDepth 10000
namespace Ab
open Go Go.Proofs
theorem own_ac (t : Term) : t.bulk ≤ 1099511627775 → ∀ H, ACall Tryd.prog 58 [encT t] H (fun r H' => r = encT t ∧ H' = H) := by
  induction t using Term.ind with | _ n v xs ih
  intro hb H
  have hlen := Term.len_le (n := n) (v := v) (xs := xs)
  refine ACall_V (H.length) 26 [.cell 2 24] Tryd.func58 rfl rfl rfl ?_
  simp only [push_cast, Nat.reduceAdd, Nat.reduceSub, Nat.reduceMul, Nat.reduceLT, Nat.reduceLeDiff, Nat.reduceEqDiff, Int.reduceToNat, ↓reduceIte]
  refine AW_reserve 1 ?_
  refine AW_loopW (maskG 27 [2, 0, 8, 0, 0]) (fun (i : Nat) => [(14, .int .i64 i)]) (fun i => H ++ [.cells [.str n, .bool v, .sl .none (encTs xs)], .cells [.str [], .bool false, .sl .zero []], .cells [.str n, .bool v, gSl (H.length + 3) (encTs (xs.take i))], gTok 24 3 (encTs (xs.take i))]) (fun i => i ≤ xs.length) (fun i => xs.length - i) 0 (Nat.zero_le _) (by simp only [push_cast, Nat.reduceAdd, Nat.reduceSub, Nat.reduceMul, Nat.reduceLT, Nat.reduceLeDiff, Nat.reduceEqDiff, Int.reduceToNat, ↓reduceIte]) (fun i hi => ?_)
  simp only [push_cast, Nat.reduceAdd, Nat.reduceSub, Nat.reduceMul, Nat.reduceLT, Nat.reduceLeDiff, Nat.reduceEqDiff, Int.reduceToNat, ↓reduceIte]
  refine cI (fun h => ⟨by omega, ?_⟩) (fun h => ?_)
  · skip
    apply AW_drawE [some 18, some 19, some 20, some 21, some 22, some 23, some 24, none] [([false, false], _), ([true, false], _), ([true, true], _)] [none, none, none, none, none, some 0, none, some 1] 2 [(0, [false, false], [3]), (1, [false, false], [18]), (2, [false, false], [5]), (3, [false, false], [20]), (4, [false, false], [21]), (5, [false, false], [19, 2]), (6, [true, false], [3]), (7, [true, false], [23, 0]), (0, [true, false], [3]), (2, [true, false], [5])] [_, _, _, _, _, _, _, _]
    case' hm => exact dr
    case' hn => rfl
    case' hok => rfl
    case' hlen => rfl
    case' hd => rfl
    case' h0 => rfl
    case' hstep =>
     simp only [DAllG, push_cast, Option.isSome_some, Option.isSome_none]
     repeat' apply And.intro
     all_goals (apply DOne_V; simp only [push_cast, Nat.reduceAdd, Nat.reduceSub, Nat.reduceMul, Nat.reduceLT, Nat.reduceLeDiff, Nat.reduceEqDiff, Int.reduceToNat, ↓reduceIte] <;> first | exact rfl | omega | exact ⟨rfl, rfl⟩ | exact trivial | exact ⟨by omega, rfl⟩ | exact ⟨by omega, by omega, rfl⟩ | exact ⟨by omega, rfl, rfl⟩ | exact ⟨by omega, by omega, rfl, rfl⟩ | exact (ih _ (List.getElem_mem _) (arg_bulk hb i (by omega)) _).to ⟨rfl, rfl⟩ | (refine app1_T _ (H.length + 3) (xs.take i) xs[i] _ rfl rfl (by exact (agetN _ _ 3).trans rfl) sl22 sz24 by24 zr24 rfl (by decide) (by simp; omega) ?_; simp only [push_cast, Nat.reduceAdd, Nat.reduceSub, Nat.reduceMul, Nat.reduceLT, Nat.reduceLeDiff, Nat.reduceEqDiff, Int.reduceToNat, ↓reduceIte]; exact ⟨rfl, rfl⟩))
    case' hQ => skip
    simp only [push_cast, Nat.reduceAdd, Nat.reduceSub, Nat.reduceMul, Nat.reduceLT, Nat.reduceLeDiff, Nat.reduceEqDiff, Int.reduceToNat, ↓reduceIte, ← List.take_succ_eq_append_getElem (show i < xs.length by omega)]
    repeat' first | refine ⟨by omega, ?_⟩ | refine cI (fun _ => ?_) (fun _ => ?_)
    exact loopW_n (i + 1) (by omega) (by omega) (by simp only [push_cast, Nat.reduceAdd, Nat.reduceSub, Nat.reduceMul, Nat.reduceLT, Nat.reduceLeDiff, Nat.reduceEqDiff, Int.reduceToNat, ↓reduceIte])
  · simp only [push_cast, Nat.reduceAdd, Nat.reduceSub, Nat.reduceMul, Nat.reduceLT, Nat.reduceLeDiff, Nat.reduceEqDiff, Int.reduceToNat, ↓reduceIte, List.take_of_length_le (show xs.length ≤ i by omega)]
theorem fit_ac (t : Term) (hb : t.bulk ≤ 1099511627775) (H : List AObj) : ACall Tryd.prog 59 [encT t] H (fun r H' => r = (if fitsP t then .tup [encT t, .int .i64 0] else .tup [encT (.mk [] false []), .int .i64 3]) ∧ H' = H) := by
  refine ACall_V (H.length) 8 [.cell 2 24, .tmp 3] Tryd.func59 rfl rfl rfl ?_
  simp only [push_cast, Nat.reduceAdd, Nat.reduceSub, Nat.reduceMul, Nat.reduceLT, Nat.reduceLeDiff, Nat.reduceEqDiff, Int.reduceToNat, ↓reduceIte]
  refine (fits_ac t hb _).to ?_
  simp only [push_cast, Nat.reduceAdd, Nat.reduceSub, Nat.reduceMul, Nat.reduceLT, Nat.reduceLeDiff, Nat.reduceEqDiff, Int.reduceToNat, ↓reduceIte]
  refine cI (fun h => ?_) (fun h => ?_) <;> simp only [push_cast, Nat.reduceAdd, Nat.reduceSub, Nat.reduceMul, Nat.reduceLT, Nat.reduceLeDiff, Nat.reduceEqDiff, Int.reduceToNat, ↓reduceIte, h]
theorem sub_ac (t : Term) (p : List Int) (hb : t.bulk ≤ 1099511627775) (hlen : p.length < 1099511627776) (H : List AObj) :
    ACall Tryd.prog 57 [encT t, .sl .none (encP p)] H (fun r H' => r = (match atP t p with | some x => .tup [encT x, .bool true] | none => .tup [encT (.mk [] false []), .bool false]) ∧ H' = H) := by
  refine ACall_V (H.length) 29 [.cell 4 24, .tmp 5] Tryd.func57 rfl rfl rfl ?_
  simp only [push_cast, Nat.reduceAdd, Nat.reduceSub, Nat.reduceMul, Nat.reduceLT, Nat.reduceLeDiff, Nat.reduceEqDiff, Int.reduceToNat, ↓reduceIte]
  refine AW_loopW (maskG 31 [2, 1, 3, 0, 0]) (fun (q : Nat × Term) => [(10, .int .i64 q.1)]) (fun q => H ++ [.cells [.str q.2.name, .bool q.2.var, .sl .none (encTs q.2.args)], .cells [.str [], .bool false, .sl .zero []]]) (fun q => q.1 ≤ p.length ∧ atP t (p.take q.1) = some q.2) (fun q => p.length - q.1) (0, t) ⟨Nat.zero_le _, by cases t; rfl⟩ (by simp only [push_cast, Nat.reduceAdd, Nat.reduceSub, Nat.reduceMul, Nat.reduceLT, Nat.reduceLeDiff, Nat.reduceEqDiff, Int.reduceToNat, ↓reduceIte]) (fun ⟨i, x⟩ hi => ?_)
  obtain ⟨hi, hx⟩ := hi
  simp only at hi hx
  have hbx := at_bulk _ _ _ hx
  have hlx : x.args.length < x.bulk := by cases x; exact Term.len_le
  simp only [push_cast, Nat.reduceAdd, Nat.reduceSub, Nat.reduceMul, Nat.reduceLT, Nat.reduceLeDiff, Nat.reduceEqDiff, Int.reduceToNat, ↓reduceIte]
  refine cI (fun h => ⟨by omega, ?_⟩) (fun h => ?_)
  · have hs := at_step x p[i] (p.drop (i + 1))
    have hap := at_app (p.take i) (p.drop i) t
    rw [List.take_append_drop, hx, List.drop_eq_getElem_cons (by omega)] at hap
    simp only [Option.bind_some] at hap
    have hap2 := at_app (p.take i) [p[i]] t
    rw [hx, ← List.take_succ_eq_append_getElem (by omega)] at hap2
    simp only [Option.bind_some] at hap2
    refine cI (fun h1 => ?_) (fun h1 => cI (fun h2 => ?_) (fun h2 => ?_))
    · simp only [push_cast, Nat.reduceAdd, Nat.reduceSub, Nat.reduceMul, Nat.reduceLT, Nat.reduceLeDiff, Nat.reduceEqDiff, Int.reduceToNat, ↓reduceIte, hap, hs.2 (fun hh => by omega)]
    · simp only [push_cast, Nat.reduceAdd, Nat.reduceSub, Nat.reduceMul, Nat.reduceLT, Nat.reduceLeDiff, Nat.reduceEqDiff, Int.reduceToNat, ↓reduceIte, hap, hs.2 (fun hh => by omega)]
    · have hk : 0 ≤ p[i] ∧ p[i].toNat < x.args.length := ⟨by omega, by omega⟩
      have hs2 := (at_step x p[i] []).1 hk
      refine ⟨by omega, by omega, by omega, loopW_n (i + 1, x.args[p[i].toNat]) ⟨by simp only; omega, ?_⟩ (by simp only; omega) (by simp only [push_cast, Nat.reduceAdd, Nat.reduceSub, Nat.reduceMul, Nat.reduceLT, Nat.reduceLeDiff, Nat.reduceEqDiff, Int.reduceToNat, ↓reduceIte])⟩
      simp only
      rw [hap2, hs2]
      cases x.args[p[i].toNat]; rfl
  · rw [List.take_of_length_le (by omega)] at hx
    simp only [push_cast, Nat.reduceAdd, Nat.reduceSub, Nat.reduceMul, Nat.reduceLT, Nat.reduceLeDiff, Nat.reduceEqDiff, Int.reduceToNat, ↓reduceIte, hx]
theorem set_step (n : List UInt8) (v : Bool) (xs : List Term) (k : Int) (p : List Int) (x : Term) (h0 : 0 ≤ k) : setP (.mk n v xs) (k :: p) x = .mk n v (xs.set k.toNat (setP (xs.getD k.toNat (.mk [] false [])) p x)) := rfl
theorem set_ac (x : Term) (hx : x.bulk ≤ 1099511627775) (t : Term) : t.bulk ≤ 1099511627775 → ∀ (p : List Int), p.length < 1099511627776 → (∃ y, atP t p = some y) → ∀ H,
    ACall Tryd.prog 60 [encT t, .sl .none (encP p), encT x] H (fun r H' => r = encT (setP t p x) ∧ H' = H) := by
  induction t using Term.ind with | _ n v xs ih
  intro hb p hpl hat H
  have hlen := Term.len_le (n := n) (v := v) (xs := xs)
  cases p with
  | nil =>
    refine ACall_V (H.length) 45 [.cell 6 24] Tryd.func60 rfl rfl rfl ?_
    simp only [push_cast, Nat.reduceAdd, Nat.reduceSub, Nat.reduceMul, Nat.reduceLT, Nat.reduceLeDiff, Nat.reduceEqDiff, Int.reduceToNat, ↓reduceIte]
    refine (own_ac x hx _).to ?_
    simp only [push_cast, Nat.reduceAdd, Nat.reduceSub, Nat.reduceMul, Nat.reduceLT, Nat.reduceLeDiff, Nat.reduceEqDiff, Int.reduceToNat, ↓reduceIte, setP]
  | cons k p =>
    obtain ⟨y, hy⟩ := hat
    simp only [atP] at hy
    split at hy
    · rename_i hk
      have hg : xs.getD k.toNat (.mk [] false []) = xs[k.toNat] := by simp [hk.2]
      rw [set_step _ _ _ _ _ _ hk.1, hg]
      refine ACall_V (H.length) 45 [.cell 6 24] Tryd.func60 rfl rfl rfl ?_
      simp only [push_cast, Nat.reduceAdd, Nat.reduceSub, Nat.reduceMul, Nat.reduceLT, Nat.reduceLeDiff, Nat.reduceEqDiff, Int.reduceToNat, ↓reduceIte]
      refine cI (fun h => by omega) (fun _ => ?_)
      obtain ⟨Y, hY⟩ : ∃ Y, Y = xs.set k.toNat (setP xs[k.toNat] p x) := ⟨_, rfl⟩
      have hYl : Y.length = xs.length := by rw [hY]; simp
      have hYe : ∀ i (h : i < Y.length), i = k.toNat → Y[i] = setP xs[k.toNat] p x := fun i h e => by subst hY; subst e; simp
      have hYn : ∀ i (h : i < Y.length) (h' : i < xs.length), i ≠ k.toNat → Y[i] = xs[i] := fun i h h' e => by subst hY; rw [List.getElem_set_ne (Ne.symm e)]
      rw [← hY]
      refine AW_reserve 1 ?_
      refine AW_loopW (maskG 48 [1, 3, 0, 0, 13, 0, 0]) (fun (i : Nat) => [(23, .int .i64 i)]) (fun i => H ++ [.cells [.str n, .bool v, .sl .none (encTs xs)], .cells [.str x.name, .bool x.var, .sl .none (encTs x.args)], .cells [.str [], .bool false, .sl .zero []], .cells [.str n, .bool v, gSl (H.length + 4) (encTs (Y.take i))], gTok 24 3 (encTs (Y.take i))]) (fun i => i ≤ xs.length) (fun i => xs.length - i) 0 (Nat.zero_le _) (by simp only [push_cast, Nat.reduceAdd, Nat.reduceSub, Nat.reduceMul, Nat.reduceLT, Nat.reduceLeDiff, Nat.reduceEqDiff, Int.reduceToNat, ↓reduceIte]) (fun i hi => ?_)
      simp only [push_cast, Nat.reduceAdd, Nat.reduceSub, Nat.reduceMul, Nat.reduceLT, Nat.reduceLeDiff, Nat.reduceEqDiff, Int.reduceToNat, ↓reduceIte]
      refine cI (fun h => ?_) (fun h => ?_)
      · repeat refine ⟨by omega, ?_⟩
        have hxm := arg_bulk hb i (by omega)
        refine cI (fun hik => ?_) (fun hik => ?_)
        · have hik2 : i = k.toNat := by omega
          have hxe : xs[i]'(by omega) = xs[k.toNat] := by subst hik2; rfl
          simp only [push_cast, Nat.reduceAdd, Nat.reduceSub, Nat.reduceMul, Nat.reduceLT, Nat.reduceLeDiff, Nat.reduceEqDiff, Int.reduceToNat, ↓reduceIte, hxe]
          apply AW_drawE [some 33, some 34, some 35, some 36, some 37, none] [([false], _), ([true], _)] [none, none, none, none, none, some 0] 1 [(0, [false], [9]), (1, [false], [1]), (2, [false], [34]), (3, [false], [5]), (4, [false], [33, 1, 0]), (5, [false], [9, 27])] [_, _, _, _, _, _]
          case' hm => exact dr
          case' hn => rfl
          case' hok => rfl
          case' hlen => rfl
          case' hd => rfl
          case' h0 => rfl
          case' hstep =>
           simp only [DAllG, push_cast, Option.isSome_some, Option.isSome_none]
           repeat' apply And.intro
           all_goals (apply DOne_V; simp only [push_cast, Nat.reduceAdd, Nat.reduceSub, Nat.reduceMul, Nat.reduceLT, Nat.reduceLeDiff, Nat.reduceEqDiff, Int.reduceToNat, ↓reduceIte] <;> first | exact rfl | omega | exact ⟨rfl, rfl⟩ | exact trivial | exact ⟨by omega, rfl⟩ | exact ⟨by omega, by omega, rfl⟩ | exact ⟨by omega, rfl, rfl⟩ | exact ⟨by omega, by omega, rfl, rfl⟩ | exact (ih _ (List.getElem_mem _) (by rw [← hxe]; exact hxm) p (by simp at hpl; omega) ⟨y, hy⟩ _).to ⟨rfl, rfl⟩)
          case' hQ => skip
          simp only [push_cast, Nat.reduceAdd, Nat.reduceSub, Nat.reduceMul, Nat.reduceLT, Nat.reduceLeDiff, Nat.reduceEqDiff, Int.reduceToNat, ↓reduceIte]
          refine app1_T _ (H.length + 4) (Y.take i) (setP xs[k.toNat] p x) _ rfl rfl (by exact (agetN _ _ 4).trans rfl) sl22 sz24 by24 zr24 rfl (by decide) (by simp; omega) ?_
          simp only [push_cast, Nat.reduceAdd, Nat.reduceSub, Nat.reduceMul, Nat.reduceLT, Nat.reduceLeDiff, Nat.reduceEqDiff, Int.reduceToNat, ↓reduceIte, ← hYe i (by omega) hik2, ← List.take_succ_eq_append_getElem (show i < Y.length by omega)]
          repeat' first | refine ⟨by omega, ?_⟩ | refine cI (fun _ => ?_) (fun _ => ?_)
          exact loopW_n (i + 1) (by omega) (by omega) (by simp only [push_cast, Nat.reduceAdd, Nat.reduceSub, Nat.reduceMul, Nat.reduceLT, Nat.reduceLeDiff, Nat.reduceEqDiff, Int.reduceToNat, ↓reduceIte])
        · refine (own_ac _ hxm _).to ?_
          simp only [push_cast, Nat.reduceAdd, Nat.reduceSub, Nat.reduceMul, Nat.reduceLT, Nat.reduceLeDiff, Nat.reduceEqDiff, Int.reduceToNat, ↓reduceIte]
          refine app1_T _ (H.length + 4) (Y.take i) xs[i] _ rfl rfl (by exact (agetN _ _ 4).trans rfl) sl22 sz24 by24 zr24 rfl (by decide) (by simp; omega) ?_
          simp only [push_cast, Nat.reduceAdd, Nat.reduceSub, Nat.reduceMul, Nat.reduceLT, Nat.reduceLeDiff, Nat.reduceEqDiff, Int.reduceToNat, ↓reduceIte, ← hYn i (by omega) (by omega) (by omega), ← List.take_succ_eq_append_getElem (show i < Y.length by omega)]
          repeat' first | refine ⟨by omega, ?_⟩ | refine cI (fun _ => ?_) (fun _ => ?_)
          exact loopW_n (i + 1) (by omega) (by omega) (by simp only [push_cast, Nat.reduceAdd, Nat.reduceSub, Nat.reduceMul, Nat.reduceLT, Nat.reduceLeDiff, Nat.reduceEqDiff, Int.reduceToNat, ↓reduceIte])
      · simp only [push_cast, Nat.reduceAdd, Nat.reduceSub, Nat.reduceMul, Nat.reduceLT, Nat.reduceLeDiff, Nat.reduceEqDiff, Int.reduceToNat, ↓reduceIte, List.take_of_length_le (show Y.length ≤ i by omega)]
    · cases hy
def zeroT : Term := .mk [] false []
@[reducible] def encRE (q : Term × Int) : AV := .tup [encT q.1, .int .i64 q.2]
def atE (t : Term) (p : List Int) : Term × Int := if checkP t = 0 then (match atP t p with | some x => (x, 0) | none => (zeroT, 8)) else (zeroT, checkP t)
def putE (t : Term) (p : List Int) (x : Term) : Term × Int := if checkP t = 0 then (match atP t p with | some _ => if checkP x = 0 then (if fitsP (putP t p x) then (putP t p x, 0) else (zeroT, 3)) else (zeroT, checkP x) | none => (zeroT, 8)) else (zeroT, checkP t)
theorem zeroT_n : zeroT.name = [] := rfl
theorem zeroT_v : zeroT.var = false := rfl
theorem zeroT_a : encTs zeroT.args = [] := encTs_nil
attribute [push_cast] zeroT_n zeroT_v zeroT_a
theorem at_ac (t : Term) (p : List Int) (hb : t.bulk ≤ 1099511627775) (hlen : p.length < 1099511627776) (H : List AObj) :
    ACall Tryd.prog 15 [encT t, .sl .none (encP p)] H (fun r H' => r = encRE (atE t p) ∧ H' = H) := by
  unfold atE
  refine ACall_V (H.length) 24 [.cell 4 24, .tmp 5] Tryd.func15 rfl rfl rfl ?_
  simp only [push_cast, Nat.reduceAdd, Nat.reduceSub, Nat.reduceMul, Nat.reduceLT, Nat.reduceLeDiff, Nat.reduceEqDiff, Int.reduceToNat, ↓reduceIte]
  refine (check_ac t hb _).to ?_
  simp only [push_cast, Nat.reduceAdd, Nat.reduceSub, Nat.reduceMul, Nat.reduceLT, Nat.reduceLeDiff, Nat.reduceEqDiff, Int.reduceToNat, ↓reduceIte]
  refine cI (fun h => ?_) (fun h => ?_)
  · refine (sub_ac t p hb hlen _).to ?_
    cases hx : atP t p with
    | none => simp only [push_cast, Nat.reduceAdd, Nat.reduceSub, Nat.reduceMul, Nat.reduceLT, Nat.reduceLeDiff, Nat.reduceEqDiff, Int.reduceToNat, ↓reduceIte, h]
    | some x =>
      simp only [push_cast, Nat.reduceAdd, Nat.reduceSub, Nat.reduceMul, Nat.reduceLT, Nat.reduceLeDiff, Nat.reduceEqDiff, Int.reduceToNat, ↓reduceIte]
      refine (own_ac x (Nat.le_trans (at_bulk _ _ _ hx) hb) _).to ?_
      simp only [push_cast, Nat.reduceAdd, Nat.reduceSub, Nat.reduceMul, Nat.reduceLT, Nat.reduceLeDiff, Nat.reduceEqDiff, Int.reduceToNat, ↓reduceIte, h]
  · simp only [push_cast, Nat.reduceAdd, Nat.reduceSub, Nat.reduceMul, Nat.reduceLT, Nat.reduceLeDiff, Nat.reduceEqDiff, Int.reduceToNat, ↓reduceIte, h]
theorem put_ac (t : Term) (p : List Int) (x : Term) (hb : t.bulk + x.bulk ≤ 1099511627775) (hlen : p.length < 1099511627776) (H : List AObj) :
    ACall Tryd.prog 16 [encT t, .sl .none (encP p), encT x] H (fun r H' => r = encRE (putE t p x) ∧ H' = H) := by
  unfold putE
  refine ACall_V (H.length) 37 [.cell 6 24, .tmp 7] Tryd.func16 rfl rfl rfl ?_
  simp only [push_cast, Nat.reduceAdd, Nat.reduceSub, Nat.reduceMul, Nat.reduceLT, Nat.reduceLeDiff, Nat.reduceEqDiff, Int.reduceToNat, ↓reduceIte]
  refine (check_ac t (by omega) _).to ?_
  simp only [push_cast, Nat.reduceAdd, Nat.reduceSub, Nat.reduceMul, Nat.reduceLT, Nat.reduceLeDiff, Nat.reduceEqDiff, Int.reduceToNat, ↓reduceIte]
  refine cI (fun h => ?_) (fun h => ?_)
  · refine (sub_ac t p (by omega) hlen _).to ?_
    cases hx : atP t p with
    | none => simp only [push_cast, Nat.reduceAdd, Nat.reduceSub, Nat.reduceMul, Nat.reduceLT, Nat.reduceLeDiff, Nat.reduceEqDiff, Int.reduceToNat, ↓reduceIte, h]
    | some y =>
      simp only [push_cast, Nat.reduceAdd, Nat.reduceSub, Nat.reduceMul, Nat.reduceLT, Nat.reduceLeDiff, Nat.reduceEqDiff, Int.reduceToNat, ↓reduceIte]
      refine (check_ac x (by omega) _).to ?_
      simp only [push_cast, Nat.reduceAdd, Nat.reduceSub, Nat.reduceMul, Nat.reduceLT, Nat.reduceLeDiff, Nat.reduceEqDiff, Int.reduceToNat, ↓reduceIte]
      refine cI (fun h2 => ?_) (fun h2 => ?_)
      · refine (set_ac x (by omega) t (by omega) p hlen ⟨y, hx⟩ _).to ?_
        have hpb := put_bulk x p t y hx
        rw [setP_put p t x y hx ((checkP_iff t).1 h).1]
        simp only [push_cast, Nat.reduceAdd, Nat.reduceSub, Nat.reduceMul, Nat.reduceLT, Nat.reduceLeDiff, Nat.reduceEqDiff, Int.reduceToNat, ↓reduceIte]
        refine (fit_ac _ (by omega) _).to ?_
        cases hf : fitsP (putP t p x) <;> simp only [push_cast, Nat.reduceAdd, Nat.reduceSub, Nat.reduceMul, Nat.reduceLT, Nat.reduceLeDiff, Nat.reduceEqDiff, Int.reduceToNat, ↓reduceIte, h, h2]
      · simp only [push_cast, Nat.reduceAdd, Nat.reduceSub, Nat.reduceMul, Nat.reduceLT, Nat.reduceLeDiff, Nat.reduceEqDiff, Int.reduceToNat, ↓reduceIte, h, h2]
  · simp only [push_cast, Nat.reduceAdd, Nat.reduceSub, Nat.reduceMul, Nat.reduceLT, Nat.reduceLeDiff, Nat.reduceEqDiff, Int.reduceToNat, ↓reduceIte, h]
end Ab
set_option maxRecDepth 10000
namespace Ab
open Go Go.Proofs
@[reducible] def encQ (p : List Int) : AV := .sl .none (encP p)
theorem uniQ (l : List (List Int)) : Uni (0 + 1) (encL encQ l) = True := eq_true (uni_encL (enc := encQ) (k := 1) (fun _ => rfl) l)
theorem scQ_ (n : Nat) (l : List (List Int)) : ScopedL n (encL encQ l) = True := eq_true (scoped_encL (fun p => by simp [Scoped, scoped_encP]) l)
theorem strip_encQ (n : Nat) (l : List (List Int)) : stripL n (encL encQ l) = encL encQ l := by rw [stripL_eq, encL, List.map_map]; congr 1; funext p; simp only [Function.comp, strip, stripTok, stripL_encP]
attribute [push_cast] uniQ scQ_ strip_encQ
def posP (t : Term) : List (List Int) := (walkT t []).map (·.1)
theorem posP_len (t : Term) : (posP t).length = t.size := by simp [posP, walkT_length]
theorem clone2_ac (p : List Int) (hb : p.length ≤ 1099511627776) (H : List AObj) : ACall Tryd.prog 56 [.sl .none (encP p)] H (fun r H' => r = encQ p ∧ H' = H) := by
  have hl : (encP p).length = p.length := encL_length _ _
  refine ACall_V (H.length) 7 [.tmp 2] Tryd.func56 rfl rfl rfl ?_
  simp only [push_cast, Nat.reduceAdd, Nat.reduceSub, Nat.reduceMul, Nat.reduceLT, Nat.reduceLeDiff, Nat.reduceEqDiff, Int.reduceToNat, ↓reduceIte]
  refine AOp_eql_nil _ _ rfl sl30 (fun b hb => ?_)
  simp only [push_cast, Nat.reduceAdd, Nat.reduceSub, Nat.reduceMul, Nat.reduceLT, Nat.reduceLeDiff, Nat.reduceEqDiff, Int.reduceToNat, ↓reduceIte]
  by_cases hp : p = []
  · subst hp
    refine cI (fun _ => ?_) (fun _ => ?_)
    · simp only [push_cast, Nat.reduceAdd, Nat.reduceSub, Nat.reduceMul, Nat.reduceLT, Nat.reduceLeDiff, Nat.reduceEqDiff, Int.reduceToNat, ↓reduceIte]
    · refine AOp_append_zero0 _ _ rfl rfl sl30 sz3 by3 zr3 ?_
      simp only [push_cast, Nat.reduceAdd, Nat.reduceSub, Nat.reduceMul, Nat.reduceLT, Nat.reduceLeDiff, Nat.reduceEqDiff, Int.reduceToNat, ↓reduceIte]
  · have hne : encP p ≠ [] := fun h => hp (List.eq_nil_of_length_eq_zero (by rw [← hl, h]; rfl))
    have hfl : flat (encP p) ≠ [] := fun h => by
      have := flat_length (uni_encP p)
      rw [h, hl] at this
      have := List.length_pos_iff.2 hp
      simp at *; omega
    refine cI (fun hb' => by rw [hb hfl] at hb'; cases hb') (fun _ => ?_)
    refine AOp_append_zero _ _ _ rfl rfl sl30 sz3 by3 zr3 rfl (by decide) (uni_encP p) (cell_encP p) hne (by omega) (by omega) ?_
    simp only [push_cast, Nat.reduceAdd, Nat.reduceSub, Nat.reduceMul, Nat.reduceLT, Nat.reduceLeDiff, Nat.reduceEqDiff, Int.reduceToNat, ↓reduceIte]
theorem walkL_pos (xs : List Term) : ∀ (i : Int) (q : List Int) x, x ∈ walkL xs i q → x.1.length ≤ q.length + (xs.map Term.size).sum := by
  have key : ∀ n (xs : List Term), (xs.map Term.size).sum < n → ∀ (i : Int) (q : List Int) x, x ∈ walkL xs i q → x.1.length ≤ q.length + (xs.map Term.size).sum := by
    intro n
    induction n with
    | zero => intro xs h; omega
    | succ n ih =>
      intro xs hn i q x hx
      cases xs with
      | nil => simp [walkL] at hx
      | cons t r =>
        cases t with
        | mk nm v ys =>
          simp only [List.map_cons, List.sum_cons, Term.size_mk] at hn ⊢
          simp only [walkL, List.mem_cons, List.mem_append] at hx
          rcases hx with rfl | hx | hx
          · simp; omega
          · have := ih ys (by omega) 0 _ x hx; simp at this; omega
          · have := ih r (by omega) _ _ x hx; omega
  exact key _ xs (Nat.lt_succ_self _)
theorem walk_pos_len (t : Term) (q : List Int) : ∀ x, x ∈ walkT t q → x.1.length < q.length + t.size := by
  intro x hx
  cases t with
  | mk n v xs =>
    rw [Term.size_mk]
    simp only [walkT, List.mem_cons, Term.mk_args] at hx
    rcases hx with rfl | hx
    · simp; omega
    · have := walkL_pos xs 0 q x hx; omega
theorem positions_ac (t : Term) (hb : t.bulk ≤ 1099511627775) (H : List AObj) : ACall Tryd.prog 14 [encT t] H
    (fun r H' => r = (if checkP t = 0 then .tup [.sl .none (encL encQ (posP t)), .int .i64 0] else .tup [.sl .none [], .int .i64 (checkP t)]) ∧ H' = H) := by
  have hsz := t.size_le
  refine ACall_V (H.length) 21 [.tmp 2, .tmp 3] Tryd.func14 rfl rfl rfl ?_
  simp only [push_cast, Nat.reduceAdd, Nat.reduceSub, Nat.reduceMul, Nat.reduceLT, Nat.reduceLeDiff, Nat.reduceEqDiff, Int.reduceToNat, ↓reduceIte]
  refine (check_ac t hb _).to ?_
  simp only [push_cast, Nat.reduceAdd, Nat.reduceSub, Nat.reduceMul, Nat.reduceLT, Nat.reduceLeDiff, Nat.reduceEqDiff, Int.reduceToNat, ↓reduceIte]
  refine cI (fun h => ?_) (fun h => ?_)
  · refine (walkF_ac t _).to ?_
    simp only [push_cast, Nat.reduceAdd, Nat.reduceSub, Nat.reduceMul, Nat.reduceLT, Nat.reduceLeDiff, Nat.reduceEqDiff, Int.reduceToNat, ↓reduceIte]
    refine AW_reserve 1 ?_
    refine AW_iterW _ _ (walk_iter t hb _) H (fun pre => [.cells [.str t.name, .bool t.var, .sl .none (encTs t.args)], .cells [gSl (H.length + 3) (encL encQ (pre.map (·.1)))], .cells [.str t.name, .bool t.var, .sl .none (encTs t.args)], gTok 30 1 (encL encQ (pre.map (·.1)))]) 4 (fun _ _ => none) rfl ok96 (by simp only [push_cast, Nat.reduceAdd, Nat.reduceSub, Nat.reduceMul, Nat.reduceLT, Nat.reduceLeDiff, Nat.reduceEqDiff, Int.reduceToNat, ↓reduceIte]) (fun _ => rfl) (fun lp => by simp only [push_cast, Nat.reduceAdd, Nat.reduceSub, Nat.reduceMul, Nat.reduceLT, Nat.reduceLeDiff, Nat.reduceEqDiff, Int.reduceToNat, ↓reduceIte]) (fun p => by simp only [push_cast, Nat.reduceAdd, Nat.reduceSub, Nat.reduceMul, Nat.reduceLT, Nat.reduceLeDiff, Nat.reduceEqDiff, Int.reduceToNat, ↓reduceIte]) (fun _ => rfl) (fun pre x suf X l lp lp' he hn => ?_) (fun _ lp => ?_) (fun pre x suf c lp _ _ h => by cases h)
    · have hx := walk_pos_len t [] x (by rw [he]; simp)
      have hpl : pre.length < t.size := by have := walkT_length t []; rw [he] at this; simp at this; omega
      simp only [push_cast, Nat.reduceAdd, Nat.reduceSub, Nat.reduceMul, Nat.reduceLT, Nat.reduceLeDiff, Nat.reduceEqDiff, Int.reduceToNat, ↓reduceIte, List.drop_length]
      apply AW_drawE [some 16, some 17, some 18, some 19, some 20, none] [([false, false], _), ([true, false], _), ([true, true], _)] [none, none, none, none, some 0, some 1] 2 [(0, [false, false], [5]), (1, [false, false], [6]), (2, [false, false], [17]), (3, [false, false], [18]), (4, [false, false], [16, 2]), (5, [true, false], [5, 14]), (1, [true, false], [6])] [_, _, _, _, _, _]
      case' hm => exact dr
      case' hn => rfl
      case' hok => rfl
      case' hlen => rfl
      case' hd => rfl
      case' h0 => rfl
      case' hstep =>
       simp only [DAllG, push_cast, Option.isSome_some, Option.isSome_none]
       repeat' apply And.intro
       all_goals (apply DOne_V; simp only [push_cast, Nat.reduceAdd, Nat.reduceSub, Nat.reduceMul, Nat.reduceLT, Nat.reduceLeDiff, Nat.reduceEqDiff, Int.reduceToNat, ↓reduceIte] <;> first | exact rfl | omega | exact ⟨rfl, rfl⟩ | exact trivial | exact ⟨by omega, rfl⟩ | exact ⟨by omega, by omega, rfl⟩ | exact ⟨by omega, rfl, rfl⟩ | exact ⟨by omega, by omega, rfl, rfl⟩ | exact (clone2_ac x.1 (by simp at hx; omega) _).to ⟨rfl, rfl⟩ | (refine app1_L encQ (sz := 1) (fun _ => rfl) (by intro x c hc; simp [AV.cells] at hc; subst hc; rfl) _ (H.length + 3) (pre.map (·.1)) x.1 _ rfl rfl (by exact (agetN _ _ 3).trans rfl) sl31 sz30 by30 zr30 rfl (by decide) (by decide) (by simp; omega) ?_; simp only [push_cast, Nat.reduceAdd, Nat.reduceSub, Nat.reduceMul, Nat.reduceLT, Nat.reduceLeDiff, Nat.reduceEqDiff, Int.reduceToNat, ↓reduceIte]; exact ⟨rfl, rfl⟩))
      case' hQ => skip
      simp only [push_cast, Nat.reduceAdd, Nat.reduceSub, Nat.reduceMul, Nat.reduceLT, Nat.reduceLeDiff, Nat.reduceEqDiff, Int.reduceToNat, ↓reduceIte]
      simp
    · simp only [push_cast, Nat.reduceAdd, Nat.reduceSub, Nat.reduceMul, Nat.reduceLT, Nat.reduceLeDiff, Nat.reduceEqDiff, Int.reduceToNat, ↓reduceIte, h, posP]
  · simp only [push_cast, Nat.reduceAdd, Nat.reduceSub, Nat.reduceMul, Nat.reduceLT, Nat.reduceLeDiff, Nat.reduceEqDiff, Int.reduceToNat, ↓reduceIte, h]
end Ab
namespace Go.Proofs
open Go.Shelf Go.Sort Go.RowKit
def Tryd.laysM171_ren : Go.Shelf.Ren := ⟨fun | 171 => 92 | 243 => 111 | 246 => 126 | 283 => 141 | 284 => 142 | 285 => 143 | 286 => 144 | 129 => 125 | 317 => 150 | 318 => 151 | 319 => 152 | 320 => 153 | 337 => 155 | 338 => 156 | n => n, fun | 3 => 3 | 9 => 9 | 2 => 2 | 4 => 4 | 171 => 151 | 0 => 0 | 53 => 138 | 37 => 88 | 5 => 5 | 173 => 153 | 212 => 161 | 51 => 136 | 20 => 20 | 213 => 162 | 46 => 124 | 232 => 164 | 233 => 165 | n => n, fun | 17 => 1 | 18 => 2 | 19 => 3 | n => n⟩
theorem Tryd.laysM171 : Go.Proofs.LaysM.n171 Tryd.prog Tryd.laysM171_ren := {
  mixed := by kernel_rfl
  f129 := Tryd.func125.trans (congrArg some (by kernel_rfl))
  f171 := Tryd.func92.trans (congrArg some (by kernel_rfl))
  f243 := Tryd.func111.trans (congrArg some (by kernel_rfl))
  f246 := Tryd.func126.trans (congrArg some (by kernel_rfl))
  f283 := Tryd.func141.trans (congrArg some (by kernel_rfl))
  f284 := Tryd.func142.trans (congrArg some (by kernel_rfl))
  f285 := Tryd.func143.trans (congrArg some (by kernel_rfl))
  f286 := Tryd.func144.trans (congrArg some (by kernel_rfl))
  f317 := Tryd.func150.trans (congrArg some (by kernel_rfl))
  f318 := Tryd.func151.trans (congrArg some (by kernel_rfl))
  f319 := Tryd.func152.trans (congrArg some (by kernel_rfl))
  f320 := Tryd.func153.trans (congrArg some (by kernel_rfl))
  f337 := Tryd.func155.trans (congrArg some (by kernel_rfl))
  f338 := Tryd.func156.trans (congrArg some (by kernel_rfl))
  t0 := Tryd.underlying0
  a0 := Tryd.isAgg0
  z0 := Tryd.sizeOf0
  v0 := Tryd.zeroValue0
  t2 := Tryd.underlying2
  a2 := Tryd.isAgg2
  z2 := Tryd.sizeOf2
  v2 := Tryd.zeroValue2
  t3 := Tryd.underlying3
  a3 := Tryd.isAgg3
  z3 := Tryd.sizeOf3
  v3 := Tryd.zeroValue3
  t4 := Tryd.underlying4
  a4 := Tryd.isAgg4
  z4 := Tryd.sizeOf4
  v4 := Tryd.zeroValue4
  t5 := Tryd.underlying5
  a5 := Tryd.isAgg5
  z5 := Tryd.sizeOf5
  v5 := Tryd.zeroValue5
  t9 := Tryd.underlying9
  a9 := Tryd.isAgg9
  z9 := Tryd.sizeOf9
  v9 := Tryd.zeroValue9
  t20 := Tryd.underlying20
  a20 := Tryd.isAgg20
  z20 := Tryd.sizeOf20
  v20 := Tryd.zeroValue20
  t37 := Tryd.underlying88
  a37 := Tryd.isAgg88
  z37 := Tryd.sizeOf88
  v37 := Tryd.zeroValue88
  t46 := Tryd.underlying124
  a46 := Tryd.isAgg124
  z46 := Tryd.sizeOf124
  v46 := Tryd.zeroValue124
  t51 := Tryd.underlying136
  a51 := Tryd.isAgg136
  z51 := Tryd.sizeOf136
  v51 := Tryd.zeroValue136
  t53 := Tryd.underlying138
  a53 := Tryd.isAgg138
  z53 := Tryd.sizeOf138
  v53 := Tryd.zeroValue138
  t171 := Tryd.underlying151
  a171 := Tryd.isAgg151
  z171 := Tryd.sizeOf151
  v171 := Tryd.zeroValue151
  t173 := Tryd.underlying153
  a173 := Tryd.isAgg153
  z173 := Tryd.sizeOf153
  v173 := Tryd.zeroValue153
  t212 := Tryd.underlying161
  a212 := Tryd.isAgg161
  z212 := Tryd.sizeOf161
  v212 := Tryd.zeroValue161
  t213 := Tryd.underlying162
  a213 := Tryd.isAgg162
  z213 := Tryd.sizeOf162
  t232 := Tryd.underlying164
  a232 := Tryd.isAgg164
  z232 := Tryd.sizeOf164
  v232 := Tryd.zeroValue164
  t233 := Tryd.underlying165
  a233 := Tryd.isAgg165
  z233 := Tryd.sizeOf165
  v233 := Tryd.zeroValue165
  g17 := by kernel_rfl
  g18 := by kernel_rfl
  g19 := by kernel_rfl
  i0 := by kernel_rfl
  i2 := by kernel_rfl
  i3 := by kernel_rfl
  i4 := by kernel_rfl
  i5 := by kernel_rfl
  i9 := by kernel_rfl
  i20 := by kernel_rfl
  i37 := by kernel_rfl
  i46 := by kernel_rfl
  i51 := by kernel_rfl
  i53 := by kernel_rfl
  i171 := by kernel_rfl
  i173 := by kernel_rfl
  i212 := by kernel_rfl
  i232 := by kernel_rfl
  i233 := by kernel_rfl
  m17 := by kernel_rfl
  m18 := by kernel_rfl
  m19 := by kernel_rfl }
theorem Tryd.strconv_Itoa (n : Int) (h0 : -9223372036854775808 ≤ n) (h1 : n ≤ 9223372036854775807) (w : World) (htab : Lib.TabIs Tryd.prog w "internal/strconv.uint64pow10" .u64 Lib.pow10Tab) :
    Calls Tryd.prog 92 #[.int .i64 n] w fun e w' => e = .returned (.string ⟨(Lib.itoa n).toArray⟩) ∧ ∃ k os, w' = grow (w.drewN k) os := Any.strconv_Itoa Tryd.laysM171 n h0 h1 w htab
end Go.Proofs
set_option maxRecDepth 10000
namespace Ab
open Go Go.Proofs Go.Proofs.YtakpnikkcinckaaDoor
section
variable {H : Type}
theorem kdStr : kindOf Tryd.prog 9 = .str := by kernel_rfl
theorem kdInt : kindOf Tryd.prog 3 = .int .i64 := by kernel_rfl
theorem kdBool : kindOf Tryd.prog 4 = .bool := by kernel_rfl
theorem kdTerm : kindOf Tryd.prog 24 = .struct [9, 4, 22] := by kernel_rfl
theorem kdTerms : kindOf Tryd.prog 22 = .slice 24 := by kernel_rfl
theorem agTerm : aggK Tryd.prog 24 = true := by unfold aggK; rw [kdTerm]
theorem bulkAll_sum : ∀ ds : List (DataW H), Rows.uptoBulkAll ds = (ds.map Rows.uptoBulk).sum
  | [] => by simp [Rows.uptoBulkAll]
  | d :: ds => by simp [Rows.uptoBulkAll, bulkAll_sum ds]
theorem bulk_pos (d : DataW H) : 1 ≤ Rows.uptoBulk d := by
  cases d with
  | lit l => cases l <;> simp [Rows.uptoBulk]
  | _ => simp [Rows.uptoBulk]
theorem bulk_row {d : DataW H} {ds : List (DataW H)} (h : (d = .nil ∧ ds = []) ∨ ∃ sp, d = .slice ds sp) : (ds.map Rows.uptoBulk).sum + 1 ≤ Rows.uptoBulk d := by
  rcases h with ⟨rfl, rfl⟩ | ⟨sp, rfl⟩
  · simp [Rows.uptoBulk]
  · rw [← bulkAll_sum]; simp only [Rows.uptoBulk]; omega
theorem term_form : ∀ (n : Nat) (d : DataW H) (avs : List AV), toAV Tryd.prog n 24 d = some avs → ∃ t : Term, .agg avs = encT t ∧ t.bulk ≤ Rows.uptoBulk d := by
  intro n
  induction n using Nat.strongRecOn with
  | ind n ih =>
    intro d avs h
    obtain ⟨m, parts, avss, rfl, rfl, hl, hm, rfl⟩ := toAV_struct kdTerm h
    match parts, hl, hm with
    | [d1, d2, d3], _, hm =>
      obtain ⟨h1, h2⟩ := mapM_get hm
      match avss, h1, h2 with
      | [a1, a2, a3], _, h2 =>
        obtain ⟨bs, rfl, rfl⟩ := toAV_str kdStr (h2 0 (by simp) (by simp))
        obtain ⟨b, rfl, rfl⟩ := toAV_bool kdBool (h2 1 (by simp) (by simp))
        obtain ⟨xs, ds, e3, hw, _, hd⟩ := row_form encT Term.bulk Rows.uptoBulk kdTerms (n := m) (fun k d avs hk he => by
          obtain ⟨t, x1, x2⟩ := ih k (by omega) d avs he
          exact ⟨t, by rw [agTerm]; exact x1, x2⟩) (h2 2 (by simp) (by simp))
        simp only [List.getElem_cons_succ, List.getElem_cons_zero] at e3 hd
        subst e3
        have hb := bulk_row (d := d3) hd
        simp only [Rows.uptoBulk, Rows.uptoBulkAll]
        refine ⟨.mk bs b xs, ?_, ?_⟩
        · simp [Term.name, Term.var, Term.args, encTs_map]
        · rw [Term.bulk_mk]; omega
theorem kdPos : kindOf Tryd.prog 30 = .slice 3 := by kernel_rfl
theorem agInt : aggK Tryd.prog 3 = false := by unfold aggK; rw [kdInt]
theorem pos_form (n : Nat) (d : DataW H) (avs : List AV) (h : toAV Tryd.prog n 30 d = some avs) : ∃ p : List Int, avs = [.sl .none (encP p)] ∧ p.length ≤ Rows.uptoBulk d := by
  obtain ⟨xs, ds, e3, hw, hl, hd⟩ := row_form (fun i : Int => AV.int .i64 i) (fun _ => 1) Rows.uptoBulk kdPos (n := n) (fun k d avs _ he => by
    obtain ⟨i, rfl, rfl⟩ := toAV_int kdInt he
    exact ⟨i, by rw [agInt]; rfl, bulk_pos _⟩) h
  have hb := bulk_row hd
  have h1 : xs.length ≤ (xs.map fun _ : Int => 1).sum := by
    clear hw hl e3
    induction xs with
    | nil => simp
    | cons x xs ih => simp only [List.map_cons, List.sum_cons, List.length_cons]; omega
  exact ⟨xs, e3, by omega⟩
end
theorem tabW_of {W : World} (h : laidMetH Tryd.prog Rows.termPlacesUptoRow.laid W) : TabW W := fun _ => by
  rw [MakeChecks.laidMetH_plain _ _ _ (by kernel_rfl)] at h
  have h3 : laidMet Tryd.prog [("internal/strconv.uint64pow10", Lib.tabData .u64 Lib.pow10Tab)] W := h.tail.tail
  have h4 := Lib.tabIs_of_head (g := 1) (t := 161) (e := 138) (n := 20) (by kernel_rfl) (by kernel_rfl) (by kernel_rfl) (by kernel_rfl) (by kernel_rfl) (by kernel_rfl) h3
  unfold Lib.TabIs World.var? at h4
  rw [show Tryd.prog.globalNamed "internal/strconv.uint64pow10" = some 1 by kernel_rfl] at h4
  simp only [Option.bind_some] at h4
  split at h4
  · rename_i cs e fr he
    injection h4 with h4
    exact ⟨e, fr, by show W.heap[1]? = _; rw [he, h4]; rfl⟩
  · cases h4
theorem itoa_ac (i : Nat) (H : List AObj) (hi : i < 1099511627776) : ACall Tryd.prog 92 [.int .i64 (i : Nat)] H (fun r H' => r = .str (Lib.decDigits i) ∧ H' = H) := by
  intro C vs hg hH hsz hv
  match vs, hsz, hv with
  | ⟨[v]⟩, _, hv =>
    have h0 := hv 0 (by simp) (by simp)
    simp only [List.getElem_cons_zero] at h0
    cases h0 with
    | int k n =>
      obtain ⟨⟨e, fr, htb⟩, _⟩ := hg.tab rfl
      have htab : Lib.TabIs Tryd.prog C.w "internal/strconv.uint64pow10" .u64 Lib.pow10Tab := by
        unfold Lib.TabIs World.var?
        rw [show Tryd.prog.globalNamed "internal/strconv.uint64pow10" = some tabB by kernel_rfl]
        simp only [Option.bind_some, htb]; rfl
      refine (Tryd.strconv_Itoa (i : Int) (by omega) (by omega) C.w htab).mono fun e w' ⟨he, k, os, hw⟩ => ?_
      subst hw
      obtain ⟨hg', hx'⟩ := step_more hg (Go.Sort.grow (C.w.drewN k) os) os rfl ⟨rfl, rfl, rfl⟩
      refine ⟨_, .str (Lib.decDigits i), _, he, rfl, hg', hx', ?_, rfl, hH⟩
      rw [Lib.itoa_nonneg]
      exact .str _
end Ab
set_option maxRecDepth 10000
namespace Ab
open Go Go.Proofs
section
variable {S : Type} (f : S → List UInt8 → S × List UInt8)
def renL : S → List Term → S × List Term
  | s, [] => (s, [])
  | s, .mk n v xs :: r => if v then ((renL (f s n).1 r).1, .mk (f s n).2 true [] :: (renL (f s n).1 r).2) else ((renL (renL s xs).1 r).1, .mk n false (renL s xs).2 :: (renL (renL s xs).1 r).2)
def renP (s : S) (t : Term) : S × Term := match t with
  | .mk n v xs => if v then ((f s n).1, .mk (f s n).2 true []) else ((renL f s xs).1, .mk n false (renL f s xs).2)
theorem renL_cons (s : S) (t : Term) (r : List Term) : renL f s (t :: r) = ((renL f (renP f s t).1 r).1, (renP f s t).2 :: (renL f (renP f s t).1 r).2) := by
  cases t with | mk n v xs => cases v <;> simp [renL, renP]
theorem renL_snoc : ∀ (xs : List Term) (s : S) (t : Term), renL f s (xs ++ [t]) = ((renP f (renL f s xs).1 t).1, (renL f s xs).2 ++ [(renP f (renL f s xs).1 t).2])
  | [], s, t => by rw [List.nil_append, renL_cons]; simp [renL]
  | x :: xs, s, t => by rw [List.cons_append, renL_cons, renL_snoc xs _ t, renL_cons]; simp
theorem renL_length : ∀ (xs : List Term) (s : S), (renL f s xs).2.length = xs.length
  | [], s => by simp [renL]
  | x :: xs, s => by rw [renL_cons]; simp [renL_length xs]
theorem ren_mu (μ : S → Nat) (hμ : ∀ s v, μ (f s v).1 ≤ μ s + 1) (t : Term) : ∀ s, μ (renP f s t).1 ≤ μ s + t.size := by
  induction t using Term.ind with | _ n v xs ih
  intro s
  have key : ∀ (xs : List Term), (∀ x, x ∈ xs → ∀ s, μ (renP f s x).1 ≤ μ s + x.size) → ∀ s, μ (renL f s xs).1 ≤ μ s + (xs.map Term.size).sum := by
    intro xs
    induction xs with
    | nil => intro _ s; simp [renL]
    | cons x xs ih2 =>
      intro h s
      have h1 := h x (by simp) s
      have h2 := ih2 (fun y hy => h y (by simp [hy])) (renP f s x).1
      rw [renL_cons]; simp only [List.map_cons, List.sum_cons]; omega
  rw [Term.size_mk]
  cases v with
  | true => have := hμ s n; simp [renP]; omega
  | false => have := key xs ih s; simp [renP]; omega
theorem renL_mu (μ : S → Nat) (hμ : ∀ s v, μ (f s v).1 ≤ μ s + 1) : ∀ (xs : List Term) s, μ (renL f s xs).1 ≤ μ s + (xs.map Term.size).sum
  | [], s => by simp [renL]
  | x :: xs, s => by
    have h1 := ren_mu f μ hμ x s
    have h2 := renL_mu μ hμ xs (renP f s x).1
    rw [renL_cons]; simp only [List.map_cons, List.sum_cons]; omega
theorem renamed_ac (hp : S → List AObj) (n : Nat) (hlen : ∀ s, (hp s).length = n) (hsc : ∀ s o, o ∈ hp s → OScoped n o) (μ : S → Nat) (hμ : ∀ s v, μ (f s v).1 ≤ μ s + 1) (K : Nat) (g : Nat) (caps : List AV) (hg : callOk Tryd.prog g = true) (hcp : ScopedL n caps)
    (hf : ∀ s v X, μ s < K → v.length ≤ 1099511627775 → ACall Tryd.prog g (.str v :: caps) (hp s ++ X) (fun r H' => r = .str (f s v).2 ∧ H' = hp (f s v).1 ++ X)) (t : Term) :
    t.bulk ≤ 1099511627775 → ∀ s X, μ s + t.size ≤ K → ACall Tryd.prog 70 [encT t, .fn g caps] (hp s ++ X) (fun r H' => r = encT (renP f s t).2 ∧ H' = hp (renP f s t).1 ++ X) := by
  induction t using Term.ind with | _ nm v xs ih
  intro hb s X hK
  have hlen2 := Term.len_le (n := nm) (v := v) (xs := xs)
  have hnl := Term.name_le (n := nm) (v := v) (xs := xs)
  rw [Term.size_mk] at hK
  obtain ⟨G, hG⟩ : ∃ G : S → List AObj, ∀ s, G s = hp s ++ X := ⟨fun s => hp s ++ X, fun _ => rfl⟩
  obtain ⟨N, hN⟩ : ∃ N, N = n + X.length := ⟨_, rfl⟩
  have hGl : ∀ s, (G s).length = N := fun s => by rw [hG, hN]; simp [hlen]
  have hg0 : ∀ s L, (G s ++ L)[N]? = L[0]? := fun q L => by have := agetN (G q) L 0; rw [hGl] at this; exact this
  have hgk : ∀ s L k, (G s ++ L)[N + k]? = L[k]? := fun q L k => by rw [← hGl q]; exact agetN _ _ _
  have ht0 : ∀ s L, (G s ++ L).take N = G s := fun q L => takeE0 (hGl q)
  have htk : ∀ s L k, (G s ++ L).take (N + k) = G s ++ L.take k := fun q L k => takeEN (hGl q)
  have hsk : ∀ s L k x, (G s ++ L).set (N + k) x = G s ++ L.set k x := fun q L k x => hsetEN (hGl q)
  have hs0 : ∀ s L x, (G s ++ L).set N x = G s ++ L.set 0 x := fun q L x => hsetE0 (hGl q)
  have hout : ∀ q k L, scT (N + k) k L → OutOk (G s) (G q ++ L) (N + k) := fun q k L h => by
    rw [hG, hG]; exact outok_hp k (by rw [hlen, hlen]) (fun o ho => by rw [hlen]; exact hsc _ o ho) (by simp [hlen, hN]) (scT_spec h).1 (scT_spec h).2
  have hou0 : ∀ q L, OutOk (G s) (G q ++ L) N = True := fun q L => eq_true (hout q 0 L trivial)
  have houk : ∀ q k L, scT (N + k) k L → OutOk (G s) (G q ++ L) (N + k) = True := fun q k L h => eq_true (hout q k L h)
  have hcpk : ∀ k, ScopedL (N + k) caps := fun k => scopedL_le (n := n) (by omega) caps hcp
  have hcp0 : ScopedL N caps := scopedL_le (n := n) (by omega) caps hcp
  have hf' : ∀ q v L, μ q < K → v.length ≤ 1099511627775 → ACall Tryd.prog g (.str v :: caps) (G q ++ L) (fun r H' => r = .str (f q v).2 ∧ H' = G (f q v).1 ++ L) := fun q v L h1 h2 => by
    have := hf q v (X ++ L) h1 h2
    simpa only [hG, List.append_assoc] using this
  have ih' : ∀ x, x ∈ xs → ∀ q L, μ q + x.size ≤ K → ACall Tryd.prog 70 [encT x, .fn g caps] (G q ++ L) (fun r H' => r = encT (renP f q x).2 ∧ H' = G (renP f q x).1 ++ L) := fun x hx q L h1 => by
    have hbx := Term.arg_le (n := nm) (v := v) hx
    have := ih x hx (by omega) q (X ++ L) h1
    simpa only [hG, List.append_assoc] using this
  have hgoal : ∀ (r : AV) (H' : List AObj), (r = encT (renP f s (.mk nm v xs)).2 ∧ H' = G (renP f s (.mk nm v xs)).1) → (r = encT (renP f s (.mk nm v xs)).2 ∧ H' = hp (renP f s (.mk nm v xs)).1 ++ X) := fun r H' h => by rw [← hG]; exact h
  rw [← hG]
  refine ACall.mono ?_ hgoal
  clear hgoal hG
  refine ACall_V (N) 33 [.cell 4 24] Tryd.func70 rfl rfl rfl ?_
  simp only [push_cast, Nat.reduceAdd, Nat.reduceSub, Nat.reduceMul, Nat.reduceLT, Nat.reduceLeDiff, Nat.reduceEqDiff, Int.reduceToNat, ↓reduceIte, hGl, hg0, hgk, hsk, hs0, hg]
  refine cI (fun hv => ?_) (fun hv => ?_)
  · subst hv
    refine (hf' s nm _ (by omega) (by omega)).to ?_
    simp only [push_cast, Nat.reduceAdd, Nat.reduceSub, Nat.reduceMul, Nat.reduceLT, Nat.reduceLeDiff, Nat.reduceEqDiff, Int.reduceToNat, ↓reduceIte, hGl, hg0, hgk, hsk, hs0, hou0, ht0, renP]
  · have hv : v = false := by simpa using hv
    subst hv
    refine AW_reserve 1 ?_
    refine AW_loopW (maskG 35 [1, 2, 0, 13, 0, 0]) (fun (i : Nat) => [(21, .int .i64 i)]) (fun i => G (renL f s (xs.take i)).1 ++ [.cells [.str nm, .bool false, .sl .none (encTs xs)], .cells [.str [], .bool false, .sl .zero []], .cells [.str nm, .bool false, gSl (N + 3) (encTs (renL f s (xs.take i)).2)], gTok 24 3 (encTs (renL f s (xs.take i)).2)]) (fun i => i ≤ xs.length) (fun i => xs.length - i) 0 (Nat.zero_le _) (by simp only [push_cast, Nat.reduceAdd, Nat.reduceSub, Nat.reduceMul, Nat.reduceLT, Nat.reduceLeDiff, Nat.reduceEqDiff, Int.reduceToNat, ↓reduceIte, hGl, houk, htk, hcpk, renL]) (fun i hi => ?_)
    simp only [push_cast, Nat.reduceAdd, Nat.reduceSub, Nat.reduceMul, Nat.reduceLT, Nat.reduceLeDiff, Nat.reduceEqDiff, Int.reduceToNat, ↓reduceIte, hGl, hg0, hgk, hsk, hs0, hou0, ht0]
    refine cI (fun h => ?_) (fun h => ?_)
    · repeat refine ⟨by omega, ?_⟩
      have hrl := renL_length f (xs.take i) s
      have hmu := renL_mu f μ hμ (xs.take i) s
      have hts := take_sum Term.size xs i (by omega)
      have htl := take_sum_le Term.size xs (i + 1)
      apply AW_drawE [some 25, some 26, some 27, some 28, some 29, some 30, some 31, some 32, none] [([false, false, false], _), ([true, false, false], _), ([true, true, false], _), ([true, true, true], _)] [none, none, none, none, some 0, none, some 1, none, some 2] 3 [(0, [false, false, false], [5]), (1, [false, false, false], [25]), (2, [false, false, false], [7]), (3, [false, false, false], [1]), (4, [false, false, false], [27, 0]), (5, [true, false, false], [29]), (6, [true, false, false], [26, 3]), (7, [true, true, false], [5]), (8, [true, true, false], [31, 0]), (0, [true, false, false], [5]), (0, [true, true, false], [5]), (1, [true, false, false], [25])] [_, _, _, _, _, _, _, _, _]
      case' hm => exact dr
      case' hn => rfl
      case' hok => rfl
      case' hlen => rfl
      case' hd => rfl
      case' h0 => rfl
      case' hstep =>
       simp only [DAllG, push_cast, Option.isSome_some, Option.isSome_none]
       repeat' apply And.intro
       all_goals (apply DOne_V; simp only [push_cast, Nat.reduceAdd, Nat.reduceSub, Nat.reduceMul, Nat.reduceLT, Nat.reduceLeDiff, Nat.reduceEqDiff, Int.reduceToNat, ↓reduceIte, hGl, hg0, hgk, hsk, hs0] <;> first | exact rfl | omega | exact ⟨rfl, rfl⟩ | exact trivial | exact ⟨by omega, rfl⟩ | exact ⟨by omega, by omega, rfl⟩ | exact ⟨by omega, rfl, rfl⟩ | exact ⟨by omega, by omega, rfl, rfl⟩ | exact (ih' _ (List.getElem_mem _) _ _ (by omega)).to ⟨rfl, rfl⟩ | (refine app1_T _ (N + 3) (renL f s (xs.take i)).2 (renP f (renL f s (xs.take i)).1 xs[i]).2 _ rfl rfl (by exact (hgk _ _ 3).trans rfl) sl22 sz24 by24 zr24 rfl (by decide) (by rw [hrl]; simp; omega) ?_; simp only [push_cast, Nat.reduceAdd, Nat.reduceSub, Nat.reduceMul, Nat.reduceLT, Nat.reduceLeDiff, Nat.reduceEqDiff, Int.reduceToNat, ↓reduceIte, hGl, hg0, hgk, hsk, hs0]; exact ⟨rfl, rfl⟩))
      case' hQ => skip
      simp only [push_cast, Nat.reduceAdd, Nat.reduceSub, Nat.reduceMul, Nat.reduceLT, Nat.reduceLeDiff, Nat.reduceEqDiff, Int.reduceToNat, ↓reduceIte, hGl, hg0, hgk, hsk, hs0, hou0, ht0]
      repeat' first | refine ⟨by omega, ?_⟩ | refine cI (fun _ => ?_) (fun _ => ?_)
      exact loopW_n (i + 1) (by omega) (by omega) (by simp only [push_cast, Nat.reduceAdd, Nat.reduceSub, Nat.reduceMul, Nat.reduceLT, Nat.reduceLeDiff, Nat.reduceEqDiff, Int.reduceToNat, ↓reduceIte, List.take_succ_eq_append_getElem (show i < xs.length by omega), renL_snoc, hGl, houk, htk, hcpk])
    · simp only [push_cast, Nat.reduceAdd, Nat.reduceSub, Nat.reduceMul, Nat.reduceLT, Nat.reduceLeDiff, Nat.reduceEqDiff, Int.reduceToNat, ↓reduceIte, List.take_of_length_le (show xs.length ≤ i by omega), renP]
end
end Ab
set_option maxRecDepth 10000
namespace Ab
open Go Go.Proofs
def xName (i : Nat) : List UInt8 := 120 :: Lib.decDigits i
def stdF (l : List (List UInt8)) (v : List UInt8) : List (List UInt8) × List UInt8 := if v ∈ l then (l, xName (l.idxOf v)) else (l ++ [v], xName l.length)
def stdM (l : List (List UInt8)) : List (List UInt8 × List UInt8) := l.zipIdx.map fun p => (p.1, xName p.2)
theorem stdF_len (l : List (List UInt8)) (v : List UInt8) : (stdF l v).1.length ≤ l.length + 1 := by unfold stdF; split <;> simp
theorem stdM_get (l : List (List UInt8)) (v : List UInt8) : aget (stdM l) v = if v ∈ l then some (xName (l.idxOf v)) else none := by
  have key : ∀ (l : List (List UInt8)) (k : Nat), aget ((l.zipIdx k).map fun p => (p.1, xName p.2)) v = if v ∈ l then some (xName (k + l.idxOf v)) else none := by
    intro l
    induction l with
    | nil => intro k; simp [aget]
    | cons a l ih =>
      intro k
      simp only [List.zipIdx_cons, List.map_cons, aget, ih]
      by_cases h : a = v
      · subst h; simp
      · have h' : ¬ v = a := fun e => h e.symm
        simp only [h, if_false, List.mem_cons, h', false_or, List.idxOf_cons]
        have hb : (a == v) = false := by simp [h]
        simp only [hb, cond_false]
        split
        · congr 2; omega
        · rfl
  have := key l 0
  simpa [stdM] using this
theorem stdM_set (l : List (List UInt8)) (v : List UInt8) (h : v ∉ l) : aset (stdM l) v (xName l.length) = stdM (l ++ [v]) := by
  have := (aget_none (k := v) (m := stdM l) (fun p hp => by
    simp only [stdM, List.mem_map] at hp
    obtain ⟨q, hq, rfl⟩ := hp
    intro e
    have := List.fst_mem_of_mem_zipIdx (x := q) hq
    exact h (e ▸ this))).2 (xName l.length)
  rw [this]; simp [stdM, List.zipIdx_append]
theorem stdM_len (l : List (List UInt8)) : (stdM l).length = l.length := by simp [stdM]
@[reducible] def stdO (n : Nat) (l : List (List UInt8)) : List AObj := [.map l.length (amap AV.str AV.str (stdM l)), .cells [.map n]]
theorem std11_ac (H : List AObj) (K : Nat) (hit : ∀ i H, i < K → ACall Tryd.prog 92 [.int .i64 (i : Nat)] H (fun r H' => r = .str (Lib.decDigits i) ∧ H' = H)) (l : List (List UInt8)) (v : List UInt8) (X : List AObj) (hl : l.length < K) (hK : K ≤ 1099511627776) (hv : v.length ≤ 1099511627775) (hd : (Lib.decDigits l.length).length ≤ 1099511627775) :
    ACall Tryd.prog 91 [.str v, .ptr (H.length + 1) 0] (H ++ stdO H.length l ++ X) (fun r H' => r = .str (stdF l v).2 ∧ H' = H ++ stdO H.length (stdF l v).1 ++ X) := by
  refine ACall_sc (fun hsc _ => ?_)
  refine ACall_V ((H ++ stdO H.length l ++ X).length) 15 [.tmp 3] Tryd.func91 rfl rfl rfl ?_
  simp only [push_cast, Nat.reduceAdd, Nat.reduceSub, Nat.reduceMul, Nat.reduceLT, Nat.reduceLeDiff, Nat.reduceEqDiff, Int.reduceToNat, ↓reduceIte]
  refine AOp_lookup (strKey un9) AV.str (stdM l) H.length _ v (.str []) rfl (by exact aget0 _ _ _) rfl un105 (ZeroV_of (.string ⟨#[]⟩) (by kernel_rfl)) ?_
  rw [stdM_get]
  by_cases hm : v ∈ l
  · have hs : stdF l v = (l, xName (l.idxOf v)) := by unfold stdF; rw [if_pos hm]
    rw [hs]
    simp only [push_cast, Nat.reduceAdd, Nat.reduceSub, Nat.reduceMul, Nat.reduceLT, Nat.reduceLeDiff, Nat.reduceEqDiff, Int.reduceToNat, ↓reduceIte, hm, xName]
    refine AOp_lookup (strKey un9) AV.str (stdM l) H.length _ v (.str []) rfl (by exact aget0 _ _ _) rfl un105 (ZeroV_of (.string ⟨#[]⟩) (by kernel_rfl)) ?_
    rw [stdM_get]
    simp only [push_cast, Nat.reduceAdd, Nat.reduceSub, Nat.reduceMul, Nat.reduceLT, Nat.reduceLeDiff, Nat.reduceEqDiff, Int.reduceToNat, ↓reduceIte, hm, xName]
    exact outok_upd [_, _] [_, _] rfl (by intro o ho; simp only [List.mem_cons, List.not_mem_nil, or_false] at ho; rcases ho with rfl | rfl; exact osc_amap _ _ _ _ _ (fun _ => trivial) (fun _ => trivial); simp [OScoped, ScopedL, Scoped]) (by simp)
  · have hs : stdF l v = (l ++ [v], xName l.length) := by unfold stdF; rw [if_neg hm]
    rw [hs]
    simp only [push_cast, Nat.reduceAdd, Nat.reduceSub, Nat.reduceMul, Nat.reduceLT, Nat.reduceLeDiff, Nat.reduceEqDiff, Int.reduceToNat, ↓reduceIte, hm]
    apply AW_drawE [some 8, some 9, some 10, some 11, some 12, some 13, none] [([false], _), ([true], _)] [none, none, none, none, none, none, some 0] 1 [(0, [false], [1]), (1, [false], [0]), (2, [false], [1]), (3, [false], [10]), (4, [false], [11]), (5, [false], [12]), (6, [false], [8, 0, 3])] [_, _, _, _, _, _, _]
    case' hm => exact dr
    case' hn => rfl
    case' hok => rfl
    case' hlen => rfl
    case' hd => rfl
    case' h0 => rfl
    case' hstep =>
     simp only [DAllG, push_cast, Option.isSome_some, Option.isSome_none]
     repeat' apply And.intro
     all_goals (apply DOne_V; simp only [push_cast, Nat.reduceAdd, Nat.reduceSub, Nat.reduceMul, Nat.reduceLT, Nat.reduceLeDiff, Nat.reduceEqDiff, Int.reduceToNat, ↓reduceIte, amap_length, stdM_len] <;> first | exact rfl | omega | exact ⟨rfl, rfl⟩ | exact trivial | exact ⟨by omega, rfl⟩ | exact ⟨by omega, by omega, rfl⟩ | exact ⟨by omega, rfl, rfl⟩ | exact ⟨by omega, by omega, rfl, rfl⟩ | (refine AOp_len_map _ _ _ rfl (by exact aget0 _ _ _) un105 ?_; simp only [push_cast, Nat.reduceAdd, Nat.reduceSub, Nat.reduceMul, Nat.reduceLT, Nat.reduceLeDiff, Nat.reduceEqDiff, Int.reduceToNat, ↓reduceIte, amap_length, stdM_len]; first | exact rfl | exact ⟨rfl, rfl⟩) | exact (hit _ _ hl).to ⟨rfl, rfl⟩ | (refine AOp_mapUpdate (strKey un9) AV.str (stdM l) _ _ v (xName l.length) rfl (by exact aget0 _ _ _) rfl rfl un105 ?_; rw [stdM_set l v hm]; simp only [push_cast, Nat.reduceAdd, Nat.reduceSub, Nat.reduceMul, Nat.reduceLT, Nat.reduceLeDiff, Nat.reduceEqDiff, Int.reduceToNat, ↓reduceIte]; exact ⟨rfl, rfl⟩))
    case' hQ => skip
    simp only [push_cast, Nat.reduceAdd, Nat.reduceSub, Nat.reduceMul, Nat.reduceLT, Nat.reduceLeDiff, Nat.reduceEqDiff, Int.reduceToNat, ↓reduceIte]
    refine AOp_lookup (strKey un9) AV.str (stdM (l ++ [v])) H.length _ v (.str []) rfl (by exact aget0 _ _ _) rfl un105 (ZeroV_of (.string ⟨#[]⟩) (by kernel_rfl)) ?_
    have hx : (l ++ [v]).idxOf v = l.length := by rw [List.idxOf_append]; simp [hm]
    rw [stdM_get, if_pos (by simp), hx]
    simp only [push_cast, Nat.reduceAdd, Nat.reduceSub, Nat.reduceMul, Nat.reduceLT, Nat.reduceLeDiff, Nat.reduceEqDiff, Int.reduceToNat, ↓reduceIte, List.length_append]
    exact outok_upd [_, _] [_, _] rfl (by intro o ho; simp only [List.mem_cons, List.not_mem_nil, or_false] at ho; rcases ho with rfl | rfl; exact osc_amap _ _ _ _ _ (fun _ => trivial) (fun _ => trivial); simp [OScoped, ScopedL, Scoped]) (by simp)
theorem standard_ac (H : List AObj) : ACall Tryd.prog 51 [] H (fun r H' => r = .fn 90 [.ptr (H.length + 1) 0] ∧ H' = H ++ stdO H.length []) := by
  refine ACall_V (H.length + 2) 4 [.tmp 0] Tryd.func51 rfl rfl rfl ?_
  simp only [push_cast, Nat.reduceAdd, Nat.reduceSub, Nat.reduceMul, Nat.reduceLT, Nat.reduceLeDiff, Nat.reduceEqDiff, Int.reduceToNat, ↓reduceIte]
  refine ⟨outok_app (L := stdO H.length []) 2 rfl (Nat.le_refl _) ?_, rfl⟩
  intro o ho
  simp only [List.take_succ_cons, List.take_zero, List.mem_cons, List.not_mem_nil, or_false] at ho
  rcases ho with rfl | rfl
  · intro e he; cases he
  · simp [OScoped, ScopedL, Scoped]
def canonP (t : Term) : Term := (renP stdF [] t).2
theorem std1_ac (H : List AObj) (hH : ∀ o, o ∈ H → OScoped H.length o) (K : Nat) (hit : ∀ i H, i < K → ACall Tryd.prog 92 [.int .i64 (i : Nat)] H (fun r H' => r = .str (Lib.decDigits i) ∧ H' = H)) (hK : K ≤ 1099511627776) (hd : ∀ i, i < K → (Lib.decDigits i).length ≤ 1099511627775) (l : List (List UInt8)) (t : Term) (hb : t.bulk ≤ 1099511627775) (hl : l.length + t.size ≤ K) :
    ACall Tryd.prog 90 [encT t, .ptr (H.length + 1) 0] (H ++ stdO H.length l) (fun r H' => r = encT (renP stdF l t).2 ∧ H' = H ++ stdO H.length (renP stdF l t).1) := by
  have hso : ∀ l o, o ∈ H ++ stdO H.length l → OScoped (H.length + 2) o := by
    intro l o ho
    rcases List.mem_append.1 ho with h | h
    · exact (hH o h).le (by omega)
    · simp only [List.mem_cons, List.not_mem_nil, or_false] at h
      rcases h with rfl | rfl
      · exact osc_amap _ _ _ _ _ (fun _ => trivial) (fun _ => trivial)
      · simp [OScoped, ScopedL, Scoped]
  refine ACall_V (H.length + 2) 5 [.cell 3 24] Tryd.func90 rfl rfl rfl ?_
  simp only [push_cast, Nat.reduceAdd, Nat.reduceSub, Nat.reduceMul, Nat.reduceLT, Nat.reduceLeDiff, Nat.reduceEqDiff, Int.reduceToNat, ↓reduceIte]
  have hr := renamed_ac stdF (fun l => H ++ stdO H.length l) (H.length + 2) (fun _ => by simp) hso List.length stdF_len K 91 [.ptr (H.length + 1) 0] ok91 (by simp [ScopedL, Scoped]) (fun l v X h1 h2 => std11_ac H K hit l v X h1 hK h2 (hd _ h1)) t hb l [.cells [.str t.name, .bool t.var, .sl .none (encTs t.args)], .cells [.str [], .bool false, .sl .zero []]] hl
  simp only [push_cast, Nat.reduceAdd, Nat.reduceSub, Nat.reduceMul, Nat.reduceLT, Nat.reduceLeDiff, Nat.reduceEqDiff, Int.reduceToNat, ↓reduceIte] at hr
  refine hr.to ?_
  simp only [push_cast, Nat.reduceAdd, Nat.reduceSub, Nat.reduceMul, Nat.reduceLT, Nat.reduceLeDiff, Nat.reduceEqDiff, Int.reduceToNat, ↓reduceIte]
  exact outok_upd2 (stdO H.length l) [_, _] [_, _] rfl (fun o ho => hso (renP stdF l t).1 o (List.mem_append_right _ ho)) rfl
theorem canonical_ac (K : Nat) (hit : ∀ i H, i < K → ACall Tryd.prog 92 [.int .i64 (i : Nat)] H (fun r H' => r = .str (Lib.decDigits i) ∧ H' = H)) (hK : K ≤ 1099511627776) (hd : ∀ i, i < K → (Lib.decDigits i).length ≤ 1099511627775) (t : Term) (hb : t.bulk ≤ 1099511627775) (hs : checkP t = 0 → t.size ≤ K) (H : List AObj) :
    ACall Tryd.prog 10 [encT t] H (fun r H' => r = encRE (if checkP t = 0 then (canonP t, 0) else (zeroT, checkP t)) ∧ H' = H) := by
  refine ACall_sc (fun hsc _ => ?_)
  refine ACall_V (H.length) 13 [.cell 2 24, .tmp 3] Tryd.func10 rfl rfl rfl ?_
  simp only [push_cast, Nat.reduceAdd, Nat.reduceSub, Nat.reduceMul, Nat.reduceLT, Nat.reduceLeDiff, Nat.reduceEqDiff, Int.reduceToNat, ↓reduceIte]
  refine (check_ac t hb _).to ?_
  simp only [push_cast, Nat.reduceAdd, Nat.reduceSub, Nat.reduceMul, Nat.reduceLT, Nat.reduceLeDiff, Nat.reduceEqDiff, Int.reduceToNat, ↓reduceIte]
  refine cI (fun h => ?_) (fun h => ?_)
  · have hr := std1_ac (H ++ [.cells [.str t.name, .bool t.var, .sl .none (encTs t.args)], .cells [.str [], .bool false, .sl .zero []]]) (by
      intro o ho
      rcases List.mem_append.1 ho with h | h
      · exact (hsc o h).le (by simp)
      · simp only [List.mem_cons, List.not_mem_nil, or_false] at h
        rcases h with rfl | rfl <;> simp [OScoped, ScopedL, Scoped, scoped_encTs]) K hit hK hd [] t hb (by have := hs h; simp; omega)
    simp only [push_cast, Nat.reduceAdd, Nat.reduceSub, Nat.reduceMul, Nat.reduceLT, Nat.reduceLeDiff, Nat.reduceEqDiff, Int.reduceToNat, ↓reduceIte] at hr
    apply AW_drawE [some 11, some 12, some 13, none, some 3] [([false, false, false], _), ([true, false, false], _), ([true, true, false], _), ([true, true, true], _)] [some 0, none, some 1, some 2, none] 3 [(0, [false, false, false], []), (1, [true, false, false], [1]), (2, [true, false, false], [11, 0]), (3, [true, true, false], [2, 10]), (4, [true, true, true], []), (1, [false, false, false], [1])] [_, _, _, _, _]
    case' hm => exact dr
    case' hn => rfl
    case' hok => rfl
    case' hlen => rfl
    case' hd => rfl
    case' h0 => rfl
    case' hstep =>
     simp only [DAllG, push_cast, Option.isSome_some, Option.isSome_none]
     repeat' apply And.intro
     all_goals (apply DOne_V; simp only [push_cast, Nat.reduceAdd, Nat.reduceSub, Nat.reduceMul, Nat.reduceLT, Nat.reduceLeDiff, Nat.reduceEqDiff, Int.reduceToNat, ↓reduceIte] <;> first | exact rfl | omega | exact ⟨rfl, rfl⟩ | exact trivial | exact ⟨by omega, rfl⟩ | exact ⟨by omega, by omega, rfl⟩ | exact ⟨by omega, rfl, rfl⟩ | exact ⟨by omega, by omega, rfl, rfl⟩ | exact (standard_ac _).to ⟨rfl, rfl⟩ | exact hr.to ⟨rfl, rfl⟩)
    case' hQ => skip
    simp only [push_cast, Nat.reduceAdd, Nat.reduceSub, Nat.reduceMul, Nat.reduceLT, Nat.reduceLeDiff, Nat.reduceEqDiff, Int.reduceToNat, ↓reduceIte, h, canonP]
  · simp only [push_cast, Nat.reduceAdd, Nat.reduceSub, Nat.reduceMul, Nat.reduceLT, Nat.reduceLeDiff, Nat.reduceEqDiff, Int.reduceToNat, ↓reduceIte, h]
end Ab
set_option maxRecDepth 10000
namespace Ab
open Go Go.Proofs
def markedP (s : List UInt8) : Bool := decide (s.getLast? = some 35)
theorem trim_marked (s : List UInt8) : trimSuffix s [35] = if markedP s then s.take (s.length - 1) else s := by
  unfold trimSuffix markedP
  rcases Nat.eq_zero_or_pos s.length with h0 | h0
  · have hn : s = [] := List.eq_nil_of_length_eq_zero h0
    subst hn; simp
  · have hd : s.drop (s.length - 1) = [s[s.length - 1]'(by omega)] := by
      rw [List.drop_eq_getElem_cons (show s.length - 1 < s.length by omega), List.drop_eq_nil_of_le (by omega)]
    have hgl : s.getLast? = some (s[s.length - 1]'(by omega)) := by rw [List.getLast?_eq_getElem?, List.getElem?_eq_getElem]
    have h1 : 1 ≤ s.length := h0
    simp [hd, hgl, h1]
theorem marked_pos (s : List UInt8) (h : markedP s = true) : 0 < s.length := by
  cases s with
  | nil => simp [markedP] at h
  | cons a r => simp
theorem all_not_any (s : List UInt8) : (!s.any fun c => !inNameB c) = s.all inNameB := by simp [List.not_any_eq_all_not]
def cmpI (a b : Int) : Int := if a < b then -1 else if b < a then 1 else 0
theorem compareBytes_drop : ∀ (a b : List UInt8) (i : Nat), a.take i = b.take i → i ≤ a.length → i ≤ b.length → Lib.compareBytes a b = Lib.compareBytes (a.drop i) (b.drop i)
  | a, b, 0, _, _, _ => rfl
  | [], _, _ + 1, _, h, _ => by simp at h
  | _ :: _, [], _ + 1, _, _, h => by simp at h
  | x :: a, y :: b, i + 1, h, h1, h2 => by
    simp only [List.take_succ_cons, List.cons.injEq] at h
    rw [List.drop_succ_cons, List.drop_succ_cons, ← compareBytes_drop a b i h.2 (by simpa using h1) (by simpa using h2)]
    rw [h.1]
    have : ¬ y < y := by simp
    conv => lhs; unfold Lib.compareBytes
    simp [this]
theorem cmpI_len (a b : Nat) : (cmpI a b = 0 ↔ a = b) ∧ (¬ cmpI a b = 0 → ∀ r : Int, (if a < b then -1 else if b < a then 1 else r) = cmpI a b) := by
  unfold cmpI
  constructor
  · split
    · simp; omega
    · split
      · simp; omega
      · simp; omega
  · intro h r
    rcases Nat.lt_trichotomy a b with hl | hl | hl
    · simp [hl]
    · simp [hl] at h
    · have h2 : ¬ a < b := by omega
      simp [hl, h2]
theorem compareBytes_eq : ∀ a b : List UInt8, Lib.compareBytes a b = 0 ↔ a = b
  | [], [] => by simp [Lib.compareBytes]
  | [], _ :: _ => by simp [Lib.compareBytes]
  | _ :: _, [] => by simp [Lib.compareBytes]
  | a :: ar, b :: bs => by
    have ih := compareBytes_eq ar bs
    unfold Lib.compareBytes
    by_cases h1 : a < b
    · simp [h1]; intro e; subst e; exact absurd h1 (by simp)
    · by_cases h2 : b < a
      · simp [h1, h2]; intro e; subst e; exact absurd h2 (by simp)
      · have : a = b := by
          apply UInt8.le_antisymm
          · simpa using h2
          · simpa using h1
        simp [h1, h2, this, ih]
def cmpC (n : List UInt8) (v : Bool) (k : Nat) (m : List UInt8) (u : Bool) (j : Nat) (rest : Int) : Int :=
  if v ≠ u then (if v then -1 else 1) else if Lib.compareBytes n m ≠ 0 then Lib.compareBytes n m else if k < j then -1 else if j < k then 1 else rest
def cmpTs : List Term → List Term → Int
  | .mk n v xs :: r, .mk m u ys :: r' => if cmpC n v xs.length m u ys.length (cmpTs xs ys) ≠ 0 then cmpC n v xs.length m u ys.length (cmpTs xs ys) else cmpTs r r'
  | _, _ => 0
def cmpT (a b : Term) : Int := cmpC a.name a.var a.args.length b.name b.var b.args.length (cmpTs a.args b.args)
theorem cmpTs_cons (x y : Term) (r r' : List Term) : cmpTs (x :: r) (y :: r') = if cmpT x y ≠ 0 then cmpT x y else cmpTs r r' := by
  cases x; cases y; simp only [cmpTs, cmpT, Term.name, Term.var, Term.args]; rfl
theorem cmpTs_nil (ys : List Term) : cmpTs [] ys = 0 := by cases ys <;> simp [cmpTs]
theorem cmpTs_drop : ∀ (xs ys : List Term) (i : Nat), (∀ j (h1 : j < xs.length) (h2 : j < ys.length), j < i → cmpT xs[j] ys[j] = 0) → xs.length = ys.length → cmpTs xs ys = cmpTs (xs.drop i) (ys.drop i)
  | xs, ys, 0, _, _ => rfl
  | [], [], _ + 1, _, _ => rfl
  | [], _ :: _, _ + 1, _, h => by simp at h
  | _ :: _, [], _ + 1, _, h => by simp at h
  | x :: xs, y :: ys, i + 1, h, hl => by
    have h0 := h 0 (by simp) (by simp) (by omega)
    simp only [List.getElem_cons_zero] at h0
    rw [cmpTs_cons, List.drop_succ_cons, List.drop_succ_cons, if_neg (by omega)]
    refine cmpTs_drop xs ys i (fun j h1 h2 hj => ?_) (by simpa using hl)
    have h3 := h (j + 1) (by simp; omega) (by simp; omega) (by omega)
    simp only [List.getElem_cons_succ] at h3; exact h3
theorem cmpTs_iff : ∀ (xs ys : List Term), xs.length = ys.length → (cmpTs xs ys = 0 ↔ xs = ys)
  | [], [], _ => by simp [cmpTs]
  | [], _ :: _, h => by simp at h
  | _ :: _, [], h => by simp at h
  | .mk n v xs :: r, .mk m u ys :: r', h => by
    have h1 := cmpTs_iff r r' (by simpa using h)
    have h2 := cmpTs_iff xs ys
    have h3 := compareBytes_eq n m
    unfold cmpTs cmpC
    have h0 : Lib.compareBytes m m = 0 := (compareBytes_eq m m).2 rfl
    by_cases hv : v = u
    · by_cases hn : n = m
      · rcases Nat.lt_trichotomy xs.length ys.length with hl | hl | hl
        · have : ¬ xs = ys := fun e => by rw [e] at hl; omega
          simp [hv, h3.2 hn, hl, this]
        · have h2 := h2 hl
          simp only [hv, h3.2 hn, hl, Nat.lt_irrefl, if_false, ne_eq, not_true_eq_false, hn, List.cons.injEq, Term.mk.injEq, true_and, and_assoc]
          by_cases hc : cmpTs xs ys = 0
          · have e := h2.1 hc; simp [h0, h1, e, e ▸ hc]
          · have : ¬ xs = ys := fun e => hc (h2.2 e)
            simp [h0, hc, this]
        · have : ¬ xs = ys := fun e => by rw [e] at hl; omega
          have h4 : ¬ xs.length < ys.length := by omega
          simp [hv, h3.2 hn, hl, h4, this]
      · have h3' : ¬ Lib.compareBytes n m = 0 := fun e => hn (h3.1 e)
        simp [hv, h3', hn]
    · cases v <;> cases u <;> simp_all
theorem cmpT_iff (a b : Term) : cmpT a b = 0 ↔ a = b := by
  have := cmpTs_iff [a] [b] rfl
  rw [cmpTs_cons] at this
  simp only [cmpTs, List.cons.injEq, and_true] at this
  rw [← this]
  by_cases h : cmpT a b = 0 <;> simp [h]
theorem letter_ac (c : Int) (H : List AObj) : ACall Tryd.prog 72 [.int .u8 c] H (fun r H' => r = .bool (inName c) ∧ H' = H) := by
  refine ACall_V (H.length) 32 [.tmp 2] Tryd.func72 rfl rfl rfl ?_
  simp only [push_cast, Nat.reduceAdd, Nat.reduceSub, Nat.reduceMul, Nat.reduceLT, Nat.reduceLeDiff, Nat.reduceEqDiff, Int.reduceToNat, ↓reduceIte]
  unfold inName
  repeat' first | refine ⟨by omega, ?_⟩ | refine cI (fun _ => ?_) (fun _ => ?_)
  all_goals (rw [Bool.eq_iff_iff]; simp; omega)
theorem letters_ac (s : List UInt8) (hlen : s.length < 1099511627776) (H : List AObj) : ACall Tryd.prog 28 [.str s] H (fun r H' => r = .bool (s.all inNameB) ∧ H' = H) := by
  refine ACall_V (H.length) 14 [.tmp 2] Tryd.func28 rfl rfl rfl ?_
  simp only [push_cast, Nat.reduceAdd, Nat.reduceSub, Nat.reduceMul, Nat.reduceLT, Nat.reduceLeDiff, Nat.reduceEqDiff, Int.reduceToNat, ↓reduceIte]
  refine AW_loopW (maskG 15 [0, 4, 0]) (fun (i : Nat) => [(6, .int .i64 i)]) (fun _ => H) (fun i => i ≤ s.length ∧ (s.take i).all inNameB = true) (fun i => s.length - i) 0 ⟨Nat.zero_le _, by simp⟩ (by simp only [push_cast, Nat.reduceAdd, Nat.reduceSub, Nat.reduceMul, Nat.reduceLT, Nat.reduceLeDiff, Nat.reduceEqDiff, Int.reduceToNat, ↓reduceIte]) (fun i hi => ?_)
  simp only [push_cast, Nat.reduceAdd, Nat.reduceSub, Nat.reduceMul, Nat.reduceLT, Nat.reduceLeDiff, Nat.reduceEqDiff, Int.reduceToNat, ↓reduceIte]
  refine cI (fun h => ?_) (fun h => ?_)
  · repeat refine ⟨by omega, ?_⟩
    refine (letter_ac _ _).to ?_
    simp only [push_cast, Nat.reduceAdd, Nat.reduceSub, Nat.reduceMul, Nat.reduceLT, Nat.reduceLeDiff, Nat.reduceEqDiff, Int.reduceToNat, ↓reduceIte]
    refine cI (fun hb => ?_) (fun hb => ?_)
    · repeat' first | refine ⟨by omega, ?_⟩ | refine cI (fun _ => ?_) (fun _ => ?_)
      exact loopW_n (i + 1) ⟨by omega, all_take_true hi.2 (by omega) hb⟩ (by omega) (by simp only [push_cast, Nat.reduceAdd, Nat.reduceSub, Nat.reduceMul, Nat.reduceLT, Nat.reduceLeDiff, Nat.reduceEqDiff, Int.reduceToNat, ↓reduceIte])
    · rw [all_get (p := inNameB) (i := i) (by omega) (by simpa [inNameB] using hb)]
  · have hs : s.take i = s := List.take_of_length_le (by omega)
    rw [hs] at hi
    rw [hi.2]
theorem markedR_ac (s : List UInt8) (hlen : s.length < 1099511627776) (H : List AObj) : ACall Tryd.prog 67 [.str s] H (fun r H' => r = .bool (markedP s) ∧ H' = H) := by
  refine ACall_V (H.length) 12 [.tmp 2] Tryd.func67 rfl rfl rfl ?_
  simp only [push_cast, Nat.reduceAdd, Nat.reduceSub, Nat.reduceMul, Nat.reduceLT, Nat.reduceLeDiff, Nat.reduceEqDiff, Int.reduceToNat, ↓reduceIte]
  refine cI (fun h => ?_) (fun h => ?_)
  · subst h; simp [markedP]
  · have h0 : 0 < s.length := List.length_pos_iff.2 h
    repeat refine ⟨by omega, ?_⟩
    have hgl : s.getLast? = some (s[s.length - 1]'(by omega)) := by rw [List.getLast?_eq_getElem?, List.getElem?_eq_getElem]
    unfold markedP
    rw [hgl, Bool.eq_iff_iff, decide_eq_true_iff, decide_eq_true_iff]
    constructor
    · intro h
      have : (s[s.length - 1]'(by omega)).toNat = (35 : UInt8).toNat := by show _ = 35; omega
      rw [UInt8.toNat_inj.1 this]
    · intro h; injection h with h; rw [h]; rfl
theorem isNameR_ac (s : List UInt8) (m : Bool) (hlen : s.length < 1099511627776) (H : List AObj) : ACall Tryd.prog 25 [.str s, .bool m] H (fun r H' => r = .bool (isNameP s m) ∧ H' = H) := by
  have ht := trim_marked s
  refine ACall_V (H.length) 22 [.tmp 4] Tryd.func25 rfl rfl rfl ?_
  simp only [push_cast, Nat.reduceAdd, Nat.reduceSub, Nat.reduceMul, Nat.reduceLT, Nat.reduceLeDiff, Nat.reduceEqDiff, Int.reduceToNat, ↓reduceIte]
  refine cI (fun h => ?_) (fun h => ?_)
  · have h24 : ¬ s.length ≤ 24 := by omega
    simp [isNameP, h24]
  · have h24 : s.length ≤ 24 := by omega
    refine cI (fun hm => (markedR_ac s hlen _).to ?_) (fun hm => ?_)
    · simp only [push_cast, Nat.reduceAdd, Nat.reduceSub, Nat.reduceMul, Nat.reduceLT, Nat.reduceLeDiff, Nat.reduceEqDiff, Int.reduceToNat, ↓reduceIte]
      refine cI (fun hk => ?_) (fun hk => ?_)
      · have h0 := marked_pos s hk
        repeat refine ⟨by omega, ?_⟩
        rw [hk] at ht
        simp only [if_true] at ht
        refine cI (fun he => ?_) (fun he => ?_)
        · simp [isNameP, hm, ht, he, h24]
        · refine (letters_ac _ (by simp only [List.length_take]; omega) _).to ?_
          simp only [push_cast, Nat.reduceAdd, Nat.reduceSub, Nat.reduceMul, Nat.reduceLT, Nat.reduceLeDiff, Nat.reduceEqDiff, Int.reduceToNat, ↓reduceIte]
          simp [isNameP, hm, ht, he, h24, all_not_any]
      · simp only [Bool.not_eq_true] at hk
        rw [hk] at ht
        simp at ht
        refine cI (fun he => ?_) (fun he => ?_)
        · subst he; simp [isNameP, trimSuffix]
        · refine (letters_ac _ (by omega) _).to ?_
          simp only [push_cast, Nat.reduceAdd, Nat.reduceSub, Nat.reduceMul, Nat.reduceLT, Nat.reduceLeDiff, Nat.reduceEqDiff, Int.reduceToNat, ↓reduceIte]
          simp [isNameP, hm, ht, he, h24, all_not_any]
    · refine cI (fun he => ?_) (fun he => ?_)
      · simp [isNameP, hm, he, h24]
      · refine (letters_ac _ (by omega) _).to ?_
        simp only [push_cast, Nat.reduceAdd, Nat.reduceSub, Nat.reduceMul, Nat.reduceLT, Nat.reduceLeDiff, Nat.reduceEqDiff, Int.reduceToNat, ↓reduceIte]
        simp [isNameP, hm, he, h24, all_not_any]
theorem sizeR_ac (t : Term) : t.bulk ≤ 1099511627776 → ∀ H, ACall Tryd.prog 34 [encT t] H (fun r H' => r = .int .i64 t.size ∧ H' = H) := by
  induction t using Term.ind with | _ n v xs ih
  intro hb H
  have hs := (Term.mk n v xs).size_le
  have hlen := Term.len_le (n := n) (v := v) (xs := xs)
  rw [Term.size_mk] at hs ⊢
  refine ACall_W (H.length) 18 [.tmp 2] Tryd.func34 rfl rfl rfl ?_
  simp only [push_cast, Nat.reduceAdd, Nat.reduceSub, Nat.reduceMul, Nat.reduceLT, Nat.reduceLeDiff, Nat.reduceEqDiff, Int.reduceToNat, ↓reduceIte]
  refine AW_loopW (maskG 19 [3, 3, 0, 0]) (fun (i : Nat) => [(9, .int .i64 i), (3, .int .i64 (1 + ((xs.take i).map Term.size).sum : Nat))]) (fun _ => H) (fun i => i ≤ xs.length) (fun i => xs.length - i) 0 (Nat.zero_le _) (by simp only [push_cast, Nat.reduceAdd, Nat.reduceSub, Nat.reduceMul, Nat.reduceLT, Nat.reduceLeDiff, Nat.reduceEqDiff, Int.reduceToNat, ↓reduceIte]; simp) (fun i hi => ?_)
  simp only [push_cast, Nat.reduceAdd, Nat.reduceSub, Nat.reduceMul, Nat.reduceLT, Nat.reduceLeDiff, Nat.reduceEqDiff, Int.reduceToNat, ↓reduceIte]
  refine cI (fun h => ⟨by omega, (ih _ (List.getElem_mem _) (arg_bulk hb i (by omega)) _).to ?_⟩) (fun h => ?_)
  · have e := take_sum Term.size xs i (by omega)
    have hle := take_sum_le Term.size xs (i + 1)
    simp only [push_cast, Nat.reduceAdd, Nat.reduceSub, Nat.reduceMul, Nat.reduceLT, Nat.reduceLeDiff, Nat.reduceEqDiff, Int.reduceToNat, ↓reduceIte]
    repeat' first | refine ⟨by omega, ?_⟩ | refine cI (fun _ => ?_) (fun _ => ?_)
    exact loopW_n (i + 1) (by omega) (by omega) (by simp only [push_cast, Nat.reduceAdd, Nat.reduceSub, Nat.reduceMul, Nat.reduceLT, Nat.reduceLeDiff, Nat.reduceEqDiff, Int.reduceToNat, ↓reduceIte]; omega)
  · simp only [push_cast, Nat.reduceAdd, Nat.reduceSub, Nat.reduceMul, Nat.reduceLT, Nat.reduceLeDiff, Nat.reduceEqDiff, Int.reduceToNat, ↓reduceIte, List.take_of_length_le (show xs.length ≤ i by omega)]
theorem depthR_ac (t : Term) : t.bulk ≤ 1099511627776 → ∀ H, ACall Tryd.prog 36 [encT t] H (fun r H' => r = .int .i64 t.depth ∧ H' = H) := by
  induction t using Term.ind with | _ n v xs ih
  intro hb H
  have hs := (Term.mk n v xs).size_le
  have hd := (Term.mk n v xs).depth_le
  have hlen := Term.len_le (n := n) (v := v) (xs := xs)
  rw [Term.depth_mk] at hd ⊢
  refine ACall_W (H.length) 19 [.tmp 2] Tryd.func36 rfl rfl rfl ?_
  simp only [push_cast, Nat.reduceAdd, Nat.reduceSub, Nat.reduceMul, Nat.reduceLT, Nat.reduceLeDiff, Nat.reduceEqDiff, Int.reduceToNat, ↓reduceIte]
  refine AW_loopW (maskG 20 [3, 3, 0, 0]) (fun (i : Nat) => [(9, .int .i64 i), (3, .int .i64 (((xs.take i).map Term.depth).foldl max 0 : Nat))]) (fun _ => H) (fun i => i ≤ xs.length ∧ ((xs.take i).map Term.depth).foldl max 0 ≤ 1099511627776) (fun i => xs.length - i) 0 ⟨Nat.zero_le _, by simp⟩ (by simp only [push_cast, Nat.reduceAdd, Nat.reduceSub, Nat.reduceMul, Nat.reduceLT, Nat.reduceLeDiff, Nat.reduceEqDiff, Int.reduceToNat, ↓reduceIte]; simp) (fun i hi => ?_)
  simp only [push_cast, Nat.reduceAdd, Nat.reduceSub, Nat.reduceMul, Nat.reduceLT, Nat.reduceLeDiff, Nat.reduceEqDiff, Int.reduceToNat, ↓reduceIte]
  refine cI (fun h => ⟨by omega, (ih _ (List.getElem_mem _) (arg_bulk hb i (by omega)) _).to ?_⟩) (fun h => ?_)
  · have e := take_depth xs i (by omega)
    have hdx := (xs[i]'(by omega)).depth_le
    have hsx := (xs[i]'(by omega)).size_le
    have hbx := arg_bulk hb i (by omega)
    simp only [push_cast, Nat.reduceAdd, Nat.reduceSub, Nat.reduceMul, Nat.reduceLT, Nat.reduceLeDiff, Nat.reduceEqDiff, Int.reduceToNat, ↓reduceIte]
    repeat' first | refine ⟨by omega, ?_⟩ | refine cI (fun _ => ?_) (fun _ => ?_)
    exact loopW_n (i + 1) (by omega) (by omega) (by simp only [push_cast, Nat.reduceAdd, Nat.reduceSub, Nat.reduceMul, Nat.reduceLT, Nat.reduceLeDiff, Nat.reduceEqDiff, Int.reduceToNat, ↓reduceIte]; omega)
  · simp only [push_cast, Nat.reduceAdd, Nat.reduceSub, Nat.reduceMul, Nat.reduceLT, Nat.reduceLeDiff, Nat.reduceEqDiff, Int.reduceToNat, ↓reduceIte, List.take_of_length_le (show xs.length ≤ i by omega)]
    omega
theorem formedR_ac (t : Term) : t.bulk ≤ 1099511627775 → ∀ H, ACall Tryd.prog 61 [encT t] H (fun r H' => r = .bool (formedP t) ∧ H' = H) := by
  induction t using Term.ind with | _ n v xs ih
  intro hb H
  have hlen := Term.len_le (n := n) (v := v) (xs := xs)
  have hnl := Term.name_le (n := n) (v := v) (xs := xs)
  rw [formedP_mk]
  refine ACall_V (H.length) 36 [.tmp 2] Tryd.func61 rfl rfl rfl ?_
  simp only [push_cast, Nat.reduceAdd, Nat.reduceSub, Nat.reduceMul, Nat.reduceLT, Nat.reduceLeDiff, Nat.reduceEqDiff, Int.reduceToNat, ↓reduceIte]
  refine cI (fun hv => (isNameR_ac n _ (by omega) _).to ?_) (fun hv => (isNameR_ac n _ (by omega) _).to ?_)
  · simp only [push_cast, Nat.reduceAdd, Nat.reduceSub, Nat.reduceMul, Nat.reduceLT, Nat.reduceLeDiff, Nat.reduceEqDiff, Int.reduceToNat, ↓reduceIte]
    refine cI (fun hn => ?_) (fun hn => ?_)
    · simp [hv, hn]
    · simp [hv, hn]
  · simp only [push_cast, Nat.reduceAdd, Nat.reduceSub, Nat.reduceMul, Nat.reduceLT, Nat.reduceLeDiff, Nat.reduceEqDiff, Int.reduceToNat, ↓reduceIte]
    refine cI (fun hn => cI (fun h8 => ?_) (fun h8 => ?_)) (fun hn => ?_)
    · have h8 : ¬ xs.length ≤ 8 := by omega
      simp [hv, h8]
    · have h8 : xs.length ≤ 8 := by omega
      refine AW_loopW (maskG 37 [27, 0, 0]) (fun (i : Nat) => [(29, .int .i64 i)]) (fun _ => H) (fun i => i ≤ xs.length ∧ (xs.take i).all formedP = true) (fun i => xs.length - i) 0 ⟨Nat.zero_le _, by simp⟩ (by simp only [push_cast, Nat.reduceAdd, Nat.reduceSub, Nat.reduceMul, Nat.reduceLT, Nat.reduceLeDiff, Nat.reduceEqDiff, Int.reduceToNat, ↓reduceIte]) (fun i hi => ?_)
      simp only [push_cast, Nat.reduceAdd, Nat.reduceSub, Nat.reduceMul, Nat.reduceLT, Nat.reduceLeDiff, Nat.reduceEqDiff, Int.reduceToNat, ↓reduceIte]
      refine cI (fun h => ?_) (fun h => ?_)
      · repeat refine ⟨by omega, ?_⟩
        refine (ih _ (List.getElem_mem _) (arg_bulk hb i (by omega)) _).to ?_
        simp only [push_cast, Nat.reduceAdd, Nat.reduceSub, Nat.reduceMul, Nat.reduceLT, Nat.reduceLeDiff, Nat.reduceEqDiff, Int.reduceToNat, ↓reduceIte]
        refine cI (fun hf => ?_) (fun hf => ?_)
        · repeat' first | refine ⟨by omega, ?_⟩ | refine cI (fun _ => ?_) (fun _ => ?_)
          exact loopW_n (i + 1) ⟨by omega, all_take_true hi.2 (by omega) hf⟩ (by omega) (by simp only [push_cast, Nat.reduceAdd, Nat.reduceSub, Nat.reduceMul, Nat.reduceLT, Nat.reduceLeDiff, Nat.reduceEqDiff, Int.reduceToNat, ↓reduceIte])
        · rw [all_get (p := formedP) (i := i) (by omega) (by simpa using hf)]; simp [hv]
      · have hs : xs.take i = xs := List.take_of_length_le (by omega)
        rw [hs] at hi
        rw [hi.2]; simp [hv, h8, hn]
    · simp [hv, hn]
theorem checkR_ac (t : Term) (hb : t.bulk ≤ 1099511627775) (H : List AObj) : ACall Tryd.prog 17 [encT t] H (fun r H' => r = .int .i64 (checkP t) ∧ H' = H) := by
  refine ACall_V (H.length) 13 [.tmp 2] Tryd.func17 rfl rfl rfl ?_
  simp only [push_cast, Nat.reduceAdd, Nat.reduceSub, Nat.reduceMul, Nat.reduceLT, Nat.reduceLeDiff, Nat.reduceEqDiff, Int.reduceToNat, ↓reduceIte]
  unfold checkP fitsP
  refine (formedR_ac t hb _).to ?_
  simp only [push_cast, Nat.reduceAdd, Nat.reduceSub, Nat.reduceMul, Nat.reduceLT, Nat.reduceLeDiff, Nat.reduceEqDiff, Int.reduceToNat, ↓reduceIte]
  refine cI (fun hf => (sizeR_ac t (by omega) _).to ?_) (fun hf => ?_)
  · simp only [push_cast, Nat.reduceAdd, Nat.reduceSub, Nat.reduceMul, Nat.reduceLT, Nat.reduceLeDiff, Nat.reduceEqDiff, Int.reduceToNat, ↓reduceIte]
    refine cI (fun h => ?_) (fun h => (depthR_ac t (by omega) _).to ?_)
    · have h4 : ¬ t.size ≤ 4000 := by omega
      simp [hf, h4]
    · simp only [push_cast, Nat.reduceAdd, Nat.reduceSub, Nat.reduceMul, Nat.reduceLT, Nat.reduceLeDiff, Nat.reduceEqDiff, Int.reduceToNat, ↓reduceIte]
      have h4 : t.size ≤ 4000 := by omega
      refine cI (fun h => ?_) (fun h => ?_)
      · have h2 : ¬ t.depth ≤ 200 := by omega
        simp [hf, h4, h2]
      · have h2 : t.depth ≤ 200 := by omega
        simp [hf, h4, h2]
  · simp [hf]
end Ab
set_option maxRecDepth 10000
namespace Ab
open Go Go.Proofs
theorem cmpInts_ac (a b : Int) (H : List AObj) : ACall Tryd.prog 83 [.int .i64 a, .int .i64 b] H (fun r H' => r = .int .i64 (cmpI a b) ∧ H' = H) := by
  refine ACall_V (H.length) 9 [.tmp 4] Tryd.func83 rfl rfl rfl ?_
  simp only [push_cast, Nat.reduceAdd, Nat.reduceSub, Nat.reduceMul, Nat.reduceLT, Nat.reduceLeDiff, Nat.reduceEqDiff, Int.reduceToNat, ↓reduceIte]
  unfold cmpI
  repeat' first | refine ⟨by omega, ?_⟩ | refine cI (fun _ => ?_) (fun _ => ?_)
  all_goals simp [*]
theorem cmpNames_ac (a b : List UInt8) (ha : a.length < 1099511627776) (hb : b.length < 1099511627776) (H : List AObj) : ACall Tryd.prog 82 [.str a, .str b] H (fun r H' => r = .int .i64 (Lib.compareBytes a b) ∧ H' = H) := by
  refine ACall_V (H.length) 34 [.tmp 4] Tryd.func82 rfl rfl rfl ?_
  simp only [push_cast, Nat.reduceAdd, Nat.reduceSub, Nat.reduceMul, Nat.reduceLT, Nat.reduceLeDiff, Nat.reduceEqDiff, Int.reduceToNat, ↓reduceIte]
  refine AW_loopW (maskG 36 [0, 0, 8, 0]) (fun (i : Nat) => [(11, .int .i64 i)]) (fun _ => H) (fun i => i ≤ a.length ∧ i ≤ b.length ∧ a.take i = b.take i) (fun i => a.length - i) 0 ⟨Nat.zero_le _, Nat.zero_le _, by simp⟩ (by simp only [push_cast, Nat.reduceAdd, Nat.reduceSub, Nat.reduceMul, Nat.reduceLT, Nat.reduceLeDiff, Nat.reduceEqDiff, Int.reduceToNat, ↓reduceIte]) (fun i hi => ?_)
  simp only [push_cast, Nat.reduceAdd, Nat.reduceSub, Nat.reduceMul, Nat.reduceLT, Nat.reduceLeDiff, Nat.reduceEqDiff, Int.reduceToNat, ↓reduceIte]
  refine cI (fun h => ?_) (fun h => ?_)
  · have hil : i < a.length ∧ i < b.length := by omega
    apply AW_drawE [some 14, some 15, some 16, some 17, some 18, some 19, some 20] [([], _)] [none, none, none, none, none, none, none] 0 [(0, [], [0]), (1, [], [5]), (2, [], [14, 0]), (3, [], [1]), (4, [], [5]), (5, [], [17, 0]), (6, [], [16, 2])] [_, _, _, _, _, _, _]
    case' hm => exact dr
    case' hn => rfl
    case' hok => rfl
    case' hlen => rfl
    case' hd => rfl
    case' h0 => rfl
    case' hstep =>
     simp only [DAllG, push_cast, Option.isSome_some, Option.isSome_none]
     repeat' apply And.intro
     all_goals (apply DOne_V; simp only [push_cast, Nat.reduceAdd, Nat.reduceSub, Nat.reduceMul, Nat.reduceLT, Nat.reduceLeDiff, Nat.reduceEqDiff, Int.reduceToNat, ↓reduceIte] <;> first | exact rfl | omega | exact ⟨rfl, rfl⟩ | exact trivial | exact ⟨by omega, rfl⟩ | exact ⟨by omega, by omega, rfl⟩ | exact ⟨by omega, rfl, rfl⟩ | exact ⟨by omega, by omega, rfl, rfl⟩ | skip)
    case' hQ => skip
    simp only [push_cast, Nat.reduceAdd, Nat.reduceSub, Nat.reduceMul, Nat.reduceLT, Nat.reduceLeDiff, Nat.reduceEqDiff, Int.reduceToNat, ↓reduceIte]
    have hl1 := (a[i]'hil.1).toNat_lt
    have hl2 := (b[i]'hil.2).toNat_lt
    refine cI (fun he => ?_) (fun hne => ?_)
    · repeat' first | refine ⟨by omega, ?_⟩ | refine cI (fun _ => ?_) (fun _ => ?_)
      refine loopW_n (i + 1) ⟨by omega, by omega, ?_⟩ (by omega) (by simp only [push_cast, Nat.reduceAdd, Nat.reduceSub, Nat.reduceMul, Nat.reduceLT, Nat.reduceLeDiff, Nat.reduceEqDiff, Int.reduceToNat, ↓reduceIte])
      have he : (a[i]'hil.1) = (b[i]'hil.2) := UInt8.toNat_inj.1 (by omega)
      rw [List.take_succ_eq_append_getElem hil.1, List.take_succ_eq_append_getElem hil.2, hi.2.2, he]
    · skip
      apply AW_drawE [some 21, some 22, some 23, some 24, some 25, some 26, some 27, some 28, some 29, some 4] [([], _)] [none, none, none, none, none, none, none, none, none, none] 0 [(0, [], [0]), (1, [], [5]), (2, [], [21, 0]), (3, [], [23]), (4, [], [1]), (5, [], [5]), (6, [], [25, 0]), (7, [], [27]), (8, [], [24, 3]), (9, [], [29])] [_, _, _, _, _, _, _, _, _, _]
      case' hm => exact dr
      case' hn => rfl
      case' hok => rfl
      case' hlen => rfl
      case' hd => rfl
      case' h0 => rfl
      case' hstep =>
       simp only [DAllG, push_cast, Option.isSome_some, Option.isSome_none]
       repeat' apply And.intro
       all_goals (apply DOne_V; simp only [push_cast, Nat.reduceAdd, Nat.reduceSub, Nat.reduceMul, Nat.reduceLT, Nat.reduceLeDiff, Nat.reduceEqDiff, Int.reduceToNat, ↓reduceIte] <;> first | exact rfl | omega | exact ⟨rfl, rfl⟩ | exact trivial | exact ⟨by omega, rfl⟩ | exact ⟨by omega, by omega, rfl⟩ | exact ⟨by omega, rfl, rfl⟩ | exact ⟨by omega, by omega, rfl, rfl⟩ | exact ⟨by omega, by omega, rfl⟩ | exact (cmpInts_ac _ _ _).to ⟨rfl, rfl⟩)
      case' hQ => skip
      simp only [push_cast, Nat.reduceAdd, Nat.reduceSub, Nat.reduceMul, Nat.reduceLT, Nat.reduceLeDiff, Nat.reduceEqDiff, Int.reduceToNat, ↓reduceIte]
      rw [compareBytes_drop a b i hi.2.2 hi.1 hi.2.1, List.drop_eq_getElem_cons hil.1, List.drop_eq_getElem_cons hil.2]
      unfold cmpI Lib.compareBytes
      simp only [UInt8.lt_iff_toNat_lt]
      have hne : ¬ (a[i]'hil.1).toNat = (b[i]'hil.2).toNat := by omega
      rcases Nat.lt_or_gt_of_ne hne with h | h
      · have h' : ((a[i]'hil.1).toNat : Int) < (b[i]'hil.2).toNat := by omega
        simp [h]
      · have h' : ¬ (a[i]'hil.1).toNat < (b[i]'hil.2).toNat := by omega
        simp [h, h']
  · refine (cmpInts_ac _ _ _).to ?_
    simp only [push_cast, Nat.reduceAdd, Nat.reduceSub, Nat.reduceMul, Nat.reduceLT, Nat.reduceLeDiff, Nat.reduceEqDiff, Int.reduceToNat, ↓reduceIte]
    rw [compareBytes_drop a b i hi.2.2 hi.1 hi.2.1]
    rcases Nat.lt_or_ge a.length b.length with h | h
    · have hia : i = a.length := by omega
      subst hia
      have hd : 0 < (b.drop a.length).length := by simp; omega
      cases hb2 : b.drop a.length with
      | nil => rw [hb2] at hd; simp at hd
      | cons y r =>
        have h9 : ¬ b.length ≤ a.length := by omega
        simp [cmpI, Lib.compareBytes, h, h9]
    · rcases Nat.lt_or_ge b.length a.length with h2 | h2
      · have hib : i = b.length := by omega
        subst hib
        have hd : 0 < (a.drop b.length).length := by simp; omega
        cases ha2 : a.drop b.length with
        | nil => rw [ha2] at hd; simp at hd
        | cons y r =>
          have h3 : ¬ a.length < b.length := by omega
          simp [cmpI, Lib.compareBytes, h2, h3]
      · have hl : a.length = b.length := by omega
        have hia : i = a.length := by omega
        subst hia
        rw [List.drop_eq_nil_of_le (Nat.le_refl _), List.drop_eq_nil_of_le (by omega)]
        simp [cmpI, Lib.compareBytes, hl]
theorem compareR_ac (s : Term) : ∀ t : Term, s.bulk ≤ 1099511627775 → t.bulk ≤ 1099511627775 → ∀ H, ACall Tryd.prog 41 [encT s, encT t] H (fun r H' => r = .int .i64 (cmpT s t) ∧ H' = H) := by
  induction s using Term.ind with | _ n v xs ih
  rintro ⟨m, u, ys⟩ hb hb2 H
  have hl1 := Term.len_le (n := n) (v := v) (xs := xs)
  have hl2 := Term.len_le (n := m) (v := u) (xs := ys)
  have hn1 := Term.name_le (n := n) (v := v) (xs := xs)
  have hn2 := Term.name_le (n := m) (v := u) (xs := ys)
  have hci := cmpI_len xs.length ys.length
  have hcm : cmpT (.mk n v xs) (.mk m u ys) = cmpC n v xs.length m u ys.length (cmpTs xs ys) := rfl
  rw [hcm]
  refine ACall_V (H.length) 53 [.tmp 4] Tryd.func41 rfl rfl rfl ?_
  simp only [push_cast, Nat.reduceAdd, Nat.reduceSub, Nat.reduceMul, Nat.reduceLT, Nat.reduceLeDiff, Nat.reduceEqDiff, Int.reduceToNat, ↓reduceIte]
  refine cI (fun h1 => ?_) (fun h1 => ?_)
  · have h1 : v = u := by simpa using h1
    refine (cmpNames_ac n m (by omega) (by omega) _).to ?_
    simp only [push_cast, Nat.reduceAdd, Nat.reduceSub, Nat.reduceMul, Nat.reduceLT, Nat.reduceLeDiff, Nat.reduceEqDiff, Int.reduceToNat, ↓reduceIte]
    refine cI (fun h2 => (cmpInts_ac _ _ _).to ?_) (fun h2 => ?_)
    · simp only [push_cast, Nat.reduceAdd, Nat.reduceSub, Nat.reduceMul, Nat.reduceLT, Nat.reduceLeDiff, Nat.reduceEqDiff, Int.reduceToNat, ↓reduceIte]
      refine cI (fun h3 => ?_) (fun h3 => ?_)
      · have hll : xs.length = ys.length := hci.1.1 h3
        refine AW_loopW (maskG 55 [2, 0, 32, 0]) (fun (i : Nat) => [(37, .int .i64 i)]) (fun _ => H ++ [.cells [.str n, .bool v, .sl .none (encTs xs)], .cells [.str m, .bool u, .sl .none (encTs ys)]]) (fun i => i ≤ xs.length ∧ ∀ j (h1 : j < xs.length) (h2 : j < ys.length), j < i → cmpT xs[j] ys[j] = 0) (fun i => xs.length - i) 0 ⟨Nat.zero_le _, fun j h1 h2 h => by omega⟩ (by simp only [push_cast, Nat.reduceAdd, Nat.reduceSub, Nat.reduceMul, Nat.reduceLT, Nat.reduceLeDiff, Nat.reduceEqDiff, Int.reduceToNat, ↓reduceIte]) (fun i hi => ?_)
        simp only [push_cast, Nat.reduceAdd, Nat.reduceSub, Nat.reduceMul, Nat.reduceLT, Nat.reduceLeDiff, Nat.reduceEqDiff, Int.reduceToNat, ↓reduceIte]
        refine cI (fun h => ?_) (fun h => ?_)
        · have hix : i < xs.length := by omega
          have hiy : i < ys.length := by omega
          apply AW_drawE [some 40, some 41, some 42, some 43, some 44, some 45, some 46, some 47, some 48, some 49, some 50, some 8] [([], _)] [none, none, none, none, none, none, none, none, none, none, none, none] 0 [(0, [], [2]), (1, [], [40]), (2, [], [7]), (3, [], [41, 0]), (4, [], [43]), (5, [], [3]), (6, [], [45]), (7, [], [7]), (8, [], [46, 0]), (9, [], [48]), (10, [], [44, 4]), (11, [], [50])] [_, _, _, _, _, _, _, _, _, _, _, _]
          case' hm => exact dr
          case' hn => rfl
          case' hok => rfl
          case' hlen => rfl
          case' hd => rfl
          case' h0 => rfl
          case' hstep =>
           simp only [DAllG, push_cast, Option.isSome_some, Option.isSome_none]
           repeat' apply And.intro
           all_goals (apply DOne_V; simp only [push_cast, Nat.reduceAdd, Nat.reduceSub, Nat.reduceMul, Nat.reduceLT, Nat.reduceLeDiff, Nat.reduceEqDiff, Int.reduceToNat, ↓reduceIte] <;> first | exact rfl | omega | exact ⟨rfl, rfl⟩ | exact trivial | exact ⟨by omega, rfl⟩ | exact ⟨by omega, by omega, rfl⟩ | exact ⟨by omega, rfl, rfl⟩ | exact ⟨by omega, by omega, rfl, rfl⟩ | exact (ih _ (List.getElem_mem hix) (ys[i]'hiy) (arg_bulk hb i hix) (arg_bulk hb2 i hiy) _).to ⟨rfl, rfl⟩)
          case' hQ => skip
          simp only [push_cast, Nat.reduceAdd, Nat.reduceSub, Nat.reduceMul, Nat.reduceLT, Nat.reduceLeDiff, Nat.reduceEqDiff, Int.reduceToNat, ↓reduceIte]
          refine cI (fun h4 => ?_) (fun h4 => ?_)
          · repeat' first | refine ⟨by omega, ?_⟩ | refine cI (fun _ => ?_) (fun _ => ?_)
            refine loopW_n (i + 1) ⟨by omega, fun j j1 j2 hj => ?_⟩ (by omega) (by simp only [push_cast, Nat.reduceAdd, Nat.reduceSub, Nat.reduceMul, Nat.reduceLT, Nat.reduceLeDiff, Nat.reduceEqDiff, Int.reduceToNat, ↓reduceIte])
            rcases Nat.lt_or_ge j i with hj | hj
            · exact hi.2 j j1 j2 hj
            · have hji : j = i := by omega
              subst hji; exact h4
          · have hq : cmpTs xs ys = cmpT (xs[i]'hix) (ys[i]'hiy) := by rw [cmpTs_drop xs ys i hi.2 hll, List.drop_eq_getElem_cons hix, List.drop_eq_getElem_cons hiy, cmpTs_cons, if_pos h4]
            simp [cmpC, h1, h2, hll, hq]
        · have hq : cmpTs xs ys = 0 := by rw [cmpTs_drop xs ys i hi.2 hll, List.drop_eq_nil_of_le (show xs.length ≤ i by omega)]; exact cmpTs_nil _
          simp [cmpC, h1, h2, hll, hq]
      · have h4 := hci.2 h3 (cmpTs xs ys)
        simp only [cmpC, h1, h2, h4, ne_eq, not_true_eq_false, if_false]
    · simp [cmpC, h1, h2]
  · have h1 : ¬ v = u := by simpa using h1
    refine cI (fun hv => ?_) (fun hv => ?_) <;> cases v <;> cases u <;> first | exact absurd rfl h1 | (simp [cmpC]; done) | (simp at hv)
theorem equalR_ac (s t : Term) (h1 : s.bulk ≤ 1099511627775) (h2 : t.bulk ≤ 1099511627775) (H : List AObj) : ACall Tryd.prog 12 [encT s, encT t] H (fun r H' => r = .bool (decide (s = t)) ∧ H' = H) := by
  have he := cmpT_iff s t
  refine ACall_V (H.length) 7 [.tmp 4] Tryd.func12 rfl rfl rfl ?_
  simp only [push_cast, Nat.reduceAdd, Nat.reduceSub, Nat.reduceMul, Nat.reduceLT, Nat.reduceLeDiff, Nat.reduceEqDiff, Int.reduceToNat, ↓reduceIte]
  refine (compareR_ac s t h1 h2 _).to ?_
  simp only [push_cast, Nat.reduceAdd, Nat.reduceSub, Nat.reduceMul, Nat.reduceLT, Nat.reduceLeDiff, Nat.reduceEqDiff, Int.reduceToNat, ↓reduceIte, he]
theorem samePosR_ac (p q : List Int) (h1 : p.length < 1099511627776) (h2 : q.length < 1099511627776) (H : List AObj) : ACall Tryd.prog 62 [.sl .none (encP p), .sl .none (encP q)] H (fun r H' => r = .bool (decide (p = q)) ∧ H' = H) := by
  refine ACall_V (H.length) 24 [.tmp 4] Tryd.func62 rfl rfl rfl ?_
  simp only [push_cast, Nat.reduceAdd, Nat.reduceSub, Nat.reduceMul, Nat.reduceLT, Nat.reduceLeDiff, Nat.reduceEqDiff, Int.reduceToNat, ↓reduceIte]
  refine cI (fun hl => ?_) (fun hl => ?_)
  · have hl : p.length = q.length := by omega
    refine AW_loopW (maskG 26 [0, 0, 10, 0]) (fun (i : Nat) => [(13, .int .i64 i)]) (fun _ => H) (fun i => i ≤ p.length ∧ p.take i = q.take i) (fun i => p.length - i) 0 ⟨Nat.zero_le _, rfl⟩ (by simp only [push_cast, Nat.reduceAdd, Nat.reduceSub, Nat.reduceMul, Nat.reduceLT, Nat.reduceLeDiff, Nat.reduceEqDiff, Int.reduceToNat, ↓reduceIte]) (fun i hi => ?_)
    simp only [push_cast, Nat.reduceAdd, Nat.reduceSub, Nat.reduceMul, Nat.reduceLT, Nat.reduceLeDiff, Nat.reduceEqDiff, Int.reduceToNat, ↓reduceIte]
    refine cI (fun h => ?_) (fun h => ?_)
    · repeat refine ⟨by omega, ?_⟩
      have hip : i < p.length := by omega
      have hiq : i < q.length := by omega
      apply AW_drawE [some 16, some 17, some 18, some 19, some 20, some 21, some 22, some 23, some 24] [([], _)] [none, none, none, none, none, none, none, none, none] 0 [(0, [], [0]), (1, [], [5]), (2, [], [16, 0]), (3, [], [18]), (4, [], [1]), (5, [], [5]), (6, [], [20, 0]), (7, [], [22]), (8, [], [19, 3])] [_, _, _, _, _, _, _, _, _]
      case' hm => exact dr
      case' hn => rfl
      case' hok => rfl
      case' hlen => rfl
      case' hd => rfl
      case' h0 => rfl
      case' hstep =>
       simp only [DAllG, push_cast, Option.isSome_some, Option.isSome_none]
       repeat' apply And.intro
       all_goals (apply DOne_V; simp only [push_cast, Nat.reduceAdd, Nat.reduceSub, Nat.reduceMul, Nat.reduceLT, Nat.reduceLeDiff, Nat.reduceEqDiff, Int.reduceToNat, ↓reduceIte] <;> first | exact rfl | omega | exact ⟨rfl, rfl⟩ | exact trivial | exact ⟨by omega, rfl⟩ | exact ⟨by omega, by omega, rfl⟩ | exact ⟨by omega, rfl, rfl⟩ | exact ⟨by omega, by omega, rfl, rfl⟩ | skip)
      case' hQ => skip
      simp only [push_cast, Nat.reduceAdd, Nat.reduceSub, Nat.reduceMul, Nat.reduceLT, Nat.reduceLeDiff, Nat.reduceEqDiff, Int.reduceToNat, ↓reduceIte]
      refine cI (fun he => ?_) (fun he => ?_)
      · repeat' first | refine ⟨by omega, ?_⟩ | refine cI (fun _ => ?_) (fun _ => ?_)
        refine loopW_n (i + 1) ⟨by omega, ?_⟩ (by omega) (by simp only [push_cast, Nat.reduceAdd, Nat.reduceSub, Nat.reduceMul, Nat.reduceLT, Nat.reduceLeDiff, Nat.reduceEqDiff, Int.reduceToNat, ↓reduceIte])
        rw [List.take_succ_eq_append_getElem hip, List.take_succ_eq_append_getElem hiq, hi.2, he]
      · have hne : p ≠ q := fun e => he (by subst e; rfl)
        simp [hne]
    · have e := hi.2
      rw [List.take_of_length_le (by omega), List.take_of_length_le (by omega)] at e
      simp [e]
  · have hne : p ≠ q := fun e => hl (by rw [e])
    simp [hne]
theorem same_ac (a b : List (List Int)) (h1 : a.length < 1099511627776) (h2 : b.length < 1099511627776) (h3 : ∀ p, p ∈ a → p.length < 1099511627776) (h4 : ∀ p, p ∈ b → p.length < 1099511627776) (H : List AObj) :
    ACall Tryd.prog 19 [.sl .none (encL encQ a), .sl .none (encL encQ b)] H (fun r H' => r = .bool (decide (a = b)) ∧ H' = H) := by
  refine ACall_V (H.length) 25 [.tmp 4] Tryd.func19 rfl rfl rfl ?_
  simp only [push_cast, Nat.reduceAdd, Nat.reduceSub, Nat.reduceMul, Nat.reduceLT, Nat.reduceLeDiff, Nat.reduceEqDiff, Int.reduceToNat, ↓reduceIte]
  refine cI (fun hl => ?_) (fun hl => ?_)
  · have hl : a.length = b.length := by omega
    refine AW_loopW (maskG 27 [0, 0, 10, 0]) (fun (i : Nat) => [(13, .int .i64 i)]) (fun _ => H) (fun i => i ≤ a.length ∧ a.take i = b.take i) (fun i => a.length - i) 0 ⟨Nat.zero_le _, rfl⟩ (by simp only [push_cast, Nat.reduceAdd, Nat.reduceSub, Nat.reduceMul, Nat.reduceLT, Nat.reduceLeDiff, Nat.reduceEqDiff, Int.reduceToNat, ↓reduceIte]) (fun i hi => ?_)
    simp only [push_cast, Nat.reduceAdd, Nat.reduceSub, Nat.reduceMul, Nat.reduceLT, Nat.reduceLeDiff, Nat.reduceEqDiff, Int.reduceToNat, ↓reduceIte]
    refine cI (fun h => ?_) (fun h => ?_)
    · repeat refine ⟨by omega, ?_⟩
      have hip : i < a.length := by omega
      have hiq : i < b.length := by omega
      apply AW_drawE [some 16, some 17, some 18, some 19, some 20, some 21, some 22, some 23, some 24, some 25] [([], _)] [none, none, none, none, none, none, none, none, none, none] 0 [(0, [], [0]), (1, [], [5]), (2, [], [16, 0]), (3, [], [18]), (4, [], [1]), (5, [], [5]), (6, [], [20, 0]), (7, [], [22]), (8, [], [19, 3]), (9, [], [24])] [_, _, _, _, _, _, _, _, _, _]
      case' hm => exact dr
      case' hn => rfl
      case' hok => rfl
      case' hlen => rfl
      case' hd => rfl
      case' h0 => rfl
      case' hstep =>
       simp only [DAllG, push_cast, Option.isSome_some, Option.isSome_none]
       repeat' apply And.intro
       all_goals (apply DOne_V; simp only [push_cast, Nat.reduceAdd, Nat.reduceSub, Nat.reduceMul, Nat.reduceLT, Nat.reduceLeDiff, Nat.reduceEqDiff, Int.reduceToNat, ↓reduceIte] <;> first | exact rfl | omega | exact ⟨rfl, rfl⟩ | exact trivial | exact ⟨by omega, rfl⟩ | exact ⟨by omega, by omega, rfl⟩ | exact ⟨by omega, rfl, rfl⟩ | exact ⟨by omega, by omega, rfl, rfl⟩ | exact (samePosR_ac (a[i]'hip) (b[i]'hiq) (h3 _ (List.getElem_mem _)) (h4 _ (List.getElem_mem _)) _).to ⟨rfl, rfl⟩)
      case' hQ => skip
      simp only [push_cast, Nat.reduceAdd, Nat.reduceSub, Nat.reduceMul, Nat.reduceLT, Nat.reduceLeDiff, Nat.reduceEqDiff, Int.reduceToNat, ↓reduceIte]
      refine cI (fun he => ?_) (fun he => ?_)
      · repeat' first | refine ⟨by omega, ?_⟩ | refine cI (fun _ => ?_) (fun _ => ?_)
        refine loopW_n (i + 1) ⟨by omega, ?_⟩ (by omega) (by simp only [push_cast, Nat.reduceAdd, Nat.reduceSub, Nat.reduceMul, Nat.reduceLT, Nat.reduceLeDiff, Nat.reduceEqDiff, Int.reduceToNat, ↓reduceIte])
        rw [List.take_succ_eq_append_getElem hip, List.take_succ_eq_append_getElem hiq, hi.2, he]
      · have hne : a ≠ b := fun e => he (by subst e; rfl)
        simp [hne]
    · have e := hi.2
      rw [List.take_of_length_le (by omega), List.take_of_length_le (by omega)] at e
      simp [e]
  · have hne : a ≠ b := fun e => hl (by rw [e])
    simp [hne]
def isP (t : Term) (e : Int) (want : Term) (bad : Int) : Bool := if bad = 0 then decide (e = 0) && decide (t = want) else decide (e = bad) && decide (t = zeroT)
theorem is_ac (t : Term) (e : Int) (want : Term) (bad : Int) (h1 : t.bulk ≤ 1099511627775) (h2 : want.bulk ≤ 1099511627775) (H : List AObj) :
    ACall Tryd.prog 18 [encT t, .int .i64 e, encT want, .int .i64 bad] H (fun r H' => r = .bool (isP t e want bad) ∧ H' = H) := by
  refine ACall_V (H.length) 22 [.tmp 8] Tryd.func18 rfl rfl rfl ?_
  simp only [push_cast, Nat.reduceAdd, Nat.reduceSub, Nat.reduceMul, Nat.reduceLT, Nat.reduceLeDiff, Nat.reduceEqDiff, Int.reduceToNat, ↓reduceIte]
  unfold isP
  refine cI (fun h => cI (fun he => ?_) (fun he => ?_)) (fun h => cI (fun he => ?_) (fun he => ?_))
  · refine (equalR_ac t want h1 h2 _).to ?_
    simp only [push_cast, Nat.reduceAdd, Nat.reduceSub, Nat.reduceMul, Nat.reduceLT, Nat.reduceLeDiff, Nat.reduceEqDiff, Int.reduceToNat, ↓reduceIte]
    simp [h, he]
  · simp [h, he]
  · refine ACall.forget (args' := [encT t, encT zeroT]) ⟨Forget.refl _, fgtW_spec _ _ (by simp only [push_cast, Nat.reduceAdd, Nat.reduceSub, Nat.reduceMul, Nat.reduceLT, Nat.reduceLeDiff, Nat.reduceEqDiff, Int.reduceToNat, ↓reduceIte]), trivial⟩ ((equalR_ac t zeroT h1 (by simp [zeroT, Term.bulk_mk]) _).to ?_)
    simp only [push_cast, Nat.reduceAdd, Nat.reduceSub, Nat.reduceMul, Nat.reduceLT, Nat.reduceLeDiff, Nat.reduceEqDiff, Int.reduceToNat, ↓reduceIte]
    simp [h, he]
  · simp [h, he]
theorem variable_ac (s : List UInt8) (H : List AObj) : ACall Tryd.prog 30 [.str s] H (fun r H' => r = encT (.mk s true []) ∧ H' = H) := by
  refine ACall_V (H.length) 4 [.cell 2 24] Tryd.func30 rfl rfl rfl ?_
  simp only [push_cast, Nat.reduceAdd, Nat.reduceSub, Nat.reduceMul, Nat.reduceLT, Nat.reduceLeDiff, Nat.reduceEqDiff, Int.reduceToNat, ↓reduceIte]
theorem symbol_ac (s : List UInt8) (l : List Term) (H : List AObj) : ACall Tryd.prog 52 [.str s, .sl .none (encTs l)] H (fun r H' => r = encT (.mk s false l) ∧ H' = H) := by
  refine ACall_V (H.length) 6 [.cell 4 24] Tryd.func52 rfl rfl rfl ?_
  simp only [push_cast, Nat.reduceAdd, Nat.reduceSub, Nat.reduceMul, Nat.reduceLT, Nat.reduceLeDiff, Nat.reduceEqDiff, Int.reduceToNat, ↓reduceIte]
end Ab
set_option maxRecDepth 10000
namespace Ab
open Go Go.Proofs
theorem atR_ac (t : Term) (p : List Int) (hb : t.bulk ≤ 1099511627775) (hlen : p.length < 1099511627776) (H : List AObj) :
    ACall Tryd.prog 21 [encT t, .sl .none (encP p)] H (fun r H' => r = (match atP t p with | some x => .tup [encT x, .bool true] | none => .tup [encT (.mk [] false []), .bool false]) ∧ H' = H) := by
  refine ACall_V (H.length) 29 [.cell 4 24, .tmp 5] Tryd.func21 rfl rfl rfl ?_
  simp only [push_cast, Nat.reduceAdd, Nat.reduceSub, Nat.reduceMul, Nat.reduceLT, Nat.reduceLeDiff, Nat.reduceEqDiff, Int.reduceToNat, ↓reduceIte]
  refine AW_loopW (maskG 31 [2, 1, 3, 0, 0]) (fun (q : Nat × Term) => [(10, .int .i64 q.1)]) (fun q => H ++ [.cells [.str q.2.name, .bool q.2.var, .sl .none (encTs q.2.args)], .cells [.str [], .bool false, .sl .zero []]]) (fun q => q.1 ≤ p.length ∧ atP t (p.take q.1) = some q.2) (fun q => p.length - q.1) (0, t) ⟨Nat.zero_le _, by cases t; rfl⟩ (by simp only [push_cast, Nat.reduceAdd, Nat.reduceSub, Nat.reduceMul, Nat.reduceLT, Nat.reduceLeDiff, Nat.reduceEqDiff, Int.reduceToNat, ↓reduceIte]) (fun ⟨i, x⟩ hi => ?_)
  obtain ⟨hi, hx⟩ := hi
  simp only at hi hx
  have hbx := at_bulk _ _ _ hx
  have hlx : x.args.length < x.bulk := by cases x; exact Term.len_le
  simp only [push_cast, Nat.reduceAdd, Nat.reduceSub, Nat.reduceMul, Nat.reduceLT, Nat.reduceLeDiff, Nat.reduceEqDiff, Int.reduceToNat, ↓reduceIte]
  refine cI (fun h => ⟨by omega, ?_⟩) (fun h => ?_)
  · have hs := at_step x p[i] (p.drop (i + 1))
    have hap := at_app (p.take i) (p.drop i) t
    rw [List.take_append_drop, hx, List.drop_eq_getElem_cons (by omega)] at hap
    simp only [Option.bind_some] at hap
    have hap2 := at_app (p.take i) [p[i]] t
    rw [hx, ← List.take_succ_eq_append_getElem (by omega)] at hap2
    simp only [Option.bind_some] at hap2
    refine cI (fun h1 => ?_) (fun h1 => cI (fun h2 => ?_) (fun h2 => ?_))
    · simp only [push_cast, Nat.reduceAdd, Nat.reduceSub, Nat.reduceMul, Nat.reduceLT, Nat.reduceLeDiff, Nat.reduceEqDiff, Int.reduceToNat, ↓reduceIte, hap, hs.2 (fun hh => by omega)]
    · simp only [push_cast, Nat.reduceAdd, Nat.reduceSub, Nat.reduceMul, Nat.reduceLT, Nat.reduceLeDiff, Nat.reduceEqDiff, Int.reduceToNat, ↓reduceIte, hap, hs.2 (fun hh => by omega)]
    · have hk : 0 ≤ p[i] ∧ p[i].toNat < x.args.length := ⟨by omega, by omega⟩
      have hs2 := (at_step x p[i] []).1 hk
      refine ⟨by omega, by omega, by omega, loopW_n (i + 1, x.args[p[i].toNat]) ⟨by simp only; omega, ?_⟩ (by simp only; omega) (by simp only [push_cast, Nat.reduceAdd, Nat.reduceSub, Nat.reduceMul, Nat.reduceLT, Nat.reduceLeDiff, Nat.reduceEqDiff, Int.reduceToNat, ↓reduceIte])⟩
      simp only
      rw [hap2, hs2]
      cases x.args[p[i].toNat]; rfl
  · rw [List.take_of_length_le (by omega)] at hx
    simp only [push_cast, Nat.reduceAdd, Nat.reduceSub, Nat.reduceMul, Nat.reduceLT, Nat.reduceLeDiff, Nat.reduceEqDiff, Int.reduceToNat, ↓reduceIte, hx]
theorem walkL_pre : ∀ (xs : List Term) (i : Int) (p : List Int), (walkL xs i p).map (·.1) = ((walkL xs i []).map (·.1)).map (p ++ ·) := by
  have key : ∀ n (xs : List Term), (xs.map Term.size).sum < n → ∀ (i : Int) (p : List Int), (walkL xs i p).map (·.1) = ((walkL xs i []).map (·.1)).map (p ++ ·) := by
    intro n
    induction n with
    | zero => intro xs h; omega
    | succ n ih =>
      intro xs hn i p
      cases xs with
      | nil => simp [walkL]
      | cons t r =>
        cases t with
        | mk nm v ys =>
          simp only [List.map_cons, List.sum_cons, Term.size_mk] at hn
          simp only [walkL, List.map_cons, List.map_append]
          rw [ih ys (by omega) 0 (p ++ [i]), ih ys (by omega) 0 ([] ++ [i]), ih r (by omega) (i + 1) p]
          simp [List.map_map, Function.comp_def]
  exact fun xs => key _ xs (Nat.lt_succ_self _)
theorem posP_mk (n : List UInt8) (v : Bool) (xs : List Term) : posP (.mk n v xs) = [] :: (walkL xs 0 []).map (·.1) := rfl
theorem posL_take (xs : List Term) (i : Nat) (h : i < xs.length) : (walkL (xs.take (i + 1)) 0 []).map (·.1) = (walkL (xs.take i) 0 []).map (·.1) ++ (posP xs[i]).map ((i : Int) :: ·) := by
  rw [walkL_take _ _ _ h, List.map_append]
  congr 1
  simp only [posP, walkT, List.map_cons]
  rw [walkL_pre _ _ ([] ++ [(i : Int)])]
  simp
theorem posP_bound (t : Term) : ∀ p, p ∈ posP t → p.length < t.size := by
  intro p hp
  simp only [posP, List.mem_map] at hp
  obtain ⟨x, hx, rfl⟩ := hp
  have := walk_pos_len t [] x hx
  simpa using this
def posA (xs : List Term) (i : Nat) : List (List Int) := [] :: (walkL (xs.take i) 0 []).map (·.1)
theorem posA_0 (xs : List Term) : encL encQ (posA xs 0) = [.sl .none []] := by simp [posA, walkL, encL, encP]
theorem gSl_cons (k : Nat) (x : AV) (xs : List AV) : gSl k (x :: xs) = .sl (.own k) (x :: xs) := (rfl)
theorem gTok_cons (e sz : Nat) (x : AV) (xs : List AV) : gTok e sz (x :: xs) = .tok e sz (xs.length + 1) := (rfl)
theorem walkL_le : ∀ (xs : List Term) (k : Nat), (walkL (xs.take k) 0 []).length ≤ (xs.map Term.size).sum := by
  intro xs k
  have key : ∀ (ys : List Term) (i : Int) (p : List Int), (walkL ys i p).length = (ys.map Term.size).sum := walkL_length
  rw [key]
  conv => rhs; rw [← List.take_append_drop k xs, List.map_append, List.sum_append]
  omega
theorem positionsR_ac (t : Term) : t.bulk ≤ 1099511627775 → ∀ H, ACall Tryd.prog 20 [encT t] H (fun r H' => r = .sl .none (encL encQ (posP t)) ∧ H' = H) := by
  induction t using Term.ind with | _ n v xs ih
  intro hb H
  have hsz := (Term.mk n v xs).size_le
  rw [Term.size_mk] at hsz
  have hlen := Term.len_le (n := n) (v := v) (xs := xs)
  rw [posP_mk]
  refine ACall_VA (H.length) 34 [.tmp 2] Tryd.func20 rfl rfl rfl ?_
  refine AW_seq (AW_of_W ?_)
  simp only [push_cast, Nat.reduceAdd, Nat.reduceSub, Nat.reduceMul, Nat.reduceLT, Nat.reduceLeDiff, Nat.reduceEqDiff, Int.reduceToNat, ↓reduceIte]
  refine AW_reserve 1 ?_
  refine AW_seq (AW_regionAt _ [_] _ _ rfl rfl ?_)
  simp only [push_cast, Nat.reduceAdd, Nat.reduceSub, Nat.reduceMul, Nat.reduceLT, Nat.reduceLeDiff, Nat.reduceEqDiff, Int.reduceToNat, ↓reduceIte]
  refine bsliceG_sound (H.length + 1) ?_
  simp only [push_cast, Nat.reduceAdd, Nat.reduceSub, Nat.reduceMul, Nat.reduceLT, Nat.reduceLeDiff, Nat.reduceEqDiff, Int.reduceToNat, ↓reduceIte, bsliceG]
  refine AW_forget 3 (.sl (.own (H.length + 1)) [.sl .zero []]) (.sl (.own (H.length + 1)) [.sl .none []]) rfl (Forget.rowT _ rfl ⟨Forget.tok _ _, trivial⟩) ?_
  refine AW_seq (AW_of_W ?_)
  simp only [push_cast, Nat.reduceAdd, Nat.reduceSub, Nat.reduceMul, Nat.reduceLT, Nat.reduceLeDiff, Nat.reduceEqDiff, Int.reduceToNat, ↓reduceIte]
  refine AW_loopW (maskG 35 [3, 7, 0, 0]) (fun (i : Nat) => [(3, gSl (H.length + 1) (encL encQ (posA xs i))), (13, .int .i64 i)]) (fun i => H ++ [.cells [.str n, .bool v, .sl .none (encTs xs)], gTok 30 1 (encL encQ (posA xs i))]) (fun i => i ≤ xs.length) (fun i => xs.length - i) 0 (Nat.zero_le _) (by simp only [push_cast, Nat.reduceAdd, Nat.reduceSub, Nat.reduceMul, Nat.reduceLT, Nat.reduceLeDiff, Nat.reduceEqDiff, Int.reduceToNat, ↓reduceIte, posA_0, gSl_cons, gTok_cons]) (fun i hi => ?_)
  simp only [push_cast, Nat.reduceAdd, Nat.reduceSub, Nat.reduceMul, Nat.reduceLT, Nat.reduceLeDiff, Nat.reduceEqDiff, Int.reduceToNat, ↓reduceIte]
  refine cI (fun h => ?_) (fun h => ?_)
  · repeat refine ⟨by omega, ?_⟩
    have hi' : i < xs.length := by omega
    have hbx := arg_bulk hb i hi'
    have hszx := xs[i].size_le
    have hpl := posP_len xs[i]
    have hbd := posP_bound xs[i]
    have hst := posL_take xs i hi'
    refine (ih _ (List.getElem_mem hi') hbx _).to ?_
    obtain ⟨ps, hps⟩ : ∃ ps, ps = posP xs[i] := ⟨_, rfl⟩
    rw [← hps] at hpl hst hbd ⊢
    have hal : (posA xs i).length + ps.length ≤ 1 + (xs.map Term.size).sum := by
      have h1 := congrArg List.length hst
      simp only [List.length_append, List.length_map] at h1
      have h2 := walkL_le xs (i + 1)
      simp only [posA, List.length_cons, List.length_map]
      omega
    have hpa : posA xs (i + 1) = posA xs i ++ ps.map ((i : Int) :: ·) := by simp only [posA, hst, List.cons_append]
    simp only [push_cast, Nat.reduceAdd, Nat.reduceSub, Nat.reduceMul, Nat.reduceLT, Nat.reduceLeDiff, Nat.reduceEqDiff, Int.reduceToNat, ↓reduceIte]
    refine AW_loopA (maskG 35 [3, 0, 6, 0, 0, 5, 0, 0]) (fun (j : Nat) => [(3, gSl (H.length + 1) (encL encQ (posA xs i ++ (ps.take j).map ((i : Int) :: ·)))), (21, .int .i64 j)]) (fun j => H ++ [.cells [.str n, .bool v, .sl .none (encTs xs)], gTok 30 1 (encL encQ (posA xs i ++ (ps.take j).map ((i : Int) :: ·))), .cells [.str xs[i].name, .bool xs[i].var, .sl .none (encTs xs[i].args)]]) (fun j => j ≤ ps.length) (fun j => ps.length - j) 0 (Nat.zero_le _) (by simp only [push_cast, Nat.reduceAdd, Nat.reduceSub, Nat.reduceMul, Nat.reduceLT, Nat.reduceLeDiff, Nat.reduceEqDiff, Int.reduceToNat, ↓reduceIte, List.take_zero, List.map_nil, List.append_nil]) (fun j hj => ?_)
    refine AW_seq (AW_of_W ?_)
    simp only [push_cast, Nat.reduceAdd, Nat.reduceSub, Nat.reduceMul, Nat.reduceLT, Nat.reduceLeDiff, Nat.reduceEqDiff, Int.reduceToNat, ↓reduceIte]
    refine AW_seq (AW_of_W ?_)
    simp only [push_cast, Nat.reduceAdd, Nat.reduceSub, Nat.reduceMul, Nat.reduceLT, Nat.reduceLeDiff, Nat.reduceEqDiff, Int.reduceToNat, ↓reduceIte]
    refine cI (fun h => ?_) (fun h => ?_)
    · have hjl : j < ps.length := by omega
      refine AW_seq (AW_block ?_)
      refine AW_seq (AW_of_W ?_)
      simp only [push_cast, Nat.reduceAdd, Nat.reduceSub, Nat.reduceMul, Nat.reduceLT, Nat.reduceLeDiff, Nat.reduceEqDiff, Int.reduceToNat, ↓reduceIte]
      repeat refine ⟨by omega, ?_⟩
      refine AW_reserve 1 ?_
      refine AW_regionAt _ [_, _] _ _ rfl rfl ?_
      simp only [push_cast, Nat.reduceAdd, Nat.reduceSub, Nat.reduceMul, Nat.reduceLT, Nat.reduceLeDiff, Nat.reduceEqDiff, Int.reduceToNat, ↓reduceIte]
      refine bsliceG_sound (H.length + 3) ?_
      simp only [push_cast, Nat.reduceAdd, Nat.reduceSub, Nat.reduceMul, Nat.reduceLT, Nat.reduceLeDiff, Nat.reduceEqDiff, Int.reduceToNat, ↓reduceIte, bsliceG]
      have hbj := hbd _ (List.getElem_mem hjl)
      refine AOp.weakV (gSl_forget (H.length + 3) _) (app_L (fun i : Int => AV.int .i64 i) (sz := 1) (fun _ => rfl) (by intro x c hc; simp [AV.cells] at hc; subst hc; rfl) _ (H.length + 3) [(i : Int)] (ps[j]'hjl) _ rfl rfl (by exact (agetN _ _ 3).trans rfl) sl30 sz3 by3 zr3 rfl (by decide) (by decide) (by simp; omega) ⟨rfl, rfl⟩) ?_
      simp only [push_cast, Nat.reduceAdd, Nat.reduceSub, Nat.reduceMul, Nat.reduceLT, Nat.reduceLeDiff, Nat.reduceEqDiff, Int.reduceToNat, ↓reduceIte]
      refine app1_L encQ (sz := 1) (fun _ => rfl) (by intro x c hc; simp [AV.cells] at hc; subst hc; rfl) _ (H.length + 1) (posA xs i ++ (ps.take j).map ((i : Int) :: ·)) ((i : Int) :: ps[j]'hjl) _ rfl rfl (by exact (agetN _ _ 1).trans rfl) sl31 sz30 by30 zr30 rfl (by decide) (by decide) (by simp; omega) ?_
      simp only [push_cast, Nat.reduceAdd, Nat.reduceSub, Nat.reduceMul, Nat.reduceLT, Nat.reduceLeDiff, Nat.reduceEqDiff, Int.reduceToNat, ↓reduceIte]
      refine AW_of_W ?_
      have e1 : (ps.take (j + 1)).map ((i : Int) :: ·) = (ps.take j).map ((i : Int) :: ·) ++ [(i : Int) :: ps[j]'hjl] := by rw [List.take_succ_eq_append_getElem hjl, List.map_append]; rfl
      simp only [push_cast, Nat.reduceAdd, Nat.reduceSub, Nat.reduceMul, Nat.reduceLT, Nat.reduceLeDiff, Nat.reduceEqDiff, Int.reduceToNat, ↓reduceIte]
      repeat' first | refine ⟨by omega, ?_⟩ | refine cI (fun _ => ?_) (fun _ => ?_)
      exact loopW_n (j + 1) (by omega) (by omega) (by simp only [push_cast, Nat.reduceAdd, Nat.reduceSub, Nat.reduceMul, Nat.reduceLT, Nat.reduceLeDiff, Nat.reduceEqDiff, Int.reduceToNat, ↓reduceIte, e1])
    · repeat' first | refine ⟨by omega, ?_⟩ | refine cI (fun _ => ?_) (fun _ => ?_)
      refine loopW_n (i + 1) (by omega) (by omega) ?_
      rw [List.take_of_length_le (show ps.length ≤ j by omega), ← hpa]
      simp only [push_cast, Nat.reduceAdd, Nat.reduceSub, Nat.reduceMul, Nat.reduceLT, Nat.reduceLeDiff, Nat.reduceEqDiff, Int.reduceToNat, ↓reduceIte]
  · refine AW_seq (AW_of_W ?_)
    have hpe : posA xs i = [] :: (walkL xs 0 []).map (·.1) := by simp only [posA]; rw [List.take_of_length_le (show xs.length ≤ i by omega)]
    simp only [push_cast, Nat.reduceAdd, Nat.reduceSub, Nat.reduceMul, Nat.reduceLT, Nat.reduceLeDiff, Nat.reduceEqDiff, Int.reduceToNat, ↓reduceIte]
    refine AW_of_W ?_
    simp only [push_cast, Nat.reduceAdd, Nat.reduceSub, Nat.reduceMul, Nat.reduceLT, Nat.reduceLeDiff, Nat.reduceEqDiff, Int.reduceToNat, ↓reduceIte, hpe]
end Ab
set_option maxRecDepth 10000
namespace Ab
open Go Go.Proofs
def aG : List Term := [.mk [118] true []]
def aF : List Term := [.mk [117] true [], .mk [103] false aG, .mk [117] true []]
def cG : List Term := [.mk [120, 49] true []]
def cF : List Term := [.mk [120, 48] true [], .mk [103] false cG, .mk [120, 48] true []]
def aT : Term := .mk [102] false [.mk [117] true [], .mk [103] false [.mk [118] true []], .mk [117] true []]
def cT : Term := .mk [102] false [.mk [120, 48] true [], .mk [103] false [.mk [120, 49] true []], .mk [120, 48] true []]
theorem encAG : encTs aG = [AV.agg [.str [118], .bool true, .sl .none []]] := by simp only [aG, encTs_cons, encTs_nil, encT, Term.mk_name, Term.mk_var, Term.mk_args]
theorem encAF : encTs aF = [AV.agg [.str [117], .bool true, .sl .none []], .agg [.str [103], .bool false, .sl .none (encTs aG)], .agg [.str [117], .bool true, .sl .none []]] := by simp only [aF, encTs_cons, encTs_nil, encT, Term.mk_name, Term.mk_var, Term.mk_args]
theorem encCG : encTs cG = [AV.agg [.str [120, 49], .bool true, .sl .none []]] := by simp only [cG, encTs_cons, encTs_nil, encT, Term.mk_name, Term.mk_var, Term.mk_args]
theorem encCF : encTs cF = [AV.agg [.str [120, 48], .bool true, .sl .none []], .agg [.str [103], .bool false, .sl .none (encTs cG)], .agg [.str [120, 48], .bool true, .sl .none []]] := by simp only [cF, encTs_cons, encTs_nil, encT, Term.mk_name, Term.mk_var, Term.mk_args]
theorem aT_formed : formedP aT = true := by simp only [aT, formedP_mk]; simp [formedP_mk]; decide +kernel
theorem aT_size : aT.size = 5 := by simp [aT, Term.size_mk]
theorem aT_depth : aT.depth = 3 := by simp [aT, Term.depth_mk]
theorem aT_sizeI : ((aT.size : Nat) : Int) = 5 := by rw [aT_size]; rfl
theorem aT_depthI : ((aT.depth : Nat) : Int) = 3 := by rw [aT_depth]; rfl
theorem aT_check : checkP aT = 0 := by unfold checkP fitsP; simp [aT_formed, aT_size, aT_depth]
theorem aT_pos : posP aT = [[], [0], [1], [1, 0], [2]] := by simp [posP, aT, walkT, walkL, Term.mk_args]
theorem decD : Lib.decDigits 0 = [48] ∧ Lib.decDigits 1 = [49] := by decide +kernel
theorem aT_canon : canonP aT = cT := by simp [canonP, aT, cT, renP, renL, stdF, xName, decD]
theorem aT_bulk : aT.bulk ≤ 1099511627775 := by simp [aT, Term.bulk_mk]
theorem cT_bulk : cT.bulk ≤ 1099511627775 := by simp [cT, Term.bulk_mk]
theorem cG_ac (H : List AObj) : ACall Tryd.prog 52 [.str [103], .sl .none [AV.agg [.str [120, 49], .bool true, .sl .none []]]] H (fun r H' => r = encT (.mk [103] false cG) ∧ H' = H) := by
  rw [← encCG]; exact symbol_ac _ _ _
theorem cF_ac (H : List AObj) : ACall Tryd.prog 52 [.str [102], .sl .none [AV.agg [.str [120, 48], .bool true, .sl .none []], .agg [.str [103], .bool false, .sl .none (encTs cG)], .agg [.str [120, 48], .bool true, .sl .none []]]] H (fun r H' => r = encT cT ∧ H' = H) := by
  rw [← encCF]; exact symbol_ac _ cF _
theorem Forget.row (t : Tok) {xs ys : List AV} (hl : xs.length = ys.length) (h : ForgetL (flat xs) (flat ys)) : Forget (.sl t xs) (.sl .none ys) := fun C x hx => by
  obtain ⟨h1, h2⟩ := ForgetL.spec h
  cases hx with
  | sl _ _ a n c f hn hc hrow hrel htok =>
    refine .sl .none ys a n c f (hn.trans hl) hc (fun hne => ?_) (fun j hj => h2 j (by omega) hj _ _ (hrel j (by omega))) trivial
    obtain ⟨b, o, ha, hr⟩ := hrow (fun e => hne (List.eq_nil_of_length_eq_zero (by rw [← h1, e]; rfl)))
    exact ⟨b, o, ha, h1 ▸ hr⟩
theorem sameA_ac (H : List AObj) : ACall Tryd.prog 19 [.sl .none (encL encQ [[], [0], [1], [1, 0], [2]]), .sl .none [.sl .zero [], .sl .none [.int .i64 0], .sl .none [.int .i64 1], .sl .none [.int .i64 1, .int .i64 0], .sl .none [.int .i64 2]]] H (fun r H' => r = .bool true ∧ H' = H) := by
  refine ACall.forget (args' := [.sl .none (encL encQ [[], [0], [1], [1, 0], [2]]), .sl .none (encL encQ [[], [0], [1], [1, 0], [2]])]) ⟨Forget.refl _, ?_, trivial⟩ ((same_ac [[], [0], [1], [1, 0], [2]] [[], [0], [1], [1, 0], [2]] (by simp) (by simp) (by simp) (by simp) _).mono ?_)
  · refine Forget.row _ (by simp [encL]) ?_
    exact ⟨Forget.tok _ _, Forget.refl _, Forget.refl _, Forget.refl _, Forget.refl _, trivial⟩
  · rintro r H' ⟨rfl, rfl⟩; exact ⟨by simp, rfl⟩
theorem equalC_ac (H : List AObj) : ACall Tryd.prog 12 [encT cT, encT cT] H (fun r H' => r = .bool true ∧ H' = H) :=
  (equalR_ac cT cT cT_bulk cT_bulk _).mono (by rintro r H' ⟨rfl, rfl⟩; exact ⟨by simp, rfl⟩)
theorem alive_ac (hit : ∀ i H, i < 100 → ACall Tryd.prog 92 [.int .i64 (i : Nat)] H (fun r H' => r = .str (Lib.decDigits i) ∧ H' = H)) (H : List AObj) :
    ACall Tryd.prog 11 [] H (fun r H' => r = .bool true ∧ H' = H) := by
  have hd : ∀ i, i < 100 → (Lib.decDigits i).length ≤ 1099511627775 := by decide +kernel
  refine ACall_V (H.length) 65 [.tmp 0] Tryd.func11 rfl rfl rfl ?_
  simp only [push_cast, Nat.reduceAdd, Nat.reduceSub, Nat.reduceMul, Nat.reduceLT, Nat.reduceLeDiff, Nat.reduceEqDiff, Int.reduceToNat, ↓reduceIte]
  refine (variable_ac _ _).to ?_
  simp only [push_cast, Nat.reduceAdd, Nat.reduceSub, Nat.reduceMul, Nat.reduceLT, Nat.reduceLeDiff, Nat.reduceEqDiff, Int.reduceToNat, ↓reduceIte]
  refine (variable_ac _ _).to ?_
  simp only [push_cast, Nat.reduceAdd, Nat.reduceSub, Nat.reduceMul, Nat.reduceLT, Nat.reduceLeDiff, Nat.reduceEqDiff, Int.reduceToNat, ↓reduceIte]
  rw [← encAG]
  refine (symbol_ac _ aG _).to ?_
  simp only [push_cast, Nat.reduceAdd, Nat.reduceSub, Nat.reduceMul, Nat.reduceLT, Nat.reduceLeDiff, Nat.reduceEqDiff, Int.reduceToNat, ↓reduceIte]
  refine (variable_ac _ _).to ?_
  simp only [push_cast, Nat.reduceAdd, Nat.reduceSub, Nat.reduceMul, Nat.reduceLT, Nat.reduceLeDiff, Nat.reduceEqDiff, Int.reduceToNat, ↓reduceIte]
  rw [← encAF]
  refine (symbol_ac _ aF _).to ?_
  simp only [push_cast, Nat.reduceAdd, Nat.reduceSub, Nat.reduceMul, Nat.reduceLT, Nat.reduceLeDiff, Nat.reduceEqDiff, Int.reduceToNat, ↓reduceIte]
  refine (positions_ac aT aT_bulk _).to ?_
  simp only [push_cast, Nat.reduceAdd, Nat.reduceSub, Nat.reduceMul, Nat.reduceLT, Nat.reduceLeDiff, Nat.reduceEqDiff, Int.reduceToNat, ↓reduceIte, aT_check, aT_pos]
  refine (canonical_ac 100 hit (by decide) hd aT aT_bulk (fun _ => by rw [aT_size]; decide) _).to ?_
  simp only [push_cast, Nat.reduceAdd, Nat.reduceSub, Nat.reduceMul, Nat.reduceLT, Nat.reduceLeDiff, Nat.reduceEqDiff, Int.reduceToNat, ↓reduceIte, aT_check, aT_canon]
  apply AW_drawE [some 23, some 24, some 25, some 26, some 27, some 28, some 29, some 30, some 31, some 32, some 33, some 34, some 35, some 36, some 37, some 38, some 39, some 40, some 41, some 42, some 43, some 44, some 45, some 46, some 47, some 48, some 49, some 50, some 51, some 52, some 53, some 54, some 55, some 56, some 57, some 58, some 59, some 60, some 61, some 62, some 63, some 64, some 0] [([], _)] [none, none, none, none, none, none, none, none, none, none, none, none, none, none, none, none, none, none, none, none, none, none, none, none, none, none, none, none, none, none, none, none, none, none, none, none, none, none, none, none, none, none, none] 0 [(0, [], [1]), (1, [], [23]), (2, [], [24]), (3, [], [25]), (4, [], [1, 24]), (5, [], [26, 0]), (6, [], [26, 1]), (7, [], [26, 2]), (8, [], [30]), (9, [], [1, 29]), (10, [], [31, 0]), (11, [], [31, 1]), (12, [], [31, 2]), (13, [], [35]), (14, [], [3, 32]), (15, [], [36, 0]), (16, [], [36, 1]), (17, [], [39]), (18, [], [2, 37]), (19, [], [40]), (20, [], [40]), (21, [], [40]), (22, [], [40]), (23, [], [40]), (24, [], [40, 1, 0, 0, 0, 0]), (25, [], [40, 0, 5]), (26, [], [40, 7]), (27, [], [49]), (28, [], [5, 44]), (29, [], [50, 0]), (30, [], [50, 1]), (31, [], [53]), (32, [], [4, 49]), (33, [], [54]), (34, [], [54]), (35, [], [54, 2]), (36, [], [54, 3]), (37, [], [54]), (38, [], [54, 1, 2, 0]), (39, [], [54, 6]), (40, [], [54, 0, 6]), (41, [], [54, 8]), (42, [], [64])] [_, _, _, _, _, _, _, _, _, _, _, _, _, _, _, _, _, _, _, _, _, _, _, _, _, _, _, _, _, _, _, _, _, _, _, _, _, _, _, _, _, _, _]
  case' hm => exact dr
  case' hn => rfl
  case' hok => rfl
  case' hlen => rfl
  case' hd => rfl
  case' h0 => rfl
  case' hstep =>
   simp only [DAllG, push_cast, Option.isSome_some, Option.isSome_none]
   repeat' apply And.intro
   all_goals (apply DOne_V; simp only [push_cast, Nat.reduceAdd, Nat.reduceSub, Nat.reduceMul, Nat.reduceLT, Nat.reduceLeDiff, Nat.reduceEqDiff, Int.reduceToNat, ↓reduceIte, aT_check, aT_sizeI, aT_depthI, true_and, decide_true] <;> first | exact rfl | omega | exact ⟨rfl, rfl⟩ | exact trivial | exact ⟨by omega, rfl⟩ | exact ⟨by omega, by omega, rfl⟩ | exact ⟨by omega, rfl, rfl⟩ | exact ⟨by omega, by omega, rfl, rfl⟩ | exact (check_ac aT aT_bulk _).to ⟨rfl, rfl⟩ | exact (size_ac aT (Nat.le_trans aT_bulk (by decide)) _).to ⟨rfl, rfl⟩ | exact (depth_ac aT (Nat.le_trans aT_bulk (by decide)) _).to ⟨rfl, rfl⟩ | exact (sameA_ac _).to ⟨rfl, rfl⟩ | exact (variable_ac _ _).to ⟨rfl, rfl⟩ | exact (cG_ac _).to ⟨rfl, rfl⟩ | exact (cF_ac _).to ⟨rfl, rfl⟩ | exact (equalC_ac _).to ⟨rfl, rfl⟩)
  case' hQ => skip
  simp only [push_cast, Nat.reduceAdd, Nat.reduceSub, Nat.reduceMul, Nat.reduceLT, Nat.reduceLeDiff, Nat.reduceEqDiff, Int.reduceToNat, ↓reduceIte]
end Ab
namespace Ab
open Go Go.Proofs
theorem step_some {n : List UInt8} {v : Bool} {xs : List Term} {i : Int} {p : List Int} {y : Term} (h : atP (.mk n v xs) (i :: p) = some y) : ∃ hi : 0 ≤ i ∧ i.toNat < xs.length, atP (xs[i.toNat]'hi.2) p = some y := by
  simp only [atP] at h
  split at h
  · rename_i hi; exact ⟨hi, h⟩
  · cases h
theorem step_put (n : List UInt8) (v : Bool) (xs : List Term) (i : Int) (p : List Int) (x : Term) (h : i.toNat < xs.length) : putP (.mk n v xs) (i :: p) x = .mk n false (xs.set i.toNat (putP (xs[i.toNat]'h) p x)) := by
  simp [putP, List.getD_eq_getElem?_getD, List.getElem?_eq_getElem h]
theorem put_formed : ∀ (p : List Int) (t x y : Term), atP t p = some y → formedP t = true → formedP x = true → formedP (putP t p x) = true
  | [], t, x, y, _, _, hx => by cases t; exact hx
  | i :: p, .mk n v xs, x, y, h, hf, hx => by
    have hv := at_var h (by simp) hf
    obtain ⟨hi, ha⟩ := step_some h
    simp only [Term.var_mk] at hv
    subst hv
    rw [step_put _ _ _ _ _ _ hi.2]
    rw [formedP_mk] at hf ⊢
    simp only [Bool.false_eq_true, if_false, Bool.and_eq_true, decide_eq_true_eq, List.all_eq_true, List.length_set] at hf ⊢
    refine ⟨hf.1, fun z hz => ?_⟩
    rcases List.mem_or_eq_of_mem_set hz with hz | rfl
    · exact hf.2 _ hz
    · exact put_formed p _ x y ha (hf.2 _ (List.getElem_mem _)) hx
theorem at_e {t s : Term} {p : List Int} (h1 : checkP t = 0) (h2 : atP t p = some s) : atE t p = (s, 0) := by simp [atE, h1, h2]
theorem zeroT_bulk : zeroT.bulk = 1 := by simp [zeroT, Term.bulk_mk]
theorem putE_bulk (t x : Term) (p : List Int) (h : 1 ≤ t.bulk) : (putE t p x).1.bulk ≤ t.bulk + x.bulk := by
  have hz := zeroT_bulk
  unfold putE
  split
  · split
    · rename_i s hs
      split
      · split
        · exact put_bulk x p t s hs
        · show zeroT.bulk ≤ _; omega
      · show zeroT.bulk ≤ _; omega
    · show zeroT.bulk ≤ _; omega
  · show zeroT.bulk ≤ _; omega
end Ab
set_option maxRecDepth 10000
namespace Ab
open Go Go.Proofs
theorem putR_ac (x : Term) (hx : x.bulk ≤ 1099511627775) : ∀ (p : List Int) (t y : Term), t.bulk ≤ 1099511627775 → p.length < 1099511627776 → atP t p = some y → ∀ H,
    ACall Tryd.prog 22 [encT t, .sl .none (encP p), encT x] H (fun r H' => r = encT (putP t p x) ∧ H' = H) := by
  intro p
  induction p with
  | nil =>
    rintro ⟨n, u, xs⟩ y hb hlen hat H
    refine ACall_V (H.length) 32 [.cell 6 24] Tryd.func22 rfl rfl rfl ?_
    simp only [push_cast, Nat.reduceAdd, Nat.reduceSub, Nat.reduceMul, Nat.reduceLT, Nat.reduceLeDiff, Nat.reduceEqDiff, Int.reduceToNat, ↓reduceIte, putP]
  | cons k q ih =>
    rintro ⟨n, u, xs⟩ y hb hlen hat H
    have hl2 := Term.len_le (n := n) (v := u) (xs := xs)
    obtain ⟨hk, hat2⟩ := step_some hat
    rw [step_put _ _ _ _ _ _ hk.2]
    have hbx := arg_bulk hb k.toNat hk.2
    have hne : encTs xs ≠ [] := fun e => by have := congrArg List.length e; rw [encTs_length] at this; simp at this; rw [this] at hk; simp at hk
    have hrec := fun H => ih (xs[k.toNat]'hk.2) y hbx (by simp at hlen; omega) hat2 H
    have hget := flat_encTs_get xs k.toNat hk.2
    have hset := flat_encTs_set2 xs k.toNat hk.2
    have hfl := flat_encTs_len xs
    refine ACall_VA (H.length) 32 [.cell 6 24] Tryd.func22 rfl rfl rfl ?_
    refine AW_seq (AW_of_W ?_)
    simp only [push_cast, Nat.reduceAdd, Nat.reduceSub, Nat.reduceMul, Nat.reduceLT, Nat.reduceLeDiff, Nat.reduceEqDiff, Int.reduceToNat, ↓reduceIte]
    refine AW_reserve 1 ?_
    refine AW_seq (AW_of_W ?_)
    simp only [push_cast, Nat.reduceAdd, Nat.reduceSub, Nat.reduceMul, Nat.reduceLT, Nat.reduceLeDiff, Nat.reduceEqDiff, Int.reduceToNat, ↓reduceIte]
    refine cI (fun h => by omega) (fun _ => ?_)
    refine AW_seq (AW_of_W ?_)
    simp only [push_cast, Nat.reduceAdd, Nat.reduceSub, Nat.reduceMul, Nat.reduceLT, Nat.reduceLeDiff, Nat.reduceEqDiff, Int.reduceToNat, ↓reduceIte]
    refine AOp_append_arrAt (H.length + 3) (by exact (agetN _ _ 3).trans rfl) _ (encTs xs) _ rfl rfl sl22 sz24 by24 zr24 rfl (by decide) (uni_encTs _) (cell_encTs _) hne (by rw [encTs_length]; omega) (by rw [encTs_length]; omega) ?_
    simp only [push_cast, Nat.reduceAdd, Nat.reduceSub, Nat.reduceMul, Nat.reduceLT, Nat.reduceLeDiff, Nat.reduceEqDiff, Int.reduceToNat, ↓reduceIte]
    refine AW_seq ?_
    apply AW_drawE [some 16, some 17, some 18, some 19, some 20, some 21, some 22, some 23, some 24, some 25, some 26, some 27, some 28, some 29, some 30, none] [([false], _), ([true], _)] [none, none, none, none, none, none, none, none, none, none, none, none, none, none, none, some 0] 1 [(0, [false], [7]), (1, [false], [1]), (2, [false], [17]), (3, [false], [18]), (4, [false], [7]), (5, [false], [1]), (6, [false], [21]), (7, [false], [22]), (8, [false], [20, 2]), (9, [false], [24]), (10, [false], [1]), (11, [false], [26]), (12, [false], [5]), (13, [false], [25, 1, 0]), (14, [false], [16, 2]), (15, [false], [29, 0])] [_, _, _, _, _, _, _, _, _, _, _, _, _, _, _, _]
    case' hm => exact dr
    case' hn => rfl
    case' hok => rfl
    case' hlen => rfl
    case' hd => rfl
    case' h0 => rfl
    case' hstep =>
     simp only [DAllG, push_cast, Option.isSome_some, Option.isSome_none]
     repeat' apply And.intro
     all_goals (apply DOne_V; simp only [push_cast, Nat.reduceAdd, Nat.reduceSub, Nat.reduceMul, Nat.reduceLT, Nat.reduceLeDiff, Nat.reduceEqDiff, Int.reduceToNat, ↓reduceIte] <;> first | exact rfl | omega | exact ⟨rfl, rfl⟩ | exact trivial | exact ⟨by omega, rfl⟩ | exact ⟨by omega, by omega, rfl⟩ | exact ⟨by omega, rfl, rfl⟩ | exact ⟨by omega, by omega, rfl, rfl⟩ | (rw [hget]; exact ⟨leL_of (by rw [hfl]; omega), rfl⟩) | exact (hrec _).to ⟨rfl, rfl⟩ | (rw [hset]; exact ⟨leL_of (by rw [hfl]; omega), rfl, rfl⟩))
    case' hQ => skip
    obtain ⟨zs, hzs⟩ : ∃ zs, zs = xs.set k.toNat (putP (xs[k.toNat]'hk.2) q x) := ⟨_, rfl⟩
    rw [← hzs]
    have hzl : zs.length = xs.length := by rw [hzs, List.length_set]
    have hLl : (H ++ [AObj.cells [.str n, .bool u, .sl .none (encTs xs)], .cells [.str x.name, .bool x.var, .sl .none (encTs x.args)], .cells [.str [], .bool false, .sl .zero []]]).length = H.length + 3 := by simp
    simp only [push_cast, Nat.reduceAdd, Nat.reduceSub, Nat.reduceMul, Nat.reduceLT, Nat.reduceLeDiff, Nat.reduceEqDiff, Int.reduceToNat, ↓reduceIte]
    apply AW_freezeA (H ++ [.cells [.str n, .bool u, .sl .none (encTs xs)], .cells [.str x.name, .bool x.var, .sl .none (encTs x.args)], .cells [.str [], .bool false, .sl .zero []]]) (flat (encTs zs))
    case' hh => simp
    case' hm => rw [hLl]; simp only [push_cast, Nat.reduceAdd, Nat.reduceSub, Nat.reduceMul, Nat.reduceLT, Nat.reduceLeDiff, Nat.reduceEqDiff, Int.reduceToNat, ↓reduceIte]
    case' hvs => exact scoped_flatT _ zs
    case' hsl => (rw [hLl]; repeat (first | exact FrzOk.nil | apply FrzOk.froz | (apply FrzOk.row (xs := encTs zs); (case' hxs => rfl); (case' hn => (rw [encTs_length, hzl]))) | (apply FrzOk.same; (case' hv => (first | (simp [push_cast]; done) | (simp [push_cast, Scoped, ScopedL, scoped_encTs]; done)))) | apply FrzOk.junk))
    refine AW_of_W ?_
    simp only [push_cast, Nat.reduceAdd, Nat.reduceSub, Nat.reduceMul, Nat.reduceLT, Nat.reduceLeDiff, Nat.reduceEqDiff, Int.reduceToNat, ↓reduceIte]
end Ab
set_option maxRecDepth 10000
namespace Ab
open Go Go.Proofs
theorem isP_bad (w : Term) (e : Int) (h : e ≠ 0) : isP zeroT e w e = true := by simp [isP, h]
theorem isP_ok (w : Term) : isP w 0 w 0 = true := by simp [isP]
theorem putE_none {t x : Term} {p : List Int} (ht : checkP t = 0) (h : atP t p = none) : putE t p x = (zeroT, 8) := by simp [putE, ht, h]
theorem atE_none {t : Term} {p : List Int} (ht : checkP t = 0) (h : atP t p = none) : atE t p = (zeroT, 8) := by simp [atE, ht, h]
theorem putE_bad {t x y : Term} {p : List Int} (ht : checkP t = 0) (h : atP t p = some y) (hx : checkP x ≠ 0) : putE t p x = (zeroT, checkP x) := by simp [putE, ht, h, hx]
theorem atE_bad {t : Term} {p : List Int} (ht : checkP t ≠ 0) : atE t p = (zeroT, checkP t) := by simp [atE, ht]
theorem putE_bad0 {t x : Term} {p : List Int} (ht : checkP t ≠ 0) : putE t p x = (zeroT, checkP t) := by simp [putE, ht]
theorem putE_is {t x y : Term} {p : List Int} (ht : checkP t = 0) (h : atP t p = some y) (hx : checkP x = 0) : isP (putE t p x).1 (putE t p x).2 (putP t p x) (checkP (putP t p x)) = true := by
  have hf := put_formed p t x y h ((checkP_iff t).1 ht).1 ((checkP_iff x).1 hx).1
  cases hq : fitsP (putP t p x) with
  | true =>
    have hc : checkP (putP t p x) = 0 := (checkP_iff _).2 ⟨hf, hq⟩
    have : putE t p x = (putP t p x, 0) := by simp [putE, ht, h, hx, hq]
    rw [this, hc]; exact isP_ok _
  | false =>
    have hc : checkP (putP t p x) = 3 := by unfold checkP; rw [hf, hq]; rfl
    have : putE t p x = (zeroT, 3) := by simp [putE, ht, h, hx, hq]
    rw [this, hc]; exact isP_bad _ _ (by decide)
theorem places_ac (hit : ∀ i H, i < 100 → ACall Tryd.prog 92 [.int .i64 (i : Nat)] H (fun r H' => r = .str (Lib.decDigits i) ∧ H' = H)) (t x : Term) (p : List Int)
    (hb : 2 * t.bulk + x.bulk ≤ 1099511627770) (hp : p.length < 1099511627776) (H : List AObj) :
    ACall Tryd.prog 4 [encT t, .sl .none (encP p), encT x] H (fun r H' => r = .bool true ∧ H' = H) := by
  have h1 : 1 ≤ t.bulk := by have := t.size_le; have := t.size_pos; omega
  have hpe := putE_bulk t x p h1
  obtain ⟨z, hzz⟩ : ∃ z, z = zeroT := ⟨_, rfl⟩
  have hz : z.bulk = 1 := by rw [hzz]; exact zeroT_bulk
  have hbad : ∀ w e, e ≠ 0 → isP z e w e = true := fun w e h => by rw [hzz]; exact isP_bad w e h
  by_cases ht : checkP t = 0
  · have hsz := t.size_le
    have hpl := posP_len t
    have hpb : ∀ q, q ∈ posP t → q.length < 1099511627776 := fun q hq => by have := posP_bound t q hq; omega
    cases hx : atP t p with
    | none =>
      have e1 : atE t p = (z, 8) := by rw [hzz]; exact atE_none ht hx
      have e2 : putE t p x = (z, 8) := by rw [hzz]; exact putE_none ht hx
      refine ACall_V (H.length) 122 [.tmp 6] Tryd.func4 rfl rfl rfl ?_
      simp only [push_cast, Nat.reduceAdd, Nat.reduceSub, Nat.reduceMul, Nat.reduceLT, Nat.reduceLeDiff, Nat.reduceEqDiff, Int.reduceToNat, ↓reduceIte]
      refine (positions_ac t (by omega) _).to ?_
      rw [if_pos ht]
      simp only [push_cast, Nat.reduceAdd, Nat.reduceSub, Nat.reduceMul, Nat.reduceLT, Nat.reduceLeDiff, Nat.reduceEqDiff, Int.reduceToNat, ↓reduceIte]
      refine (at_ac t p (by omega) hp _).to ?_
      simp only [push_cast, Nat.reduceAdd, Nat.reduceSub, Nat.reduceMul, Nat.reduceLT, Nat.reduceLeDiff, Nat.reduceEqDiff, Int.reduceToNat, ↓reduceIte, e1]
      refine (put_ac t p x (by omega) hp _).to ?_
      simp only [push_cast, Nat.reduceAdd, Nat.reduceSub, Nat.reduceMul, Nat.reduceLT, Nat.reduceLeDiff, Nat.reduceEqDiff, Int.reduceToNat, ↓reduceIte, e2]
      refine (checkR_ac t (by omega) _).to ?_
      simp only [push_cast, Nat.reduceAdd, Nat.reduceSub, Nat.reduceMul, Nat.reduceLT, Nat.reduceLeDiff, Nat.reduceEqDiff, Int.reduceToNat, ↓reduceIte, ht]
      refine (positionsR_ac t (by omega) _).to ?_
      simp only [push_cast, Nat.reduceAdd, Nat.reduceSub, Nat.reduceMul, Nat.reduceLT, Nat.reduceLeDiff, Nat.reduceEqDiff, Int.reduceToNat, ↓reduceIte]
      refine (same_ac (posP t) (posP t) (by omega) (by omega) hpb hpb _).to ?_
      simp only [push_cast, Nat.reduceAdd, Nat.reduceSub, Nat.reduceMul, Nat.reduceLT, Nat.reduceLeDiff, Nat.reduceEqDiff, Int.reduceToNat, ↓reduceIte, decide_true, Bool.not_true]
      refine (atR_ac t p (by omega) hp _).to ?_
      simp only [push_cast, Nat.reduceAdd, Nat.reduceSub, Nat.reduceMul, Nat.reduceLT, Nat.reduceLeDiff, Nat.reduceEqDiff, Int.reduceToNat, ↓reduceIte, hx, Bool.not_false]
      refine (is_ac z 8 t 8 (by omega) (by omega) _).to ?_
      simp only [push_cast, Nat.reduceAdd, Nat.reduceSub, Nat.reduceMul, Nat.reduceLT, Nat.reduceLeDiff, Nat.reduceEqDiff, Int.reduceToNat, ↓reduceIte, hbad t 8 (by decide)]
      refine (is_ac z 8 t 8 (by omega) (by omega) _).to ?_
      simp only [push_cast, Nat.reduceAdd, Nat.reduceSub, Nat.reduceMul, Nat.reduceLT, Nat.reduceLeDiff, Nat.reduceEqDiff, Int.reduceToNat, ↓reduceIte, hbad t 8 (by decide)]
      refine (alive_ac hit _).to ?_
      simp only [push_cast, Nat.reduceAdd, Nat.reduceSub, Nat.reduceMul, Nat.reduceLT, Nat.reduceLeDiff, Nat.reduceEqDiff, Int.reduceToNat, ↓reduceIte]
    | some y =>
      have e1 := at_e ht hx
      have hyb := at_bulk _ _ _ hx
      have hpb2 := put_bulk x p t y hx
      by_cases hcx : checkP x = 0
      · have hfin := putE_is ht hx hcx
        obtain ⟨r, g, hrg⟩ : ∃ r g, putE t p x = (r, g) := ⟨_, _, rfl⟩
        have hpa := fun H => put_ac t p x (by omega) hp H
        simp only [hrg] at hfin hpe hpa
        refine ACall_V (H.length) 122 [.tmp 6] Tryd.func4 rfl rfl rfl ?_
        simp only [push_cast, Nat.reduceAdd, Nat.reduceSub, Nat.reduceMul, Nat.reduceLT, Nat.reduceLeDiff, Nat.reduceEqDiff, Int.reduceToNat, ↓reduceIte]
        refine (positions_ac t (by omega) _).to ?_
        rw [if_pos ht]
        simp only [push_cast, Nat.reduceAdd, Nat.reduceSub, Nat.reduceMul, Nat.reduceLT, Nat.reduceLeDiff, Nat.reduceEqDiff, Int.reduceToNat, ↓reduceIte]
        refine (at_ac t p (by omega) hp _).to ?_
        simp only [push_cast, Nat.reduceAdd, Nat.reduceSub, Nat.reduceMul, Nat.reduceLT, Nat.reduceLeDiff, Nat.reduceEqDiff, Int.reduceToNat, ↓reduceIte, e1]
        refine (hpa _).to ?_
        simp only [push_cast, Nat.reduceAdd, Nat.reduceSub, Nat.reduceMul, Nat.reduceLT, Nat.reduceLeDiff, Nat.reduceEqDiff, Int.reduceToNat, ↓reduceIte]
        refine (checkR_ac t (by omega) _).to ?_
        simp only [push_cast, Nat.reduceAdd, Nat.reduceSub, Nat.reduceMul, Nat.reduceLT, Nat.reduceLeDiff, Nat.reduceEqDiff, Int.reduceToNat, ↓reduceIte, ht]
        refine (positionsR_ac t (by omega) _).to ?_
        simp only [push_cast, Nat.reduceAdd, Nat.reduceSub, Nat.reduceMul, Nat.reduceLT, Nat.reduceLeDiff, Nat.reduceEqDiff, Int.reduceToNat, ↓reduceIte]
        refine (same_ac (posP t) (posP t) (by omega) (by omega) hpb hpb _).to ?_
        simp only [push_cast, Nat.reduceAdd, Nat.reduceSub, Nat.reduceMul, Nat.reduceLT, Nat.reduceLeDiff, Nat.reduceEqDiff, Int.reduceToNat, ↓reduceIte, decide_true, Bool.not_true]
        refine (atR_ac t p (by omega) hp _).to ?_
        simp only [push_cast, Nat.reduceAdd, Nat.reduceSub, Nat.reduceMul, Nat.reduceLT, Nat.reduceLeDiff, Nat.reduceEqDiff, Int.reduceToNat, ↓reduceIte, hx, Bool.not_true]
        refine (is_ac y 0 y 0 (by omega) (by omega) _).to ?_
        simp only [push_cast, Nat.reduceAdd, Nat.reduceSub, Nat.reduceMul, Nat.reduceLT, Nat.reduceLeDiff, Nat.reduceEqDiff, Int.reduceToNat, ↓reduceIte, isP_ok, Bool.not_true]
        refine (checkR_ac x (by omega) _).to ?_
        simp only [push_cast, Nat.reduceAdd, Nat.reduceSub, Nat.reduceMul, Nat.reduceLT, Nat.reduceLeDiff, Nat.reduceEqDiff, Int.reduceToNat, ↓reduceIte, hcx]
        refine (putR_ac x (by omega) p t y (by omega) hp hx _).to ?_
        simp only [push_cast, Nat.reduceAdd, Nat.reduceSub, Nat.reduceMul, Nat.reduceLT, Nat.reduceLeDiff, Nat.reduceEqDiff, Int.reduceToNat, ↓reduceIte]
        apply AW_drawE [some 116, some 117, some 118, some 119, some 120, some 121, some 122, some 123, some 124, some 6] [([], _)] [none, none, none, none, none, none, none, none, none, none] 0 [(0, [], [11]), (1, [], [12]), (2, [], [17]), (3, [], [17]), (4, [], [119]), (5, [], [116, 0, 0, 1]), (6, [], [121]), (7, [], [122]), (8, [], [122, 0]), (9, [], [124])] [_, _, _, _, _, _, _, _, _, _]
        case' hm => exact dr
        case' hn => rfl
        case' hok => rfl
        case' hlen => rfl
        case' hd => rfl
        case' h0 => rfl
        case' hstep =>
         simp only [DAllG, push_cast, Option.isSome_some, Option.isSome_none]
         repeat' apply And.intro
         all_goals (apply DOne_V; simp only [push_cast, Nat.reduceAdd, Nat.reduceSub, Nat.reduceMul, Nat.reduceLT, Nat.reduceLeDiff, Nat.reduceEqDiff, Int.reduceToNat, ↓reduceIte, hfin] <;> first | exact rfl | omega | exact ⟨rfl, rfl⟩ | exact trivial | exact ⟨by omega, rfl⟩ | exact ⟨by omega, by omega, rfl⟩ | exact ⟨by omega, rfl, rfl⟩ | exact ⟨by omega, by omega, rfl, rfl⟩ | exact (checkR_ac _ (by omega) _).to ⟨rfl, rfl⟩ | exact (is_ac _ _ _ _ (by omega) (by omega) _).to ⟨rfl, rfl⟩ | exact (alive_ac hit _).to ⟨rfl, rfl⟩)
        case' hQ => skip
        simp only [push_cast, Nat.reduceAdd, Nat.reduceSub, Nat.reduceMul, Nat.reduceLT, Nat.reduceLeDiff, Nat.reduceEqDiff, Int.reduceToNat, ↓reduceIte, hfin]
      · have e2 : putE t p x = (z, checkP x) := by rw [hzz]; exact putE_bad ht hx hcx
        refine ACall_V (H.length) 122 [.tmp 6] Tryd.func4 rfl rfl rfl ?_
        simp only [push_cast, Nat.reduceAdd, Nat.reduceSub, Nat.reduceMul, Nat.reduceLT, Nat.reduceLeDiff, Nat.reduceEqDiff, Int.reduceToNat, ↓reduceIte]
        refine (positions_ac t (by omega) _).to ?_
        rw [if_pos ht]
        simp only [push_cast, Nat.reduceAdd, Nat.reduceSub, Nat.reduceMul, Nat.reduceLT, Nat.reduceLeDiff, Nat.reduceEqDiff, Int.reduceToNat, ↓reduceIte]
        refine (at_ac t p (by omega) hp _).to ?_
        simp only [push_cast, Nat.reduceAdd, Nat.reduceSub, Nat.reduceMul, Nat.reduceLT, Nat.reduceLeDiff, Nat.reduceEqDiff, Int.reduceToNat, ↓reduceIte, e1]
        refine (put_ac t p x (by omega) hp _).to ?_
        simp only [push_cast, Nat.reduceAdd, Nat.reduceSub, Nat.reduceMul, Nat.reduceLT, Nat.reduceLeDiff, Nat.reduceEqDiff, Int.reduceToNat, ↓reduceIte, e2]
        refine (checkR_ac t (by omega) _).to ?_
        simp only [push_cast, Nat.reduceAdd, Nat.reduceSub, Nat.reduceMul, Nat.reduceLT, Nat.reduceLeDiff, Nat.reduceEqDiff, Int.reduceToNat, ↓reduceIte, ht]
        refine (positionsR_ac t (by omega) _).to ?_
        simp only [push_cast, Nat.reduceAdd, Nat.reduceSub, Nat.reduceMul, Nat.reduceLT, Nat.reduceLeDiff, Nat.reduceEqDiff, Int.reduceToNat, ↓reduceIte]
        refine (same_ac (posP t) (posP t) (by omega) (by omega) hpb hpb _).to ?_
        simp only [push_cast, Nat.reduceAdd, Nat.reduceSub, Nat.reduceMul, Nat.reduceLT, Nat.reduceLeDiff, Nat.reduceEqDiff, Int.reduceToNat, ↓reduceIte, decide_true, Bool.not_true]
        refine (atR_ac t p (by omega) hp _).to ?_
        simp only [push_cast, Nat.reduceAdd, Nat.reduceSub, Nat.reduceMul, Nat.reduceLT, Nat.reduceLeDiff, Nat.reduceEqDiff, Int.reduceToNat, ↓reduceIte, hx, Bool.not_true]
        refine (is_ac y 0 y 0 (by omega) (by omega) _).to ?_
        simp only [push_cast, Nat.reduceAdd, Nat.reduceSub, Nat.reduceMul, Nat.reduceLT, Nat.reduceLeDiff, Nat.reduceEqDiff, Int.reduceToNat, ↓reduceIte, isP_ok, Bool.not_true]
        refine (checkR_ac x (by omega) _).to ?_
        simp only [push_cast, Nat.reduceAdd, Nat.reduceSub, Nat.reduceMul, Nat.reduceLT, Nat.reduceLeDiff, Nat.reduceEqDiff, Int.reduceToNat, ↓reduceIte, hcx]
        refine (is_ac z (checkP x) t (checkP x) (by omega) (by omega) _).to ?_
        simp only [push_cast, Nat.reduceAdd, Nat.reduceSub, Nat.reduceMul, Nat.reduceLT, Nat.reduceLeDiff, Nat.reduceEqDiff, Int.reduceToNat, ↓reduceIte, hbad t _ hcx]
        refine (alive_ac hit _).to ?_
        simp only [push_cast, Nat.reduceAdd, Nat.reduceSub, Nat.reduceMul, Nat.reduceLT, Nat.reduceLeDiff, Nat.reduceEqDiff, Int.reduceToNat, ↓reduceIte]
  · have e1 : atE t p = (z, checkP t) := by rw [hzz]; exact atE_bad ht
    have e2 : putE t p x = (z, checkP t) := by rw [hzz]; exact putE_bad0 ht
    refine ACall_V (H.length) 122 [.tmp 6] Tryd.func4 rfl rfl rfl ?_
    simp only [push_cast, Nat.reduceAdd, Nat.reduceSub, Nat.reduceMul, Nat.reduceLT, Nat.reduceLeDiff, Nat.reduceEqDiff, Int.reduceToNat, ↓reduceIte]
    refine (positions_ac t (by omega) _).to ?_
    rw [if_neg ht]
    simp only [push_cast, Nat.reduceAdd, Nat.reduceSub, Nat.reduceMul, Nat.reduceLT, Nat.reduceLeDiff, Nat.reduceEqDiff, Int.reduceToNat, ↓reduceIte]
    refine (at_ac t p (by omega) hp _).to ?_
    simp only [push_cast, Nat.reduceAdd, Nat.reduceSub, Nat.reduceMul, Nat.reduceLT, Nat.reduceLeDiff, Nat.reduceEqDiff, Int.reduceToNat, ↓reduceIte, e1]
    refine (put_ac t p x (by omega) hp _).to ?_
    simp only [push_cast, Nat.reduceAdd, Nat.reduceSub, Nat.reduceMul, Nat.reduceLT, Nat.reduceLeDiff, Nat.reduceEqDiff, Int.reduceToNat, ↓reduceIte, e2]
    refine (checkR_ac t (by omega) _).to ?_
    simp only [push_cast, Nat.reduceAdd, Nat.reduceSub, Nat.reduceMul, Nat.reduceLT, Nat.reduceLeDiff, Nat.reduceEqDiff, Int.reduceToNat, ↓reduceIte, ht]
    refine (is_ac z (checkP t) t (checkP t) (by omega) (by omega) _).to ?_
    simp only [push_cast, Nat.reduceAdd, Nat.reduceSub, Nat.reduceMul, Nat.reduceLT, Nat.reduceLeDiff, Nat.reduceEqDiff, Int.reduceToNat, ↓reduceIte, hbad t _ ht]
    refine (is_ac z (checkP t) t (checkP t) (by omega) (by omega) _).to ?_
    simp only [push_cast, Nat.reduceAdd, Nat.reduceSub, Nat.reduceMul, Nat.reduceLT, Nat.reduceLeDiff, Nat.reduceEqDiff, Int.reduceToNat, ↓reduceIte, hbad t _ ht]
    refine (alive_ac hit _).to ?_
    simp only [push_cast, Nat.reduceAdd, Nat.reduceSub, Nat.reduceMul, Nat.reduceLT, Nat.reduceLeDiff, Nat.reduceEqDiff, Int.reduceToNat, ↓reduceIte]
end Ab
set_option maxRecDepth 10000
namespace Go.Proofs.YtakpnikkcinckaaDoor
open Go Ab
namespace plc
theorem own : ownKnob Tryd.prog.godebug = none := by kernel_rfl
theorem laid : laidOutB Tryd.prog = true := by kernel_rfl
theorem readable : ∀ t, t ∈ Tryd.f4.params.toList → Tryd.prog.readableRec t = true ∧ t < Tryd.prog.types.size := by
  rw [Tryd.params4]; intro t ht
  simp only [List.mem_cons, List.not_mem_nil, or_false] at ht
  rcases ht with rfl | rfl | rfl <;> exact ⟨by kernel_rfl, of_decide_eq_true (by kernel_rfl)⟩
theorem closed : closedK Tryd.prog [24, 9, 4, 22, 30, 3] = true := by kernel_rfl
theorem contract (H : Type) (enc : TypeId × Value → H) (W : World) (base : Nat) (args : Array Value) (ds gs : List (DataW H)) (before : List MemPlace)
    (hval : ∀ (j : Nat) t v, Tryd.f4.params[j]? = some t → args[j]? = some v → Value.okWide Tryd.prog W .any base t v)
    (hW : DataW.Whole enc Tryd.prog Tryd.f4.params.toList Rows.termPlacesSpec.vars false W args.toList ds gs before) (hk : Rows.uptoSmall H (ds ++ gs) = true) (hl : laidMetH Tryd.prog Rows.termPlacesUptoRow.laid W) :
    Calls Tryd.prog 4 args W fun e W' => ∃ v, e = .returned v ∧ Rows.termPlacesSpec.post enc Tryd.prog Tryd.f4 false true false false W args v W' := by
  have hW' := hW
  obtain ⟨p, q, hA0, hV, rfl, hfz, hnd⟩ := hW
  have hA : DataW.TrodAll enc Tryd.prog W 0 (fun _ => true) true Tryd.f4.params.toList args.toList ds p := hA0
  rw [Tryd.params4] at hA hval
  obtain ⟨v0, vs0, d0, ds0, p0, q0, hargs, rfl, rfl, h0, r0⟩ := ChangeShapes.trodAll_cons hA
  obtain ⟨v1, vs1, d1, ds1, p1, q1, rfl, rfl, rfl, h1, r1⟩ := ChangeShapes.trodAll_cons r0
  obtain ⟨v2, vs2, d2, ds2, p2, q2, rfl, rfl, rfl, h2, r2⟩ := ChangeShapes.trodAll_cons r1
  obtain ⟨rfl, rfl, rfl⟩ := ChangeShapes.trodAll_nil r2
  obtain rfl : args = #[v0, v1, v2] := by cases args; simp_all
  have hg : gs = [] := by cases gs with | nil => rfl | cons _ _ => exact hV.elim
  subst hg
  have hb : Rows.uptoBulk d0 + Rows.uptoBulk d1 + Rows.uptoBulk d2 ≤ 1048576 := by
    have := of_decide_eq_true hk
    simp only [List.cons_append, List.nil_append, List.append_nil, Rows.uptoBulkAll] at this
    omega
  obtain ⟨n0, a0, e0, x0⟩ := arg_struct closed (by decide) Tryd.underlying24 (hval 0 _ v0 rfl rfl) h0
  obtain ⟨n1, a1, e1, x1⟩ := arg_slice closed (by decide) Tryd.underlying30 (hval 1 _ v1 rfl rfl) h1
  obtain ⟨n2, a2, e2, x2⟩ := arg_struct closed (by decide) Tryd.underlying24 (hval 2 _ v2 rfl rfl) h2
  obtain ⟨t, f0, b1⟩ := term_form n0 d0 a0 e0
  obtain ⟨p, f1, b2⟩ := pos_form n1 d1 [a1] e1
  obtain ⟨x, f2, b3⟩ := term_form n2 d2 a2 e2
  try simp only [List.cons.injEq, and_true] at f1
  rw [f0] at x0; rw [f1] at x1; rw [f2] at x2
  have hc := law_calls (args := #[v0, v1, v2]) (avs := [encT t, .sl .none (encP p), encT x]) (W := W) (places_ac (fun i H hi => itoa_ac i H (by omega)) t x p (by omega) (by omega) []) (tabW_of hl) rfl (fun i hi hi' => by
    match i, hi with
    | 0, _ => exact x0
    | 1, _ => exact x1
    | 2, _ => exact x2)
  refine hc.mono fun e W' ⟨he, hbl⟩ => ?_
  subst he
  exact ⟨_, rfl, post_law rfl ⟨rfl, rfl, rfl⟩ hW' hbl rfl Tryd.underlying4 laid readable⟩
noncomputable def laidWorld (os : Os) : World := { World.holding Tryd.prog os ⟨#[], #[], []⟩ with heap := ((((World.holding Tryd.prog os ⟨#[], #[], []⟩).heap).modify 2 (fun | .cells _ t fz => .cells #[.int .u8 0, .int .u8 1, .int .u8 28, .int .u8 2, .int .u8 29, .int .u8 14, .int .u8 24, .int .u8 3, .int .u8 30, .int .u8 22, .int .u8 20, .int .u8 15, .int .u8 25, .int .u8 17, .int .u8 4, .int .u8 8, .int .u8 31, .int .u8 27, .int .u8 13, .int .u8 23, .int .u8 21, .int .u8 19, .int .u8 16, .int .u8 7, .int .u8 26, .int .u8 12, .int .u8 18, .int .u8 6, .int .u8 11, .int .u8 5, .int .u8 10, .int .u8 9] t fz | o => o)).modify 3 (fun | .cells _ t fz => .cells #[.int .u8 0, .int .u8 1, .int .u8 56, .int .u8 2, .int .u8 57, .int .u8 49, .int .u8 28, .int .u8 3, .int .u8 61, .int .u8 58, .int .u8 42, .int .u8 50, .int .u8 38, .int .u8 29, .int .u8 17, .int .u8 4, .int .u8 62, .int .u8 47, .int .u8 59, .int .u8 36, .int .u8 45, .int .u8 43, .int .u8 51, .int .u8 22, .int .u8 53, .int .u8 39, .int .u8 33, .int .u8 30, .int .u8 24, .int .u8 18, .int .u8 12, .int .u8 5, .int .u8 63, .int .u8 55, .int .u8 48, .int .u8 27, .int .u8 60, .int .u8 41, .int .u8 37, .int .u8 16, .int .u8 46, .int .u8 35, .int .u8 44, .int .u8 21, .int .u8 52, .int .u8 32, .int .u8 23, .int .u8 11, .int .u8 54, .int .u8 26, .int .u8 40, .int .u8 15, .int .u8 34, .int .u8 20, .int .u8 31, .int .u8 10, .int .u8 25, .int .u8 14, .int .u8 19, .int .u8 9, .int .u8 13, .int .u8 8, .int .u8 7, .int .u8 6] t fz | o => o)).modify 1 (fun | .cells _ t fz => .cells #[.int .u64 1, .int .u64 10, .int .u64 100, .int .u64 1000, .int .u64 10000, .int .u64 100000, .int .u64 1000000, .int .u64 10000000, .int .u64 100000000, .int .u64 1000000000, .int .u64 10000000000, .int .u64 100000000000, .int .u64 1000000000000, .int .u64 10000000000000, .int .u64 100000000000000, .int .u64 1000000000000000, .int .u64 10000000000000000, .int .u64 100000000000000000, .int .u64 1000000000000000000, .int .u64 10000000000000000000] t fz | o => o) }
set_option maxRecDepth 100000 in
theorem laid_met (os : Os) : laidMet Tryd.prog Rows.termPlacesUptoRow.laid ((laidWorld os).forCall (fun _ _ => 0) ⟨#[], #[.agg #[.string ⟨#[]⟩, .bool false, .slice none 0 0], .slice none 0 0, .agg #[.string ⟨#[]⟩, .bool false, .slice none 0 0]], []⟩).memory :=
  laidMet_of_run' 80 (by kernel_rfl) (by kernel_rfl)
set_option maxRecDepth 100000 in
theorem reads (os : Os) {H : Type} (enc : TypeId × Value → H) : ∃ places, DataW.whole enc Tryd.prog ((laidWorld os).forCall (fun _ _ => 0) ⟨#[], #[.agg #[.string ⟨#[]⟩, .bool false, .slice none 0 0], .slice none 0 0, .agg #[.string ⟨#[]⟩, .bool false, .slice none 0 0]], []⟩).memory Tryd.f4.params.toList (Rows.OpenSpec.upto Rows.termPlacesSpec).vars false #[.agg #[.string ⟨#[]⟩, .bool false, .slice none 0 0], .slice none 0 0, .agg #[.string ⟨#[]⟩, .bool false, .slice none 0 0]].toList 8 = some ([.agg [.lit (.string []), .lit (.bool false), .nil], .nil, .agg [.lit (.string []), .lit (.bool false), .nil]], [], places) := ⟨[], by kernel_rfl⟩
set_option maxRecDepth 100000 in
theorem lifted (os : Os) (started : os.Started) (H : Type) (enc : TypeId × Value → H) (F : Stop.Interp) :
    ReturnsInHanded {} Tryd.checked os 4 .any ((Rows.OpenSpec.upto Rows.termPlacesSpec).preRow enc Tryd.prog Tryd.f4 Rows.termPlacesUptoRow.domain false Rows.termPlacesUptoRow.laid) (((Rows.OpenSpec.upto Rows.termPlacesSpec).at F).post enc Tryd.prog Tryd.f4 false true false false) := by
  obtain ⟨places, hx⟩ := reads os enc
  refine returnsInHanded_of_row (C := Tryd.checked) (s := Rows.OpenSpec.upto Rows.termPlacesSpec) own started (by kernel_rfl) Tryd.func4
    (witness_row_at (enc := enc) (C := Tryd.checked) false (laidWorld os) #[.agg #[.string ⟨#[]⟩, .bool false, .slice none 0 0], .slice none 0 0, .agg #[.string ⟨#[]⟩, .bool false, .slice none 0 0]] rfl (by kernel_rfl) (by kernel_rfl) (by kernel_rfl)
      (OpenSpec.preRow_of_cond 8 hx (by kernel_rfl) (fun k hk => by cases hk; kernel_rfl) (by kernel_rfl) (laid_met os))) ?_
  intro W base args ds gs before hval hW _ hk _ hl _ _
  exact contract H enc W base args ds gs before hval hW (hk _ rfl) hl
theorem over : Rows.TermPlacesUptoSaid :=
  OpenClaim.holds_of_cond 4 Tryd.f4 rfl rfl rfl rfl rfl rfl rfl ⟨rfl, rfl, rfl, rfl, rfl⟩ rfl rfl rfl rfl rfl (by kernel_rfl) Tryd.func4 (by kernel_rfl)
    (of_decide_eq_true (by kernel_rfl)) (by unfold Func.isWrapper; first | (rw [if_pos (by decide +kernel)]; kernel_rfl) | (rw [if_neg (by decide +kernel)]; exact ⟨rfl, rfl⟩))
    (fun os started H enc _ F => by rw [OpenClaim.pre_eq_preRow]; exact lifted os started H enc F)
theorem plain (f : FuncId) (fn : Func) (hf : Tryd.pinned.checked.prog.funcNamed "dwindle/dwindlelaw01.TermPlaces" = some f) (hfn : Tryd.pinned.checked.prog.funcs[f]? = some fn) :
    false = Tryd.pinned.checked.prog.looks [] ∧ ∀ (j : Nat) t, fn.params[j]? = some t → Tryd.pinned.checked.prog.wantsStandIn t = false := by
  obtain rfl : f = 4 := Option.some.inj ((show Tryd.prog.funcNamed "dwindle/dwindlelaw01.TermPlaces" = some 4 by kernel_rfl).symm.trans hf) |>.symm
  obtain rfl : fn = Tryd.f4 := (Option.some.inj (Tryd.func4.symm.trans hfn)).symm
  refine ⟨by kernel_rfl, fun j t ht => ?_⟩
  rw [Tryd.params4] at ht
  have hm := Array.mem_of_getElem? ht
  simp only [List.mem_toArray, List.mem_cons, List.not_mem_nil, or_false] at hm
  rcases hm with rfl | rfl | rfl
  · exact (show Tryd.prog.wantsStandIn 24 = false by kernel_rfl)
  · exact (show Tryd.prog.wantsStandIn 30 = false by kernel_rfl)
  · exact (show Tryd.prog.wantsStandIn 24 = false by kernel_rfl)
end plc
theorem termPlaces_card : Rows.TermPlacesUptoCardSaid :=
  Claim7.holds_tied_plain_at .later [] _ _ _ _ plc.over (fun _ h => by cases h) (by kernel_rfl) (fun _ h => by cases h) termPlacesUpto_row_tie rfl ⟨rfl, rfl⟩ (by kernel_rfl) rfl plc.plain (by kernel_rfl)
end Go.Proofs.YtakpnikkcinckaaDoor
