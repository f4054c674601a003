/- Part 3 of 3 of a proof. The law TermVariants holds: two terms have the same canonical form exactly if each comes from the other by renaming variables one to one, and a canonical form is its own, on all terms within the row's bound; the proof has no further premise. -/
import Derived.Test.YtakpnikkcinckaaDoorDv2
import Derived.Shelf.Strconv.Itoa3
import Derived.Shelf.LaysM
import Derived.Shelf.Sort.Plain
import Derived.Test.YtakpnikkcinckaaDoorProg
import Derived.Lib.LaidTab
import Derived.MakeChecks
import Derived.Stop.LaidErr
import Derived.Test.YtakpnikkcinckaaDoorRows
import Derived.KernelRfl
import Derived.Lib.ItoaNum
import Derived.Test.YtakpnikkcinckaaDoorCards
import Derived.Test.YtakpnikkcinckaaDoorTie
import Derived.Deep.DeepHandedRow
set_option linter.unusedVariables false
set_option linter.unusedSimpArgs false
set_option maxRecDepth 10000
namespace Ab
open Go Go.Proofs
theorem clone_ac (p : List Int) (hb : p.length ≤ 1099511627776) (H : List AObj) : ACall Tryd.prog 56 [.sl .none (encP p)] H
    (fun r H' => (p = [] ∧ r = .sl .zero [] ∧ H' = H) ∨ (p ≠ [] ∧ r = .sl (.own H.length) (encP p) ∧ H' = H ++ [.tok 3 1 p.length])) := by
  have hl : (encP p).length = p.length := encL_length _ _
  by_cases hp : p = []
  · subst hp
    refine ACall_W (H.length) 7 [.tmp 2] Tryd.func56 rfl rfl rfl ?_
    simp only [push_cast, Nat.reduceAdd, Nat.reduceSub, Nat.reduceMul, Nat.reduceLT, Nat.reduceLeDiff, Nat.reduceEqDiff, Int.reduceToNat, ↓reduceIte]
    refine AOp_eql_nil _ _ rfl sl30 (fun b hb => ?_)
    simp only [push_cast, Nat.reduceAdd, Nat.reduceSub, Nat.reduceMul, Nat.reduceLT, Nat.reduceLeDiff, Nat.reduceEqDiff, Int.reduceToNat, ↓reduceIte]
    refine cI (fun _ => ?_) (fun _ => ?_)
    · simp
    · refine AOp_append_zero0 _ _ rfl rfl sl30 sz3 by3 zr3 ?_
      simp only [push_cast, Nat.reduceAdd, Nat.reduceSub, Nat.reduceMul, Nat.reduceLT, Nat.reduceLeDiff, Nat.reduceEqDiff, Int.reduceToNat, ↓reduceIte]
      simp
  · have hne : encP p ≠ [] := fun h => hp (List.eq_nil_of_length_eq_zero (by rw [← hl, h]; rfl))
    have hfl : flat (encP p) ≠ [] := fun h => by
      have := flat_length (uni_encP p)
      rw [h, hl] at this
      have := List.length_pos_iff.2 hp
      simp at *; omega
    refine ACall_W (H.length + 1) 7 [.tmp 2] Tryd.func56 rfl rfl rfl ?_
    simp only [push_cast, Nat.reduceAdd, Nat.reduceSub, Nat.reduceMul, Nat.reduceLT, Nat.reduceLeDiff, Nat.reduceEqDiff, Int.reduceToNat, ↓reduceIte]
    refine AOp_eql_nil _ _ rfl sl30 (fun b hb => ?_)
    have hb := hb hfl
    subst hb
    simp only [push_cast, Nat.reduceAdd, Nat.reduceSub, Nat.reduceMul, Nat.reduceLT, Nat.reduceLeDiff, Nat.reduceEqDiff, Int.reduceToNat, ↓reduceIte]
    refine AOp_append_zero _ _ _ rfl rfl sl30 sz3 by3 zr3 rfl (by decide) (uni_encP p) (cell_encP p) hne (by omega) (by omega) ?_
    simp only [push_cast, Nat.reduceAdd, Nat.reduceSub, Nat.reduceMul, Nat.reduceLT, Nat.reduceLeDiff, Nat.reduceEqDiff, Int.reduceToNat, ↓reduceIte, hl, Nat.lt_succ_self]
    simp [hp]
theorem walk_ac (id n : Nat) (hp : List (List Int × Term) → Option Code → List AObj) (nx : List (List Int × Term) → List Int × Term → Option Code) (items : List (List Int × Term)) (hid : id < n)
    (hlen : ∀ p j, (hp p j).length = n) (hsc : ∀ p j o, o ∈ hp p j → OScoped n o) (hy : YieldSeq Tryd.prog id items encItem hp nx) (t : Term) :
    t.bulk ≤ 1099511627775 → ∀ (p : List Int) (pre suf : List (List Int × Term)) (X : List AObj), p.length + t.depth ≤ 1099511627775 → items = pre ++ walkT t p ++ suf → AllNone nx pre →
    ACall Tryd.prog 97 [encT t, .sl .none (encP p), .yld id] (hp pre none ++ X)
      (fun r H' => r = .bool (runTo nx pre (walkT t p)).2.isNone ∧ H' = hp (runTo nx pre (walkT t p)).1 (runTo nx pre (walkT t p)).2 ++ X) := by
  induction t using Term.ind with | _ nm v xs ih
  intro hb p pre suf X hpl hitems hnone
  have hlen2 := Term.len_le (n := nm) (v := v) (xs := xs)
  rw [Term.depth_mk] at hpl
  obtain ⟨G, hG⟩ : ∃ G : List (List Int × Term) → Option Code → List AObj, ∀ q j, G q j = hp q j ++ X := ⟨fun q j => hp q j ++ X, fun _ _ => rfl⟩
  obtain ⟨N, hN⟩ : ∃ N, N = n + X.length := ⟨_, rfl⟩
  have hGl : ∀ q j, (G q j).length = N := fun q j => by rw [hG, hN]; simp [hlen]
  have hg0 : ∀ q j L, (G q j ++ L)[N]? = L[0]? := fun q j L => by have := agetN (G q j) L 0; rw [hGl] at this; exact this
  have hgk : ∀ q j L k, (G q j ++ L)[N + k]? = L[k]? := fun q j L k => by rw [← hGl q j]; exact agetN _ _ _
  have ht0 : ∀ q j L, (G q j ++ L).take N = G q j := fun q j L => takeE0 (hGl q j)
  have htk : ∀ q j L k, (G q j ++ L).take (N + k) = G q j ++ L.take k := fun q j L k => takeEN (hGl q j)
  have hsk : ∀ q j L k x, (G q j ++ L).set (N + k) x = G q j ++ L.set k x := fun q j L k x => hsetEN (hGl q j)
  have hs0 : ∀ q j L x, (G q j ++ L).set N x = G q j ++ L.set 0 x := fun q j L x => hsetE0 (hGl q j)
  have hy' : ∀ q x s L, items = q ++ x :: s → AllNone nx q → AYield Tryd.prog id (encItem x) (G q none ++ L) (fun r H' => r = .bool (nx q x).isNone ∧ H' = G (q ++ [x]) (nx q x) ++ L) := fun q x s L h1 h2 => by
    have := hy q x s (X ++ L) h1 h2
    simpa only [hG, List.append_assoc] using this
  have ih' : ∀ x, x ∈ xs → ∀ (p' : List Int) (q s : List (List Int × Term)) (L : List AObj), p'.length + x.depth ≤ 1099511627775 → items = q ++ walkT x p' ++ s → AllNone nx q →
      ACall Tryd.prog 97 [encT x, .sl .none (encP p'), .yld id] (G q none ++ L) (fun r H' => r = .bool (runTo nx q (walkT x p')).2.isNone ∧ H' = G (runTo nx q (walkT x p')).1 (runTo nx q (walkT x p')).2 ++ L) := fun x hx p' q s L h1 h2 h3 => by
    have hbx := Term.arg_le (n := nm) (v := v) hx
    have := ih x hx (by omega) p' q s (X ++ L) h1 h2 h3
    simpa only [hG, List.append_assoc] using this
  have hout : ∀ q j k L, scT (N + k) k L → OutOk (G pre none) (G q j ++ L) (N + k) := fun q j k L h => by
    rw [hG, hG]; exact outok_hp k (by rw [hlen, hlen]) (fun o ho => by rw [hlen]; exact hsc _ _ o ho) (by simp [hlen, hN]) (scT_spec h).1 (scT_spec h).2
  have hou0 : ∀ q j L, OutOk (G pre none) (G q j ++ L) N = True := fun q j L => eq_true (hout q j 0 L trivial)
  have houk : ∀ q j k L, scT (N + k) k L → OutOk (G pre none) (G q j ++ L) (N + k) = True := fun q j k L h => eq_true (hout q j k L h)
  have hidN : id < N := by omega
  have hidk : ∀ k, id < N + k := fun k => by omega
  have hNk : ∀ k, N < N + (k + 1) := fun k => by omega
  have hwT : walkT (.mk nm v xs) p = (p, .mk nm v xs) :: walkL xs 0 p := rfl
  have hgoal : ∀ (r : AV) (H' : List AObj), (r = .bool (runTo nx pre (walkT (.mk nm v xs) p)).2.isNone ∧ H' = G (runTo nx pre (walkT (.mk nm v xs) p)).1 (runTo nx pre (walkT (.mk nm v xs) p)).2) →
      (r = .bool (runTo nx pre (walkT (.mk nm v xs) p)).2.isNone ∧ H' = hp (runTo nx pre (walkT (.mk nm v xs) p)).1 (runTo nx pre (walkT (.mk nm v xs) p)).2 ++ X) := fun r H' h => by rw [← hG]; exact h
  rw [← hG]
  refine ACall.mono ?_ hgoal
  clear hgoal
  rw [hwT] at hitems ⊢
  have hnx0 : (nx pre (p, .mk nm v xs)).isNone = false → ∃ c, nx pre (p, .mk nm v xs) = some c := fun h => by
    cases hc : nx pre (p, .mk nm v xs) with
    | none => rw [hc] at h; cases h
    | some c => exact ⟨c, rfl⟩
  clear hG
  refine ACall_W (N) 29 [.tmp 6] Tryd.func97 rfl rfl rfl ?_
  simp only [push_cast, Nat.reduceAdd, Nat.reduceSub, Nat.reduceMul, Nat.reduceLT, Nat.reduceLeDiff, Nat.reduceEqDiff, Int.reduceToNat, ↓reduceIte, hGl, hg0, hgk, hsk, hs0]
  refine (hy' pre (p, .mk nm v xs) _ _ (by simpa using hitems) hnone).mono ?_
  rintro r H' ⟨rfl, rfl⟩
  simp only [push_cast, Nat.reduceAdd, Nat.reduceSub, Nat.reduceMul, Nat.reduceLT, Nat.reduceLeDiff, Nat.reduceEqDiff, Int.reduceToNat, ↓reduceIte, hGl, hg0, hgk, hsk, hs0, hou0, ht0]
  refine cI (fun h0 => ?_) (fun h0 => ?_)
  · have hn0 : nx pre (p, .mk nm v xs) = none := Option.isNone_iff_eq_none.1 h0
    have hq0 : G (pre ++ [(p, .mk nm v xs)]) (nx pre (p, .mk nm v xs)) = G (pre ++ (p, .mk nm v xs) :: walkL (xs.take 0) 0 p) none := by rw [hn0]; simp [walkL]
    rw [hq0]
    have hi0 : AllNone nx (pre ++ (p, .mk nm v xs) :: walkL (xs.take 0) 0 p) := by
      have := hnone.snoc (x := (p, Term.mk nm v xs)) hn0
      simpa [walkL] using this
    refine AW_loopW (maskG 32 [1, 0, 12, 0, 0]) (fun (i : Nat) => [(17, .int .i64 i)]) (fun i => G (pre ++ (p, .mk nm v xs) :: walkL (xs.take i) 0 p) none ++ [.cells [.str nm, .bool v, .sl .none (encTs xs)]]) (fun i => i ≤ xs.length ∧ AllNone nx (pre ++ (p, .mk nm v xs) :: walkL (xs.take i) 0 p)) (fun i => xs.length - i) 0 ⟨Nat.zero_le _, hi0⟩ (by simp only [push_cast, Nat.reduceAdd, Nat.reduceSub, Nat.reduceMul, Nat.reduceLT, Nat.reduceLeDiff, Nat.reduceEqDiff, Int.reduceToNat, ↓reduceIte, hGl, houk, htk, hidk, hNk, Nat.lt_succ_self]) (fun i hi => ?_)
    simp only [push_cast, Nat.reduceAdd, Nat.reduceSub, Nat.reduceMul, Nat.reduceLT, Nat.reduceLeDiff, Nat.reduceEqDiff, Int.reduceToNat, ↓reduceIte, hGl, hg0, hgk, hsk, hs0, hou0, ht0]
    refine cI (fun h => ⟨by omega, ?_⟩) (fun h => ?_)
    · have hil : i < xs.length := by omega
      have hmem : xs[i] ∈ xs := by simp
      have hdx := (le_foldl_max Term.depth xs 0).2 _ hmem
      have hit : items = (pre ++ (p, Term.mk nm v xs) :: walkL (xs.take i) 0 p) ++ walkT xs[i] (p ++ [(i : Int)]) ++ (walkL (xs.drop (i + 1)) (0 + (i : Int) + 1) p ++ suf) := by
        rw [hitems, walkL_split xs i 0 p (by omega), List.drop_eq_getElem_cons hil, walkL_cons]; simp
      obtain ⟨⟨q, j⟩, hr⟩ : ∃ y, runTo nx (pre ++ (p, Term.mk nm v xs) :: walkL (xs.take i) 0 p) (walkT xs[i] (p ++ [(i : Int)])) = y := ⟨_, rfl⟩
      have hpre : pre ++ (p, Term.mk nm v xs) :: walkL (xs.take i) 0 p ++ walkT xs[i] (p ++ [(i : Int)]) = pre ++ (p, Term.mk nm v xs) :: walkL (xs.take (i + 1)) 0 p := by rw [walkL_take _ _ _ (by omega)]; simp
      have hfin1 : j.isNone = true → q = pre ++ (p, Term.mk nm v xs) :: walkL (xs.take (i + 1)) 0 p ∧ j = none ∧ AllNone nx q := by
        intro hj
        have hj : j = none := Option.isNone_iff_eq_none.1 hj
        have hq := runTo_none nx (walkT xs[i] (p ++ [(i : Int)])) _ hi.2 (by rw [hr]; exact hj)
        rw [hr, hpre] at hq
        obtain ⟨hq1, hq2⟩ := hq
        simp only at hq1
        exact ⟨hq1, hj, hq1 ▸ hq2⟩
      have hfin2 : ¬ j.isNone = true → runTo nx pre ((p, Term.mk nm v xs) :: walkL xs 0 p) = (q, j) ∧ j.isNone = false := by
        intro hj
        obtain ⟨c, rfl⟩ : ∃ c, j = some c := by
          cases j with
          | none => simp at hj
          | some c => exact ⟨c, rfl⟩
        refine ⟨?_, rfl⟩
        rw [walkL_split xs i 0 p (by omega), List.drop_eq_getElem_cons (by omega), walkL_cons, ← List.cons_append, runTo_mid nx _ _ _ hi.2, runTo_append, Int.zero_add, hr]
      by_cases hp0 : p = []
      · skip
        apply AW_drawE [some 22, some 23, some 24, some 25, some 26, some 27, some 28, some 29, some 30] [([false, false, false], _), ([true, false, false], _), ([true, true, false], _), ([true, true, true], _)] [none, none, some 0, none, none, some 1, none, some 2, none] 3 [(0, [false, false, false], [8]), (1, [false, false, false], [1]), (2, [false, false, false], [23]), (3, [true, false, false], [7]), (4, [true, false, false], [25]), (5, [true, false, false], [24, 1]), (6, [true, true, false], [2]), (7, [true, true, false], [22, 4, 0]), (8, [true, true, true], [29]), (0, [true, false, false], [8]), (0, [true, true, false], [8]), (3, [false, false, false], [7]), (3, [true, true, false], [7]), (3, [true, true, true], [7]), (4, [false, false, false], [25]), (6, [false, false, false], [2]), (6, [true, false, false], [2])] [_, _, _, _, _, _, _, _, _]
        case' hm => exact dr
        case' hn => rfl
        case' hok => rfl
        case' hlen => rfl
        case' hd => rfl
        case' h0 => rfl
        case' hstep =>
         simp only [DAllG, push_cast, Option.isSome_some, Option.isSome_none]
         repeat' apply And.intro
         all_goals (apply DOne_V; simp only [push_cast, Nat.reduceAdd, Nat.reduceSub, Nat.reduceMul, Nat.reduceLT, Nat.reduceLeDiff, Nat.reduceEqDiff, Int.reduceToNat, ↓reduceIte, hGl, hg0, hgk, hsk, hs0] <;> first | exact rfl | omega | exact ⟨rfl, rfl⟩ | exact trivial | exact ⟨by omega, rfl⟩ | exact ⟨by omega, by omega, rfl⟩ | exact ⟨by omega, rfl, rfl⟩ | exact ⟨by omega, by omega, rfl, rfl⟩ | (refine (clone_ac p (by omega) _).mono ?_; rintro r H' (⟨hcl, rfl, rfl⟩ | ⟨hcl, rfl, rfl⟩) <;> first | exact absurd hp0 hcl | exact ⟨rfl, rfl⟩) | (refine AOp_append_zero _ _ _ rfl rfl sl30 sz3 by3 zr3 rfl (by decide) (by intro x hx; simp at hx; subst hx; rfl) (by simp [flat, AV.cells, AV.isCell]) (by simp) (by simp) (by simp) ?_; simp only [push_cast, Nat.reduceAdd, Nat.reduceSub, Nat.reduceMul, Nat.reduceLT, Nat.reduceLeDiff, Nat.reduceEqDiff, Int.reduceToNat, ↓reduceIte, hGl]; exact ⟨rfl, rfl⟩) | (refine ACall.forget (args' := [encT xs[i], .sl .none (encP (p ++ [(i : Int)])), .yld id]) ⟨Forget.refl _, by first | (rw [← encP_snoc]; exact Forget.tok _ _) | (have he : encP (p ++ [(i : Int)]) = [.int .i64 i] := (by rw [hp0]; rfl); rw [he]; exact Forget.tok _ _), Forget.refl _, trivial⟩ ((ih' xs[i] hmem (p ++ [(i : Int)]) _ _ _ (by simp; omega) hit hi.2).to ⟨rfl, rfl⟩)))
        case' hQ => skip
        simp only [push_cast, Nat.reduceAdd, Nat.reduceSub, Nat.reduceMul, Nat.reduceLT, Nat.reduceLeDiff, Nat.reduceEqDiff, Int.reduceToNat, ↓reduceIte, hr, hGl, hg0, hgk, hsk, hs0, hou0, ht0]
        refine cI (fun hj => ?_) (fun hj => ?_)
        · obtain ⟨rfl, rfl, hq2⟩ := hfin1 hj
          repeat' first | refine ⟨by omega, ?_⟩ | refine cI (fun _ => ?_) (fun _ => ?_)
          exact loopW_n (i + 1) ⟨by omega, hq2⟩ (by omega) (by simp only [push_cast, Nat.reduceAdd, Nat.reduceSub, Nat.reduceMul, Nat.reduceLT, Nat.reduceLeDiff, Nat.reduceEqDiff, Int.reduceToNat, ↓reduceIte, hGl, houk, htk, hidk, hNk, Nat.lt_succ_self])
        · obtain ⟨e1, e2⟩ := hfin2 hj
          rw [e1]
          exact ⟨e2.symm, rfl⟩
      · skip
        apply AW_drawE [some 22, some 23, some 24, some 25, some 26, some 27, some 28, some 29, some 30] [([false, false, false], _), ([true, false, false], _), ([true, true, false], _), ([true, true, true], _)] [none, none, some 0, none, none, some 1, none, some 2, none] 3 [(0, [false, false, false], [8]), (1, [false, false, false], [1]), (2, [false, false, false], [23]), (3, [true, false, false], [7]), (4, [true, false, false], [25]), (5, [true, false, false], [24, 1]), (6, [true, true, false], [2]), (7, [true, true, false], [22, 4, 0]), (8, [true, true, true], [29]), (0, [true, false, false], [8]), (0, [true, true, false], [8]), (3, [false, false, false], [7]), (3, [true, true, false], [7]), (3, [true, true, true], [7]), (4, [false, false, false], [25]), (6, [false, false, false], [2]), (6, [true, false, false], [2])] [_, _, _, _, _, _, _, _, _]
        case' hm => exact dr
        case' hn => rfl
        case' hok => rfl
        case' hlen => rfl
        case' hd => rfl
        case' h0 => rfl
        case' hstep =>
         simp only [DAllG, push_cast, Option.isSome_some, Option.isSome_none]
         repeat' apply And.intro
         all_goals (apply DOne_V; simp only [push_cast, Nat.reduceAdd, Nat.reduceSub, Nat.reduceMul, Nat.reduceLT, Nat.reduceLeDiff, Nat.reduceEqDiff, Int.reduceToNat, ↓reduceIte, hGl, hg0, hgk, hsk, hs0] <;> first | exact rfl | omega | exact ⟨rfl, rfl⟩ | exact trivial | exact ⟨by omega, rfl⟩ | exact ⟨by omega, by omega, rfl⟩ | exact ⟨by omega, rfl, rfl⟩ | exact ⟨by omega, by omega, rfl, rfl⟩ | (refine (clone_ac p (by omega) _).mono ?_; rintro r H' (⟨hcl, rfl, rfl⟩ | ⟨hcl, rfl, rfl⟩) <;> first | exact absurd hcl hp0 | exact ⟨rfl, rfl⟩) | (refine AOp_append_own _ _ _ _ _ rfl rfl ((hgk _ _ _ 2).trans (by rw [encP_length]; rfl)) sl30 sz3 by3 zr3 rfl (by decide) (uni_encP p) (by intro x hx; simp at hx; subst hx; rfl) (by simp [flat, AV.cells, AV.isCell]) (by simp only [encP_length, List.length_cons, List.length_nil]; omega) (by simp only [encP_length, List.length_cons, List.length_nil]; omega) ?_; simp only [push_cast, Nat.reduceAdd, Nat.reduceSub, Nat.reduceMul, Nat.reduceLT, Nat.reduceLeDiff, Nat.reduceEqDiff, Int.reduceToNat, ↓reduceIte, hGl, hsk]; exact ⟨rfl, rfl⟩) | (refine ACall.forget (args' := [encT xs[i], .sl .none (encP (p ++ [(i : Int)])), .yld id]) ⟨Forget.refl _, by first | (rw [← encP_snoc]; exact Forget.tok _ _) | (have he : encP (p ++ [(i : Int)]) = [.int .i64 i] := (by rw [hp0]; rfl); rw [he]; exact Forget.tok _ _), Forget.refl _, trivial⟩ ((ih' xs[i] hmem (p ++ [(i : Int)]) _ _ _ (by simp; omega) hit hi.2).to ⟨rfl, rfl⟩)))
        case' hQ => skip
        simp only [push_cast, Nat.reduceAdd, Nat.reduceSub, Nat.reduceMul, Nat.reduceLT, Nat.reduceLeDiff, Nat.reduceEqDiff, Int.reduceToNat, ↓reduceIte, hr, hGl, hg0, hgk, hsk, hs0, hou0, ht0]
        refine cI (fun hj => ?_) (fun hj => ?_)
        · obtain ⟨rfl, rfl, hq2⟩ := hfin1 hj
          repeat' first | refine ⟨by omega, ?_⟩ | refine cI (fun _ => ?_) (fun _ => ?_)
          exact loopW_n (i + 1) ⟨by omega, hq2⟩ (by omega) (by simp only [push_cast, Nat.reduceAdd, Nat.reduceSub, Nat.reduceMul, Nat.reduceLT, Nat.reduceLeDiff, Nat.reduceEqDiff, Int.reduceToNat, ↓reduceIte, hGl, houk, htk, hidk, hNk, Nat.lt_succ_self])
        · obtain ⟨e1, e2⟩ := hfin2 hj
          rw [e1]
          exact ⟨e2.symm, rfl⟩
    · have hs : xs.take i = xs := List.take_of_length_le (by omega)
      rw [hs] at hi ⊢
      have e := runTo_all nx _ _ hi.2
      rw [e]; simp
  · obtain ⟨c, hc0⟩ := hnx0 (by simpa only [Bool.not_eq_true] using h0)
    simp [runTo, hc0]
end Ab
set_option maxRecDepth 10000
namespace Ab
open Go Go.Proofs
theorem walk_iter (t : Term) (hb : t.bulk ≤ 1099511627775) (b : Nat) : IterC Tryd.prog 96 [.ptr b 0] (walkT t []) encItem (fun H => H[b]? = some (.cells [.str t.name, .bool t.var, .sl .none (encTs t.args)])) := by
  intro id n hp nx hid hlen hsc hA hy
  obtain ⟨H, hH⟩ : ∃ H, H = hp [] none := ⟨_, rfl⟩
  rw [← hH] at hA ⊢
  have hd := t.depth_le
  have hsz := t.size_le
  have hout : ∀ q j, OutOk H (hp q j) n := fun q j => by
    have := outok_hp (A := hp [] none) (B := hp q j) (X := []) (L := []) (m := n) 0 (by rw [hlen, hlen]) (fun o ho => by rw [hlen]; exact hsc _ _ o ho) (by simp [hlen]) (Nat.zero_le _) (by simp)
    simpa [hH] using this
  refine ACall_W (n) 4 [] Tryd.func96 rfl rfl rfl ?_
  simp only [push_cast, Nat.reduceAdd, Nat.reduceSub, Nat.reduceMul, Nat.reduceLT, Nat.reduceLeDiff, Nat.reduceEqDiff, Int.reduceToNat, ↓reduceIte, hA]
  refine ACall.forget (args' := [encT t, .sl .none (encP []), .yld id]) ⟨Forget.refl _, Forget.tok _ _, Forget.refl _, trivial⟩ ?_
  have hw := walk_ac id n hp nx (walkT t []) hid hlen hsc hy t hb [] [] [] [] (by simp; omega) (by simp) AllNone.nil
  simp only [List.append_nil, ← hH] at hw
  refine hw.to ?_
  simp only [push_cast, Nat.reduceAdd, Nat.reduceSub, Nat.reduceMul, Nat.reduceLT, Nat.reduceLeDiff, Nat.reduceEqDiff, Int.reduceToNat, ↓reduceIte]
  refine ⟨hout _ _, ?_⟩
  rw [List.take_of_length_le (by rw [hlen]; exact Nat.le_refl _)]
  exact iterOut_runTo nx _ hp
theorem walkF_ac (t : Term) (H : List AObj) : ACall Tryd.prog 55 [encT t] H (fun r H' => r = .fn 96 [.ptr H.length 0] ∧ H' = H ++ [.cells [.str t.name, .bool t.var, .sl .none (encTs t.args)]]) := by
  refine ACall_W (H.length + 1) 3 [.tmp 2] Tryd.func55 rfl rfl rfl ?_
  simp only [push_cast, Nat.reduceAdd, Nat.reduceSub, Nat.reduceMul, Nat.reduceLT, Nat.reduceLeDiff, Nat.reduceEqDiff, Int.reduceToNat, ↓reduceIte]
  trace_state
end Ab
set_option maxRecDepth 10000
namespace Ab
open Go Go.Proofs
theorem checkP_iff (t : Term) : checkP t = 0 ↔ formedP t = true ∧ fitsP t = true := by
  unfold checkP
  cases formedP t <;> cases fitsP t <;> simp
end Ab
set_option maxRecDepth 10000
namespace Ab
open Go Go.Proofs
def zeroT : Term := .mk [] false []
@[reducible] def encRE (q : Term × Int) : AV := .tup [encT q.1, .int .i64 q.2]
theorem zeroT_n : zeroT.name = [] := rfl
theorem zeroT_v : zeroT.var = false := rfl
theorem zeroT_a : encTs zeroT.args = [] := encTs_nil
attribute [push_cast] zeroT_n zeroT_v zeroT_a
end Ab
set_option maxRecDepth 10000
namespace Ab
open Go Go.Proofs
@[reducible] def encQ (p : List Int) : AV := .sl .none (encP p)
theorem uniQ (l : List (List Int)) : Uni (0 + 1) (encL encQ l) = True := eq_true (uni_encL (enc := encQ) (k := 1) (fun _ => rfl) l)
theorem scQ_ (n : Nat) (l : List (List Int)) : ScopedL n (encL encQ l) = True := eq_true (scoped_encL (fun p => by simp [Scoped, scoped_encP]) l)
theorem strip_encQ (n : Nat) (l : List (List Int)) : stripL n (encL encQ l) = encL encQ l := by rw [stripL_eq, encL, List.map_map]; congr 1; funext p; simp only [Function.comp, strip, stripTok, stripL_encP]
attribute [push_cast] uniQ scQ_ strip_encQ
def posP (t : Term) : List (List Int) := (walkT t []).map (·.1)
theorem clone2_ac (p : List Int) (hb : p.length ≤ 1099511627776) (H : List AObj) : ACall Tryd.prog 56 [.sl .none (encP p)] H (fun r H' => r = encQ p ∧ H' = H) := by
  have hl : (encP p).length = p.length := encL_length _ _
  refine ACall_V (H.length) 7 [.tmp 2] Tryd.func56 rfl rfl rfl ?_
  simp only [push_cast, Nat.reduceAdd, Nat.reduceSub, Nat.reduceMul, Nat.reduceLT, Nat.reduceLeDiff, Nat.reduceEqDiff, Int.reduceToNat, ↓reduceIte]
  refine AOp_eql_nil _ _ rfl sl30 (fun b hb => ?_)
  simp only [push_cast, Nat.reduceAdd, Nat.reduceSub, Nat.reduceMul, Nat.reduceLT, Nat.reduceLeDiff, Nat.reduceEqDiff, Int.reduceToNat, ↓reduceIte]
  by_cases hp : p = []
  · subst hp
    refine cI (fun _ => ?_) (fun _ => ?_)
    · simp only [push_cast, Nat.reduceAdd, Nat.reduceSub, Nat.reduceMul, Nat.reduceLT, Nat.reduceLeDiff, Nat.reduceEqDiff, Int.reduceToNat, ↓reduceIte]
    · refine AOp_append_zero0 _ _ rfl rfl sl30 sz3 by3 zr3 ?_
      simp only [push_cast, Nat.reduceAdd, Nat.reduceSub, Nat.reduceMul, Nat.reduceLT, Nat.reduceLeDiff, Nat.reduceEqDiff, Int.reduceToNat, ↓reduceIte]
  · have hne : encP p ≠ [] := fun h => hp (List.eq_nil_of_length_eq_zero (by rw [← hl, h]; rfl))
    have hfl : flat (encP p) ≠ [] := fun h => by
      have := flat_length (uni_encP p)
      rw [h, hl] at this
      have := List.length_pos_iff.2 hp
      simp at *; omega
    refine cI (fun hb' => by rw [hb hfl] at hb'; cases hb') (fun _ => ?_)
    refine AOp_append_zero _ _ _ rfl rfl sl30 sz3 by3 zr3 rfl (by decide) (uni_encP p) (cell_encP p) hne (by omega) (by omega) ?_
    simp only [push_cast, Nat.reduceAdd, Nat.reduceSub, Nat.reduceMul, Nat.reduceLT, Nat.reduceLeDiff, Nat.reduceEqDiff, Int.reduceToNat, ↓reduceIte]
theorem walkL_pos (xs : List Term) : ∀ (i : Int) (q : List Int) x, x ∈ walkL xs i q → x.1.length ≤ q.length + (xs.map Term.size).sum := by
  have key : ∀ n (xs : List Term), (xs.map Term.size).sum < n → ∀ (i : Int) (q : List Int) x, x ∈ walkL xs i q → x.1.length ≤ q.length + (xs.map Term.size).sum := by
    intro n
    induction n with
    | zero => intro xs h; omega
    | succ n ih =>
      intro xs hn i q x hx
      cases xs with
      | nil => simp [walkL] at hx
      | cons t r =>
        cases t with
        | mk nm v ys =>
          simp only [List.map_cons, List.sum_cons, Term.size_mk] at hn ⊢
          simp only [walkL, List.mem_cons, List.mem_append] at hx
          rcases hx with rfl | hx | hx
          · simp; omega
          · have := ih ys (by omega) 0 _ x hx; simp at this; omega
          · have := ih r (by omega) _ _ x hx; omega
  exact key _ xs (Nat.lt_succ_self _)
theorem walk_pos_len (t : Term) (q : List Int) : ∀ x, x ∈ walkT t q → x.1.length < q.length + t.size := by
  intro x hx
  cases t with
  | mk n v xs =>
    rw [Term.size_mk]
    simp only [walkT, List.mem_cons, Term.mk_args] at hx
    rcases hx with rfl | hx
    · simp; omega
    · have := walkL_pos xs 0 q x hx; omega
theorem positions_ac (t : Term) (hb : t.bulk ≤ 1099511627775) (H : List AObj) : ACall Tryd.prog 14 [encT t] H
    (fun r H' => r = (if checkP t = 0 then .tup [.sl .none (encL encQ (posP t)), .int .i64 0] else .tup [.sl .none [], .int .i64 (checkP t)]) ∧ H' = H) := by
  have hsz := t.size_le
  refine ACall_V (H.length) 21 [.tmp 2, .tmp 3] Tryd.func14 rfl rfl rfl ?_
  simp only [push_cast, Nat.reduceAdd, Nat.reduceSub, Nat.reduceMul, Nat.reduceLT, Nat.reduceLeDiff, Nat.reduceEqDiff, Int.reduceToNat, ↓reduceIte]
  refine (check_ac t hb _).to ?_
  simp only [push_cast, Nat.reduceAdd, Nat.reduceSub, Nat.reduceMul, Nat.reduceLT, Nat.reduceLeDiff, Nat.reduceEqDiff, Int.reduceToNat, ↓reduceIte]
  refine cI (fun h => ?_) (fun h => ?_)
  · refine (walkF_ac t _).to ?_
    simp only [push_cast, Nat.reduceAdd, Nat.reduceSub, Nat.reduceMul, Nat.reduceLT, Nat.reduceLeDiff, Nat.reduceEqDiff, Int.reduceToNat, ↓reduceIte]
    refine AW_reserve 1 ?_
    refine AW_iterW _ _ (walk_iter t hb _) H (fun pre => [.cells [.str t.name, .bool t.var, .sl .none (encTs t.args)], .cells [gSl (H.length + 3) (encL encQ (pre.map (·.1)))], .cells [.str t.name, .bool t.var, .sl .none (encTs t.args)], gTok 30 1 (encL encQ (pre.map (·.1)))]) 4 (fun _ _ => none) rfl ok96 (by simp only [push_cast, Nat.reduceAdd, Nat.reduceSub, Nat.reduceMul, Nat.reduceLT, Nat.reduceLeDiff, Nat.reduceEqDiff, Int.reduceToNat, ↓reduceIte]) (fun _ => rfl) (fun lp => by simp only [push_cast, Nat.reduceAdd, Nat.reduceSub, Nat.reduceMul, Nat.reduceLT, Nat.reduceLeDiff, Nat.reduceEqDiff, Int.reduceToNat, ↓reduceIte]) (fun p => by simp only [push_cast, Nat.reduceAdd, Nat.reduceSub, Nat.reduceMul, Nat.reduceLT, Nat.reduceLeDiff, Nat.reduceEqDiff, Int.reduceToNat, ↓reduceIte]) (fun _ => rfl) (fun pre x suf X l lp lp' he hn => ?_) (fun _ lp => ?_) (fun pre x suf c lp _ _ h => by cases h)
    · have hx := walk_pos_len t [] x (by rw [he]; simp)
      have hpl : pre.length < t.size := by have := walkT_length t []; rw [he] at this; simp at this; omega
      simp only [push_cast, Nat.reduceAdd, Nat.reduceSub, Nat.reduceMul, Nat.reduceLT, Nat.reduceLeDiff, Nat.reduceEqDiff, Int.reduceToNat, ↓reduceIte, List.drop_length]
      apply AW_drawE [some 16, some 17, some 18, some 19, some 20, none] [([false, false], _), ([true, false], _), ([true, true], _)] [none, none, none, none, some 0, some 1] 2 [(0, [false, false], [5]), (1, [false, false], [6]), (2, [false, false], [17]), (3, [false, false], [18]), (4, [false, false], [16, 2]), (5, [true, false], [5, 14]), (1, [true, false], [6])] [_, _, _, _, _, _]
      case' hm => exact dr
      case' hn => rfl
      case' hok => rfl
      case' hlen => rfl
      case' hd => rfl
      case' h0 => rfl
      case' hstep =>
       simp only [DAllG, push_cast, Option.isSome_some, Option.isSome_none]
       repeat' apply And.intro
       all_goals (apply DOne_V; simp only [push_cast, Nat.reduceAdd, Nat.reduceSub, Nat.reduceMul, Nat.reduceLT, Nat.reduceLeDiff, Nat.reduceEqDiff, Int.reduceToNat, ↓reduceIte] <;> first | exact rfl | omega | exact ⟨rfl, rfl⟩ | exact trivial | exact ⟨by omega, rfl⟩ | exact ⟨by omega, by omega, rfl⟩ | exact ⟨by omega, rfl, rfl⟩ | exact ⟨by omega, by omega, rfl, rfl⟩ | exact (clone2_ac x.1 (by simp at hx; omega) _).to ⟨rfl, rfl⟩ | (refine app1_L encQ (sz := 1) (fun _ => rfl) (by intro x c hc; simp [AV.cells] at hc; subst hc; rfl) _ (H.length + 3) (pre.map (·.1)) x.1 _ rfl rfl (by exact (agetN _ _ 3).trans rfl) sl31 sz30 by30 zr30 rfl (by decide) (by decide) (by simp; omega) ?_; simp only [push_cast, Nat.reduceAdd, Nat.reduceSub, Nat.reduceMul, Nat.reduceLT, Nat.reduceLeDiff, Nat.reduceEqDiff, Int.reduceToNat, ↓reduceIte]; exact ⟨rfl, rfl⟩))
      case' hQ => skip
      simp only [push_cast, Nat.reduceAdd, Nat.reduceSub, Nat.reduceMul, Nat.reduceLT, Nat.reduceLeDiff, Nat.reduceEqDiff, Int.reduceToNat, ↓reduceIte]
      simp
    · simp only [push_cast, Nat.reduceAdd, Nat.reduceSub, Nat.reduceMul, Nat.reduceLT, Nat.reduceLeDiff, Nat.reduceEqDiff, Int.reduceToNat, ↓reduceIte, h, posP]
  · simp only [push_cast, Nat.reduceAdd, Nat.reduceSub, Nat.reduceMul, Nat.reduceLT, Nat.reduceLeDiff, Nat.reduceEqDiff, Int.reduceToNat, ↓reduceIte, h]
end Ab
namespace Go.Proofs
open Go.Shelf Go.Sort Go.RowKit
def Tryd.laysM171_ren : Go.Shelf.Ren := ⟨fun | 171 => 92 | 243 => 111 | 246 => 126 | 283 => 141 | 284 => 142 | 285 => 143 | 286 => 144 | 129 => 125 | 317 => 150 | 318 => 151 | 319 => 152 | 320 => 153 | 337 => 155 | 338 => 156 | n => n, fun | 3 => 3 | 9 => 9 | 2 => 2 | 4 => 4 | 171 => 151 | 0 => 0 | 53 => 138 | 37 => 88 | 5 => 5 | 173 => 153 | 212 => 161 | 51 => 136 | 20 => 20 | 213 => 162 | 46 => 124 | 232 => 164 | 233 => 165 | n => n, fun | 17 => 1 | 18 => 2 | 19 => 3 | n => n⟩
theorem Tryd.laysM171 : Go.Proofs.LaysM.n171 Tryd.prog Tryd.laysM171_ren := {
  mixed := by kernel_rfl
  f129 := Tryd.func125.trans (congrArg some (by kernel_rfl))
  f171 := Tryd.func92.trans (congrArg some (by kernel_rfl))
  f243 := Tryd.func111.trans (congrArg some (by kernel_rfl))
  f246 := Tryd.func126.trans (congrArg some (by kernel_rfl))
  f283 := Tryd.func141.trans (congrArg some (by kernel_rfl))
  f284 := Tryd.func142.trans (congrArg some (by kernel_rfl))
  f285 := Tryd.func143.trans (congrArg some (by kernel_rfl))
  f286 := Tryd.func144.trans (congrArg some (by kernel_rfl))
  f317 := Tryd.func150.trans (congrArg some (by kernel_rfl))
  f318 := Tryd.func151.trans (congrArg some (by kernel_rfl))
  f319 := Tryd.func152.trans (congrArg some (by kernel_rfl))
  f320 := Tryd.func153.trans (congrArg some (by kernel_rfl))
  f337 := Tryd.func155.trans (congrArg some (by kernel_rfl))
  f338 := Tryd.func156.trans (congrArg some (by kernel_rfl))
  t0 := Tryd.underlying0
  a0 := Tryd.isAgg0
  z0 := Tryd.sizeOf0
  v0 := Tryd.zeroValue0
  t2 := Tryd.underlying2
  a2 := Tryd.isAgg2
  z2 := Tryd.sizeOf2
  v2 := Tryd.zeroValue2
  t3 := Tryd.underlying3
  a3 := Tryd.isAgg3
  z3 := Tryd.sizeOf3
  v3 := Tryd.zeroValue3
  t4 := Tryd.underlying4
  a4 := Tryd.isAgg4
  z4 := Tryd.sizeOf4
  v4 := Tryd.zeroValue4
  t5 := Tryd.underlying5
  a5 := Tryd.isAgg5
  z5 := Tryd.sizeOf5
  v5 := Tryd.zeroValue5
  t9 := Tryd.underlying9
  a9 := Tryd.isAgg9
  z9 := Tryd.sizeOf9
  v9 := Tryd.zeroValue9
  t20 := Tryd.underlying20
  a20 := Tryd.isAgg20
  z20 := Tryd.sizeOf20
  v20 := Tryd.zeroValue20
  t37 := Tryd.underlying88
  a37 := Tryd.isAgg88
  z37 := Tryd.sizeOf88
  v37 := Tryd.zeroValue88
  t46 := Tryd.underlying124
  a46 := Tryd.isAgg124
  z46 := Tryd.sizeOf124
  v46 := Tryd.zeroValue124
  t51 := Tryd.underlying136
  a51 := Tryd.isAgg136
  z51 := Tryd.sizeOf136
  v51 := Tryd.zeroValue136
  t53 := Tryd.underlying138
  a53 := Tryd.isAgg138
  z53 := Tryd.sizeOf138
  v53 := Tryd.zeroValue138
  t171 := Tryd.underlying151
  a171 := Tryd.isAgg151
  z171 := Tryd.sizeOf151
  v171 := Tryd.zeroValue151
  t173 := Tryd.underlying153
  a173 := Tryd.isAgg153
  z173 := Tryd.sizeOf153
  v173 := Tryd.zeroValue153
  t212 := Tryd.underlying161
  a212 := Tryd.isAgg161
  z212 := Tryd.sizeOf161
  v212 := Tryd.zeroValue161
  t213 := Tryd.underlying162
  a213 := Tryd.isAgg162
  z213 := Tryd.sizeOf162
  t232 := Tryd.underlying164
  a232 := Tryd.isAgg164
  z232 := Tryd.sizeOf164
  v232 := Tryd.zeroValue164
  t233 := Tryd.underlying165
  a233 := Tryd.isAgg165
  z233 := Tryd.sizeOf165
  v233 := Tryd.zeroValue165
  g17 := by kernel_rfl
  g18 := by kernel_rfl
  g19 := by kernel_rfl
  i0 := by kernel_rfl
  i2 := by kernel_rfl
  i3 := by kernel_rfl
  i4 := by kernel_rfl
  i5 := by kernel_rfl
  i9 := by kernel_rfl
  i20 := by kernel_rfl
  i37 := by kernel_rfl
  i46 := by kernel_rfl
  i51 := by kernel_rfl
  i53 := by kernel_rfl
  i171 := by kernel_rfl
  i173 := by kernel_rfl
  i212 := by kernel_rfl
  i232 := by kernel_rfl
  i233 := by kernel_rfl
  m17 := by kernel_rfl
  m18 := by kernel_rfl
  m19 := by kernel_rfl }
theorem Tryd.strconv_Itoa (n : Int) (h0 : -9223372036854775808 ≤ n) (h1 : n ≤ 9223372036854775807) (w : World) (htab : Lib.TabIs Tryd.prog w "internal/strconv.uint64pow10" .u64 Lib.pow10Tab) :
    Calls Tryd.prog 92 #[.int .i64 n] w fun e w' => e = .returned (.string ⟨(Lib.itoa n).toArray⟩) ∧ ∃ k os, w' = grow (w.drewN k) os := Any.strconv_Itoa Tryd.laysM171 n h0 h1 w htab
end Go.Proofs
set_option maxRecDepth 10000
namespace Ab
open Go Go.Proofs Go.Proofs.YtakpnikkcinckaaDoor
section
variable {H : Type}
theorem kdStr : kindOf Tryd.prog 9 = .str := by kernel_rfl
theorem kdBool : kindOf Tryd.prog 4 = .bool := by kernel_rfl
theorem kdTerm : kindOf Tryd.prog 24 = .struct [9, 4, 22] := by kernel_rfl
theorem kdTerms : kindOf Tryd.prog 22 = .slice 24 := by kernel_rfl
theorem agTerm : aggK Tryd.prog 24 = true := by unfold aggK; rw [kdTerm]
theorem bulkAll_sum : ∀ ds : List (DataW H), Rows.uptoBulkAll ds = (ds.map Rows.uptoBulk).sum
  | [] => by simp [Rows.uptoBulkAll]
  | d :: ds => by simp [Rows.uptoBulkAll, bulkAll_sum ds]
theorem bulk_row {d : DataW H} {ds : List (DataW H)} (h : (d = .nil ∧ ds = []) ∨ ∃ sp, d = .slice ds sp) : (ds.map Rows.uptoBulk).sum + 1 ≤ Rows.uptoBulk d := by
  rcases h with ⟨rfl, rfl⟩ | ⟨sp, rfl⟩
  · simp [Rows.uptoBulk]
  · rw [← bulkAll_sum]; simp only [Rows.uptoBulk]; omega
theorem term_form : ∀ (n : Nat) (d : DataW H) (avs : List AV), toAV Tryd.prog n 24 d = some avs → ∃ t : Term, .agg avs = encT t ∧ t.bulk ≤ Rows.uptoBulk d := by
  intro n
  induction n using Nat.strongRecOn with
  | ind n ih =>
    intro d avs h
    obtain ⟨m, parts, avss, rfl, rfl, hl, hm, rfl⟩ := toAV_struct kdTerm h
    match parts, hl, hm with
    | [d1, d2, d3], _, hm =>
      obtain ⟨h1, h2⟩ := mapM_get hm
      match avss, h1, h2 with
      | [a1, a2, a3], _, h2 =>
        obtain ⟨bs, rfl, rfl⟩ := toAV_str kdStr (h2 0 (by simp) (by simp))
        obtain ⟨b, rfl, rfl⟩ := toAV_bool kdBool (h2 1 (by simp) (by simp))
        obtain ⟨xs, ds, e3, hw, _, hd⟩ := row_form encT Term.bulk Rows.uptoBulk kdTerms (n := m) (fun k d avs hk he => by
          obtain ⟨t, x1, x2⟩ := ih k (by omega) d avs he
          exact ⟨t, by rw [agTerm]; exact x1, x2⟩) (h2 2 (by simp) (by simp))
        simp only [List.getElem_cons_succ, List.getElem_cons_zero] at e3 hd
        subst e3
        have hb := bulk_row (d := d3) hd
        simp only [Rows.uptoBulk, Rows.uptoBulkAll]
        refine ⟨.mk bs b xs, ?_, ?_⟩
        · simp [Term.name, Term.var, Term.args, encTs_map]
        · rw [Term.bulk_mk]; omega
end
theorem tabW_of {W : World} (h : laidMetH Tryd.prog Rows.termPlacesUptoRow.laid W) : TabW W := fun _ => by
  rw [MakeChecks.laidMetH_plain _ _ _ (by kernel_rfl)] at h
  have h3 : laidMet Tryd.prog [("internal/strconv.uint64pow10", Lib.tabData .u64 Lib.pow10Tab)] W := h.tail.tail
  have h4 := Lib.tabIs_of_head (g := 1) (t := 161) (e := 138) (n := 20) (by kernel_rfl) (by kernel_rfl) (by kernel_rfl) (by kernel_rfl) (by kernel_rfl) (by kernel_rfl) h3
  unfold Lib.TabIs World.var? at h4
  rw [show Tryd.prog.globalNamed "internal/strconv.uint64pow10" = some 1 by kernel_rfl] at h4
  simp only [Option.bind_some] at h4
  split at h4
  · rename_i cs e fr he
    injection h4 with h4
    exact ⟨e, fr, by show W.heap[1]? = _; rw [he, h4]; rfl⟩
  · cases h4
theorem itoa_ac (i : Nat) (H : List AObj) (hi : i < 1099511627776) : ACall Tryd.prog 92 [.int .i64 (i : Nat)] H (fun r H' => r = .str (Lib.decDigits i) ∧ H' = H) := by
  intro C vs hg hH hsz hv
  match vs, hsz, hv with
  | ⟨[v]⟩, _, hv =>
    have h0 := hv 0 (by simp) (by simp)
    simp only [List.getElem_cons_zero] at h0
    cases h0 with
    | int k n =>
      obtain ⟨⟨e, fr, htb⟩, _⟩ := hg.tab rfl
      have htab : Lib.TabIs Tryd.prog C.w "internal/strconv.uint64pow10" .u64 Lib.pow10Tab := by
        unfold Lib.TabIs World.var?
        rw [show Tryd.prog.globalNamed "internal/strconv.uint64pow10" = some tabB by kernel_rfl]
        simp only [Option.bind_some, htb]; rfl
      refine (Tryd.strconv_Itoa (i : Int) (by omega) (by omega) C.w htab).mono fun e w' ⟨he, k, os, hw⟩ => ?_
      subst hw
      obtain ⟨hg', hx'⟩ := step_more hg (Go.Sort.grow (C.w.drewN k) os) os rfl ⟨rfl, rfl, rfl⟩
      refine ⟨_, .str (Lib.decDigits i), _, he, rfl, hg', hx', ?_, rfl, hH⟩
      rw [Lib.itoa_nonneg]
      exact .str _
end Ab
set_option maxRecDepth 10000
namespace Ab
open Go Go.Proofs
section
variable {S : Type} (f : S → List UInt8 → S × List UInt8)
def renL : S → List Term → S × List Term
  | s, [] => (s, [])
  | s, .mk n v xs :: r => if v then ((renL (f s n).1 r).1, .mk (f s n).2 true [] :: (renL (f s n).1 r).2) else ((renL (renL s xs).1 r).1, .mk n false (renL s xs).2 :: (renL (renL s xs).1 r).2)
def renP (s : S) (t : Term) : S × Term := match t with
  | .mk n v xs => if v then ((f s n).1, .mk (f s n).2 true []) else ((renL f s xs).1, .mk n false (renL f s xs).2)
theorem renL_cons (s : S) (t : Term) (r : List Term) : renL f s (t :: r) = ((renL f (renP f s t).1 r).1, (renP f s t).2 :: (renL f (renP f s t).1 r).2) := by
  cases t with | mk n v xs => cases v <;> simp [renL, renP]
theorem renL_snoc : ∀ (xs : List Term) (s : S) (t : Term), renL f s (xs ++ [t]) = ((renP f (renL f s xs).1 t).1, (renL f s xs).2 ++ [(renP f (renL f s xs).1 t).2])
  | [], s, t => by rw [List.nil_append, renL_cons]; simp [renL]
  | x :: xs, s, t => by rw [List.cons_append, renL_cons, renL_snoc xs _ t, renL_cons]; simp
theorem renL_length : ∀ (xs : List Term) (s : S), (renL f s xs).2.length = xs.length
  | [], s => by simp [renL]
  | x :: xs, s => by rw [renL_cons]; simp [renL_length xs]
theorem ren_mu (μ : S → Nat) (hμ : ∀ s v, μ (f s v).1 ≤ μ s + 1) (t : Term) : ∀ s, μ (renP f s t).1 ≤ μ s + t.size := by
  induction t using Term.ind with | _ n v xs ih
  intro s
  have key : ∀ (xs : List Term), (∀ x, x ∈ xs → ∀ s, μ (renP f s x).1 ≤ μ s + x.size) → ∀ s, μ (renL f s xs).1 ≤ μ s + (xs.map Term.size).sum := by
    intro xs
    induction xs with
    | nil => intro _ s; simp [renL]
    | cons x xs ih2 =>
      intro h s
      have h1 := h x (by simp) s
      have h2 := ih2 (fun y hy => h y (by simp [hy])) (renP f s x).1
      rw [renL_cons]; simp only [List.map_cons, List.sum_cons]; omega
  rw [Term.size_mk]
  cases v with
  | true => have := hμ s n; simp [renP]; omega
  | false => have := key xs ih s; simp [renP]; omega
theorem renL_mu (μ : S → Nat) (hμ : ∀ s v, μ (f s v).1 ≤ μ s + 1) : ∀ (xs : List Term) s, μ (renL f s xs).1 ≤ μ s + (xs.map Term.size).sum
  | [], s => by simp [renL]
  | x :: xs, s => by
    have h1 := ren_mu f μ hμ x s
    have h2 := renL_mu μ hμ xs (renP f s x).1
    rw [renL_cons]; simp only [List.map_cons, List.sum_cons]; omega
theorem renamed_ac (hp : S → List AObj) (n : Nat) (hlen : ∀ s, (hp s).length = n) (hsc : ∀ s o, o ∈ hp s → OScoped n o) (μ : S → Nat) (hμ : ∀ s v, μ (f s v).1 ≤ μ s + 1) (K : Nat) (g : Nat) (caps : List AV) (hg : callOk Tryd.prog g = true) (hcp : ScopedL n caps)
    (hf : ∀ s v X, μ s < K → v.length ≤ 1099511627775 → ACall Tryd.prog g (.str v :: caps) (hp s ++ X) (fun r H' => r = .str (f s v).2 ∧ H' = hp (f s v).1 ++ X)) (t : Term) :
    t.bulk ≤ 1099511627775 → ∀ s X, μ s + t.size ≤ K → ACall Tryd.prog 70 [encT t, .fn g caps] (hp s ++ X) (fun r H' => r = encT (renP f s t).2 ∧ H' = hp (renP f s t).1 ++ X) := by
  induction t using Term.ind with | _ nm v xs ih
  intro hb s X hK
  have hlen2 := Term.len_le (n := nm) (v := v) (xs := xs)
  have hnl := Term.name_le (n := nm) (v := v) (xs := xs)
  rw [Term.size_mk] at hK
  obtain ⟨G, hG⟩ : ∃ G : S → List AObj, ∀ s, G s = hp s ++ X := ⟨fun s => hp s ++ X, fun _ => rfl⟩
  obtain ⟨N, hN⟩ : ∃ N, N = n + X.length := ⟨_, rfl⟩
  have hGl : ∀ s, (G s).length = N := fun s => by rw [hG, hN]; simp [hlen]
  have hg0 : ∀ s L, (G s ++ L)[N]? = L[0]? := fun q L => by have := agetN (G q) L 0; rw [hGl] at this; exact this
  have hgk : ∀ s L k, (G s ++ L)[N + k]? = L[k]? := fun q L k => by rw [← hGl q]; exact agetN _ _ _
  have ht0 : ∀ s L, (G s ++ L).take N = G s := fun q L => takeE0 (hGl q)
  have htk : ∀ s L k, (G s ++ L).take (N + k) = G s ++ L.take k := fun q L k => takeEN (hGl q)
  have hsk : ∀ s L k x, (G s ++ L).set (N + k) x = G s ++ L.set k x := fun q L k x => hsetEN (hGl q)
  have hs0 : ∀ s L x, (G s ++ L).set N x = G s ++ L.set 0 x := fun q L x => hsetE0 (hGl q)
  have hout : ∀ q k L, scT (N + k) k L → OutOk (G s) (G q ++ L) (N + k) := fun q k L h => by
    rw [hG, hG]; exact outok_hp k (by rw [hlen, hlen]) (fun o ho => by rw [hlen]; exact hsc _ o ho) (by simp [hlen, hN]) (scT_spec h).1 (scT_spec h).2
  have hou0 : ∀ q L, OutOk (G s) (G q ++ L) N = True := fun q L => eq_true (hout q 0 L trivial)
  have houk : ∀ q k L, scT (N + k) k L → OutOk (G s) (G q ++ L) (N + k) = True := fun q k L h => eq_true (hout q k L h)
  have hcpk : ∀ k, ScopedL (N + k) caps := fun k => scopedL_le (n := n) (by omega) caps hcp
  have hcp0 : ScopedL N caps := scopedL_le (n := n) (by omega) caps hcp
  have hf' : ∀ q v L, μ q < K → v.length ≤ 1099511627775 → ACall Tryd.prog g (.str v :: caps) (G q ++ L) (fun r H' => r = .str (f q v).2 ∧ H' = G (f q v).1 ++ L) := fun q v L h1 h2 => by
    have := hf q v (X ++ L) h1 h2
    simpa only [hG, List.append_assoc] using this
  have ih' : ∀ x, x ∈ xs → ∀ q L, μ q + x.size ≤ K → ACall Tryd.prog 70 [encT x, .fn g caps] (G q ++ L) (fun r H' => r = encT (renP f q x).2 ∧ H' = G (renP f q x).1 ++ L) := fun x hx q L h1 => by
    have hbx := Term.arg_le (n := nm) (v := v) hx
    have := ih x hx (by omega) q (X ++ L) h1
    simpa only [hG, List.append_assoc] using this
  have hgoal : ∀ (r : AV) (H' : List AObj), (r = encT (renP f s (.mk nm v xs)).2 ∧ H' = G (renP f s (.mk nm v xs)).1) → (r = encT (renP f s (.mk nm v xs)).2 ∧ H' = hp (renP f s (.mk nm v xs)).1 ++ X) := fun r H' h => by rw [← hG]; exact h
  rw [← hG]
  refine ACall.mono ?_ hgoal
  clear hgoal hG
  refine ACall_V (N) 33 [.cell 4 24] Tryd.func70 rfl rfl rfl ?_
  simp only [push_cast, Nat.reduceAdd, Nat.reduceSub, Nat.reduceMul, Nat.reduceLT, Nat.reduceLeDiff, Nat.reduceEqDiff, Int.reduceToNat, ↓reduceIte, hGl, hg0, hgk, hsk, hs0, hg]
  refine cI (fun hv => ?_) (fun hv => ?_)
  · subst hv
    refine (hf' s nm _ (by omega) (by omega)).to ?_
    simp only [push_cast, Nat.reduceAdd, Nat.reduceSub, Nat.reduceMul, Nat.reduceLT, Nat.reduceLeDiff, Nat.reduceEqDiff, Int.reduceToNat, ↓reduceIte, hGl, hg0, hgk, hsk, hs0, hou0, ht0, renP]
  · have hv : v = false := by simpa using hv
    subst hv
    refine AW_reserve 1 ?_
    refine AW_loopW (maskG 35 [1, 2, 0, 13, 0, 0]) (fun (i : Nat) => [(21, .int .i64 i)]) (fun i => G (renL f s (xs.take i)).1 ++ [.cells [.str nm, .bool false, .sl .none (encTs xs)], .cells [.str [], .bool false, .sl .zero []], .cells [.str nm, .bool false, gSl (N + 3) (encTs (renL f s (xs.take i)).2)], gTok 24 3 (encTs (renL f s (xs.take i)).2)]) (fun i => i ≤ xs.length) (fun i => xs.length - i) 0 (Nat.zero_le _) (by simp only [push_cast, Nat.reduceAdd, Nat.reduceSub, Nat.reduceMul, Nat.reduceLT, Nat.reduceLeDiff, Nat.reduceEqDiff, Int.reduceToNat, ↓reduceIte, hGl, houk, htk, hcpk, renL]) (fun i hi => ?_)
    simp only [push_cast, Nat.reduceAdd, Nat.reduceSub, Nat.reduceMul, Nat.reduceLT, Nat.reduceLeDiff, Nat.reduceEqDiff, Int.reduceToNat, ↓reduceIte, hGl, hg0, hgk, hsk, hs0, hou0, ht0]
    refine cI (fun h => ?_) (fun h => ?_)
    · repeat refine ⟨by omega, ?_⟩
      have hrl := renL_length f (xs.take i) s
      have hmu := renL_mu f μ hμ (xs.take i) s
      have hts := take_sum Term.size xs i (by omega)
      have htl := take_sum_le Term.size xs (i + 1)
      apply AW_drawE [some 25, some 26, some 27, some 28, some 29, some 30, some 31, some 32, none] [([false, false, false], _), ([true, false, false], _), ([true, true, false], _), ([true, true, true], _)] [none, none, none, none, some 0, none, some 1, none, some 2] 3 [(0, [false, false, false], [5]), (1, [false, false, false], [25]), (2, [false, false, false], [7]), (3, [false, false, false], [1]), (4, [false, false, false], [27, 0]), (5, [true, false, false], [29]), (6, [true, false, false], [26, 3]), (7, [true, true, false], [5]), (8, [true, true, false], [31, 0]), (0, [true, false, false], [5]), (0, [true, true, false], [5]), (1, [true, false, false], [25])] [_, _, _, _, _, _, _, _, _]
      case' hm => exact dr
      case' hn => rfl
      case' hok => rfl
      case' hlen => rfl
      case' hd => rfl
      case' h0 => rfl
      case' hstep =>
       simp only [DAllG, push_cast, Option.isSome_some, Option.isSome_none]
       repeat' apply And.intro
       all_goals (apply DOne_V; simp only [push_cast, Nat.reduceAdd, Nat.reduceSub, Nat.reduceMul, Nat.reduceLT, Nat.reduceLeDiff, Nat.reduceEqDiff, Int.reduceToNat, ↓reduceIte, hGl, hg0, hgk, hsk, hs0] <;> first | exact rfl | omega | exact ⟨rfl, rfl⟩ | exact trivial | exact ⟨by omega, rfl⟩ | exact ⟨by omega, by omega, rfl⟩ | exact ⟨by omega, rfl, rfl⟩ | exact ⟨by omega, by omega, rfl, rfl⟩ | exact (ih' _ (List.getElem_mem _) _ _ (by omega)).to ⟨rfl, rfl⟩ | (refine app1_T _ (N + 3) (renL f s (xs.take i)).2 (renP f (renL f s (xs.take i)).1 xs[i]).2 _ rfl rfl (by exact (hgk _ _ 3).trans rfl) sl22 sz24 by24 zr24 rfl (by decide) (by rw [hrl]; simp; omega) ?_; simp only [push_cast, Nat.reduceAdd, Nat.reduceSub, Nat.reduceMul, Nat.reduceLT, Nat.reduceLeDiff, Nat.reduceEqDiff, Int.reduceToNat, ↓reduceIte, hGl, hg0, hgk, hsk, hs0]; exact ⟨rfl, rfl⟩))
      case' hQ => skip
      simp only [push_cast, Nat.reduceAdd, Nat.reduceSub, Nat.reduceMul, Nat.reduceLT, Nat.reduceLeDiff, Nat.reduceEqDiff, Int.reduceToNat, ↓reduceIte, hGl, hg0, hgk, hsk, hs0, hou0, ht0]
      repeat' first | refine ⟨by omega, ?_⟩ | refine cI (fun _ => ?_) (fun _ => ?_)
      exact loopW_n (i + 1) (by omega) (by omega) (by simp only [push_cast, Nat.reduceAdd, Nat.reduceSub, Nat.reduceMul, Nat.reduceLT, Nat.reduceLeDiff, Nat.reduceEqDiff, Int.reduceToNat, ↓reduceIte, List.take_succ_eq_append_getElem (show i < xs.length by omega), renL_snoc, hGl, houk, htk, hcpk])
    · simp only [push_cast, Nat.reduceAdd, Nat.reduceSub, Nat.reduceMul, Nat.reduceLT, Nat.reduceLeDiff, Nat.reduceEqDiff, Int.reduceToNat, ↓reduceIte, List.take_of_length_le (show xs.length ≤ i by omega), renP]
end
end Ab
set_option maxRecDepth 10000
namespace Ab
open Go Go.Proofs
def xName (i : Nat) : List UInt8 := 120 :: Lib.decDigits i
def stdF (l : List (List UInt8)) (v : List UInt8) : List (List UInt8) × List UInt8 := if v ∈ l then (l, xName (l.idxOf v)) else (l ++ [v], xName l.length)
def stdM (l : List (List UInt8)) : List (List UInt8 × List UInt8) := l.zipIdx.map fun p => (p.1, xName p.2)
theorem stdF_len (l : List (List UInt8)) (v : List UInt8) : (stdF l v).1.length ≤ l.length + 1 := by unfold stdF; split <;> simp
theorem stdM_get (l : List (List UInt8)) (v : List UInt8) : aget (stdM l) v = if v ∈ l then some (xName (l.idxOf v)) else none := by
  have key : ∀ (l : List (List UInt8)) (k : Nat), aget ((l.zipIdx k).map fun p => (p.1, xName p.2)) v = if v ∈ l then some (xName (k + l.idxOf v)) else none := by
    intro l
    induction l with
    | nil => intro k; simp [aget]
    | cons a l ih =>
      intro k
      simp only [List.zipIdx_cons, List.map_cons, aget, ih]
      by_cases h : a = v
      · subst h; simp
      · have h' : ¬ v = a := fun e => h e.symm
        simp only [h, if_false, List.mem_cons, h', false_or, List.idxOf_cons]
        have hb : (a == v) = false := by simp [h]
        simp only [hb, cond_false]
        split
        · congr 2; omega
        · rfl
  have := key l 0
  simpa [stdM] using this
theorem stdM_set (l : List (List UInt8)) (v : List UInt8) (h : v ∉ l) : aset (stdM l) v (xName l.length) = stdM (l ++ [v]) := by
  have := (aget_none (k := v) (m := stdM l) (fun p hp => by
    simp only [stdM, List.mem_map] at hp
    obtain ⟨q, hq, rfl⟩ := hp
    intro e
    have := List.fst_mem_of_mem_zipIdx (x := q) hq
    exact h (e ▸ this))).2 (xName l.length)
  rw [this]; simp [stdM, List.zipIdx_append]
theorem stdM_len (l : List (List UInt8)) : (stdM l).length = l.length := by simp [stdM]
@[reducible] def stdO (n : Nat) (l : List (List UInt8)) : List AObj := [.map l.length (amap AV.str AV.str (stdM l)), .cells [.map n]]
theorem std11_ac (H : List AObj) (K : Nat) (hit : ∀ i H, i < K → ACall Tryd.prog 92 [.int .i64 (i : Nat)] H (fun r H' => r = .str (Lib.decDigits i) ∧ H' = H)) (l : List (List UInt8)) (v : List UInt8) (X : List AObj) (hl : l.length < K) (hK : K ≤ 1099511627776) (hv : v.length ≤ 1099511627775) (hd : (Lib.decDigits l.length).length ≤ 1099511627775) :
    ACall Tryd.prog 91 [.str v, .ptr (H.length + 1) 0] (H ++ stdO H.length l ++ X) (fun r H' => r = .str (stdF l v).2 ∧ H' = H ++ stdO H.length (stdF l v).1 ++ X) := by
  refine ACall_sc (fun hsc _ => ?_)
  refine ACall_V ((H ++ stdO H.length l ++ X).length) 15 [.tmp 3] Tryd.func91 rfl rfl rfl ?_
  simp only [push_cast, Nat.reduceAdd, Nat.reduceSub, Nat.reduceMul, Nat.reduceLT, Nat.reduceLeDiff, Nat.reduceEqDiff, Int.reduceToNat, ↓reduceIte]
  refine AOp_lookup (strKey un9) AV.str (stdM l) H.length _ v (.str []) rfl (by exact aget0 _ _ _) rfl un105 (ZeroV_of (.string ⟨#[]⟩) (by kernel_rfl)) ?_
  rw [stdM_get]
  by_cases hm : v ∈ l
  · have hs : stdF l v = (l, xName (l.idxOf v)) := by unfold stdF; rw [if_pos hm]
    rw [hs]
    simp only [push_cast, Nat.reduceAdd, Nat.reduceSub, Nat.reduceMul, Nat.reduceLT, Nat.reduceLeDiff, Nat.reduceEqDiff, Int.reduceToNat, ↓reduceIte, hm, xName]
    refine AOp_lookup (strKey un9) AV.str (stdM l) H.length _ v (.str []) rfl (by exact aget0 _ _ _) rfl un105 (ZeroV_of (.string ⟨#[]⟩) (by kernel_rfl)) ?_
    rw [stdM_get]
    simp only [push_cast, Nat.reduceAdd, Nat.reduceSub, Nat.reduceMul, Nat.reduceLT, Nat.reduceLeDiff, Nat.reduceEqDiff, Int.reduceToNat, ↓reduceIte, hm, xName]
    exact outok_upd [_, _] [_, _] rfl (by intro o ho; simp only [List.mem_cons, List.not_mem_nil, or_false] at ho; rcases ho with rfl | rfl; exact osc_amap _ _ _ _ _ (fun _ => trivial) (fun _ => trivial); simp [OScoped, ScopedL, Scoped]) (by simp)
  · have hs : stdF l v = (l ++ [v], xName l.length) := by unfold stdF; rw [if_neg hm]
    rw [hs]
    simp only [push_cast, Nat.reduceAdd, Nat.reduceSub, Nat.reduceMul, Nat.reduceLT, Nat.reduceLeDiff, Nat.reduceEqDiff, Int.reduceToNat, ↓reduceIte, hm]
    apply AW_drawE [some 8, some 9, some 10, some 11, some 12, some 13, none] [([false], _), ([true], _)] [none, none, none, none, none, none, some 0] 1 [(0, [false], [1]), (1, [false], [0]), (2, [false], [1]), (3, [false], [10]), (4, [false], [11]), (5, [false], [12]), (6, [false], [8, 0, 3])] [_, _, _, _, _, _, _]
    case' hm => exact dr
    case' hn => rfl
    case' hok => rfl
    case' hlen => rfl
    case' hd => rfl
    case' h0 => rfl
    case' hstep =>
     simp only [DAllG, push_cast, Option.isSome_some, Option.isSome_none]
     repeat' apply And.intro
     all_goals (apply DOne_V; simp only [push_cast, Nat.reduceAdd, Nat.reduceSub, Nat.reduceMul, Nat.reduceLT, Nat.reduceLeDiff, Nat.reduceEqDiff, Int.reduceToNat, ↓reduceIte, amap_length, stdM_len] <;> first | exact rfl | omega | exact ⟨rfl, rfl⟩ | exact trivial | exact ⟨by omega, rfl⟩ | exact ⟨by omega, by omega, rfl⟩ | exact ⟨by omega, rfl, rfl⟩ | exact ⟨by omega, by omega, rfl, rfl⟩ | (refine AOp_len_map _ _ _ rfl (by exact aget0 _ _ _) un105 ?_; simp only [push_cast, Nat.reduceAdd, Nat.reduceSub, Nat.reduceMul, Nat.reduceLT, Nat.reduceLeDiff, Nat.reduceEqDiff, Int.reduceToNat, ↓reduceIte, amap_length, stdM_len]; first | exact rfl | exact ⟨rfl, rfl⟩) | exact (hit _ _ hl).to ⟨rfl, rfl⟩ | (refine AOp_mapUpdate (strKey un9) AV.str (stdM l) _ _ v (xName l.length) rfl (by exact aget0 _ _ _) rfl rfl un105 ?_; rw [stdM_set l v hm]; simp only [push_cast, Nat.reduceAdd, Nat.reduceSub, Nat.reduceMul, Nat.reduceLT, Nat.reduceLeDiff, Nat.reduceEqDiff, Int.reduceToNat, ↓reduceIte]; exact ⟨rfl, rfl⟩))
    case' hQ => skip
    simp only [push_cast, Nat.reduceAdd, Nat.reduceSub, Nat.reduceMul, Nat.reduceLT, Nat.reduceLeDiff, Nat.reduceEqDiff, Int.reduceToNat, ↓reduceIte]
    refine AOp_lookup (strKey un9) AV.str (stdM (l ++ [v])) H.length _ v (.str []) rfl (by exact aget0 _ _ _) rfl un105 (ZeroV_of (.string ⟨#[]⟩) (by kernel_rfl)) ?_
    have hx : (l ++ [v]).idxOf v = l.length := by rw [List.idxOf_append]; simp [hm]
    rw [stdM_get, if_pos (by simp), hx]
    simp only [push_cast, Nat.reduceAdd, Nat.reduceSub, Nat.reduceMul, Nat.reduceLT, Nat.reduceLeDiff, Nat.reduceEqDiff, Int.reduceToNat, ↓reduceIte, List.length_append]
    exact outok_upd [_, _] [_, _] rfl (by intro o ho; simp only [List.mem_cons, List.not_mem_nil, or_false] at ho; rcases ho with rfl | rfl; exact osc_amap _ _ _ _ _ (fun _ => trivial) (fun _ => trivial); simp [OScoped, ScopedL, Scoped]) (by simp)
theorem standard_ac (H : List AObj) : ACall Tryd.prog 51 [] H (fun r H' => r = .fn 90 [.ptr (H.length + 1) 0] ∧ H' = H ++ stdO H.length []) := by
  refine ACall_V (H.length + 2) 4 [.tmp 0] Tryd.func51 rfl rfl rfl ?_
  simp only [push_cast, Nat.reduceAdd, Nat.reduceSub, Nat.reduceMul, Nat.reduceLT, Nat.reduceLeDiff, Nat.reduceEqDiff, Int.reduceToNat, ↓reduceIte]
  refine ⟨outok_app (L := stdO H.length []) 2 rfl (Nat.le_refl _) ?_, rfl⟩
  intro o ho
  simp only [List.take_succ_cons, List.take_zero, List.mem_cons, List.not_mem_nil, or_false] at ho
  rcases ho with rfl | rfl
  · intro e he; cases he
  · simp [OScoped, ScopedL, Scoped]
def canonP (t : Term) : Term := (renP stdF [] t).2
theorem std1_ac (H : List AObj) (hH : ∀ o, o ∈ H → OScoped H.length o) (K : Nat) (hit : ∀ i H, i < K → ACall Tryd.prog 92 [.int .i64 (i : Nat)] H (fun r H' => r = .str (Lib.decDigits i) ∧ H' = H)) (hK : K ≤ 1099511627776) (hd : ∀ i, i < K → (Lib.decDigits i).length ≤ 1099511627775) (l : List (List UInt8)) (t : Term) (hb : t.bulk ≤ 1099511627775) (hl : l.length + t.size ≤ K) :
    ACall Tryd.prog 90 [encT t, .ptr (H.length + 1) 0] (H ++ stdO H.length l) (fun r H' => r = encT (renP stdF l t).2 ∧ H' = H ++ stdO H.length (renP stdF l t).1) := by
  have hso : ∀ l o, o ∈ H ++ stdO H.length l → OScoped (H.length + 2) o := by
    intro l o ho
    rcases List.mem_append.1 ho with h | h
    · exact (hH o h).le (by omega)
    · simp only [List.mem_cons, List.not_mem_nil, or_false] at h
      rcases h with rfl | rfl
      · exact osc_amap _ _ _ _ _ (fun _ => trivial) (fun _ => trivial)
      · simp [OScoped, ScopedL, Scoped]
  refine ACall_V (H.length + 2) 5 [.cell 3 24] Tryd.func90 rfl rfl rfl ?_
  simp only [push_cast, Nat.reduceAdd, Nat.reduceSub, Nat.reduceMul, Nat.reduceLT, Nat.reduceLeDiff, Nat.reduceEqDiff, Int.reduceToNat, ↓reduceIte]
  have hr := renamed_ac stdF (fun l => H ++ stdO H.length l) (H.length + 2) (fun _ => by simp) hso List.length stdF_len K 91 [.ptr (H.length + 1) 0] ok91 (by simp [ScopedL, Scoped]) (fun l v X h1 h2 => std11_ac H K hit l v X h1 hK h2 (hd _ h1)) t hb l [.cells [.str t.name, .bool t.var, .sl .none (encTs t.args)], .cells [.str [], .bool false, .sl .zero []]] hl
  simp only [push_cast, Nat.reduceAdd, Nat.reduceSub, Nat.reduceMul, Nat.reduceLT, Nat.reduceLeDiff, Nat.reduceEqDiff, Int.reduceToNat, ↓reduceIte] at hr
  refine hr.to ?_
  simp only [push_cast, Nat.reduceAdd, Nat.reduceSub, Nat.reduceMul, Nat.reduceLT, Nat.reduceLeDiff, Nat.reduceEqDiff, Int.reduceToNat, ↓reduceIte]
  exact outok_upd2 (stdO H.length l) [_, _] [_, _] rfl (fun o ho => hso (renP stdF l t).1 o (List.mem_append_right _ ho)) rfl
theorem canonical_ac (K : Nat) (hit : ∀ i H, i < K → ACall Tryd.prog 92 [.int .i64 (i : Nat)] H (fun r H' => r = .str (Lib.decDigits i) ∧ H' = H)) (hK : K ≤ 1099511627776) (hd : ∀ i, i < K → (Lib.decDigits i).length ≤ 1099511627775) (t : Term) (hb : t.bulk ≤ 1099511627775) (hs : checkP t = 0 → t.size ≤ K) (H : List AObj) :
    ACall Tryd.prog 10 [encT t] H (fun r H' => r = encRE (if checkP t = 0 then (canonP t, 0) else (zeroT, checkP t)) ∧ H' = H) := by
  refine ACall_sc (fun hsc _ => ?_)
  refine ACall_V (H.length) 13 [.cell 2 24, .tmp 3] Tryd.func10 rfl rfl rfl ?_
  simp only [push_cast, Nat.reduceAdd, Nat.reduceSub, Nat.reduceMul, Nat.reduceLT, Nat.reduceLeDiff, Nat.reduceEqDiff, Int.reduceToNat, ↓reduceIte]
  refine (check_ac t hb _).to ?_
  simp only [push_cast, Nat.reduceAdd, Nat.reduceSub, Nat.reduceMul, Nat.reduceLT, Nat.reduceLeDiff, Nat.reduceEqDiff, Int.reduceToNat, ↓reduceIte]
  refine cI (fun h => ?_) (fun h => ?_)
  · have hr := std1_ac (H ++ [.cells [.str t.name, .bool t.var, .sl .none (encTs t.args)], .cells [.str [], .bool false, .sl .zero []]]) (by
      intro o ho
      rcases List.mem_append.1 ho with h | h
      · exact (hsc o h).le (by simp)
      · simp only [List.mem_cons, List.not_mem_nil, or_false] at h
        rcases h with rfl | rfl <;> simp [OScoped, ScopedL, Scoped, scoped_encTs]) K hit hK hd [] t hb (by have := hs h; simp; omega)
    simp only [push_cast, Nat.reduceAdd, Nat.reduceSub, Nat.reduceMul, Nat.reduceLT, Nat.reduceLeDiff, Nat.reduceEqDiff, Int.reduceToNat, ↓reduceIte] at hr
    apply AW_drawE [some 11, some 12, some 13, none, some 3] [([false, false, false], _), ([true, false, false], _), ([true, true, false], _), ([true, true, true], _)] [some 0, none, some 1, some 2, none] 3 [(0, [false, false, false], []), (1, [true, false, false], [1]), (2, [true, false, false], [11, 0]), (3, [true, true, false], [2, 10]), (4, [true, true, true], []), (1, [false, false, false], [1])] [_, _, _, _, _]
    case' hm => exact dr
    case' hn => rfl
    case' hok => rfl
    case' hlen => rfl
    case' hd => rfl
    case' h0 => rfl
    case' hstep =>
     simp only [DAllG, push_cast, Option.isSome_some, Option.isSome_none]
     repeat' apply And.intro
     all_goals (apply DOne_V; simp only [push_cast, Nat.reduceAdd, Nat.reduceSub, Nat.reduceMul, Nat.reduceLT, Nat.reduceLeDiff, Nat.reduceEqDiff, Int.reduceToNat, ↓reduceIte] <;> first | exact rfl | omega | exact ⟨rfl, rfl⟩ | exact trivial | exact ⟨by omega, rfl⟩ | exact ⟨by omega, by omega, rfl⟩ | exact ⟨by omega, rfl, rfl⟩ | exact ⟨by omega, by omega, rfl, rfl⟩ | exact (standard_ac _).to ⟨rfl, rfl⟩ | exact hr.to ⟨rfl, rfl⟩)
    case' hQ => skip
    simp only [push_cast, Nat.reduceAdd, Nat.reduceSub, Nat.reduceMul, Nat.reduceLT, Nat.reduceLeDiff, Nat.reduceEqDiff, Int.reduceToNat, ↓reduceIte, h, canonP]
  · simp only [push_cast, Nat.reduceAdd, Nat.reduceSub, Nat.reduceMul, Nat.reduceLT, Nat.reduceLeDiff, Nat.reduceEqDiff, Int.reduceToNat, ↓reduceIte, h]
end Ab
set_option maxRecDepth 10000
namespace Ab
open Go Go.Proofs
def cmpI (a b : Int) : Int := if a < b then -1 else if b < a then 1 else 0
theorem compareBytes_drop : ∀ (a b : List UInt8) (i : Nat), a.take i = b.take i → i ≤ a.length → i ≤ b.length → Lib.compareBytes a b = Lib.compareBytes (a.drop i) (b.drop i)
  | a, b, 0, _, _, _ => rfl
  | [], _, _ + 1, _, h, _ => by simp at h
  | _ :: _, [], _ + 1, _, _, h => by simp at h
  | x :: a, y :: b, i + 1, h, h1, h2 => by
    simp only [List.take_succ_cons, List.cons.injEq] at h
    rw [List.drop_succ_cons, List.drop_succ_cons, ← compareBytes_drop a b i h.2 (by simpa using h1) (by simpa using h2)]
    rw [h.1]
    have : ¬ y < y := by simp
    conv => lhs; unfold Lib.compareBytes
    simp [this]
theorem cmpI_len (a b : Nat) : (cmpI a b = 0 ↔ a = b) ∧ (¬ cmpI a b = 0 → ∀ r : Int, (if a < b then -1 else if b < a then 1 else r) = cmpI a b) := by
  unfold cmpI
  constructor
  · split
    · simp; omega
    · split
      · simp; omega
      · simp; omega
  · intro h r
    rcases Nat.lt_trichotomy a b with hl | hl | hl
    · simp [hl]
    · simp [hl] at h
    · have h2 : ¬ a < b := by omega
      simp [hl, h2]
theorem compareBytes_eq : ∀ a b : List UInt8, Lib.compareBytes a b = 0 ↔ a = b
  | [], [] => by simp [Lib.compareBytes]
  | [], _ :: _ => by simp [Lib.compareBytes]
  | _ :: _, [] => by simp [Lib.compareBytes]
  | a :: ar, b :: bs => by
    have ih := compareBytes_eq ar bs
    unfold Lib.compareBytes
    by_cases h1 : a < b
    · simp [h1]; intro e; subst e; exact absurd h1 (by simp)
    · by_cases h2 : b < a
      · simp [h1, h2]; intro e; subst e; exact absurd h2 (by simp)
      · have : a = b := by
          apply UInt8.le_antisymm
          · simpa using h2
          · simpa using h1
        simp [h1, h2, this, ih]
def cmpC (n : List UInt8) (v : Bool) (k : Nat) (m : List UInt8) (u : Bool) (j : Nat) (rest : Int) : Int :=
  if v ≠ u then (if v then -1 else 1) else if Lib.compareBytes n m ≠ 0 then Lib.compareBytes n m else if k < j then -1 else if j < k then 1 else rest
def cmpTs : List Term → List Term → Int
  | .mk n v xs :: r, .mk m u ys :: r' => if cmpC n v xs.length m u ys.length (cmpTs xs ys) ≠ 0 then cmpC n v xs.length m u ys.length (cmpTs xs ys) else cmpTs r r'
  | _, _ => 0
def cmpT (a b : Term) : Int := cmpC a.name a.var a.args.length b.name b.var b.args.length (cmpTs a.args b.args)
theorem cmpTs_cons (x y : Term) (r r' : List Term) : cmpTs (x :: r) (y :: r') = if cmpT x y ≠ 0 then cmpT x y else cmpTs r r' := by
  cases x; cases y; simp only [cmpTs, cmpT, Term.name, Term.var, Term.args]; rfl
theorem cmpTs_nil (ys : List Term) : cmpTs [] ys = 0 := by cases ys <;> simp [cmpTs]
theorem cmpTs_drop : ∀ (xs ys : List Term) (i : Nat), (∀ j (h1 : j < xs.length) (h2 : j < ys.length), j < i → cmpT xs[j] ys[j] = 0) → xs.length = ys.length → cmpTs xs ys = cmpTs (xs.drop i) (ys.drop i)
  | xs, ys, 0, _, _ => rfl
  | [], [], _ + 1, _, _ => rfl
  | [], _ :: _, _ + 1, _, h => by simp at h
  | _ :: _, [], _ + 1, _, h => by simp at h
  | x :: xs, y :: ys, i + 1, h, hl => by
    have h0 := h 0 (by simp) (by simp) (by omega)
    simp only [List.getElem_cons_zero] at h0
    rw [cmpTs_cons, List.drop_succ_cons, List.drop_succ_cons, if_neg (by omega)]
    refine cmpTs_drop xs ys i (fun j h1 h2 hj => ?_) (by simpa using hl)
    have h3 := h (j + 1) (by simp; omega) (by simp; omega) (by omega)
    simp only [List.getElem_cons_succ] at h3; exact h3
theorem cmpTs_iff : ∀ (xs ys : List Term), xs.length = ys.length → (cmpTs xs ys = 0 ↔ xs = ys)
  | [], [], _ => by simp [cmpTs]
  | [], _ :: _, h => by simp at h
  | _ :: _, [], h => by simp at h
  | .mk n v xs :: r, .mk m u ys :: r', h => by
    have h1 := cmpTs_iff r r' (by simpa using h)
    have h2 := cmpTs_iff xs ys
    have h3 := compareBytes_eq n m
    unfold cmpTs cmpC
    have h0 : Lib.compareBytes m m = 0 := (compareBytes_eq m m).2 rfl
    by_cases hv : v = u
    · by_cases hn : n = m
      · rcases Nat.lt_trichotomy xs.length ys.length with hl | hl | hl
        · have : ¬ xs = ys := fun e => by rw [e] at hl; omega
          simp [hv, h3.2 hn, hl, this]
        · have h2 := h2 hl
          simp only [hv, h3.2 hn, hl, Nat.lt_irrefl, if_false, ne_eq, not_true_eq_false, hn, List.cons.injEq, Term.mk.injEq, true_and, and_assoc]
          by_cases hc : cmpTs xs ys = 0
          · have e := h2.1 hc; simp [h0, h1, e, e ▸ hc]
          · have : ¬ xs = ys := fun e => hc (h2.2 e)
            simp [h0, hc, this]
        · have : ¬ xs = ys := fun e => by rw [e] at hl; omega
          have h4 : ¬ xs.length < ys.length := by omega
          simp [hv, h3.2 hn, hl, h4, this]
      · have h3' : ¬ Lib.compareBytes n m = 0 := fun e => hn (h3.1 e)
        simp [hv, h3', hn]
    · cases v <;> cases u <;> simp_all
theorem cmpT_iff (a b : Term) : cmpT a b = 0 ↔ a = b := by
  have := cmpTs_iff [a] [b] rfl
  rw [cmpTs_cons] at this
  simp only [cmpTs, List.cons.injEq, and_true] at this
  rw [← this]
  by_cases h : cmpT a b = 0 <;> simp [h]
end Ab
set_option maxRecDepth 10000
namespace Ab
open Go Go.Proofs
theorem cmpInts_ac (a b : Int) (H : List AObj) : ACall Tryd.prog 83 [.int .i64 a, .int .i64 b] H (fun r H' => r = .int .i64 (cmpI a b) ∧ H' = H) := by
  refine ACall_V (H.length) 9 [.tmp 4] Tryd.func83 rfl rfl rfl ?_
  simp only [push_cast, Nat.reduceAdd, Nat.reduceSub, Nat.reduceMul, Nat.reduceLT, Nat.reduceLeDiff, Nat.reduceEqDiff, Int.reduceToNat, ↓reduceIte]
  unfold cmpI
  repeat' first | refine ⟨by omega, ?_⟩ | refine cI (fun _ => ?_) (fun _ => ?_)
  all_goals simp [*]
theorem cmpNames_ac (a b : List UInt8) (ha : a.length < 1099511627776) (hb : b.length < 1099511627776) (H : List AObj) : ACall Tryd.prog 82 [.str a, .str b] H (fun r H' => r = .int .i64 (Lib.compareBytes a b) ∧ H' = H) := by
  refine ACall_V (H.length) 34 [.tmp 4] Tryd.func82 rfl rfl rfl ?_
  simp only [push_cast, Nat.reduceAdd, Nat.reduceSub, Nat.reduceMul, Nat.reduceLT, Nat.reduceLeDiff, Nat.reduceEqDiff, Int.reduceToNat, ↓reduceIte]
  refine AW_loopW (maskG 36 [0, 0, 8, 0]) (fun (i : Nat) => [(11, .int .i64 i)]) (fun _ => H) (fun i => i ≤ a.length ∧ i ≤ b.length ∧ a.take i = b.take i) (fun i => a.length - i) 0 ⟨Nat.zero_le _, Nat.zero_le _, by simp⟩ (by simp only [push_cast, Nat.reduceAdd, Nat.reduceSub, Nat.reduceMul, Nat.reduceLT, Nat.reduceLeDiff, Nat.reduceEqDiff, Int.reduceToNat, ↓reduceIte]) (fun i hi => ?_)
  simp only [push_cast, Nat.reduceAdd, Nat.reduceSub, Nat.reduceMul, Nat.reduceLT, Nat.reduceLeDiff, Nat.reduceEqDiff, Int.reduceToNat, ↓reduceIte]
  refine cI (fun h => ?_) (fun h => ?_)
  · have hil : i < a.length ∧ i < b.length := by omega
    apply AW_drawE [some 14, some 15, some 16, some 17, some 18, some 19, some 20] [([], _)] [none, none, none, none, none, none, none] 0 [(0, [], [0]), (1, [], [5]), (2, [], [14, 0]), (3, [], [1]), (4, [], [5]), (5, [], [17, 0]), (6, [], [16, 2])] [_, _, _, _, _, _, _]
    case' hm => exact dr
    case' hn => rfl
    case' hok => rfl
    case' hlen => rfl
    case' hd => rfl
    case' h0 => rfl
    case' hstep =>
     simp only [DAllG, push_cast, Option.isSome_some, Option.isSome_none]
     repeat' apply And.intro
     all_goals (apply DOne_V; simp only [push_cast, Nat.reduceAdd, Nat.reduceSub, Nat.reduceMul, Nat.reduceLT, Nat.reduceLeDiff, Nat.reduceEqDiff, Int.reduceToNat, ↓reduceIte] <;> first | exact rfl | omega | exact ⟨rfl, rfl⟩ | exact trivial | exact ⟨by omega, rfl⟩ | exact ⟨by omega, by omega, rfl⟩ | exact ⟨by omega, rfl, rfl⟩ | exact ⟨by omega, by omega, rfl, rfl⟩ | skip)
    case' hQ => skip
    simp only [push_cast, Nat.reduceAdd, Nat.reduceSub, Nat.reduceMul, Nat.reduceLT, Nat.reduceLeDiff, Nat.reduceEqDiff, Int.reduceToNat, ↓reduceIte]
    have hl1 := (a[i]'hil.1).toNat_lt
    have hl2 := (b[i]'hil.2).toNat_lt
    refine cI (fun he => ?_) (fun hne => ?_)
    · repeat' first | refine ⟨by omega, ?_⟩ | refine cI (fun _ => ?_) (fun _ => ?_)
      refine loopW_n (i + 1) ⟨by omega, by omega, ?_⟩ (by omega) (by simp only [push_cast, Nat.reduceAdd, Nat.reduceSub, Nat.reduceMul, Nat.reduceLT, Nat.reduceLeDiff, Nat.reduceEqDiff, Int.reduceToNat, ↓reduceIte])
      have he : (a[i]'hil.1) = (b[i]'hil.2) := UInt8.toNat_inj.1 (by omega)
      rw [List.take_succ_eq_append_getElem hil.1, List.take_succ_eq_append_getElem hil.2, hi.2.2, he]
    · skip
      apply AW_drawE [some 21, some 22, some 23, some 24, some 25, some 26, some 27, some 28, some 29, some 4] [([], _)] [none, none, none, none, none, none, none, none, none, none] 0 [(0, [], [0]), (1, [], [5]), (2, [], [21, 0]), (3, [], [23]), (4, [], [1]), (5, [], [5]), (6, [], [25, 0]), (7, [], [27]), (8, [], [24, 3]), (9, [], [29])] [_, _, _, _, _, _, _, _, _, _]
      case' hm => exact dr
      case' hn => rfl
      case' hok => rfl
      case' hlen => rfl
      case' hd => rfl
      case' h0 => rfl
      case' hstep =>
       simp only [DAllG, push_cast, Option.isSome_some, Option.isSome_none]
       repeat' apply And.intro
       all_goals (apply DOne_V; simp only [push_cast, Nat.reduceAdd, Nat.reduceSub, Nat.reduceMul, Nat.reduceLT, Nat.reduceLeDiff, Nat.reduceEqDiff, Int.reduceToNat, ↓reduceIte] <;> first | exact rfl | omega | exact ⟨rfl, rfl⟩ | exact trivial | exact ⟨by omega, rfl⟩ | exact ⟨by omega, by omega, rfl⟩ | exact ⟨by omega, rfl, rfl⟩ | exact ⟨by omega, by omega, rfl, rfl⟩ | exact ⟨by omega, by omega, rfl⟩ | exact (cmpInts_ac _ _ _).to ⟨rfl, rfl⟩)
      case' hQ => skip
      simp only [push_cast, Nat.reduceAdd, Nat.reduceSub, Nat.reduceMul, Nat.reduceLT, Nat.reduceLeDiff, Nat.reduceEqDiff, Int.reduceToNat, ↓reduceIte]
      rw [compareBytes_drop a b i hi.2.2 hi.1 hi.2.1, List.drop_eq_getElem_cons hil.1, List.drop_eq_getElem_cons hil.2]
      unfold cmpI Lib.compareBytes
      simp only [UInt8.lt_iff_toNat_lt]
      have hne : ¬ (a[i]'hil.1).toNat = (b[i]'hil.2).toNat := by omega
      rcases Nat.lt_or_gt_of_ne hne with h | h
      · have h' : ((a[i]'hil.1).toNat : Int) < (b[i]'hil.2).toNat := by omega
        simp [h]
      · have h' : ¬ (a[i]'hil.1).toNat < (b[i]'hil.2).toNat := by omega
        simp [h, h']
  · refine (cmpInts_ac _ _ _).to ?_
    simp only [push_cast, Nat.reduceAdd, Nat.reduceSub, Nat.reduceMul, Nat.reduceLT, Nat.reduceLeDiff, Nat.reduceEqDiff, Int.reduceToNat, ↓reduceIte]
    rw [compareBytes_drop a b i hi.2.2 hi.1 hi.2.1]
    rcases Nat.lt_or_ge a.length b.length with h | h
    · have hia : i = a.length := by omega
      subst hia
      have hd : 0 < (b.drop a.length).length := by simp; omega
      cases hb2 : b.drop a.length with
      | nil => rw [hb2] at hd; simp at hd
      | cons y r =>
        have h9 : ¬ b.length ≤ a.length := by omega
        simp [cmpI, Lib.compareBytes, h, h9]
    · rcases Nat.lt_or_ge b.length a.length with h2 | h2
      · have hib : i = b.length := by omega
        subst hib
        have hd : 0 < (a.drop b.length).length := by simp; omega
        cases ha2 : a.drop b.length with
        | nil => rw [ha2] at hd; simp at hd
        | cons y r =>
          have h3 : ¬ a.length < b.length := by omega
          simp [cmpI, Lib.compareBytes, h2, h3]
      · have hl : a.length = b.length := by omega
        have hia : i = a.length := by omega
        subst hia
        rw [List.drop_eq_nil_of_le (Nat.le_refl _), List.drop_eq_nil_of_le (by omega)]
        simp [cmpI, Lib.compareBytes, hl]
theorem compareR_ac (s : Term) : ∀ t : Term, s.bulk ≤ 1099511627775 → t.bulk ≤ 1099511627775 → ∀ H, ACall Tryd.prog 41 [encT s, encT t] H (fun r H' => r = .int .i64 (cmpT s t) ∧ H' = H) := by
  induction s using Term.ind with | _ n v xs ih
  rintro ⟨m, u, ys⟩ hb hb2 H
  have hl1 := Term.len_le (n := n) (v := v) (xs := xs)
  have hl2 := Term.len_le (n := m) (v := u) (xs := ys)
  have hn1 := Term.name_le (n := n) (v := v) (xs := xs)
  have hn2 := Term.name_le (n := m) (v := u) (xs := ys)
  have hci := cmpI_len xs.length ys.length
  have hcm : cmpT (.mk n v xs) (.mk m u ys) = cmpC n v xs.length m u ys.length (cmpTs xs ys) := rfl
  rw [hcm]
  refine ACall_V (H.length) 53 [.tmp 4] Tryd.func41 rfl rfl rfl ?_
  simp only [push_cast, Nat.reduceAdd, Nat.reduceSub, Nat.reduceMul, Nat.reduceLT, Nat.reduceLeDiff, Nat.reduceEqDiff, Int.reduceToNat, ↓reduceIte]
  refine cI (fun h1 => ?_) (fun h1 => ?_)
  · have h1 : v = u := by simpa using h1
    refine (cmpNames_ac n m (by omega) (by omega) _).to ?_
    simp only [push_cast, Nat.reduceAdd, Nat.reduceSub, Nat.reduceMul, Nat.reduceLT, Nat.reduceLeDiff, Nat.reduceEqDiff, Int.reduceToNat, ↓reduceIte]
    refine cI (fun h2 => (cmpInts_ac _ _ _).to ?_) (fun h2 => ?_)
    · simp only [push_cast, Nat.reduceAdd, Nat.reduceSub, Nat.reduceMul, Nat.reduceLT, Nat.reduceLeDiff, Nat.reduceEqDiff, Int.reduceToNat, ↓reduceIte]
      refine cI (fun h3 => ?_) (fun h3 => ?_)
      · have hll : xs.length = ys.length := hci.1.1 h3
        refine AW_loopW (maskG 55 [2, 0, 32, 0]) (fun (i : Nat) => [(37, .int .i64 i)]) (fun _ => H ++ [.cells [.str n, .bool v, .sl .none (encTs xs)], .cells [.str m, .bool u, .sl .none (encTs ys)]]) (fun i => i ≤ xs.length ∧ ∀ j (h1 : j < xs.length) (h2 : j < ys.length), j < i → cmpT xs[j] ys[j] = 0) (fun i => xs.length - i) 0 ⟨Nat.zero_le _, fun j h1 h2 h => by omega⟩ (by simp only [push_cast, Nat.reduceAdd, Nat.reduceSub, Nat.reduceMul, Nat.reduceLT, Nat.reduceLeDiff, Nat.reduceEqDiff, Int.reduceToNat, ↓reduceIte]) (fun i hi => ?_)
        simp only [push_cast, Nat.reduceAdd, Nat.reduceSub, Nat.reduceMul, Nat.reduceLT, Nat.reduceLeDiff, Nat.reduceEqDiff, Int.reduceToNat, ↓reduceIte]
        refine cI (fun h => ?_) (fun h => ?_)
        · have hix : i < xs.length := by omega
          have hiy : i < ys.length := by omega
          apply AW_drawE [some 40, some 41, some 42, some 43, some 44, some 45, some 46, some 47, some 48, some 49, some 50, some 8] [([], _)] [none, none, none, none, none, none, none, none, none, none, none, none] 0 [(0, [], [2]), (1, [], [40]), (2, [], [7]), (3, [], [41, 0]), (4, [], [43]), (5, [], [3]), (6, [], [45]), (7, [], [7]), (8, [], [46, 0]), (9, [], [48]), (10, [], [44, 4]), (11, [], [50])] [_, _, _, _, _, _, _, _, _, _, _, _]
          case' hm => exact dr
          case' hn => rfl
          case' hok => rfl
          case' hlen => rfl
          case' hd => rfl
          case' h0 => rfl
          case' hstep =>
           simp only [DAllG, push_cast, Option.isSome_some, Option.isSome_none]
           repeat' apply And.intro
           all_goals (apply DOne_V; simp only [push_cast, Nat.reduceAdd, Nat.reduceSub, Nat.reduceMul, Nat.reduceLT, Nat.reduceLeDiff, Nat.reduceEqDiff, Int.reduceToNat, ↓reduceIte] <;> first | exact rfl | omega | exact ⟨rfl, rfl⟩ | exact trivial | exact ⟨by omega, rfl⟩ | exact ⟨by omega, by omega, rfl⟩ | exact ⟨by omega, rfl, rfl⟩ | exact ⟨by omega, by omega, rfl, rfl⟩ | exact (ih _ (List.getElem_mem hix) (ys[i]'hiy) (arg_bulk hb i hix) (arg_bulk hb2 i hiy) _).to ⟨rfl, rfl⟩)
          case' hQ => skip
          simp only [push_cast, Nat.reduceAdd, Nat.reduceSub, Nat.reduceMul, Nat.reduceLT, Nat.reduceLeDiff, Nat.reduceEqDiff, Int.reduceToNat, ↓reduceIte]
          refine cI (fun h4 => ?_) (fun h4 => ?_)
          · repeat' first | refine ⟨by omega, ?_⟩ | refine cI (fun _ => ?_) (fun _ => ?_)
            refine loopW_n (i + 1) ⟨by omega, fun j j1 j2 hj => ?_⟩ (by omega) (by simp only [push_cast, Nat.reduceAdd, Nat.reduceSub, Nat.reduceMul, Nat.reduceLT, Nat.reduceLeDiff, Nat.reduceEqDiff, Int.reduceToNat, ↓reduceIte])
            rcases Nat.lt_or_ge j i with hj | hj
            · exact hi.2 j j1 j2 hj
            · have hji : j = i := by omega
              subst hji; exact h4
          · have hq : cmpTs xs ys = cmpT (xs[i]'hix) (ys[i]'hiy) := by rw [cmpTs_drop xs ys i hi.2 hll, List.drop_eq_getElem_cons hix, List.drop_eq_getElem_cons hiy, cmpTs_cons, if_pos h4]
            simp [cmpC, h1, h2, hll, hq]
        · have hq : cmpTs xs ys = 0 := by rw [cmpTs_drop xs ys i hi.2 hll, List.drop_eq_nil_of_le (show xs.length ≤ i by omega)]; exact cmpTs_nil _
          simp [cmpC, h1, h2, hll, hq]
      · have h4 := hci.2 h3 (cmpTs xs ys)
        simp only [cmpC, h1, h2, h4, ne_eq, not_true_eq_false, if_false]
    · simp [cmpC, h1, h2]
  · have h1 : ¬ v = u := by simpa using h1
    refine cI (fun hv => ?_) (fun hv => ?_) <;> cases v <;> cases u <;> first | exact absurd rfl h1 | (simp [cmpC]; done) | (simp at hv)
theorem equalR_ac (s t : Term) (h1 : s.bulk ≤ 1099511627775) (h2 : t.bulk ≤ 1099511627775) (H : List AObj) : ACall Tryd.prog 12 [encT s, encT t] H (fun r H' => r = .bool (decide (s = t)) ∧ H' = H) := by
  have he := cmpT_iff s t
  refine ACall_V (H.length) 7 [.tmp 4] Tryd.func12 rfl rfl rfl ?_
  simp only [push_cast, Nat.reduceAdd, Nat.reduceSub, Nat.reduceMul, Nat.reduceLT, Nat.reduceLeDiff, Nat.reduceEqDiff, Int.reduceToNat, ↓reduceIte]
  refine (compareR_ac s t h1 h2 _).to ?_
  simp only [push_cast, Nat.reduceAdd, Nat.reduceSub, Nat.reduceMul, Nat.reduceLT, Nat.reduceLeDiff, Nat.reduceEqDiff, Int.reduceToNat, ↓reduceIte, he]
theorem samePosR_ac (p q : List Int) (h1 : p.length < 1099511627776) (h2 : q.length < 1099511627776) (H : List AObj) : ACall Tryd.prog 62 [.sl .none (encP p), .sl .none (encP q)] H (fun r H' => r = .bool (decide (p = q)) ∧ H' = H) := by
  refine ACall_V (H.length) 24 [.tmp 4] Tryd.func62 rfl rfl rfl ?_
  simp only [push_cast, Nat.reduceAdd, Nat.reduceSub, Nat.reduceMul, Nat.reduceLT, Nat.reduceLeDiff, Nat.reduceEqDiff, Int.reduceToNat, ↓reduceIte]
  refine cI (fun hl => ?_) (fun hl => ?_)
  · have hl : p.length = q.length := by omega
    refine AW_loopW (maskG 26 [0, 0, 10, 0]) (fun (i : Nat) => [(13, .int .i64 i)]) (fun _ => H) (fun i => i ≤ p.length ∧ p.take i = q.take i) (fun i => p.length - i) 0 ⟨Nat.zero_le _, rfl⟩ (by simp only [push_cast, Nat.reduceAdd, Nat.reduceSub, Nat.reduceMul, Nat.reduceLT, Nat.reduceLeDiff, Nat.reduceEqDiff, Int.reduceToNat, ↓reduceIte]) (fun i hi => ?_)
    simp only [push_cast, Nat.reduceAdd, Nat.reduceSub, Nat.reduceMul, Nat.reduceLT, Nat.reduceLeDiff, Nat.reduceEqDiff, Int.reduceToNat, ↓reduceIte]
    refine cI (fun h => ?_) (fun h => ?_)
    · repeat refine ⟨by omega, ?_⟩
      have hip : i < p.length := by omega
      have hiq : i < q.length := by omega
      apply AW_drawE [some 16, some 17, some 18, some 19, some 20, some 21, some 22, some 23, some 24] [([], _)] [none, none, none, none, none, none, none, none, none] 0 [(0, [], [0]), (1, [], [5]), (2, [], [16, 0]), (3, [], [18]), (4, [], [1]), (5, [], [5]), (6, [], [20, 0]), (7, [], [22]), (8, [], [19, 3])] [_, _, _, _, _, _, _, _, _]
      case' hm => exact dr
      case' hn => rfl
      case' hok => rfl
      case' hlen => rfl
      case' hd => rfl
      case' h0 => rfl
      case' hstep =>
       simp only [DAllG, push_cast, Option.isSome_some, Option.isSome_none]
       repeat' apply And.intro
       all_goals (apply DOne_V; simp only [push_cast, Nat.reduceAdd, Nat.reduceSub, Nat.reduceMul, Nat.reduceLT, Nat.reduceLeDiff, Nat.reduceEqDiff, Int.reduceToNat, ↓reduceIte] <;> first | exact rfl | omega | exact ⟨rfl, rfl⟩ | exact trivial | exact ⟨by omega, rfl⟩ | exact ⟨by omega, by omega, rfl⟩ | exact ⟨by omega, rfl, rfl⟩ | exact ⟨by omega, by omega, rfl, rfl⟩ | skip)
      case' hQ => skip
      simp only [push_cast, Nat.reduceAdd, Nat.reduceSub, Nat.reduceMul, Nat.reduceLT, Nat.reduceLeDiff, Nat.reduceEqDiff, Int.reduceToNat, ↓reduceIte]
      refine cI (fun he => ?_) (fun he => ?_)
      · repeat' first | refine ⟨by omega, ?_⟩ | refine cI (fun _ => ?_) (fun _ => ?_)
        refine loopW_n (i + 1) ⟨by omega, ?_⟩ (by omega) (by simp only [push_cast, Nat.reduceAdd, Nat.reduceSub, Nat.reduceMul, Nat.reduceLT, Nat.reduceLeDiff, Nat.reduceEqDiff, Int.reduceToNat, ↓reduceIte])
        rw [List.take_succ_eq_append_getElem hip, List.take_succ_eq_append_getElem hiq, hi.2, he]
      · have hne : p ≠ q := fun e => he (by subst e; rfl)
        simp [hne]
    · have e := hi.2
      rw [List.take_of_length_le (by omega), List.take_of_length_le (by omega)] at e
      simp [e]
  · have hne : p ≠ q := fun e => hl (by rw [e])
    simp [hne]
theorem same_ac (a b : List (List Int)) (h1 : a.length < 1099511627776) (h2 : b.length < 1099511627776) (h3 : ∀ p, p ∈ a → p.length < 1099511627776) (h4 : ∀ p, p ∈ b → p.length < 1099511627776) (H : List AObj) :
    ACall Tryd.prog 19 [.sl .none (encL encQ a), .sl .none (encL encQ b)] H (fun r H' => r = .bool (decide (a = b)) ∧ H' = H) := by
  refine ACall_V (H.length) 25 [.tmp 4] Tryd.func19 rfl rfl rfl ?_
  simp only [push_cast, Nat.reduceAdd, Nat.reduceSub, Nat.reduceMul, Nat.reduceLT, Nat.reduceLeDiff, Nat.reduceEqDiff, Int.reduceToNat, ↓reduceIte]
  refine cI (fun hl => ?_) (fun hl => ?_)
  · have hl : a.length = b.length := by omega
    refine AW_loopW (maskG 27 [0, 0, 10, 0]) (fun (i : Nat) => [(13, .int .i64 i)]) (fun _ => H) (fun i => i ≤ a.length ∧ a.take i = b.take i) (fun i => a.length - i) 0 ⟨Nat.zero_le _, rfl⟩ (by simp only [push_cast, Nat.reduceAdd, Nat.reduceSub, Nat.reduceMul, Nat.reduceLT, Nat.reduceLeDiff, Nat.reduceEqDiff, Int.reduceToNat, ↓reduceIte]) (fun i hi => ?_)
    simp only [push_cast, Nat.reduceAdd, Nat.reduceSub, Nat.reduceMul, Nat.reduceLT, Nat.reduceLeDiff, Nat.reduceEqDiff, Int.reduceToNat, ↓reduceIte]
    refine cI (fun h => ?_) (fun h => ?_)
    · repeat refine ⟨by omega, ?_⟩
      have hip : i < a.length := by omega
      have hiq : i < b.length := by omega
      apply AW_drawE [some 16, some 17, some 18, some 19, some 20, some 21, some 22, some 23, some 24, some 25] [([], _)] [none, none, none, none, none, none, none, none, none, none] 0 [(0, [], [0]), (1, [], [5]), (2, [], [16, 0]), (3, [], [18]), (4, [], [1]), (5, [], [5]), (6, [], [20, 0]), (7, [], [22]), (8, [], [19, 3]), (9, [], [24])] [_, _, _, _, _, _, _, _, _, _]
      case' hm => exact dr
      case' hn => rfl
      case' hok => rfl
      case' hlen => rfl
      case' hd => rfl
      case' h0 => rfl
      case' hstep =>
       simp only [DAllG, push_cast, Option.isSome_some, Option.isSome_none]
       repeat' apply And.intro
       all_goals (apply DOne_V; simp only [push_cast, Nat.reduceAdd, Nat.reduceSub, Nat.reduceMul, Nat.reduceLT, Nat.reduceLeDiff, Nat.reduceEqDiff, Int.reduceToNat, ↓reduceIte] <;> first | exact rfl | omega | exact ⟨rfl, rfl⟩ | exact trivial | exact ⟨by omega, rfl⟩ | exact ⟨by omega, by omega, rfl⟩ | exact ⟨by omega, rfl, rfl⟩ | exact ⟨by omega, by omega, rfl, rfl⟩ | exact (samePosR_ac (a[i]'hip) (b[i]'hiq) (h3 _ (List.getElem_mem _)) (h4 _ (List.getElem_mem _)) _).to ⟨rfl, rfl⟩)
      case' hQ => skip
      simp only [push_cast, Nat.reduceAdd, Nat.reduceSub, Nat.reduceMul, Nat.reduceLT, Nat.reduceLeDiff, Nat.reduceEqDiff, Int.reduceToNat, ↓reduceIte]
      refine cI (fun he => ?_) (fun he => ?_)
      · repeat' first | refine ⟨by omega, ?_⟩ | refine cI (fun _ => ?_) (fun _ => ?_)
        refine loopW_n (i + 1) ⟨by omega, ?_⟩ (by omega) (by simp only [push_cast, Nat.reduceAdd, Nat.reduceSub, Nat.reduceMul, Nat.reduceLT, Nat.reduceLeDiff, Nat.reduceEqDiff, Int.reduceToNat, ↓reduceIte])
        rw [List.take_succ_eq_append_getElem hip, List.take_succ_eq_append_getElem hiq, hi.2, he]
      · have hne : a ≠ b := fun e => he (by subst e; rfl)
        simp [hne]
    · have e := hi.2
      rw [List.take_of_length_le (by omega), List.take_of_length_le (by omega)] at e
      simp [e]
  · have hne : a ≠ b := fun e => hl (by rw [e])
    simp [hne]
theorem variable_ac (s : List UInt8) (H : List AObj) : ACall Tryd.prog 30 [.str s] H (fun r H' => r = encT (.mk s true []) ∧ H' = H) := by
  refine ACall_V (H.length) 4 [.cell 2 24] Tryd.func30 rfl rfl rfl ?_
  simp only [push_cast, Nat.reduceAdd, Nat.reduceSub, Nat.reduceMul, Nat.reduceLT, Nat.reduceLeDiff, Nat.reduceEqDiff, Int.reduceToNat, ↓reduceIte]
theorem symbol_ac (s : List UInt8) (l : List Term) (H : List AObj) : ACall Tryd.prog 52 [.str s, .sl .none (encTs l)] H (fun r H' => r = encT (.mk s false l) ∧ H' = H) := by
  refine ACall_V (H.length) 6 [.cell 4 24] Tryd.func52 rfl rfl rfl ?_
  simp only [push_cast, Nat.reduceAdd, Nat.reduceSub, Nat.reduceMul, Nat.reduceLT, Nat.reduceLeDiff, Nat.reduceEqDiff, Int.reduceToNat, ↓reduceIte]
end Ab
set_option maxRecDepth 10000
namespace Ab
open Go Go.Proofs
def aG : List Term := [.mk [118] true []]
def aF : List Term := [.mk [117] true [], .mk [103] false aG, .mk [117] true []]
def cG : List Term := [.mk [120, 49] true []]
def cF : List Term := [.mk [120, 48] true [], .mk [103] false cG, .mk [120, 48] true []]
def aT : Term := .mk [102] false [.mk [117] true [], .mk [103] false [.mk [118] true []], .mk [117] true []]
def cT : Term := .mk [102] false [.mk [120, 48] true [], .mk [103] false [.mk [120, 49] true []], .mk [120, 48] true []]
theorem encAG : encTs aG = [AV.agg [.str [118], .bool true, .sl .none []]] := by simp only [aG, encTs_cons, encTs_nil, encT, Term.mk_name, Term.mk_var, Term.mk_args]
theorem encAF : encTs aF = [AV.agg [.str [117], .bool true, .sl .none []], .agg [.str [103], .bool false, .sl .none (encTs aG)], .agg [.str [117], .bool true, .sl .none []]] := by simp only [aF, encTs_cons, encTs_nil, encT, Term.mk_name, Term.mk_var, Term.mk_args]
theorem encCG : encTs cG = [AV.agg [.str [120, 49], .bool true, .sl .none []]] := by simp only [cG, encTs_cons, encTs_nil, encT, Term.mk_name, Term.mk_var, Term.mk_args]
theorem encCF : encTs cF = [AV.agg [.str [120, 48], .bool true, .sl .none []], .agg [.str [103], .bool false, .sl .none (encTs cG)], .agg [.str [120, 48], .bool true, .sl .none []]] := by simp only [cF, encTs_cons, encTs_nil, encT, Term.mk_name, Term.mk_var, Term.mk_args]
theorem aT_formed : formedP aT = true := by simp only [aT, formedP_mk]; simp [formedP_mk]; decide +kernel
theorem aT_size : aT.size = 5 := by simp [aT, Term.size_mk]
theorem aT_depth : aT.depth = 3 := by simp [aT, Term.depth_mk]
theorem aT_sizeI : ((aT.size : Nat) : Int) = 5 := by rw [aT_size]; rfl
theorem aT_depthI : ((aT.depth : Nat) : Int) = 3 := by rw [aT_depth]; rfl
theorem aT_check : checkP aT = 0 := by unfold checkP fitsP; simp [aT_formed, aT_size, aT_depth]
theorem aT_pos : posP aT = [[], [0], [1], [1, 0], [2]] := by simp [posP, aT, walkT, walkL, Term.mk_args]
theorem decD : Lib.decDigits 0 = [48] ∧ Lib.decDigits 1 = [49] := by decide +kernel
theorem aT_canon : canonP aT = cT := by simp [canonP, aT, cT, renP, renL, stdF, xName, decD]
theorem aT_bulk : aT.bulk ≤ 1099511627775 := by simp [aT, Term.bulk_mk]
theorem cT_bulk : cT.bulk ≤ 1099511627775 := by simp [cT, Term.bulk_mk]
theorem cG_ac (H : List AObj) : ACall Tryd.prog 52 [.str [103], .sl .none [AV.agg [.str [120, 49], .bool true, .sl .none []]]] H (fun r H' => r = encT (.mk [103] false cG) ∧ H' = H) := by
  rw [← encCG]; exact symbol_ac _ _ _
theorem cF_ac (H : List AObj) : ACall Tryd.prog 52 [.str [102], .sl .none [AV.agg [.str [120, 48], .bool true, .sl .none []], .agg [.str [103], .bool false, .sl .none (encTs cG)], .agg [.str [120, 48], .bool true, .sl .none []]]] H (fun r H' => r = encT cT ∧ H' = H) := by
  rw [← encCF]; exact symbol_ac _ cF _
theorem Forget.row (t : Tok) {xs ys : List AV} (hl : xs.length = ys.length) (h : ForgetL (flat xs) (flat ys)) : Forget (.sl t xs) (.sl .none ys) := fun C x hx => by
  obtain ⟨h1, h2⟩ := ForgetL.spec h
  cases hx with
  | sl _ _ a n c f hn hc hrow hrel htok =>
    refine .sl .none ys a n c f (hn.trans hl) hc (fun hne => ?_) (fun j hj => h2 j (by omega) hj _ _ (hrel j (by omega))) trivial
    obtain ⟨b, o, ha, hr⟩ := hrow (fun e => hne (List.eq_nil_of_length_eq_zero (by rw [← h1, e]; rfl)))
    exact ⟨b, o, ha, h1 ▸ hr⟩
theorem sameA_ac (H : List AObj) : ACall Tryd.prog 19 [.sl .none (encL encQ [[], [0], [1], [1, 0], [2]]), .sl .none [.sl .zero [], .sl .none [.int .i64 0], .sl .none [.int .i64 1], .sl .none [.int .i64 1, .int .i64 0], .sl .none [.int .i64 2]]] H (fun r H' => r = .bool true ∧ H' = H) := by
  refine ACall.forget (args' := [.sl .none (encL encQ [[], [0], [1], [1, 0], [2]]), .sl .none (encL encQ [[], [0], [1], [1, 0], [2]])]) ⟨Forget.refl _, ?_, trivial⟩ ((same_ac [[], [0], [1], [1, 0], [2]] [[], [0], [1], [1, 0], [2]] (by simp) (by simp) (by simp) (by simp) _).mono ?_)
  · refine Forget.row _ (by simp [encL]) ?_
    exact ⟨Forget.tok _ _, Forget.refl _, Forget.refl _, Forget.refl _, Forget.refl _, trivial⟩
  · rintro r H' ⟨rfl, rfl⟩; exact ⟨by simp, rfl⟩
theorem equalC_ac (H : List AObj) : ACall Tryd.prog 12 [encT cT, encT cT] H (fun r H' => r = .bool true ∧ H' = H) :=
  (equalR_ac cT cT cT_bulk cT_bulk _).mono (by rintro r H' ⟨rfl, rfl⟩; exact ⟨by simp, rfl⟩)
theorem alive_ac (hit : ∀ i H, i < 100 → ACall Tryd.prog 92 [.int .i64 (i : Nat)] H (fun r H' => r = .str (Lib.decDigits i) ∧ H' = H)) (H : List AObj) :
    ACall Tryd.prog 11 [] H (fun r H' => r = .bool true ∧ H' = H) := by
  have hd : ∀ i, i < 100 → (Lib.decDigits i).length ≤ 1099511627775 := by decide +kernel
  refine ACall_V (H.length) 65 [.tmp 0] Tryd.func11 rfl rfl rfl ?_
  simp only [push_cast, Nat.reduceAdd, Nat.reduceSub, Nat.reduceMul, Nat.reduceLT, Nat.reduceLeDiff, Nat.reduceEqDiff, Int.reduceToNat, ↓reduceIte]
  refine (variable_ac _ _).to ?_
  simp only [push_cast, Nat.reduceAdd, Nat.reduceSub, Nat.reduceMul, Nat.reduceLT, Nat.reduceLeDiff, Nat.reduceEqDiff, Int.reduceToNat, ↓reduceIte]
  refine (variable_ac _ _).to ?_
  simp only [push_cast, Nat.reduceAdd, Nat.reduceSub, Nat.reduceMul, Nat.reduceLT, Nat.reduceLeDiff, Nat.reduceEqDiff, Int.reduceToNat, ↓reduceIte]
  rw [← encAG]
  refine (symbol_ac _ aG _).to ?_
  simp only [push_cast, Nat.reduceAdd, Nat.reduceSub, Nat.reduceMul, Nat.reduceLT, Nat.reduceLeDiff, Nat.reduceEqDiff, Int.reduceToNat, ↓reduceIte]
  refine (variable_ac _ _).to ?_
  simp only [push_cast, Nat.reduceAdd, Nat.reduceSub, Nat.reduceMul, Nat.reduceLT, Nat.reduceLeDiff, Nat.reduceEqDiff, Int.reduceToNat, ↓reduceIte]
  rw [← encAF]
  refine (symbol_ac _ aF _).to ?_
  simp only [push_cast, Nat.reduceAdd, Nat.reduceSub, Nat.reduceMul, Nat.reduceLT, Nat.reduceLeDiff, Nat.reduceEqDiff, Int.reduceToNat, ↓reduceIte]
  refine (positions_ac aT aT_bulk _).to ?_
  simp only [push_cast, Nat.reduceAdd, Nat.reduceSub, Nat.reduceMul, Nat.reduceLT, Nat.reduceLeDiff, Nat.reduceEqDiff, Int.reduceToNat, ↓reduceIte, aT_check, aT_pos]
  refine (canonical_ac 100 hit (by decide) hd aT aT_bulk (fun _ => by rw [aT_size]; decide) _).to ?_
  simp only [push_cast, Nat.reduceAdd, Nat.reduceSub, Nat.reduceMul, Nat.reduceLT, Nat.reduceLeDiff, Nat.reduceEqDiff, Int.reduceToNat, ↓reduceIte, aT_check, aT_canon]
  apply AW_drawE [some 23, some 24, some 25, some 26, some 27, some 28, some 29, some 30, some 31, some 32, some 33, some 34, some 35, some 36, some 37, some 38, some 39, some 40, some 41, some 42, some 43, some 44, some 45, some 46, some 47, some 48, some 49, some 50, some 51, some 52, some 53, some 54, some 55, some 56, some 57, some 58, some 59, some 60, some 61, some 62, some 63, some 64, some 0] [([], _)] [none, none, none, none, none, none, none, none, none, none, none, none, none, none, none, none, none, none, none, none, none, none, none, none, none, none, none, none, none, none, none, none, none, none, none, none, none, none, none, none, none, none, none] 0 [(0, [], [1]), (1, [], [23]), (2, [], [24]), (3, [], [25]), (4, [], [1, 24]), (5, [], [26, 0]), (6, [], [26, 1]), (7, [], [26, 2]), (8, [], [30]), (9, [], [1, 29]), (10, [], [31, 0]), (11, [], [31, 1]), (12, [], [31, 2]), (13, [], [35]), (14, [], [3, 32]), (15, [], [36, 0]), (16, [], [36, 1]), (17, [], [39]), (18, [], [2, 37]), (19, [], [40]), (20, [], [40]), (21, [], [40]), (22, [], [40]), (23, [], [40]), (24, [], [40, 1, 0, 0, 0, 0]), (25, [], [40, 0, 5]), (26, [], [40, 7]), (27, [], [49]), (28, [], [5, 44]), (29, [], [50, 0]), (30, [], [50, 1]), (31, [], [53]), (32, [], [4, 49]), (33, [], [54]), (34, [], [54]), (35, [], [54, 2]), (36, [], [54, 3]), (37, [], [54]), (38, [], [54, 1, 2, 0]), (39, [], [54, 6]), (40, [], [54, 0, 6]), (41, [], [54, 8]), (42, [], [64])] [_, _, _, _, _, _, _, _, _, _, _, _, _, _, _, _, _, _, _, _, _, _, _, _, _, _, _, _, _, _, _, _, _, _, _, _, _, _, _, _, _, _, _]
  case' hm => exact dr
  case' hn => rfl
  case' hok => rfl
  case' hlen => rfl
  case' hd => rfl
  case' h0 => rfl
  case' hstep =>
   simp only [DAllG, push_cast, Option.isSome_some, Option.isSome_none]
   repeat' apply And.intro
   all_goals (apply DOne_V; simp only [push_cast, Nat.reduceAdd, Nat.reduceSub, Nat.reduceMul, Nat.reduceLT, Nat.reduceLeDiff, Nat.reduceEqDiff, Int.reduceToNat, ↓reduceIte, aT_check, aT_sizeI, aT_depthI, true_and, decide_true] <;> first | exact rfl | omega | exact ⟨rfl, rfl⟩ | exact trivial | exact ⟨by omega, rfl⟩ | exact ⟨by omega, by omega, rfl⟩ | exact ⟨by omega, rfl, rfl⟩ | exact ⟨by omega, by omega, rfl, rfl⟩ | exact (check_ac aT aT_bulk _).to ⟨rfl, rfl⟩ | exact (size_ac aT (Nat.le_trans aT_bulk (by decide)) _).to ⟨rfl, rfl⟩ | exact (depth_ac aT (Nat.le_trans aT_bulk (by decide)) _).to ⟨rfl, rfl⟩ | exact (sameA_ac _).to ⟨rfl, rfl⟩ | exact (variable_ac _ _).to ⟨rfl, rfl⟩ | exact (cG_ac _).to ⟨rfl, rfl⟩ | exact (cF_ac _).to ⟨rfl, rfl⟩ | exact (equalC_ac _).to ⟨rfl, rfl⟩)
  case' hQ => skip
  simp only [push_cast, Nat.reduceAdd, Nat.reduceSub, Nat.reduceMul, Nat.reduceLT, Nat.reduceLeDiff, Nat.reduceEqDiff, Int.reduceToNat, ↓reduceIte]
end Ab
namespace Ab
open Go Go.Proofs
def insAt (l : List (List UInt8)) (s : List UInt8) : Nat := (l.takeWhile fun x => decide (Lib.compareBytes x s < 0)).length
def insertP (l : List (List UInt8)) (s : List UInt8) : List (List UInt8) := if l[insAt l s]? = some s then l else l.take (insAt l s) ++ [s] ++ l.drop (insAt l s)
theorem insertP_length (l : List (List UInt8)) (s : List UInt8) : (insertP l s).length ≤ l.length + 1 := by
  unfold insertP
  split
  · omega
  · simp; omega
theorem mem_insertP (l : List (List UInt8)) (s v : List UInt8) : v ∈ insertP l s ↔ v ∈ l ∨ v = s := by
  unfold insertP
  split
  · rename_i h
    have := List.mem_of_getElem? h
    constructor
    · exact .inl
    · rintro (h | rfl)
      · exact h
      · exact this
  · conv => rhs; rw [← List.take_append_drop (insAt l s) l]
    simp only [List.mem_append, List.mem_singleton]
    constructor
    · rintro ((h | h) | h)
      · exact .inl (.inl h)
      · exact .inr h
      · exact .inl (.inr h)
    · rintro ((h | h) | h)
      · exact .inl (.inl h)
      · exact .inr h
      · exact .inl (.inr h)
def imageP (σ : List (List UInt8 × Term)) (v : List UInt8) : Term := ((σ.find? fun b => decide (b.1 = v)).map (·.2)).getD (.mk v true [])
def applyP (σ : List (List UInt8 × Term)) : Term → Term
  | .mk n u xs => if u then imageP σ n else .mk n false (xs.map (applyP σ))
theorem applyP_mk (σ : List (List UInt8 × Term)) (n : List UInt8) (u : Bool) (xs : List Term) : applyP σ (.mk n u xs) = if u then imageP σ n else .mk n false (xs.map (applyP σ)) := by simp [applyP]
def firstP : Term → List (List UInt8) → List (List UInt8)
  | .mk n u xs, l => if u then (if n ∈ l then l else l ++ [n]) else (xs.map firstP).foldl (fun l f => f l) l
def firstL (xs : List Term) (l : List (List UInt8)) : List (List UInt8) := xs.foldl (fun l t => firstP t l) l
theorem firstP_mk (n : List UInt8) (u : Bool) (xs : List Term) (l : List (List UInt8)) : firstP (.mk n u xs) l = if u then (if n ∈ l then l else l ++ [n]) else firstL xs l := by simp [firstP, firstL, List.foldl_map]
theorem firstL_cons (x : Term) (xs : List Term) (l : List (List UInt8)) : firstL (x :: xs) l = firstL xs (firstP x l) := rfl
theorem firstL_take (xs : List Term) (l : List (List UInt8)) (i : Nat) (h : i < xs.length) : firstL (xs.take (i + 1)) l = firstP xs[i] (firstL (xs.take i) l) := by
  unfold firstL; rw [List.take_succ_eq_append_getElem h, List.foldl_append]; rfl
theorem firstP_len (t : Term) : ∀ l, (firstP t l).length ≤ l.length + t.size := by
  induction t using Term.ind with | _ n v xs ih
  intro l
  rw [firstP_mk, Term.size_mk]
  cases v with
  | true => simp only [if_true]; split <;> simp <;> omega
  | false =>
    simp only [Bool.false_eq_true, if_false]
    have : ∀ (ys : List Term), (∀ y, y ∈ ys → y ∈ xs) → ∀ l, (firstL ys l).length ≤ l.length + (ys.map Term.size).sum := by
      intro ys
      induction ys with
      | nil => intro _ l; simp [firstL]
      | cons y ys ih2 =>
        intro hy l
        have h1 := ih y (hy y (by simp)) l
        have h2 := ih2 (fun z hz => hy z (by simp [hz])) (firstP y l)
        rw [firstL_cons]; simp only [List.map_cons, List.sum_cons]; omega
    have := this xs (fun y hy => hy) l
    omega
theorem firstL_len : ∀ (ys : List Term) l, (firstL ys l).length ≤ l.length + (ys.map Term.size).sum
  | [], l => by simp [firstL]
  | y :: ys, l => by
    have h1 := firstP_len y l
    have h2 := firstL_len ys (firstP y l)
    rw [firstL_cons]; simp only [List.map_cons, List.sum_cons]; omega
theorem firstP_pre (t : Term) : ∀ l, l <+: firstP t l := by
  induction t using Term.ind with | _ n v xs ih
  intro l
  rw [firstP_mk]
  cases v with
  | true => simp only [if_true]; split; exact List.prefix_refl _; exact List.prefix_append _ _
  | false =>
    simp only [Bool.false_eq_true, if_false]
    have : ∀ (ys : List Term), (∀ y, y ∈ ys → y ∈ xs) → ∀ l, l <+: firstL ys l := by
      intro ys
      induction ys with
      | nil => intro _ l; exact List.prefix_refl _
      | cons y ys ih2 => intro hy l; rw [firstL_cons]; exact (ih y (hy y (by simp)) l).trans (ih2 (fun z hz => hy z (by simp [hz])) _)
    exact this xs (fun y hy => hy) l
theorem firstL_pre : ∀ (ys : List Term) l, l <+: firstL ys l
  | [], l => List.prefix_refl _
  | y :: ys, l => by rw [firstL_cons]; exact (firstP_pre y l).trans (firstL_pre ys _)
theorem idx_pre {l L : List (List UInt8)} (h : l <+: L) {v : List UInt8} (hv : v ∈ l) : L.idxOf v = l.idxOf v := by
  obtain ⟨M, rfl⟩ := h
  rw [List.idxOf_append, if_pos hv]
def mapV (f : List UInt8 → List UInt8) : Term → Term
  | .mk n u xs => if u then .mk (f n) true [] else .mk n false (xs.map (mapV f))
theorem mapV_mk (f : List UInt8 → List UInt8) (n : List UInt8) (u : Bool) (xs : List Term) : mapV f (.mk n u xs) = if u then .mk (f n) true [] else .mk n false (xs.map (mapV f)) := by simp [mapV]
theorem ren_first (t : Term) : ∀ l, (renP stdF l t).1 = firstP t l := by
  induction t using Term.ind with | _ n v xs ih
  intro l
  rw [firstP_mk]
  cases v with
  | true => simp only [renP, if_true, stdF]; split <;> rfl
  | false =>
    simp only [renP, Bool.false_eq_true, if_false]
    have : ∀ (ys : List Term), (∀ y, y ∈ ys → y ∈ xs) → ∀ l, (renL stdF l ys).1 = firstL ys l := by
      intro ys
      induction ys with
      | nil => intro _ l; simp [renL, firstL]
      | cons y ys ih2 => intro hy l; rw [renL_cons, firstL_cons, ih2 (fun z hz => hy z (by simp [hz])), ih y (hy y (by simp))]
    exact this xs (fun y hy => hy) l
theorem ren_map (t : Term) : ∀ l L, firstP t l <+: L → (renP stdF l t).2 = mapV (fun v => xName (L.idxOf v)) t := by
  induction t using Term.ind with | _ n v xs ih
  intro l L hL
  rw [mapV_mk]
  rw [firstP_mk] at hL
  cases v with
  | true =>
    simp only [if_true] at hL ⊢
    simp only [renP, if_true, stdF]
    split at hL
    · rename_i hn; rw [if_pos hn, idx_pre hL hn]
    · rename_i hn
      rw [if_neg hn, idx_pre hL (by simp)]
      congr 2
      rw [List.idxOf_append]; simp [hn]
  | false =>
    simp only [Bool.false_eq_true, if_false] at hL ⊢
    simp only [renP, Bool.false_eq_true, if_false]
    congr 1
    have : ∀ (ys : List Term), (∀ y, y ∈ ys → y ∈ xs) → ∀ l, firstL ys l <+: L → (renL stdF l ys).2 = ys.map (mapV fun v => xName (L.idxOf v)) := by
      intro ys
      induction ys with
      | nil => intro _ l _; simp [renL]
      | cons y ys ih2 =>
        intro hy l hl
        rw [firstL_cons] at hl
        rw [renL_cons, ren_first, List.map_cons]
        simp only
        rw [ih y (hy y (by simp)) l L ((firstL_pre ys _).trans hl), ih2 (fun z hz => hy z (by simp [hz])) _ hl]
    exact this xs (fun y hy => hy) l hL
theorem mapV_congr {f g : List UInt8 → List UInt8} (t : Term) : ∀ l, (∀ v, v ∈ firstP t l → f v = g v) → mapV f t = mapV g t := by
  induction t using Term.ind with | _ n v xs ih
  intro l h
  rw [mapV_mk, mapV_mk]
  rw [firstP_mk] at h
  cases v with
  | true =>
    simp only [if_true] at h ⊢
    rw [h n (by split <;> simp_all)]
  | false =>
    simp only [Bool.false_eq_true, if_false] at h ⊢
    congr 1
    have : ∀ (ys : List Term), (∀ y, y ∈ ys → y ∈ xs) → ∀ l, (∀ v, v ∈ firstL ys l → f v = g v) → ys.map (mapV f) = ys.map (mapV g) := by
      intro ys
      induction ys with
      | nil => intro _ l _; rfl
      | cons y ys ih2 =>
        intro hy l hl
        rw [firstL_cons] at hl
        rw [List.map_cons, List.map_cons, ih y (hy y (by simp)) l (fun v hv => hl v ((firstL_pre ys _).subset hv)), ih2 (fun z hz => hy z (by simp [hz])) _ hl]
    exact this xs (fun y hy => hy) l h
theorem mapV_comp (f g : List UInt8 → List UInt8) (t : Term) : mapV g (mapV f t) = mapV (fun v => g (f v)) t := by
  induction t using Term.ind with | _ n v xs ih
  rw [mapV_mk f, mapV_mk (fun v => g (f v))]
  cases v with
  | true => simp [mapV_mk]
  | false =>
    simp only [Bool.false_eq_true, if_false, mapV_mk, List.map_map]
    congr 1
    apply List.map_congr_left
    intro x hx
    exact ih x hx
theorem first_map {f : List UInt8 → List UInt8} (t : Term) : ∀ l, (∀ a b, a ∈ firstP t l → b ∈ firstP t l → f a = f b → a = b) → firstP (mapV f t) (l.map f) = (firstP t l).map f := by
  induction t using Term.ind with | _ n v xs ih
  intro l h
  rw [mapV_mk]
  rw [firstP_mk] at h ⊢
  cases v with
  | true =>
    simp only [if_true] at h ⊢
    rw [firstP_mk]
    simp only [if_true]
    by_cases hn : n ∈ l
    · rw [if_pos hn] at h ⊢
      rw [if_pos (List.mem_map_of_mem hn)]
    · rw [if_neg hn] at h ⊢
      rw [if_neg]
      · simp
      · intro hm
        obtain ⟨a, ha, he⟩ := List.mem_map.1 hm
        have := h a n (by simp [ha]) (by simp) he
        exact hn (this ▸ ha)
  | false =>
    simp only [Bool.false_eq_true, if_false] at h ⊢
    rw [firstP_mk]
    simp only [Bool.false_eq_true, if_false]
    have : ∀ (ys : List Term), (∀ y, y ∈ ys → y ∈ xs) → ∀ l, (∀ a b, a ∈ firstL ys l → b ∈ firstL ys l → f a = f b → a = b) → firstL (ys.map (mapV f)) (l.map f) = (firstL ys l).map f := by
      intro ys
      induction ys with
      | nil => intro _ l _; rfl
      | cons y ys ih2 =>
        intro hy l hl
        rw [firstL_cons] at hl
        have hp := firstL_pre ys (firstP y l)
        rw [List.map_cons, firstL_cons, firstL_cons, ih y (hy y (by simp)) l (fun a b ha hb => hl a b (hp.subset ha) (hp.subset hb)), ih2 (fun z hz => hy z (by simp [hz])) _ hl]
    exact this xs (fun y hy => hy) l h
theorem idx_map {f : List UInt8 → List UInt8} : ∀ (L : List (List UInt8)), (∀ a b, a ∈ L → b ∈ L → f a = f b → a = b) → ∀ v, v ∈ L → (L.map f).idxOf (f v) = L.idxOf v
  | [], _, v, h => by cases h
  | a :: L, hi, v, h => by
    rw [List.map_cons, List.idxOf_cons, List.idxOf_cons]
    by_cases e : a = v
    · subst e; simp
    · have e2 : ¬ f a = f v := fun q => e (hi a v (by simp) h q)
      have hv : v ∈ L := by rcases List.mem_cons.1 h with h | h; exact absurd h.symm e; exact h
      have b1 : (f a == f v) = false := by simp [e2]
      have b2 : (a == v) = false := by simp [e]
      rw [b1, b2]
      simp only [cond_false]
      rw [idx_map L (fun x y hx hy => hi x y (by simp [hx]) (by simp [hy])) v hv]
def decVal (l : List UInt8) : Nat := l.foldl (fun a b => a * 10 + (b.toNat - 48)) 0
theorem decVal_snoc (l : List UInt8) (d : Nat) (h : d < 10) : decVal (l ++ [UInt8.ofNat (48 + d)]) = decVal l * 10 + d := by
  unfold decVal
  rw [List.foldl_append]
  simp only [List.foldl_cons, List.foldl_nil]
  have : (UInt8.ofNat (48 + d)).toNat = 48 + d := by rw [UInt8.toNat_ofNat']; omega
  rw [this]; omega
theorem decVal_dec (n : Nat) : decVal (Lib.decDigits n) = n := by
  induction n using Nat.strongRecOn with | ind n ih
  rw [Lib.decDigits]
  split
  · rename_i h
    have := decVal_snoc [] n h
    rw [List.nil_append] at this
    rw [this]; simp [decVal]
  · rw [decVal_snoc _ _ (by omega), ih _ (by omega)]; omega
theorem xName_inj {i j : Nat} (h : xName i = xName j) : i = j := by
  unfold xName at h
  injection h with _ h
  rw [← decVal_dec i, ← decVal_dec j, h]
theorem dec_len : ∀ (k n : Nat), n < 10 ^ (k + 1) → (Lib.decDigits n).length ≤ k + 1
  | 0, n, h => by rw [Lib.decDigits, dif_pos (by simpa using h)]; simp
  | k + 1, n, h => by
    rw [Lib.decDigits]
    split
    · simp
    · have := dec_len k (n / 10) (by rw [Nat.pow_succ] at h; omega)
      simp; omega
theorem dec_in (n : Nat) : ∀ c, c ∈ Lib.decDigits n → inNameB c = true := by
  have key : ∀ d, d < 10 → inNameB (UInt8.ofNat (48 + d)) = true := by decide +kernel
  induction n using Nat.strongRecOn with | ind n ih
  rw [Lib.decDigits]
  split
  · rename_i h; intro c hc; rw [List.mem_singleton] at hc; subst hc; exact key n h
  · intro c hc
    rcases List.mem_append.1 hc with hc | hc
    · exact ih _ (by omega) c hc
    · rw [List.mem_singleton] at hc; subst hc; exact key _ (by omega)
theorem xName_ok (i : Nat) (h : i < 10000) : isNameP (xName i) false = true := by
  have h1 := dec_len 3 i (by omega)
  have h2 := dec_in i
  unfold isNameP xName
  simp only [Bool.false_eq_true, if_false, List.length_cons, Bool.and_eq_true, decide_eq_true_eq, ne_eq, reduceCtorEq, not_false_eq_true, decide_true, true_and, Bool.not_eq_true', List.any_eq_false]
  refine ⟨by omega, fun c hc => ?_⟩
  rcases List.mem_cons.1 hc with rfl | hc
  · decide
  · simp [h2 c hc]
def canF (t : Term) (v : List UInt8) : List UInt8 := xName ((firstP t []).idxOf v)
theorem canon_map (t : Term) : canonP t = mapV (canF t) t := ren_map t [] _ (List.prefix_refl _)
theorem canF_inj (t : Term) : ∀ a b, a ∈ firstP t [] → b ∈ firstP t [] → canF t a = canF t b → a = b := by
  intro a b ha hb h
  have := xName_inj h
  have h1 := List.getElem_idxOf (List.idxOf_lt_length_of_mem ha)
  have h2 := List.getElem_idxOf (List.idxOf_lt_length_of_mem hb)
  rw [← h1, ← h2]; simp only [this]
theorem canon_first (t : Term) : firstP (canonP t) [] = (firstP t []).map (canF t) := by
  rw [canon_map]; exact first_map t [] (canF_inj t)
theorem canon_len (t : Term) : (firstP (canonP t) []).length = (firstP t []).length := by rw [canon_first, List.length_map]
theorem canon_canon (t : Term) : canonP (canonP t) = canonP t := by
  have h : canonP (canonP t) = mapV (canF (canonP t)) (canonP t) := canon_map _
  rw [h]
  conv => lhs; rw [canon_map t]
  rw [mapV_comp, canon_map t]
  refine mapV_congr t [] (fun v hv => ?_)
  show xName ((firstP (mapV (canF t) t) []).idxOf (canF t v)) = _
  rw [← canon_map, canon_first, idx_map _ (canF_inj t) v hv]; rfl
theorem map_sizes (f : List UInt8 → List UInt8) (t : Term) : formedP t = true → (mapV f t).size = t.size ∧ (mapV f t).depth = t.depth := by
  induction t using Term.ind with | _ n v xs ih
  intro h
  rw [mapV_mk]
  rw [formedP_mk] at h
  cases v with
  | true =>
    simp only [if_true, Bool.and_eq_true, decide_eq_true_eq] at h ⊢
    have hx := List.eq_nil_of_length_eq_zero h.1
    subst hx
    exact ⟨by rw [Term.size_mk, Term.size_mk], by rw [Term.depth_mk, Term.depth_mk]⟩
  | false =>
    simp only [Bool.false_eq_true, if_false, Bool.and_eq_true, List.all_eq_true] at h ⊢
    have e1 : (xs.map (mapV f)).map Term.size = xs.map Term.size := by rw [List.map_map]; exact List.map_congr_left (fun x hx => (ih x hx (h.2 x hx)).1)
    have e2 : (xs.map (mapV f)).map Term.depth = xs.map Term.depth := by rw [List.map_map]; exact List.map_congr_left (fun x hx => (ih x hx (h.2 x hx)).2)
    exact ⟨by rw [Term.size_mk, Term.size_mk, e1], by rw [Term.depth_mk, Term.depth_mk, e2]⟩
theorem map_formed {f : List UInt8 → List UInt8} (t : Term) : ∀ l, (∀ v, v ∈ firstP t l → isNameP (f v) false = true) → formedP t = true → formedP (mapV f t) = true := by
  induction t using Term.ind with | _ n v xs ih
  intro l h hf
  rw [mapV_mk]
  rw [firstP_mk] at h
  rw [formedP_mk] at hf
  cases v with
  | true =>
    simp only [if_true] at h ⊢
    rw [formedP_mk]; simp [h n (by split <;> simp_all)]
  | false =>
    simp only [Bool.false_eq_true, if_false, Bool.and_eq_true, decide_eq_true_eq, List.all_eq_true] at h hf ⊢
    rw [formedP_mk]
    simp only [Bool.false_eq_true, if_false, Bool.and_eq_true, decide_eq_true_eq, List.all_eq_true, List.length_map]
    refine ⟨hf.1, ?_⟩
    have : ∀ (ys : List Term), (∀ y, y ∈ ys → y ∈ xs) → ∀ l, (∀ v, v ∈ firstL ys l → isNameP (f v) false = true) → ∀ y, y ∈ ys.map (mapV f) → formedP y = true := by
      intro ys
      induction ys with
      | nil => intro _ l _ y hy; cases hy
      | cons z ys ih2 =>
        intro hy l hl y hyy
        rw [firstL_cons] at hl
        rcases List.mem_cons.1 hyy with rfl | hyy
        · exact ih z (hy z (by simp)) l (fun v hv => hl v ((firstL_pre ys _).subset hv)) (hf.2 z (hy z (by simp)))
        · exact ih2 (fun z hz => hy z (by simp [hz])) _ hl y hyy
    exact this xs (fun y hy => hy) l h
theorem canon_check {t : Term} (h : checkP t = 0) : checkP (canonP t) = 0 := by
  rw [checkP_iff] at h ⊢
  obtain ⟨h1, h2⟩ := h
  have hs := map_sizes (canF t) t h1
  have hl := firstP_len t []
  rw [canon_map]
  unfold fitsP at h2 ⊢
  rw [hs.1, hs.2]
  refine ⟨map_formed t [] (fun v hv => xName_ok _ ?_) h1, h2⟩
  have := List.idxOf_lt_length_of_mem hv
  simp at h2 hl; omega
theorem bulk_le (t : Term) : formedP t = true → t.bulk ≤ 26 * t.size := by
  induction t using Term.ind with | _ n v xs ih
  intro h
  rw [formedP_mk] at h
  have hn : n.length ≤ 24 := by
    cases v <;> simp [isNameP] at h
    · exact h.1.2.1
    · exact h.2.1
  rw [Term.bulk_mk, Term.size_mk]
  have : ∀ ys : List Term, (∀ y, y ∈ ys → formedP y = true ∧ y ∈ xs) → (ys.map Term.bulk).sum ≤ 26 * (ys.map Term.size).sum := by
    intro ys
    induction ys with
    | nil => intro _; simp
    | cons y ys ih2 =>
      intro hy
      have h1 := ih y (hy y (by simp)).2 (hy y (by simp)).1
      have h2 := ih2 (fun z hz => hy z (by simp [hz]))
      simp only [List.map_cons, List.sum_cons]; omega
  have := this xs (fun y hy => ⟨by
    cases v with
    | true => simp at h; rw [h.1] at hy; cases hy
    | false => simp at h; exact h.2 y hy, hy⟩)
  omega
theorem check_bulk {t : Term} (h : checkP t = 0) : t.bulk ≤ 104000 ∧ t.size ≤ 4000 := by
  rw [checkP_iff] at h
  have := bulk_le t h.1
  have h2 := h.2
  simp [fitsP] at h2
  omega
def sortedP (l : List (List UInt8)) : List (List UInt8) := l.foldl insertP []
theorem mem_sortedP (l : List (List UInt8)) (v : List UInt8) : v ∈ sortedP l ↔ v ∈ l := by
  have : ∀ (l m : List (List UInt8)), v ∈ l.foldl insertP m ↔ v ∈ m ∨ v ∈ l := by
    intro l
    induction l with
    | nil => intro m; simp
    | cons a l ih => intro m; rw [List.foldl_cons, ih, mem_insertP]; simp [or_assoc]
  simpa [sortedP] using this l []
def rowsFor (pre : List UInt8) (l : List (List UInt8)) (v : List UInt8) : List (List UInt8 × Term) := (l.zipIdx.filter fun q => decide (q.1 = v)).map fun q => (v, .mk (pre ++ Lib.decDigits q.2) true [])
def renamingP (pre : List UInt8) (l : List (List UInt8)) : List (List UInt8 × Term) := (sortedP l).flatMap (rowsFor pre l)
theorem rows_head (l : List (List UInt8)) (v : List UInt8) (h : v ∈ l) : ∀ k, ((l.zipIdx k).filter fun q => decide (q.1 = v)).head? = some (v, k + l.idxOf v) := by
  induction l with
  | nil => cases h
  | cons a l ih =>
    intro k
    rw [List.zipIdx_cons, List.filter_cons, List.idxOf_cons]
    by_cases e : a = v
    · subst e; simp
    · have hv : v ∈ l := by rcases List.mem_cons.1 h with h | h; exact absurd h.symm e; exact h
      have b2 : (a == v) = false := by simp [e]
      simp only [e, decide_false, Bool.false_eq_true, if_false, b2, cond_false]
      rw [ih hv (k + 1)]; congr 2; omega
theorem image_renaming (l : List (List UInt8)) (v : List UInt8) (h : v ∈ l) : imageP (renamingP [120] l) v = .mk (xName (l.idxOf v)) true [] := by
  have hg : ∀ w, (rowsFor [120] l w).find? (fun b => decide (b.1 = v)) = if w = v then some (v, .mk (xName (l.idxOf v)) true []) else none := by
    intro w
    by_cases e : w = v
    · subst e
      rw [if_pos rfl]
      have hh := rows_head l w h 0
      rw [Nat.zero_add] at hh
      unfold rowsFor
      cases hq : l.zipIdx.filter fun q => decide (q.1 = w) with
      | nil => rw [hq] at hh; cases hh
      | cons q qs =>
        rw [hq] at hh
        simp only [List.head?_cons, Option.some.injEq] at hh
        rw [List.map_cons, hh, List.find?_cons_of_pos (by simp)]; rfl
    · rw [if_neg e, List.find?_eq_none]
      intro x hx
      unfold rowsFor at hx
      simp only [List.mem_map] at hx
      obtain ⟨q, _, rfl⟩ := hx
      simpa using e
  unfold imageP renamingP
  rw [List.find?_flatMap]
  have : ∀ S : List (List UInt8), v ∈ S → (S.findSome? fun w => (rowsFor [120] l w).find? fun b => decide (b.1 = v)) = some (v, .mk (xName (l.idxOf v)) true []) := by
    intro S
    induction S with
    | nil => intro h; cases h
    | cons w S ih =>
      intro h
      rw [List.findSome?_cons, hg]
      by_cases e : w = v
      · rw [if_pos e]
      · rw [if_neg e]
        exact ih (by rcases List.mem_cons.1 h with h | h; exact absurd h.symm e; exact h)
  rw [this _ ((mem_sortedP l v).2 h)]; rfl
theorem apply_map {f : List UInt8 → List UInt8} {σ : List (List UInt8 × Term)} (t : Term) : ∀ l, (∀ v, v ∈ firstP t l → imageP σ v = .mk (f v) true []) → applyP σ t = mapV f t := by
  induction t using Term.ind with | _ n v xs ih
  intro l h
  rw [mapV_mk, applyP_mk]
  rw [firstP_mk] at h
  cases v with
  | true =>
    simp only [if_true] at h ⊢
    exact h n (by split <;> simp_all)
  | false =>
    simp only [Bool.false_eq_true, if_false] at h ⊢
    congr 1
    have : ∀ (ys : List Term), (∀ y, y ∈ ys → y ∈ xs) → ∀ l, (∀ v, v ∈ firstL ys l → imageP σ v = .mk (f v) true []) → ys.map (applyP σ) = ys.map (mapV f) := by
      intro ys
      induction ys with
      | nil => intro _ l _; rfl
      | cons y ys ih2 =>
        intro hy l hl
        rw [firstL_cons] at hl
        rw [List.map_cons, List.map_cons, ih y (hy y (by simp)) l (fun v hv => hl v ((firstL_pre ys _).subset hv)), ih2 (fun z hz => hy z (by simp [hz])) _ hl]
    exact this xs (fun y hy => hy) l h
theorem canon_apply (t : Term) : applyP (renamingP [120] (firstP t [])) t = canonP t := by
  rw [canon_map]
  exact apply_map t [] (fun v hv => image_renaming _ v hv)
end Ab
set_option maxRecDepth 10000
namespace Ab
open Go Go.Proofs
@[reducible] def encN (l : List (List UInt8)) : List AV := encL AV.str l
theorem uniN (l : List (List UInt8)) : Uni (0 + 1) (encN l) = True := eq_true (uni_encL (enc := AV.str) (k := 1) (fun _ => rfl) l)
theorem scN_ (n : Nat) (l : List (List UInt8)) : ScopedL n (encN l) = True := eq_true (scoped_encL (fun x => by simp [Scoped]) l)
theorem strip_encN (n : Nat) (l : List (List UInt8)) : stripL n (encN l) = encN l := by rw [stripL_eq]; simp [encN, encL, strip]
attribute [push_cast] uniN scN_ strip_encN
@[reducible] def encBd (b : List UInt8 × Term) : AV := .agg [.str b.1, .str b.2.name, .bool b.2.var, .sl .none (encTs b.2.args)]
theorem uniS (l : List (List UInt8 × Term)) : Uni (3 + 1) (encL encBd l) = True := eq_true (uni_encL (enc := encBd) (k := 4) (fun _ => rfl) l)
theorem scS_ (n : Nat) (l : List (List UInt8 × Term)) : ScopedL n (encL encBd l) = True := eq_true (scoped_encL (fun x => by simp [Scoped, ScopedL, scoped_encTs]) l)
theorem cellBd : ∀ (x : List UInt8 × Term) c, c ∈ (encBd x).cells → c.isCell = true := by
  intro x c hc; simp [AV.cells] at hc; rcases hc with rfl | rfl | rfl | rfl <;> rfl
attribute [push_cast] uniS scS_
theorem cellN : ∀ (x : List UInt8) c, c ∈ (AV.str x).cells → c.isCell = true := by intro x c hc; simp [AV.cells] at hc; subst hc; rfl
section
variable {P : Program} {ro : Option Nat} {st : ASt} {dst : Option Tmp} {ty : TypeId} {pos : String} {after : Array Edge} {guard : Option (Nat × Bool)} {K : AV → List AObj → Prop}
theorem AOp_convert_str {t t' e : TypeId} {x : Operand} (s : List UInt8) (tk : Tok) (hx : st.opd x = .sl tk (encB s)) (hne : s ≠ []) (hd : SliceT P t e) (he : P.underlying e = some (.int .u8)) (ht : P.underlying t' = some .string)
    (k : K (.str s) st.heap) : AOp P ro ⟨dst, .convert t t' x, ty, pos, after, guard⟩ K st :=
  AOp_pure _ (fun c => by simp) (fun C a _ _ hsr => by
    have hv := hsr.opd x
    rw [hx] at hv
    obtain ⟨ad, c, e1, hc, _, news, hnl, hnrel, hncell⟩ := sl_values hv
    have hflat : flat (encB s) = encB s := flat_cells _ (fun v hv => by simp [encB] at hv; obtain ⟨b, _, rfl⟩ := hv; rfl)
    have hlen : (encB s).length = s.length := encB_length s
    obtain ⟨b, o, rfl, hcell⟩ := hncell (by rw [hflat]; intro h; have := congrArg List.length h; rw [hlen] at this; exact hne (List.eq_nil_of_length_eq_zero this))
    have hd' : P.underlying t = some (.slice e) := hd
    have hrun := run_convert_bytes_back (P := P) C.w t t' e ⟨b, o, none⟩ c s hd' he ht (fun j hj => by
      have hj1 : j < (flat (encB s)).length := by rw [hflat, hlen]; exact hj
      have hj2 : j < news.length := by omega
      have h1 := hnrel j hj1 hj2
      have h2 := hcell j news[j] (List.getElem?_eq_getElem hj2)
      rw [h2]
      have e3 : (flat (encB s))[j] = .int .u8 s[j].toNat := by simp only [hflat]; rw [encB_get]
      rw [e3] at h1
      rw [h1.int_inv])
    refine ⟨_, ?_, .str s⟩
    rw [← hlen] at hrun
    simp only [execOp, e1, Sem.run_bind, hrun, Result.andThen_ok]; rfl) k
end
theorem has_ac (l : List (List UInt8)) (s : List UInt8) (hlen : l.length < 1099511627776) (H : List AObj) : ACall Tryd.prog 93 [.sl .none (encN l), .str s] H (fun r H' => r = .bool (decide (s ∈ l)) ∧ H' = H) := by
  refine ACall_V (H.length) 15 [.tmp 4] Tryd.func93 rfl rfl rfl ?_
  simp only [push_cast, Nat.reduceAdd, Nat.reduceSub, Nat.reduceMul, Nat.reduceLT, Nat.reduceLeDiff, Nat.reduceEqDiff, Int.reduceToNat, ↓reduceIte]
  refine AW_loopW (maskG 17 [1, 5, 0, 0]) (fun (i : Nat) => [(9, .int .i64 i)]) (fun _ => H) (fun i => i ≤ l.length ∧ s ∉ l.take i) (fun i => l.length - i) 0 ⟨Nat.zero_le _, by simp⟩ (by simp only [push_cast, Nat.reduceAdd, Nat.reduceSub, Nat.reduceMul, Nat.reduceLT, Nat.reduceLeDiff, Nat.reduceEqDiff, Int.reduceToNat, ↓reduceIte]) (fun i hi => ?_)
  simp only [push_cast, Nat.reduceAdd, Nat.reduceSub, Nat.reduceMul, Nat.reduceLT, Nat.reduceLeDiff, Nat.reduceEqDiff, Int.reduceToNat, ↓reduceIte]
  refine cI (fun h => ?_) (fun h => ?_)
  · repeat refine ⟨by omega, ?_⟩
    have hil : i < l.length := by omega
    refine cI (fun he => ?_) (fun he => ?_)
    · have : s ∈ l := by rw [← he]; exact List.getElem_mem hil
      simp [this]
    · repeat' first | refine ⟨by omega, ?_⟩ | refine cI (fun _ => ?_) (fun _ => ?_)
      refine loopW_n (i + 1) ⟨by omega, ?_⟩ (by omega) (by simp only [push_cast, Nat.reduceAdd, Nat.reduceSub, Nat.reduceMul, Nat.reduceLT, Nat.reduceLeDiff, Nat.reduceEqDiff, Int.reduceToNat, ↓reduceIte])
      rw [List.take_succ_eq_append_getElem hil]
      intro hm
      rcases List.mem_append.1 hm with hm | hm
      · exact hi.2 hm
      · exact he (List.mem_singleton.1 hm).symm
  · have := hi.2
    rw [List.take_of_length_le (show l.length ≤ i by omega)] at this
    simp [this]
theorem firstL_nil (l : List (List UInt8)) : firstL [] l = l := (rfl)
theorem first_ac (t : Term) : ∀ l : List (List UInt8), t.bulk ≤ 1099511627775 → l.length + t.size ≤ 1099511627775 → ∀ H, ACall Tryd.prog 53 [encT t, .sl .none (encN l)] H (fun r H' => r = .sl .none (encN (firstP t l)) ∧ H' = H) := by
  induction t using Term.ind with | _ n v xs ih
  intro l hb hl H
  have hsz := (Term.mk n v xs).size_le
  have hlen := Term.len_le (n := n) (v := v) (xs := xs)
  rw [Term.size_mk] at hl
  rw [firstP_mk]
  refine ACall_VA (H.length) 32 [.tmp 4] Tryd.func53 rfl rfl rfl ?_
  refine AW_seq (AW_of_W ?_)
  simp only [push_cast, Nat.reduceAdd, Nat.reduceSub, Nat.reduceMul, Nat.reduceLT, Nat.reduceLeDiff, Nat.reduceEqDiff, Int.reduceToNat, ↓reduceIte]
  refine AW_reserve 1 ?_
  refine AW_of_W ?_
  simp only [push_cast, Nat.reduceAdd, Nat.reduceSub, Nat.reduceMul, Nat.reduceLT, Nat.reduceLeDiff, Nat.reduceEqDiff, Int.reduceToNat, ↓reduceIte]
  refine cI (fun h => ?_) (fun h => ?_)
  · refine (has_ac l n (by omega) _).to ?_
    simp only [push_cast, Nat.reduceAdd, Nat.reduceSub, Nat.reduceMul, Nat.reduceLT, Nat.reduceLeDiff, Nat.reduceEqDiff, Int.reduceToNat, ↓reduceIte]
    refine cI (fun hn => ?_) (fun hn => ?_)
    · simp [h, hn]
    · skip
      apply AW_drawO [[], [1], [], [], [], [], [], []] [some 14, some 15, some 16, some 17, some 18, some 19, some 20, some 1] [([false, false], _), ([true, false], _), ([true, true], _)] [none, none, some 0, none, none, none, some 1, none] 2 [(0, [false, false], []), (1, [false, false], [1]), (2, [false, false], [14, 0]), (3, [true, false], [2]), (4, [true, false], [17]), (5, [true, false], [18]), (6, [true, false], [16, 2]), (7, [true, true], [20]), (3, [false, false], [2]), (3, [true, true], [2]), (4, [false, false], [17]), (4, [true, true], [17]), (5, [false, false], [18])] [_, _, _, _, _, _, _, _]
      case' hm => exact dr
      case' hn => rfl
      case' hok => rfl
      case' hlen => rfl
      case' hd => rfl
      case' h0 => rfl
      case' hstep =>
       simp only [DAllO, push_cast, Option.isSome_some, Option.isSome_none]
       repeat' apply And.intro
       all_goals (apply DOne_V; simp only [push_cast, Nat.reduceAdd, Nat.reduceSub, Nat.reduceMul, Nat.reduceLT, Nat.reduceLeDiff, Nat.reduceEqDiff, Int.reduceToNat, ↓reduceIte] <;> first | exact rfl | omega | exact ⟨rfl, rfl⟩ | exact trivial | exact ⟨by omega, rfl⟩ | exact ⟨by omega, by omega, rfl⟩ | exact ⟨by omega, rfl, rfl⟩ | exact ⟨by omega, by omega, rfl, rfl⟩ | (refine app_L AV.str (sz := 1) (fun _ => rfl) cellN _ (H.length + 1) [] l _ rfl rfl (by exact (agetN _ _ 1).trans rfl) sl53 sz9 by9 zr9 rfl (by decide) (by decide) (by simp; omega) ?_; simp only [push_cast, Nat.reduceAdd, Nat.reduceSub, Nat.reduceMul, Nat.reduceLT, Nat.reduceLeDiff, Nat.reduceEqDiff, Int.reduceToNat, ↓reduceIte, List.nil_append]; exact ⟨rfl, rfl⟩) | (refine app1_L AV.str (sz := 1) (fun _ => rfl) cellN _ (H.length + 1) l n _ rfl rfl (by exact (agetN _ _ 1).trans rfl) sl53 sz9 by9 zr9 rfl (by decide) (by decide) (by omega) ?_; simp only [push_cast, Nat.reduceAdd, Nat.reduceSub, Nat.reduceMul, Nat.reduceLT, Nat.reduceLeDiff, Nat.reduceEqDiff, Int.reduceToNat, ↓reduceIte]; exact ⟨rfl, rfl⟩))
      case' hQ => skip
      simp only [push_cast, Nat.reduceAdd, Nat.reduceSub, Nat.reduceMul, Nat.reduceLT, Nat.reduceLeDiff, Nat.reduceEqDiff, Int.reduceToNat, ↓reduceIte, h, hn]
  · have hv : v = false := by simpa using h
    subst hv
    refine AW_loopW (maskG 34 [1, 21, 0, 0]) (fun (i : Nat) => [(1, .sl .none (encN (firstL (xs.take i) l))), (25, .int .i64 i)]) (fun i => H ++ [.cells [.str n, .bool false, .sl .none (encTs xs)]]) (fun i => i ≤ xs.length) (fun i => xs.length - i) 0 (Nat.zero_le _) (by simp only [push_cast, Nat.reduceAdd, Nat.reduceSub, Nat.reduceMul, Nat.reduceLT, Nat.reduceLeDiff, Nat.reduceEqDiff, Int.reduceToNat, ↓reduceIte, List.take_zero, firstL_nil]) (fun i hi => ?_)
    simp only [push_cast, Nat.reduceAdd, Nat.reduceSub, Nat.reduceMul, Nat.reduceLT, Nat.reduceLeDiff, Nat.reduceEqDiff, Int.reduceToNat, ↓reduceIte]
    refine cI (fun h => ?_) (fun h => ?_)
    · repeat refine ⟨by omega, ?_⟩
      have hf1 := firstL_len (xs.take i) l
      have hf2 := take_sum Term.size xs i (by omega)
      have hf3 := take_sum_le Term.size xs (i + 1)
      refine (ih _ (List.getElem_mem (by omega)) _ (arg_bulk hb i (by omega)) (by omega) _).to ?_
      simp only [push_cast, Nat.reduceAdd, Nat.reduceSub, Nat.reduceMul, Nat.reduceLT, Nat.reduceLeDiff, Nat.reduceEqDiff, Int.reduceToNat, ↓reduceIte]
      repeat' first | refine ⟨by omega, ?_⟩ | refine cI (fun _ => ?_) (fun _ => ?_)
      refine loopW_n (i + 1) (by omega) (by omega) ?_
      rw [firstL_take xs l i (by omega)]
      simp only [push_cast, Nat.reduceAdd, Nat.reduceSub, Nat.reduceMul, Nat.reduceLT, Nat.reduceLeDiff, Nat.reduceEqDiff, Int.reduceToNat, ↓reduceIte]
    · simp only [push_cast, Nat.reduceAdd, Nat.reduceSub, Nat.reduceMul, Nat.reduceLT, Nat.reduceLeDiff, Nat.reduceEqDiff, Int.reduceToNat, ↓reduceIte, List.take_of_length_le (show xs.length ≤ i by omega)]
theorem insAt_eq (l : List (List UInt8)) (s : List UInt8) (i : Nat) (hi : i ≤ l.length) (h1 : ∀ j (h : j < l.length), j < i → Lib.compareBytes l[j] s < 0) (h2 : ∀ h : i < l.length, ¬ Lib.compareBytes l[i] s < 0) : insAt l s = i := by
  induction l generalizing i with
  | nil => simp at hi; simp [insAt, hi]
  | cons x l ih =>
    cases i with
    | zero =>
      have := h2 (by simp)
      simp only [List.getElem_cons_zero] at this
      simp [insAt, this]
    | succ i =>
      have h3 := h1 0 (by simp) (by omega)
      simp only [List.getElem_cons_zero] at h3
      have := ih i (by simpa using hi) (fun j h hj => by have := h1 (j + 1) (by simp; omega) (by omega); simpa only [List.getElem_cons_succ] using this) (fun h => by have := h2 (by simp; omega); simpa only [List.getElem_cons_succ] using this)
      unfold insAt at this ⊢
      simp [h3, this]
theorem insert_ac (l : List (List UInt8)) (s : List UInt8) (hlen : l.length < 1099511627775) (hnl : ∀ x, x ∈ l → x.length < 1099511627776) (hs : s.length < 1099511627776) (H : List AObj) :
    ACall Tryd.prog 89 [.sl .none (encN l), .str s] H (fun r H' => r = .sl .none (encN (insertP l s)) ∧ H' = H) := by
  refine ACall_VA (H.length) 44 [.tmp 4] Tryd.func89 rfl rfl rfl ?_
  refine AW_seq (AW_of_W ?_)
  simp only [push_cast, Nat.reduceAdd, Nat.reduceSub, Nat.reduceMul, Nat.reduceLT, Nat.reduceLeDiff, Nat.reduceEqDiff, Int.reduceToNat, ↓reduceIte]
  refine AW_reserve 1 ?_
  refine AW_of_W ?_
  simp only [push_cast, Nat.reduceAdd, Nat.reduceSub, Nat.reduceMul, Nat.reduceLT, Nat.reduceLeDiff, Nat.reduceEqDiff, Int.reduceToNat, ↓reduceIte]
  refine AW_loopW (maskG 46 [0, 0, 3]) (fun (i : Nat) => [(5, .int .i64 i)]) (fun _ => H ++ [.dead]) (fun i => i ≤ l.length ∧ ∀ j (h : j < l.length), j < i → Lib.compareBytes l[j] s < 0) (fun i => l.length - i) 0 ⟨Nat.zero_le _, fun j h1 h => by omega⟩ (by simp only [push_cast, Nat.reduceAdd, Nat.reduceSub, Nat.reduceMul, Nat.reduceLT, Nat.reduceLeDiff, Nat.reduceEqDiff, Int.reduceToNat, ↓reduceIte]) (fun i hi => ?_)
  simp only [push_cast, Nat.reduceAdd, Nat.reduceSub, Nat.reduceMul, Nat.reduceLT, Nat.reduceLeDiff, Nat.reduceEqDiff, Int.reduceToNat, ↓reduceIte]
  have hdr : List.take (l.length - i) (List.drop i l) = l.drop i := List.take_of_length_le (by simp)
  have hfin : (∀ h : i < l.length, ¬ Lib.compareBytes l[i] s < 0) → (∀ h : i < l.length, ¬ l[i] = s) → insertP l s = l.take i ++ ([s] ++ l.drop i) := by
    intro h1 h2
    have hia := insAt_eq l s i hi.1 hi.2 h1
    unfold insertP
    rw [hia, if_neg, List.append_assoc]
    intro hq
    have hlt := (List.getElem?_eq_some_iff.1 hq).1
    exact h2 hlt (List.getElem?_eq_some_iff.1 hq).2
  refine cI (fun h => ?_) (fun h => ?_)
  · have hil : i < l.length := by omega
    refine ⟨hil, ?_⟩
    refine (cmpNames_ac (l[i]'hil) s (hnl _ (List.getElem_mem hil)) hs _).to ?_
    simp only [push_cast, Nat.reduceAdd, Nat.reduceSub, Nat.reduceMul, Nat.reduceLT, Nat.reduceLeDiff, Nat.reduceEqDiff, Int.reduceToNat, ↓reduceIte]
    refine cI (fun hc => ?_) (fun hc => ?_)
    · repeat' first | refine ⟨by omega, ?_⟩ | refine cI (fun _ => ?_) (fun _ => ?_)
      refine loopW_n (i + 1) ⟨by omega, fun j h1 h => ?_⟩ (by omega) (by simp only [push_cast, Nat.reduceAdd, Nat.reduceSub, Nat.reduceMul, Nat.reduceLT, Nat.reduceLeDiff, Nat.reduceEqDiff, Int.reduceToNat, ↓reduceIte])
      rcases Nat.lt_or_ge j i with hj | hj
      · exact hi.2 j h1 hj
      · have hji : j = i := by omega
        subst hji; exact hc
    · refine cI (fun _ => ?_) (fun h => absurd hil (by omega))
      repeat refine ⟨by omega, ?_⟩
      refine cI (fun he => ?_) (fun he => ?_)
      · have hia := insAt_eq l s i hi.1 hi.2 (fun _ => hc)
        have hI : insertP l s = l := by unfold insertP; rw [hia, if_pos]; rw [List.getElem?_eq_getElem hil, he]
        simp only [push_cast, Nat.reduceAdd, Nat.reduceSub, Nat.reduceMul, Nat.reduceLT, Nat.reduceLeDiff, Nat.reduceEqDiff, Int.reduceToNat, ↓reduceIte, hI]
      · skip
        apply AW_drawE [some 34, some 35, some 36, some 37, some 38, some 39, some 40, some 41, some 42, some 43, some 44, some 45, some 4] [([false, false, false], _), ([true, false, false], _), ([true, true, false], _), ([true, true, true], _)] [none, none, none, none, some 0, none, none, some 1, none, none, none, some 2, none] 3 [(0, [false, false, false], []), (1, [false, false, false], [0]), (2, [false, false, false], [5]), (3, [false, false, false], [35, 0]), (4, [false, false, false], [34, 2]), (5, [true, false, false], [1]), (6, [true, false, false], [39]), (7, [true, false, false], [38, 1]), (8, [true, true, false], [0]), (9, [true, true, false], [5]), (10, [true, true, false], [42, 0]), (11, [true, true, false], [41, 2]), (12, [true, true, true], [45]), (1, [true, false, false], [0]), (1, [true, true, false], [0]), (1, [true, true, true], [0]), (2, [true, false, false], [5]), (2, [true, true, false], [5]), (2, [true, true, true], [5]), (5, [false, false, false], [1]), (5, [true, true, false], [1]), (5, [true, true, true], [1]), (6, [false, false, false], [39]), (8, [false, false, false], [0]), (8, [true, false, false], [0]), (8, [true, true, true], [0]), (9, [false, false, false], [5]), (9, [true, false, false], [5]), (9, [true, true, true], [5]), (10, [false, false, false], [42, 0]), (10, [true, false, false], [42, 0])] [_, _, _, _, _, _, _, _, _, _, _, _, _]
        case' hm => exact dr
        case' hn => rfl
        case' hok => rfl
        case' hlen => rfl
        case' hd => rfl
        case' h0 => rfl
        case' hstep =>
         simp only [DAllG, push_cast, Option.isSome_some, Option.isSome_none]
         repeat' apply And.intro
         all_goals (apply DOne_V; simp only [push_cast, Nat.reduceAdd, Nat.reduceSub, Nat.reduceMul, Nat.reduceLT, Nat.reduceLeDiff, Nat.reduceEqDiff, Int.reduceToNat, ↓reduceIte, List.drop_zero, Nat.sub_zero, hdr] <;> first | exact rfl | omega | exact ⟨rfl, rfl⟩ | exact trivial | exact ⟨by omega, rfl⟩ | exact ⟨by omega, by omega, rfl⟩ | exact ⟨by omega, rfl, rfl⟩ | exact ⟨by omega, by omega, rfl, rfl⟩ | (refine app_L AV.str (sz := 1) (fun _ => rfl) cellN _ H.length [] (l.take i) _ rfl rfl (by exact aget0 _ _ _) sl53 sz9 by9 zr9 rfl (by decide) (by decide) (by simp; omega) ?_; simp only [push_cast, Nat.reduceAdd, Nat.reduceSub, Nat.reduceMul, Nat.reduceLT, Nat.reduceLeDiff, Nat.reduceEqDiff, Int.reduceToNat, ↓reduceIte, List.nil_append]; exact ⟨rfl, rfl⟩) | (refine app1_L AV.str (sz := 1) (fun _ => rfl) cellN _ H.length (l.take i) s _ rfl rfl (by exact aget0 _ _ _) sl53 sz9 by9 zr9 rfl (by decide) (by decide) (by simp; omega) ?_; simp only [push_cast, Nat.reduceAdd, Nat.reduceSub, Nat.reduceMul, Nat.reduceLT, Nat.reduceLeDiff, Nat.reduceEqDiff, Int.reduceToNat, ↓reduceIte]; exact ⟨rfl, rfl⟩) | (refine app_L AV.str (sz := 1) (fun _ => rfl) cellN _ H.length (l.take i ++ [s]) (l.drop i) _ rfl rfl (by exact aget0 _ _ _) sl53 sz9 by9 zr9 rfl (by decide) (by decide) (by simp; omega) ?_; simp only [push_cast, Nat.reduceAdd, Nat.reduceSub, Nat.reduceMul, Nat.reduceLT, Nat.reduceLeDiff, Nat.reduceEqDiff, Int.reduceToNat, ↓reduceIte]; exact ⟨rfl, rfl⟩))
        case' hQ => skip
        simp only [push_cast, Nat.reduceAdd, Nat.reduceSub, Nat.reduceMul, Nat.reduceLT, Nat.reduceLeDiff, Nat.reduceEqDiff, Int.reduceToNat, ↓reduceIte, hfin (fun _ => hc) (fun _ => he)]
  · refine cI (fun h2 => absurd h2 h) (fun _ => ?_)
    apply AW_drawE [some 34, some 35, some 36, some 37, some 38, some 39, some 40, some 41, some 42, some 43, some 44, some 45, some 4] [([false, false, false], _), ([true, false, false], _), ([true, true, false], _), ([true, true, true], _)] [none, none, none, none, some 0, none, none, some 1, none, none, none, some 2, none] 3 [(0, [false, false, false], []), (1, [false, false, false], [0]), (2, [false, false, false], [5]), (3, [false, false, false], [35, 0]), (4, [false, false, false], [34, 2]), (5, [true, false, false], [1]), (6, [true, false, false], [39]), (7, [true, false, false], [38, 1]), (8, [true, true, false], [0]), (9, [true, true, false], [5]), (10, [true, true, false], [42, 0]), (11, [true, true, false], [41, 2]), (12, [true, true, true], [45]), (1, [true, false, false], [0]), (1, [true, true, false], [0]), (1, [true, true, true], [0]), (2, [true, false, false], [5]), (2, [true, true, false], [5]), (2, [true, true, true], [5]), (5, [false, false, false], [1]), (5, [true, true, false], [1]), (5, [true, true, true], [1]), (6, [false, false, false], [39]), (8, [false, false, false], [0]), (8, [true, false, false], [0]), (8, [true, true, true], [0]), (9, [false, false, false], [5]), (9, [true, false, false], [5]), (9, [true, true, true], [5]), (10, [false, false, false], [42, 0]), (10, [true, false, false], [42, 0])] [_, _, _, _, _, _, _, _, _, _, _, _, _]
    case' hm => exact dr
    case' hn => rfl
    case' hok => rfl
    case' hlen => rfl
    case' hd => rfl
    case' h0 => rfl
    case' hstep =>
     simp only [DAllG, push_cast, Option.isSome_some, Option.isSome_none]
     repeat' apply And.intro
     all_goals (apply DOne_V; simp only [push_cast, Nat.reduceAdd, Nat.reduceSub, Nat.reduceMul, Nat.reduceLT, Nat.reduceLeDiff, Nat.reduceEqDiff, Int.reduceToNat, ↓reduceIte, List.drop_zero, Nat.sub_zero, hdr] <;> first | exact rfl | omega | exact ⟨rfl, rfl⟩ | exact trivial | exact ⟨by omega, rfl⟩ | exact ⟨by omega, by omega, rfl⟩ | exact ⟨by omega, rfl, rfl⟩ | exact ⟨by omega, by omega, rfl, rfl⟩ | (refine app_L AV.str (sz := 1) (fun _ => rfl) cellN _ H.length [] (l.take i) _ rfl rfl (by exact aget0 _ _ _) sl53 sz9 by9 zr9 rfl (by decide) (by decide) (by simp; omega) ?_; simp only [push_cast, Nat.reduceAdd, Nat.reduceSub, Nat.reduceMul, Nat.reduceLT, Nat.reduceLeDiff, Nat.reduceEqDiff, Int.reduceToNat, ↓reduceIte, List.nil_append]; exact ⟨rfl, rfl⟩) | (refine app1_L AV.str (sz := 1) (fun _ => rfl) cellN _ H.length (l.take i) s _ rfl rfl (by exact aget0 _ _ _) sl53 sz9 by9 zr9 rfl (by decide) (by decide) (by simp; omega) ?_; simp only [push_cast, Nat.reduceAdd, Nat.reduceSub, Nat.reduceMul, Nat.reduceLT, Nat.reduceLeDiff, Nat.reduceEqDiff, Int.reduceToNat, ↓reduceIte]; exact ⟨rfl, rfl⟩) | (refine app_L AV.str (sz := 1) (fun _ => rfl) cellN _ H.length (l.take i ++ [s]) (l.drop i) _ rfl rfl (by exact aget0 _ _ _) sl53 sz9 by9 zr9 rfl (by decide) (by decide) (by simp; omega) ?_; simp only [push_cast, Nat.reduceAdd, Nat.reduceSub, Nat.reduceMul, Nat.reduceLT, Nat.reduceLeDiff, Nat.reduceEqDiff, Int.reduceToNat, ↓reduceIte]; exact ⟨rfl, rfl⟩))
    case' hQ => skip
    simp only [push_cast, Nat.reduceAdd, Nat.reduceSub, Nat.reduceMul, Nat.reduceLT, Nat.reduceLeDiff, Nat.reduceEqDiff, Int.reduceToNat, ↓reduceIte, hfin (fun hh => absurd hh (by omega)) (fun hh => absurd hh (by omega))]
end Ab
set_option maxRecDepth 10000
namespace Ab
open Go Go.Proofs
theorem sortedP_take (l : List (List UInt8)) (i : Nat) (h : i < l.length) : sortedP (l.take (i + 1)) = insertP (sortedP (l.take i)) l[i] := by
  unfold sortedP; rw [List.take_succ_eq_append_getElem h, List.foldl_append]; rfl
theorem sortedP_len (l : List (List UInt8)) : (sortedP l).length ≤ l.length := by
  have : ∀ (l m : List (List UInt8)), (l.foldl insertP m).length ≤ m.length + l.length := by
    intro l
    induction l with
    | nil => intro m; simp
    | cons a l ih => intro m; have h1 := ih (insertP m a); have h2 := insertP_length m a; simp only [List.foldl_cons, List.length_cons]; omega
  simpa [sortedP] using this l []
theorem sortedP_nil : sortedP [] = [] := (rfl)
theorem sorted_ac (l : List (List UInt8)) (hlen : l.length < 1099511627775) (hnl : ∀ x, x ∈ l → x.length < 1099511627776) (H : List AObj) : ACall Tryd.prog 94 [.sl .none (encN l)] H (fun r H' => r = .sl .none (encN (sortedP l)) ∧ H' = H) := by
  refine ACall_V (H.length) 16 [.tmp 2] Tryd.func94 rfl rfl rfl ?_
  simp only [push_cast, Nat.reduceAdd, Nat.reduceSub, Nat.reduceMul, Nat.reduceLT, Nat.reduceLeDiff, Nat.reduceEqDiff, Int.reduceToNat, ↓reduceIte]
  refine AW_loopW (maskG 17 [3, 2, 0, 0]) (fun (i : Nat) => [(3, .sl .none (encN (sortedP (l.take i)))), (8, .int .i64 i)]) (fun _ => H) (fun i => i ≤ l.length) (fun i => l.length - i) 0 (Nat.zero_le _) (by simp only [push_cast, Nat.reduceAdd, Nat.reduceSub, Nat.reduceMul, Nat.reduceLT, Nat.reduceLeDiff, Nat.reduceEqDiff, Int.reduceToNat, ↓reduceIte, List.take_zero, sortedP_nil]) (fun i hi => ?_)
  simp only [push_cast, Nat.reduceAdd, Nat.reduceSub, Nat.reduceMul, Nat.reduceLT, Nat.reduceLeDiff, Nat.reduceEqDiff, Int.reduceToNat, ↓reduceIte]
  refine cI (fun h => ?_) (fun h => ?_)
  · repeat refine ⟨by omega, ?_⟩
    have hil : i < l.length := by omega
    have h1 := sortedP_len (l.take i)
    simp only [List.length_take] at h1
    refine (insert_ac (sortedP (l.take i)) (l[i]'hil) (by omega) (fun x hx => hnl x (List.mem_of_mem_take ((mem_sortedP _ _).1 hx))) (hnl _ (List.getElem_mem hil)) _).to ?_
    simp only [push_cast, Nat.reduceAdd, Nat.reduceSub, Nat.reduceMul, Nat.reduceLT, Nat.reduceLeDiff, Nat.reduceEqDiff, Int.reduceToNat, ↓reduceIte]
    repeat' first | refine ⟨by omega, ?_⟩ | refine cI (fun _ => ?_) (fun _ => ?_)
    exact loopW_n (i + 1) (by omega) (by omega) (by simp only [push_cast, Nat.reduceAdd, Nat.reduceSub, Nat.reduceMul, Nat.reduceLT, Nat.reduceLeDiff, Nat.reduceEqDiff, Int.reduceToNat, ↓reduceIte, sortedP_take l i hil])
  · simp only [push_cast, Nat.reduceAdd, Nat.reduceSub, Nat.reduceMul, Nat.reduceLT, Nat.reduceLeDiff, Nat.reduceEqDiff, Int.reduceToNat, ↓reduceIte, List.take_of_length_le (show l.length ≤ i by omega)]
theorem digits_ac (n : Nat) : n ≤ 1099511627776 → ∀ H, ACall Tryd.prog 95 [.int .i64 (n : Nat)] H (fun r H' => r = .str (Lib.decDigits n) ∧ H' = H) := by
  induction n using Nat.strongRecOn with | ind n ih
  intro hn H
  rw [Lib.decDigits]
  refine ACall_V (H.length) 16 [.tmp 2] Tryd.func95 rfl rfl rfl ?_
  simp only [push_cast, Nat.reduceAdd, Nat.reduceSub, Nat.reduceMul, Nat.reduceLT, Nat.reduceLeDiff, Nat.reduceEqDiff, Int.reduceToNat, ↓reduceIte]
  refine cI (fun h => ?_) (fun h => ?_)
  · repeat refine ⟨by omega, ?_⟩
    have hn10 : n < 10 := by omega
    have hb : ((UInt8.ofNat (48 + n)).toNat : Int) = 48 + n := by rw [UInt8.toNat_ofNat']; omega
    refine AOp_convert_str [UInt8.ofNat (48 + n)] .none (by simp only [push_cast, encB, List.map_cons, List.map_nil, hb]) (by simp) sl88 (by kernel_rfl) (by kernel_rfl) ?_
    simp only [push_cast, Nat.reduceAdd, Nat.reduceSub, Nat.reduceMul, Nat.reduceLT, Nat.reduceLeDiff, Nat.reduceEqDiff, Int.reduceToNat, ↓reduceIte, dif_pos hn10]
  · have hn10 : ¬ n < 10 := by omega
    have e1 : (n : Int) / 10 = ((n / 10 : Nat) : Int) := by omega
    have e2 : (n : Int) % 10 = ((n % 10 : Nat) : Int) := by omega
    have h3 := fun H => ih (n / 10) (by omega) (by omega) H
    have h4 := fun H => ih (n % 10) (by omega) (by omega) H
    have h5 : Lib.decDigits (n % 10) = [UInt8.ofNat (48 + n % 10)] := by rw [Lib.decDigits, dif_pos (by omega)]
    rw [h5] at h4
    have hl := dec_len 12 (n / 10) (by omega)
    rw [e1]
    repeat refine ⟨by omega, ?_⟩
    refine (h3 _).to ?_
    simp only [push_cast, Nat.reduceAdd, Nat.reduceSub, Nat.reduceMul, Nat.reduceLT, Nat.reduceLeDiff, Nat.reduceEqDiff, Int.reduceToNat, ↓reduceIte, e2]
    repeat refine ⟨by omega, ?_⟩
    refine (h4 _).to ?_
    simp only [push_cast, Nat.reduceAdd, Nat.reduceSub, Nat.reduceMul, Nat.reduceLT, Nat.reduceLeDiff, Nat.reduceEqDiff, Int.reduceToNat, ↓reduceIte, dif_neg hn10]
    omega
theorem imageR_ac (σ : List (List UInt8 × Term)) (v : List UInt8) (hlen : σ.length < 1099511627776) (H : List AObj) : ACall Tryd.prog 74 [.sl .none (encL encBd σ), .str v] H (fun r H' => r = encT (imageP σ v) ∧ H' = H) := by
  refine ACall_V (H.length) 20 [.cell 4 24] Tryd.func74 rfl rfl rfl ?_
  simp only [push_cast, Nat.reduceAdd, Nat.reduceSub, Nat.reduceMul, Nat.reduceLT, Nat.reduceLeDiff, Nat.reduceEqDiff, Int.reduceToNat, ↓reduceIte]
  refine AW_loopW (maskG 22 [1, 2, 2, 0, 0]) (fun (i : Nat) => [(9, .int .i64 i)]) (fun _ => H ++ [.cells [.str [], .bool false, .sl .zero []]]) (fun i => i ≤ σ.length ∧ ∀ x, x ∈ σ.take i → ¬ x.1 = v) (fun i => σ.length - i) 0 ⟨Nat.zero_le _, by simp⟩ (by simp only [push_cast, Nat.reduceAdd, Nat.reduceSub, Nat.reduceMul, Nat.reduceLT, Nat.reduceLeDiff, Nat.reduceEqDiff, Int.reduceToNat, ↓reduceIte]) (fun i hi => ?_)
  simp only [push_cast, Nat.reduceAdd, Nat.reduceSub, Nat.reduceMul, Nat.reduceLT, Nat.reduceLeDiff, Nat.reduceEqDiff, Int.reduceToNat, ↓reduceIte]
  refine cI (fun h => ?_) (fun h => ?_)
  · repeat refine ⟨by omega, ?_⟩
    have hil : i < σ.length := by omega
    refine cI (fun he => ?_) (fun he => ?_)
    · have hn : σ.find? (fun b => decide (b.1 = v)) = some (σ[i]'hil) := by
        rw [List.find?_eq_some_iff_getElem]
        refine ⟨by simpa using he, i, hil, rfl, fun j hj => ?_⟩
        have := hi.2 σ[j] (by rw [List.mem_take_iff_getElem]; exact ⟨j, by omega, rfl⟩)
        simpa using this
      have hI : imageP σ v = (σ[i]'hil).2 := by simp [imageP, hn]
      simp only [push_cast, Nat.reduceAdd, Nat.reduceSub, Nat.reduceMul, Nat.reduceLT, Nat.reduceLeDiff, Nat.reduceEqDiff, Int.reduceToNat, ↓reduceIte, hI]
    · repeat' first | refine ⟨by omega, ?_⟩ | refine cI (fun _ => ?_) (fun _ => ?_)
      refine loopW_n (i + 1) ⟨by omega, fun x hx => ?_⟩ (by omega) (by simp only [push_cast, Nat.reduceAdd, Nat.reduceSub, Nat.reduceMul, Nat.reduceLT, Nat.reduceLeDiff, Nat.reduceEqDiff, Int.reduceToNat, ↓reduceIte])
      rw [List.take_succ_eq_append_getElem hil] at hx
      rcases List.mem_append.1 hx with h | h
      · exact hi.2 x h
      · rw [List.mem_singleton] at h; subst h; exact he
  · have e : σ.take i = σ := List.take_of_length_le (by omega)
    rw [e] at hi
    have hn : σ.find? (fun b => decide (b.1 = v)) = none := by rw [List.find?_eq_none]; intro x hx; simpa using hi.2 x hx
    have hI : imageP σ v = .mk v true [] := by simp [imageP, hn]
    simp only [push_cast, Nat.reduceAdd, Nat.reduceSub, Nat.reduceMul, Nat.reduceLT, Nat.reduceLeDiff, Nat.reduceEqDiff, Int.reduceToNat, ↓reduceIte, hI]
def appL (σ : List (List UInt8 × Term)) (xs : List Term) : List Term := xs.map (applyP σ)
theorem appL_take (σ : List (List UInt8 × Term)) (xs : List Term) (i : Nat) (h : i < xs.length) : appL σ (xs.take (i + 1)) = appL σ (xs.take i) ++ [applyP σ xs[i]] := by
  unfold appL; rw [List.take_succ_eq_append_getElem h, List.map_append]; rfl
theorem appL_nil (σ : List (List UInt8 × Term)) : appL σ [] = [] := (rfl)
theorem appL_len (σ : List (List UInt8 × Term)) (xs : List Term) : (appL σ xs).length = xs.length := by simp [appL]
theorem applyP_t (σ : List (List UInt8 × Term)) (n : List UInt8) (xs : List Term) : applyP σ (.mk n true xs) = imageP σ n := by rw [applyP_mk]; simp
theorem applyP_f (σ : List (List UInt8 × Term)) (n : List UInt8) (xs : List Term) : applyP σ (.mk n false xs) = .mk n false (appL σ xs) := by rw [applyP_mk]; rfl
theorem applyR_ac (σ : List (List UInt8 × Term)) (hlen : σ.length < 1099511627776) (t : Term) : t.bulk ≤ 1099511627775 → ∀ H, ACall Tryd.prog 31 [.sl .none (encL encBd σ), encT t] H (fun r H' => r = encT (applyP σ t) ∧ H' = H) := by
  induction t using Term.ind with | _ n v xs ih
  intro hb H
  have hl := Term.len_le (n := n) (v := v) (xs := xs)
  cases v with
  | true =>
    rw [applyP_t]
    refine ACall_V (H.length) 32 [.cell 4 24] Tryd.func31 rfl rfl rfl ?_
    simp only [push_cast, Nat.reduceAdd, Nat.reduceSub, Nat.reduceMul, Nat.reduceLT, Nat.reduceLeDiff, Nat.reduceEqDiff, Int.reduceToNat, ↓reduceIte]
    refine (imageR_ac σ n hlen _).to ?_
    simp only [push_cast, Nat.reduceAdd, Nat.reduceSub, Nat.reduceMul, Nat.reduceLT, Nat.reduceLeDiff, Nat.reduceEqDiff, Int.reduceToNat, ↓reduceIte]
  | false =>
    rw [applyP_f]
    refine ACall_V (H.length) 32 [.cell 4 24] Tryd.func31 rfl rfl rfl ?_
    simp only [push_cast, Nat.reduceAdd, Nat.reduceSub, Nat.reduceMul, Nat.reduceLT, Nat.reduceLeDiff, Nat.reduceEqDiff, Int.reduceToNat, ↓reduceIte]
    refine AW_reserve 1 ?_
    refine AW_loopW (maskG 34 [0, 3, 0, 12, 0, 0]) (fun (i : Nat) => [(20, .int .i64 i)]) (fun i => H ++ [.cells [.str n, .bool false, .sl .none (encTs xs)], .cells [.str [], .bool false, .sl .zero []], .cells [.str n, .bool false, gSl (H.length + 3) (encTs (appL σ (xs.take i)))], gTok 24 3 (encTs (appL σ (xs.take i)))]) (fun i => i ≤ xs.length) (fun i => xs.length - i) 0 (Nat.zero_le _) (by simp only [push_cast, Nat.reduceAdd, Nat.reduceSub, Nat.reduceMul, Nat.reduceLT, Nat.reduceLeDiff, Nat.reduceEqDiff, Int.reduceToNat, ↓reduceIte, List.take_zero, appL_nil]) (fun i hi => ?_)
    simp only [push_cast, Nat.reduceAdd, Nat.reduceSub, Nat.reduceMul, Nat.reduceLT, Nat.reduceLeDiff, Nat.reduceEqDiff, Int.reduceToNat, ↓reduceIte]
    refine cI (fun h => ?_) (fun h => ?_)
    · have hil : i < xs.length := by omega
      repeat refine ⟨by omega, ?_⟩
      have hal := appL_len σ (xs.take i)
      rw [List.length_take] at hal
      apply AW_drawE [some 24, some 25, some 26, some 27, some 28, some 29, some 30, some 31, none] [([false, false], _), ([true, false], _), ([true, true], _)] [none, none, none, none, none, none, some 0, none, some 1] 2 [(0, [false, false], [5]), (1, [false, false], [24]), (2, [false, false], [0]), (3, [false, false], [7]), (4, [false, false], [26, 0]), (5, [false, false], [28]), (6, [false, false], [25, 3]), (7, [true, false], [5]), (8, [true, false], [30, 0]), (0, [true, false], [5]), (2, [true, false], [0]), (3, [true, false], [7])] [_, _, _, _, _, _, _, _, _]
      case' hm => exact dr
      case' hn => rfl
      case' hok => rfl
      case' hlen => rfl
      case' hd => rfl
      case' h0 => rfl
      case' hstep =>
       simp only [DAllG, push_cast, Option.isSome_some, Option.isSome_none]
       repeat' apply And.intro
       all_goals (apply DOne_V; simp only [push_cast, Nat.reduceAdd, Nat.reduceSub, Nat.reduceMul, Nat.reduceLT, Nat.reduceLeDiff, Nat.reduceEqDiff, Int.reduceToNat, ↓reduceIte] <;> first | exact rfl | omega | exact ⟨rfl, rfl⟩ | exact trivial | exact ⟨by omega, rfl⟩ | exact ⟨by omega, by omega, rfl⟩ | exact ⟨by omega, rfl, rfl⟩ | exact ⟨by omega, by omega, rfl, rfl⟩ | exact (ih _ (List.getElem_mem hil) (arg_bulk hb i hil) _).to ⟨rfl, rfl⟩ | (refine app1_T _ (H.length + 3) (appL σ (xs.take i)) (applyP σ (xs[i]'hil)) _ rfl rfl (by exact (agetN _ _ 3).trans rfl) sl22 sz24 by24 zr24 rfl (by decide) (by omega) ?_; simp only [push_cast, Nat.reduceAdd, Nat.reduceSub, Nat.reduceMul, Nat.reduceLT, Nat.reduceLeDiff, Nat.reduceEqDiff, Int.reduceToNat, ↓reduceIte]; exact ⟨rfl, rfl⟩))
      case' hQ => skip
      simp only [push_cast, Nat.reduceAdd, Nat.reduceSub, Nat.reduceMul, Nat.reduceLT, Nat.reduceLeDiff, Nat.reduceEqDiff, Int.reduceToNat, ↓reduceIte, ← appL_take σ xs i hil]
      repeat' first | refine ⟨by omega, ?_⟩ | refine cI (fun _ => ?_) (fun _ => ?_)
      exact loopW_n (i + 1) (by omega) (by omega) (by simp only [push_cast, Nat.reduceAdd, Nat.reduceSub, Nat.reduceMul, Nat.reduceLT, Nat.reduceLeDiff, Nat.reduceEqDiff, Int.reduceToNat, ↓reduceIte])
    · simp only [push_cast, Nat.reduceAdd, Nat.reduceSub, Nat.reduceMul, Nat.reduceLT, Nat.reduceLeDiff, Nat.reduceEqDiff, Int.reduceToNat, ↓reduceIte, List.take_of_length_le (show xs.length ≤ i by omega)]
theorem AOp_forget {P : Program} {ro : Option Nat} {o : Oper} {K : AV → List AObj → Prop} {s : List AV} {h : List AObj} (i : Nat) (v v' : AV) (hi : s[i]? = some v) (hf : Forget v v') (k : AOp P ro o K ⟨s.set i v', h⟩) : AOp P ro o K ⟨s, h⟩ := by
  intro C a hg hH hs
  refine k C a hg hH ⟨hs.1.trans (by simp), fun j hj hj' => ?_⟩
  have hlt := (List.getElem?_eq_some_iff.1 hi).1
  have h1 := hs.2 j (by simpa using hj) hj'
  simp only [List.getElem_set]
  split
  · rename_i e; subst e
    rw [(List.getElem?_eq_some_iff.1 hi).2] at h1
    exact hf _ _ h1
  · exact h1
theorem rowsFor_cons (pre : List UInt8) (l : List (List UInt8)) (v : List UInt8) (i : Nat) (h : i < l.length) : rowsFor pre (l.take (i + 1)) v = rowsFor pre (l.take i) v ++ (if l[i] = v then [(v, .mk (pre ++ Lib.decDigits i) true [])] else []) := by
  unfold rowsFor
  rw [List.take_succ_eq_append_getElem h, List.zipIdx_append, List.filter_append, List.map_append]
  congr 1
  have hl : (l.take i).length = i := by simp; omega
  rw [hl]
  by_cases e : l[i] = v
  · simp [e]
  · simp [e]
theorem rowsFor_len (pre : List UInt8) (l : List (List UInt8)) (v : List UInt8) : (rowsFor pre l v).length ≤ l.length := by
  unfold rowsFor
  rw [List.length_map]
  exact Nat.le_trans (List.length_filter_le _ _) (by simp)
def renA (pre : List UInt8) (l S : List (List UInt8)) : List (List UInt8 × Term) := S.flatMap (rowsFor pre l)
theorem renA_take (pre : List UInt8) (l S : List (List UInt8)) (i : Nat) (h : i < S.length) : renA pre l (S.take (i + 1)) = renA pre l (S.take i) ++ rowsFor pre l S[i] := by
  unfold renA; rw [List.take_succ_eq_append_getElem h, List.flatMap_append]; simp
theorem renA_len (pre : List UInt8) (l : List (List UInt8)) : ∀ S, (renA pre l S).length ≤ S.length * l.length
  | [] => by simp [renA]
  | s :: S => by
    have h1 := renA_len pre l S
    have h2 := rowsFor_len pre l s
    have : renA pre l (s :: S) = rowsFor pre l s ++ renA pre l S := by simp [renA]
    rw [this, List.length_append, List.length_cons, Nat.add_mul]; omega
theorem renA_nil (pre : List UInt8) (l : List (List UInt8)) : renA pre l [] = [] := (rfl)
theorem rowsFor_nil (pre : List UInt8) (v : List UInt8) : rowsFor pre [] v = [] := (rfl)
theorem renaming_ac (pre : List UInt8) (l : List (List UInt8)) (hlen : l.length ≤ 1000000) (hp : pre.length ≤ 1000000) (hnl : ∀ x, x ∈ l → x.length < 1099511627776) (H : List AObj) :
    ACall Tryd.prog 54 [.sl .none (encN l), .str pre] H (fun r H' => r = .sl .none (encL encBd (renamingP pre l)) ∧ H' = H) := by
  have hR : renamingP pre l = renA pre l (sortedP l) := rfl
  have hsl := sortedP_len l
  have hbound : (sortedP l).length * l.length ≤ 1000000 * 1000000 := Nat.mul_le_mul (by omega) hlen
  obtain ⟨S, hS⟩ : ∃ S, S = sortedP l := ⟨_, rfl⟩
  rw [hR]
  have hso := fun H => sorted_ac l (by omega) hnl H
  rw [← hS] at hsl hbound hso ⊢
  refine ACall_V (H.length) 38 [.tmp 4] Tryd.func54 rfl rfl rfl ?_
  simp only [push_cast, Nat.reduceAdd, Nat.reduceSub, Nat.reduceMul, Nat.reduceLT, Nat.reduceLeDiff, Nat.reduceEqDiff, Int.reduceToNat, ↓reduceIte]
  refine (hso _).to ?_
  simp only [push_cast, Nat.reduceAdd, Nat.reduceSub, Nat.reduceMul, Nat.reduceLT, Nat.reduceLeDiff, Nat.reduceEqDiff, Int.reduceToNat, ↓reduceIte]
  refine AW_reserve 1 ?_
  refine AW_loopW (maskG 40 [0, 0, 3, 5, 0, 0]) (fun (i : Nat) => [(5, gSl H.length (encL encBd (renA pre l (S.take i)))), (13, .int .i64 i)]) (fun i => H ++ [gTok 57 4 (encL encBd (renA pre l (S.take i)))]) (fun i => i ≤ S.length) (fun i => S.length - i) 0 (Nat.zero_le _) (by simp only [push_cast, Nat.reduceAdd, Nat.reduceSub, Nat.reduceMul, Nat.reduceLT, Nat.reduceLeDiff, Nat.reduceEqDiff, Int.reduceToNat, ↓reduceIte, List.take_zero, renA_nil]) (fun i hi => ?_)
  simp only [push_cast, Nat.reduceAdd, Nat.reduceSub, Nat.reduceMul, Nat.reduceLT, Nat.reduceLeDiff, Nat.reduceEqDiff, Int.reduceToNat, ↓reduceIte]
  refine cI (fun h => ?_) (fun h => ?_)
  · repeat refine ⟨by omega, ?_⟩
    have hil : i < S.length := by omega
    have hra : (renA pre l (S.take i)).length ≤ 1000000 * 1000000 := Nat.le_trans (renA_len pre l _) (Nat.le_trans (Nat.mul_le_mul_right _ (by simp; omega)) hbound)
    refine AW_loopW (maskG 40 [0, 0, 3, 1, 3, 0, 0, 3, 0, 0]) (fun (j : Nat) => [(5, gSl H.length (encL encBd (renA pre l (S.take i) ++ rowsFor pre (l.take j) (S[i]'hil)))), (19, .int .i64 j)]) (fun j => H ++ [gTok 57 4 (encL encBd (renA pre l (S.take i) ++ rowsFor pre (l.take j) (S[i]'hil)))]) (fun j => j ≤ l.length) (fun j => l.length - j) 0 (Nat.zero_le _) (by simp only [push_cast, Nat.reduceAdd, Nat.reduceSub, Nat.reduceMul, Nat.reduceLT, Nat.reduceLeDiff, Nat.reduceEqDiff, Int.reduceToNat, ↓reduceIte, List.take_zero, rowsFor_nil, List.append_nil]) (fun j hj => ?_)
    simp only [push_cast, Nat.reduceAdd, Nat.reduceSub, Nat.reduceMul, Nat.reduceLT, Nat.reduceLeDiff, Nat.reduceEqDiff, Int.reduceToNat, ↓reduceIte]
    refine cI (fun h => ?_) (fun h => ?_)
    · repeat refine ⟨by omega, ?_⟩
      have hjl : j < l.length := by omega
      have hrf := rowsFor_len pre (l.take j) (S[i]'hil)
      rw [List.length_take] at hrf
      have hrc := rowsFor_cons pre l (S[i]'hil) j hjl
      have hdl := dec_len 12 j (by omega)
      refine cI (fun he => ?_) (fun he => ?_)
      · rw [if_pos he] at hrc
        refine (digits_ac j (by omega) _).to ?_
        simp only [push_cast, Nat.reduceAdd, Nat.reduceSub, Nat.reduceMul, Nat.reduceLT, Nat.reduceLeDiff, Nat.reduceEqDiff, Int.reduceToNat, ↓reduceIte]
        repeat refine ⟨by omega, ?_⟩
        refine AOp_forget 35 _ (.sl .none [encBd (S[i]'hil, .mk (pre ++ Lib.decDigits j) true [])]) rfl (Forget.row _ rfl ⟨Forget.refl _, Forget.refl _, Forget.refl _, by simp only [push_cast, Nat.reduceAdd, Nat.reduceSub, Nat.reduceMul, Nat.reduceLT, Nat.reduceLeDiff, Nat.reduceEqDiff, Int.reduceToNat, ↓reduceIte]; exact Forget.tok _ _, trivial⟩) ?_
        refine app1_L encBd (sz := 4) (fun _ => rfl) cellBd _ H.length (renA pre l (S.take i) ++ rowsFor pre (l.take j) (S[i]'hil)) (S[i]'hil, .mk (pre ++ Lib.decDigits j) true []) _ rfl rfl (by exact aget0 _ _ _) sl52 sz57 by57 zr57 rfl (by decide) (by decide) (by simp; omega) ?_
        rw [List.append_assoc, ← hrc]
        simp only [push_cast, Nat.reduceAdd, Nat.reduceSub, Nat.reduceMul, Nat.reduceLT, Nat.reduceLeDiff, Nat.reduceEqDiff, Int.reduceToNat, ↓reduceIte]
        repeat' first | refine ⟨by omega, ?_⟩ | refine cI (fun _ => ?_) (fun _ => ?_)
        exact loopW_n (j + 1) (by omega) (by omega) (by simp only [push_cast, Nat.reduceAdd, Nat.reduceSub, Nat.reduceMul, Nat.reduceLT, Nat.reduceLeDiff, Nat.reduceEqDiff, Int.reduceToNat, ↓reduceIte])
      · rw [if_neg he, List.append_nil] at hrc
        repeat' first | refine ⟨by omega, ?_⟩ | refine cI (fun _ => ?_) (fun _ => ?_)
        refine loopW_n (j + 1) (by omega) (by omega) ?_
        rw [hrc]
        simp only [push_cast, Nat.reduceAdd, Nat.reduceSub, Nat.reduceMul, Nat.reduceLT, Nat.reduceLeDiff, Nat.reduceEqDiff, Int.reduceToNat, ↓reduceIte]
    · repeat' first | refine ⟨by omega, ?_⟩ | refine cI (fun _ => ?_) (fun _ => ?_)
      refine loopW_n (i + 1) (by omega) (by omega) ?_
      rw [List.take_of_length_le (show l.length ≤ j by omega), ← renA_take pre l S i hil]
      simp only [push_cast, Nat.reduceAdd, Nat.reduceSub, Nat.reduceMul, Nat.reduceLT, Nat.reduceLeDiff, Nat.reduceEqDiff, Int.reduceToNat, ↓reduceIte]
  · simp only [push_cast, Nat.reduceAdd, Nat.reduceSub, Nat.reduceMul, Nat.reduceLT, Nat.reduceLeDiff, Nat.reduceEqDiff, Int.reduceToNat, ↓reduceIte, List.take_of_length_le (show S.length ≤ i by omega)]
end Ab
set_option maxRecDepth 10000
namespace Ab
open Go Go.Proofs
theorem name_le_bulk (t : Term) : ∀ l, ∀ x, x ∈ firstP t l → x ∈ l ∨ x.length ≤ t.bulk := by
  induction t using Term.ind with | _ n v xs ih
  intro l x hx
  rw [firstP_mk] at hx
  rw [Term.bulk_mk]
  cases v with
  | true =>
    simp only [if_true] at hx
    split at hx
    · exact .inl hx
    · rcases List.mem_append.1 hx with h | h
      · exact .inl h
      · rw [List.mem_singleton] at h; subst h; right; omega
  | false =>
    simp only [Bool.false_eq_true, if_false] at hx
    have : ∀ ys : List Term, (∀ y, y ∈ ys → y ∈ xs) → ∀ l, x ∈ firstL ys l → x ∈ l ∨ x.length ≤ (ys.map Term.bulk).sum := by
      intro ys
      induction ys with
      | nil => intro _ l h; exact .inl h
      | cons y ys ih2 =>
        intro hy l h
        rw [firstL_cons] at h
        simp only [List.map_cons, List.sum_cons]
        rcases ih2 (fun z hz => hy z (by simp [hz])) _ h with h | h
        · rcases ih y (hy y (by simp)) l x h with h | h
          · exact .inl h
          · right; omega
        · right; omega
    rcases this xs (fun y hy => hy) l hx with h | h
    · exact .inl h
    · right; omega
theorem first0_ac (t : Term) (hb : t.bulk ≤ 1000000) (H : List AObj) : ACall Tryd.prog 53 [encT t, .sl .zero []] H (fun r H' => r = .sl .none (encN (firstP t [])) ∧ H' = H) := by
  have := t.size_le
  exact ACall.forget (args' := [encT t, .sl .none (encN [])]) ⟨Forget.refl _, Forget.tok _ _, trivial⟩ (first_ac t [] (by omega) (by simp; omega) H)
theorem applyC_ac (t : Term) (hb : t.bulk ≤ 1000000) (H : List AObj) : ACall Tryd.prog 31 [.sl .none (encL encBd (renamingP [120] (firstP t []))), encT t] H (fun r H' => r = encT (canonP t) ∧ H' = H) := by
  have hs := t.size_le
  have hf := firstP_len t []
  have hl : (renamingP [120] (firstP t [])).length < 1099511627776 := by
    have h1 := renA_len [120] (firstP t []) (sortedP (firstP t []))
    have h2 := sortedP_len (firstP t [])
    have h3 : (sortedP (firstP t [])).length * (firstP t []).length ≤ 1000000 * 1000000 := Nat.mul_le_mul (by simp at hf; omega) (by simp at hf; omega)
    have h4 : renamingP [120] (firstP t []) = renA [120] (firstP t []) (sortedP (firstP t [])) := rfl
    rw [h4]; omega
  have := applyR_ac _ hl t (by omega) H
  rw [canon_apply] at this
  exact this
theorem renaming0_ac (t : Term) (hb : t.bulk ≤ 1000000) (H : List AObj) : ACall Tryd.prog 54 [.sl .none (encN (firstP t [])), .str [120]] H (fun r H' => r = .sl .none (encL encBd (renamingP [120] (firstP t []))) ∧ H' = H) := by
  have hs := t.size_le
  have hf := firstP_len t []
  refine renaming_ac [120] (firstP t []) (by simp at hf; omega) (by simp) (fun x hx => ?_) H
  rcases name_le_bulk t [] x hx with h | h
  · cases h
  · omega
def variantsB (a b : Term) : Bool := decide ((firstP a []).length = (firstP b []).length) && decide (canonP a = canonP b)
theorem renamedL_ac (a b : Term) (ha : a.bulk ≤ 1000000) (hb : b.bulk ≤ 1000000) (hca : (canonP a).bulk ≤ 1000000) (hcb : (canonP b).bulk ≤ 1000000) (H : List AObj) :
    ACall Tryd.prog 13 [encT a, encT b] H (fun r H' => r = .bool (variantsB a b) ∧ H' = H) := by
  unfold variantsB
  have hsa := a.size_le
  have hsb := b.size_le
  have hfa := firstP_len a []
  have hfb := firstP_len b []
  simp only [List.length_nil] at hfa hfb
  refine ACall_V (H.length) 23 [.tmp 4] Tryd.func13 rfl rfl rfl ?_
  simp only [push_cast, Nat.reduceAdd, Nat.reduceSub, Nat.reduceMul, Nat.reduceLT, Nat.reduceLeDiff, Nat.reduceEqDiff, Int.reduceToNat, ↓reduceIte]
  apply AW_drawE [some 7, some 8, some 9, some 10, some 5, some 6] [([], _)] [none, none, none, none, none, none] 0 [(0, [], [2]), (1, [], [7]), (2, [], [3]), (3, [], [9]), (4, [], [8]), (5, [], [10])] [_, _, _, _, _, _]
  case' hm => exact dr
  case' hn => rfl
  case' hok => rfl
  case' hlen => rfl
  case' hd => rfl
  case' h0 => rfl
  case' hstep =>
   simp only [DAllG, push_cast, Option.isSome_some, Option.isSome_none]
   repeat' apply And.intro
   all_goals (apply DOne_V; simp only [push_cast, Nat.reduceAdd, Nat.reduceSub, Nat.reduceMul, Nat.reduceLT, Nat.reduceLeDiff, Nat.reduceEqDiff, Int.reduceToNat, ↓reduceIte] <;> first | exact rfl | omega | exact ⟨rfl, rfl⟩ | exact trivial | exact ⟨by omega, rfl⟩ | exact ⟨by omega, by omega, rfl⟩ | exact ⟨by omega, rfl, rfl⟩ | exact ⟨by omega, by omega, rfl, rfl⟩ | exact (first0_ac a ha _).to ⟨rfl, rfl⟩ | exact (first0_ac b hb _).to ⟨rfl, rfl⟩)
  case' hQ => skip
  simp only [push_cast, Nat.reduceAdd, Nat.reduceSub, Nat.reduceMul, Nat.reduceLT, Nat.reduceLeDiff, Nat.reduceEqDiff, Int.reduceToNat, ↓reduceIte]
  refine cI (fun h => ?_) (fun h => ?_)
  · have h' : (firstP a []).length = (firstP b []).length := by omega
    apply AW_drawE [some 16, some 17, some 18, some 19, some 20, some 21, some 22, some 23, some 24, some 4] [([], _)] [none, none, none, none, none, none, none, none, none, none] 0 [(0, [], [5]), (1, [], [16]), (2, [], [2]), (3, [], [17, 0]), (4, [], [6]), (5, [], [20]), (6, [], [3]), (7, [], [21, 0]), (8, [], [19, 3]), (9, [], [24])] [_, _, _, _, _, _, _, _, _, _]
    case' hm => exact dr
    case' hn => rfl
    case' hok => rfl
    case' hlen => rfl
    case' hd => rfl
    case' h0 => rfl
    case' hstep =>
     simp only [DAllG, push_cast, Option.isSome_some, Option.isSome_none]
     repeat' apply And.intro
     all_goals (apply DOne_V; simp only [push_cast, Nat.reduceAdd, Nat.reduceSub, Nat.reduceMul, Nat.reduceLT, Nat.reduceLeDiff, Nat.reduceEqDiff, Int.reduceToNat, ↓reduceIte] <;> first | exact rfl | omega | exact ⟨rfl, rfl⟩ | exact trivial | exact ⟨by omega, rfl⟩ | exact ⟨by omega, by omega, rfl⟩ | exact ⟨by omega, rfl, rfl⟩ | exact ⟨by omega, by omega, rfl, rfl⟩ | exact (renaming0_ac a ha _).to ⟨rfl, rfl⟩ | exact (renaming0_ac b hb _).to ⟨rfl, rfl⟩ | exact (applyC_ac a ha _).to ⟨rfl, rfl⟩ | exact (applyC_ac b hb _).to ⟨rfl, rfl⟩ | exact (equalR_ac _ _ (by omega) (by omega) _).to ⟨rfl, rfl⟩)
    case' hQ => skip
    simp only [push_cast, Nat.reduceAdd, Nat.reduceSub, Nat.reduceMul, Nat.reduceLT, Nat.reduceLeDiff, Nat.reduceEqDiff, Int.reduceToNat, ↓reduceIte]
    simp [h']
  · have h' : ¬ (firstP a []).length = (firstP b []).length := by omega
    simp [h']
theorem variants_iff (a b : Term) : variantsB a b = decide (canonP a = canonP b) := by
  unfold variantsB
  by_cases h : canonP a = canonP b
  · have : (firstP a []).length = (firstP b []).length := by rw [← canon_len a, ← canon_len b, h]
    simp [h, this]
  · simp [h]
theorem variants_ac (hit : ∀ i H, i < 1099511627776 → ACall Tryd.prog 92 [.int .i64 (i : Nat)] H (fun r H' => r = .str (Lib.decDigits i) ∧ H' = H)) (a b : Term) (ha : a.bulk ≤ 1099511627770) (hb : b.bulk ≤ 1099511627770) (H : List AObj) :
    ACall Tryd.prog 3 [encT a, encT b] H (fun r H' => r = .bool true ∧ H' = H) := by
  have hit2 : ∀ i H, i < 4000 → ACall Tryd.prog 92 [.int .i64 (i : Nat)] H (fun r H' => r = .str (Lib.decDigits i) ∧ H' = H) := fun i H h => hit i H (by omega)
  have hit3 : ∀ i H, i < 100 → ACall Tryd.prog 92 [.int .i64 (i : Nat)] H (fun r H' => r = .str (Lib.decDigits i) ∧ H' = H) := fun i H h => hit i H (by omega)
  have hd : ∀ i, i < 4000 → (Lib.decDigits i).length ≤ 1099511627775 := fun i h => by have := dec_len 4 i (by omega); omega
  have hc := fun t (ht : t.bulk ≤ 1099511627770) H => canonical_ac 4000 hit2 (by decide) hd t (by omega) (fun h => (check_bulk h).2) H
  refine ACall_V (H.length) 55 [.tmp 4] Tryd.func3 rfl rfl rfl ?_
  simp only [push_cast, Nat.reduceAdd, Nat.reduceSub, Nat.reduceMul, Nat.reduceLT, Nat.reduceLeDiff, Nat.reduceEqDiff, Int.reduceToNat, ↓reduceIte]
  refine (hc a ha _).to ?_
  by_cases h1 : checkP a = 0
  · rw [if_pos h1]
    simp only [push_cast, Nat.reduceAdd, Nat.reduceSub, Nat.reduceMul, Nat.reduceLT, Nat.reduceLeDiff, Nat.reduceEqDiff, Int.reduceToNat, ↓reduceIte]
    refine (hc b hb _).to ?_
    by_cases h2 : checkP b = 0
    · rw [if_pos h2]
      have k1 := canon_check h1
      have k2 := canon_check h2
      have b1 := check_bulk h1
      have b2 := check_bulk h2
      have b3 := check_bulk k1
      have b4 := check_bulk k2
      have hcc := canon_canon a
      have hca := hc (canonP a) (by omega)
      rw [if_pos k1, hcc] at hca
      have v1 := fun H => renamedL_ac a b (by omega) (by omega) (by omega) (by omega) H
      have v2 := fun H => renamedL_ac a (canonP a) (by omega) (by omega) (by omega) (by rw [hcc]; omega) H
      rw [variants_iff] at v1
      rw [variants_iff, hcc] at v2
      obtain ⟨x, hx⟩ : ∃ x, x = canonP a := ⟨_, rfl⟩
      obtain ⟨y, hy⟩ : ∃ y, y = canonP b := ⟨_, rfl⟩
      rw [← hx] at hca v1 v2 b3 ⊢
      rw [← hy] at v1 b4 ⊢
      simp only [push_cast, Nat.reduceAdd, Nat.reduceSub, Nat.reduceMul, Nat.reduceLT, Nat.reduceLeDiff, Nat.reduceEqDiff, Int.reduceToNat, ↓reduceIte]
      refine (hca _).to ?_
      simp only [push_cast, Nat.reduceAdd, Nat.reduceSub, Nat.reduceMul, Nat.reduceLT, Nat.reduceLeDiff, Nat.reduceEqDiff, Int.reduceToNat, ↓reduceIte]
      apply AW_drawE [some 33, some 34, some 35, some 36, some 37, some 38, some 39, some 40, some 41, some 42, some 43, some 44, some 45, some 46, some 47, some 48, some 49, some 50, some 51, some 52, some 53, some 54, some 55, some 56, some 4] [([], _)] [none, none, none, none, none, none, none, none, none, none, none, none, none, none, none, none, none, none, none, none, none, none, none, none, none] 0 [(0, [], [5]), (1, [], [7]), (2, [], [33, 0]), (3, [], [2]), (4, [], [3]), (5, [], [36, 0]), (6, [], [35, 2]), (7, [], [39]), (8, [], [10, 29]), (9, [], [40, 0]), (10, [], [40, 1]), (11, [], [43]), (12, [], [9, 34]), (13, [], [5, 38]), (14, [], [44, 0, 0]), (15, [], [44, 2]), (16, [], [48]), (17, [], [2, 46]), (18, [], [5, 43]), (19, [], [49, 0, 0]), (20, [], [49, 2]), (21, [], [53]), (22, [], [54]), (23, [], [54, 0]), (24, [], [56])] [_, _, _, _, _, _, _, _, _, _, _, _, _, _, _, _, _, _, _, _, _, _, _, _, _]
      case' hm => exact dr
      case' hn => rfl
      case' hok => rfl
      case' hlen => rfl
      case' hd => rfl
      case' h0 => rfl
      case' hstep =>
       simp only [DAllG, push_cast, Option.isSome_some, Option.isSome_none]
       repeat' apply And.intro
       all_goals (apply DOne_V; simp only [push_cast, Nat.reduceAdd, Nat.reduceSub, Nat.reduceMul, Nat.reduceLT, Nat.reduceLeDiff, Nat.reduceEqDiff, Int.reduceToNat, ↓reduceIte, decide_true, beq_self_eq_true] <;> first | exact rfl | omega | exact ⟨rfl, rfl⟩ | exact trivial | exact ⟨by omega, rfl⟩ | exact ⟨by omega, by omega, rfl⟩ | exact ⟨by omega, rfl, rfl⟩ | exact ⟨by omega, by omega, rfl, rfl⟩ | exact (v1 _).to ⟨rfl, rfl⟩ | exact (v2 _).to ⟨rfl, rfl⟩ | exact (equalR_ac _ _ (by omega) (by omega) _).to ⟨rfl, rfl⟩ | exact (alive_ac hit3 _).to ⟨rfl, rfl⟩)
      case' hQ => skip
      simp only [push_cast, Nat.reduceAdd, Nat.reduceSub, Nat.reduceMul, Nat.reduceLT, Nat.reduceLeDiff, Nat.reduceEqDiff, Int.reduceToNat, ↓reduceIte]
    · rw [if_neg h2]
      simp only [push_cast, Nat.reduceAdd, Nat.reduceSub, Nat.reduceMul, Nat.reduceLT, Nat.reduceLeDiff, Nat.reduceEqDiff, Int.reduceToNat, ↓reduceIte, h2]
      refine (alive_ac hit3 _).to ?_
      simp only [push_cast, Nat.reduceAdd, Nat.reduceSub, Nat.reduceMul, Nat.reduceLT, Nat.reduceLeDiff, Nat.reduceEqDiff, Int.reduceToNat, ↓reduceIte]
  · rw [if_neg h1]
    simp only [push_cast, Nat.reduceAdd, Nat.reduceSub, Nat.reduceMul, Nat.reduceLT, Nat.reduceLeDiff, Nat.reduceEqDiff, Int.reduceToNat, ↓reduceIte, h1]
    refine (hc b hb _).to ?_
    by_cases h2 : checkP b = 0
    · rw [if_pos h2]
      simp only [push_cast, Nat.reduceAdd, Nat.reduceSub, Nat.reduceMul, Nat.reduceLT, Nat.reduceLeDiff, Nat.reduceEqDiff, Int.reduceToNat, ↓reduceIte, h1]
      refine (alive_ac hit3 _).to ?_
      simp only [push_cast, Nat.reduceAdd, Nat.reduceSub, Nat.reduceMul, Nat.reduceLT, Nat.reduceLeDiff, Nat.reduceEqDiff, Int.reduceToNat, ↓reduceIte]
    · rw [if_neg h2]
      simp only [push_cast, Nat.reduceAdd, Nat.reduceSub, Nat.reduceMul, Nat.reduceLT, Nat.reduceLeDiff, Nat.reduceEqDiff, Int.reduceToNat, ↓reduceIte, h1]
      refine (alive_ac hit3 _).to ?_
      simp only [push_cast, Nat.reduceAdd, Nat.reduceSub, Nat.reduceMul, Nat.reduceLT, Nat.reduceLeDiff, Nat.reduceEqDiff, Int.reduceToNat, ↓reduceIte]
end Ab
set_option maxRecDepth 10000
namespace Go.Proofs.YtakpnikkcinckaaDoor
open Go Ab
namespace vrt
theorem own : ownKnob Tryd.prog.godebug = none := by kernel_rfl
theorem laid : laidOutB Tryd.prog = true := by kernel_rfl
theorem readable : ∀ t, t ∈ Tryd.f3.params.toList → Tryd.prog.readableRec t = true ∧ t < Tryd.prog.types.size := by
  rw [Tryd.params3]; intro t ht
  simp only [List.mem_cons, List.not_mem_nil, or_false] at ht
  rcases ht with rfl | rfl <;> exact ⟨by kernel_rfl, of_decide_eq_true (by kernel_rfl)⟩
theorem closed : closedK Tryd.prog [24, 9, 4, 22] = true := by kernel_rfl
theorem contract (H : Type) (enc : TypeId × Value → H) (W : World) (base : Nat) (args : Array Value) (ds gs : List (DataW H)) (before : List MemPlace)
    (hval : ∀ (j : Nat) t v, Tryd.f3.params[j]? = some t → args[j]? = some v → Value.okWide Tryd.prog W .any base t v)
    (hW : DataW.Whole enc Tryd.prog Tryd.f3.params.toList Rows.termVariantsSpec.vars false W args.toList ds gs before) (hk : Rows.uptoSmall H (ds ++ gs) = true) (hl : laidMetH Tryd.prog Rows.termVariantsUptoRow.laid W) :
    Calls Tryd.prog 3 args W fun e W' => ∃ v, e = .returned v ∧ Rows.termVariantsSpec.post enc Tryd.prog Tryd.f3 false true false false W args v W' := by
  have hW' := hW
  obtain ⟨p, q, hA0, hV, rfl, hfz, hnd⟩ := hW
  have hA : DataW.TrodAll enc Tryd.prog W 0 (fun _ => true) true Tryd.f3.params.toList args.toList ds p := hA0
  rw [Tryd.params3] at hA hval
  obtain ⟨v0, vs0, d0, ds0, p0, q0, hargs, rfl, rfl, h0, r0⟩ := ChangeShapes.trodAll_cons hA
  obtain ⟨v1, vs1, d1, ds1, p1, q1, rfl, rfl, rfl, h1, r1⟩ := ChangeShapes.trodAll_cons r0
  obtain ⟨rfl, rfl, rfl⟩ := ChangeShapes.trodAll_nil r1
  obtain rfl : args = #[v0, v1] := by cases args; simp_all
  have hg : gs = [] := by cases gs with | nil => rfl | cons _ _ => exact hV.elim
  subst hg
  have hb : Rows.uptoBulk d0 + Rows.uptoBulk d1 ≤ 1048576 := by
    have := of_decide_eq_true hk
    simp only [List.cons_append, List.nil_append, List.append_nil, Rows.uptoBulkAll] at this
    omega
  obtain ⟨n0, a0, e0, x0⟩ := arg_struct closed (by decide) Tryd.underlying24 (hval 0 _ v0 rfl rfl) h0
  obtain ⟨n1, a1, e1, x1⟩ := arg_struct closed (by decide) Tryd.underlying24 (hval 1 _ v1 rfl rfl) h1
  obtain ⟨t, f0, b1⟩ := term_form n0 d0 a0 e0
  obtain ⟨x, f1, b2⟩ := term_form n1 d1 a1 e1
  rw [f0] at x0; rw [f1] at x1
  have hc := law_calls (args := #[v0, v1]) (avs := [encT t, encT x]) (W := W) (variants_ac (fun i H hi => itoa_ac i H hi) t x (by omega) (by omega) []) (tabW_of hl) rfl (fun i hi hi' => by
    match i, hi with
    | 0, _ => exact x0
    | 1, _ => exact x1)
  refine hc.mono fun e W' ⟨he, hbl⟩ => ?_
  subst he
  exact ⟨_, rfl, post_law rfl ⟨rfl, rfl, rfl⟩ hW' hbl rfl Tryd.underlying4 laid readable⟩
noncomputable def laidWorld (os : Os) : World := { World.holding Tryd.prog os ⟨#[], #[], []⟩ with heap := ((((World.holding Tryd.prog os ⟨#[], #[], []⟩).heap).modify 2 (fun | .cells _ t fz => .cells #[.int .u8 0, .int .u8 1, .int .u8 28, .int .u8 2, .int .u8 29, .int .u8 14, .int .u8 24, .int .u8 3, .int .u8 30, .int .u8 22, .int .u8 20, .int .u8 15, .int .u8 25, .int .u8 17, .int .u8 4, .int .u8 8, .int .u8 31, .int .u8 27, .int .u8 13, .int .u8 23, .int .u8 21, .int .u8 19, .int .u8 16, .int .u8 7, .int .u8 26, .int .u8 12, .int .u8 18, .int .u8 6, .int .u8 11, .int .u8 5, .int .u8 10, .int .u8 9] t fz | o => o)).modify 3 (fun | .cells _ t fz => .cells #[.int .u8 0, .int .u8 1, .int .u8 56, .int .u8 2, .int .u8 57, .int .u8 49, .int .u8 28, .int .u8 3, .int .u8 61, .int .u8 58, .int .u8 42, .int .u8 50, .int .u8 38, .int .u8 29, .int .u8 17, .int .u8 4, .int .u8 62, .int .u8 47, .int .u8 59, .int .u8 36, .int .u8 45, .int .u8 43, .int .u8 51, .int .u8 22, .int .u8 53, .int .u8 39, .int .u8 33, .int .u8 30, .int .u8 24, .int .u8 18, .int .u8 12, .int .u8 5, .int .u8 63, .int .u8 55, .int .u8 48, .int .u8 27, .int .u8 60, .int .u8 41, .int .u8 37, .int .u8 16, .int .u8 46, .int .u8 35, .int .u8 44, .int .u8 21, .int .u8 52, .int .u8 32, .int .u8 23, .int .u8 11, .int .u8 54, .int .u8 26, .int .u8 40, .int .u8 15, .int .u8 34, .int .u8 20, .int .u8 31, .int .u8 10, .int .u8 25, .int .u8 14, .int .u8 19, .int .u8 9, .int .u8 13, .int .u8 8, .int .u8 7, .int .u8 6] t fz | o => o)).modify 1 (fun | .cells _ t fz => .cells #[.int .u64 1, .int .u64 10, .int .u64 100, .int .u64 1000, .int .u64 10000, .int .u64 100000, .int .u64 1000000, .int .u64 10000000, .int .u64 100000000, .int .u64 1000000000, .int .u64 10000000000, .int .u64 100000000000, .int .u64 1000000000000, .int .u64 10000000000000, .int .u64 100000000000000, .int .u64 1000000000000000, .int .u64 10000000000000000, .int .u64 100000000000000000, .int .u64 1000000000000000000, .int .u64 10000000000000000000] t fz | o => o) }
set_option maxRecDepth 100000 in
theorem laid_met (os : Os) : laidMet Tryd.prog Rows.termVariantsUptoRow.laid ((laidWorld os).forCall (fun _ _ => 0) ⟨#[], #[.agg #[.string ⟨#[]⟩, .bool false, .slice none 0 0], .agg #[.string ⟨#[]⟩, .bool false, .slice none 0 0]], []⟩).memory :=
  laidMet_of_run' 80 (by kernel_rfl) (by kernel_rfl)
set_option maxRecDepth 100000 in
theorem reads (os : Os) {H : Type} (enc : TypeId × Value → H) : ∃ places, DataW.whole enc Tryd.prog ((laidWorld os).forCall (fun _ _ => 0) ⟨#[], #[.agg #[.string ⟨#[]⟩, .bool false, .slice none 0 0], .agg #[.string ⟨#[]⟩, .bool false, .slice none 0 0]], []⟩).memory Tryd.f3.params.toList (Rows.OpenSpec.upto Rows.termVariantsSpec).vars false #[.agg #[.string ⟨#[]⟩, .bool false, .slice none 0 0], .agg #[.string ⟨#[]⟩, .bool false, .slice none 0 0]].toList 8 = some ([.agg [.lit (.string []), .lit (.bool false), .nil], .agg [.lit (.string []), .lit (.bool false), .nil]], [], places) := ⟨[], by kernel_rfl⟩
set_option maxRecDepth 100000 in
theorem lifted (os : Os) (started : os.Started) (H : Type) (enc : TypeId × Value → H) (F : Stop.Interp) :
    ReturnsInHanded {} Tryd.checked os 3 .any ((Rows.OpenSpec.upto Rows.termVariantsSpec).preRow enc Tryd.prog Tryd.f3 Rows.termVariantsUptoRow.domain false Rows.termVariantsUptoRow.laid) (((Rows.OpenSpec.upto Rows.termVariantsSpec).at F).post enc Tryd.prog Tryd.f3 false true false false) := by
  obtain ⟨places, hx⟩ := reads os enc
  refine returnsInHanded_of_row (C := Tryd.checked) (s := Rows.OpenSpec.upto Rows.termVariantsSpec) own started (by kernel_rfl) Tryd.func3
    (witness_row_at (enc := enc) (C := Tryd.checked) false (laidWorld os) #[.agg #[.string ⟨#[]⟩, .bool false, .slice none 0 0], .agg #[.string ⟨#[]⟩, .bool false, .slice none 0 0]] rfl (by kernel_rfl) (by kernel_rfl) (by kernel_rfl)
      (OpenSpec.preRow_of_cond 8 hx (by kernel_rfl) (fun k hk => by cases hk; kernel_rfl) (by kernel_rfl) (laid_met os))) ?_
  intro W base args ds gs before hval hW _ hk _ hl _ _
  exact contract H enc W base args ds gs before hval hW (hk _ rfl) hl
theorem over : Rows.TermVariantsUptoSaid :=
  OpenClaim.holds_of_cond 3 Tryd.f3 rfl rfl rfl rfl rfl rfl rfl ⟨rfl, rfl, rfl, rfl, rfl⟩ rfl rfl rfl rfl rfl (by kernel_rfl) Tryd.func3 (by kernel_rfl)
    (of_decide_eq_true (by kernel_rfl)) (by unfold Func.isWrapper; first | (rw [if_pos (by decide +kernel)]; kernel_rfl) | (rw [if_neg (by decide +kernel)]; exact ⟨rfl, rfl⟩))
    (fun os started H enc _ F => by rw [OpenClaim.pre_eq_preRow]; exact lifted os started H enc F)
theorem plain (f : FuncId) (fn : Func) (hf : Tryd.pinned.checked.prog.funcNamed "dwindle/dwindlelaw01.TermVariants" = some f) (hfn : Tryd.pinned.checked.prog.funcs[f]? = some fn) :
    false = Tryd.pinned.checked.prog.looks [] ∧ ∀ (j : Nat) t, fn.params[j]? = some t → Tryd.pinned.checked.prog.wantsStandIn t = false := by
  obtain rfl : f = 3 := Option.some.inj ((show Tryd.prog.funcNamed "dwindle/dwindlelaw01.TermVariants" = some 3 by kernel_rfl).symm.trans hf) |>.symm
  obtain rfl : fn = Tryd.f3 := (Option.some.inj (Tryd.func3.symm.trans hfn)).symm
  refine ⟨by kernel_rfl, fun j t ht => ?_⟩
  rw [Tryd.params3] at ht
  have hm := Array.mem_of_getElem? ht
  simp only [List.mem_toArray, List.mem_cons, List.not_mem_nil, or_false] at hm
  rcases hm with rfl | rfl
  · exact (show Tryd.prog.wantsStandIn 24 = false by kernel_rfl)
  · exact (show Tryd.prog.wantsStandIn 24 = false by kernel_rfl)
end vrt
theorem termVariants_card : Rows.TermVariantsUptoCardSaid :=
  Claim7.holds_tied_plain_at .later [] _ _ _ _ vrt.over (fun _ h => by cases h) (by kernel_rfl) (fun _ h => by cases h) termVariantsUpto_row_tie rfl ⟨rfl, rfl⟩ (by kernel_rfl) rfl vrt.plain (by kernel_rfl)
end Go.Proofs.YtakpnikkcinckaaDoor
