/- Part 5 of 5 of a proof. Rewriting is closed under substitutions and contexts: if t rewrites to u, every instance of t rewrites to the same instance of u with the same step, and every term that contains t at a position rewrites to the same term with u there. -/
import Derived.Test.YtgbmjnpbojcbdaaGreatRc4
set_option linter.unusedVariables false
set_option linter.unusedSimpArgs false
set_option maxRecDepth 10000
namespace Ab
open Go Go.Proofs
theorem gSl_ex (k : Nat) (xs : List AV) : ∃ tk, gSl k xs = .sl tk xs := by cases xs <;> exact ⟨_, rfl⟩
theorem inner_ac (rs : List (Term × Term)) (hr : SysB rs) (t : Term) : t.bulk ≤ 1000000000 → ∀ p : List Int, p.length + t.depth ≤ 1099511627000 → ∀ H, ACall Tryz.prog 75 [.sl .none (encL encRu rs), encT t, .sl .none (encP p)] H (fun r H' => r = .sl .none (encL encSt (innT rs t p)) ∧ H' = H) := by
  induction t using Term.ind with | _ n u xs ih
  intro hb p hp H
  have hlx := Term.len_le (n := n) (v := u) (xs := xs)
  have hsz := (Term.mk n u xs).size_le
  rw [Term.size_mk] at hsz
  rw [Term.depth_mk] at hp
  have hr1 := hr.1
  have hcnt : ∀ i, (innL rs (xs.take i) 0 p).length ≤ 64 * 1000000000 := fun i => by
    have h1 := innL_len rs p (xs.take i) 0
    have h2 := take_sum_le Term.size xs i
    have h3 : ((xs.take i).map Term.size).sum * rs.length ≤ 1000000000 * 64 := Nat.mul_le_mul (by omega) hr1
    omega
  refine ACall_VA (H.length) 34 [.tmp 6] Tryz.func75 rfl rfl rfl ?_
  refine AW_reserve 1 ?_
  refine AW_of_W ?_
  simp only [push_cast, Nat.reduceAdd, Nat.reduceSub, Nat.reduceMul, Nat.reduceLT, Nat.reduceLeDiff, Nat.reduceEqDiff, Int.reduceToNat, ↓reduceIte]
  refine AW_loopW (maskG 37 [0, 1, 1, 2, 3, 0, 0]) (fun (i : Nat) => [(13, .int .i64 i), (7, gSl H.length (encL encSt (innL rs (xs.take i) 0 p)))]) (fun i => H ++ [gTok 48 2 (encL encSt (innL rs (xs.take i) 0 p)), .cells [.str n, .bool u, .sl .none (encTs xs)]]) (fun i => i ≤ xs.length) (fun i => xs.length - i) 0 (Nat.zero_le _) (by simp only [push_cast, Nat.reduceAdd, Nat.reduceSub, Nat.reduceMul, Nat.reduceLT, Nat.reduceLeDiff, Nat.reduceEqDiff, Int.reduceToNat, ↓reduceIte, List.take_zero, innL_nil, encL_nil]) (fun i hi => ?_)
  simp only [push_cast, Nat.reduceAdd, Nat.reduceSub, Nat.reduceMul, Nat.reduceLT, Nat.reduceLeDiff, Nat.reduceEqDiff, Int.reduceToNat, ↓reduceIte]
  refine cI (fun h => ?_) (fun h => ?_)
  · have hil : i < xs.length := by omega
    repeat refine ⟨by omega, ?_⟩
    have hmem := List.getElem_mem hil
    have hdx := (le_foldl_max Term.depth xs 0).2 _ hmem
    have hbx := Term.arg_le (n := n) (v := u) hmem
    have hst := innL_take rs xs p i hil
    have hc1 := hcnt i
    have hc2 := inn_len rs xs[i] (p ++ [(i : Int)])
    have hc3 : xs[i].size * rs.length ≤ 1000000000 * 64 := Nat.mul_le_mul (by have := xs[i].size_le; omega) hr1
    have ih' := fun X => ih _ hmem (by omega) (p ++ [(i : Int)]) (by simp; omega) X
    by_cases hp0 : p = []
    · skip
      apply AW_drawO [[7], [], [], [], [], [], [], [], [], [], []] [some 18, some 19, some 20, some 21, some 22, some 23, some 24, some 25, some 26, some 27, some 7] [([false, false, false, false], _), ([true, false, false, false], _), ([true, true, false, false], _), ([true, true, true, false], _), ([true, true, true, true], _)] [none, none, none, none, some 0, none, none, some 1, some 2, some 3, none] 4 [(0, [false, false, false, false], [7]), (1, [false, false, false, false], [0]), (2, [false, false, false, false], [9]), (3, [false, false, false, false], [2]), (4, [false, false, false, false], [21]), (5, [true, false, false, false], [8]), (6, [true, false, false, false], [23]), (7, [true, false, false, false], [22, 1]), (8, [true, true, false, false], [19, 0, 4]), (9, [true, true, true, false], [18, 7]), (10, [true, true, true, true], [27]), (0, [true, false, false, false], [7]), (0, [true, true, false, false], [7]), (0, [true, true, true, false], [7]), (1, [true, false, false, false], [0]), (1, [true, true, false, false], [0]), (2, [true, false, false, false], [9]), (2, [true, true, false, false], [9]), (5, [false, false, false, false], [8]), (5, [true, true, false, false], [8]), (5, [true, true, true, false], [8]), (5, [true, true, true, true], [8]), (6, [false, false, false, false], [23])] [_, _, _, _, _, _, _, _, _, _, _]
      case' hm => exact dr
      case' hn => rfl
      case' hok => rfl
      case' hlen => rfl
      case' hd => rfl
      case' h0 => rfl
      case' hstep =>
       simp only [DAllO, push_cast, Option.isSome_some, Option.isSome_none]
       repeat' apply And.intro
       all_goals (apply DOne_V; simp only [push_cast, Nat.reduceAdd, Nat.reduceSub, Nat.reduceMul, Nat.reduceLT, Nat.reduceLeDiff, Nat.reduceEqDiff, Int.reduceToNat, ↓reduceIte] <;> first | exact rfl | omega | exact ⟨rfl, rfl⟩ | exact trivial | exact ⟨by omega, rfl⟩ | exact ⟨by omega, by omega, rfl⟩ | exact ⟨by omega, rfl, rfl⟩ | exact ⟨by omega, by omega, rfl, rfl⟩ | (refine (clone_ac p (by omega) _).mono ?_; rintro r H' (⟨hcl, rfl, rfl⟩ | ⟨hcl, rfl, rfl⟩) <;> first | exact absurd hp0 hcl | exact ⟨rfl, rfl⟩) | (refine AOp_append_zero _ _ _ rfl rfl sl46 sz3 by3 zr3 rfl (by decide) (by intro x hx; simp at hx; subst hx; rfl) (by simp [flat, AV.cells, AV.isCell]) (by simp) (by simp) (by simp) ?_; simp only [push_cast, Nat.reduceAdd, Nat.reduceSub, Nat.reduceMul, Nat.reduceLT, Nat.reduceLeDiff, Nat.reduceEqDiff, Int.reduceToNat, ↓reduceIte]; exact ⟨rfl, rfl⟩) | (refine ACall.forget (args' := [.sl .none (encL encRu rs), encT xs[i], .sl .none (encP (p ++ [(i : Int)]))]) ⟨Forget.refl _, Forget.refl _, by first | (rw [← encP_snoc]; exact Forget.tok _ _) | (have he : encP (p ++ [(i : Int)]) = [.int .i64 i] := (by rw [hp0]; rfl); rw [he]; exact Forget.tok _ _), trivial⟩ ((ih' _).to ⟨rfl, rfl⟩)) | (refine app_L encSt (sz := 2) (fun _ => rfl) cellSt _ H.length (innL rs (xs.take i) 0 p) (innT rs xs[i] (p ++ [(i : Int)])) _ rfl rfl (by exact aget0 _ _ _) sl27 sz48 by48 zr48 rfl (by decide) (by decide) (by omega) ?_; simp only [push_cast, Nat.reduceAdd, Nat.reduceSub, Nat.reduceMul, Nat.reduceLT, Nat.reduceLeDiff, Nat.reduceEqDiff, Int.reduceToNat, ↓reduceIte]; exact ⟨rfl, rfl⟩))
      case' hQ => skip
      rw [← hst]
      simp only [push_cast, Nat.reduceAdd, Nat.reduceSub, Nat.reduceMul, Nat.reduceLT, Nat.reduceLeDiff, Nat.reduceEqDiff, Int.reduceToNat, ↓reduceIte]
      repeat' first | refine ⟨by omega, ?_⟩ | refine cI (fun _ => ?_) (fun _ => ?_)
      exact loopW_n (i + 1) (by omega) (by omega) (by simp only [push_cast, Nat.reduceAdd, Nat.reduceSub, Nat.reduceMul, Nat.reduceLT, Nat.reduceLeDiff, Nat.reduceEqDiff, Int.reduceToNat, ↓reduceIte])
    · skip
      apply AW_drawO [[7], [], [], [], [], [], [], [], [], [], []] [some 18, some 19, some 20, some 21, some 22, some 23, some 24, some 25, some 26, some 27, some 7] [([false, false, false, false], _), ([true, false, false, false], _), ([true, true, false, false], _), ([true, true, true, false], _), ([true, true, true, true], _)] [none, none, none, none, some 0, none, none, some 1, some 2, some 3, none] 4 [(0, [false, false, false, false], [7]), (1, [false, false, false, false], [0]), (2, [false, false, false, false], [9]), (3, [false, false, false, false], [2]), (4, [false, false, false, false], [21]), (5, [true, false, false, false], [8]), (6, [true, false, false, false], [23]), (7, [true, false, false, false], [22, 1]), (8, [true, true, false, false], [19, 0, 4]), (9, [true, true, true, false], [18, 7]), (10, [true, true, true, true], [27]), (0, [true, false, false, false], [7]), (0, [true, true, false, false], [7]), (0, [true, true, true, false], [7]), (1, [true, false, false, false], [0]), (1, [true, true, false, false], [0]), (2, [true, false, false, false], [9]), (2, [true, true, false, false], [9]), (5, [false, false, false, false], [8]), (5, [true, true, false, false], [8]), (5, [true, true, true, false], [8]), (5, [true, true, true, true], [8]), (6, [false, false, false, false], [23])] [_, _, _, _, _, _, _, _, _, _, _]
      case' hm => exact dr
      case' hn => rfl
      case' hok => rfl
      case' hlen => rfl
      case' hd => rfl
      case' h0 => rfl
      case' hstep =>
       simp only [DAllO, push_cast, Option.isSome_some, Option.isSome_none]
       repeat' apply And.intro
       all_goals (apply DOne_V; simp only [push_cast, Nat.reduceAdd, Nat.reduceSub, Nat.reduceMul, Nat.reduceLT, Nat.reduceLeDiff, Nat.reduceEqDiff, Int.reduceToNat, ↓reduceIte] <;> first | exact rfl | omega | exact ⟨rfl, rfl⟩ | exact trivial | exact ⟨by omega, rfl⟩ | exact ⟨by omega, by omega, rfl⟩ | exact ⟨by omega, rfl, rfl⟩ | exact ⟨by omega, by omega, rfl, rfl⟩ | (refine (clone_ac p (by omega) _).mono ?_; rintro r H' (⟨hcl, rfl, rfl⟩ | ⟨hcl, rfl, rfl⟩) <;> first | exact absurd hcl hp0 | exact ⟨rfl, rfl⟩) | (refine AOp_append_own _ _ _ _ _ rfl rfl (by rw [encP_length]; exact (by exact (agetN _ _ 3).trans rfl)) sl46 sz3 by3 zr3 rfl (by decide) (uni_encP p) (by intro x hx; simp at hx; subst hx; rfl) (by simp [flat, AV.cells, AV.isCell]) (by simp only [encP_length, List.length_cons, List.length_nil]; omega) (by simp only [encP_length, List.length_cons, List.length_nil]; omega) ?_; simp only [push_cast, Nat.reduceAdd, Nat.reduceSub, Nat.reduceMul, Nat.reduceLT, Nat.reduceLeDiff, Nat.reduceEqDiff, Int.reduceToNat, ↓reduceIte]; exact ⟨rfl, rfl⟩) | (refine ACall.forget (args' := [.sl .none (encL encRu rs), encT xs[i], .sl .none (encP (p ++ [(i : Int)]))]) ⟨Forget.refl _, Forget.refl _, by first | (rw [← encP_snoc]; exact Forget.tok _ _) | (have he : encP (p ++ [(i : Int)]) = [.int .i64 i] := (by rw [hp0]; rfl); rw [he]; exact Forget.tok _ _), trivial⟩ ((ih' _).to ⟨rfl, rfl⟩)) | (refine app_L encSt (sz := 2) (fun _ => rfl) cellSt _ H.length (innL rs (xs.take i) 0 p) (innT rs xs[i] (p ++ [(i : Int)])) _ rfl rfl (by exact aget0 _ _ _) sl27 sz48 by48 zr48 rfl (by decide) (by decide) (by omega) ?_; simp only [push_cast, Nat.reduceAdd, Nat.reduceSub, Nat.reduceMul, Nat.reduceLT, Nat.reduceLeDiff, Nat.reduceEqDiff, Int.reduceToNat, ↓reduceIte]; exact ⟨rfl, rfl⟩))
      case' hQ => skip
      rw [← hst]
      simp only [push_cast, Nat.reduceAdd, Nat.reduceSub, Nat.reduceMul, Nat.reduceLT, Nat.reduceLeDiff, Nat.reduceEqDiff, Int.reduceToNat, ↓reduceIte]
      repeat' first | refine ⟨by omega, ?_⟩ | refine cI (fun _ => ?_) (fun _ => ?_)
      exact loopW_n (i + 1) (by omega) (by omega) (by simp only [push_cast, Nat.reduceAdd, Nat.reduceSub, Nat.reduceMul, Nat.reduceLT, Nat.reduceLeDiff, Nat.reduceEqDiff, Int.reduceToNat, ↓reduceIte])
  · rw [List.take_of_length_le (show xs.length ≤ i by omega)]
    obtain ⟨tk, htk⟩ := gSl_ex H.length (encL encSt (innL rs xs 0 p))
    rw [htk]
    simp only [push_cast, Nat.reduceAdd, Nat.reduceSub, Nat.reduceMul, Nat.reduceLT, Nat.reduceLeDiff, Nat.reduceEqDiff, Int.reduceToNat, ↓reduceIte]
    refine cI (fun hl => ?_) (fun hl => ?_)
    · have hne : innL rs xs 0 p ≠ [] := fun e => by rw [e] at hl; simp at hl
      have e : innT rs (.mk n u xs) p = innL rs xs 0 p := if_neg hne
      rw [e]
    · have he : innL rs xs 0 p = [] := by
        cases hq : innL rs xs 0 p with
        | nil => rfl
        | cons a r => rw [hq] at hl; simp at hl
      have e : innT rs (.mk n u xs) p = atV rs p (.mk n u xs) := if_pos he
      refine (at_ac' rs hr p (by omega) (.mk n u xs) (by omega) _).to ?_
      simp only [push_cast, Nat.reduceAdd, Nat.reduceSub, Nat.reduceMul, Nat.reduceLT, Nat.reduceLeDiff, Nat.reduceEqDiff, Int.reduceToNat, ↓reduceIte, e]
theorem walkL_at : ∀ (xs : List Term) (i : Nat) (p : List Int) x, x ∈ walkL xs i p → ∃ k : Nat, ∃ h : k < xs.length, ∃ q, x.1 = p ++ ((i + k : Nat) : Int) :: q ∧ atP xs[k] q = some x.2
  | [], _, _, x, hx => by simp [walkL] at hx
  | .mk n v ys :: r, i, p, x, hx => by
    rw [walkL_cons, List.mem_append] at hx
    rcases hx with hx | hx
    · refine ⟨0, by simp, ?_⟩
      simp only [walkT, List.mem_cons, Term.mk_args] at hx
      rcases hx with rfl | hx
      · exact ⟨[], by simp, by simp [atP]⟩
      · obtain ⟨k, h, q, h1, h2⟩ := walkL_at ys 0 (p ++ [(i : Int)]) x hx
        refine ⟨((0 + k : Nat) : Int) :: q, by rw [h1]; simp, ?_⟩
        have := (at_step (.mk n v ys) ((0 + k : Nat) : Int) q).1 ⟨by omega, by show (((0 + k : Nat) : Int)).toNat < ys.length; omega⟩
        simp only [List.getElem_cons_zero]
        rw [this, ← h2]
        congr 1
        show ys[_] = ys[_]
        congr 1; omega
    · obtain ⟨k, h, q, h1, h2⟩ := walkL_at r (i + 1) p x (by exact_mod_cast hx)
      refine ⟨k + 1, by simpa using h, q, by rw [h1]; congr 2; omega, by simpa using h2⟩
theorem walk_at (t : Term) (x : List Int × Term) (h : x ∈ walkT t []) : atP t x.1 = some x.2 := by
  cases t with
  | mk n v ys =>
    simp only [walkT, List.mem_cons, Term.mk_args] at h
    rcases h with rfl | h
    · simp [atP]
    · obtain ⟨k, hk, q, h1, h2⟩ := walkL_at ys 0 [] x h
      rw [h1]
      have := (at_step (.mk n v ys) ((0 + k : Nat) : Int) q).1 ⟨by omega, by show (((0 + k : Nat) : Int)).toNat < ys.length; omega⟩
      rw [List.nil_append, this, ← h2]
      congr 1
      show ys[_] = ys[_]
      congr 1; omega
theorem outer_ac (rs : List (Term × Term)) (hr : SysB rs) (t : Term) : t.bulk ≤ 1000000000 → ∀ p : List Int, p.length + t.depth ≤ 1099511627000 → ∀ H, ACall Tryz.prog 76 [.sl .none (encL encRu rs), encT t, .sl .none (encP p)] H (fun r H' => r = .sl .none (encL encSt (outT rs t p)) ∧ H' = H) := by
  induction t using Term.ind with | _ n u xs ih
  intro hb p hp H
  have hlx := Term.len_le (n := n) (v := u) (xs := xs)
  have hsz := (Term.mk n u xs).size_le
  rw [Term.size_mk] at hsz
  rw [Term.depth_mk] at hp
  have hr1 := hr.1
  have hcnt : ∀ i, (outL rs (xs.take i) 0 p).length ≤ 64 * 1000000000 := fun i => by
    have h1 := outL_len' rs p (xs.take i) 0
    have h2 := take_sum_le Term.size xs i
    have h3 : ((xs.take i).map Term.size).sum * rs.length ≤ 1000000000 * 64 := Nat.mul_le_mul (by omega) hr1
    omega
  refine ACall_VA (H.length) 36 [.tmp 6] Tryz.func76 rfl rfl rfl ?_
  refine AW_reserve 1 ?_
  refine AW_of_W ?_
  simp only [push_cast, Nat.reduceAdd, Nat.reduceSub, Nat.reduceMul, Nat.reduceLT, Nat.reduceLeDiff, Nat.reduceEqDiff, Int.reduceToNat, ↓reduceIte]
  refine (at_ac' rs hr p (by omega) (.mk n u xs) (by omega) _).to ?_
  simp only [push_cast, Nat.reduceAdd, Nat.reduceSub, Nat.reduceMul, Nat.reduceLT, Nat.reduceLeDiff, Nat.reduceEqDiff, Int.reduceToNat, ↓reduceIte]
  refine cI (fun hl => ?_) (fun hl => ?_)
  · have hne : atV rs p (.mk n u xs) ≠ [] := fun e => by rw [e] at hl; simp at hl
    have e : outT rs (.mk n u xs) p = atV rs p (.mk n u xs) := if_neg hne
    simp only [push_cast, Nat.reduceAdd, Nat.reduceSub, Nat.reduceMul, Nat.reduceLT, Nat.reduceLeDiff, Nat.reduceEqDiff, Int.reduceToNat, ↓reduceIte, e]
  · have he : atV rs p (.mk n u xs) = [] := by
      cases hq : atV rs p (.mk n u xs) with
      | nil => rfl
      | cons a r => rw [hq] at hl; simp at hl
    have e : outT rs (.mk n u xs) p = outL rs xs 0 p := if_pos he
    rw [e]
    refine AW_loopW (maskG 39 [0, 1, 5, 11, 0, 0]) (fun (i : Nat) => [(22, .int .i64 i), (8, gSl H.length (encL encSt (outL rs (xs.take i) 0 p)))]) (fun i => H ++ [gTok 48 2 (encL encSt (outL rs (xs.take i) 0 p)), .cells [.str n, .bool u, .sl .none (encTs xs)]]) (fun i => i ≤ xs.length) (fun i => xs.length - i) 0 (Nat.zero_le _) (by simp only [push_cast, Nat.reduceAdd, Nat.reduceSub, Nat.reduceMul, Nat.reduceLT, Nat.reduceLeDiff, Nat.reduceEqDiff, Int.reduceToNat, ↓reduceIte, List.take_zero, outL_nil', encL_nil]) (fun i hi => ?_)
    simp only [push_cast, Nat.reduceAdd, Nat.reduceSub, Nat.reduceMul, Nat.reduceLT, Nat.reduceLeDiff, Nat.reduceEqDiff, Int.reduceToNat, ↓reduceIte]
    refine cI (fun h => ?_) (fun h => ?_)
    · have hil : i < xs.length := by omega
      repeat refine ⟨by omega, ?_⟩
      have hmem := List.getElem_mem hil
      have hdx := (le_foldl_max Term.depth xs 0).2 _ hmem
      have hbx := Term.arg_le (n := n) (v := u) hmem
      have hst := outL_take' rs xs p i hil
      have hc1 := hcnt i
      have hc2 := out_len rs xs[i] (p ++ [(i : Int)])
      have hc3 : xs[i].size * rs.length ≤ 1000000000 * 64 := Nat.mul_le_mul (by have := xs[i].size_le; omega) hr1
      have ih' := fun X => ih _ hmem (by omega) (p ++ [(i : Int)]) (by simp; omega) X
      by_cases hp0 : p = []
      · skip
        apply AW_drawO [[8], [], [], [], [], [], [], [], [], [], []] [some 27, some 28, some 29, some 30, some 31, some 32, some 33, some 34, some 35, some 36, some 8] [([false, false, false, false], _), ([true, false, false, false], _), ([true, true, false, false], _), ([true, true, true, false], _), ([true, true, true, true], _)] [none, none, none, none, some 0, none, none, some 1, some 2, some 3, none] 4 [(0, [false, false, false, false], [8]), (1, [false, false, false, false], [0]), (2, [false, false, false, false], [10]), (3, [false, false, false, false], [2]), (4, [false, false, false, false], [30]), (5, [true, false, false, false], [9]), (6, [true, false, false, false], [32]), (7, [true, false, false, false], [31, 1]), (8, [true, true, false, false], [28, 0, 4]), (9, [true, true, true, false], [27, 7]), (10, [true, true, true, true], [36]), (0, [true, false, false, false], [8]), (0, [true, true, false, false], [8]), (0, [true, true, true, false], [8]), (1, [true, false, false, false], [0]), (1, [true, true, false, false], [0]), (2, [true, false, false, false], [10]), (2, [true, true, false, false], [10]), (5, [false, false, false, false], [9]), (5, [true, true, false, false], [9]), (5, [true, true, true, false], [9]), (5, [true, true, true, true], [9]), (6, [false, false, false, false], [32])] [_, _, _, _, _, _, _, _, _, _, _]
        case' hm => exact dr
        case' hn => rfl
        case' hok => rfl
        case' hlen => rfl
        case' hd => rfl
        case' h0 => rfl
        case' hstep =>
         simp only [DAllO, push_cast, Option.isSome_some, Option.isSome_none]
         repeat' apply And.intro
         all_goals (apply DOne_V; simp only [push_cast, Nat.reduceAdd, Nat.reduceSub, Nat.reduceMul, Nat.reduceLT, Nat.reduceLeDiff, Nat.reduceEqDiff, Int.reduceToNat, ↓reduceIte] <;> first | exact rfl | omega | exact ⟨rfl, rfl⟩ | exact trivial | exact ⟨by omega, rfl⟩ | exact ⟨by omega, by omega, rfl⟩ | exact ⟨by omega, rfl, rfl⟩ | exact ⟨by omega, by omega, rfl, rfl⟩ | (refine (clone_ac p (by omega) _).mono ?_; rintro r H' (⟨hcl, rfl, rfl⟩ | ⟨hcl, rfl, rfl⟩) <;> first | exact absurd hp0 hcl | exact ⟨rfl, rfl⟩) | (refine AOp_append_zero _ _ _ rfl rfl sl46 sz3 by3 zr3 rfl (by decide) (by intro x hx; simp at hx; subst hx; rfl) (by simp [flat, AV.cells, AV.isCell]) (by simp) (by simp) (by simp) ?_; simp only [push_cast, Nat.reduceAdd, Nat.reduceSub, Nat.reduceMul, Nat.reduceLT, Nat.reduceLeDiff, Nat.reduceEqDiff, Int.reduceToNat, ↓reduceIte]; exact ⟨rfl, rfl⟩) | (refine ACall.forget (args' := [.sl .none (encL encRu rs), encT xs[i], .sl .none (encP (p ++ [(i : Int)]))]) ⟨Forget.refl _, Forget.refl _, by first | (rw [← encP_snoc]; exact Forget.tok _ _) | (have he : encP (p ++ [(i : Int)]) = [.int .i64 i] := (by rw [hp0]; rfl); rw [he]; exact Forget.tok _ _), trivial⟩ ((ih' _).to ⟨rfl, rfl⟩)) | (refine app_L encSt (sz := 2) (fun _ => rfl) cellSt _ H.length (outL rs (xs.take i) 0 p) (outT rs xs[i] (p ++ [(i : Int)])) _ rfl rfl (by exact aget0 _ _ _) sl27 sz48 by48 zr48 rfl (by decide) (by decide) (by omega) ?_; simp only [push_cast, Nat.reduceAdd, Nat.reduceSub, Nat.reduceMul, Nat.reduceLT, Nat.reduceLeDiff, Nat.reduceEqDiff, Int.reduceToNat, ↓reduceIte]; exact ⟨rfl, rfl⟩))
        case' hQ => skip
        rw [← hst]
        simp only [push_cast, Nat.reduceAdd, Nat.reduceSub, Nat.reduceMul, Nat.reduceLT, Nat.reduceLeDiff, Nat.reduceEqDiff, Int.reduceToNat, ↓reduceIte]
        repeat' first | refine ⟨by omega, ?_⟩ | refine cI (fun _ => ?_) (fun _ => ?_)
        exact loopW_n (i + 1) (by omega) (by omega) (by simp only [push_cast, Nat.reduceAdd, Nat.reduceSub, Nat.reduceMul, Nat.reduceLT, Nat.reduceLeDiff, Nat.reduceEqDiff, Int.reduceToNat, ↓reduceIte])
      · skip
        apply AW_drawO [[8], [], [], [], [], [], [], [], [], [], []] [some 27, some 28, some 29, some 30, some 31, some 32, some 33, some 34, some 35, some 36, some 8] [([false, false, false, false], _), ([true, false, false, false], _), ([true, true, false, false], _), ([true, true, true, false], _), ([true, true, true, true], _)] [none, none, none, none, some 0, none, none, some 1, some 2, some 3, none] 4 [(0, [false, false, false, false], [8]), (1, [false, false, false, false], [0]), (2, [false, false, false, false], [10]), (3, [false, false, false, false], [2]), (4, [false, false, false, false], [30]), (5, [true, false, false, false], [9]), (6, [true, false, false, false], [32]), (7, [true, false, false, false], [31, 1]), (8, [true, true, false, false], [28, 0, 4]), (9, [true, true, true, false], [27, 7]), (10, [true, true, true, true], [36]), (0, [true, false, false, false], [8]), (0, [true, true, false, false], [8]), (0, [true, true, true, false], [8]), (1, [true, false, false, false], [0]), (1, [true, true, false, false], [0]), (2, [true, false, false, false], [10]), (2, [true, true, false, false], [10]), (5, [false, false, false, false], [9]), (5, [true, true, false, false], [9]), (5, [true, true, true, false], [9]), (5, [true, true, true, true], [9]), (6, [false, false, false, false], [32])] [_, _, _, _, _, _, _, _, _, _, _]
        case' hm => exact dr
        case' hn => rfl
        case' hok => rfl
        case' hlen => rfl
        case' hd => rfl
        case' h0 => rfl
        case' hstep =>
         simp only [DAllO, push_cast, Option.isSome_some, Option.isSome_none]
         repeat' apply And.intro
         all_goals (apply DOne_V; simp only [push_cast, Nat.reduceAdd, Nat.reduceSub, Nat.reduceMul, Nat.reduceLT, Nat.reduceLeDiff, Nat.reduceEqDiff, Int.reduceToNat, ↓reduceIte] <;> first | exact rfl | omega | exact ⟨rfl, rfl⟩ | exact trivial | exact ⟨by omega, rfl⟩ | exact ⟨by omega, by omega, rfl⟩ | exact ⟨by omega, rfl, rfl⟩ | exact ⟨by omega, by omega, rfl, rfl⟩ | (refine (clone_ac p (by omega) _).mono ?_; rintro r H' (⟨hcl, rfl, rfl⟩ | ⟨hcl, rfl, rfl⟩) <;> first | exact absurd hcl hp0 | exact ⟨rfl, rfl⟩) | (refine AOp_append_own _ _ _ _ _ rfl rfl (by rw [encP_length]; exact (by exact (agetN _ _ 3).trans rfl)) sl46 sz3 by3 zr3 rfl (by decide) (uni_encP p) (by intro x hx; simp at hx; subst hx; rfl) (by simp [flat, AV.cells, AV.isCell]) (by simp only [encP_length, List.length_cons, List.length_nil]; omega) (by simp only [encP_length, List.length_cons, List.length_nil]; omega) ?_; simp only [push_cast, Nat.reduceAdd, Nat.reduceSub, Nat.reduceMul, Nat.reduceLT, Nat.reduceLeDiff, Nat.reduceEqDiff, Int.reduceToNat, ↓reduceIte]; exact ⟨rfl, rfl⟩) | (refine ACall.forget (args' := [.sl .none (encL encRu rs), encT xs[i], .sl .none (encP (p ++ [(i : Int)]))]) ⟨Forget.refl _, Forget.refl _, by first | (rw [← encP_snoc]; exact Forget.tok _ _) | (have he : encP (p ++ [(i : Int)]) = [.int .i64 i] := (by rw [hp0]; rfl); rw [he]; exact Forget.tok _ _), trivial⟩ ((ih' _).to ⟨rfl, rfl⟩)) | (refine app_L encSt (sz := 2) (fun _ => rfl) cellSt _ H.length (outL rs (xs.take i) 0 p) (outT rs xs[i] (p ++ [(i : Int)])) _ rfl rfl (by exact aget0 _ _ _) sl27 sz48 by48 zr48 rfl (by decide) (by decide) (by omega) ?_; simp only [push_cast, Nat.reduceAdd, Nat.reduceSub, Nat.reduceMul, Nat.reduceLT, Nat.reduceLeDiff, Nat.reduceEqDiff, Int.reduceToNat, ↓reduceIte]; exact ⟨rfl, rfl⟩))
        case' hQ => skip
        rw [← hst]
        simp only [push_cast, Nat.reduceAdd, Nat.reduceSub, Nat.reduceMul, Nat.reduceLT, Nat.reduceLeDiff, Nat.reduceEqDiff, Int.reduceToNat, ↓reduceIte]
        repeat' first | refine ⟨by omega, ?_⟩ | refine cI (fun _ => ?_) (fun _ => ?_)
        exact loopW_n (i + 1) (by omega) (by omega) (by simp only [push_cast, Nat.reduceAdd, Nat.reduceSub, Nat.reduceMul, Nat.reduceLT, Nat.reduceLeDiff, Nat.reduceEqDiff, Int.reduceToNat, ↓reduceIte])
    · simp only [push_cast, Nat.reduceAdd, Nat.reduceSub, Nat.reduceMul, Nat.reduceLT, Nat.reduceLeDiff, Nat.reduceEqDiff, Int.reduceToNat, ↓reduceIte, List.take_of_length_le (show xs.length ≤ i by omega)]
theorem allSteps_ac (rs : List (Term × Term)) (hr : SysB rs) (t : Term) (hb : t.bulk ≤ 1000000000) (H : List AObj) : ACall Tryz.prog 46 [.sl .none (encL encRu rs), encT t] H (fun r H' => r = .sl .none (encL encSt (allS rs t)) ∧ H' = H) := by
  have hsz := t.size_le
  have hr1 := hr.1
  refine ACall_V (H.length) 17 [.tmp 4] Tryz.func46 rfl rfl rfl ?_
  simp only [push_cast, Nat.reduceAdd, Nat.reduceSub, Nat.reduceMul, Nat.reduceLT, Nat.reduceLeDiff, Nat.reduceEqDiff, Int.reduceToNat, ↓reduceIte]
  refine (walkF_ac t _).to ?_
  simp only [push_cast, Nat.reduceAdd, Nat.reduceSub, Nat.reduceMul, Nat.reduceLT, Nat.reduceLeDiff, Nat.reduceEqDiff, Int.reduceToNat, ↓reduceIte]
  refine AW_reserve 1 ?_
  refine AW_iterW _ _ (walk_iter t (by omega) _) H (fun pre => [.cells [.sl .none (encL encRu rs)], .cells [.str t.name, .bool t.var, .sl .none (encTs t.args)], .cells [gSl (H.length + 4) (encL encSt (allI rs pre))], .cells [.str t.name, .bool t.var, .sl .none (encTs t.args)], gTok 48 2 (encL encSt (allI rs pre))]) 5 (fun _ _ => none) rfl ok112 (by simp only [push_cast, Nat.reduceAdd, Nat.reduceSub, Nat.reduceMul, Nat.reduceLT, Nat.reduceLeDiff, Nat.reduceEqDiff, Int.reduceToNat, ↓reduceIte, allI_nil, encL_nil]) (fun _ => rfl) (fun lp => by simp only [push_cast, Nat.reduceAdd, Nat.reduceSub, Nat.reduceMul, Nat.reduceLT, Nat.reduceLeDiff, Nat.reduceEqDiff, Int.reduceToNat, ↓reduceIte]) (fun p => by simp only [push_cast, Nat.reduceAdd, Nat.reduceSub, Nat.reduceMul, Nat.reduceLT, Nat.reduceLeDiff, Nat.reduceEqDiff, Int.reduceToNat, ↓reduceIte]) (fun _ => rfl) (fun pre x suf X l lp lp' he hn => ?_) (fun _ lp => ?_) (fun pre x suf c lp _ _ h => by cases h)
  · have hx := walk_pos_len t [] x (by rw [he]; simp)
    have hxb : x.2.bulk ≤ t.bulk := (at_bulk _ _ _ (walk_at t x (by rw [he]; simp)))
    have hpl : pre.length < t.size := by have := walkT_length t []; rw [he] at this; simp at this; omega
    have hal := allI_len rs pre
    have hmul : pre.length * rs.length ≤ 1000000000 * 64 := Nat.mul_le_mul (by omega) hr1
    have hav := atV_len rs x.1 x.2
    simp only [push_cast, Nat.reduceAdd, Nat.reduceSub, Nat.reduceMul, Nat.reduceLT, Nat.reduceLeDiff, Nat.reduceEqDiff, Int.reduceToNat, ↓reduceIte, List.drop_length]
    apply AW_drawE [some 12, some 13, some 14, some 15, some 16, some 17, none] [([false, false, false], _), ([true, false, false], _), ([true, true, false], _), ([true, true, true], _)] [none, none, none, none, some 0, some 1, some 2] 3 [(0, [false, false, false], [5]), (1, [false, false, false], [2]), (2, [false, false, false], [6]), (3, [false, false, false], [7]), (4, [false, false, false], [13, 0, 0]), (5, [true, false, false], [12, 3]), (6, [true, true, false], [5, 11]), (0, [true, false, false], [5])] [_, _, _, _, _, _, _]
    case' hm => exact dr
    case' hn => rfl
    case' hok => rfl
    case' hlen => rfl
    case' hd => rfl
    case' h0 => rfl
    case' hstep =>
     simp only [DAllG, push_cast, Option.isSome_some, Option.isSome_none]
     repeat' apply And.intro
     all_goals (apply DOne_V; simp only [push_cast, Nat.reduceAdd, Nat.reduceSub, Nat.reduceMul, Nat.reduceLT, Nat.reduceLeDiff, Nat.reduceEqDiff, Int.reduceToNat, ↓reduceIte] <;> first | exact rfl | omega | exact ⟨rfl, rfl⟩ | exact trivial | exact ⟨by omega, rfl⟩ | exact ⟨by omega, by omega, rfl⟩ | exact ⟨by omega, rfl, rfl⟩ | exact ⟨by omega, by omega, rfl, rfl⟩ | exact (at_ac' rs hr x.1 (by simp at hx; omega) x.2 (by omega) _).to ⟨rfl, rfl⟩ | (refine app_L encSt (sz := 2) (fun _ => rfl) cellSt _ (H.length + 4) (allI rs pre) (atV rs x.1 x.2) _ rfl rfl (by exact (agetN _ _ 4).trans rfl) sl27 sz48 by48 zr48 rfl (by decide) (by decide) (by omega) ?_; simp only [push_cast, Nat.reduceAdd, Nat.reduceSub, Nat.reduceMul, Nat.reduceLT, Nat.reduceLeDiff, Nat.reduceEqDiff, Int.reduceToNat, ↓reduceIte]; exact ⟨rfl, rfl⟩))
    case' hQ => skip
    simp only [push_cast, Nat.reduceAdd, Nat.reduceSub, Nat.reduceMul, Nat.reduceLT, Nat.reduceLeDiff, Nat.reduceEqDiff, Int.reduceToNat, ↓reduceIte, allI_snoc]
  · simp only [push_cast, Nat.reduceAdd, Nat.reduceSub, Nat.reduceMul, Nat.reduceLT, Nat.reduceLeDiff, Nat.reduceEqDiff, Int.reduceToNat, ↓reduceIte, allS]
end Ab
set_option maxRecDepth 10000
namespace Ab
open Go
def belowP (p q : List Int) : Bool := decide (q.length < p.length) && decide (p.take q.length = q)
theorem below_iff (p q : List Int) : belowP p q = true ↔ ∃ a r, p = q ++ a :: r := by
  unfold belowP
  rw [Bool.and_eq_true, decide_eq_true_eq, decide_eq_true_eq]
  constructor
  · rintro ⟨h1, h2⟩
    cases hd : p.drop q.length with
    | nil =>
      have := congrArg List.length hd
      rw [List.length_drop] at this; simp at this; omega
    | cons a r =>
      refine ⟨a, r, ?_⟩
      conv => lhs; rw [← List.take_append_drop q.length p, h2, hd]
  · rintro ⟨a, r, rfl⟩
    simp
theorem walkT_mem {t : Term} {p : List Int} {x : List Int × Term} (h : x ∈ walkT t p) : ∃ q, x.1 = p ++ q := by
  cases t with
  | mk n v xs =>
    rw [walkT, List.mem_cons, Term.mk_args] at h
    rcases h with rfl | h
    · exact ⟨[], by simp⟩
    · have h1 : x.1 ∈ (walkL xs 0 p).map (·.1) := List.mem_map.2 ⟨x, h, rfl⟩
      rw [walkL_pre] at h1
      obtain ⟨q, _, hq⟩ := List.mem_map.1 h1
      exact ⟨q, hq.symm⟩
theorem walkL_mem : ∀ {xs : List Term} {i : Int} {p : List Int} {x : List Int × Term}, x ∈ walkL xs i p → ∃ k : Nat, ∃ q, x.1 = p ++ (i + (k : Int)) :: q
  | [], _, _, _, h => by simp [walkL] at h
  | t :: r, i, p, x, h => by
    rw [walkL_cons, List.mem_append] at h
    rcases h with h | h
    · obtain ⟨q, hq⟩ := walkT_mem h
      exact ⟨0, q, by rw [hq]; simp⟩
    · obtain ⟨k, q, hq⟩ := walkL_mem h
      exact ⟨k + 1, q, by rw [hq]; congr 2; omega⟩
theorem allI_mem {rs : List (Term × Term)} {items : List (List Int × Term)} {s : Int × List Int} (h : s ∈ allI rs items) : ∃ x, x ∈ items ∧ s.2 = x.1 ∧ s ∈ atV rs x.1 x.2 := by
  unfold allI at h
  obtain ⟨x, hx, hs⟩ := List.mem_flatMap.1 h
  exact ⟨x, hx, atV_pos hs, hs⟩
theorem allT_mem {rs : List (Term × Term)} {t : Term} {p : List Int} {s : Int × List Int} (h : s ∈ allI rs (walkT t p)) : ∃ q, s.2 = p ++ q := by
  obtain ⟨x, hx, e, _⟩ := allI_mem h
  obtain ⟨q, hq⟩ := walkT_mem hx
  exact ⟨q, e.trans hq⟩
theorem allL_mem {rs : List (Term × Term)} {xs : List Term} {i : Int} {p : List Int} {s : Int × List Int} (h : s ∈ allI rs (walkL xs i p)) : ∃ k : Nat, ∃ q, s.2 = p ++ (i + (k : Int)) :: q := by
  obtain ⟨x, hx, e, _⟩ := allI_mem h
  obtain ⟨k, q, hq⟩ := walkL_mem hx
  exact ⟨k, q, e.trans hq⟩
theorem allT_eq (rs : List (Term × Term)) (t : Term) (p : List Int) : allI rs (walkT t p) = atV rs p t ++ allI rs (walkL t.args 0 p) := by
  rw [walkT]; simp [allI]
theorem allL_cons (rs : List (Term × Term)) (t : Term) (r : List Term) (i : Int) (p : List Int) : allI rs (walkL (t :: r) i p) = allI rs (walkT t (p ++ [i])) ++ allI rs (walkL r (i + 1) p) := by
  rw [walkL_cons, allI_app]
theorem apart1 {p q q' : List Int} {i : Int} {k : Nat} : ¬ ∃ a r, p ++ (i + 1 + (k : Int)) :: q' = (p ++ [i] ++ q) ++ a :: r := by
  rintro ⟨a, r, h⟩
  rw [List.append_assoc, List.append_assoc, List.append_cancel_left_eq] at h
  simp at h
  omega
theorem apart2 {p q q' : List Int} {i : Int} {k : Nat} : ¬ ∃ a r, p ++ [i] ++ q = (p ++ (i + 1 + (k : Int)) :: q') ++ a :: r := by
  rintro ⟨a, r, h⟩
  rw [List.append_assoc, List.append_assoc, List.append_cancel_left_eq] at h
  simp at h
  omega
def innF (l : List (Int × List Int)) (s : Int × List Int) : Bool := l.all fun s' => !belowP s'.2 s.2
def outF (l : List (Int × List Int)) (s : Int × List Int) : Bool := l.all fun s' => !belowP s.2 s'.2
theorem innF_app (a b : List (Int × List Int)) (s : Int × List Int) : innF (a ++ b) s = (innF a s && innF b s) := by unfold innF; rw [List.all_append]
theorem outF_app (a b : List (Int × List Int)) (s : Int × List Int) : outF (a ++ b) s = (outF a s && outF b s) := by unfold outF; rw [List.all_append]
theorem innF_true {l : List (Int × List Int)} {s : Int × List Int} (h : ∀ s', s' ∈ l → ¬ ∃ a r, s'.2 = s.2 ++ a :: r) : innF l s = true := by
  unfold innF
  rw [List.all_eq_true]
  intro s' hs'
  have := h s' hs'
  rw [← below_iff] at this
  simpa using this
theorem outF_true {l : List (Int × List Int)} {s : Int × List Int} (h : ∀ s', s' ∈ l → ¬ ∃ a r, s.2 = s'.2 ++ a :: r) : outF l s = true := by
  unfold outF
  rw [List.all_eq_true]
  intro s' hs'
  have := h s' hs'
  rw [← below_iff] at this
  simpa using this
theorem filter_split {α : Type} (p q r : α → Bool) (a b : List α) (h1 : ∀ x, x ∈ a → p x = q x) (h2 : ∀ x, x ∈ b → p x = r x) : (a ++ b).filter p = a.filter q ++ b.filter r := by
  rw [List.filter_append, List.filter_congr h1, List.filter_congr h2]
theorem filter_none {α : Type} {p : α → Bool} {a : List α} (h : ∀ x, x ∈ a → p x = false) : a.filter p = [] := List.filter_eq_nil_iff.2 fun x hx => by simp [h x hx]
theorem filter_each {α : Type} {p : α → Bool} {a : List α} (h : ∀ x, x ∈ a → p x = true) : a.filter p = a := List.filter_eq_self.2 h
theorem self_apart {q : List Int} : ¬ ∃ a r, q = q ++ a :: r := by
  rintro ⟨a, r, h⟩
  have := congrArg List.length h
  simp at this
theorem long_apart {q : List Int} {k : Nat} {i : Int} {u : List Int} : ¬ ∃ a r, q = (q ++ (i + (k : Int)) :: u) ++ a :: r := by
  rintro ⟨a, r, h⟩
  have := congrArg List.length h
  simp at this
theorem innT_y {rs : List (Term × Term)} {n : List UInt8} {v : Bool} {xs : List Term} {p : List Int} (h : innL rs xs 0 p = []) : innT rs (.mk n v xs) p = atV rs p (.mk n v xs) := if_pos h
theorem innT_n {rs : List (Term × Term)} {n : List UInt8} {v : Bool} {xs : List Term} {p : List Int} (h : ¬ innL rs xs 0 p = []) : innT rs (.mk n v xs) p = innL rs xs 0 p := if_neg h
theorem outT_y {rs : List (Term × Term)} {n : List UInt8} {v : Bool} {xs : List Term} {p : List Int} (h : atV rs p (.mk n v xs) = []) : outT rs (.mk n v xs) p = outL rs xs 0 p := if_pos h
theorem outT_n {rs : List (Term × Term)} {n : List UInt8} {v : Bool} {xs : List Term} {p : List Int} (h : ¬ atV rs p (.mk n v xs) = []) : outT rs (.mk n v xs) p = atV rs p (.mk n v xs) := if_neg h
theorem innL_nilI (rs : List (Term × Term)) : ∀ (xs : List Term) (i : Int) (p : List Int), innL rs xs i p = [] ↔ allI rs (walkL xs i p) = []
  | [], i, p => by simp [innL_nil, walkL, allI]
  | .mk n v xs :: r, i, p => by
    have h1 := innL_nilI rs xs 0 (p ++ [i])
    have h2 := innL_nilI rs r (i + 1) p
    rw [innL_cons, allL_cons, List.append_eq_nil_iff, List.append_eq_nil_iff, h2, allT_eq, List.append_eq_nil_iff]
    simp only [Term.mk_args]
    by_cases hD : innL rs xs 0 (p ++ [i]) = []
    · rw [innT_y hD]; simp [h1.1 hD]
    · rw [innT_n hD]
      have : ¬ allI rs (walkL xs 0 (p ++ [i])) = [] := fun e => hD (h1.2 e)
      simp [hD, this]
theorem innT_of {rs : List (Term × Term)} {n : List UInt8} {v : Bool} {xs : List Term} {q0 : List Int} (h1 : innL rs xs 0 q0 = (allI rs (walkL xs 0 q0)).filter (innF (allI rs (walkL xs 0 q0)))) : innT rs (.mk n v xs) q0 = (allI rs (walkT (.mk n v xs) q0)).filter (innF (allI rs (walkT (.mk n v xs) q0))) := by
  have h3 := innL_nilI rs xs 0 q0
  rw [allT_eq]
  simp only [Term.mk_args]
  obtain ⟨D, hD⟩ : ∃ D, D = allI rs (walkL xs 0 q0) := ⟨_, rfl⟩
  have hmem : ∀ s, s ∈ D → ∃ k : Nat, ∃ q, s.2 = q0 ++ ((0 : Int) + (k : Int)) :: q := fun s hs => allL_mem (by rw [hD] at hs; exact hs)
  rw [← hD] at h1 h3 ⊢
  rw [filter_split _ (fun _ => decide (D = [])) (innF D) _ _ (fun s hs => ?_) (fun s hs => ?_)]
  · by_cases hn : D = []
    · rw [innT_y (h3.2 hn), hn, filter_each (fun _ _ => by simp)]; simp
    · rw [innT_n (fun e => hn (h3.1 e)), h1]
      simp [hn]
  · rw [innF_app]
    have e1 : innF (atV rs q0 (.mk n v xs)) s = true := innF_true fun s' hs' => by
      rw [atV_pos hs', atV_pos hs]; exact self_apart
    rw [e1, Bool.true_and]
    cases hq : D with
    | nil => simp [innF]
    | cons d l =>
      obtain ⟨k, q, hk⟩ := hmem d (by rw [hq]; simp)
      have : belowP d.2 s.2 = true := (below_iff _ _).2 ⟨_, q, by rw [hk, atV_pos hs]⟩
      simp [innF, this]
  · rw [innF_app]
    have e1 : innF (atV rs q0 (.mk n v xs)) s = true := innF_true fun s' hs' => by
      obtain ⟨k, q, hk⟩ := hmem s hs
      rw [atV_pos hs', hk]; exact long_apart
    rw [e1, Bool.true_and]
theorem innL_eq (rs : List (Term × Term)) : ∀ (xs : List Term) (i : Int) (p : List Int), innL rs xs i p = (allI rs (walkL xs i p)).filter (innF (allI rs (walkL xs i p)))
  | [], i, p => by simp [innL_nil, walkL, allI]
  | .mk n v xs :: r, i, p => by
    have h1 := innL_eq rs xs 0 (p ++ [i])
    have h2 := innL_eq rs r (i + 1) p
    have h3 := innL_nilI rs xs 0 (p ++ [i])
    rw [innL_cons, allL_cons, h2]
    rw [filter_split _ (innF (allI rs (walkT (.mk n v xs) (p ++ [i])))) (innF (allI rs (walkL r (i + 1) p))) _ _ (fun s hs => ?_) (fun s hs => ?_)]
    · congr 1
      exact innT_of h1
    · rw [innF_app]
      have e1 : innF (allI rs (walkL r (i + 1) p)) s = true := innF_true fun s' hs' => by
        obtain ⟨q, hq⟩ := allT_mem hs
        obtain ⟨k, q', hq'⟩ := allL_mem hs'
        rw [hq, hq']; exact apart1
      rw [e1, Bool.and_true]
    · rw [innF_app]
      have e1 : innF (allI rs (walkT (.mk n v xs) (p ++ [i]))) s = true := innF_true fun s' hs' => by
        obtain ⟨q, hq⟩ := allT_mem hs'
        obtain ⟨k, q', hq'⟩ := allL_mem hs
        rw [hq, hq']; exact apart2
      rw [e1, Bool.true_and]
theorem outT_of {rs : List (Term × Term)} {n : List UInt8} {v : Bool} {xs : List Term} {q0 : List Int} (h1 : outL rs xs 0 q0 = (allI rs (walkL xs 0 q0)).filter (outF (allI rs (walkL xs 0 q0)))) : outT rs (.mk n v xs) q0 = (allI rs (walkT (.mk n v xs) q0)).filter (outF (allI rs (walkT (.mk n v xs) q0))) := by
  rw [allT_eq]
  simp only [Term.mk_args]
  obtain ⟨D, hD⟩ : ∃ D, D = allI rs (walkL xs 0 q0) := ⟨_, rfl⟩
  have hmem : ∀ s, s ∈ D → ∃ k : Nat, ∃ q, s.2 = q0 ++ ((0 : Int) + (k : Int)) :: q := fun s hs => allL_mem (by rw [hD] at hs; exact hs)
  rw [← hD] at h1 ⊢
  rw [filter_split _ (fun _ => true) (fun s => decide (atV rs q0 (.mk n v xs) = []) && outF D s) _ _ (fun s hs => ?_) (fun s hs => ?_)]
  · by_cases hn : atV rs q0 (.mk n v xs) = []
    · rw [outT_y hn, h1, hn]; simp
    · rw [outT_n hn, filter_each (fun _ _ => rfl), filter_none (fun s _ => by rw [decide_eq_false hn]; rfl), List.append_nil]
  · refine outF_true fun s' hs' => ?_
    rw [atV_pos hs]
    rw [List.mem_append] at hs'
    rcases hs' with hs' | hs'
    · rw [atV_pos hs']; exact self_apart
    · obtain ⟨k, q, hk⟩ := hmem s' hs'
      rw [hk]; exact long_apart
  · rw [outF_app]
    congr 1
    obtain ⟨k, q, hk⟩ := hmem s hs
    cases hq : atV rs q0 (.mk n v xs) with
    | nil => simp [outF]
    | cons d l =>
      have hd : d.2 = q0 := atV_pos (by rw [hq]; simp)
      have : belowP s.2 d.2 = true := (below_iff _ _).2 ⟨_, q, by rw [hk, hd]⟩
      simp [outF, this]
theorem outL_eq (rs : List (Term × Term)) : ∀ (xs : List Term) (i : Int) (p : List Int), outL rs xs i p = (allI rs (walkL xs i p)).filter (outF (allI rs (walkL xs i p)))
  | [], i, p => by simp [outL_nil', walkL, allI]
  | .mk n v xs :: r, i, p => by
    have h1 := outL_eq rs xs 0 (p ++ [i])
    have h2 := outL_eq rs r (i + 1) p
    rw [outL_cons, allL_cons, h2]
    rw [filter_split _ (outF (allI rs (walkT (.mk n v xs) (p ++ [i])))) (outF (allI rs (walkL r (i + 1) p))) _ _ (fun s hs => ?_) (fun s hs => ?_)]
    · congr 1
      exact outT_of h1
    · rw [outF_app]
      have e1 : outF (allI rs (walkL r (i + 1) p)) s = true := outF_true fun s' hs' => by
        obtain ⟨q, hq⟩ := allT_mem hs
        obtain ⟨k, q', hq'⟩ := allL_mem hs'
        rw [hq, hq']; exact apart2
      rw [e1, Bool.and_true]
    · rw [outF_app]
      have e1 : outF (allI rs (walkT (.mk n v xs) (p ++ [i]))) s = true := outF_true fun s' hs' => by
        obtain ⟨q, hq⟩ := allT_mem hs'
        obtain ⟨k, q', hq'⟩ := allL_mem hs
        rw [hq, hq']; exact apart1
      rw [e1, Bool.true_and]
theorem inn_top (rs : List (Term × Term)) (t : Term) : innT rs t [] = (allS rs t).filter (innF (allS rs t)) := by
  cases t with
  | mk n v xs => exact innT_of (innL_eq rs xs 0 [])
theorem out_top (rs : List (Term × Term)) (t : Term) : outT rs t [] = (allS rs t).filter (outF (allS rs t)) := by
  cases t with
  | mk n v xs => exact outT_of (outL_eq rs xs 0 [])
theorem takeW_cut {α : Type} (p : α → Bool) : ∀ (l : List α) (n : Nat), n ≤ l.length → (∀ j (h : j < l.length), j < n → p l[j] = true) → (∀ h : n < l.length, p l[n] = false) → l.takeWhile p = l.take n
  | [], n, h, _, _ => by simp
  | a :: r, 0, _, _, h2 => by
    have := h2 (by simp)
    simp only [List.getElem_cons_zero] at this
    simp [List.takeWhile_cons, this]
  | a :: r, n + 1, h, h1, h2 => by
    have h0 := h1 0 (by simp) (by omega)
    simp only [List.getElem_cons_zero] at h0
    rw [List.takeWhile_cons, if_pos h0, List.take_succ_cons]
    congr 1
    exact takeW_cut p r n (by simpa using h) (fun j hj hn => by have := h1 (j + 1) (by simp; omega) (by omega); simpa using this) (fun hn => by have := h2 (by simp; omega); simpa using this)
theorem firstS_cut (l : List (Int × List Int)) (i : Nat) (hi : i ≤ l.length) (h0 : 0 < l.length → 0 < i) (h1 : ∀ j (h : j < l.length), j < i → l[j].2 = (l[0]'(by omega)).2) (h2 : ∀ h : i < l.length, l[i].2 ≠ (l[0]'(by omega)).2) : firstS l = l.take i := by
  cases l with
  | nil => simp [firstS]
  | cons a r =>
    have := h0 (by simp)
    obtain ⟨n, rfl⟩ : ∃ n, i = n + 1 := ⟨i - 1, by omega⟩
    rw [List.take_succ_cons]
    show a :: r.takeWhile _ = _
    congr 1
    refine takeW_cut _ r n (by simpa using hi) (fun j hj hn => ?_) (fun hn => ?_)
    · have := h1 (j + 1) (by simp; omega) (by omega)
      simpa using this
    · have := h2 (by simp; omega)
      simpa using this
def keepP (l : List (Int × List Int)) (s : Int) (x : Int × List Int) : Bool := if s = 2 ∨ s = 4 then innF l x else if s = 3 ∨ s = 5 then outF l x else true
def redR (l : List (Int × List Int)) (s : Int) : List (Int × List Int) := if s = 4 ∨ s = 5 then firstS (l.filter (keepP l s)) else l.filter (keepP l s)
theorem under_eq (rs : List (Term × Term)) (t : Term) (s : Int) : underP rs t s = redR (allS rs t) s := by
  unfold underP redR
  by_cases h2 : s = 2
  · subst h2
    rw [if_pos rfl, if_neg (by omega), inn_top]
    exact List.filter_congr fun x _ => by simp [keepP]
  · by_cases h4 : s = 4
    · subst h4
      rw [if_neg (by omega), if_pos rfl, if_pos (by omega), inn_top]
      congr 1
    · by_cases h3 : s = 3
      · subst h3
        rw [if_neg (by omega), if_neg (by omega), if_pos rfl, if_neg (by omega), out_top]
        exact List.filter_congr fun x _ => by simp [keepP]
      · by_cases h5 : s = 5
        · subst h5
          rw [if_neg (by omega), if_neg (by omega), if_neg (by omega), if_pos rfl, if_pos (by omega), out_top]
          congr 1
        · rw [if_neg h2, if_neg h4, if_neg h3, if_neg h5, if_neg (by omega)]
          exact (filter_each fun x _ => by simp [keepP, h2, h3, h4, h5]).symm
end Ab
set_option maxRecDepth 10000
namespace Ab
open Go Go.Proofs
theorem equalI_ac (p q : List Int) (h1 : p.length < 1099511627776) (h2 : q.length < 1099511627776) (H : List AObj) : ACall Tryz.prog 77 [.sl .none (encP p), .sl .none (encP q)] H (fun r H' => r = .bool (decide (p = q)) ∧ H' = H) := by
  refine ACall_V (H.length) 24 [.tmp 4] Tryz.func77 rfl rfl rfl ?_
  simp only [push_cast, Nat.reduceAdd, Nat.reduceSub, Nat.reduceMul, Nat.reduceLT, Nat.reduceLeDiff, Nat.reduceEqDiff, Int.reduceToNat, ↓reduceIte, encP_length]
  refine cI (fun hl => ?_) (fun hl => ?_)
  · have hl : p.length = q.length := by omega
    refine AW_loopW (maskG 26 [0, 0, 10, 0]) (fun (i : Nat) => [(13, .int .i64 i)]) (fun _ => H) (fun i => i ≤ p.length ∧ p.take i = q.take i) (fun i => p.length - i) 0 ⟨Nat.zero_le _, rfl⟩ (by simp only [push_cast, Nat.reduceAdd, Nat.reduceSub, Nat.reduceMul, Nat.reduceLT, Nat.reduceLeDiff, Nat.reduceEqDiff, Int.reduceToNat, ↓reduceIte]) (fun i hi => ?_)
    simp only [push_cast, Nat.reduceAdd, Nat.reduceSub, Nat.reduceMul, Nat.reduceLT, Nat.reduceLeDiff, Nat.reduceEqDiff, Int.reduceToNat, ↓reduceIte]
    refine cI (fun h => ?_) (fun h => ?_)
    · repeat refine ⟨by omega, ?_⟩
      have hip : i < p.length := by omega
      have hiq : i < q.length := by omega
      apply AW_drawE [some 16, some 17, some 18, some 19, some 20, some 21, some 22, some 23, some 24] [([], _)] [none, none, none, none, none, none, none, none, none] 0 [(0, [], [0]), (1, [], [5]), (2, [], [16, 0]), (3, [], [18]), (4, [], [1]), (5, [], [5]), (6, [], [20, 0]), (7, [], [22]), (8, [], [19, 3])] [_, _, _, _, _, _, _, _, _]
      case' hm => exact dr
      case' hn => rfl
      case' hok => rfl
      case' hlen => rfl
      case' hd => rfl
      case' h0 => rfl
      case' hstep =>
       simp only [DAllG, push_cast, Option.isSome_some, Option.isSome_none]
       repeat' apply And.intro
       all_goals (apply DOne_V; simp only [push_cast, Nat.reduceAdd, Nat.reduceSub, Nat.reduceMul, Nat.reduceLT, Nat.reduceLeDiff, Nat.reduceEqDiff, Int.reduceToNat, ↓reduceIte, encP_length] <;> first | exact rfl | omega | exact ⟨rfl, rfl⟩ | exact trivial | exact ⟨by omega, rfl⟩ | exact ⟨by omega, by omega, rfl⟩ | exact ⟨by omega, rfl, rfl⟩ | exact ⟨by omega, by omega, rfl, rfl⟩ | exact ⟨by rw [encP_length]; omega, trivial⟩)
      case' hQ => skip
      simp only [push_cast, Nat.reduceAdd, Nat.reduceSub, Nat.reduceMul, Nat.reduceLT, Nat.reduceLeDiff, Nat.reduceEqDiff, Int.reduceToNat, ↓reduceIte]
      refine cI (fun hq => ?_) (fun hq => ?_)
      · repeat' first | refine ⟨by omega, ?_⟩ | refine cI (fun _ => ?_) (fun _ => ?_)
        refine loopW_n (i + 1) ⟨by omega, ?_⟩ (by omega) (by simp only [push_cast, Nat.reduceAdd, Nat.reduceSub, Nat.reduceMul, Nat.reduceLT, Nat.reduceLeDiff, Nat.reduceEqDiff, Int.reduceToNat, ↓reduceIte])
        rw [List.take_succ_eq_append_getElem hip, List.take_succ_eq_append_getElem hiq, hi.2]
        congr 2
      · have hne : p ≠ q := fun e => by subst e; exact hq rfl
        simp [hne]
    · have e := hi.2
      rw [List.take_of_length_le (by omega), List.take_of_length_le (by omega)] at e
      simp [e]
  · have hne : p ≠ q := fun e => hl (by rw [e])
    simp [hne]
theorem strategic_ac (s : Int) (H : List AObj) : ACall Tryz.prog 39 [.int .i64 s] H (fun r H' => r = .bool (decide (1 ≤ s ∧ s ≤ 5)) ∧ H' = H) := by
  refine ACall_V (H.length) 8 [.tmp 2] Tryz.func39 rfl rfl rfl ?_
  simp only [push_cast, Nat.reduceAdd, Nat.reduceSub, Nat.reduceMul, Nat.reduceLT, Nat.reduceLeDiff, Nat.reduceEqDiff, Int.reduceToNat, ↓reduceIte]
  refine cI (fun h => ?_) (fun h => ?_)
  · simp [h]
  · simp [h]
def bothP (rs : List (Term × Term)) (t : Term) : Int := if sysP rs ≠ 0 then sysP rs else checkP t
theorem both_ac (rs : List (Term × Term)) (hlen : rs.length < 1099511627776) (hb : BndR rs) (t : Term) (ht : t.bulk ≤ 1099511627775) (H : List AObj) : ACall Tryz.prog 38 [.sl .none (encL encRu rs), encT t] H (fun r H' => r = .int .i64 (bothP rs t) ∧ H' = H) := by
  refine ACall_V (H.length) 11 [.tmp 4] Tryz.func38 rfl rfl rfl ?_
  simp only [push_cast, Nat.reduceAdd, Nat.reduceSub, Nat.reduceMul, Nat.reduceLT, Nat.reduceLeDiff, Nat.reduceEqDiff, Int.reduceToNat, ↓reduceIte]
  refine (checkSystem_ac rs hlen hb _).to ?_
  simp only [push_cast, Nat.reduceAdd, Nat.reduceSub, Nat.reduceMul, Nat.reduceLT, Nat.reduceLeDiff, Nat.reduceEqDiff, Int.reduceToNat, ↓reduceIte]
  refine cI (fun h => ?_) (fun h => ?_)
  · refine (check_ac t ht _).to ?_
    simp only [push_cast, Nat.reduceAdd, Nat.reduceSub, Nat.reduceMul, Nat.reduceLT, Nat.reduceLeDiff, Nat.reduceEqDiff, Int.reduceToNat, ↓reduceIte, bothP, h]
    simp
  · simp only [push_cast, Nat.reduceAdd, Nat.reduceSub, Nat.reduceMul, Nat.reduceLT, Nat.reduceLeDiff, Nat.reduceEqDiff, Int.reduceToNat, ↓reduceIte, bothP, h]
    simp [h]
theorem step_len {rs : List (Term × Term)} {t : Term} {s : Int × List Int} (h : s ∈ allS rs t) : s.2.length < t.size := by
  obtain ⟨x, hx, e, _⟩ := allI_mem h
  have := walk_pos_len t [] x hx
  rw [e]; simpa using this
theorem under_ac (rs : List (Term × Term)) (hr : SysB rs) (t : Term) (hb : t.bulk ≤ 1000000000) (s : Int) (H : List AObj) : ACall Tryz.prog 41 [.sl .none (encL encRu rs), encT t, .int .i64 s] H (fun r H' => r = .sl .none (encL encSt (underP rs t s)) ∧ H' = H) := by
  have hsz := t.size_le
  have hd := t.depth_le
  have hr1 := hr.1
  have hil := inn_len rs t []
  have hol := out_len rs t []
  have hmul : t.size * rs.length ≤ 1000000000 * 64 := Nat.mul_le_mul (by omega) hr1
  have hip : ∀ x, x ∈ innT rs t [] → x.2.length < 1099511627776 := fun x hx => by
    rw [inn_top] at hx
    have := step_len (List.mem_filter.1 hx).1
    omega
  have hop : ∀ x, x ∈ outT rs t [] → x.2.length < 1099511627776 := fun x hx => by
    rw [out_top] at hx
    have := step_len (List.mem_filter.1 hx).1
    omega
  have hi := fun H => inner_ac rs hr t hb [] (by simp; omega) H
  have ho := fun H => outer_ac rs hr t hb [] (by simp; omega) H
  by_cases h2 : s = 2
  · subst h2
    have hu : underP rs t 2 = innT rs t [] := by simp [underP]
    rw [hu]
    have k3 : ((2 : Int) = 3) = False := by decide
    have k4 : ((2 : Int) = 4) = False := by decide
    have k5 : ((2 : Int) = 5) = False := by decide
    refine ACall_V (H.length) 50 [.tmp 6] Tryz.func41 rfl rfl rfl ?_
    simp only [push_cast, Nat.reduceAdd, Nat.reduceSub, Nat.reduceMul, Nat.reduceLT, Nat.reduceLeDiff, Nat.reduceEqDiff, Int.reduceToNat, ↓reduceIte, k3, k4, k5]
    refine ACall.forget (args' := [.sl .none (encL encRu rs), encT t, .sl .none (encP [])]) ⟨Forget.refl _, Forget.refl _, Forget.tok _ _, trivial⟩ ((hi _).to ?_)
    simp only [push_cast, Nat.reduceAdd, Nat.reduceSub, Nat.reduceMul, Nat.reduceLT, Nat.reduceLeDiff, Nat.reduceEqDiff, Int.reduceToNat, ↓reduceIte, k3, k4, k5]
  by_cases h3 : s = 3
  · subst h3
    have hu : underP rs t 3 = outT rs t [] := by simp [underP]
    rw [hu]
    have k2 : ((3 : Int) = 2) = False := by decide
    have k4 : ((3 : Int) = 4) = False := by decide
    have k5 : ((3 : Int) = 5) = False := by decide
    refine ACall_V (H.length) 50 [.tmp 6] Tryz.func41 rfl rfl rfl ?_
    simp only [push_cast, Nat.reduceAdd, Nat.reduceSub, Nat.reduceMul, Nat.reduceLT, Nat.reduceLeDiff, Nat.reduceEqDiff, Int.reduceToNat, ↓reduceIte, k2, k4, k5]
    refine ACall.forget (args' := [.sl .none (encL encRu rs), encT t, .sl .none (encP [])]) ⟨Forget.refl _, Forget.refl _, Forget.tok _ _, trivial⟩ ((ho _).to ?_)
    simp only [push_cast, Nat.reduceAdd, Nat.reduceSub, Nat.reduceMul, Nat.reduceLT, Nat.reduceLeDiff, Nat.reduceEqDiff, Int.reduceToNat, ↓reduceIte, k2, k4, k5]
  by_cases h4 : s = 4
  · subst h4
    have k2 : ((4 : Int) = 2) = False := by decide
    have k3 : ((4 : Int) = 3) = False := by decide
    have k5 : ((4 : Int) = 5) = False := by decide
    refine ACall_V (H.length) 50 [.tmp 6] Tryz.func41 rfl rfl rfl ?_
    simp only [push_cast, Nat.reduceAdd, Nat.reduceSub, Nat.reduceMul, Nat.reduceLT, Nat.reduceLeDiff, Nat.reduceEqDiff, Int.reduceToNat, ↓reduceIte, k2, k3, k5]
    refine ACall.forget (args' := [.sl .none (encL encRu rs), encT t, .sl .none (encP [])]) ⟨Forget.refl _, Forget.refl _, Forget.tok _ _, trivial⟩ ((hi _).to ?_)
    simp only [push_cast, Nat.reduceAdd, Nat.reduceSub, Nat.reduceMul, Nat.reduceLT, Nat.reduceLeDiff, Nat.reduceEqDiff, Int.reduceToNat, ↓reduceIte, k2, k3, k5]
    obtain ⟨L, hL⟩ : ∃ L, L = innT rs t [] := ⟨_, rfl⟩
    rw [← hL] at hil hip ⊢
    have hu : underP rs t 4 = firstS L := by rw [hL]; simp [underP]
    rw [hu]
    refine AW_loopW (maskG 53 [7, 0]) (fun (i : Nat) => [(8, .int .i64 i)]) (fun i => H ++ [.cells [.str t.name, .bool t.var, .sl .none (encTs t.args)]]) (fun i => i ≤ L.length ∧ ∀ j (h : j < L.length), j < i → L[j].2 = (L[0]'(by omega)).2) (fun i => L.length - i) 0 ⟨Nat.zero_le _, fun j _ h => by omega⟩ (by simp only [push_cast, Nat.reduceAdd, Nat.reduceSub, Nat.reduceMul, Nat.reduceLT, Nat.reduceLeDiff, Nat.reduceEqDiff, Int.reduceToNat, ↓reduceIte]) (fun i hi => ?_)
    simp only [push_cast, Nat.reduceAdd, Nat.reduceSub, Nat.reduceMul, Nat.reduceLT, Nat.reduceLeDiff, Nat.reduceEqDiff, Int.reduceToNat, ↓reduceIte]
    by_cases hil : i < L.length
    · have hd : decide ((i : Int) < (L.length : Int)) = true := by rw [decide_eq_true_eq]; omega
      have h0 : 0 < L.length := by omega
      apply AW_drawE [some 31, some 32, some 33, some 34, some 35, some 36, some 37, some 38, some 39, some 40, some 41, some 42, some 43, some 44, some 45, some 46] [([], _)] [none, none, none, none, none, none, none, none, none, none, none, none, none, none, none, none] 0 [(0, [], [8]), (1, [], [7]), (2, [], [32]), (3, [], [31, 1]), (4, [], [34]), (5, [], [7, 27]), (6, [], [8, 26]), (7, [], [35, 0, 0]), (8, [], [35, 2]), (9, [], [35, 3]), (10, [], [7, 27]), (11, [], [35, 5]), (12, [], [35, 6]), (13, [], [35, 7]), (14, [], [35, 4, 3]), (15, [], [35, 9])] [_, _, _, _, _, _, _, _, _, _, _, _, _, _, _, _]
      case' hm => exact dr
      case' hn => rfl
      case' hok => rfl
      case' hlen => rfl
      case' hd => rfl
      case' h0 => rfl
      case' hstep =>
       simp only [DAllG, push_cast, Option.isSome_some, Option.isSome_none]
       repeat' apply And.intro
       all_goals (apply DOne_V; simp only [push_cast, Nat.reduceAdd, Nat.reduceSub, Nat.reduceMul, Nat.reduceLT, Nat.reduceLeDiff, Nat.reduceEqDiff, Int.reduceToNat, ↓reduceIte, hd] <;> first | exact rfl | omega | exact ⟨rfl, rfl⟩ | exact trivial | exact ⟨by omega, rfl⟩ | exact ⟨by omega, by omega, rfl⟩ | exact ⟨by omega, rfl, rfl⟩ | exact ⟨by omega, by omega, rfl, rfl⟩ | exact ⟨by omega, trivial⟩ | exact ⟨by omega, rfl⟩ | exact (equalI_ac (L[i]'hil).2 (L[0]'h0).2 (hip _ (List.getElem_mem hil)) (hip _ (List.getElem_mem h0)) _).to ⟨rfl, rfl⟩)
      case' hQ => skip
      simp only [push_cast, Nat.reduceAdd, Nat.reduceSub, Nat.reduceMul, Nat.reduceLT, Nat.reduceLeDiff, Nat.reduceEqDiff, Int.reduceToNat, ↓reduceIte, hd]
      refine cI (fun hq => ?_) (fun hq => ?_)
      · repeat' first | refine ⟨by omega, ?_⟩ | refine cI (fun _ => ?_) (fun _ => ?_)
        refine loopW_n (i + 1) ⟨by omega, fun j hj hji => ?_⟩ (by omega) (by simp only [push_cast, Nat.reduceAdd, Nat.reduceSub, Nat.reduceMul, Nat.reduceLT, Nat.reduceLeDiff, Nat.reduceEqDiff, Int.reduceToNat, ↓reduceIte])
        rcases Nat.lt_or_eq_of_le (Nat.le_of_lt_succ hji) with h | h
        · exact hi.2 j hj h
        · subst h; exact hq
      · have hcut := firstS_cut L i hi.1 (fun _ => by rcases Nat.eq_zero_or_pos i with h | h; (subst h; exact absurd rfl hq); exact h) hi.2 (fun h e => hq e)
        rw [hcut]
        exact ⟨by omega, hi.1, rfl⟩
    · have hd : decide ((i : Int) < (L.length : Int)) = false := by rw [decide_eq_false_iff_not]; omega
      apply AW_drawE [some 31, some 32, some 33, some 34, some 35, some 36, some 37, some 38, some 39, some 40, some 41, some 42, some 43, some 44, some 45, some 46] [([], _)] [none, none, none, none, none, none, none, none, none, none, none, none, none, none, none, none] 0 [(0, [], [8]), (1, [], [7]), (2, [], [32]), (3, [], [31, 1]), (4, [], [34]), (5, [], [7, 27]), (6, [], [8, 26]), (7, [], [35, 0, 0]), (8, [], [35, 2]), (9, [], [35, 3]), (10, [], [7, 27]), (11, [], [35, 5]), (12, [], [35, 6]), (13, [], [35, 7]), (14, [], [35, 4, 3]), (15, [], [35, 9])] [_, _, _, _, _, _, _, _, _, _, _, _, _, _, _, _]
      case' hm => exact dr
      case' hn => rfl
      case' hok => rfl
      case' hlen => rfl
      case' hd => rfl
      case' h0 => rfl
      case' hstep =>
       simp only [DAllG, push_cast, Option.isSome_some, Option.isSome_none]
       repeat' apply And.intro
       all_goals (apply DOne_V; simp only [push_cast, Nat.reduceAdd, Nat.reduceSub, Nat.reduceMul, Nat.reduceLT, Nat.reduceLeDiff, Nat.reduceEqDiff, Int.reduceToNat, ↓reduceIte, hd] <;> first | exact rfl | omega | exact ⟨rfl, rfl⟩ | exact trivial | exact ⟨by omega, rfl⟩ | exact ⟨by omega, by omega, rfl⟩ | exact ⟨by omega, rfl, rfl⟩ | exact ⟨by omega, by omega, rfl, rfl⟩ | skip)
      case' hQ => skip
      simp only [push_cast, Nat.reduceAdd, Nat.reduceSub, Nat.reduceMul, Nat.reduceLT, Nat.reduceLeDiff, Nat.reduceEqDiff, Int.reduceToNat, ↓reduceIte, hd]
      have hcut := firstS_cut L i hi.1 (fun h => by omega) hi.2 (fun h => absurd h hil)
      rw [hcut]
      exact ⟨by omega, hi.1, rfl⟩
  by_cases h5 : s = 5
  · subst h5
    have k2 : ((5 : Int) = 2) = False := by decide
    have k3 : ((5 : Int) = 3) = False := by decide
    have k4 : ((5 : Int) = 4) = False := by decide
    refine ACall_V (H.length) 50 [.tmp 6] Tryz.func41 rfl rfl rfl ?_
    simp only [push_cast, Nat.reduceAdd, Nat.reduceSub, Nat.reduceMul, Nat.reduceLT, Nat.reduceLeDiff, Nat.reduceEqDiff, Int.reduceToNat, ↓reduceIte, k2, k3, k4]
    refine ACall.forget (args' := [.sl .none (encL encRu rs), encT t, .sl .none (encP [])]) ⟨Forget.refl _, Forget.refl _, Forget.tok _ _, trivial⟩ ((ho _).to ?_)
    simp only [push_cast, Nat.reduceAdd, Nat.reduceSub, Nat.reduceMul, Nat.reduceLT, Nat.reduceLeDiff, Nat.reduceEqDiff, Int.reduceToNat, ↓reduceIte, k2, k3, k4]
    obtain ⟨L, hL⟩ : ∃ L, L = outT rs t [] := ⟨_, rfl⟩
    rw [← hL] at hol hop ⊢
    have hu : underP rs t 5 = firstS L := by rw [hL]; simp [underP]
    rw [hu]
    refine AW_loopW (maskG 53 [7, 0]) (fun (i : Nat) => [(8, .int .i64 i)]) (fun i => H ++ [.cells [.str t.name, .bool t.var, .sl .none (encTs t.args)]]) (fun i => i ≤ L.length ∧ ∀ j (h : j < L.length), j < i → L[j].2 = (L[0]'(by omega)).2) (fun i => L.length - i) 0 ⟨Nat.zero_le _, fun j _ h => by omega⟩ (by simp only [push_cast, Nat.reduceAdd, Nat.reduceSub, Nat.reduceMul, Nat.reduceLT, Nat.reduceLeDiff, Nat.reduceEqDiff, Int.reduceToNat, ↓reduceIte]) (fun i hi => ?_)
    simp only [push_cast, Nat.reduceAdd, Nat.reduceSub, Nat.reduceMul, Nat.reduceLT, Nat.reduceLeDiff, Nat.reduceEqDiff, Int.reduceToNat, ↓reduceIte]
    by_cases hil : i < L.length
    · have hd : decide ((i : Int) < (L.length : Int)) = true := by rw [decide_eq_true_eq]; omega
      have h0 : 0 < L.length := by omega
      apply AW_drawE [some 31, some 32, some 33, some 34, some 35, some 36, some 37, some 38, some 39, some 40, some 41, some 42, some 43, some 44, some 45, some 46] [([], _)] [none, none, none, none, none, none, none, none, none, none, none, none, none, none, none, none] 0 [(0, [], [8]), (1, [], [7]), (2, [], [32]), (3, [], [31, 1]), (4, [], [34]), (5, [], [7, 27]), (6, [], [8, 26]), (7, [], [35, 0, 0]), (8, [], [35, 2]), (9, [], [35, 3]), (10, [], [7, 27]), (11, [], [35, 5]), (12, [], [35, 6]), (13, [], [35, 7]), (14, [], [35, 4, 3]), (15, [], [35, 9])] [_, _, _, _, _, _, _, _, _, _, _, _, _, _, _, _]
      case' hm => exact dr
      case' hn => rfl
      case' hok => rfl
      case' hlen => rfl
      case' hd => rfl
      case' h0 => rfl
      case' hstep =>
       simp only [DAllG, push_cast, Option.isSome_some, Option.isSome_none]
       repeat' apply And.intro
       all_goals (apply DOne_V; simp only [push_cast, Nat.reduceAdd, Nat.reduceSub, Nat.reduceMul, Nat.reduceLT, Nat.reduceLeDiff, Nat.reduceEqDiff, Int.reduceToNat, ↓reduceIte, hd] <;> first | exact rfl | omega | exact ⟨rfl, rfl⟩ | exact trivial | exact ⟨by omega, rfl⟩ | exact ⟨by omega, by omega, rfl⟩ | exact ⟨by omega, rfl, rfl⟩ | exact ⟨by omega, by omega, rfl, rfl⟩ | exact ⟨by omega, trivial⟩ | exact ⟨by omega, rfl⟩ | exact (equalI_ac (L[i]'hil).2 (L[0]'h0).2 (hop _ (List.getElem_mem hil)) (hop _ (List.getElem_mem h0)) _).to ⟨rfl, rfl⟩)
      case' hQ => skip
      simp only [push_cast, Nat.reduceAdd, Nat.reduceSub, Nat.reduceMul, Nat.reduceLT, Nat.reduceLeDiff, Nat.reduceEqDiff, Int.reduceToNat, ↓reduceIte, hd]
      refine cI (fun hq => ?_) (fun hq => ?_)
      · repeat' first | refine ⟨by omega, ?_⟩ | refine cI (fun _ => ?_) (fun _ => ?_)
        refine loopW_n (i + 1) ⟨by omega, fun j hj hji => ?_⟩ (by omega) (by simp only [push_cast, Nat.reduceAdd, Nat.reduceSub, Nat.reduceMul, Nat.reduceLT, Nat.reduceLeDiff, Nat.reduceEqDiff, Int.reduceToNat, ↓reduceIte])
        rcases Nat.lt_or_eq_of_le (Nat.le_of_lt_succ hji) with h | h
        · exact hi.2 j hj h
        · subst h; exact hq
      · have hcut := firstS_cut L i hi.1 (fun _ => by rcases Nat.eq_zero_or_pos i with h | h; (subst h; exact absurd rfl hq); exact h) hi.2 (fun h e => hq e)
        rw [hcut]
        exact ⟨by omega, hi.1, rfl⟩
    · have hd : decide ((i : Int) < (L.length : Int)) = false := by rw [decide_eq_false_iff_not]; omega
      apply AW_drawE [some 31, some 32, some 33, some 34, some 35, some 36, some 37, some 38, some 39, some 40, some 41, some 42, some 43, some 44, some 45, some 46] [([], _)] [none, none, none, none, none, none, none, none, none, none, none, none, none, none, none, none] 0 [(0, [], [8]), (1, [], [7]), (2, [], [32]), (3, [], [31, 1]), (4, [], [34]), (5, [], [7, 27]), (6, [], [8, 26]), (7, [], [35, 0, 0]), (8, [], [35, 2]), (9, [], [35, 3]), (10, [], [7, 27]), (11, [], [35, 5]), (12, [], [35, 6]), (13, [], [35, 7]), (14, [], [35, 4, 3]), (15, [], [35, 9])] [_, _, _, _, _, _, _, _, _, _, _, _, _, _, _, _]
      case' hm => exact dr
      case' hn => rfl
      case' hok => rfl
      case' hlen => rfl
      case' hd => rfl
      case' h0 => rfl
      case' hstep =>
       simp only [DAllG, push_cast, Option.isSome_some, Option.isSome_none]
       repeat' apply And.intro
       all_goals (apply DOne_V; simp only [push_cast, Nat.reduceAdd, Nat.reduceSub, Nat.reduceMul, Nat.reduceLT, Nat.reduceLeDiff, Nat.reduceEqDiff, Int.reduceToNat, ↓reduceIte, hd] <;> first | exact rfl | omega | exact ⟨rfl, rfl⟩ | exact trivial | exact ⟨by omega, rfl⟩ | exact ⟨by omega, by omega, rfl⟩ | exact ⟨by omega, rfl, rfl⟩ | exact ⟨by omega, by omega, rfl, rfl⟩ | skip)
      case' hQ => skip
      simp only [push_cast, Nat.reduceAdd, Nat.reduceSub, Nat.reduceMul, Nat.reduceLT, Nat.reduceLeDiff, Nat.reduceEqDiff, Int.reduceToNat, ↓reduceIte, hd]
      have hcut := firstS_cut L i hi.1 (fun h => by omega) hi.2 (fun h => absurd h hil)
      rw [hcut]
      exact ⟨by omega, hi.1, rfl⟩
  have hu : underP rs t s = allS rs t := by simp [underP, h2, h3, h4, h5]
  rw [hu]
  have k2 := eq_false h2
  have k3 := eq_false h3
  have k4 := eq_false h4
  have k5 := eq_false h5
  refine ACall_V (H.length) 50 [.tmp 6] Tryz.func41 rfl rfl rfl ?_
  simp only [push_cast, Nat.reduceAdd, Nat.reduceSub, Nat.reduceMul, Nat.reduceLT, Nat.reduceLeDiff, Nat.reduceEqDiff, Int.reduceToNat, ↓reduceIte, k2, k3, k4, k5]
  refine (allSteps_ac rs hr t hb _).to ?_
  simp only [push_cast, Nat.reduceAdd, Nat.reduceSub, Nat.reduceMul, Nat.reduceLT, Nat.reduceLeDiff, Nat.reduceEqDiff, Int.reduceToNat, ↓reduceIte]
end Ab
set_option maxRecDepth 10000
namespace Ab
open Go Go.Proofs
theorem replace_ac (σ : List (List UInt8 × Term)) (hs : SortedN (σ.map (·.1))) (hlen : σ.length < 1099511627776) (hbk : ∀ b, b ∈ σ → b.2.bulk ≤ 1099511627775) (t : Term) : t.bulk ≤ 1099511627775 → ∀ H, ACall Tryz.prog 92 [.sl .none (encL encBd σ), encT t] H (fun r H' => r = encT (applyP σ t) ∧ H' = H) := by
  induction t using Term.ind with | _ n u xs ih
  intro hb H
  have hl := Term.len_le (n := n) (v := u) (xs := xs)
  cases u with
  | true =>
    rw [applyP_t, image_look]
    refine ACall_V (H.length) 43 [.cell 4 25] Tryz.func92 rfl rfl rfl ?_
    simp only [push_cast, Nat.reduceAdd, Nat.reduceSub, Nat.reduceMul, Nat.reduceLT, Nat.reduceLeDiff, Nat.reduceEqDiff, Int.reduceToNat, ↓reduceIte]
    refine (imageT_ac σ hs n hlen _).to ?_
    rcases look_cases (σ := σ) n with ⟨b, hbm, _, e⟩ | e
    · have hbb := hbk b hbm
      simp only [push_cast, Nat.reduceAdd, Nat.reduceSub, Nat.reduceMul, Nat.reduceLT, Nat.reduceLeDiff, Nat.reduceEqDiff, Int.reduceToNat, ↓reduceIte, e, Option.isSome_some, Option.getD_some]
      refine (own_ac b.2 (by omega) _).to ?_
      simp only [push_cast, Nat.reduceAdd, Nat.reduceSub, Nat.reduceMul, Nat.reduceLT, Nat.reduceLeDiff, Nat.reduceEqDiff, Int.reduceToNat, ↓reduceIte]
    · simp only [push_cast, Nat.reduceAdd, Nat.reduceSub, Nat.reduceMul, Nat.reduceLT, Nat.reduceLeDiff, Nat.reduceEqDiff, Int.reduceToNat, ↓reduceIte, e, Option.isSome_none, Option.getD_none]
  | false =>
    rw [applyP_f]
    refine ACall_V (H.length) 43 [.cell 4 25] Tryz.func92 rfl rfl rfl ?_
    simp only [push_cast, Nat.reduceAdd, Nat.reduceSub, Nat.reduceMul, Nat.reduceLT, Nat.reduceLeDiff, Nat.reduceEqDiff, Int.reduceToNat, ↓reduceIte]
    refine AW_reserve 1 ?_
    refine AW_loopW (maskG 45 [0, 3, 2, 21, 0, 0]) (fun (i : Nat) => [(31, .int .i64 i)]) (fun i => H ++ [.cells [.str n, .bool false, .sl .none (encTs xs)], .cells [.str [], .bool false, .sl .zero []], .cells [.str n, .bool false, gSl (H.length + 3) (encTs (appL σ (xs.take i)))], gTok 25 3 (encTs (appL σ (xs.take i)))]) (fun i => i ≤ xs.length) (fun i => xs.length - i) 0 (Nat.zero_le _) (by simp only [push_cast, Nat.reduceAdd, Nat.reduceSub, Nat.reduceMul, Nat.reduceLT, Nat.reduceLeDiff, Nat.reduceEqDiff, Int.reduceToNat, ↓reduceIte, List.take_zero, appL_nil]) (fun i hi => ?_)
    simp only [push_cast, Nat.reduceAdd, Nat.reduceSub, Nat.reduceMul, Nat.reduceLT, Nat.reduceLeDiff, Nat.reduceEqDiff, Int.reduceToNat, ↓reduceIte]
    refine cI (fun h => ?_) (fun h => ?_)
    · have hil : i < xs.length := by omega
      repeat refine ⟨by omega, ?_⟩
      have hal := appL_len σ (xs.take i)
      rw [List.length_take] at hal
      apply AW_drawE [some 35, some 36, some 37, some 38, some 39, some 40, some 41, some 42, none] [([false, false], _), ([true, false], _), ([true, true], _)] [none, none, none, none, none, none, some 0, none, some 1] 2 [(0, [false, false], [7]), (1, [false, false], [35]), (2, [false, false], [0]), (3, [false, false], [9]), (4, [false, false], [37, 0]), (5, [false, false], [39]), (6, [false, false], [36, 3]), (7, [true, false], [7]), (8, [true, false], [41, 0]), (0, [true, false], [7]), (2, [true, false], [0]), (3, [true, false], [9])] [_, _, _, _, _, _, _, _, _]
      case' hm => exact dr
      case' hn => rfl
      case' hok => rfl
      case' hlen => rfl
      case' hd => rfl
      case' h0 => rfl
      case' hstep =>
       simp only [DAllG, push_cast, Option.isSome_some, Option.isSome_none]
       repeat' apply And.intro
       all_goals (apply DOne_V; simp only [push_cast, Nat.reduceAdd, Nat.reduceSub, Nat.reduceMul, Nat.reduceLT, Nat.reduceLeDiff, Nat.reduceEqDiff, Int.reduceToNat, ↓reduceIte] <;> first | exact rfl | omega | exact ⟨rfl, rfl⟩ | exact trivial | exact ⟨by omega, rfl⟩ | exact ⟨by omega, by omega, rfl⟩ | exact ⟨by omega, rfl, rfl⟩ | exact ⟨by omega, by omega, rfl, rfl⟩ | exact (ih _ (List.getElem_mem hil) (arg_bulk hb i hil) _).to ⟨rfl, rfl⟩ | (refine app1_T _ (H.length + 3) (appL σ (xs.take i)) (applyP σ (xs[i]'hil)) _ rfl rfl (by exact (agetN _ _ 3).trans rfl) sl23 sz25 by25 zr25 rfl (by decide) (by omega) ?_; simp only [push_cast, Nat.reduceAdd, Nat.reduceSub, Nat.reduceMul, Nat.reduceLT, Nat.reduceLeDiff, Nat.reduceEqDiff, Int.reduceToNat, ↓reduceIte]; exact ⟨rfl, rfl⟩))
      case' hQ => skip
      simp only [push_cast, Nat.reduceAdd, Nat.reduceSub, Nat.reduceMul, Nat.reduceLT, Nat.reduceLeDiff, Nat.reduceEqDiff, Int.reduceToNat, ↓reduceIte, ← appL_take σ xs i hil]
      repeat' first | refine ⟨by omega, ?_⟩ | refine cI (fun _ => ?_) (fun _ => ?_)
      exact loopW_n (i + 1) (by omega) (by omega) (by simp only [push_cast, Nat.reduceAdd, Nat.reduceSub, Nat.reduceMul, Nat.reduceLT, Nat.reduceLeDiff, Nat.reduceEqDiff, Int.reduceToNat, ↓reduceIte])
    · simp only [push_cast, Nat.reduceAdd, Nat.reduceSub, Nat.reduceMul, Nat.reduceLT, Nat.reduceLeDiff, Nat.reduceEqDiff, Int.reduceToNat, ↓reduceIte, List.take_of_length_le (show xs.length ≤ i by omega)]
def instE (σ : List (List UInt8 × Term)) (t : Term) : Term × Int := if fitsP (applyP σ t) then (applyP σ t, 0) else (.mk [] false [], 3)
theorem instance_ac (σ : List (List UInt8 × Term)) (hs : SortedN (σ.map (·.1))) (hlen : σ.length < 1099511627776) (hbk : ∀ b, b ∈ σ → b.2.bulk ≤ 1099511627775) (t : Term) (hb : t.bulk ≤ 1099511627775) (hb2 : (applyP σ t).size ≤ 1099511627775) (H : List AObj) : ACall Tryz.prog 62 [.sl .none (encL encBd σ), encT t] H (fun r H' => r = encRE (instE σ t) ∧ H' = H) := by
  have hd := (applyP σ t).depth_le
  refine ACall_V (H.length) 20 [.cell 4 25, .tmp 5] Tryz.func62 rfl rfl rfl ?_
  simp only [push_cast, Nat.reduceAdd, Nat.reduceSub, Nat.reduceMul, Nat.reduceLT, Nat.reduceLeDiff, Nat.reduceEqDiff, Int.reduceToNat, ↓reduceIte]
  refine (measure_ac σ hs hlen hbk t hb hb2 _).to ?_
  simp only [push_cast, Nat.reduceAdd, Nat.reduceSub, Nat.reduceMul, Nat.reduceLT, Nat.reduceLeDiff, Nat.reduceEqDiff, Int.reduceToNat, ↓reduceIte]
  refine cI (fun h => ?_) (fun h => ?_)
  · have h1 : ¬ (applyP σ t).size ≤ 4000 := by omega
    have e : instE σ t = (.mk [] false [], 3) := by simp [instE, fitsP, h1]
    simp only [push_cast, Nat.reduceAdd, Nat.reduceSub, Nat.reduceMul, Nat.reduceLT, Nat.reduceLeDiff, Nat.reduceEqDiff, Int.reduceToNat, ↓reduceIte, e]
  · have h1 : (applyP σ t).size ≤ 4000 := by omega
    refine cI (fun h2 => ?_) (fun h2 => ?_)
    · have h3 : ¬ (applyP σ t).depth ≤ 200 := by omega
      have e : instE σ t = (.mk [] false [], 3) := by simp [instE, fitsP, h3]
      simp only [push_cast, Nat.reduceAdd, Nat.reduceSub, Nat.reduceMul, Nat.reduceLT, Nat.reduceLeDiff, Nat.reduceEqDiff, Int.reduceToNat, ↓reduceIte, e]
    · have h3 : (applyP σ t).depth ≤ 200 := by omega
      have e : instE σ t = (applyP σ t, 0) := by simp [instE, fitsP, h1, h3]
      refine (replace_ac σ hs hlen hbk t hb _).to ?_
      simp only [push_cast, Nat.reduceAdd, Nat.reduceSub, Nat.reduceMul, Nat.reduceLT, Nat.reduceLeDiff, Nat.reduceEqDiff, Int.reduceToNat, ↓reduceIte, e]
theorem sub_ok {σ : List (List UInt8 × Term)} (h : subCheck σ = 0) : SortedN (σ.map (·.1)) ∧ (∀ b, b ∈ σ → b.2.size ≤ 4000 ∧ b.2.bulk ≤ 100000 ∧ formedP b.2 = true) ∧ ∀ b, b ∈ σ → b.1.length ≤ 24 := by
  obtain ⟨h1, h2⟩ := (subCheck_iff σ).1 h
  refine ⟨h1, fun b hb => ?_, fun b hb => name_small (h2 b hb).1⟩
  have h3 := check_small (h2 b hb).2
  exact ⟨h3.1, h3.2, ((check_iff _).1 (h2 b hb).2).1⟩
theorem inst_size {σ : List (List UInt8 × Term)} (h : subCheck σ = 0) {t : Term} (ht : checkP t = 0) : (applyP σ t).size ≤ 16000000 ∧ (applyP σ t).bulk ≤ 400000000 := by
  obtain ⟨h1, h2, h3⟩ := sub_ok h
  have h4 := check_small ht
  have h5 := apply_size σ 4000 (by decide) (fun b hb => (h2 b hb).1) t
  have h6 := formed_bulk _ (formed_apply σ (fun b hb => (h2 b hb).2.2) t ((check_iff t).1 ht).1)
  omega
theorem grownR_ac (σ : List (List UInt8 × Term)) (hlen : σ.length < 1099511627776) (hbk : ∀ b, b ∈ σ → b.2.bulk ≤ 1099511627775) (t : Term) : t.bulk ≤ 1099511627775 → (applyP σ t).size ≤ 1099511627775 → ∀ H, ACall Tryz.prog 53 [.sl .none (encL encBd σ), encT t] H (fun r H' => r = .tup [.int .i64 (applyP σ t).size, .int .i64 (applyP σ t).depth] ∧ H' = H) := by
  induction t using Term.ind with | _ n u xs ih
  intro hb hb2 H
  have hl := Term.len_le (n := n) (v := u) (xs := xs)
  have hnl := Term.name_le (n := n) (v := u) (xs := xs)
  cases u with
  | true =>
    rw [applyP_t]
    have hib := image_bulk σ 1099511627775 hbk n (by omega)
    refine ACall_V (H.length) 44 [.tmp 4, .tmp 5] Tryz.func53 rfl rfl rfl ?_
    simp only [push_cast, Nat.reduceAdd, Nat.reduceSub, Nat.reduceMul, Nat.reduceLT, Nat.reduceLeDiff, Nat.reduceEqDiff, Int.reduceToNat, ↓reduceIte]
    refine (imageR_ac σ n hlen _).to ?_
    simp only [push_cast, Nat.reduceAdd, Nat.reduceSub, Nat.reduceMul, Nat.reduceLT, Nat.reduceLeDiff, Nat.reduceEqDiff, Int.reduceToNat, ↓reduceIte]
    apply AW_drawE [some 19, some 20, some 21, some 22, some 4, some 5] [([], _)] [none, none, none, none, none, none] 0 [(0, [], [6]), (1, [], [19]), (2, [], [6]), (3, [], [21]), (4, [], [20]), (5, [], [22])] [_, _, _, _, _, _]
    case' hm => exact dr
    case' hn => rfl
    case' hok => rfl
    case' hlen => rfl
    case' hd => rfl
    case' h0 => rfl
    case' hstep =>
     simp only [DAllG, push_cast, Option.isSome_some, Option.isSome_none]
     repeat' apply And.intro
     all_goals (apply DOne_V; simp only [push_cast, Nat.reduceAdd, Nat.reduceSub, Nat.reduceMul, Nat.reduceLT, Nat.reduceLeDiff, Nat.reduceEqDiff, Int.reduceToNat, ↓reduceIte] <;> first | exact rfl | omega | exact ⟨rfl, rfl⟩ | exact trivial | exact ⟨by omega, rfl⟩ | exact ⟨by omega, by omega, rfl⟩ | exact ⟨by omega, rfl, rfl⟩ | exact ⟨by omega, by omega, rfl, rfl⟩ | exact (sizeR_ac (imageP σ n) (by omega) _).to ⟨rfl, rfl⟩ | exact (depthR_ac (imageP σ n) (by omega) _).to ⟨rfl, rfl⟩)
    case' hQ => skip
    simp only [push_cast, Nat.reduceAdd, Nat.reduceSub, Nat.reduceMul, Nat.reduceLT, Nat.reduceLeDiff, Nat.reduceEqDiff, Int.reduceToNat, ↓reduceIte]
  | false =>
    rw [applyP_f] at hb2 ⊢
    have hdp := (Term.mk n false (appL σ xs)).depth_le
    rw [Term.size_mk] at hb2 hdp ⊢
    rw [Term.depth_mk] at hdp ⊢
    refine ACall_V (H.length) 44 [.tmp 4, .tmp 5] Tryz.func53 rfl rfl rfl ?_
    simp only [push_cast, Nat.reduceAdd, Nat.reduceSub, Nat.reduceMul, Nat.reduceLT, Nat.reduceLeDiff, Nat.reduceEqDiff, Int.reduceToNat, ↓reduceIte]
    refine AW_loopW (maskG 46 [0, 6, 0, 15, 0, 0]) (fun (i : Nat) => [(26, .int .i64 i), (7, .int .i64 (1 + ((appL σ (xs.take i)).map Term.size).sum : Nat)), (8, .int .i64 (((appL σ (xs.take i)).map Term.depth).foldl max 0 : Nat))]) (fun i => H ++ [.cells [.str n, .bool false, .sl .none (encTs xs)]]) (fun i => i ≤ xs.length) (fun i => xs.length - i) 0 (Nat.zero_le _) (by simp only [push_cast, Nat.reduceAdd, Nat.reduceSub, Nat.reduceMul, Nat.reduceLT, Nat.reduceLeDiff, Nat.reduceEqDiff, Int.reduceToNat, ↓reduceIte, List.take_zero, appL_nil]; simp) (fun i hi => ?_)
    simp only [push_cast, Nat.reduceAdd, Nat.reduceSub, Nat.reduceMul, Nat.reduceLT, Nat.reduceLeDiff, Nat.reduceEqDiff, Int.reduceToNat, ↓reduceIte]
    refine cI (fun h => ?_) (fun h => ?_)
    · have hil : i < xs.length := by omega
      repeat refine ⟨by omega, ?_⟩
      obtain ⟨hq1, hq2⟩ := sizes_take σ xs i hil
      obtain ⟨hw1, hw2⟩ := sizes_le σ xs (i + 1)
      obtain ⟨hw3, hw4⟩ := sizes_le σ xs i
      refine (ih _ (List.getElem_mem hil) (arg_bulk hb i hil) (by omega) _).to ?_
      simp only [push_cast, Nat.reduceAdd, Nat.reduceSub, Nat.reduceMul, Nat.reduceLT, Nat.reduceLeDiff, Nat.reduceEqDiff, Int.reduceToNat, ↓reduceIte]
      repeat' first | refine ⟨by omega, ?_⟩ | refine cI (fun _ => ?_) (fun _ => ?_)
      exact loopW_n (i + 1) (by omega) (by omega) (by simp only [push_cast, Nat.reduceAdd, Nat.reduceSub, Nat.reduceMul, Nat.reduceLT, Nat.reduceLeDiff, Nat.reduceEqDiff, Int.reduceToNat, ↓reduceIte, hq1, hq2]; omega)
    · obtain ⟨hw3, hw4⟩ := sizes_le σ xs xs.length
      rw [List.take_of_length_le (Nat.le_refl _)] at hw3 hw4
      simp only [push_cast, Nat.reduceAdd, Nat.reduceSub, Nat.reduceMul, Nat.reduceLT, Nat.reduceLeDiff, Nat.reduceEqDiff, Int.reduceToNat, ↓reduceIte, List.take_of_length_le (show xs.length ≤ i by omega)]
      omega
theorem fitsR1_ac (σ : List (List UInt8 × Term)) (hlen : σ.length < 1099511627776) (hbk : ∀ b, b ∈ σ → b.2.bulk ≤ 1099511627775) (t : Term) (hb : t.bulk ≤ 1099511627775) (hb2 : (applyP σ t).size ≤ 1099511627775) (H : List AObj) : ACall Tryz.prog 23 [.sl .none (encL encBd σ), encT t] H (fun r H' => r = .bool (fitsP (applyP σ t)) ∧ H' = H) := by
  have hd := (applyP σ t).depth_le
  refine ACall_V (H.length) 17 [.tmp 4] Tryz.func23 rfl rfl rfl ?_
  simp only [push_cast, Nat.reduceAdd, Nat.reduceSub, Nat.reduceMul, Nat.reduceLT, Nat.reduceLeDiff, Nat.reduceEqDiff, Int.reduceToNat, ↓reduceIte]
  refine (grownR_ac σ hlen hbk t hb hb2 _).to ?_
  simp only [push_cast, Nat.reduceAdd, Nat.reduceSub, Nat.reduceMul, Nat.reduceLT, Nat.reduceLeDiff, Nat.reduceEqDiff, Int.reduceToNat, ↓reduceIte]
  refine cI (fun h => ?_) (fun h => ?_)
  · have h1 : (applyP σ t).size ≤ 4000 := by omega
    have e : fitsP (applyP σ t) = decide ((applyP σ t).depth ≤ 200) := by simp [fitsP, h1]
    have e2 : decide (((applyP σ t).depth : Int) ≤ 200) = decide ((applyP σ t).depth ≤ 200) := by simp; omega
    simp only [push_cast, Nat.reduceAdd, Nat.reduceSub, Nat.reduceMul, Nat.reduceLT, Nat.reduceLeDiff, Nat.reduceEqDiff, Int.reduceToNat, ↓reduceIte, e, e2]
  · have h1 : ¬ (applyP σ t).size ≤ 4000 := by omega
    have e : fitsP (applyP σ t) = false := by simp [fitsP, h1]
    simp only [push_cast, Nat.reduceAdd, Nat.reduceSub, Nat.reduceMul, Nat.reduceLT, Nat.reduceLeDiff, Nat.reduceEqDiff, Int.reduceToNat, ↓reduceIte, e]
end Ab
set_option maxRecDepth 10000
namespace Ab
open Go Go.Proofs
def ruleN (rs : List (Term × Term)) (i : Int) : Term × Term := rs.getD i.toNat (zeroT, zeroT)
theorem ruleN_get {rs : List (Term × Term)} {i : Int} (h : i.toNat < rs.length) : ruleN rs i = rs[i.toNat] := by unfold ruleN; rw [List.getD_eq_getElem?_getD, List.getElem?_eq_getElem h]; rfl
def findE (rs : List (Term × Term)) (t : Term) (s : Int × List Int) : List (List UInt8 × Term) × Int :=
  if 0 ≤ s.1 ∧ s.1.toNat < rs.length then (match atP t s.2 with
    | some x => if (matchP (ruleN rs s.1).1 x []).2 then ((matchP (ruleN rs s.1).1 x []).1, 0) else ([], 9)
    | none => ([], 8)) else ([], 8)
def encFE (q : List (List UInt8 × Term) × Int) : AV := .tup [.sl .none (encL encBd q.1), .int .i64 q.2]
theorem stepFind_ac (rs : List (Term × Term)) (hr : SysB rs) (t : Term) (hb : t.bulk ≤ 1099511627775) (s : Int × List Int) (hs : s.2.length < 1099511627776) (H : List AObj) :
    ACall Tryz.prog 59 [.sl .none (encL encRu rs), encT t, encSt s] H (fun r H' => r = encFE (findE rs t s) ∧ H' = H) := by
  obtain ⟨hr1, hr2⟩ := hr
  refine ACall_V (H.length) 41 [.tmp 6, .tmp 7] Tryz.func59 rfl rfl rfl ?_
  simp only [push_cast, Nat.reduceAdd, Nat.reduceSub, Nat.reduceMul, Nat.reduceLT, Nat.reduceLeDiff, Nat.reduceEqDiff, Int.reduceToNat, ↓reduceIte]
  have bad : ¬ (0 ≤ s.1 ∧ s.1.toNat < rs.length) → findE rs t s = ([], 8) := fun h => if_neg h
  refine cI (fun h => ?_) (fun h => ?_)
  · simp only [push_cast, Nat.reduceAdd, Nat.reduceSub, Nat.reduceMul, Nat.reduceLT, Nat.reduceLeDiff, Nat.reduceEqDiff, Int.reduceToNat, ↓reduceIte, bad (by omega), encFE, encL_nil]
  · refine cI (fun h2 => ?_) (fun h2 => ?_)
    · simp only [push_cast, Nat.reduceAdd, Nat.reduceSub, Nat.reduceMul, Nat.reduceLT, Nat.reduceLeDiff, Nat.reduceEqDiff, Int.reduceToNat, ↓reduceIte, bad (by omega), encFE, encL_nil]
    · have hin : 0 ≤ s.1 ∧ s.1.toNat < rs.length := by omega
      have e : findE rs t s = (match atP t s.2 with
        | some x => if (matchP (ruleN rs s.1).1 x []).2 then ((matchP (ruleN rs s.1).1 x []).1, 0) else ([], 9)
        | none => ([], 8)) := if_pos hin
      refine (sub_ac t s.2 hb hs _).to ?_
      cases ha : atP t s.2 with
      | none =>
        simp only [ha] at e
        simp only [push_cast, Nat.reduceAdd, Nat.reduceSub, Nat.reduceMul, Nat.reduceLT, Nat.reduceLeDiff, Nat.reduceEqDiff, Int.reduceToNat, ↓reduceIte, e, encFE, encL_nil]
      | some x =>
        simp only [ha] at e
        have hxb := at_bulk _ _ _ ha
        have hrn := ruleN_get hin.2
        have hlb := hr2 _ (List.getElem_mem hin.2)
        simp only [push_cast, Nat.reduceAdd, Nat.reduceSub, Nat.reduceMul, Nat.reduceLT, Nat.reduceLeDiff, Nat.reduceEqDiff, Int.reduceToNat, ↓reduceIte]
        apply AW_drawE [some 31, some 32, some 33, some 34, some 35, some 36, some 37, some 38, some 30, some 39, some 40, some 10, some 9] [([], _)] [none, none, none, none, none, none, none, none, none, none, none, none, none] 0 [(0, [], [0]), (1, [], [5]), (2, [], [32]), (3, [], [31, 1]), (4, [], [34]), (5, [], [35]), (6, [], [8]), (7, [], [36, 0]), (8, [], [38]), (9, [], [30]), (10, [], [30]), (11, [], [39]), (12, [], [40])] [_, _, _, _, _, _, _, _, _, _, _, _, _]
        case' hm => exact dr
        case' hn => rfl
        case' hok => rfl
        case' hlen => rfl
        case' hd => rfl
        case' h0 => rfl
        case' hstep =>
         simp only [DAllG, push_cast, Option.isSome_some, Option.isSome_none]
         repeat' apply And.intro
         all_goals (apply DOne_V; simp only [push_cast, Nat.reduceAdd, Nat.reduceSub, Nat.reduceMul, Nat.reduceLT, Nat.reduceLeDiff, Nat.reduceEqDiff, Int.reduceToNat, ↓reduceIte] <;> first | exact rfl | omega | exact ⟨rfl, rfl⟩ | exact trivial | exact ⟨by omega, rfl⟩ | exact ⟨by omega, by omega, rfl⟩ | exact ⟨by omega, rfl, rfl⟩ | exact ⟨by omega, by omega, rfl, rfl⟩ | exact ⟨by omega, by omega, trivial⟩ | exact (find_ac (rs[s.1.toNat]'hin.2).1 x hlb.1 (by omega) _).to ⟨rfl, rfl⟩)
        case' hQ => skip
        rw [← hrn]
        cases hm : (matchP (ruleN rs s.1).1 x []).2 with
        | true =>
          rw [hm] at e
          simp only [if_true] at e
          simp only [push_cast, Nat.reduceAdd, Nat.reduceSub, Nat.reduceMul, Nat.reduceLT, Nat.reduceLeDiff, Nat.reduceEqDiff, Int.reduceToNat, ↓reduceIte, e, encFE]
        | false =>
          rw [hm] at e
          simp only [Bool.false_eq_true, if_false] at e
          simp only [push_cast, Nat.reduceAdd, Nat.reduceSub, Nat.reduceMul, Nat.reduceLT, Nat.reduceLeDiff, Nat.reduceEqDiff, Int.reduceToNat, ↓reduceIte, e, encFE, encL_nil]
theorem sys_B {rs : List (Term × Term)} (h : sysP rs = 0) : SysB rs ∧ (∀ r, r ∈ rs → checkP r.1 = 0 ∧ checkP r.2 = 0) ∧ ∀ r, r ∈ rs → extraP r = false := by
  unfold sysP at h
  split at h
  · rename_i h0; exact absurd h h0
  · rename_i h0
    have h0 : rulesP rs = 0 := by simpa using h0
    obtain ⟨h1, h2⟩ := rules_ok h0
    split at h
    · cases h
    · split at h
      · cases h
      · split at h
        · cases h
        · rename_i h3
          refine ⟨⟨h1, fun r hr => ?_⟩, h2, fun r hr => ?_⟩
          · have g1 := check_small (h2 r hr).1
            have g2 := check_small (h2 r hr).2
            omega
          · cases he : extraP r with
            | false => rfl
            | true => exact absurd (List.any_eq_true.2 ⟨r, hr, he⟩) h3
theorem both_ok {rs : List (Term × Term)} {t : Term} (h : bothP rs t = 0) : sysP rs = 0 ∧ checkP t = 0 := by
  unfold bothP at h
  split at h
  · rename_i h0; exact absurd h h0
  · rename_i h0; exact ⟨by simpa using h0, h⟩
structure FindOk (rs : List (Term × Term)) (t : Term) (s : Int × List Int) (x : Term) (σ : List (List UInt8 × Term)) : Prop where
  lo : 0 ≤ s.1
  hi : s.1.toNat < rs.length
  at' : atP t s.2 = some x
  ok : (matchP (ruleN rs s.1).1 x []).2 = true
  eq : (matchP (ruleN rs s.1).1 x []).1 = σ
  mem : ruleN rs s.1 ∈ rs
theorem find_ok {rs : List (Term × Term)} {t : Term} {s : Int × List Int} (h : (findE rs t s).2 = 0) : ∃ x, FindOk rs t s x (findE rs t s).1 := by
  unfold findE at h ⊢
  by_cases hin : 0 ≤ s.1 ∧ s.1.toNat < rs.length
  · rw [if_pos hin] at h ⊢
    cases ha : atP t s.2 with
    | none => rw [ha] at h; cases h
    | some x =>
      rw [ha] at h
      simp only at h ⊢
      cases hm : (matchP (ruleN rs s.1).1 x []).2 with
      | false => rw [hm] at h; cases h
      | true => exact ⟨x, hin.1, hin.2, ha, hm, rfl, by rw [ruleN_get hin.2]; exact List.getElem_mem hin.2⟩
  · rw [if_neg hin] at h; cases h
structure SubOk (σ : List (List UInt8 × Term)) (x : Term) : Prop where
  sorted : SortedN (σ.map (·.1))
  sub : ∀ b, b ∈ σ → SubT x b.2
theorem FindOk.subOk {rs : List (Term × Term)} {t : Term} {s : Int × List Int} {x : Term} {σ : List (List UInt8 × Term)} (h : FindOk rs t s x σ) : SubOk σ x ∧ σ.length ≤ (ruleN rs s.1).1.size := by
  obtain ⟨h1, h2⟩ := matchP_ok (ruleN rs s.1).1 x [] (by simp [SortedN])
  rw [h.eq] at h1 h2
  exact ⟨⟨h1.sorted, fun b hb => (h1.new b hb).resolve_left (by simp)⟩, by simpa using h2⟩
theorem SubOk.bulk {σ : List (List UInt8 × Term)} {x : Term} (h : SubOk σ x) : ∀ b, b ∈ σ → b.2.bulk ≤ x.bulk ∧ b.2.size ≤ x.size := fun b hb => ⟨(h.sub b hb).bulk, (h.sub b hb).sizes.1⟩
theorem SubOk.apply {σ : List (List UInt8 × Term)} {x : Term} (h : SubOk σ x) (hx : x.size ≤ 4000 ∧ x.bulk ≤ 100000) {r : Term} (hr : r.size ≤ 4000 ∧ r.bulk ≤ 100000) : (applyP σ r).size ≤ 16000000 ∧ (applyP σ r).bulk ≤ 20000000000 := by
  have h1 := apply_size σ 4000 (by decide) (fun b hb => by have := (h.bulk b hb).2; omega) r
  have h2 := apply_bulk σ 100000 (fun b hb => by have := (h.bulk b hb).1; omega) r
  have h3 : r.size * 4000 ≤ 4000 * 4000 := Nat.mul_le_mul hr.1 (Nat.le_refl _)
  have h4 : r.bulk * (100000 + 1) ≤ 100000 * (100000 + 1) := Nat.mul_le_mul hr.2 (Nat.le_refl _)
  omega
def rhsP (rs : List (Term × Term)) (t : Term) (s : Int × List Int) : Term := applyP (findE rs t s).1 (ruleN rs s.1).2
def doE (rs : List (Term × Term)) (t : Term) (s : Int × List Int) : Term × Int :=
  if (findE rs t s).2 ≠ 0 then (zeroT, (findE rs t s).2) else if fitsP (rhsP rs t s) = true ∧ fitsP (putP t s.2 (rhsP rs t s)) = true then (putP t s.2 (rhsP rs t s), 0) else (zeroT, 3)
theorem do_ac (rs : List (Term × Term)) (hr : sysP rs = 0) (t : Term) (ht : checkP t = 0) (s : Int × List Int) (hs : s.2.length < 1099511627776) (H : List AObj) :
    ACall Tryz.prog 42 [.sl .none (encL encRu rs), encT t, encSt s] H (fun r H' => r = encRE (doE rs t s) ∧ H' = H) := by
  obtain ⟨hB, hck, _⟩ := sys_B hr
  have htb := check_small ht
  refine ACall_V (H.length) 42 [.cell 6 25, .tmp 7] Tryz.func42 rfl rfl rfl ?_
  simp only [push_cast, Nat.reduceAdd, Nat.reduceSub, Nat.reduceMul, Nat.reduceLT, Nat.reduceLeDiff, Nat.reduceEqDiff, Int.reduceToNat, ↓reduceIte]
  refine (stepFind_ac rs hB t (by omega) s hs _).to ?_
  simp only [push_cast, Nat.reduceAdd, Nat.reduceSub, Nat.reduceMul, Nat.reduceLT, Nat.reduceLeDiff, Nat.reduceEqDiff, Int.reduceToNat, ↓reduceIte, encFE]
  refine cI (fun h => ?_) (fun h => ?_)
  · obtain ⟨x, hf⟩ := find_ok h
    obtain ⟨hso, hsl⟩ := hf.subOk
    have hxs := at_sub _ _ _ hf.at'
    have hxc := check_small (hxs.check ht)
    have hrc := check_small (hck _ hf.mem).2
    have hlc := check_small (hck _ hf.mem).1
    have hap := hso.apply hxc hrc
    have hrn := ruleN_get hf.hi
    have hpb := put_bulk (rhsP rs t s) _ _ _ hf.at'
    have hfm := ((check_iff _).1 ht).1
    have hsp := setP_put _ _ (rhsP rs t s) _ hf.at' hfm
    refine ⟨hf.lo, hf.hi, ?_⟩
    rw [← hrn]
    refine (instance_ac (findE rs t s).1 hso.sorted (by omega) (fun b hb => by have := (hso.bulk b hb).1; omega) (ruleN rs s.1).2 (by omega) (by omega) _).to ?_
    have hb2 : (rhsP rs t s).bulk ≤ 20000000000 := hap.2
    have ed : doE rs t s = if fitsP (rhsP rs t s) = true ∧ fitsP (putP t s.2 (rhsP rs t s)) = true then (putP t s.2 (rhsP rs t s), 0) else (zeroT, 3) := if_neg (by simpa using h)
    cases hf1 : fitsP (rhsP rs t s) with
    | true =>
      have e1 : instE (findE rs t s).1 (ruleN rs s.1).2 = (rhsP rs t s, 0) := if_pos hf1
      simp only [push_cast, Nat.reduceAdd, Nat.reduceSub, Nat.reduceMul, Nat.reduceLT, Nat.reduceLeDiff, Nat.reduceEqDiff, Int.reduceToNat, ↓reduceIte, e1]
      refine (set_ac (rhsP rs t s) (by omega) t (by omega) s.2 hs ⟨x, hf.at'⟩ _).to ?_
      rw [hsp]
      simp only [push_cast, Nat.reduceAdd, Nat.reduceSub, Nat.reduceMul, Nat.reduceLT, Nat.reduceLeDiff, Nat.reduceEqDiff, Int.reduceToNat, ↓reduceIte]
      refine (fit_ac (putP t s.2 (rhsP rs t s)) (by omega) _).to ?_
      cases hf2 : fitsP (putP t s.2 (rhsP rs t s)) with
      | true =>
        have e : doE rs t s = (putP t s.2 (rhsP rs t s), 0) := ed.trans (if_pos ⟨hf1, hf2⟩)
        simp only [push_cast, Nat.reduceAdd, Nat.reduceSub, Nat.reduceMul, Nat.reduceLT, Nat.reduceLeDiff, Nat.reduceEqDiff, Int.reduceToNat, ↓reduceIte, if_true, e]
      | false =>
        have e : doE rs t s = (zeroT, 3) := ed.trans (if_neg (by rw [hf2]; simp))
        simp only [push_cast, Nat.reduceAdd, Nat.reduceSub, Nat.reduceMul, Nat.reduceLT, Nat.reduceLeDiff, Nat.reduceEqDiff, Int.reduceToNat, ↓reduceIte, Bool.false_eq_true, if_false, e]
    | false =>
      have e1 : instE (findE rs t s).1 (ruleN rs s.1).2 = (.mk [] false [], 3) := if_neg (by rw [show fitsP (applyP (findE rs t s).1 (ruleN rs s.1).2) = false from hf1]; simp)
      have e : doE rs t s = (zeroT, 3) := ed.trans (if_neg (by rw [hf1]; simp))
      simp only [push_cast, Nat.reduceAdd, Nat.reduceSub, Nat.reduceMul, Nat.reduceLT, Nat.reduceLeDiff, Nat.reduceEqDiff, Int.reduceToNat, ↓reduceIte, e1, e]
      refine cI (fun h => absurd h (by decide)) (fun _ => ?_)
      simp only [push_cast, Nat.reduceAdd, Nat.reduceSub, Nat.reduceMul, Nat.reduceLT, Nat.reduceLeDiff, Nat.reduceEqDiff, Int.reduceToNat, ↓reduceIte]
  · have e : doE rs t s = (zeroT, (findE rs t s).2) := if_pos h
    simp only [push_cast, Nat.reduceAdd, Nat.reduceSub, Nat.reduceMul, Nat.reduceLT, Nat.reduceLeDiff, Nat.reduceEqDiff, Int.reduceToNat, ↓reduceIte, e]
def stepE (rs : List (Term × Term)) (t : Term) (s : Int × List Int) : Term × Int := if bothP rs t ≠ 0 then (zeroT, bothP rs t) else doE rs t s
theorem step_ac (rs : List (Term × Term)) (hlen : rs.length < 1099511627776) (hb : BndR rs) (t : Term) (ht : t.bulk ≤ 1099511627775) (s : Int × List Int) (hs : s.2.length < 1099511627776) (H : List AObj) :
    ACall Tryz.prog 21 [.sl .none (encL encRu rs), encT t, encSt s] H (fun r H' => r = encRE (stepE rs t s) ∧ H' = H) := by
  refine ACall_V (H.length) 19 [.cell 6 25, .tmp 7] Tryz.func21 rfl rfl rfl ?_
  simp only [push_cast, Nat.reduceAdd, Nat.reduceSub, Nat.reduceMul, Nat.reduceLT, Nat.reduceLeDiff, Nat.reduceEqDiff, Int.reduceToNat, ↓reduceIte]
  refine (both_ac rs hlen hb t ht _).to ?_
  simp only [push_cast, Nat.reduceAdd, Nat.reduceSub, Nat.reduceMul, Nat.reduceLT, Nat.reduceLeDiff, Nat.reduceEqDiff, Int.reduceToNat, ↓reduceIte]
  refine cI (fun h => ?_) (fun h => ?_)
  · obtain ⟨h1, h2⟩ := both_ok h
    have e : stepE rs t s = doE rs t s := if_neg (by simpa using h)
    refine (do_ac rs h1 t h2 s hs _).to ?_
    simp only [push_cast, Nat.reduceAdd, Nat.reduceSub, Nat.reduceMul, Nat.reduceLT, Nat.reduceLeDiff, Nat.reduceEqDiff, Int.reduceToNat, ↓reduceIte, e]
  · have e : stepE rs t s = (zeroT, bothP rs t) := if_pos h
    simp only [push_cast, Nat.reduceAdd, Nat.reduceSub, Nat.reduceMul, Nat.reduceLT, Nat.reduceLeDiff, Nat.reduceEqDiff, Int.reduceToNat, ↓reduceIte, e]
def redE (rs : List (Term × Term)) (t : Term) (s : Int) : List (Int × List Int) × Int := if bothP rs t ≠ 0 then ([], bothP rs t) else if 1 ≤ s ∧ s ≤ 5 then (underP rs t s, 0) else ([], 2)
def encLE (q : List (Int × List Int) × Int) : AV := .tup [.sl .none (encL encSt q.1), .int .i64 q.2]
theorem redexes_ac (rs : List (Term × Term)) (hlen : rs.length < 1099511627776) (hb : BndR rs) (t : Term) (ht : t.bulk ≤ 1099511627775) (s : Int) (H : List AObj) :
    ACall Tryz.prog 17 [.sl .none (encL encRu rs), encT t, .int .i64 s] H (fun r H' => r = encLE (redE rs t s) ∧ H' = H) := by
  refine ACall_V (H.length) 19 [.tmp 6, .tmp 7] Tryz.func17 rfl rfl rfl ?_
  simp only [push_cast, Nat.reduceAdd, Nat.reduceSub, Nat.reduceMul, Nat.reduceLT, Nat.reduceLeDiff, Nat.reduceEqDiff, Int.reduceToNat, ↓reduceIte]
  refine (both_ac rs hlen hb t ht _).to ?_
  simp only [push_cast, Nat.reduceAdd, Nat.reduceSub, Nat.reduceMul, Nat.reduceLT, Nat.reduceLeDiff, Nat.reduceEqDiff, Int.reduceToNat, ↓reduceIte]
  refine cI (fun h => ?_) (fun h => ?_)
  · obtain ⟨h1, h2⟩ := both_ok h
    refine (strategic_ac s _).to ?_
    simp only [push_cast, Nat.reduceAdd, Nat.reduceSub, Nat.reduceMul, Nat.reduceLT, Nat.reduceLeDiff, Nat.reduceEqDiff, Int.reduceToNat, ↓reduceIte]
    refine cI (fun hs => ?_) (fun hs => ?_)
    · have e : redE rs t s = (underP rs t s, 0) := (if_neg (by simpa using h)).trans (if_pos hs)
      refine (under_ac rs (sys_B h1).1 t (by have := check_small h2; omega) s _).to ?_
      simp only [push_cast, Nat.reduceAdd, Nat.reduceSub, Nat.reduceMul, Nat.reduceLT, Nat.reduceLeDiff, Nat.reduceEqDiff, Int.reduceToNat, ↓reduceIte, e, encLE]
    · have e : redE rs t s = ([], 2) := (if_neg (by simpa using h)).trans (if_neg hs)
      simp only [push_cast, Nat.reduceAdd, Nat.reduceSub, Nat.reduceMul, Nat.reduceLT, Nat.reduceLeDiff, Nat.reduceEqDiff, Int.reduceToNat, ↓reduceIte, e, encLE, encL_nil]
  · have e : redE rs t s = ([], bothP rs t) := if_pos h
    simp only [push_cast, Nat.reduceAdd, Nat.reduceSub, Nat.reduceMul, Nat.reduceLT, Nat.reduceLeDiff, Nat.reduceEqDiff, Int.reduceToNat, ↓reduceIte, e, encLE, encL_nil]
end Ab
namespace Ab
open Go Go.Proofs
theorem step_some {n : List UInt8} {v : Bool} {xs : List Term} {i : Int} {p : List Int} {y : Term} (h : atP (.mk n v xs) (i :: p) = some y) : ∃ hi : 0 ≤ i ∧ i.toNat < xs.length, atP (xs[i.toNat]'hi.2) p = some y := by
  simp only [atP] at h
  split at h
  · rename_i hi; exact ⟨hi, h⟩
  · cases h
theorem step_put (n : List UInt8) (v : Bool) (xs : List Term) (i : Int) (p : List Int) (x : Term) (h : i.toNat < xs.length) : putP (.mk n v xs) (i :: p) x = .mk n false (xs.set i.toNat (putP (xs[i.toNat]'h) p x)) := by
  simp [putP, List.getD_eq_getElem?_getD, List.getElem?_eq_getElem h]
theorem place_at (n : List UInt8) (v : Bool) (xs : List Term) (i : Int) (p : List Int) (h : 0 ≤ i ∧ i.toNat < xs.length) : atP (.mk n v xs) (i :: p) = atP (xs[i.toNat]'h.2) p := by
  simp only [atP]; exact dif_pos h
theorem at_put : ∀ (p : List Int) (t x y : Term), atP t p = some y → atP (putP t p x) p = some x
  | [], t, x, y, _ => by cases t; rfl
  | i :: p, .mk n v xs, x, y, h => by
    obtain ⟨hi, h⟩ := step_some h
    rw [step_put _ _ _ _ _ _ hi.2, place_at _ _ _ _ _ ⟨hi.1, by simpa using hi.2⟩]
    simp only [List.getElem_set_self]
    exact at_put p _ x y h
theorem put_formed : ∀ (p : List Int) (t x y : Term), atP t p = some y → formedP t = true → formedP x = true → formedP (putP t p x) = true
  | [], t, x, y, _, _, hx => by cases t; exact hx
  | i :: p, .mk n v xs, x, y, h, hf, hx => by
    have hv := at_var h (by simp) hf
    obtain ⟨hi, ha⟩ := step_some h
    simp only [Term.var_mk] at hv
    subst hv
    rw [step_put _ _ _ _ _ _ hi.2]
    rw [formedP_mk] at hf ⊢
    simp only [Bool.false_eq_true, if_false, Bool.and_eq_true, decide_eq_true_eq, List.all_eq_true, List.length_set] at hf ⊢
    refine ⟨hf.1, fun z hz => ?_⟩
    rcases List.mem_or_eq_of_mem_set hz with hz | rfl
    · exact hf.2 _ hz
    · exact put_formed p _ x y ha (hf.2 _ (List.getElem_mem _)) hx
end Ab
set_option maxRecDepth 10000
namespace Ab
open Go Go.Proofs
def normF (rs : List (Term × Term)) (st : Int) (t0 : Term) : Nat → Term → List (Int × List Int) → Term × List (Int × List Int) × Term × Bool × Int
  | 0, t, acc => (t0, acc, t, decide (underP rs t st = []), 0)
  | n + 1, t, acc => match underP rs t st with
    | [] => (t0, acc, t, true, 0)
    | s :: _ => if (doE rs t s).2 = 0 then normF rs st t0 n (doE rs t s).1 (acc ++ [s]) else (zeroT, [], zeroT, false, (doE rs t s).2)
def encNE (q : Term × List (Int × List Int) × Term × Bool × Int) : AV := .tup [.agg [.str q.1.name, .bool q.1.var, .sl .none (encTs q.1.args), .sl .none (encL encSt q.2.1)], encT q.2.2.1, .bool q.2.2.2.1, .int .i64 q.2.2.2.2]
def normalE (rs : List (Term × Term)) (t : Term) (st most : Int) : Term × List (Int × List Int) × Term × Bool × Int :=
  if bothP rs t ≠ 0 then (zeroT, [], zeroT, false, bothP rs t) else if 1 ≤ st ∧ st ≤ 5 ∧ 0 ≤ most ∧ most ≤ 4096 then normF rs st t most.toNat t [] else (zeroT, [], zeroT, false, 2)
theorem do_check {rs : List (Term × Term)} {t : Term} {s : Int × List Int} (hr : sysP rs = 0) (ht : checkP t = 0) (h : (doE rs t s).2 = 0) : checkP (doE rs t s).1 = 0 := by
  obtain ⟨_, hck, _⟩ := sys_B hr
  unfold doE at h ⊢
  by_cases hf : (findE rs t s).2 ≠ 0
  · rw [if_pos hf] at h; exact absurd h hf
  · rw [if_neg hf] at h ⊢
    have hf : (findE rs t s).2 = 0 := by simpa using hf
    obtain ⟨x, hfo⟩ := find_ok hf
    by_cases h2 : fitsP (rhsP rs t s) = true ∧ fitsP (putP t s.2 (rhsP rs t s)) = true
    · rw [if_pos h2] at h ⊢
      refine (check_iff _).2 ⟨?_, h2.2⟩
      refine put_formed _ _ _ _ hfo.at' ((check_iff _).1 ht).1 ?_
      refine formed_apply _ (fun b hb => ?_) _ ((check_iff _).1 (hck _ hfo.mem).2).1
      exact (((hfo.subOk).1.sub b hb).formed ((at_sub _ _ _ hfo.at').formed ((check_iff _).1 ht).1))
    · rw [if_neg h2] at h; cases h
theorem under_mem {rs : List (Term × Term)} {t : Term} {st : Int} {s : Int × List Int} (h : s ∈ underP rs t st) : s ∈ allS rs t := by
  rw [under_eq] at h
  unfold redR at h
  split at h
  · have : s ∈ (allS rs t).filter (keepP (allS rs t) st) := by
      cases hq : (allS rs t).filter (keepP (allS rs t) st) with
      | nil => rw [hq] at h; simp [firstS] at h
      | cons a r =>
        rw [hq] at h
        simp only [firstS, List.mem_cons] at h ⊢
        rcases h with h | h
        · exact .inl h
        · exact .inr ((List.takeWhile_sublist _).subset h)
    exact (List.mem_filter.1 this).1
  · exact (List.mem_filter.1 h).1
theorem normalize_ac (rs : List (Term × Term)) (hlen : rs.length < 1099511627776) (hb : BndR rs) (t : Term) (ht : t.bulk ≤ 1099511627775) (st most : Int) (H : List AObj) :
    ACall Tryz.prog 10 [.sl .none (encL encRu rs), encT t, .int .i64 st, .int .i64 most] H (fun r H' => r = encNE (normalE rs t st most) ∧ H' = H) := by
  refine ACall_VA (H.length) 79 [.cell 8 29, .cell 9 25, .tmp 10, .tmp 11] Tryz.func10 rfl rfl rfl ?_
  refine AW_reserve 1 ?_
  refine AW_of_W ?_
  simp only [push_cast, Nat.reduceAdd, Nat.reduceSub, Nat.reduceMul, Nat.reduceLT, Nat.reduceLeDiff, Nat.reduceEqDiff, Int.reduceToNat, ↓reduceIte]
  refine (both_ac rs hlen hb t ht _).to ?_
  simp only [push_cast, Nat.reduceAdd, Nat.reduceSub, Nat.reduceMul, Nat.reduceLT, Nat.reduceLeDiff, Nat.reduceEqDiff, Int.reduceToNat, ↓reduceIte]
  refine cI (fun h => ?_) (fun h => ?_)
  · obtain ⟨h1, h2⟩ := both_ok h
    have en : normalE rs t st most = if 1 ≤ st ∧ st ≤ 5 ∧ 0 ≤ most ∧ most ≤ 4096 then normF rs st t most.toNat t [] else (zeroT, [], zeroT, false, 2) := if_neg (by simpa using h)
    refine (strategic_ac st _).to ?_
    simp only [push_cast, Nat.reduceAdd, Nat.reduceSub, Nat.reduceMul, Nat.reduceLT, Nat.reduceLeDiff, Nat.reduceEqDiff, Int.reduceToNat, ↓reduceIte]
    have bad : ¬ (1 ≤ st ∧ st ≤ 5 ∧ 0 ≤ most ∧ most ≤ 4096) → normalE rs t st most = (zeroT, [], zeroT, false, 2) := fun h => en.trans (if_neg h)
    refine cI (fun hs1 => ?_) (fun hs1 => ?_)
    · refine cI (fun hm1 => ?_) (fun hm1 => ?_)
      · simp only [push_cast, Nat.reduceAdd, Nat.reduceSub, Nat.reduceMul, Nat.reduceLT, Nat.reduceLeDiff, Nat.reduceEqDiff, Int.reduceToNat, ↓reduceIte, bad (by omega), encNE, encL_nil]
      · refine cI (fun hm2 => ?_) (fun hm2 => ?_)
        · simp only [push_cast, Nat.reduceAdd, Nat.reduceSub, Nat.reduceMul, Nat.reduceLT, Nat.reduceLeDiff, Nat.reduceEqDiff, Int.reduceToNat, ↓reduceIte, bad (by omega), encNE, encL_nil]
        · have e : normalE rs t st most = normF rs st t most.toNat t [] := en.trans (if_pos (by omega))
          rw [e]
          refine (own_ac t ht _).to ?_
          simp only [push_cast, Nat.reduceAdd, Nat.reduceSub, Nat.reduceMul, Nat.reduceLT, Nat.reduceLeDiff, Nat.reduceEqDiff, Int.reduceToNat, ↓reduceIte]
          refine (own_ac t ht _).to ?_
          simp only [push_cast, Nat.reduceAdd, Nat.reduceSub, Nat.reduceMul, Nat.reduceLT, Nat.reduceLeDiff, Nat.reduceEqDiff, Int.reduceToNat, ↓reduceIte]
          obtain ⟨m, hm⟩ : ∃ m : Nat, m = most.toNat := ⟨_, rfl⟩
          have hmi : most = (m : Int) := by omega
          subst hmi
          rw [Int.toNat_natCast]
          refine AW_loopW (maskG 83 [0, 1, 0, 1, 2, 0, 3]) (fun (_ : Nat × Term × List (Int × List Int)) => []) (fun q => H ++ [gTok 48 2 (encL encSt q.2.2), .cells [.str q.2.1.name, .bool q.2.1.var, .sl .none (encTs q.2.1.args)], .cells [.str [], .bool false, .sl .zero [], .sl .zero []], .cells [.str [], .bool false, .sl .zero []], .cells [.str t.name, .bool t.var, .sl .none (encTs t.args), gSl H.length (encL encSt q.2.2)]]) (fun q => checkP q.2.1 = 0 ∧ q.2.2.length + q.1 = m ∧ normF rs st t m t [] = normF rs st t q.1 q.2.1 q.2.2) (fun q => q.1) (m, t, []) ⟨h2, by simp, rfl⟩ (by simp only [push_cast, Nat.reduceAdd, Nat.reduceSub, Nat.reduceMul, Nat.reduceLT, Nat.reduceLeDiff, Nat.reduceEqDiff, Int.reduceToNat, ↓reduceIte, encL_nil]) (fun q hq => ?_)
          obtain ⟨n, u, acc⟩ := q
          obtain ⟨q1, q2, q3⟩ := hq
          simp only at q1 q2 q3
          have hB := (sys_B h1).1
          have huc := check_small q1
          obtain ⟨tk, htk⟩ := gSl_ex H.length (encL encSt acc)
          simp only [push_cast, Nat.reduceAdd, Nat.reduceSub, Nat.reduceMul, Nat.reduceLT, Nat.reduceLeDiff, Nat.reduceEqDiff, Int.reduceToNat, ↓reduceIte]
          refine (under_ac rs hB u (by omega) st _).to ?_
          simp only [push_cast, Nat.reduceAdd, Nat.reduceSub, Nat.reduceMul, Nat.reduceLT, Nat.reduceLeDiff, Nat.reduceEqDiff, Int.reduceToNat, ↓reduceIte]
          rw [q3]
          cases hu : underP rs u st with
          | nil =>
            have ef : normF rs st t n u acc = (t, acc, u, true, 0) := by cases n <;> simp [normF, hu]
            rw [ef]
            refine cI (fun _ => ?_) (fun h => absurd rfl h)
            apply AW_drawE [some 56, some 57, some 58, some 59, some 60, none, none, some 10, some 11] [([false, false], _), ([true, false], _), ([true, true], _)] [none, none, none, none, none, some 0, some 1, none, none] 2 [(0, [false, false], [13]), (1, [false, false], [5]), (2, [false, false], [14]), (3, [false, false], [58]), (4, [false, false], [59]), (5, [false, false], [8, 47]), (6, [true, false], [9, 47]), (7, [true, true], [60]), (8, [true, true], []), (1, [true, false], [5]), (2, [true, false], [14]), (2, [true, true], [14]), (3, [true, false], [58]), (3, [true, true], [58]), (4, [true, false], [59]), (4, [true, true], [59])] [_, _, _, _, _, _, _, _, _]
            case' hm => exact dr
            case' hn => rfl
            case' hok => rfl
            case' hlen => rfl
            case' hd => rfl
            case' h0 => rfl
            case' hstep =>
             simp only [DAllG, push_cast, Option.isSome_some, Option.isSome_none]
             repeat' apply And.intro
             all_goals (apply DOne_V; simp only [push_cast, Nat.reduceAdd, Nat.reduceSub, Nat.reduceMul, Nat.reduceLT, Nat.reduceLeDiff, Nat.reduceEqDiff, Int.reduceToNat, ↓reduceIte] <;> first | exact rfl | omega | exact ⟨rfl, rfl⟩ | exact trivial | exact ⟨by omega, rfl⟩ | exact ⟨by omega, by omega, rfl⟩ | exact ⟨by omega, rfl, rfl⟩ | exact ⟨by omega, by omega, rfl, rfl⟩ | skip)
            case' hQ => skip
            simp only [push_cast, Nat.reduceAdd, Nat.reduceSub, Nat.reduceMul, Nat.reduceLT, Nat.reduceLeDiff, Nat.reduceEqDiff, Int.reduceToNat, ↓reduceIte, encNE]
          | cons s r =>
            refine cI (fun h => absurd h (by simp; omega)) (fun _ => ?_)
            rw [htk]
            simp only [push_cast, Nat.reduceAdd, Nat.reduceSub, Nat.reduceMul, Nat.reduceLT, Nat.reduceLeDiff, Nat.reduceEqDiff, Int.reduceToNat, ↓reduceIte]
            rw [← htk]
            refine cI (fun hl => ?_) (fun hl => ?_)
            · have hn0 : n = 0 := by omega
              subst hn0
              have ef : normF rs st t 0 u acc = (t, acc, u, false, 0) := by simp [normF, hu]
              rw [ef]
              apply AW_drawE [some 56, some 57, some 58, some 59, some 60, none, none, some 10, some 11] [([false, false], _), ([true, false], _), ([true, true], _)] [none, none, none, none, none, some 0, some 1, none, none] 2 [(0, [false, false], [13]), (1, [false, false], [5]), (2, [false, false], [14]), (3, [false, false], [58]), (4, [false, false], [59]), (5, [false, false], [8, 47]), (6, [true, false], [9, 47]), (7, [true, true], [60]), (8, [true, true], []), (1, [true, false], [5]), (2, [true, false], [14]), (2, [true, true], [14]), (3, [true, false], [58]), (3, [true, true], [58]), (4, [true, false], [59]), (4, [true, true], [59])] [_, _, _, _, _, _, _, _, _]
              case' hm => exact dr
              case' hn => rfl
              case' hok => rfl
              case' hlen => rfl
              case' hd => rfl
              case' h0 => rfl
              case' hstep =>
               simp only [DAllG, push_cast, Option.isSome_some, Option.isSome_none]
               repeat' apply And.intro
               all_goals (apply DOne_V; simp only [push_cast, Nat.reduceAdd, Nat.reduceSub, Nat.reduceMul, Nat.reduceLT, Nat.reduceLeDiff, Nat.reduceEqDiff, Int.reduceToNat, ↓reduceIte] <;> first | exact rfl | omega | exact ⟨rfl, rfl⟩ | exact trivial | exact ⟨by omega, rfl⟩ | exact ⟨by omega, by omega, rfl⟩ | exact ⟨by omega, rfl, rfl⟩ | exact ⟨by omega, by omega, rfl, rfl⟩ | skip)
              case' hQ => skip
              simp only [push_cast, Nat.reduceAdd, Nat.reduceSub, Nat.reduceMul, Nat.reduceLT, Nat.reduceLeDiff, Nat.reduceEqDiff, Int.reduceToNat, ↓reduceIte, encNE]
              omega
            · obtain ⟨n, rfl⟩ : ∃ n', n = n' + 1 := ⟨n - 1, by omega⟩
              have hsm := step_len (under_mem (by rw [hu]; exact List.mem_cons_self : s ∈ underP rs u st))
              have hdc := fun h => do_check (s := s) h1 q1 h
              apply AW_drawE [some 62, some 63, some 64, some 65, some 66, some 67, some 61, some 68, some 69, none, some 15] [([false], _), ([true], _)] [none, none, none, none, none, none, none, none, none, some 0, none] 1 [(0, [false], [0]), (1, [false], [5]), (2, [false], [14]), (3, [false], [64]), (4, [false], [65]), (5, [false], [62, 0, 2]), (6, [false], [67]), (7, [false], [61]), (8, [false], [61]), (9, [false], [5, 62]), (10, [true], [69]), (8, [true], [61])] [_, _, _, _, _, _, _, _, _, _, _]
              case' hm => exact dr
              case' hn => rfl
              case' hok => rfl
              case' hlen => rfl
              case' hd => rfl
              case' h0 => rfl
              case' hstep =>
               simp only [DAllG, push_cast, Option.isSome_some, Option.isSome_none]
               repeat' apply And.intro
               all_goals (apply DOne_V; simp only [push_cast, Nat.reduceAdd, Nat.reduceSub, Nat.reduceMul, Nat.reduceLT, Nat.reduceLeDiff, Nat.reduceEqDiff, Int.reduceToNat, ↓reduceIte] <;> first | exact rfl | omega | exact ⟨rfl, rfl⟩ | exact trivial | exact ⟨by omega, rfl⟩ | exact ⟨by omega, by omega, rfl⟩ | exact ⟨by omega, rfl, rfl⟩ | exact ⟨by omega, by omega, rfl, rfl⟩ | exact (do_ac rs h1 u q1 s (by omega) _).to ⟨rfl, rfl⟩)
              case' hQ => skip
              simp only [push_cast, Nat.reduceAdd, Nat.reduceSub, Nat.reduceMul, Nat.reduceLT, Nat.reduceLeDiff, Nat.reduceEqDiff, Int.reduceToNat, ↓reduceIte]
              refine cI (fun hd => ?_) (fun hd => ?_)
              · have ef : normF rs st t (n + 1) u acc = normF rs st t n (doE rs u s).1 (acc ++ [s]) := by simp [normF, hu, hd]
                have hac : acc.length < 5000 := by omega
                apply AW_drawE [some 75, some 76, some 77, some 78, some 79, some 80, some 81, some 82, none] [([false, false], _), ([true, false], _), ([true, true], _)] [none, none, none, none, none, none, some 0, none, some 1] 2 [(0, [false, false], [13]), (1, [false, false], [75]), (2, [false, false], [14]), (3, [false, false], [77]), (4, [false, false], [78]), (5, [false, false], [79]), (6, [false, false], [76, 3]), (7, [true, false], [13]), (8, [true, false], [81, 0]), (0, [true, false], [13]), (2, [true, false], [14]), (3, [true, false], [77]), (4, [true, false], [78])] [_, _, _, _, _, _, _, _, _]
                case' hm => exact dr
                case' hn => rfl
                case' hok => rfl
                case' hlen => rfl
                case' hd => rfl
                case' h0 => rfl
                case' hstep =>
                 simp only [DAllG, push_cast, Option.isSome_some, Option.isSome_none]
                 repeat' apply And.intro
                 all_goals (apply DOne_V; simp only [push_cast, Nat.reduceAdd, Nat.reduceSub, Nat.reduceMul, Nat.reduceLT, Nat.reduceLeDiff, Nat.reduceEqDiff, Int.reduceToNat, ↓reduceIte] <;> first | exact rfl | omega | exact ⟨rfl, rfl⟩ | exact trivial | exact ⟨by omega, rfl⟩ | exact ⟨by omega, by omega, rfl⟩ | exact ⟨by omega, rfl, rfl⟩ | exact ⟨by omega, by omega, rfl, rfl⟩ | (refine app1_L encSt (sz := 2) (fun _ => rfl) cellSt _ H.length acc s _ rfl rfl (by exact aget0 _ _ _) sl27 sz48 by48 zr48 rfl (by decide) (by decide) (by omega) ?_; simp only [push_cast, Nat.reduceAdd, Nat.reduceSub, Nat.reduceMul, Nat.reduceLT, Nat.reduceLeDiff, Nat.reduceEqDiff, Int.reduceToNat, ↓reduceIte]; exact ⟨rfl, rfl⟩) | exact ⟨by omega, by simp, trivial⟩)
                case' hQ => skip
                simp only [push_cast, Nat.reduceAdd, Nat.reduceSub, Nat.reduceMul, Nat.reduceLT, Nat.reduceLeDiff, Nat.reduceEqDiff, Int.reduceToNat, ↓reduceIte]
                exact loopW_n (n, (doE rs u s).1, acc ++ [s]) ⟨hdc hd, by simp; omega, ef⟩ (by simp) (by simp only [push_cast, Nat.reduceAdd, Nat.reduceSub, Nat.reduceMul, Nat.reduceLT, Nat.reduceLeDiff, Nat.reduceEqDiff, Int.reduceToNat, ↓reduceIte])
              · have ef : normF rs st t (n + 1) u acc = (zeroT, [], zeroT, false, (doE rs u s).2) := by simp [normF, hu, hd]
                rw [ef]
                simp only [push_cast, Nat.reduceAdd, Nat.reduceSub, Nat.reduceMul, Nat.reduceLT, Nat.reduceLeDiff, Nat.reduceEqDiff, Int.reduceToNat, ↓reduceIte, encNE, encL_nil]
    · simp only [push_cast, Nat.reduceAdd, Nat.reduceSub, Nat.reduceMul, Nat.reduceLT, Nat.reduceLeDiff, Nat.reduceEqDiff, Int.reduceToNat, ↓reduceIte, bad (by omega), encNE, encL_nil]
  · have e : normalE rs t st most = (zeroT, [], zeroT, false, bothP rs t) := if_pos h
    simp only [push_cast, Nat.reduceAdd, Nat.reduceSub, Nat.reduceMul, Nat.reduceLT, Nat.reduceLeDiff, Nat.reduceEqDiff, Int.reduceToNat, ↓reduceIte, e, encNE, encL_nil]
end Ab
set_option maxRecDepth 10000
namespace Ab
open Go Go.Proofs
section
variable {P : Program} {ro : Option Nat} {st : ASt} {dst : Option Tmp} {ty : TypeId} {pos : String} {after : Array Edge} {guard : Option (Nat × Bool)} {K : AV → List AObj → Prop}
end
theorem osc_itAi (n m ver : Nat) (l : List (List UInt8 × Nat)) (a : List UInt8) (b : Nat) (h : m < n) : OScoped n (.iter m ver (sA l) (some (.str a, .int .i64 (b : Nat)))) = True := osc_itA n m ver l (some (a, b)) h
attribute [push_cast] osc_itAi
end Ab
set_option maxRecDepth 10000
namespace Ab
open Go Go.Proofs
theorem putR_ac (x : Term) (hx : x.bulk ≤ 1099511627775) : ∀ (p : List Int) (t y : Term), t.bulk ≤ 1099511627775 → p.length < 1099511627776 → atP t p = some y → ∀ H,
    ACall Tryz.prog 28 [encT t, .sl .none (encP p), encT x] H (fun r H' => r = encT (putP t p x) ∧ H' = H) := by
  intro p
  induction p with
  | nil =>
    rintro ⟨n, u, xs⟩ y hb hlen hat H
    refine ACall_V (H.length) 32 [.cell 6 25] Tryz.func28 rfl rfl rfl ?_
    simp only [push_cast, Nat.reduceAdd, Nat.reduceSub, Nat.reduceMul, Nat.reduceLT, Nat.reduceLeDiff, Nat.reduceEqDiff, Int.reduceToNat, ↓reduceIte, putP]
  | cons k q ih =>
    rintro ⟨n, u, xs⟩ y hb hlen hat H
    have hl2 := Term.len_le (n := n) (v := u) (xs := xs)
    obtain ⟨hk, hat2⟩ := step_some hat
    rw [step_put _ _ _ _ _ _ hk.2]
    have hbx := arg_bulk hb k.toNat hk.2
    have hne : encTs xs ≠ [] := fun e => by have := congrArg List.length e; rw [encTs_length] at this; simp at this; rw [this] at hk; simp at hk
    have hrec := fun H => ih (xs[k.toNat]'hk.2) y hbx (by simp at hlen; omega) hat2 H
    have hget := flat_encTs_get xs k.toNat hk.2
    have hset := flat_encTs_set2 xs k.toNat hk.2
    have hfl := flat_encTs_len xs
    refine ACall_VA (H.length) 32 [.cell 6 25] Tryz.func28 rfl rfl rfl ?_
    refine AW_seq (AW_of_W ?_)
    simp only [push_cast, Nat.reduceAdd, Nat.reduceSub, Nat.reduceMul, Nat.reduceLT, Nat.reduceLeDiff, Nat.reduceEqDiff, Int.reduceToNat, ↓reduceIte]
    refine AW_reserve 1 ?_
    refine AW_seq (AW_of_W ?_)
    simp only [push_cast, Nat.reduceAdd, Nat.reduceSub, Nat.reduceMul, Nat.reduceLT, Nat.reduceLeDiff, Nat.reduceEqDiff, Int.reduceToNat, ↓reduceIte]
    refine cI (fun h => by omega) (fun _ => ?_)
    refine AW_seq (AW_of_W ?_)
    simp only [push_cast, Nat.reduceAdd, Nat.reduceSub, Nat.reduceMul, Nat.reduceLT, Nat.reduceLeDiff, Nat.reduceEqDiff, Int.reduceToNat, ↓reduceIte]
    refine AOp_append_arrAt (H.length + 3) (by exact (agetN _ _ 3).trans rfl) _ (encTs xs) _ rfl rfl sl23 sz25 by25 zr25 rfl (by decide) (uni_encTs _) (cell_encTs _) hne (by rw [encTs_length]; omega) (by rw [encTs_length]; omega) ?_
    simp only [push_cast, Nat.reduceAdd, Nat.reduceSub, Nat.reduceMul, Nat.reduceLT, Nat.reduceLeDiff, Nat.reduceEqDiff, Int.reduceToNat, ↓reduceIte]
    refine AW_seq ?_
    apply AW_drawE [some 16, some 17, some 18, some 19, some 20, some 21, some 22, some 23, some 24, some 25, some 26, some 27, some 28, some 29, some 30, none] [([false], _), ([true], _)] [none, none, none, none, none, none, none, none, none, none, none, none, none, none, none, some 0] 1 [(0, [false], [7]), (1, [false], [1]), (2, [false], [17]), (3, [false], [18]), (4, [false], [7]), (5, [false], [1]), (6, [false], [21]), (7, [false], [22]), (8, [false], [20, 2]), (9, [false], [24]), (10, [false], [1]), (11, [false], [26]), (12, [false], [5]), (13, [false], [25, 1, 0]), (14, [false], [16, 2]), (15, [false], [29, 0])] [_, _, _, _, _, _, _, _, _, _, _, _, _, _, _, _]
    case' hm => exact dr
    case' hn => rfl
    case' hok => rfl
    case' hlen => rfl
    case' hd => rfl
    case' h0 => rfl
    case' hstep =>
     simp only [DAllG, push_cast, Option.isSome_some, Option.isSome_none]
     repeat' apply And.intro
     all_goals (apply DOne_V; simp only [push_cast, Nat.reduceAdd, Nat.reduceSub, Nat.reduceMul, Nat.reduceLT, Nat.reduceLeDiff, Nat.reduceEqDiff, Int.reduceToNat, ↓reduceIte] <;> first | exact rfl | omega | exact ⟨rfl, rfl⟩ | exact trivial | exact ⟨by omega, rfl⟩ | exact ⟨by omega, by omega, rfl⟩ | exact ⟨by omega, rfl, rfl⟩ | exact ⟨by omega, by omega, rfl, rfl⟩ | (rw [hget]; exact ⟨leL_of (by rw [hfl]; omega), rfl⟩) | exact (hrec _).to ⟨rfl, rfl⟩ | (rw [hset]; exact ⟨leL_of (by rw [hfl]; omega), rfl, rfl⟩))
    case' hQ => skip
    obtain ⟨zs, hzs⟩ : ∃ zs, zs = xs.set k.toNat (putP (xs[k.toNat]'hk.2) q x) := ⟨_, rfl⟩
    rw [← hzs]
    have hzl : zs.length = xs.length := by rw [hzs, List.length_set]
    have hLl : (H ++ [AObj.cells [.str n, .bool u, .sl .none (encTs xs)], .cells [.str x.name, .bool x.var, .sl .none (encTs x.args)], .cells [.str [], .bool false, .sl .zero []]]).length = H.length + 3 := by simp
    simp only [push_cast, Nat.reduceAdd, Nat.reduceSub, Nat.reduceMul, Nat.reduceLT, Nat.reduceLeDiff, Nat.reduceEqDiff, Int.reduceToNat, ↓reduceIte]
    apply AW_freezeA (H ++ [.cells [.str n, .bool u, .sl .none (encTs xs)], .cells [.str x.name, .bool x.var, .sl .none (encTs x.args)], .cells [.str [], .bool false, .sl .zero []]]) (flat (encTs zs))
    case' hh => simp
    case' hm => rw [hLl]; simp only [push_cast, Nat.reduceAdd, Nat.reduceSub, Nat.reduceMul, Nat.reduceLT, Nat.reduceLeDiff, Nat.reduceEqDiff, Int.reduceToNat, ↓reduceIte]
    case' hvs => exact scoped_flatT _ zs
    case' hsl => (rw [hLl]; repeat (first | exact FrzOk.nil | apply FrzOk.froz | (apply FrzOk.row (xs := encTs zs); (case' hxs => rfl); (case' hn => (rw [encTs_length, hzl]))) | (apply FrzOk.same; (case' hv => (first | (simp [push_cast]; done) | (simp [push_cast, Scoped, ScopedL, scoped_encTs]; done)))) | apply FrzOk.junk))
    refine AW_of_W ?_
    simp only [push_cast, Nat.reduceAdd, Nat.reduceSub, Nat.reduceMul, Nat.reduceLT, Nat.reduceLeDiff, Nat.reduceEqDiff, Int.reduceToNat, ↓reduceIte]
end Ab
set_option maxRecDepth 10000
namespace Ab
open Go Go.Proofs
theorem do_alt {rs : List (Term × Term)} {t : Term} {s : Int × List Int} : doE rs t s = if (findE rs t s).2 ≠ 0 then (zeroT, (findE rs t s).2) else if fitsP (putP t s.2 (rhsP rs t s)) = true then (putP t s.2 (rhsP rs t s), 0) else (zeroT, 3) := by
  unfold doE
  by_cases h : (findE rs t s).2 ≠ 0
  · rw [if_pos h, if_pos h]
  · rw [if_neg h, if_neg h]
    obtain ⟨x, hf⟩ := find_ok (by simpa using h)
    by_cases h2 : fitsP (putP t s.2 (rhsP rs t s)) = true
    · have hs := (at_sub _ _ _ (at_put _ _ (rhsP rs t s) _ hf.at')).sizes
      have h1 : fitsP (rhsP rs t s) = true := by
        unfold fitsP at h2 ⊢
        rw [Bool.and_eq_true, decide_eq_true_eq, decide_eq_true_eq] at h2 ⊢
        omega
      rw [if_pos ⟨h1, h2⟩, if_pos h2]
    · rw [if_neg h2, if_neg (fun h => h2 h.2)]
end Ab
set_option maxRecDepth 10000
namespace Ab
open Go Go.Proofs
theorem at_apply (τ : List (List UInt8 × Term)) : ∀ (p : List Int) (t y : Term), atP t p = some y → formedP t = true → atP (applyP τ t) p = some (applyP τ y)
  | [], t, y, h, _ => by simp [atP] at h; subst h; rw [atP]
  | i :: p, .mk n u xs, y, h, hf => by
    have hv := at_var h (by simp) hf
    rw [Term.var_mk] at hv
    subst hv
    rw [applyP_mk]
    simp only [Bool.false_eq_true, if_false]
    simp only [atP, List.length_map] at h ⊢
    split at h
    · rename_i hi
      rw [dif_pos hi, List.getElem_map]
      have hx : formedP xs[i.toNat] = true := by rw [formedP_mk] at hf; simp at hf; exact hf.2 _ (List.getElem_mem hi.2)
      exact at_apply τ p _ y h hx
    · cases h
theorem put_apply (τ : List (List UInt8 × Term)) (x : Term) : ∀ (p : List Int) (t y : Term), atP t p = some y → formedP t = true → applyP τ (putP t p x) = putP (applyP τ t) p (applyP τ x)
  | [], t, y, _, _ => by
    have e : ∀ a b : Term, putP a [] b = b := fun a b => by cases a; rfl
    rw [e, e]
  | i :: p, .mk n u xs, y, h, hf => by
    have hv := at_var h (by simp) hf
    rw [Term.var_mk] at hv
    subst hv
    simp only [atP] at h
    split at h
    · rename_i hi
      have hx : formedP xs[i.toNat] = true := by rw [formedP_mk] at hf; simp at hf; exact hf.2 _ (List.getElem_mem hi.2)
      have hg : xs.getD i.toNat (.mk [] false []) = xs[i.toNat] := by simp [hi.2]
      have hg2 : (xs.map (applyP τ)).getD i.toNat (.mk [] false []) = applyP τ xs[i.toNat] := by simp [hi.2]
      rw [applyP_mk]
      simp only [Bool.false_eq_true, if_false, putP, hg, hg2]
      rw [applyP_mk]
      simp only [Bool.false_eq_true, if_false]
      rw [List.map_set, put_apply τ x p _ y h hx]
    · cases h
theorem put_app (x : Term) (p : List Int) (t : Term) : ∀ (q : List Int) (c y : Term), atP c q = some y → putP (putP c q t) (q ++ p) x = putP c q (putP t p x)
  | [], c, y, _ => by
    have e : ∀ a b : Term, putP a [] b = b := fun a b => by cases a; rfl
    rw [e, e]; rfl
  | i :: q, .mk n u xs, y, h => by
    simp only [atP] at h
    split at h
    · rename_i hi
      have hg : xs.getD i.toNat (.mk [] false []) = xs[i.toNat] := by simp [hi.2]
      have ih := put_app x p t q xs[i.toNat] y h
      simp only [putP, hg, List.cons_append]
      have hg2 : (xs.set i.toNat (putP xs[i.toNat] q t)).getD i.toNat (.mk [] false []) = putP xs[i.toNat] q t := by simp [hi.2]
      rw [hg2, ih, List.set_set]
    · cases h
theorem apply_agree {σ σ' : List (List UInt8 × Term)} (t : Term) : (∀ v, 0 < countP v t → imageP σ v = imageP σ' v) → applyP σ t = applyP σ' t := by
  induction t using Term.ind with | _ n u xs ih
  intro h
  rw [applyP_mk, applyP_mk]
  cases u with
  | true =>
    simp only [if_true]
    refine h n ?_
    have := counts_bound n xs
    rw [countP_mk]; simp [oneP]; omega
  | false =>
    simp only [Bool.false_eq_true, if_false]
    congr 1
    refine List.map_congr_left fun x hx => ih x hx fun v hv => h v ?_
    rw [countP_mk]
    have := (counts_pos v xs).1 ⟨x, hx, hv⟩
    simp [oneP]; omega
theorem find_apply {rs : List (Term × Term)} (hr : sysP rs = 0) {t : Term} (ht : checkP t = 0) {τ : List (List UInt8 × Term)} (hτ : SortedN (τ.map (·.1))) {s : Int × List Int} (h : (findE rs t s).2 = 0) :
    (findE rs (applyP τ t) s).2 = 0 ∧ rhsP rs (applyP τ t) s = applyP τ (rhsP rs t s) := by
  obtain ⟨hB, hck, hex⟩ := sys_B hr
  obtain ⟨x, hf⟩ := find_ok h
  have h0 : SortedN (([] : List (List UInt8 × Term)).map (·.1)) := by simp [SortedN]
  have ha := at_apply τ _ _ _ hf.at' ((check_iff _).1 ht).1
  have hl : applyP (findE rs t s).1 (ruleN rs s.1).1 = x := matchP_true h0 hf.ok (by rw [hf.eq]; exact subLe.refl _)
  have hc : applyP (compS (findE rs t s).1 τ) (ruleN rs s.1).1 = applyP τ x := by rw [apply_comp hτ, hl]
  obtain ⟨m1, m2⟩ := matchP_complete h0 (by intro v x hx; simp [look] at hx) hc
  have e : findE rs (applyP τ t) s = ((matchP (ruleN rs s.1).1 (applyP τ x) []).1, 0) := by
    unfold findE
    rw [if_pos ⟨hf.lo, hf.hi⟩, ha]
    simp only [m1, if_true]
  refine ⟨by rw [e], ?_⟩
  unfold rhsP
  rw [e, ← apply_comp hτ]
  refine apply_agree _ fun v hv => ?_
  have hx := hex _ hf.mem
  unfold extraP at hx
  rw [Bool.or_eq_false_iff] at hx
  have hin : v ∈ varsP [(ruleN rs s.1).1] := by
    have := hx.2
    rw [List.any_eq_false] at this
    have hv' : v ∈ varsP [(ruleN rs s.1).2] := (mem_foldC v [(ruleN rs s.1).2] []).2 (.inr ⟨_, by simp, hv⟩)
    simpa using this v hv'
  have hin' : 0 < countP v (ruleN rs s.1).1 := by
    rcases (mem_foldC v [(ruleN rs s.1).1] []).1 hin with h | ⟨t, ht, h⟩
    · cases h
    · rw [List.mem_singleton] at ht; rw [← ht]; exact h
  have hd := (matchP_dom h0 ((check_iff _).1 (hck _ hf.mem).1).1 m1 v).2 (.inr hin')
  obtain ⟨y, hy⟩ := Option.isSome_iff_exists.1 hd
  rw [m2 v y hy, image_look, hy]; rfl
theorem do_apply {rs : List (Term × Term)} (hr : sysP rs = 0) {t : Term} (ht : checkP t = 0) {τ : List (List UInt8 × Term)} (hτ : SortedN (τ.map (·.1))) {s : Int × List Int} (h : (doE rs t s).2 = 0) :
    doE rs (applyP τ t) s = if fitsP (applyP τ (doE rs t s).1) = true then (applyP τ (doE rs t s).1, 0) else (zeroT, 3) := by
  rw [do_alt] at h
  by_cases h1 : (findE rs t s).2 ≠ 0
  · rw [if_pos h1] at h; exact absurd h h1
  · have h1' : (findE rs t s).2 = 0 := by simpa using h1
    rw [if_neg h1] at h
    by_cases h2 : fitsP (putP t s.2 (rhsP rs t s)) = true
    · obtain ⟨g1, g2⟩ := find_apply hr ht hτ h1'
      obtain ⟨x, hf⟩ := find_ok h1'
      have e : doE rs t s = (putP t s.2 (rhsP rs t s), 0) := by rw [do_alt, if_neg h1, if_pos h2]
      rw [e, do_alt, if_neg (by simpa using g1), g2]
      rw [put_apply τ _ _ _ _ hf.at' ((check_iff _).1 ht).1]
    · rw [if_neg h2] at h; cases h
theorem find_put {rs : List (Term × Term)} {t c y : Term} {q : List Int} (hc : atP c q = some y) (s : Int × List Int) : findE rs (putP c q t) (s.1, q ++ s.2) = findE rs t s := by
  unfold findE
  simp only
  rw [at_app, at_put _ _ t _ hc]
  rfl
theorem do_put {rs : List (Term × Term)} {t c y : Term} {q : List Int} (hc : atP c q = some y) {s : Int × List Int} (h : (doE rs t s).2 = 0) :
    doE rs (putP c q t) (s.1, q ++ s.2) = if fitsP (putP c q (doE rs t s).1) = true then (putP c q (doE rs t s).1, 0) else (zeroT, 3) := by
  rw [do_alt] at h
  by_cases h1 : (findE rs t s).2 ≠ 0
  · rw [if_pos h1] at h; exact absurd h h1
  · rw [if_neg h1] at h
    by_cases h2 : fitsP (putP t s.2 (rhsP rs t s)) = true
    · have e : doE rs t s = (putP t s.2 (rhsP rs t s), 0) := by rw [do_alt, if_neg h1, if_pos h2]
      rw [e, do_alt, find_put hc, if_neg h1]
      have e2 : rhsP rs (putP c q t) (s.1, q ++ s.2) = rhsP rs t s := by unfold rhsP; rw [find_put hc]
      rw [e2]
      simp only
      rw [put_app _ _ _ _ _ _ hc]
    · rw [if_neg h2] at h; cases h
theorem check_formed {t : Term} (h : formedP t = true) : checkP t = if fitsP t = true then 0 else 3 := by
  unfold checkP
  rw [h]
  cases fitsP t <;> simp
end Ab
set_option maxRecDepth 10000
namespace Ab
open Go Go.Proofs
theorem sameSteps_ac (a b : List (Int × List Int)) (h1 : a.length < 1099511627776) (h2 : b.length < 1099511627776) (h3 : ∀ x, x ∈ a → x.2.length < 1099511627776) (h4 : ∀ x, x ∈ b → x.2.length < 1099511627776) (H : List AObj) :
    ACall Tryz.prog 20 [.sl .none (encL encSt a), .sl .none (encL encSt b)] H (fun r H' => r = .bool (decide (a = b)) ∧ H' = H) := by
  refine ACall_V (H.length) 40 [.tmp 4] Tryz.func20 rfl rfl rfl ?_
  simp only [push_cast, Nat.reduceAdd, Nat.reduceSub, Nat.reduceMul, Nat.reduceLT, Nat.reduceLeDiff, Nat.reduceEqDiff, Int.reduceToNat, ↓reduceIte]
  refine cI (fun hl => ?_) (fun hl => ?_)
  · have hl : a.length = b.length := by omega
    refine AW_loopW (maskG 42 [0, 0, 10, 0]) (fun (i : Nat) => [(13, .int .i64 i)]) (fun _ => H) (fun i => i ≤ a.length ∧ a.take i = b.take i) (fun i => a.length - i) 0 ⟨Nat.zero_le _, rfl⟩ (by simp only [push_cast, Nat.reduceAdd, Nat.reduceSub, Nat.reduceMul, Nat.reduceLT, Nat.reduceLeDiff, Nat.reduceEqDiff, Int.reduceToNat, ↓reduceIte]) (fun i hi => ?_)
    simp only [push_cast, Nat.reduceAdd, Nat.reduceSub, Nat.reduceMul, Nat.reduceLT, Nat.reduceLeDiff, Nat.reduceEqDiff, Int.reduceToNat, ↓reduceIte]
    refine cI (fun h => ?_) (fun h => ?_)
    · repeat refine ⟨by omega, ?_⟩
      have hia : i < a.length := by omega
      have hib : i < b.length := by omega
      have heq := fun H => samePosR_ac (a[i]'hia).2 (b[i]'hib).2 (h3 _ (List.getElem_mem hia)) (h4 _ (List.getElem_mem hib)) H
      by_cases hn : (a[i]'hia).1 = (b[i]'hib).1
      · have hd : decide ((a[i]'hia).1 = (b[i]'hib).1) = true := by simpa using hn
        apply AW_drawE [some 16, some 17, some 18, some 19, some 20, some 21, some 22, some 23, some 24, some 25, some 26, some 27, some 28, some 29, some 30, some 31, some 32, some 33, some 34, some 35, some 36, some 37, some 38, some 39, some 40] [([], _)] [none, none, none, none, none, none, none, none, none, none, none, none, none, none, none, none, none, none, none, none, none, none, none, none, none] 0 [(0, [], [0]), (1, [], [5]), (2, [], [16, 0]), (3, [], [18]), (4, [], [19]), (5, [], [1]), (6, [], [5]), (7, [], [21, 0]), (8, [], [23]), (9, [], [24]), (10, [], [20, 4]), (11, [], [26]), (12, [], [0, 26]), (13, [], [5, 21]), (14, [], [27, 0, 0]), (15, [], [27, 2]), (16, [], [27, 3]), (17, [], [1, 25]), (18, [], [5, 21]), (19, [], [27, 5, 0]), (20, [], [27, 7]), (21, [], [27, 8]), (22, [], [27, 4, 4]), (23, [], [27, 10]), (24, [], [27, 11])] [_, _, _, _, _, _, _, _, _, _, _, _, _, _, _, _, _, _, _, _, _, _, _, _, _]
        case' hm => exact dr
        case' hn => rfl
        case' hok => rfl
        case' hlen => rfl
        case' hd => rfl
        case' h0 => rfl
        case' hstep =>
         simp only [DAllG, push_cast, Option.isSome_some, Option.isSome_none]
         repeat' apply And.intro
         all_goals (apply DOne_V; simp only [push_cast, Nat.reduceAdd, Nat.reduceSub, Nat.reduceMul, Nat.reduceLT, Nat.reduceLeDiff, Nat.reduceEqDiff, Int.reduceToNat, ↓reduceIte, hd, Bool.not_true] <;> first | exact rfl | omega | exact ⟨rfl, rfl⟩ | exact trivial | exact ⟨by omega, rfl⟩ | exact ⟨by omega, by omega, rfl⟩ | exact ⟨by omega, rfl, rfl⟩ | exact ⟨by omega, by omega, rfl, rfl⟩ | exact ⟨by omega, trivial⟩ | exact (heq _).to ⟨rfl, rfl⟩)
        case' hQ => skip
        simp only [push_cast, Nat.reduceAdd, Nat.reduceSub, Nat.reduceMul, Nat.reduceLT, Nat.reduceLeDiff, Nat.reduceEqDiff, Int.reduceToNat, ↓reduceIte, hd, Bool.not_true]
        refine cI (fun he => ?_) (fun he => ?_)
        · repeat' first | refine ⟨by omega, ?_⟩ | refine cI (fun _ => ?_) (fun _ => ?_)
          refine loopW_n (i + 1) ⟨by omega, ?_⟩ (by omega) (by simp only [push_cast, Nat.reduceAdd, Nat.reduceSub, Nat.reduceMul, Nat.reduceLT, Nat.reduceLeDiff, Nat.reduceEqDiff, Int.reduceToNat, ↓reduceIte])
          rw [List.take_succ_eq_append_getElem hia, List.take_succ_eq_append_getElem hib, hi.2]
          congr 2
          exact Prod.ext hn he
        · have hne : a ≠ b := fun e => he (by subst e; rfl)
          simp [hne]
      · have hd : decide ((a[i]'hia).1 = (b[i]'hib).1) = false := by simpa using hn
        apply AW_drawE [some 16, some 17, some 18, some 19, some 20, some 21, some 22, some 23, some 24, some 25, some 26, some 27, some 28, some 29, some 30, some 31, some 32, some 33, some 34, some 35, some 36, some 37, some 38, some 39, some 40] [([], _)] [none, none, none, none, none, none, none, none, none, none, none, none, none, none, none, none, none, none, none, none, none, none, none, none, none] 0 [(0, [], [0]), (1, [], [5]), (2, [], [16, 0]), (3, [], [18]), (4, [], [19]), (5, [], [1]), (6, [], [5]), (7, [], [21, 0]), (8, [], [23]), (9, [], [24]), (10, [], [20, 4]), (11, [], [26]), (12, [], [0, 26]), (13, [], [5, 21]), (14, [], [27, 0, 0]), (15, [], [27, 2]), (16, [], [27, 3]), (17, [], [1, 25]), (18, [], [5, 21]), (19, [], [27, 5, 0]), (20, [], [27, 7]), (21, [], [27, 8]), (22, [], [27, 4, 4]), (23, [], [27, 10]), (24, [], [27, 11])] [_, _, _, _, _, _, _, _, _, _, _, _, _, _, _, _, _, _, _, _, _, _, _, _, _]
        case' hm => exact dr
        case' hn => rfl
        case' hok => rfl
        case' hlen => rfl
        case' hd => rfl
        case' h0 => rfl
        case' hstep =>
         simp only [DAllG, push_cast, Option.isSome_some, Option.isSome_none]
         repeat' apply And.intro
         all_goals (apply DOne_V; simp only [push_cast, Nat.reduceAdd, Nat.reduceSub, Nat.reduceMul, Nat.reduceLT, Nat.reduceLeDiff, Nat.reduceEqDiff, Int.reduceToNat, ↓reduceIte, hd, Bool.not_false] <;> first | exact rfl | omega | exact ⟨rfl, rfl⟩ | exact trivial | exact ⟨by omega, rfl⟩ | exact ⟨by omega, by omega, rfl⟩ | exact ⟨by omega, rfl, rfl⟩ | exact ⟨by omega, by omega, rfl, rfl⟩ | exact ⟨by omega, trivial⟩)
        case' hQ => skip
        have hne : a ≠ b := fun e => hn (by subst e; rfl)
        simp only [push_cast, Nat.reduceAdd, Nat.reduceSub, Nat.reduceMul, Nat.reduceLT, Nat.reduceLeDiff, Nat.reduceEqDiff, Int.reduceToNat, ↓reduceIte, hd, Bool.not_false, decide_eq_false hne]
    · have e := hi.2
      rw [List.take_of_length_le (by omega), List.take_of_length_le (by omega)] at e
      simp [e]
  · have hne : a ≠ b := fun e => hl (by rw [e])
    simp [hne]
def ChB (c : Term × List (Int × List Int)) : Prop := c.1.bulk ≤ 1099511627775 ∧ c.2.length < 1099511627776 ∧ ∀ x, x ∈ c.2 → x.2.length < 1099511627776
theorem is4_ac (t : Term) (e : Int) (want : Term) (bad : Int) (h1 : t.bulk ≤ 1099511627775) (h2 : want.bulk ≤ 1099511627775) (H : List AObj) :
    ACall Tryz.prog 14 [encT t, .int .i64 e, encT want, .int .i64 bad] H (fun r H' => r = .bool (isP t e want bad) ∧ H' = H) := by
  refine ACall_V (H.length) 22 [.tmp 8] Tryz.func14 rfl rfl rfl ?_
  simp only [push_cast, Nat.reduceAdd, Nat.reduceSub, Nat.reduceMul, Nat.reduceLT, Nat.reduceLeDiff, Nat.reduceEqDiff, Int.reduceToNat, ↓reduceIte]
  unfold isP
  refine cI (fun h => cI (fun he => ?_) (fun he => ?_)) (fun h => cI (fun he => ?_) (fun he => ?_))
  · refine (equalR_ac t want h1 h2 _).to ?_
    simp only [push_cast, Nat.reduceAdd, Nat.reduceSub, Nat.reduceMul, Nat.reduceLT, Nat.reduceLeDiff, Nat.reduceEqDiff, Int.reduceToNat, ↓reduceIte]
    simp [h, he]
  · simp [h, he]
  · refine ACall.forget (args' := [encT t, encT zeroT]) ⟨Forget.refl _, fgtW_spec _ _ (by simp only [push_cast, Nat.reduceAdd, Nat.reduceSub, Nat.reduceMul, Nat.reduceLT, Nat.reduceLeDiff, Nat.reduceEqDiff, Int.reduceToNat, ↓reduceIte]), trivial⟩ ((equalR_ac t zeroT h1 (by simp [zeroT, Term.bulk_mk]) _).to ?_)
    simp only [push_cast, Nat.reduceAdd, Nat.reduceSub, Nat.reduceMul, Nat.reduceLT, Nat.reduceLeDiff, Nat.reduceEqDiff, Int.reduceToNat, ↓reduceIte]
    simp [h, he]
  · simp [h, he]
theorem variable4_ac (s : List UInt8) (H : List AObj) : ACall Tryz.prog 45 [.str s] H (fun r H' => r = encT (.mk s true []) ∧ H' = H) := by
  refine ACall_V (H.length) 4 [.cell 2 25] Tryz.func45 rfl rfl rfl ?_
  simp only [push_cast, Nat.reduceAdd, Nat.reduceSub, Nat.reduceMul, Nat.reduceLT, Nat.reduceLeDiff, Nat.reduceEqDiff, Int.reduceToNat, ↓reduceIte]
theorem symbol4_ac (s : List UInt8) (l : List Term) (H : List AObj) : ACall Tryz.prog 44 [.str s, .sl .none (encTs l)] H (fun r H' => r = encT (.mk s false l) ∧ H' = H) := by
  refine ACall_V (H.length) 6 [.cell 4 25] Tryz.func44 rfl rfl rfl ?_
  simp only [push_cast, Nat.reduceAdd, Nat.reduceSub, Nat.reduceMul, Nat.reduceLT, Nat.reduceLeDiff, Nat.reduceEqDiff, Int.reduceToNat, ↓reduceIte]
theorem symbol40_ac (s : List UInt8) (H : List AObj) : ACall Tryz.prog 44 [.str s, .sl .zero []] H (fun r H' => r = encT (.mk s false []) ∧ H' = H) :=
  ACall.forget (args' := [.str s, .sl .none (encTs [])]) ⟨Forget.refl _, by rw [encTs_nil]; exact Forget.tok _ _, trivial⟩ (symbol4_ac s [] H)
def exA : Term := .mk [97] false []
def exB : Term := .mk [98] false []
def exX : Term := .mk [120] true []
def exF : Term := .mk [102] false [exX, exX]
def exR : List (Term × Term) := [(exA, exB), (exF, exX)]
def exT : Term := .mk [102] false [exA, exA]
theorem ex_ck : checkP exA = 0 ∧ checkP exB = 0 ∧ checkP exX = 0 ∧ checkP exF = 0 ∧ checkP exT = 0 := by
  have h1 : isNameP [97] true = true ∧ isNameP [98] true = true ∧ isNameP [102] true = true ∧ isNameP [120] false = true := by decide +kernel
  refine ⟨?_, ?_, ?_, ?_, ?_⟩ <;> rw [check_iff] <;> simp [exA, exB, exX, exF, exT, formedP_mk, fitsP, Term.size_mk, Term.depth_mk, h1]
theorem ex_rules : rulesP exR = 0 := by
  obtain ⟨h1, h2, h3, h4, h5⟩ := ex_ck
  simp [rulesP, exR, rT, firstErr, h1, h2, h3, h4]
theorem ex_nodes : nodesL (rT exR) = [([97], 0), ([98], 0), ([102], 2)] := by
  simp [exR, rT, exA, exB, exF, exX, nodesL, ndT, Term.mk_name, Term.mk_var, Term.mk_args]
theorem ex_ar : arB exR = false ∧ (arE exR).2.any (fun s => markedP s.1) = false := by
  unfold arB arE
  rw [ex_nodes]
  decide +kernel
theorem ex_extra : exR.any extraP = false := by
  simp [exR, extraP, exA, exB, exF, exX, Term.mk_var, varsP, collectP_mk, insertP, insAt]
  try decide +kernel
theorem ex_both : bothP exR exT = 0 := by
  have h : sysP exR = 0 := by
    unfold sysP
    rw [ex_rules, ex_ar.1, ex_ar.2, ex_extra]
    simp
  unfold bothP
  rw [h, ex_ck.2.2.2.2]
  simp
theorem ex_inner : underP exR exT 2 = [(0, [0]), (0, [1])] := by
  simp [underP, exR, exT, innT, innL_cons, innL_nil, atV, atF, exA, exF, exX, exB, matchP, matchTs_cons, matchTs_nil, leafM, look, insB, insAt, clash, Term.mk_name, Term.mk_var, Term.mk_args]
theorem ex_outer : underP exR exT 3 = [(1, [])] := by
  simp [underP, exR, exT, outT, outL_cons, outL_nil', atV, atF, exA, exF, exX, exB, matchP, matchTs_cons, matchTs_nil, leafM, look, insB, insAt, clash, Term.mk_name, Term.mk_var, Term.mk_args]
def exT1 : Term := .mk [102] false [exB, exA]
def exT2 : Term := .mk [102] false [exB, exB]
theorem ex_u0 : underP exR exT 4 = [(0, [0])] := by
  simp [underP, firstS, exR, exT, innT, innL_cons, innL_nil, atV, atF, exA, exF, exX, exB, matchP, matchTs_cons, matchTs_nil, leafM, look, insB, insAt, clash, Term.mk_name, Term.mk_var, Term.mk_args]
theorem ex_u1 : underP exR exT1 4 = [(0, [1])] := by
  simp [underP, firstS, exR, exT1, innT, innL_cons, innL_nil, atV, atF, exA, exF, exX, exB, matchP, matchTs_cons, matchTs_nil, leafM, look, insB, insAt, clash, Term.mk_name, Term.mk_var, Term.mk_args]
theorem ex_u2 : underP exR exT2 4 = [(1, [])] := by
  simp [underP, firstS, exR, exT2, innT, innL_cons, innL_nil, atV, atF, exA, exF, exX, exB, matchP, matchTs_cons, matchTs_nil, leafM, look, insB, insAt, clash, Term.mk_name, Term.mk_var, Term.mk_args]
theorem ex_u3 : underP exR exB 4 = [] := by
  simp [underP, firstS, exR, innT, innL_cons, innL_nil, atV, atF, exA, exF, exX, exB, matchP, matchTs_cons, matchTs_nil, leafM, look, insB, insAt, clash, Term.mk_name, Term.mk_var, Term.mk_args]
theorem ex_d0 : doE exR exT (0, [0]) = (exT1, 0) := by
  have hf : findE exR exT (0, [0]) = ([], 0) := by
    simp [findE, exR, exT, atP, ruleN, exA, exF, exX, exB, matchP, matchTs_nil, clash, Term.mk_name, Term.mk_var, Term.mk_args]
  have hr : rhsP exR exT (0, [0]) = exB := by
    unfold rhsP
    rw [hf]
    simp [ruleN, exR, exB, exX, exF, exA, applyP_mk, imageP]
  rw [do_alt, hf, hr]
  simp [exT, exT1, exA, exB, putP, fitsP, Term.size_mk, Term.depth_mk]
theorem ex_d1 : doE exR exT1 (0, [1]) = (exT2, 0) := by
  have hf : findE exR exT1 (0, [1]) = ([], 0) := by
    simp [findE, exR, exT1, atP, ruleN, exA, exF, exX, exB, matchP, matchTs_nil, clash, Term.mk_name, Term.mk_var, Term.mk_args]
  have hr : rhsP exR exT1 (0, [1]) = exB := by
    unfold rhsP
    rw [hf]
    simp [ruleN, exR, exB, exX, exF, exA, applyP_mk, imageP]
  rw [do_alt, hf, hr]
  simp [exT1, exT2, exA, exB, putP, fitsP, Term.size_mk, Term.depth_mk]
theorem ex_d2 : doE exR exT2 (1, []) = (exB, 0) := by
  have hf : findE exR exT2 (1, []) = ([([120], exB)], 0) := by
    simp [findE, exR, exT2, atP, ruleN, exA, exF, exX, exB, matchP, matchTs_cons, matchTs_nil, leafM, look, insB, insAt, clash, Term.mk_name, Term.mk_var, Term.mk_args]
  have hr : rhsP exR exT2 (1, []) = exB := by
    unfold rhsP
    rw [hf]
    simp [ruleN, exR, exB, exX, exF, exA, applyP_mk, imageP]
  rw [do_alt, hf, hr]
  simp [exT2, exB, exA, putP, fitsP, Term.size_mk, Term.depth_mk]
theorem ex_norm : normF exR 4 exT 10 exT [] = (exT, [(0, [0]), (0, [1]), (1, [])], exB, true, 0) := by
  simp [normF, ex_u0, ex_u1, ex_u2, ex_u3, ex_d0, ex_d1, ex_d2]
theorem ex_B : BndR exR ∧ exR.length = 2 ∧ exT.bulk ≤ 1099511627775 ∧ exB.bulk ≤ 1099511627775 := by
  refine ⟨fun r hr => ?_, rfl, ?_, ?_⟩
  · simp only [exR, List.mem_cons, List.not_mem_nil, or_false] at hr
    rcases hr with rfl | rfl <;> simp [exA, exB, exX, exF, Term.bulk_mk]
  · simp [exA, exT, Term.bulk_mk]
  · simp [exB, Term.bulk_mk]
theorem ex_redI : redE exR exT 2 = ([(0, [0]), (0, [1])], 0) := by unfold redE; rw [ex_both, ex_inner]; simp
theorem ex_redO : redE exR exT 3 = ([(1, [])], 0) := by unfold redE; rw [ex_both, ex_outer]; simp
theorem ex_normE : normalE exR exT 4 10 = (exT, [(0, [0]), (0, [1]), (1, [])], exB, true, 0) := by unfold normalE; rw [ex_both]; simpa using ex_norm
theorem encXX : encTs [exX, exX] = [AV.agg [.str [120], .bool true, .sl .none []], .agg [.str [120], .bool true, .sl .none []]] := by simp only [exX, encTs_cons, encTs_nil, encT, Term.mk_name, Term.mk_var, Term.mk_args]
theorem encAA : encTs [exA, exA] = [AV.agg [.str [97], .bool false, .sl .none []], .agg [.str [97], .bool false, .sl .none []]] := by simp only [exA, encTs_cons, encTs_nil, encT, Term.mk_name, Term.mk_var, Term.mk_args]
theorem enc_exR : encL encRu exR = [AV.agg [.str [97], .bool false, .sl .none [], .str [98], .bool false, .sl .none []], .agg [.str [102], .bool false, .sl .none (encTs [exX, exX]), .str [120], .bool true, .sl .none []]] := by
  simp only [encL, exR, List.map_cons, List.map_nil, encRu, exA, exB, exF, Term.mk_name, Term.mk_var, Term.mk_args, encTs_nil]
  have h : encTs exX.args = [] := encTs_nil
  rw [h]; rfl
theorem exS1_ac (H : List AObj) : ACall Tryz.prog 20 [.sl .none (encL encSt [(0, [0]), (0, [1])]), .sl .none [.agg [.int .i64 0, .sl .none [.int .i64 0]], .agg [.int .i64 0, .sl .none [.int .i64 1]]]] H (fun r H' => r = .bool true ∧ H' = H) :=
  (sameSteps_ac [(0, [0]), (0, [1])] [(0, [0]), (0, [1])] (by simp) (by simp) (by simp) (by simp) H).mono (by rintro r H' ⟨rfl, rfl⟩; exact ⟨by simp, rfl⟩)
theorem exS2_ac (H : List AObj) : ACall Tryz.prog 20 [.sl .none (encL encSt [(1, [])]), .sl .none [.agg [.int .i64 1, .sl .zero []]]] H (fun r H' => r = .bool true ∧ H' = H) := by
  refine ACall.forget (args' := [.sl .none (encL encSt [(1, [])]), .sl .none (encL encSt [(1, [])])]) ⟨Forget.refl _, ?_, trivial⟩ ((sameSteps_ac [(1, [])] [(1, [])] (by simp) (by simp) (by simp) (by simp) H).mono (by rintro r H' ⟨rfl, rfl⟩; exact ⟨by simp, rfl⟩))
  exact Forget.row _ (by simp [encL]) ⟨Forget.refl _, Forget.tok _ _, trivial⟩
theorem enc_exB : encT exB = .agg [.str [98], .bool false, .sl .none []] := by
  have h : encTs exB.args = [] := encTs_nil
  simp only [encT, h]; rfl
theorem exEq_ac (H : List AObj) : ACall Tryz.prog 25 [encT exB, .agg [.str [98], .bool false, .sl .none []]] H (fun r H' => r = .bool true ∧ H' = H) := by
  rw [← enc_exB]
  exact (equalR_ac exB exB (by simp [exB, Term.bulk_mk]) (by simp [exB, Term.bulk_mk]) H).mono (by rintro r H' ⟨rfl, rfl⟩; exact ⟨by simp, rfl⟩)
theorem alive4_ac (H : List AObj) : ACall Tryz.prog 15 [] H (fun r H' => r = .bool true ∧ H' = H) := by
  obtain ⟨b1, b2, b3, b4⟩ := ex_B
  refine ACall_V (H.length) 84 [.tmp 0] Tryz.func15 rfl rfl rfl ?_
  simp only [push_cast, Nat.reduceAdd, Nat.reduceSub, Nat.reduceMul, Nat.reduceLT, Nat.reduceLeDiff, Nat.reduceEqDiff, Int.reduceToNat, ↓reduceIte]
  refine (symbol40_ac _ _).to ?_
  simp only [push_cast, Nat.reduceAdd, Nat.reduceSub, Nat.reduceMul, Nat.reduceLT, Nat.reduceLeDiff, Nat.reduceEqDiff, Int.reduceToNat, ↓reduceIte]
  refine (symbol40_ac _ _).to ?_
  simp only [push_cast, Nat.reduceAdd, Nat.reduceSub, Nat.reduceMul, Nat.reduceLT, Nat.reduceLeDiff, Nat.reduceEqDiff, Int.reduceToNat, ↓reduceIte]
  refine (variable4_ac _ _).to ?_
  simp only [push_cast, Nat.reduceAdd, Nat.reduceSub, Nat.reduceMul, Nat.reduceLT, Nat.reduceLeDiff, Nat.reduceEqDiff, Int.reduceToNat, ↓reduceIte]
  refine (variable4_ac _ _).to ?_
  simp only [push_cast, Nat.reduceAdd, Nat.reduceSub, Nat.reduceMul, Nat.reduceLT, Nat.reduceLeDiff, Nat.reduceEqDiff, Int.reduceToNat, ↓reduceIte]
  rw [← encXX]
  refine (symbol4_ac _ [exX, exX] _).to ?_
  simp only [push_cast, Nat.reduceAdd, Nat.reduceSub, Nat.reduceMul, Nat.reduceLT, Nat.reduceLeDiff, Nat.reduceEqDiff, Int.reduceToNat, ↓reduceIte]
  refine (variable4_ac _ _).to ?_
  simp only [push_cast, Nat.reduceAdd, Nat.reduceSub, Nat.reduceMul, Nat.reduceLT, Nat.reduceLeDiff, Nat.reduceEqDiff, Int.reduceToNat, ↓reduceIte]
  refine (symbol40_ac _ _).to ?_
  simp only [push_cast, Nat.reduceAdd, Nat.reduceSub, Nat.reduceMul, Nat.reduceLT, Nat.reduceLeDiff, Nat.reduceEqDiff, Int.reduceToNat, ↓reduceIte]
  refine (symbol40_ac _ _).to ?_
  simp only [push_cast, Nat.reduceAdd, Nat.reduceSub, Nat.reduceMul, Nat.reduceLT, Nat.reduceLeDiff, Nat.reduceEqDiff, Int.reduceToNat, ↓reduceIte]
  rw [← encAA]
  refine (symbol4_ac _ [exA, exA] _).to ?_
  simp only [push_cast, Nat.reduceAdd, Nat.reduceSub, Nat.reduceMul, Nat.reduceLT, Nat.reduceLeDiff, Nat.reduceEqDiff, Int.reduceToNat, ↓reduceIte]
  rw [← enc_exR]
  refine (redexes_ac exR (by omega) b1 exT b3 2 _).to ?_
  simp only [push_cast, Nat.reduceAdd, Nat.reduceSub, Nat.reduceMul, Nat.reduceLT, Nat.reduceLeDiff, Nat.reduceEqDiff, Int.reduceToNat, ↓reduceIte, ex_redI, encLE]
  refine (redexes_ac exR (by omega) b1 exT b3 3 _).to ?_
  simp only [push_cast, Nat.reduceAdd, Nat.reduceSub, Nat.reduceMul, Nat.reduceLT, Nat.reduceLeDiff, Nat.reduceEqDiff, Int.reduceToNat, ↓reduceIte, ex_redO, encLE]
  refine (normalize_ac exR (by omega) b1 exT b3 4 10 _).to ?_
  simp only [push_cast, Nat.reduceAdd, Nat.reduceSub, Nat.reduceMul, Nat.reduceLT, Nat.reduceLeDiff, Nat.reduceEqDiff, Int.reduceToNat, ↓reduceIte, ex_normE, encNE]
  have h3 : ((0 : Int) + 1 + 1 + 1 = 3) = True := by decide
  apply AW_drawE [some 45, some 46, some 47, some 48, some 49, some 50, some 51, some 52, some 53, some 54, some 55, some 56, some 57, some 58, some 59, some 60, some 61, some 62, some 63, some 64, some 65, some 66, some 67, some 68, some 69, some 70, some 71, some 72, some 73, some 74, some 75, some 76, some 77, some 78, some 79, some 80, some 81, some 82, some 83, some 0] [([], _)] [none, none, none, none, none, none, none, none, none, none, none, none, none, none, none, none, none, none, none, none, none, none, none, none, none, none, none, none, none, none, none, none, none, none, none, none, none, none, none, none] 0 [(0, [], [4]), (1, [], [45]), (2, [], [46]), (3, [], [3, 43]), (4, [], [47]), (5, [], [47, 1]), (6, [], [47]), (7, [], [47, 3]), (8, [], [47, 2, 1]), (9, [], [47, 0, 4]), (10, [], [47, 6]), (11, [], [55]), (12, [], [6, 49]), (13, [], [56, 0]), (14, [], [56, 1]), (15, [], [59]), (16, [], [5, 54]), (17, [], [60]), (18, [], [60, 1]), (19, [], [60, 0, 1]), (20, [], [60, 3]), (21, [], [65]), (22, [], [10, 55]), (23, [], [66, 0]), (24, [], [66, 1]), (25, [], [69]), (26, [], [9, 60]), (27, [], [70, 0]), (28, [], [72]), (29, [], [7, 65]), (30, [], [73, 0]), (31, [], [73, 1]), (32, [], [73, 2]), (33, [], [73, 3]), (34, [], [78]), (35, [], [8, 70]), (36, [], [79]), (37, [], [79, 0, 0]), (38, [], [79, 2]), (39, [], [83])] [_, _, _, _, _, _, _, _, _, _, _, _, _, _, _, _, _, _, _, _, _, _, _, _, _, _, _, _, _, _, _, _, _, _, _, _, _, _, _, _]
  case' hm => exact dr
  case' hn => rfl
  case' hok => rfl
  case' hlen => rfl
  case' hd => rfl
  case' h0 => rfl
  case' hstep =>
   simp only [DAllG, push_cast, Option.isSome_some, Option.isSome_none]
   repeat' apply And.intro
   all_goals (apply DOne_V; simp only [push_cast, Nat.reduceAdd, Nat.reduceSub, Nat.reduceMul, Nat.reduceLT, Nat.reduceLeDiff, Nat.reduceEqDiff, Int.reduceToNat, ↓reduceIte, true_and, decide_true, h3] <;> first | exact rfl | omega | exact ⟨rfl, rfl⟩ | exact trivial | exact ⟨by omega, rfl⟩ | exact ⟨by omega, by omega, rfl⟩ | exact ⟨by omega, rfl, rfl⟩ | exact ⟨by omega, by omega, rfl, rfl⟩ | exact (exS1_ac _).to ⟨rfl, rfl⟩ | exact (exS2_ac _).to ⟨rfl, rfl⟩ | exact (symbol40_ac _ _).to ⟨rfl, rfl⟩ | exact (exEq_ac _).to ⟨rfl, rfl⟩)
  case' hQ => skip
  simp only [push_cast, Nat.reduceAdd, Nat.reduceSub, Nat.reduceMul, Nat.reduceLT, Nat.reduceLeDiff, Nat.reduceEqDiff, Int.reduceToNat, ↓reduceIte, h3, if_true]
end Ab
set_option maxRecDepth 10000
namespace Ab
open Go Go.Proofs
structure NormOk (t0 : Term) (k : Nat) (q : Term × List (Int × List Int) × Term × Bool × Int) : Prop where
  start : q.1 = t0 ∨ q.1 = zeroT
  len : q.2.1.length ≤ k
  pos : ∀ s, s ∈ q.2.1 → s.2.length < 4000
  last : q.2.2.1.bulk ≤ 100000
  err : q.2.2.2.2 ≠ 0 → q.2.2.1 = zeroT
theorem NormOk.ch {t0 : Term} {k : Nat} {q : Term × List (Int × List Int) × Term × Bool × Int} (h : NormOk t0 k q) (ht : t0.bulk ≤ 1099511627775) (hk : k ≤ 5000) : ChB (q.1, q.2.1) := by
  refine ⟨?_, by have := h.len; show q.2.1.length < _; omega, fun x hx => by have := h.pos x hx; omega⟩
  rcases h.start with e | e
  · show q.1.bulk ≤ _; rw [e]; exact ht
  · show q.1.bulk ≤ _; rw [e]; simp [zeroT, Term.bulk_mk]
theorem isP_self (t : Term) (e : Int) (h : e ≠ 0 → t = zeroT) : isP t e t e = true := by
  unfold isP
  split
  · rename_i h0; simp [h0]
  · rename_i h0; simp [h h0]
theorem isP_zero (e : Int) (h : e ≠ 0) (t : Term) : isP zeroT e t e = true := by
  unfold isP; rw [if_neg h]; simp
theorem is40_ac (bad : Int) (hbad : bad ≠ 0) (t : Term) (ht : t.bulk ≤ 1099511627775) (H : List AObj) : ACall Tryz.prog 14 [.agg [.str [], .bool false, .sl .none []], .int .i64 bad, encT t, .int .i64 bad] H (fun r H' => r = .bool true ∧ H' = H) := by
  have e : encT zeroT = .agg [.str [], .bool false, .sl .none []] := by
    show AV.agg [.str zeroT.name, .bool zeroT.var, .sl .none (encTs zeroT.args)] = _
    rw [zeroT_a]; rfl
  rw [← e]
  exact (is4_ac zeroT bad t bad (by simp [zeroT, Term.bulk_mk]) ht H).mono (by rintro r H' ⟨rfl, rfl⟩; exact ⟨by rw [isP_zero bad hbad t], rfl⟩)
end Ab
namespace Ab
open Go Go.Proofs
def allocAtV (n : Nat) (i : Option TI) (h : List AObj) (K : AV → List AObj → Prop) : Prop := match i with
  | some ⟨_, _, some zs, _⟩ => h[n]? = some .dead ∧ okCells zs ∧ K (.ptr n 0) (h.set n (.cells zs))
  | _ => False
theorem DOne_at {P : Program} {ro : Option Nat} {l : List Oper} {i : Nat} {e : Bool} {S : List AV} {H : List AObj} {v : AV} {H2 : List AObj} (n : Nat) {dst : Option Tmp} {t : Nat} {ty : TypeId} {pos : String} {after : Array Edge}
    (ho : opAt l i = some ⟨dst, .alloc t, ty, pos, after, none⟩) (h : allocAtV n (tInfo P t) H (fun v' h' => v' = v ∧ h' = H2)) : DOne P ro l.toArray i e S H v H2 := by
  intro o ho'
  rw [opAt_eq] at ho
  have : some o = some _ := (by simpa using ho'.symm : some o = l[i]?).trans ho
  injection this with this
  subst this
  refine .inl ⟨rfl, ?_⟩
  unfold allocAtV at h
  split at h
  · rename_i zs k hi
    obtain ⟨m, hz, rfl⟩ := tI_zs hi rfl
    exact AOp_allocAt n _ h.1 hz (fun c hc => okCells_all h.2.1 _ (List.mem_map_of_mem hc)) h.2.2
  · exact h.elim
end Ab
set_option maxRecDepth 10000
namespace Ab
open Go Go.Proofs
structure Clo where
  s : Int × List Int
  τ : List (List UInt8 × Term)
  c : Term
  q : List Int
def encClo (x : Clo) : AV := .agg [.int .i64 x.s.1, .sl .none (encP x.s.2), .sl .none (encL encBd x.τ), .str x.c.name, .bool x.c.var, .sl .none (encTs x.c.args), .sl .none (encP x.q)]
theorem Forget.agg2 {a v v' : AV} (h : Forget v v') : Forget (.agg [a, v]) (.agg [a, v']) := fun C x hx => by
  cases hx with
  | agg _ vs hsz hrel => exact .agg _ vs hsz (fun i hi => match i, hi with
    | 0, _ => hrel 0 (by simp)
    | 1, _ => h C _ (hrel 1 (by simp)))
theorem encP_app (p q : List Int) : encP (p ++ q) = encP p ++ encP q := by simp [encP, encL]
theorem is4T_ac (got want : Term) (e bad : Int) (h : isP got e want bad = true) (h1 : got.bulk ≤ 1099511627775) (h2 : want.bulk ≤ 1099511627775) (H : List AObj) :
    ACall Tryz.prog 14 [encT got, .int .i64 e, encT want, .int .i64 bad] H (fun r H' => r = .bool true ∧ H' = H) := by
  have := is4_ac got e want bad h1 h2 H
  rw [h] at this
  exact this
theorem equalSelf_ac (s : Term) (h1 : s.bulk ≤ 1099511627775) (H : List AObj) : ACall Tryz.prog 25 [encT s, encT s] H (fun r H' => r = .bool true ∧ H' = H) := by
  have := equalR_ac s s h1 h1 H
  rw [decide_eq_true rfl] at this
  exact this
theorem stepE_of {rs : List (Term × Term)} {t : Term} (h1 : sysP rs = 0) (h2 : checkP t = 0) (s : Int × List Int) : stepE rs t s = doE rs t s := by
  unfold stepE bothP
  rw [h1, h2]
  simp
set_option maxHeartbeats 4000000 in
theorem closed_ac (rs : List (Term × Term)) (hlen : rs.length < 1099511627776) (hb : BndR rs) (t : Term) (ht : t.bulk ≤ 1099511627775) (x : Clo) (hsl : x.s.2.length ≤ 1048576) (hql : x.q.length ≤ 1048576) (hτl : x.τ.length ≤ 1048576)
    (hτb : ∀ b, b ∈ x.τ → b.1.length < 1099511627776 ∧ b.2.bulk ≤ 1099511627775) (hcb : x.c.bulk ≤ 1048576) (H : List AObj) :
    ACall Tryz.prog 5 [.sl .none (encL encRu rs), encT t, encClo x] H (fun r H' => r = .bool true ∧ H' = H) := by
  obtain ⟨⟨k, p⟩, τ, c, q⟩ := x
  simp only at hsl hql hτl hτb hcb
  refine ACall_VA (H.length) 124 [.tmp 6] Tryz.func5 rfl rfl rfl ?_
  refine AW_reserve 3 ?_
  refine AW_of_W ?_
  simp only [push_cast, Nat.reduceAdd, Nat.reduceSub, Nat.reduceMul, Nat.reduceLT, Nat.reduceLeDiff, Nat.reduceEqDiff, Int.reduceToNat, ↓reduceIte, encClo]
  refine (step_ac rs hlen hb t ht (k, p) (by simp only; omega) _).to ?_
  simp only [push_cast, Nat.reduceAdd, Nat.reduceSub, Nat.reduceMul, Nat.reduceLT, Nat.reduceLeDiff, Nat.reduceEqDiff, Int.reduceToNat, ↓reduceIte]
  have e0 : (stepE rs t (k, p)).2 = 0 → bothP rs t = 0 ∧ stepE rs t (k, p) = doE rs t (k, p) ∧ (doE rs t (k, p)).2 = 0 := fun h => by
    unfold stepE at h ⊢
    by_cases hbo : bothP rs t ≠ 0
    · rw [if_pos hbo] at h; exact absurd h hbo
    · rw [if_neg hbo] at h ⊢; exact ⟨by simpa using hbo, rfl, h⟩
  refine cI (fun h => ?_) (fun h => ?_)
  · obtain ⟨hbo, he, hd⟩ := e0 (by simpa using h)
    have hbb := both_ok hbo
    have htc := check_small hbb.2
    obtain ⟨u, hu⟩ : ∃ u, u = (doE rs t (k, p)).1 := ⟨_, rfl⟩
    have hde : doE rs t (k, p) = (u, 0) := by rw [hu, ← hd]
    rw [he, hde]
    have huc : checkP u = 0 := by rw [hu]; exact do_check hbb.1 hbb.2 hd
    have hub := check_small huc
    refine (subCheckR_ac τ (by omega) hτb _).to ?_
    simp only [push_cast, Nat.reduceAdd, Nat.reduceSub, Nat.reduceMul, Nat.reduceLT, Nat.reduceLeDiff, Nat.reduceEqDiff, Int.reduceToNat, ↓reduceIte]
    refine cI (fun hτ => ?_) (fun hτ => ?_)
    obtain ⟨hτs, hτe, hτn⟩ := sub_ok hτ
    have ia := inst_size hτ hbb.2
    have iu := inst_size hτ huc
    refine (fitsR1_ac τ (by omega) (fun b hb => (hτb b hb).2) t (by omega) (by omega) _).to ?_
    simp only [push_cast, Nat.reduceAdd, Nat.reduceSub, Nat.reduceMul, Nat.reduceLT, Nat.reduceLeDiff, Nat.reduceEqDiff, Int.reduceToNat, ↓reduceIte]
    cases hf : fitsP (applyP τ t)
    simp only [push_cast, Nat.reduceAdd, Nat.reduceSub, Nat.reduceMul, Nat.reduceLT, Nat.reduceLeDiff, Nat.reduceEqDiff, Int.reduceToNat, ↓reduceIte]
    rotate_left
    have hcka : checkP (applyP τ t) = 0 := (check_iff _).2 ⟨formed_apply τ (fun b hb => (hτe b hb).2.2) t ((check_iff _).1 hbb.2).1, hf⟩
    have hst : stepE rs (applyP τ t) (k, p) = if fitsP (applyP τ u) = true then (applyP τ u, 0) else (zeroT, 3) := by
      rw [stepE_of hbb.1 hcka, do_apply hbb.1 hbb.2 hτs hd, hde]
    simp only [push_cast, Nat.reduceAdd, Nat.reduceSub, Nat.reduceMul, Nat.reduceLT, Nat.reduceLeDiff, Nat.reduceEqDiff, Int.reduceToNat, ↓reduceIte]
    apply AW_drawE [some 39, some 40, some 41, some 42, some 43, some 44, some 45, some 46, some 38, some 47, some 48, some 9, none, some 10] [([false, false], _), ([true, false], _), ([true, true], _)] [none, none, none, none, none, none, none, none, none, none, none, some 0, some 1, none] 2 [(0, [false, false], [0]), (1, [false, false], [5]), (2, [false, false], [40]), (3, [false, false], [4]), (4, [false, false], [41, 0]), (5, [false, false], [5]), (6, [false, false], [44]), (7, [false, false], [39, 3, 1]), (8, [false, false], [46]), (9, [false, false], [38]), (10, [false, false], [38]), (11, [false, false], []), (12, [true, false], [9, 37]), (13, [true, true], [48]), (0, [true, false], [0]), (1, [true, false], [5]), (2, [true, false], [40]), (3, [true, false], [4]), (4, [true, false], [41, 0]), (5, [true, false], [5]), (6, [true, false], [44]), (7, [true, false], [39, 3, 1]), (8, [true, false], [46]), (9, [true, false], [38]), (10, [true, false], [38]), (10, [true, true], [38])] [_, _, _, _, _, _, _, _, _, _, _, _, _, _]
    case' hm => exact dr
    case' hn => rfl
    case' hok => rfl
    case' hlen => rfl
    case' hd => rfl
    case' h0 => rfl
    case' hstep =>
     simp only [DAllG, push_cast, Option.isSome_some, Option.isSome_none]
     repeat' apply And.intro
     all_goals (apply DOne_V; simp only [push_cast, Nat.reduceAdd, Nat.reduceSub, Nat.reduceMul, Nat.reduceLT, Nat.reduceLeDiff, Nat.reduceEqDiff, Int.reduceToNat, ↓reduceIte] <;> first | exact rfl | omega | exact ⟨rfl, rfl⟩ | exact trivial | exact ⟨by omega, rfl⟩ | exact ⟨by omega, by omega, rfl⟩ | exact ⟨by omega, rfl, rfl⟩ | exact ⟨by omega, by omega, rfl, rfl⟩ | exact (applyR_ac τ (by omega) t (by omega) _).to ⟨rfl, rfl⟩ | exact (step_ac rs hlen hb (applyP τ t) (by omega) (k, p) (by simp only; omega) _).to ⟨rfl, rfl⟩)
    case' hQ => skip
    rw [hst]
    simp only [push_cast, Nat.reduceAdd, Nat.reduceSub, Nat.reduceMul, Nat.reduceLT, Nat.reduceLeDiff, Nat.reduceEqDiff, Int.reduceToNat, ↓reduceIte]
    refine (fitsR1_ac τ (by omega) (fun b hb => (hτb b hb).2) u (by omega) (by omega) _).to ?_
    cases hfu : fitsP (applyP τ u)
    simp only [Bool.false_eq_true, if_false]
    simp only [push_cast, Nat.reduceAdd, Nat.reduceSub, Nat.reduceMul, Nat.reduceLT, Nat.reduceLeDiff, Nat.reduceEqDiff, Int.reduceToNat, ↓reduceIte]
    rotate_left
    simp only [if_true]
    simp only [push_cast, Nat.reduceAdd, Nat.reduceSub, Nat.reduceMul, Nat.reduceLT, Nat.reduceLeDiff, Nat.reduceEqDiff, Int.reduceToNat, ↓reduceIte]
    apply AW_drawE [some 56, some 57, some 58, some 59, some 60, some 61, some 62, some 63, some 64, some 65, some 66] [([], _)] [none, none, none, none, none, none, none, none, none, none, none] 0 [(0, [], [10]), (1, [], [56]), (2, [], [57]), (3, [], [9, 48]), (4, [], [5, 52]), (5, [], [58, 1]), (6, [], [7, 50]), (7, [], [58, 2, 0]), (8, [], [58, 0, 3]), (9, [], [58, 5]), (10, [], [58, 6])] [_, _, _, _, _, _, _, _, _, _, _]
    case' hm => exact dr
    case' hn => rfl
    case' hok => rfl
    case' hlen => rfl
    case' hd => rfl
    case' h0 => rfl
    case' hstep =>
     simp only [DAllG, push_cast, Option.isSome_some, Option.isSome_none]
     repeat' apply And.intro
     all_goals (apply DOne_V; simp only [push_cast, Nat.reduceAdd, Nat.reduceSub, Nat.reduceMul, Nat.reduceLT, Nat.reduceLeDiff, Nat.reduceEqDiff, Int.reduceToNat, ↓reduceIte] <;> first | exact rfl | omega | exact ⟨rfl, rfl⟩ | exact trivial | exact ⟨by omega, rfl⟩ | exact ⟨by omega, by omega, rfl⟩ | exact ⟨by omega, rfl, rfl⟩ | exact ⟨by omega, by omega, rfl, rfl⟩ | exact (applyR_ac τ (by omega) u (by omega) _).to ⟨rfl, rfl⟩ | exact (equalSelf_ac (applyP τ u) (by omega) _).to ⟨rfl, rfl⟩)
    case' hQ => skip
    simp only [push_cast, Nat.reduceAdd, Nat.reduceSub, Nat.reduceMul, Nat.reduceLT, Nat.reduceLeDiff, Nat.reduceEqDiff, Int.reduceToNat, ↓reduceIte]
    all_goals (
      refine (atR_ac c q (by omega) (by omega) _).to ?_
      cases ha : atP c q with
      | none =>
        simp only [push_cast, Nat.reduceAdd, Nat.reduceSub, Nat.reduceMul, Nat.reduceLT, Nat.reduceLeDiff, Nat.reduceEqDiff, Int.reduceToNat, ↓reduceIte]
        refine (alive4_ac _).to ?_
        simp only [push_cast, Nat.reduceAdd, Nat.reduceSub, Nat.reduceMul, Nat.reduceLT, Nat.reduceLeDiff, Nat.reduceEqDiff, Int.reduceToNat, ↓reduceIte]
      | some y =>
        simp only [push_cast, Nat.reduceAdd, Nat.reduceSub, Nat.reduceMul, Nat.reduceLT, Nat.reduceLeDiff, Nat.reduceEqDiff, Int.reduceToNat, ↓reduceIte]
        refine (checkR_ac c (by omega) _).to ?_
        simp only [push_cast, Nat.reduceAdd, Nat.reduceSub, Nat.reduceMul, Nat.reduceLT, Nat.reduceLeDiff, Nat.reduceEqDiff, Int.reduceToNat, ↓reduceIte]
        refine cI (fun hc => ?_) (fun hc => ?_)
        · have pt := put_bulk t _ _ _ ha
          have pu := put_bulk u _ _ _ ha
          apply AW_drawE [some 84, some 85, some 86, some 87, some 88, some 89, some 90, some 91, some 92, some 93, some 94, some 95, some 13, some 14, none, none] [([false, false, false, false], _), ([false, true, false, false], _), ([true, false, false, false], _), ([true, true, false, false], _), ([true, true, true, false], _), ([true, true, true, true], _)] [none, none, none, none, none, none, none, none, none, none, none, none, some 0, some 1, some 2, some 3] 4 [(0, [false, false, false, false], [5]), (1, [false, false, false, false], [84]), (2, [false, false, false, false], [5]), (3, [false, false, false, false], [86]), (4, [false, false, false, false], [4]), (5, [false, false, false, false], [85, 1, 0]), (6, [false, false, false, false], [5]), (7, [false, false, false, false], [90]), (8, [false, false, false, false], [5]), (9, [false, false, false, false], [92]), (10, [false, false, false, false], [7]), (11, [false, false, false, false], [91, 1, 0]), (12, [false, false, false, false], []), (13, [false, false, false, false], []), (0, [false, true, false, false], [5]), (0, [true, false, false, false], [5]), (1, [false, true, false, false], [84]), (1, [true, false, false, false], [84]), (2, [false, true, false, false], [5]), (2, [true, false, false, false], [5]), (3, [false, true, false, false], [86]), (3, [true, false, false, false], [86]), (4, [false, true, false, false], [4]), (4, [true, false, false, false], [4]), (5, [false, true, false, false], [85, 1, 0]), (5, [true, false, false, false], [85, 1, 0]), (6, [false, true, false, false], [5]), (6, [true, false, false, false], [5]), (7, [false, true, false, false], [90]), (7, [true, false, false, false], [90]), (8, [false, true, false, false], [5]), (8, [true, false, false, false], [5]), (9, [false, true, false, false], [92]), (9, [true, false, false, false], [92]), (10, [false, true, false, false], [7]), (10, [true, false, false, false], [7]), (11, [false, true, false, false], [91, 1, 0]), (11, [true, false, false, false], [91, 1, 0]), (12, [false, true, false, false], []), (13, [true, false, false, false], []), (0, [true, true, false, false], [5]), (1, [true, true, false, false], [84]), (2, [true, true, false, false], [5]), (3, [true, true, false, false], [86]), (4, [true, true, false, false], [4]), (5, [true, true, false, false], [85, 1, 0]), (6, [true, true, false, false], [5]), (7, [true, true, false, false], [90]), (8, [true, true, false, false], [5]), (9, [true, true, false, false], [92]), (10, [true, true, false, false], [7]), (11, [true, true, false, false], [91, 1, 0]), (14, [true, true, false, false], [13, 75]), (6, [true, true, true, false], [5]), (7, [true, true, true, false], [90]), (8, [true, true, true, false], [5]), (9, [true, true, true, false], [92]), (10, [true, true, true, false], [7]), (15, [true, true, true, false], [14, 80])] [_, _, _, _, _, _, _, _, _, _, _, _, _, _, _, _]
          case' hm => exact dr
          case' hn => rfl
          case' hok => rfl
          case' hlen => rfl
          case' hd => rfl
          case' h0 => rfl
          case' hstep =>
           simp only [DAllG, push_cast, Option.isSome_some, Option.isSome_none]
           repeat' apply And.intro
           all_goals (first | (apply DOne_at (i := 12) (H.length + 1); exact rfl; simp only [push_cast, Nat.reduceAdd, Nat.reduceSub, Nat.reduceMul, Nat.reduceLT, Nat.reduceLeDiff, Nat.reduceEqDiff, Int.reduceToNat, ↓reduceIte, allocAtV] <;> first | exact ⟨rfl, rfl⟩ | exact rfl) | (apply DOne_at (i := 13) (H.length + 2); exact rfl; simp only [push_cast, Nat.reduceAdd, Nat.reduceSub, Nat.reduceMul, Nat.reduceLT, Nat.reduceLeDiff, Nat.reduceEqDiff, Int.reduceToNat, ↓reduceIte, allocAtV] <;> first | exact ⟨rfl, rfl⟩ | exact rfl) | (apply DOne_V; simp only [push_cast, Nat.reduceAdd, Nat.reduceSub, Nat.reduceMul, Nat.reduceLT, Nat.reduceLeDiff, Nat.reduceEqDiff, Int.reduceToNat, ↓reduceIte] <;> first | exact rfl | omega | exact ⟨rfl, rfl⟩ | exact trivial | exact ⟨by omega, rfl⟩ | exact ⟨by omega, by omega, rfl⟩ | exact ⟨by omega, rfl, rfl⟩ | exact ⟨by omega, by omega, rfl, rfl⟩ | (refine (putR_ac t (by omega) q c y (by omega) (by omega) ha _).to ?_; exact ⟨rfl, rfl⟩) | (refine (putR_ac u (by omega) q c y (by omega) (by omega) ha _).to ?_; exact ⟨rfl, rfl⟩)))
          case' hQ => skip
          simp only [push_cast, Nat.reduceAdd, Nat.reduceSub, Nat.reduceMul, Nat.reduceLT, Nat.reduceLeDiff, Nat.reduceEqDiff, Int.reduceToNat, ↓reduceIte]
          refine (checkR_ac (putP c q t) (by omega) _).to ?_
          simp only [push_cast, Nat.reduceAdd, Nat.reduceSub, Nat.reduceMul, Nat.reduceLT, Nat.reduceLeDiff, Nat.reduceEqDiff, Int.reduceToNat, ↓reduceIte]
          refine cI (fun hk => ?_) (fun hk => ?_)
          · have hfu : formedP (putP c q u) = true := put_formed _ _ _ _ ha ((check_iff _).1 hc).1 ((check_iff _).1 huc).1
            have hfn := check_formed hfu
            have hst2 : stepE rs (putP c q t) (k, q ++ p) = if fitsP (putP c q u) = true then (putP c q u, 0) else (zeroT, 3) := by
              rw [stepE_of hbb.1 hk, do_put ha hd, hde]
            have hfor : Forget (.agg [.int .i64 k, gSl H.length (encP q ++ encP p)]) (encSt (k, q ++ p)) := Forget.agg2 (by
              obtain ⟨tk, htk⟩ := gSl_ex H.length (encP q ++ encP p)
              rw [htk, ← encP_app]; exact Forget.tok _ _)
            apply AW_drawE [some 101, some 102, some 103, some 104, some 105, some 106, some 107, some 108, some 109, some 110, some 111, some 112, some 113, some 114, some 115, some 100, some 116, some 117, some 15, none, some 16] [([false, false, false, false, false, false, false, false], _), ([false, false, false, false, false, false, true, false], _), ([true, false, false, false, false, false, false, false], _), ([true, false, false, false, false, false, true, false], _), ([true, true, false, false, false, false, false, false], _), ([true, true, false, false, false, false, true, false], _), ([true, true, true, false, false, false, false, false], _), ([true, true, true, false, false, false, true, false], _), ([true, true, true, true, false, false, false, false], _), ([true, true, true, true, false, false, true, false], _), ([true, true, true, true, true, false, false, false], _), ([true, true, true, true, true, false, true, false], _), ([true, true, true, true, true, true, false, false], _), ([true, true, true, true, true, true, true, false], _), ([true, true, true, true, true, true, true, true], _)] [none, none, none, none, none, none, none, none, some 0, none, none, none, some 1, some 2, some 3, some 4, some 5, none, some 6, some 7, none] 8 [(0, [false, false, false, false, false, false, false, false], [0]), (1, [false, false, false, false, false, false, false, false], [13]), (2, [false, false, false, false, false, false, false, false], [5]), (3, [false, false, false, false, false, false, false, false], [103]), (4, [false, false, false, false, false, false, false, false], [104]), (5, [false, false, false, false, false, false, false, false], []), (6, [false, false, false, false, false, false, false, false], [5]), (7, [false, false, false, false, false, false, false, false], [107]), (8, [false, false, false, false, false, false, false, false], [106, 1]), (9, [false, false, false, false, false, false, false, false], [5]), (10, [false, false, false, false, false, false, false, false], [110]), (11, [false, false, false, false, false, false, false, false], [111]), (18, [false, false, false, false, false, false, false, false], []), (0, [false, false, false, false, false, false, true, false], [0]), (0, [true, false, false, false, false, false, false, false], [0]), (1, [false, false, false, false, false, false, true, false], [13]), (1, [true, false, false, false, false, false, false, false], [13]), (2, [false, false, false, false, false, false, true, false], [5]), (2, [true, false, false, false, false, false, false, false], [5]), (3, [false, false, false, false, false, false, true, false], [103]), (3, [true, false, false, false, false, false, false, false], [103]), (4, [false, false, false, false, false, false, true, false], [104]), (4, [true, false, false, false, false, false, false, false], [104]), (5, [false, false, false, false, false, false, true, false], []), (6, [false, false, false, false, false, false, true, false], [5]), (6, [true, false, false, false, false, false, false, false], [5]), (7, [false, false, false, false, false, false, true, false], [107]), (8, [false, false, false, false, false, false, true, false], [106, 1]), (9, [true, false, false, false, false, false, false, false], [5]), (9, [false, false, false, false, false, false, true, false], [5]), (10, [true, false, false, false, false, false, false, false], [110]), (10, [false, false, false, false, false, false, true, false], [110]), (11, [true, false, false, false, false, false, false, false], [111]), (11, [false, false, false, false, false, false, true, false], [111]), (12, [true, false, false, false, false, false, false, false], [109, 2]), (18, [true, false, false, false, false, false, false, false], []), (0, [true, false, false, false, false, false, true, false], [0]), (0, [true, true, false, false, false, false, false, false], [0]), (1, [true, false, false, false, false, false, true, false], [13]), (1, [true, true, false, false, false, false, false, false], [13]), (2, [true, false, false, false, false, false, true, false], [5]), (2, [true, true, false, false, false, false, false, false], [5]), (3, [true, false, false, false, false, false, true, false], [103]), (3, [true, true, false, false, false, false, false, false], [103]), (4, [true, false, false, false, false, false, true, false], [104]), (4, [true, true, false, false, false, false, false, false], [104]), (6, [true, false, false, false, false, false, true, false], [5]), (6, [true, true, false, false, false, false, false, false], [5]), (9, [true, false, false, false, false, false, true, false], [5]), (9, [true, true, false, false, false, false, false, false], [5]), (10, [true, false, false, false, false, false, true, false], [110]), (10, [true, true, false, false, false, false, false, false], [110]), (11, [true, false, false, false, false, false, true, false], [111]), (12, [true, false, false, false, false, false, true, false], [109, 2]), (13, [true, true, false, false, false, false, false, false], [105, 7]), (18, [true, true, false, false, false, false, false, false], []), (0, [true, true, false, false, false, false, true, false], [0]), (0, [true, true, true, false, false, false, false, false], [0]), (1, [true, true, false, false, false, false, true, false], [13]), (1, [true, true, true, false, false, false, false, false], [13]), (2, [true, true, false, false, false, false, true, false], [5]), (2, [true, true, true, false, false, false, false, false], [5]), (3, [true, true, false, false, false, false, true, false], [103]), (3, [true, true, true, false, false, false, false, false], [103]), (4, [true, true, false, false, false, false, true, false], [104]), (6, [true, true, false, false, false, false, true, false], [5]), (6, [true, true, true, false, false, false, false, false], [5]), (9, [true, true, false, false, false, false, true, false], [5]), (9, [true, true, true, false, false, false, false, false], [5]), (10, [true, true, false, false, false, false, true, false], [110]), (10, [true, true, true, false, false, false, false, false], [110]), (13, [true, true, false, false, false, false, true, false], [105, 7]), (14, [true, true, true, false, false, false, false, false], [101, 0, 11]), (18, [true, true, true, false, false, false, false, false], []), (0, [true, true, true, false, false, false, true, false], [0]), (1, [true, true, true, false, false, false, true, false], [13]), (2, [true, true, true, false, false, false, true, false], [5]), (2, [true, true, true, true, false, false, false, false], [5]), (3, [true, true, true, false, false, false, true, false], [103]), (3, [true, true, true, true, false, false, false, false], [103]), (6, [true, true, true, false, false, false, true, false], [5]), (6, [true, true, true, true, false, false, false, false], [5]), (9, [true, true, true, false, false, false, true, false], [5]), (9, [true, true, true, true, false, false, false, false], [5]), (10, [true, true, true, false, false, false, true, false], [110]), (10, [true, true, true, true, false, false, false, false], [110]), (14, [true, true, true, false, false, false, true, false], [101, 0, 11]), (15, [true, true, true, true, false, false, false, false], [115]), (18, [true, true, true, true, false, false, false, false], []), (2, [true, true, true, true, false, false, true, false], [5]), (2, [true, true, true, true, true, false, false, false], [5]), (3, [true, true, true, true, false, false, true, false], [103]), (3, [true, true, true, true, true, false, false, false], [103]), (6, [true, true, true, true, false, false, true, false], [5]), (6, [true, true, true, true, true, false, false, false], [5]), (9, [true, true, true, true, false, false, true, false], [5]), (9, [true, true, true, true, true, false, false, false], [5]), (10, [true, true, true, true, false, false, true, false], [110]), (10, [true, true, true, true, true, false, false, false], [110]), (15, [true, true, true, true, false, false, true, false], [115]), (16, [true, true, true, true, true, false, false, false], [100]), (17, [true, true, true, true, true, false, false, false], [100]), (18, [true, true, true, true, true, false, false, false], []), (2, [true, true, true, true, true, false, true, false], [5]), (2, [true, true, true, true, true, true, false, false], [5]), (3, [true, true, true, true, true, false, true, false], [103]), (3, [true, true, true, true, true, true, false, false], [103]), (6, [true, true, true, true, true, false, true, false], [5]), (6, [true, true, true, true, true, true, false, false], [5]), (9, [true, true, true, true, true, false, true, false], [5]), (9, [true, true, true, true, true, true, false, false], [5]), (10, [true, true, true, true, true, false, true, false], [110]), (10, [true, true, true, true, true, true, false, false], [110]), (16, [true, true, true, true, true, false, true, false], [100]), (17, [true, true, true, true, true, true, false, false], [100]), (17, [true, true, true, true, true, false, true, false], [100]), (18, [true, true, true, true, true, true, false, false], []), (2, [true, true, true, true, true, true, true, false], [5]), (3, [true, true, true, true, true, true, true, false], [103]), (6, [true, true, true, true, true, true, true, false], [5]), (9, [true, true, true, true, true, true, true, false], [5]), (10, [true, true, true, true, true, true, true, false], [110]), (17, [true, true, true, true, true, true, true, false], [100]), (19, [true, true, true, true, true, true, true, false], [15, 100]), (17, [true, true, true, true, true, true, true, true], [100]), (20, [true, true, true, true, true, true, true, true], [117])] [_, _, _, _, _, _, _, _, _, _, _, _, _, _, _, _, _, _, _, _, _]
            case' hm => exact dr
            case' hn => rfl
            case' hok => rfl
            case' hlen => rfl
            case' hd => rfl
            case' h0 => rfl
            case' hstep =>
             simp only [DAllG, push_cast, Option.isSome_some, Option.isSome_none]
             repeat' apply And.intro
             all_goals (apply DOne_V; simp only [push_cast, Nat.reduceAdd, Nat.reduceSub, Nat.reduceMul, Nat.reduceLT, Nat.reduceLeDiff, Nat.reduceEqDiff, Int.reduceToNat, ↓reduceIte] <;> first | exact rfl | omega | exact ⟨rfl, rfl⟩ | exact trivial | exact ⟨by omega, rfl⟩ | exact ⟨by omega, by omega, rfl⟩ | exact ⟨by omega, rfl, rfl⟩ | exact ⟨by omega, by omega, rfl, rfl⟩ | (refine AOp_append_G _ H.length [] (encP q) _ rfl rfl (by exact aget0 _ _ _) sl46 sz3 by3 zr3 rfl (by decide) (uni_encP []) (uni_encP q) (cell_encP q) (by rw [encP_length]; simp; omega) (by rw [encP_length]; simp; omega) ?_; simp only [push_cast, Nat.reduceAdd, Nat.reduceSub, Nat.reduceMul, Nat.reduceLT, Nat.reduceLeDiff, Nat.reduceEqDiff, Int.reduceToNat, ↓reduceIte] <;> first | exact ⟨rfl, rfl⟩ | exact rfl) | (refine AOp_append_G _ H.length (encP q) (encP p) _ rfl rfl (by exact aget0 _ _ _) sl46 sz3 by3 zr3 rfl (by decide) (uni_encP q) (uni_encP p) (cell_encP p) (by rw [encP_length, encP_length]; omega) (by rw [encP_length, encP_length]; omega) ?_; simp only [push_cast, Nat.reduceAdd, Nat.reduceSub, Nat.reduceMul, Nat.reduceLT, Nat.reduceLeDiff, Nat.reduceEqDiff, Int.reduceToNat, ↓reduceIte] <;> first | exact ⟨rfl, rfl⟩ | exact rfl) | (refine ACall.forget (args' := [.sl .none (encL encRu rs), encT (putP c q t), encSt (k, q ++ p)]) ⟨Forget.refl _, Forget.refl _, hfor, trivial⟩ ((step_ac rs hlen hb (putP c q t) (by omega) (k, q ++ p) (by simp only [List.length_append]; omega) _).to ⟨rfl, rfl⟩)))
            case' hQ => skip
            rw [hst2]
            cases hfq : fitsP (putP c q u) with
            | true =>
              rw [if_pos hfq] at hfn
              simp only [if_true]
              simp only [push_cast, Nat.reduceAdd, Nat.reduceSub, Nat.reduceMul, Nat.reduceLT, Nat.reduceLeDiff, Nat.reduceEqDiff, Int.reduceToNat, ↓reduceIte]
              have his := fun X => is4T_ac (putP c q u) (putP c q u) 0 (checkP (putP c q u)) (by rw [hfn]; exact isP_self _ 0 (fun h => absurd rfl h)) (by omega) (by omega) X
              apply AW_drawE [some 118, some 119, some 120, some 121, some 122, some 123, some 124, some 125, some 126, some 6] [([], _)] [none, none, none, none, none, none, none, none, none, none] 0 [(0, [], [15]), (1, [], [16]), (2, [], [14]), (3, [], [14]), (4, [], [121]), (5, [], [118, 0, 0, 1]), (6, [], [123]), (7, [], [124]), (8, [], [124, 0]), (9, [], [126])] [_, _, _, _, _, _, _, _, _, _]
              case' hm => exact dr
              case' hn => rfl
              case' hok => rfl
              case' hlen => rfl
              case' hd => rfl
              case' h0 => rfl
              case' hstep =>
               simp only [DAllG, push_cast, Option.isSome_some, Option.isSome_none]
               repeat' apply And.intro
               all_goals (apply DOne_V; simp only [push_cast, Nat.reduceAdd, Nat.reduceSub, Nat.reduceMul, Nat.reduceLT, Nat.reduceLeDiff, Nat.reduceEqDiff, Int.reduceToNat, ↓reduceIte] <;> first | exact rfl | omega | exact ⟨rfl, rfl⟩ | exact trivial | exact ⟨by omega, rfl⟩ | exact ⟨by omega, by omega, rfl⟩ | exact ⟨by omega, rfl, rfl⟩ | exact ⟨by omega, by omega, rfl, rfl⟩ | (refine (checkR_ac (putP c q u) (by omega) _).to ?_; exact ⟨rfl, rfl⟩) | (refine (his _).to ?_; exact ⟨rfl, rfl⟩) | (refine (alive4_ac _).to ?_; exact ⟨rfl, rfl⟩))
              case' hQ => skip
              simp only [push_cast, Nat.reduceAdd, Nat.reduceSub, Nat.reduceMul, Nat.reduceLT, Nat.reduceLeDiff, Nat.reduceEqDiff, Int.reduceToNat, ↓reduceIte]
            | false =>
              rw [if_neg (by rw [hfq]; simp)] at hfn
              simp only [Bool.false_eq_true, if_false]
              simp only [push_cast, Nat.reduceAdd, Nat.reduceSub, Nat.reduceMul, Nat.reduceLT, Nat.reduceLeDiff, Nat.reduceEqDiff, Int.reduceToNat, ↓reduceIte]
              have his : ∀ X, ACall Tryz.prog 14 [.agg [.str [], .bool false, .sl .none []], .int .i64 3, encT (putP c q u), .int .i64 (checkP (putP c q u))] X (fun r H' => r = .bool true ∧ H' = X) := fun X => by
                rw [hfn]; exact is40_ac 3 (by decide) (putP c q u) (by omega) X
              apply AW_drawE [some 118, some 119, some 120, some 121, some 122, some 123, some 124, some 125, some 126, some 6] [([], _)] [none, none, none, none, none, none, none, none, none, none] 0 [(0, [], [15]), (1, [], [16]), (2, [], [14]), (3, [], [14]), (4, [], [121]), (5, [], [118, 0, 0, 1]), (6, [], [123]), (7, [], [124]), (8, [], [124, 0]), (9, [], [126])] [_, _, _, _, _, _, _, _, _, _]
              case' hm => exact dr
              case' hn => rfl
              case' hok => rfl
              case' hlen => rfl
              case' hd => rfl
              case' h0 => rfl
              case' hstep =>
               simp only [DAllG, push_cast, Option.isSome_some, Option.isSome_none]
               repeat' apply And.intro
               all_goals (apply DOne_V; simp only [push_cast, Nat.reduceAdd, Nat.reduceSub, Nat.reduceMul, Nat.reduceLT, Nat.reduceLeDiff, Nat.reduceEqDiff, Int.reduceToNat, ↓reduceIte] <;> first | exact rfl | omega | exact ⟨rfl, rfl⟩ | exact trivial | exact ⟨by omega, rfl⟩ | exact ⟨by omega, by omega, rfl⟩ | exact ⟨by omega, rfl, rfl⟩ | exact ⟨by omega, by omega, rfl, rfl⟩ | (refine (checkR_ac (putP c q u) (by omega) _).to ?_; exact ⟨rfl, rfl⟩) | (refine (his _).to ?_; exact ⟨rfl, rfl⟩) | (refine (alive4_ac _).to ?_; exact ⟨rfl, rfl⟩))
              case' hQ => skip
              simp only [push_cast, Nat.reduceAdd, Nat.reduceSub, Nat.reduceMul, Nat.reduceLT, Nat.reduceLeDiff, Nat.reduceEqDiff, Int.reduceToNat, ↓reduceIte]
          · refine (alive4_ac _).to ?_
            simp only [push_cast, Nat.reduceAdd, Nat.reduceSub, Nat.reduceMul, Nat.reduceLT, Nat.reduceLeDiff, Nat.reduceEqDiff, Int.reduceToNat, ↓reduceIte]
        · refine (alive4_ac _).to ?_
          simp only [push_cast, Nat.reduceAdd, Nat.reduceSub, Nat.reduceMul, Nat.reduceLT, Nat.reduceLeDiff, Nat.reduceEqDiff, Int.reduceToNat, ↓reduceIte])
  · refine (alive4_ac _).to ?_
    simp only [push_cast, Nat.reduceAdd, Nat.reduceSub, Nat.reduceMul, Nat.reduceLT, Nat.reduceLeDiff, Nat.reduceEqDiff, Int.reduceToNat, ↓reduceIte]
end Ab
set_option maxRecDepth 10000
namespace Ab
open Go Go.Proofs Go.Proofs.YtgbmjnpbojcbdaaGreat
section
variable {H : Type}
theorem kdClo : kindOf Tryz.prog 51 = .struct [48, 49, 25, 46] := by kernel_rfl
theorem clo_form (n : Nat) (d : DataW H) (avs : List AV) (h : toAV Tryz.prog n 51 d = some avs) : ∃ x : Clo, .agg avs = encClo x ∧ x.s.2.length ≤ Rows.uptoBulk d ∧ x.q.length ≤ Rows.uptoBulk d ∧ x.τ.length ≤ Rows.uptoBulk d ∧ x.c.bulk ≤ Rows.uptoBulk d ∧ ∀ b, b ∈ x.τ → b.1.length + b.2.bulk ≤ Rows.uptoBulk d := by
  obtain ⟨m, parts, avss, rfl, rfl, hl, hm, rfl⟩ := toAV_struct kdClo h
  match parts, hl, hm with
  | [d1, d2, d3, d4], _, hm =>
    obtain ⟨h1, h2⟩ := mapM_get hm
    match avss, h1, h2 with
    | [a1, a2, a3, a4], _, h2 =>
      obtain ⟨s, e1, b1⟩ := step_form m d1 a1 (h2 0 (by simp) (by simp))
      obtain ⟨τ, rfl, b2, c2⟩ := binds_form m d2 a2 (h2 1 (by simp) (by simp))
      obtain ⟨c, e3, b3⟩ := term_form m d3 a3 (h2 2 (by simp) (by simp))
      obtain ⟨q, rfl, b4⟩ := pos_form m d4 a4 (h2 3 (by simp) (by simp))
      injection e1 with e1
      injection e3 with e3
      subst e1
      subst e3
      refine ⟨⟨s, τ, c, q⟩, by simp [encClo], ?_⟩
      simp only [Rows.uptoBulk, Rows.uptoBulkAll]
      exact ⟨by omega, by omega, by omega, by omega, fun b hb => by have := c2 b hb; omega⟩
end
end Ab
set_option maxRecDepth 10000
namespace Go.Proofs.YtgbmjnpbojcbdaaGreat
open Go Ab
namespace nrc
theorem own : ownKnob Tryz.prog.godebug = none := by kernel_rfl
theorem laid : laidOutB Tryz.prog = true := by kernel_rfl
theorem readable : ∀ t, t ∈ Tryz.f5.params.toList → Tryz.prog.readableRec t = true ∧ t < Tryz.prog.types.size := by
  rw [Tryz.params5]; intro t ht
  simp only [List.mem_cons, List.not_mem_nil, or_false] at ht
  rcases ht with rfl | rfl | rfl <;> exact ⟨by kernel_rfl, of_decide_eq_true (by kernel_rfl)⟩
theorem closed : closedK Tryz.prog [22, 80, 25, 9, 4, 23, 51, 48, 3, 46, 49, 86] = true := by kernel_rfl
theorem contract (H : Type) (enc : TypeId × Value → H) (W : World) (base : Nat) (args : Array Value) (ds gs : List (DataW H)) (before : List MemPlace)
    (hval : ∀ (j : Nat) t v, Tryz.f5.params[j]? = some t → args[j]? = some v → Value.okWide Tryz.prog W .any base t v)
    (hW : DataW.Whole enc Tryz.prog Tryz.f5.params.toList Rows.rewriteClosedSpec.vars false W args.toList ds gs before) (hk : Rows.uptoSmall H (ds ++ gs) = true) :
    Calls Tryz.prog 5 args W fun e W' => ∃ v, e = .returned v ∧ Rows.rewriteClosedSpec.post enc Tryz.prog Tryz.f5 false true false false W args v W' := by
  have hW' := hW
  obtain ⟨p, q, hA0, hV, rfl, hfz, hnd⟩ := hW
  have hA : DataW.TrodAll enc Tryz.prog W 0 (fun _ => true) true Tryz.f5.params.toList args.toList ds p := hA0
  rw [Tryz.params5] at hA hval
  obtain ⟨v0, vs0, d0, ds0, p0, q0, hargs, rfl, rfl, h0, r0⟩ := ChangeShapes.trodAll_cons hA
  obtain ⟨v1, vs1, d1, ds1, p1, q1, rfl, rfl, rfl, h1, r1⟩ := ChangeShapes.trodAll_cons r0
  obtain ⟨v2, vs2, d2, ds2, p2, q2, rfl, rfl, rfl, h2, r2⟩ := ChangeShapes.trodAll_cons r1
  obtain ⟨rfl, rfl, rfl⟩ := ChangeShapes.trodAll_nil r2
  obtain rfl : args = #[v0, v1, v2] := by cases args; simp_all
  have hg : gs = [] := by cases gs with | nil => rfl | cons _ _ => exact hV.elim
  subst hg
  have hb : Rows.uptoBulk d0 + Rows.uptoBulk d1 + Rows.uptoBulk d2 ≤ 1048576 := by
    have := of_decide_eq_true hk
    simp only [List.cons_append, List.nil_append, List.append_nil, Rows.uptoBulkAll] at this
    omega
  obtain ⟨n0, a0, e0, x0⟩ := arg_slice closed (by decide) Tryz.underlying22 (hval 0 _ v0 rfl rfl) h0
  obtain ⟨n1, a1, e1, x1⟩ := arg_struct closed (by decide) Tryz.underlying25 (hval 1 _ v1 rfl rfl) h1
  obtain ⟨n2, a2, e2, x2⟩ := arg_struct closed (by decide) Tryz.underlying51 (hval 2 _ v2 rfl rfl) h2
  obtain ⟨rs, f0, b0, c0⟩ := rules_form n0 d0 [a0] e0
  obtain ⟨t, f1, b1⟩ := term_form n1 d1 a1 e1
  obtain ⟨x, f2, b2, b3, b4, b5, c2⟩ := clo_form n2 d2 a2 e2
  try simp only [List.cons.injEq, and_true] at f0
  rw [f0] at x0; rw [f1] at x1; rw [f2] at x2
  have hc := law_calls (args := #[v0, v1, v2]) (avs := [.sl .none (encL encRu rs), encT t, encClo x]) (W := W) (closed_ac rs (by omega) (fun r hr => by have := c0 r hr; omega) t (by omega) x (by omega) (by omega) (by omega) (fun b hb => by have := c2 b hb; omega) (by omega) []) (fun h => by simp [tabOn] at h) rfl (fun i hi hi' => by
    match i, hi with
    | 0, _ => exact x0
    | 1, _ => exact x1
    | 2, _ => exact x2)
  refine hc.mono fun e W' ⟨he, hbl⟩ => ?_
  subst he
  exact ⟨_, rfl, post_law rfl ⟨rfl, rfl, rfl⟩ hW' hbl rfl Tryz.underlying4 laid readable⟩
set_option maxRecDepth 100000 in
theorem lifted (os : Os) (started : os.Started) (H : Type) (enc : TypeId × Value → H) (F : Stop.Interp) :
    ReturnsInHanded {} Tryz.checked os 5 .any ((Rows.OpenSpec.upto Rows.rewriteClosedSpec).pre6 enc Tryz.prog Tryz.f5 Rows.rewriteClosedUptoRow.domain false) (((Rows.OpenSpec.upto Rows.rewriteClosedSpec).at F).post enc Tryz.prog Tryz.f5 false true false false) := by
  refine returnsInHanded_of_cond (C := Tryz.checked) (s := Rows.OpenSpec.upto Rows.rewriteClosedSpec) (k := Rows.uptoSmall) rfl own started (by kernel_rfl) Tryz.func5
    (OpenSpec.witness (enc := enc) (C := Tryz.checked) (s := Rows.OpenSpec.upto Rows.rewriteClosedSpec) (k := Rows.uptoSmall) rfl false
      ⟨#[], #[.slice none 0 0, .agg #[.string ⟨#[]⟩, .bool false, .slice none 0 0], .agg #[.int .i64 0, .slice none 0 0, .slice none 0 0, .string ⟨#[]⟩, .bool false, .slice none 0 0, .slice none 0 0]], []⟩ 8 (by kernel_rfl) (by kernel_rfl) (by kernel_rfl)
      (x := ([.nil, .agg [.lit (.string []), .lit (.bool false), .nil], .agg [.agg [.lit (.int .i64 0), .nil], .nil, .agg [.lit (.string []), .lit (.bool false), .nil], .nil]], [], [])) (by kernel_rfl) rfl (by kernel_rfl)) ?_
  intro W base args ds gs before hval hW _ hk _
  exact contract H enc W base args ds gs before hval hW hk
theorem over : Rows.rewriteClosedUptoRow.holds Tryz.pinned (Rows.OpenSpec.upto Rows.rewriteClosedSpec) :=
  OpenClaim.holds_of_cond 5 Tryz.f5 rfl rfl rfl rfl rfl rfl rfl ⟨rfl, rfl, rfl, rfl, rfl⟩ rfl rfl rfl rfl rfl (by kernel_rfl) Tryz.func5 (by kernel_rfl)
    (of_decide_eq_true (by kernel_rfl)) (by unfold Func.isWrapper; first | (rw [if_pos (by decide +kernel)]; kernel_rfl) | (rw [if_neg (by decide +kernel)]; exact ⟨rfl, rfl⟩))
    (fun os started H enc _ F => lifted os started H enc F)
end nrc
theorem rewriteClosed_upto : Rows.RewriteClosedUptoSaid := nrc.over
end Go.Proofs.YtgbmjnpbojcbdaaGreat
