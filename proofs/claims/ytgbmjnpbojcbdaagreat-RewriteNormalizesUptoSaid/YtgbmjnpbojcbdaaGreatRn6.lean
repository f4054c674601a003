/- Part 6 of 6 of a proof. Normalize returns the derivation of first steps under a strategy, its last term and whether that is a normal form, or the specified error: for every input whose arguments are of bulk at most 1048576 the law RewriteNormalizes returns true. -/
import Derived.Test.YtgbmjnpbojcbdaaGreatRn5
set_option linter.unusedVariables false
set_option linter.unusedSimpArgs false
set_option maxRecDepth 10000
namespace Ab
open Go Go.Proofs
theorem do_alt {rs : List (Term × Term)} {t : Term} {s : Int × List Int} : doE rs t s = if (findE rs t s).2 ≠ 0 then (zeroT, (findE rs t s).2) else if fitsP (putP t s.2 (rhsP rs t s)) = true then (putP t s.2 (rhsP rs t s), 0) else (zeroT, 3) := by
  unfold doE
  by_cases h : (findE rs t s).2 ≠ 0
  · rw [if_pos h, if_pos h]
  · rw [if_neg h, if_neg h]
    obtain ⟨x, hf⟩ := find_ok (by simpa using h)
    by_cases h2 : fitsP (putP t s.2 (rhsP rs t s)) = true
    · have hs := (at_sub _ _ _ (at_put _ _ (rhsP rs t s) _ hf.at')).sizes
      have h1 : fitsP (rhsP rs t s) = true := by
        unfold fitsP at h2 ⊢
        rw [Bool.and_eq_true, decide_eq_true_eq, decide_eq_true_eq] at h2 ⊢
        omega
      rw [if_pos ⟨h1, h2⟩, if_pos h2]
    · rw [if_neg h2, if_neg (fun h => h2 h.2)]
set_option maxHeartbeats 2000000 in
theorem stepR_ac (rs : List (Term × Term)) (hr : sysP rs = 0) (t : Term) (ht : checkP t = 0) (s : Int × List Int) (hs : s.2.length < 1099511627776) (H : List AObj) :
    ACall Tryz.prog 30 [.sl .none (encL encRu rs), encT t, encSt s] H (fun r H' => r = encRE (doE rs t s) ∧ H' = H) := by
  obtain ⟨hB, hck, _⟩ := sys_B hr
  have htb := check_small ht
  rw [do_alt]
  refine ACall_V (H.length) 59 [.cell 6 25, .tmp 7] Tryz.func30 rfl rfl rfl ?_
  simp only [push_cast, Nat.reduceAdd, Nat.reduceSub, Nat.reduceMul, Nat.reduceLT, Nat.reduceLeDiff, Nat.reduceEqDiff, Int.reduceToNat, ↓reduceIte]
  refine (substR_ac rs hB t (by omega) s hs _).to ?_
  simp only [push_cast, Nat.reduceAdd, Nat.reduceSub, Nat.reduceMul, Nat.reduceLT, Nat.reduceLeDiff, Nat.reduceEqDiff, Int.reduceToNat, ↓reduceIte, encFE]
  refine cI (fun h => ?_) (fun h => ?_)
  · rw [if_neg (by simpa using h)]
    obtain ⟨x, hf⟩ := find_ok h
    obtain ⟨hso, hsl⟩ := hf.subOk
    have hxs := at_sub _ _ _ hf.at'
    have hxc := check_small (hxs.check ht)
    have hrc := check_small (hck _ hf.mem).2
    have hlc := check_small (hck _ hf.mem).1
    have hap := hso.apply hxc hrc
    have hrn := ruleN_get hf.hi
    have hpb := put_bulk (rhsP rs t s) _ _ _ hf.at'
    have hb2 : (rhsP rs t s).bulk ≤ 20000000000 := hap.2
    have hsbk : ∀ b, b ∈ (findE rs t s).1 → b.2.bulk ≤ 1099511627775 := fun b hb => by have := (hso.bulk b hb).1; omega
    refine ⟨hf.lo, hf.hi, ?_⟩
    rw [← hrn]
    refine (grownR_ac (findE rs t s).1 (by omega) hsbk (ruleN rs s.1).2 (by omega) (by omega) _).to ?_
    simp only [push_cast, Nat.reduceAdd, Nat.reduceSub, Nat.reduceMul, Nat.reduceLT, Nat.reduceLeDiff, Nat.reduceEqDiff, Int.reduceToNat, ↓reduceIte]
    refine (replaced_ac (rhsP rs t s) (by omega) s.2 t x (by omega) hs hf.at' _).to ?_
    simp only [push_cast, Nat.reduceAdd, Nat.reduceSub, Nat.reduceMul, Nat.reduceLT, Nat.reduceLeDiff, Nat.reduceEqDiff, Int.reduceToNat, ↓reduceIte]
    obtain ⟨u, hu⟩ : ∃ u, u = putP t s.2 (rhsP rs t s) := ⟨_, rfl⟩
    rw [← hu]
    have fn : ¬ (u.size ≤ 4000 ∧ u.depth ≤ 200) → ¬ fitsP u = true := fun h1 h2 => by
      unfold fitsP at h2
      rw [Bool.and_eq_true, decide_eq_true_eq, decide_eq_true_eq] at h2
      exact h1 h2
    refine cI (fun h1 => ?_) (fun h1 => ?_)
    · rw [if_neg (fn (by omega))]
      simp only [push_cast, Nat.reduceAdd, Nat.reduceSub, Nat.reduceMul, Nat.reduceLT, Nat.reduceLeDiff, Nat.reduceEqDiff, Int.reduceToNat, ↓reduceIte]
    · refine cI (fun h2 => ?_) (fun h2 => ?_)
      · rw [if_neg (fn (by omega))]
        simp only [push_cast, Nat.reduceAdd, Nat.reduceSub, Nat.reduceMul, Nat.reduceLT, Nat.reduceLeDiff, Nat.reduceEqDiff, Int.reduceToNat, ↓reduceIte]
      · have hfu : fitsP u = true := by unfold fitsP; rw [Bool.and_eq_true, decide_eq_true_eq, decide_eq_true_eq]; omega
        rw [if_pos hfu]
        apply AW_drawE [some 50, some 51, some 52, some 53, some 54, some 55, some 56, some 57, some 58, some 59, some 60, some 61, none, some 7] [([false], _), ([true], _)] [none, none, none, none, none, none, none, none, none, none, none, none, some 0, none] 1 [(0, [false], [4]), (1, [false], [5]), (2, [false], [51]), (3, [false], [8]), (4, [false], [0]), (5, [false], [5]), (6, [false], [55]), (7, [false], [54, 1]), (8, [false], [57]), (9, [false], [58]), (10, [false], [53, 5]), (11, [false], [50, 1, 7]), (12, [false], [6, 54]), (13, [true], [])] [_, _, _, _, _, _, _, _, _, _, _, _, _, _]
        case' hm => exact dr
        case' hn => rfl
        case' hok => rfl
        case' hlen => rfl
        case' hd => rfl
        case' h0 => rfl
        case' hstep =>
         simp only [DAllG, push_cast, Option.isSome_some, Option.isSome_none]
         repeat' apply And.intro
         all_goals (apply DOne_V; simp only [push_cast, Nat.reduceAdd, Nat.reduceSub, Nat.reduceMul, Nat.reduceLT, Nat.reduceLeDiff, Nat.reduceEqDiff, Int.reduceToNat, ↓reduceIte] <;> first | exact rfl | omega | exact ⟨rfl, rfl⟩ | exact trivial | exact ⟨by omega, rfl⟩ | exact ⟨by omega, by omega, rfl⟩ | exact ⟨by omega, rfl, rfl⟩ | exact ⟨by omega, by omega, rfl, rfl⟩ | exact ⟨hf.lo, hf.hi, rfl⟩ | (rw [← hrn]; refine (applyR_ac (findE rs t s).1 (by omega) (ruleN rs s.1).2 (by omega) _).to ?_; exact ⟨rfl, rfl⟩) | (refine (putR_ac (rhsP rs t s) (by omega) s.2 t x (by omega) hs hf.at' _).to ?_; exact ⟨rfl, rfl⟩))
        case' hQ => skip
        rw [← hu]
        simp only [push_cast, Nat.reduceAdd, Nat.reduceSub, Nat.reduceMul, Nat.reduceLT, Nat.reduceLeDiff, Nat.reduceEqDiff, Int.reduceToNat, ↓reduceIte]
  · rw [if_pos h]
    simp only [push_cast, Nat.reduceAdd, Nat.reduceSub, Nat.reduceMul, Nat.reduceLT, Nat.reduceLeDiff, Nat.reduceEqDiff, Int.reduceToNat, ↓reduceIte]
theorem lefts {rs : List (Term × Term)} (h : sysP rs = 0) : ∀ r, r ∈ rs → r.1.var = false := fun r hr => by
  have := (sys_B h).2.2 r hr
  unfold extraP at this
  rw [Bool.or_eq_false_iff] at this
  exact this.1
theorem redexesV_ac (rs : List (Term × Term)) (hr : sysP rs = 0) (t : Term) (ht : checkP t = 0) (s : Int) (H : List AObj) : ACall Tryz.prog 19 [.sl .none (encL encRu rs), encT t, .int .i64 s] H (fun r H' => r = .sl .none (encL encSt (underP rs t s)) ∧ H' = H) := by
  have h := redexesR_ac rs (sys_B hr).1 t (by have := check_small ht; omega) s H
  rw [allJ_eq (lefts hr)] at h
  rw [under_eq, ← redG_eq]
  exact h
set_option maxHeartbeats 2000000 in
theorem normalizeR_ac (rs : List (Term × Term)) (hr : sysP rs = 0) (t : Term) (ht : checkP t = 0) (st : Int) (m : Nat) (hm : m ≤ 4096) (H : List AObj) :
    ACall Tryz.prog 16 [.sl .none (encL encRu rs), encT t, .int .i64 st, .int .i64 (m : Nat)] H (fun r H' => r = encNE (normF rs st t m t []) ∧ H' = H) := by
  refine ACall_VA (H.length) 56 [.cell 8 29, .cell 9 25, .tmp 10, .tmp 11] Tryz.func16 rfl rfl rfl ?_
  refine AW_reserve 1 ?_
  refine AW_of_W ?_
  simp only [push_cast, Nat.reduceAdd, Nat.reduceSub, Nat.reduceMul, Nat.reduceLT, Nat.reduceLeDiff, Nat.reduceEqDiff, Int.reduceToNat, ↓reduceIte]
  refine AW_loopW (maskG 60 [0, 1, 0, 1, 2, 0, 2]) (fun (_ : Nat × Term × List (Int × List Int)) => []) (fun q => H ++ [gTok 48 2 (encL encSt q.2.2), .cells [.str q.2.1.name, .bool q.2.1.var, .sl .none (encTs q.2.1.args)], .cells [.str [], .bool false, .sl .zero [], .sl .zero []], .cells [.str [], .bool false, .sl .zero []], .cells [.str t.name, .bool t.var, .sl .none (encTs t.args), gSl H.length (encL encSt q.2.2)]]) (fun q => checkP q.2.1 = 0 ∧ q.2.2.length + q.1 = m ∧ normF rs st t m t [] = normF rs st t q.1 q.2.1 q.2.2) (fun q => q.1) (m, t, []) ⟨ht, by simp, rfl⟩ (by simp only [push_cast, Nat.reduceAdd, Nat.reduceSub, Nat.reduceMul, Nat.reduceLT, Nat.reduceLeDiff, Nat.reduceEqDiff, Int.reduceToNat, ↓reduceIte, encL_nil]) (fun q hq => ?_)
  obtain ⟨n, u, acc⟩ := q
  obtain ⟨q1, q2, q3⟩ := hq
  simp only at q1 q2 q3
  have huc := check_small q1
  obtain ⟨tk, htk⟩ := gSl_ex H.length (encL encSt acc)
  simp only [push_cast, Nat.reduceAdd, Nat.reduceSub, Nat.reduceMul, Nat.reduceLT, Nat.reduceLeDiff, Nat.reduceEqDiff, Int.reduceToNat, ↓reduceIte]
  refine (redexesV_ac rs hr u q1 st _).to ?_
  simp only [push_cast, Nat.reduceAdd, Nat.reduceSub, Nat.reduceMul, Nat.reduceLT, Nat.reduceLeDiff, Nat.reduceEqDiff, Int.reduceToNat, ↓reduceIte]
  rw [q3]
  cases hu : underP rs u st with
  | nil =>
    have ef : normF rs st t n u acc = (t, acc, u, true, 0) := by cases n <;> simp [normF, hu]
    rw [ef]
    refine cI (fun _ => ?_) (fun h => absurd rfl h)
    apply AW_drawE [some 32, some 33, some 34, some 35, some 36, none, none, some 10, some 11] [([false, false], _), ([true, false], _), ([true, true], _)] [none, none, none, none, none, some 0, some 1, none, none] 2 [(0, [false, false], [12]), (1, [false, false], [5]), (2, [false, false], [13]), (3, [false, false], [34]), (4, [false, false], [35]), (5, [false, false], [8, 23]), (6, [true, false], [9, 23]), (7, [true, true], [36]), (8, [true, true], []), (1, [true, false], [5]), (2, [true, false], [13]), (2, [true, true], [13]), (3, [true, false], [34]), (3, [true, true], [34]), (4, [true, false], [35]), (4, [true, true], [35])] [_, _, _, _, _, _, _, _, _]
    case' hm => exact dr
    case' hn => rfl
    case' hok => rfl
    case' hlen => rfl
    case' hd => rfl
    case' h0 => rfl
    case' hstep =>
     simp only [DAllG, push_cast, Option.isSome_some, Option.isSome_none]
     repeat' apply And.intro
     all_goals (apply DOne_V; simp only [push_cast, Nat.reduceAdd, Nat.reduceSub, Nat.reduceMul, Nat.reduceLT, Nat.reduceLeDiff, Nat.reduceEqDiff, Int.reduceToNat, ↓reduceIte] <;> first | exact rfl | omega | exact ⟨rfl, rfl⟩ | exact trivial | exact ⟨by omega, rfl⟩ | exact ⟨by omega, by omega, rfl⟩ | exact ⟨by omega, rfl, rfl⟩ | exact ⟨by omega, by omega, rfl, rfl⟩ | skip)
    case' hQ => skip
    simp only [push_cast, Nat.reduceAdd, Nat.reduceSub, Nat.reduceMul, Nat.reduceLT, Nat.reduceLeDiff, Nat.reduceEqDiff, Int.reduceToNat, ↓reduceIte, encNE]
  | cons s r =>
    refine cI (fun h => absurd h (by simp; omega)) (fun _ => ?_)
    rw [htk]
    simp only [push_cast, Nat.reduceAdd, Nat.reduceSub, Nat.reduceMul, Nat.reduceLT, Nat.reduceLeDiff, Nat.reduceEqDiff, Int.reduceToNat, ↓reduceIte]
    rw [← htk]
    refine cI (fun hl => ?_) (fun hl => ?_)
    · have hn0 : n = 0 := by omega
      subst hn0
      have ef : normF rs st t 0 u acc = (t, acc, u, false, 0) := by simp [normF, hu]
      rw [ef]
      apply AW_drawE [some 32, some 33, some 34, some 35, some 36, none, none, some 10, some 11] [([false, false], _), ([true, false], _), ([true, true], _)] [none, none, none, none, none, some 0, some 1, none, none] 2 [(0, [false, false], [12]), (1, [false, false], [5]), (2, [false, false], [13]), (3, [false, false], [34]), (4, [false, false], [35]), (5, [false, false], [8, 23]), (6, [true, false], [9, 23]), (7, [true, true], [36]), (8, [true, true], []), (1, [true, false], [5]), (2, [true, false], [13]), (2, [true, true], [13]), (3, [true, false], [34]), (3, [true, true], [34]), (4, [true, false], [35]), (4, [true, true], [35])] [_, _, _, _, _, _, _, _, _]
      case' hm => exact dr
      case' hn => rfl
      case' hok => rfl
      case' hlen => rfl
      case' hd => rfl
      case' h0 => rfl
      case' hstep =>
       simp only [DAllG, push_cast, Option.isSome_some, Option.isSome_none]
       repeat' apply And.intro
       all_goals (apply DOne_V; simp only [push_cast, Nat.reduceAdd, Nat.reduceSub, Nat.reduceMul, Nat.reduceLT, Nat.reduceLeDiff, Nat.reduceEqDiff, Int.reduceToNat, ↓reduceIte] <;> first | exact rfl | omega | exact ⟨rfl, rfl⟩ | exact trivial | exact ⟨by omega, rfl⟩ | exact ⟨by omega, by omega, rfl⟩ | exact ⟨by omega, rfl, rfl⟩ | exact ⟨by omega, by omega, rfl, rfl⟩ | skip)
      case' hQ => skip
      simp only [push_cast, Nat.reduceAdd, Nat.reduceSub, Nat.reduceMul, Nat.reduceLT, Nat.reduceLeDiff, Nat.reduceEqDiff, Int.reduceToNat, ↓reduceIte, encNE]
      omega
    · obtain ⟨n, rfl⟩ : ∃ n', n = n' + 1 := ⟨n - 1, by omega⟩
      have hsm := step_len (under_mem (by rw [hu]; exact List.mem_cons_self : s ∈ underP rs u st))
      have hdc := fun h => do_check (s := s) hr q1 h
      apply AW_drawE [some 38, some 39, some 40, some 41, some 42, some 43, some 37, some 44, some 45, some 14, none, some 15] [([false, false], _), ([true, false], _), ([true, true], _)] [none, none, none, none, none, none, none, none, none, some 0, some 1, none] 2 [(0, [false, false], [0]), (1, [false, false], [5]), (2, [false, false], [13]), (3, [false, false], [40]), (4, [false, false], [41]), (5, [false, false], [38, 0, 2]), (6, [false, false], [43]), (7, [false, false], [37]), (8, [false, false], [37]), (9, [false, false], []), (10, [true, false], [14, 29]), (11, [true, true], [45]), (0, [true, false], [0]), (1, [true, false], [5]), (2, [true, false], [13]), (3, [true, false], [40]), (4, [true, false], [41]), (5, [true, false], [38, 0, 2]), (6, [true, false], [43]), (7, [true, false], [37]), (8, [true, false], [37]), (8, [true, true], [37])] [_, _, _, _, _, _, _, _, _, _, _, _]
      case' hm => exact dr
      case' hn => rfl
      case' hok => rfl
      case' hlen => rfl
      case' hd => rfl
      case' h0 => rfl
      case' hstep =>
       simp only [DAllG, push_cast, Option.isSome_some, Option.isSome_none]
       repeat' apply And.intro
       all_goals (apply DOne_V; simp only [push_cast, Nat.reduceAdd, Nat.reduceSub, Nat.reduceMul, Nat.reduceLT, Nat.reduceLeDiff, Nat.reduceEqDiff, Int.reduceToNat, ↓reduceIte] <;> first | exact rfl | omega | exact ⟨rfl, rfl⟩ | exact trivial | exact ⟨by omega, rfl⟩ | exact ⟨by omega, by omega, rfl⟩ | exact ⟨by omega, rfl, rfl⟩ | exact ⟨by omega, by omega, rfl, rfl⟩ | exact ⟨by omega, by simp, trivial⟩ | exact (stepR_ac rs hr u q1 s (by omega) _).to ⟨rfl, rfl⟩)
      case' hQ => skip
      simp only [push_cast, Nat.reduceAdd, Nat.reduceSub, Nat.reduceMul, Nat.reduceLT, Nat.reduceLeDiff, Nat.reduceEqDiff, Int.reduceToNat, ↓reduceIte]
      refine cI (fun hd => ?_) (fun hd => ?_)
      · have ef : normF rs st t (n + 1) u acc = normF rs st t n (doE rs u s).1 (acc ++ [s]) := by simp [normF, hu, hd]
        have hac : acc.length < 5000 := by omega
        apply AW_drawE [some 51, some 52, some 53, some 54, some 55, some 56, some 57, some 58, none] [([false, false], _), ([true, false], _), ([true, true], _)] [none, none, none, none, none, none, some 0, none, some 1] 2 [(0, [false, false], [12]), (1, [false, false], [51]), (2, [false, false], [13]), (3, [false, false], [53]), (4, [false, false], [54]), (5, [false, false], [55]), (6, [false, false], [52, 3]), (7, [true, false], [12]), (8, [true, false], [57, 0]), (0, [true, false], [12]), (2, [true, false], [13]), (3, [true, false], [53]), (4, [true, false], [54])] [_, _, _, _, _, _, _, _, _]
        case' hm => exact dr
        case' hn => rfl
        case' hok => rfl
        case' hlen => rfl
        case' hd => rfl
        case' h0 => rfl
        case' hstep =>
         simp only [DAllG, push_cast, Option.isSome_some, Option.isSome_none]
         repeat' apply And.intro
         all_goals (apply DOne_V; simp only [push_cast, Nat.reduceAdd, Nat.reduceSub, Nat.reduceMul, Nat.reduceLT, Nat.reduceLeDiff, Nat.reduceEqDiff, Int.reduceToNat, ↓reduceIte] <;> first | exact rfl | omega | exact ⟨rfl, rfl⟩ | exact trivial | exact ⟨by omega, rfl⟩ | exact ⟨by omega, by omega, rfl⟩ | exact ⟨by omega, rfl, rfl⟩ | exact ⟨by omega, by omega, rfl, rfl⟩ | (refine app1_L encSt (sz := 2) (fun _ => rfl) cellSt _ H.length acc s _ rfl rfl (by exact aget0 _ _ _) sl27 sz48 by48 zr48 rfl (by decide) (by decide) (by omega) ?_; simp only [push_cast, Nat.reduceAdd, Nat.reduceSub, Nat.reduceMul, Nat.reduceLT, Nat.reduceLeDiff, Nat.reduceEqDiff, Int.reduceToNat, ↓reduceIte]; exact ⟨rfl, rfl⟩) | exact ⟨by omega, by simp, trivial⟩)
        case' hQ => skip
        simp only [push_cast, Nat.reduceAdd, Nat.reduceSub, Nat.reduceMul, Nat.reduceLT, Nat.reduceLeDiff, Nat.reduceEqDiff, Int.reduceToNat, ↓reduceIte]
        exact loopW_n (n, (doE rs u s).1, acc ++ [s]) ⟨hdc hd, by simp; omega, ef⟩ (by simp) (by simp only [push_cast, Nat.reduceAdd, Nat.reduceSub, Nat.reduceMul, Nat.reduceLT, Nat.reduceLeDiff, Nat.reduceEqDiff, Int.reduceToNat, ↓reduceIte])
      · have ef : normF rs st t (n + 1) u acc = (zeroT, [], zeroT, false, (doE rs u s).2) := by simp [normF, hu, hd]
        rw [ef]
        simp only [push_cast, Nat.reduceAdd, Nat.reduceSub, Nat.reduceMul, Nat.reduceLT, Nat.reduceLeDiff, Nat.reduceEqDiff, Int.reduceToNat, ↓reduceIte, encNE, encL_nil]
end Ab
set_option maxRecDepth 10000
namespace Ab
open Go Go.Proofs
theorem sameSteps_ac (a b : List (Int × List Int)) (h1 : a.length < 1099511627776) (h2 : b.length < 1099511627776) (h3 : ∀ x, x ∈ a → x.2.length < 1099511627776) (h4 : ∀ x, x ∈ b → x.2.length < 1099511627776) (H : List AObj) :
    ACall Tryz.prog 20 [.sl .none (encL encSt a), .sl .none (encL encSt b)] H (fun r H' => r = .bool (decide (a = b)) ∧ H' = H) := by
  refine ACall_V (H.length) 40 [.tmp 4] Tryz.func20 rfl rfl rfl ?_
  simp only [push_cast, Nat.reduceAdd, Nat.reduceSub, Nat.reduceMul, Nat.reduceLT, Nat.reduceLeDiff, Nat.reduceEqDiff, Int.reduceToNat, ↓reduceIte]
  refine cI (fun hl => ?_) (fun hl => ?_)
  · have hl : a.length = b.length := by omega
    refine AW_loopW (maskG 42 [0, 0, 10, 0]) (fun (i : Nat) => [(13, .int .i64 i)]) (fun _ => H) (fun i => i ≤ a.length ∧ a.take i = b.take i) (fun i => a.length - i) 0 ⟨Nat.zero_le _, rfl⟩ (by simp only [push_cast, Nat.reduceAdd, Nat.reduceSub, Nat.reduceMul, Nat.reduceLT, Nat.reduceLeDiff, Nat.reduceEqDiff, Int.reduceToNat, ↓reduceIte]) (fun i hi => ?_)
    simp only [push_cast, Nat.reduceAdd, Nat.reduceSub, Nat.reduceMul, Nat.reduceLT, Nat.reduceLeDiff, Nat.reduceEqDiff, Int.reduceToNat, ↓reduceIte]
    refine cI (fun h => ?_) (fun h => ?_)
    · repeat refine ⟨by omega, ?_⟩
      have hia : i < a.length := by omega
      have hib : i < b.length := by omega
      have heq := fun H => samePosR_ac (a[i]'hia).2 (b[i]'hib).2 (h3 _ (List.getElem_mem hia)) (h4 _ (List.getElem_mem hib)) H
      by_cases hn : (a[i]'hia).1 = (b[i]'hib).1
      · have hd : decide ((a[i]'hia).1 = (b[i]'hib).1) = true := by simpa using hn
        apply AW_drawE [some 16, some 17, some 18, some 19, some 20, some 21, some 22, some 23, some 24, some 25, some 26, some 27, some 28, some 29, some 30, some 31, some 32, some 33, some 34, some 35, some 36, some 37, some 38, some 39, some 40] [([], _)] [none, none, none, none, none, none, none, none, none, none, none, none, none, none, none, none, none, none, none, none, none, none, none, none, none] 0 [(0, [], [0]), (1, [], [5]), (2, [], [16, 0]), (3, [], [18]), (4, [], [19]), (5, [], [1]), (6, [], [5]), (7, [], [21, 0]), (8, [], [23]), (9, [], [24]), (10, [], [20, 4]), (11, [], [26]), (12, [], [0, 26]), (13, [], [5, 21]), (14, [], [27, 0, 0]), (15, [], [27, 2]), (16, [], [27, 3]), (17, [], [1, 25]), (18, [], [5, 21]), (19, [], [27, 5, 0]), (20, [], [27, 7]), (21, [], [27, 8]), (22, [], [27, 4, 4]), (23, [], [27, 10]), (24, [], [27, 11])] [_, _, _, _, _, _, _, _, _, _, _, _, _, _, _, _, _, _, _, _, _, _, _, _, _]
        case' hm => exact dr
        case' hn => rfl
        case' hok => rfl
        case' hlen => rfl
        case' hd => rfl
        case' h0 => rfl
        case' hstep =>
         simp only [DAllG, push_cast, Option.isSome_some, Option.isSome_none]
         repeat' apply And.intro
         all_goals (apply DOne_V; simp only [push_cast, Nat.reduceAdd, Nat.reduceSub, Nat.reduceMul, Nat.reduceLT, Nat.reduceLeDiff, Nat.reduceEqDiff, Int.reduceToNat, ↓reduceIte, hd, Bool.not_true] <;> first | exact rfl | omega | exact ⟨rfl, rfl⟩ | exact trivial | exact ⟨by omega, rfl⟩ | exact ⟨by omega, by omega, rfl⟩ | exact ⟨by omega, rfl, rfl⟩ | exact ⟨by omega, by omega, rfl, rfl⟩ | exact ⟨by omega, trivial⟩ | exact (heq _).to ⟨rfl, rfl⟩)
        case' hQ => skip
        simp only [push_cast, Nat.reduceAdd, Nat.reduceSub, Nat.reduceMul, Nat.reduceLT, Nat.reduceLeDiff, Nat.reduceEqDiff, Int.reduceToNat, ↓reduceIte, hd, Bool.not_true]
        refine cI (fun he => ?_) (fun he => ?_)
        · repeat' first | refine ⟨by omega, ?_⟩ | refine cI (fun _ => ?_) (fun _ => ?_)
          refine loopW_n (i + 1) ⟨by omega, ?_⟩ (by omega) (by simp only [push_cast, Nat.reduceAdd, Nat.reduceSub, Nat.reduceMul, Nat.reduceLT, Nat.reduceLeDiff, Nat.reduceEqDiff, Int.reduceToNat, ↓reduceIte])
          rw [List.take_succ_eq_append_getElem hia, List.take_succ_eq_append_getElem hib, hi.2]
          congr 2
          exact Prod.ext hn he
        · have hne : a ≠ b := fun e => he (by subst e; rfl)
          simp [hne]
      · have hd : decide ((a[i]'hia).1 = (b[i]'hib).1) = false := by simpa using hn
        apply AW_drawE [some 16, some 17, some 18, some 19, some 20, some 21, some 22, some 23, some 24, some 25, some 26, some 27, some 28, some 29, some 30, some 31, some 32, some 33, some 34, some 35, some 36, some 37, some 38, some 39, some 40] [([], _)] [none, none, none, none, none, none, none, none, none, none, none, none, none, none, none, none, none, none, none, none, none, none, none, none, none] 0 [(0, [], [0]), (1, [], [5]), (2, [], [16, 0]), (3, [], [18]), (4, [], [19]), (5, [], [1]), (6, [], [5]), (7, [], [21, 0]), (8, [], [23]), (9, [], [24]), (10, [], [20, 4]), (11, [], [26]), (12, [], [0, 26]), (13, [], [5, 21]), (14, [], [27, 0, 0]), (15, [], [27, 2]), (16, [], [27, 3]), (17, [], [1, 25]), (18, [], [5, 21]), (19, [], [27, 5, 0]), (20, [], [27, 7]), (21, [], [27, 8]), (22, [], [27, 4, 4]), (23, [], [27, 10]), (24, [], [27, 11])] [_, _, _, _, _, _, _, _, _, _, _, _, _, _, _, _, _, _, _, _, _, _, _, _, _]
        case' hm => exact dr
        case' hn => rfl
        case' hok => rfl
        case' hlen => rfl
        case' hd => rfl
        case' h0 => rfl
        case' hstep =>
         simp only [DAllG, push_cast, Option.isSome_some, Option.isSome_none]
         repeat' apply And.intro
         all_goals (apply DOne_V; simp only [push_cast, Nat.reduceAdd, Nat.reduceSub, Nat.reduceMul, Nat.reduceLT, Nat.reduceLeDiff, Nat.reduceEqDiff, Int.reduceToNat, ↓reduceIte, hd, Bool.not_false] <;> first | exact rfl | omega | exact ⟨rfl, rfl⟩ | exact trivial | exact ⟨by omega, rfl⟩ | exact ⟨by omega, by omega, rfl⟩ | exact ⟨by omega, rfl, rfl⟩ | exact ⟨by omega, by omega, rfl, rfl⟩ | exact ⟨by omega, trivial⟩)
        case' hQ => skip
        have hne : a ≠ b := fun e => hn (by subst e; rfl)
        simp only [push_cast, Nat.reduceAdd, Nat.reduceSub, Nat.reduceMul, Nat.reduceLT, Nat.reduceLeDiff, Nat.reduceEqDiff, Int.reduceToNat, ↓reduceIte, hd, Bool.not_false, decide_eq_false hne]
    · have e := hi.2
      rw [List.take_of_length_le (by omega), List.take_of_length_le (by omega)] at e
      simp [e]
  · have hne : a ≠ b := fun e => hl (by rw [e])
    simp [hne]
@[reducible] def encCh (c : Term × List (Int × List Int)) : AV := .agg [.str c.1.name, .bool c.1.var, .sl .none (encTs c.1.args), .sl .none (encL encSt c.2)]
def ChB (c : Term × List (Int × List Int)) : Prop := c.1.bulk ≤ 1099511627775 ∧ c.2.length < 1099511627776 ∧ ∀ x, x ∈ c.2 → x.2.length < 1099511627776
theorem sameChain_ac (a b : Term × List (Int × List Int)) (ha : ChB a) (hb : ChB b) (H : List AObj) : ACall Tryz.prog 13 [encCh a, encCh b] H (fun r H' => r = .bool (decide (a = b)) ∧ H' = H) := by
  refine ACall_V (H.length) 15 [.tmp 4] Tryz.func13 rfl rfl rfl ?_
  simp only [push_cast, Nat.reduceAdd, Nat.reduceSub, Nat.reduceMul, Nat.reduceLT, Nat.reduceLeDiff, Nat.reduceEqDiff, Int.reduceToNat, ↓reduceIte]
  refine (equalR_ac a.1 b.1 ha.1 hb.1 _).to ?_
  simp only [push_cast, Nat.reduceAdd, Nat.reduceSub, Nat.reduceMul, Nat.reduceLT, Nat.reduceLeDiff, Nat.reduceEqDiff, Int.reduceToNat, ↓reduceIte]
  refine cI (fun h => ?_) (fun h => ?_)
  · refine (sameSteps_ac a.2 b.2 ha.2.1 hb.2.1 ha.2.2 hb.2.2 _).to ?_
    simp only [push_cast, Nat.reduceAdd, Nat.reduceSub, Nat.reduceMul, Nat.reduceLT, Nat.reduceLeDiff, Nat.reduceEqDiff, Int.reduceToNat, ↓reduceIte]
    have : (a = b) ↔ a.2 = b.2 := ⟨fun e => by rw [e], fun e => Prod.ext h e⟩
    simp [this]
  · have : ¬ a = b := fun e => h (by rw [e])
    simp [this]
theorem is4_ac (t : Term) (e : Int) (want : Term) (bad : Int) (h1 : t.bulk ≤ 1099511627775) (h2 : want.bulk ≤ 1099511627775) (H : List AObj) :
    ACall Tryz.prog 14 [encT t, .int .i64 e, encT want, .int .i64 bad] H (fun r H' => r = .bool (isP t e want bad) ∧ H' = H) := by
  refine ACall_V (H.length) 22 [.tmp 8] Tryz.func14 rfl rfl rfl ?_
  simp only [push_cast, Nat.reduceAdd, Nat.reduceSub, Nat.reduceMul, Nat.reduceLT, Nat.reduceLeDiff, Nat.reduceEqDiff, Int.reduceToNat, ↓reduceIte]
  unfold isP
  refine cI (fun h => cI (fun he => ?_) (fun he => ?_)) (fun h => cI (fun he => ?_) (fun he => ?_))
  · refine (equalR_ac t want h1 h2 _).to ?_
    simp only [push_cast, Nat.reduceAdd, Nat.reduceSub, Nat.reduceMul, Nat.reduceLT, Nat.reduceLeDiff, Nat.reduceEqDiff, Int.reduceToNat, ↓reduceIte]
    simp [h, he]
  · simp [h, he]
  · refine ACall.forget (args' := [encT t, encT zeroT]) ⟨Forget.refl _, fgtW_spec _ _ (by simp only [push_cast, Nat.reduceAdd, Nat.reduceSub, Nat.reduceMul, Nat.reduceLT, Nat.reduceLeDiff, Nat.reduceEqDiff, Int.reduceToNat, ↓reduceIte]), trivial⟩ ((equalR_ac t zeroT h1 (by simp [zeroT, Term.bulk_mk]) _).to ?_)
    simp only [push_cast, Nat.reduceAdd, Nat.reduceSub, Nat.reduceMul, Nat.reduceLT, Nat.reduceLeDiff, Nat.reduceEqDiff, Int.reduceToNat, ↓reduceIte]
    simp [h, he]
  · simp [h, he]
theorem variable4_ac (s : List UInt8) (H : List AObj) : ACall Tryz.prog 45 [.str s] H (fun r H' => r = encT (.mk s true []) ∧ H' = H) := by
  refine ACall_V (H.length) 4 [.cell 2 25] Tryz.func45 rfl rfl rfl ?_
  simp only [push_cast, Nat.reduceAdd, Nat.reduceSub, Nat.reduceMul, Nat.reduceLT, Nat.reduceLeDiff, Nat.reduceEqDiff, Int.reduceToNat, ↓reduceIte]
theorem symbol4_ac (s : List UInt8) (l : List Term) (H : List AObj) : ACall Tryz.prog 44 [.str s, .sl .none (encTs l)] H (fun r H' => r = encT (.mk s false l) ∧ H' = H) := by
  refine ACall_V (H.length) 6 [.cell 4 25] Tryz.func44 rfl rfl rfl ?_
  simp only [push_cast, Nat.reduceAdd, Nat.reduceSub, Nat.reduceMul, Nat.reduceLT, Nat.reduceLeDiff, Nat.reduceEqDiff, Int.reduceToNat, ↓reduceIte]
theorem symbol40_ac (s : List UInt8) (H : List AObj) : ACall Tryz.prog 44 [.str s, .sl .zero []] H (fun r H' => r = encT (.mk s false []) ∧ H' = H) :=
  ACall.forget (args' := [.str s, .sl .none (encTs [])]) ⟨Forget.refl _, by rw [encTs_nil]; exact Forget.tok _ _, trivial⟩ (symbol4_ac s [] H)
def exA : Term := .mk [97] false []
def exB : Term := .mk [98] false []
def exX : Term := .mk [120] true []
def exF : Term := .mk [102] false [exX, exX]
def exR : List (Term × Term) := [(exA, exB), (exF, exX)]
def exT : Term := .mk [102] false [exA, exA]
theorem ex_ck : checkP exA = 0 ∧ checkP exB = 0 ∧ checkP exX = 0 ∧ checkP exF = 0 ∧ checkP exT = 0 := by
  have h1 : isNameP [97] true = true ∧ isNameP [98] true = true ∧ isNameP [102] true = true ∧ isNameP [120] false = true := by decide +kernel
  refine ⟨?_, ?_, ?_, ?_, ?_⟩ <;> rw [check_iff] <;> simp [exA, exB, exX, exF, exT, formedP_mk, fitsP, Term.size_mk, Term.depth_mk, h1]
theorem ex_rules : rulesP exR = 0 := by
  obtain ⟨h1, h2, h3, h4, h5⟩ := ex_ck
  simp [rulesP, exR, rT, firstErr, h1, h2, h3, h4]
theorem ex_nodes : nodesL (rT exR) = [([97], 0), ([98], 0), ([102], 2)] := by
  simp [exR, rT, exA, exB, exF, exX, nodesL, ndT, Term.mk_name, Term.mk_var, Term.mk_args]
theorem ex_ar : arB exR = false ∧ (arE exR).2.any (fun s => markedP s.1) = false := by
  unfold arB arE
  rw [ex_nodes]
  decide +kernel
theorem ex_extra : exR.any extraP = false := by
  simp [exR, extraP, exA, exB, exF, exX, Term.mk_var, varsP, collectP_mk, insertP, insAt]
  try decide +kernel
theorem ex_both : bothP exR exT = 0 := by
  have h : sysP exR = 0 := by
    unfold sysP
    rw [ex_rules, ex_ar.1, ex_ar.2, ex_extra]
    simp
  unfold bothP
  rw [h, ex_ck.2.2.2.2]
  simp
theorem ex_inner : underP exR exT 2 = [(0, [0]), (0, [1])] := by
  simp [underP, exR, exT, innT, innL_cons, innL_nil, atV, atF, exA, exF, exX, exB, matchP, matchTs_cons, matchTs_nil, leafM, look, insB, insAt, clash, Term.mk_name, Term.mk_var, Term.mk_args]
theorem ex_outer : underP exR exT 3 = [(1, [])] := by
  simp [underP, exR, exT, outT, outL_cons, outL_nil', atV, atF, exA, exF, exX, exB, matchP, matchTs_cons, matchTs_nil, leafM, look, insB, insAt, clash, Term.mk_name, Term.mk_var, Term.mk_args]
def exT1 : Term := .mk [102] false [exB, exA]
def exT2 : Term := .mk [102] false [exB, exB]
theorem ex_u0 : underP exR exT 4 = [(0, [0])] := by
  simp [underP, firstS, exR, exT, innT, innL_cons, innL_nil, atV, atF, exA, exF, exX, exB, matchP, matchTs_cons, matchTs_nil, leafM, look, insB, insAt, clash, Term.mk_name, Term.mk_var, Term.mk_args]
theorem ex_u1 : underP exR exT1 4 = [(0, [1])] := by
  simp [underP, firstS, exR, exT1, innT, innL_cons, innL_nil, atV, atF, exA, exF, exX, exB, matchP, matchTs_cons, matchTs_nil, leafM, look, insB, insAt, clash, Term.mk_name, Term.mk_var, Term.mk_args]
theorem ex_u2 : underP exR exT2 4 = [(1, [])] := by
  simp [underP, firstS, exR, exT2, innT, innL_cons, innL_nil, atV, atF, exA, exF, exX, exB, matchP, matchTs_cons, matchTs_nil, leafM, look, insB, insAt, clash, Term.mk_name, Term.mk_var, Term.mk_args]
theorem ex_u3 : underP exR exB 4 = [] := by
  simp [underP, firstS, exR, innT, innL_cons, innL_nil, atV, atF, exA, exF, exX, exB, matchP, matchTs_cons, matchTs_nil, leafM, look, insB, insAt, clash, Term.mk_name, Term.mk_var, Term.mk_args]
theorem ex_d0 : doE exR exT (0, [0]) = (exT1, 0) := by
  have hf : findE exR exT (0, [0]) = ([], 0) := by
    simp [findE, exR, exT, atP, ruleN, exA, exF, exX, exB, matchP, matchTs_nil, clash, Term.mk_name, Term.mk_var, Term.mk_args]
  have hr : rhsP exR exT (0, [0]) = exB := by
    unfold rhsP
    rw [hf]
    simp [ruleN, exR, exB, exX, exF, exA, applyP_mk, imageP]
  rw [do_alt, hf, hr]
  simp [exT, exT1, exA, exB, putP, fitsP, Term.size_mk, Term.depth_mk]
theorem ex_d1 : doE exR exT1 (0, [1]) = (exT2, 0) := by
  have hf : findE exR exT1 (0, [1]) = ([], 0) := by
    simp [findE, exR, exT1, atP, ruleN, exA, exF, exX, exB, matchP, matchTs_nil, clash, Term.mk_name, Term.mk_var, Term.mk_args]
  have hr : rhsP exR exT1 (0, [1]) = exB := by
    unfold rhsP
    rw [hf]
    simp [ruleN, exR, exB, exX, exF, exA, applyP_mk, imageP]
  rw [do_alt, hf, hr]
  simp [exT1, exT2, exA, exB, putP, fitsP, Term.size_mk, Term.depth_mk]
theorem ex_d2 : doE exR exT2 (1, []) = (exB, 0) := by
  have hf : findE exR exT2 (1, []) = ([([120], exB)], 0) := by
    simp [findE, exR, exT2, atP, ruleN, exA, exF, exX, exB, matchP, matchTs_cons, matchTs_nil, leafM, look, insB, insAt, clash, Term.mk_name, Term.mk_var, Term.mk_args]
  have hr : rhsP exR exT2 (1, []) = exB := by
    unfold rhsP
    rw [hf]
    simp [ruleN, exR, exB, exX, exF, exA, applyP_mk, imageP]
  rw [do_alt, hf, hr]
  simp [exT2, exB, exA, putP, fitsP, Term.size_mk, Term.depth_mk]
theorem ex_norm : normF exR 4 exT 10 exT [] = (exT, [(0, [0]), (0, [1]), (1, [])], exB, true, 0) := by
  simp [normF, ex_u0, ex_u1, ex_u2, ex_u3, ex_d0, ex_d1, ex_d2]
theorem ex_B : BndR exR ∧ exR.length = 2 ∧ exT.bulk ≤ 1099511627775 ∧ exB.bulk ≤ 1099511627775 := by
  refine ⟨fun r hr => ?_, rfl, ?_, ?_⟩
  · simp only [exR, List.mem_cons, List.not_mem_nil, or_false] at hr
    rcases hr with rfl | rfl <;> simp [exA, exB, exX, exF, Term.bulk_mk]
  · simp [exA, exT, Term.bulk_mk]
  · simp [exB, Term.bulk_mk]
theorem ex_redI : redE exR exT 2 = ([(0, [0]), (0, [1])], 0) := by unfold redE; rw [ex_both, ex_inner]; simp
theorem ex_redO : redE exR exT 3 = ([(1, [])], 0) := by unfold redE; rw [ex_both, ex_outer]; simp
theorem ex_normE : normalE exR exT 4 10 = (exT, [(0, [0]), (0, [1]), (1, [])], exB, true, 0) := by unfold normalE; rw [ex_both]; simpa using ex_norm
theorem encXX : encTs [exX, exX] = [AV.agg [.str [120], .bool true, .sl .none []], .agg [.str [120], .bool true, .sl .none []]] := by simp only [exX, encTs_cons, encTs_nil, encT, Term.mk_name, Term.mk_var, Term.mk_args]
theorem encAA : encTs [exA, exA] = [AV.agg [.str [97], .bool false, .sl .none []], .agg [.str [97], .bool false, .sl .none []]] := by simp only [exA, encTs_cons, encTs_nil, encT, Term.mk_name, Term.mk_var, Term.mk_args]
theorem enc_exR : encL encRu exR = [AV.agg [.str [97], .bool false, .sl .none [], .str [98], .bool false, .sl .none []], .agg [.str [102], .bool false, .sl .none (encTs [exX, exX]), .str [120], .bool true, .sl .none []]] := by
  simp only [encL, exR, List.map_cons, List.map_nil, encRu, exA, exB, exF, Term.mk_name, Term.mk_var, Term.mk_args, encTs_nil]
  have h : encTs exX.args = [] := encTs_nil
  rw [h]; rfl
theorem exS1_ac (H : List AObj) : ACall Tryz.prog 20 [.sl .none (encL encSt [(0, [0]), (0, [1])]), .sl .none [.agg [.int .i64 0, .sl .none [.int .i64 0]], .agg [.int .i64 0, .sl .none [.int .i64 1]]]] H (fun r H' => r = .bool true ∧ H' = H) :=
  (sameSteps_ac [(0, [0]), (0, [1])] [(0, [0]), (0, [1])] (by simp) (by simp) (by simp) (by simp) H).mono (by rintro r H' ⟨rfl, rfl⟩; exact ⟨by simp, rfl⟩)
theorem exS2_ac (H : List AObj) : ACall Tryz.prog 20 [.sl .none (encL encSt [(1, [])]), .sl .none [.agg [.int .i64 1, .sl .zero []]]] H (fun r H' => r = .bool true ∧ H' = H) := by
  refine ACall.forget (args' := [.sl .none (encL encSt [(1, [])]), .sl .none (encL encSt [(1, [])])]) ⟨Forget.refl _, ?_, trivial⟩ ((sameSteps_ac [(1, [])] [(1, [])] (by simp) (by simp) (by simp) (by simp) H).mono (by rintro r H' ⟨rfl, rfl⟩; exact ⟨by simp, rfl⟩))
  exact Forget.row _ (by simp [encL]) ⟨Forget.refl _, Forget.tok _ _, trivial⟩
theorem enc_exB : encT exB = .agg [.str [98], .bool false, .sl .none []] := by
  have h : encTs exB.args = [] := encTs_nil
  simp only [encT, h]; rfl
theorem exEq_ac (H : List AObj) : ACall Tryz.prog 25 [encT exB, .agg [.str [98], .bool false, .sl .none []]] H (fun r H' => r = .bool true ∧ H' = H) := by
  rw [← enc_exB]
  exact (equalR_ac exB exB (by simp [exB, Term.bulk_mk]) (by simp [exB, Term.bulk_mk]) H).mono (by rintro r H' ⟨rfl, rfl⟩; exact ⟨by simp, rfl⟩)
theorem alive4_ac (H : List AObj) : ACall Tryz.prog 15 [] H (fun r H' => r = .bool true ∧ H' = H) := by
  obtain ⟨b1, b2, b3, b4⟩ := ex_B
  refine ACall_V (H.length) 84 [.tmp 0] Tryz.func15 rfl rfl rfl ?_
  simp only [push_cast, Nat.reduceAdd, Nat.reduceSub, Nat.reduceMul, Nat.reduceLT, Nat.reduceLeDiff, Nat.reduceEqDiff, Int.reduceToNat, ↓reduceIte]
  refine (symbol40_ac _ _).to ?_
  simp only [push_cast, Nat.reduceAdd, Nat.reduceSub, Nat.reduceMul, Nat.reduceLT, Nat.reduceLeDiff, Nat.reduceEqDiff, Int.reduceToNat, ↓reduceIte]
  refine (symbol40_ac _ _).to ?_
  simp only [push_cast, Nat.reduceAdd, Nat.reduceSub, Nat.reduceMul, Nat.reduceLT, Nat.reduceLeDiff, Nat.reduceEqDiff, Int.reduceToNat, ↓reduceIte]
  refine (variable4_ac _ _).to ?_
  simp only [push_cast, Nat.reduceAdd, Nat.reduceSub, Nat.reduceMul, Nat.reduceLT, Nat.reduceLeDiff, Nat.reduceEqDiff, Int.reduceToNat, ↓reduceIte]
  refine (variable4_ac _ _).to ?_
  simp only [push_cast, Nat.reduceAdd, Nat.reduceSub, Nat.reduceMul, Nat.reduceLT, Nat.reduceLeDiff, Nat.reduceEqDiff, Int.reduceToNat, ↓reduceIte]
  rw [← encXX]
  refine (symbol4_ac _ [exX, exX] _).to ?_
  simp only [push_cast, Nat.reduceAdd, Nat.reduceSub, Nat.reduceMul, Nat.reduceLT, Nat.reduceLeDiff, Nat.reduceEqDiff, Int.reduceToNat, ↓reduceIte]
  refine (variable4_ac _ _).to ?_
  simp only [push_cast, Nat.reduceAdd, Nat.reduceSub, Nat.reduceMul, Nat.reduceLT, Nat.reduceLeDiff, Nat.reduceEqDiff, Int.reduceToNat, ↓reduceIte]
  refine (symbol40_ac _ _).to ?_
  simp only [push_cast, Nat.reduceAdd, Nat.reduceSub, Nat.reduceMul, Nat.reduceLT, Nat.reduceLeDiff, Nat.reduceEqDiff, Int.reduceToNat, ↓reduceIte]
  refine (symbol40_ac _ _).to ?_
  simp only [push_cast, Nat.reduceAdd, Nat.reduceSub, Nat.reduceMul, Nat.reduceLT, Nat.reduceLeDiff, Nat.reduceEqDiff, Int.reduceToNat, ↓reduceIte]
  rw [← encAA]
  refine (symbol4_ac _ [exA, exA] _).to ?_
  simp only [push_cast, Nat.reduceAdd, Nat.reduceSub, Nat.reduceMul, Nat.reduceLT, Nat.reduceLeDiff, Nat.reduceEqDiff, Int.reduceToNat, ↓reduceIte]
  rw [← enc_exR]
  refine (redexes_ac exR (by omega) b1 exT b3 2 _).to ?_
  simp only [push_cast, Nat.reduceAdd, Nat.reduceSub, Nat.reduceMul, Nat.reduceLT, Nat.reduceLeDiff, Nat.reduceEqDiff, Int.reduceToNat, ↓reduceIte, ex_redI, encLE]
  refine (redexes_ac exR (by omega) b1 exT b3 3 _).to ?_
  simp only [push_cast, Nat.reduceAdd, Nat.reduceSub, Nat.reduceMul, Nat.reduceLT, Nat.reduceLeDiff, Nat.reduceEqDiff, Int.reduceToNat, ↓reduceIte, ex_redO, encLE]
  refine (normalize_ac exR (by omega) b1 exT b3 4 10 _).to ?_
  simp only [push_cast, Nat.reduceAdd, Nat.reduceSub, Nat.reduceMul, Nat.reduceLT, Nat.reduceLeDiff, Nat.reduceEqDiff, Int.reduceToNat, ↓reduceIte, ex_normE, encNE]
  have h3 : ((0 : Int) + 1 + 1 + 1 = 3) = True := by decide
  apply AW_drawE [some 45, some 46, some 47, some 48, some 49, some 50, some 51, some 52, some 53, some 54, some 55, some 56, some 57, some 58, some 59, some 60, some 61, some 62, some 63, some 64, some 65, some 66, some 67, some 68, some 69, some 70, some 71, some 72, some 73, some 74, some 75, some 76, some 77, some 78, some 79, some 80, some 81, some 82, some 83, some 0] [([], _)] [none, none, none, none, none, none, none, none, none, none, none, none, none, none, none, none, none, none, none, none, none, none, none, none, none, none, none, none, none, none, none, none, none, none, none, none, none, none, none, none] 0 [(0, [], [4]), (1, [], [45]), (2, [], [46]), (3, [], [3, 43]), (4, [], [47]), (5, [], [47, 1]), (6, [], [47]), (7, [], [47, 3]), (8, [], [47, 2, 1]), (9, [], [47, 0, 4]), (10, [], [47, 6]), (11, [], [55]), (12, [], [6, 49]), (13, [], [56, 0]), (14, [], [56, 1]), (15, [], [59]), (16, [], [5, 54]), (17, [], [60]), (18, [], [60, 1]), (19, [], [60, 0, 1]), (20, [], [60, 3]), (21, [], [65]), (22, [], [10, 55]), (23, [], [66, 0]), (24, [], [66, 1]), (25, [], [69]), (26, [], [9, 60]), (27, [], [70, 0]), (28, [], [72]), (29, [], [7, 65]), (30, [], [73, 0]), (31, [], [73, 1]), (32, [], [73, 2]), (33, [], [73, 3]), (34, [], [78]), (35, [], [8, 70]), (36, [], [79]), (37, [], [79, 0, 0]), (38, [], [79, 2]), (39, [], [83])] [_, _, _, _, _, _, _, _, _, _, _, _, _, _, _, _, _, _, _, _, _, _, _, _, _, _, _, _, _, _, _, _, _, _, _, _, _, _, _, _]
  case' hm => exact dr
  case' hn => rfl
  case' hok => rfl
  case' hlen => rfl
  case' hd => rfl
  case' h0 => rfl
  case' hstep =>
   simp only [DAllG, push_cast, Option.isSome_some, Option.isSome_none]
   repeat' apply And.intro
   all_goals (apply DOne_V; simp only [push_cast, Nat.reduceAdd, Nat.reduceSub, Nat.reduceMul, Nat.reduceLT, Nat.reduceLeDiff, Nat.reduceEqDiff, Int.reduceToNat, ↓reduceIte, true_and, decide_true, h3] <;> first | exact rfl | omega | exact ⟨rfl, rfl⟩ | exact trivial | exact ⟨by omega, rfl⟩ | exact ⟨by omega, by omega, rfl⟩ | exact ⟨by omega, rfl, rfl⟩ | exact ⟨by omega, by omega, rfl, rfl⟩ | exact (exS1_ac _).to ⟨rfl, rfl⟩ | exact (exS2_ac _).to ⟨rfl, rfl⟩ | exact (symbol40_ac _ _).to ⟨rfl, rfl⟩ | exact (exEq_ac _).to ⟨rfl, rfl⟩)
  case' hQ => skip
  simp only [push_cast, Nat.reduceAdd, Nat.reduceSub, Nat.reduceMul, Nat.reduceLT, Nat.reduceLeDiff, Nat.reduceEqDiff, Int.reduceToNat, ↓reduceIte, h3, if_true]
end Ab
set_option maxRecDepth 10000
namespace Ab
open Go Go.Proofs
structure NormOk (t0 : Term) (k : Nat) (q : Term × List (Int × List Int) × Term × Bool × Int) : Prop where
  start : q.1 = t0 ∨ q.1 = zeroT
  len : q.2.1.length ≤ k
  pos : ∀ s, s ∈ q.2.1 → s.2.length < 4000
  last : q.2.2.1.bulk ≤ 100000
  err : q.2.2.2.2 ≠ 0 → q.2.2.1 = zeroT
theorem normF_ok {rs : List (Term × Term)} (hr : sysP rs = 0) (st : Int) (t0 : Term) : ∀ (n : Nat) (t : Term) (acc : List (Int × List Int)), checkP t = 0 → (∀ s, s ∈ acc → s.2.length < 4000) → NormOk t0 (acc.length + n) (normF rs st t0 n t acc)
  | 0, t, acc, ht, ha => by
    have := check_small ht
    exact ⟨.inl rfl, Nat.le_refl _, ha, by show t.bulk ≤ _; omega, fun h => absurd rfl h⟩
  | n + 1, t, acc, ht, ha => by
    have hc := check_small ht
    cases hu : underP rs t st with
    | nil =>
      have e : normF rs st t0 (n + 1) t acc = (t0, acc, t, true, 0) := by simp [normF, hu]
      rw [e]
      exact ⟨.inl rfl, by simp, ha, by show t.bulk ≤ _; omega, fun h => absurd rfl h⟩
    | cons s r =>
      have hsm := step_len (under_mem (by rw [hu]; exact List.mem_cons_self : s ∈ underP rs t st))
      by_cases hd : (doE rs t s).2 = 0
      · have e : normF rs st t0 (n + 1) t acc = normF rs st t0 n (doE rs t s).1 (acc ++ [s]) := by simp [normF, hu, hd]
        have := normF_ok hr st t0 n (doE rs t s).1 (acc ++ [s]) (do_check hr ht hd) (fun x hx => by
          rcases List.mem_append.1 hx with hx | hx
          · exact ha x hx
          · rw [List.mem_singleton] at hx; subst hx; omega)
        rw [e]
        rw [show acc.length + (n + 1) = (acc ++ [s]).length + n by simp; omega]
        exact this
      · have e : normF rs st t0 (n + 1) t acc = (zeroT, [], zeroT, false, (doE rs t s).2) := by simp [normF, hu, hd]
        rw [e]
        exact ⟨.inr rfl, by simp, by simp, by simp [zeroT, Term.bulk_mk], fun _ => rfl⟩
theorem NormOk.ch {t0 : Term} {k : Nat} {q : Term × List (Int × List Int) × Term × Bool × Int} (h : NormOk t0 k q) (ht : t0.bulk ≤ 1099511627775) (hk : k ≤ 5000) : ChB (q.1, q.2.1) := by
  refine ⟨?_, by have := h.len; show q.2.1.length < _; omega, fun x hx => by have := h.pos x hx; omega⟩
  rcases h.start with e | e
  · show q.1.bulk ≤ _; rw [e]; exact ht
  · show q.1.bulk ≤ _; rw [e]; simp [zeroT, Term.bulk_mk]
theorem isP_self (t : Term) (e : Int) (h : e ≠ 0 → t = zeroT) : isP t e t e = true := by
  unfold isP
  split
  · rename_i h0; simp [h0]
  · rename_i h0; simp [h h0]
theorem isP_zero (e : Int) (h : e ≠ 0) (t : Term) : isP zeroT e t e = true := by
  unfold isP; rw [if_neg h]; simp
theorem chain0_ac (H : List AObj) : ACall Tryz.prog 13 [.agg [.str [], .bool false, .sl .none [], .sl .none []], .agg [.str [], .bool false, .sl .zero [], .sl .zero []]] H (fun r H' => r = .bool true ∧ H' = H) := by
  have e : encCh (zeroT, []) = .agg [.str [], .bool false, .sl .none [], .sl .none []] := by
    show AV.agg [.str zeroT.name, .bool zeroT.var, .sl .none (encTs zeroT.args), .sl .none (encL encSt [])] = _
    rw [zeroT_a]; rfl
  have h0 : ChB (zeroT, []) := ⟨by simp [zeroT, Term.bulk_mk], by simp, by simp⟩
  refine ACall.forget (args' := [encCh (zeroT, []), encCh (zeroT, [])]) ⟨by rw [e]; exact Forget.refl _, by rw [e]; exact fgtW_spec _ _ (by simp only [push_cast, Nat.reduceAdd, Nat.reduceSub, Nat.reduceMul, Nat.reduceLT, Nat.reduceLeDiff, Nat.reduceEqDiff, Int.reduceToNat, ↓reduceIte]), trivial⟩ ((sameChain_ac _ _ h0 h0 H).mono (by rintro r H' ⟨rfl, rfl⟩; exact ⟨by simp, rfl⟩))
theorem is40_ac (bad : Int) (hbad : bad ≠ 0) (t : Term) (ht : t.bulk ≤ 1099511627775) (H : List AObj) : ACall Tryz.prog 14 [.agg [.str [], .bool false, .sl .none []], .int .i64 bad, encT t, .int .i64 bad] H (fun r H' => r = .bool true ∧ H' = H) := by
  have e : encT zeroT = .agg [.str [], .bool false, .sl .none []] := by
    show AV.agg [.str zeroT.name, .bool zeroT.var, .sl .none (encTs zeroT.args)] = _
    rw [zeroT_a]; rfl
  rw [← e]
  exact (is4_ac zeroT bad t bad (by simp [zeroT, Term.bulk_mk]) ht H).mono (by rintro r H' ⟨rfl, rfl⟩; exact ⟨by rw [isP_zero bad hbad t], rfl⟩)
set_option maxHeartbeats 2000000 in
theorem normalizes_ac (rs : List (Term × Term)) (hlen : rs.length < 1099511627776) (hb : BndR rs) (t : Term) (ht : t.bulk ≤ 1099511627775) (st most : Int) (H : List AObj) :
    ACall Tryz.prog 3 [.sl .none (encL encRu rs), encT t, .agg [.int .i64 st, .int .i64 most]] H (fun r H' => r = .bool true ∧ H' = H) := by
  refine ACall_V (H.length) 93 [.tmp 6] Tryz.func3 rfl rfl rfl ?_
  simp only [push_cast, Nat.reduceAdd, Nat.reduceSub, Nat.reduceMul, Nat.reduceLT, Nat.reduceLeDiff, Nat.reduceEqDiff, Int.reduceToNat, ↓reduceIte]
  apply AW_drawE [some 17, some 18, some 19, some 20, some 7, some 8] [([], _)] [none, none, none, none, none, none] 0 [(0, [], [5]), (1, [], [17]), (2, [], [5]), (3, [], [19]), (4, [], [18]), (5, [], [20])] [_, _, _, _, _, _]
  case' hm => exact dr
  case' hn => rfl
  case' hok => rfl
  case' hlen => rfl
  case' hd => rfl
  case' h0 => rfl
  case' hstep =>
   simp only [DAllG, push_cast, Option.isSome_some, Option.isSome_none]
   repeat' apply And.intro
   all_goals (apply DOne_V; simp only [push_cast, Nat.reduceAdd, Nat.reduceSub, Nat.reduceMul, Nat.reduceLT, Nat.reduceLeDiff, Nat.reduceEqDiff, Int.reduceToNat, ↓reduceIte] <;> first | exact rfl | omega | exact ⟨rfl, rfl⟩ | exact trivial | exact ⟨by omega, rfl⟩ | exact ⟨by omega, by omega, rfl⟩ | exact ⟨by omega, rfl, rfl⟩ | exact ⟨by omega, by omega, rfl, rfl⟩ | exact ⟨by omega, by omega, rfl⟩)
  case' hQ => skip
  simp only [push_cast, Nat.reduceAdd, Nat.reduceSub, Nat.reduceMul, Nat.reduceLT, Nat.reduceLeDiff, Nat.reduceEqDiff, Int.reduceToNat, ↓reduceIte]
  refine (normalize_ac rs hlen hb t ht st most _).to ?_
  simp only [push_cast, Nat.reduceAdd, Nat.reduceSub, Nat.reduceMul, Nat.reduceLT, Nat.reduceLeDiff, Nat.reduceEqDiff, Int.reduceToNat, ↓reduceIte, encNE]
  refine (checkBR_ac rs hlen hb t ht _).to ?_
  by_cases hbo : bothP rs t = 0
  · have en : normalE rs t st most = if 1 ≤ st ∧ st ≤ 5 ∧ 0 ≤ most ∧ most ≤ 4096 then normF rs st t most.toNat t [] else (zeroT, [], zeroT, false, 2) := if_neg (by simpa using hbo)
    obtain ⟨h1, h2⟩ := both_ok hbo
    have k2 : ((2 : Int) = 0) = False := by decide
    by_cases hv : 1 ≤ st ∧ st ≤ 5 ∧ 0 ≤ most ∧ most ≤ 4096
    · rw [if_pos hv] at en
      have hc := check_small h2
      obtain ⟨m, hm⟩ : ∃ m : Nat, most = m := ⟨most.toNat, by omega⟩
      subst hm
      rw [Int.toNat_natCast] at en
      have hok := normF_ok h1 st t m t [] h2 (by simp)
      simp only [List.length_nil, Nat.zero_add] at hok
      rw [en]
      obtain ⟨q, hq⟩ : ∃ q, q = normF rs st t m t [] := ⟨_, rfl⟩
      rw [← hq] at hok ⊢
      have hch := hok.ch ht (by omega)
      simp only [push_cast, Nat.reduceAdd, Nat.reduceSub, Nat.reduceMul, Nat.reduceLT, Nat.reduceLeDiff, Nat.reduceEqDiff, Int.reduceToNat, ↓reduceIte, hbo]
      refine (strategyR_ac st _).to ?_
      simp only [push_cast, Nat.reduceAdd, Nat.reduceSub, Nat.reduceMul, Nat.reduceLT, Nat.reduceLeDiff, Nat.reduceEqDiff, Int.reduceToNat, ↓reduceIte]
      refine cI (fun _ => ?_) (fun h => absurd ⟨hv.1, hv.2.1⟩ h)
      refine cI (fun h => absurd h (by omega)) (fun _ => ?_)
      refine cI (fun h => absurd h (by omega)) (fun _ => ?_)
      refine (normalizeR_ac rs h1 t h2 st m (by omega) _).to ?_
      rw [← hq]
      simp only [push_cast, Nat.reduceAdd, Nat.reduceSub, Nat.reduceMul, Nat.reduceLT, Nat.reduceLeDiff, Nat.reduceEqDiff, Int.reduceToNat, ↓reduceIte, encNE]
      refine (sameChain_ac (q.1, q.2.1) (q.1, q.2.1) hch hch _).to ?_
      simp only [push_cast, Nat.reduceAdd, Nat.reduceSub, Nat.reduceMul, Nat.reduceLT, Nat.reduceLeDiff, Nat.reduceEqDiff, Int.reduceToNat, ↓reduceIte, decide_true]
      refine (is4_ac q.2.2.1 q.2.2.2.2 q.2.2.1 q.2.2.2.2 (by have := hok.last; omega) (by have := hok.last; omega) _).to ?_
      simp only [push_cast, Nat.reduceAdd, Nat.reduceSub, Nat.reduceMul, Nat.reduceLT, Nat.reduceLeDiff, Nat.reduceEqDiff, Int.reduceToNat, ↓reduceIte, isP_self q.2.2.1 q.2.2.2.2 hok.err, decide_true, beq_self_eq_true]
      refine (alive4_ac _).to ?_
      simp only [push_cast, Nat.reduceAdd, Nat.reduceSub, Nat.reduceMul, Nat.reduceLT, Nat.reduceLeDiff, Nat.reduceEqDiff, Int.reduceToNat, ↓reduceIte]
    · rw [if_neg hv] at en
      rw [en]
      simp only [push_cast, Nat.reduceAdd, Nat.reduceSub, Nat.reduceMul, Nat.reduceLT, Nat.reduceLeDiff, Nat.reduceEqDiff, Int.reduceToNat, ↓reduceIte, hbo]
      refine (strategyR_ac st _).to ?_
      simp only [push_cast, Nat.reduceAdd, Nat.reduceSub, Nat.reduceMul, Nat.reduceLT, Nat.reduceLeDiff, Nat.reduceEqDiff, Int.reduceToNat, ↓reduceIte, k2]
      refine cI (fun hs => ?_) (fun hs => ?_)
      · refine cI (fun hm => ?_) (fun hm => ?_)
        · refine (chain0_ac _).to ?_
          simp only [push_cast, Nat.reduceAdd, Nat.reduceSub, Nat.reduceMul, Nat.reduceLT, Nat.reduceLeDiff, Nat.reduceEqDiff, Int.reduceToNat, ↓reduceIte]
          refine (is40_ac 2 (by decide) t ht _).to ?_
          simp only [push_cast, Nat.reduceAdd, Nat.reduceSub, Nat.reduceMul, Nat.reduceLT, Nat.reduceLeDiff, Nat.reduceEqDiff, Int.reduceToNat, ↓reduceIte]
          refine (alive4_ac _).to ?_
          simp only [push_cast, Nat.reduceAdd, Nat.reduceSub, Nat.reduceMul, Nat.reduceLT, Nat.reduceLeDiff, Nat.reduceEqDiff, Int.reduceToNat, ↓reduceIte]
        · refine cI (fun hm2 => ?_) (fun hm2 => absurd ⟨hs.1, hs.2, by omega, by omega⟩ hv)
          refine (chain0_ac _).to ?_
          simp only [push_cast, Nat.reduceAdd, Nat.reduceSub, Nat.reduceMul, Nat.reduceLT, Nat.reduceLeDiff, Nat.reduceEqDiff, Int.reduceToNat, ↓reduceIte]
          refine (is40_ac 2 (by decide) t ht _).to ?_
          simp only [push_cast, Nat.reduceAdd, Nat.reduceSub, Nat.reduceMul, Nat.reduceLT, Nat.reduceLeDiff, Nat.reduceEqDiff, Int.reduceToNat, ↓reduceIte]
          refine (alive4_ac _).to ?_
          simp only [push_cast, Nat.reduceAdd, Nat.reduceSub, Nat.reduceMul, Nat.reduceLT, Nat.reduceLeDiff, Nat.reduceEqDiff, Int.reduceToNat, ↓reduceIte]
      · refine (chain0_ac _).to ?_
        simp only [push_cast, Nat.reduceAdd, Nat.reduceSub, Nat.reduceMul, Nat.reduceLT, Nat.reduceLeDiff, Nat.reduceEqDiff, Int.reduceToNat, ↓reduceIte]
        refine (is40_ac 2 (by decide) t ht _).to ?_
        simp only [push_cast, Nat.reduceAdd, Nat.reduceSub, Nat.reduceMul, Nat.reduceLT, Nat.reduceLeDiff, Nat.reduceEqDiff, Int.reduceToNat, ↓reduceIte]
        refine (alive4_ac _).to ?_
        simp only [push_cast, Nat.reduceAdd, Nat.reduceSub, Nat.reduceMul, Nat.reduceLT, Nat.reduceLeDiff, Nat.reduceEqDiff, Int.reduceToNat, ↓reduceIte]
  · have en : normalE rs t st most = (zeroT, [], zeroT, false, bothP rs t) := if_pos hbo
    rw [en]
    simp only [push_cast, Nat.reduceAdd, Nat.reduceSub, Nat.reduceMul, Nat.reduceLT, Nat.reduceLeDiff, Nat.reduceEqDiff, Int.reduceToNat, ↓reduceIte, hbo]
    refine (chain0_ac _).to ?_
    simp only [push_cast, Nat.reduceAdd, Nat.reduceSub, Nat.reduceMul, Nat.reduceLT, Nat.reduceLeDiff, Nat.reduceEqDiff, Int.reduceToNat, ↓reduceIte]
    refine (is40_ac (bothP rs t) hbo t ht _).to ?_
    simp only [push_cast, Nat.reduceAdd, Nat.reduceSub, Nat.reduceMul, Nat.reduceLT, Nat.reduceLeDiff, Nat.reduceEqDiff, Int.reduceToNat, ↓reduceIte]
    refine (alive4_ac _).to ?_
    simp only [push_cast, Nat.reduceAdd, Nat.reduceSub, Nat.reduceMul, Nat.reduceLT, Nat.reduceLeDiff, Nat.reduceEqDiff, Int.reduceToNat, ↓reduceIte]
end Ab
set_option maxRecDepth 10000
namespace Go.Proofs.YtgbmjnpbojcbdaaGreat
open Go Ab
namespace nrm
theorem own : ownKnob Tryz.prog.godebug = none := by kernel_rfl
theorem laid : laidOutB Tryz.prog = true := by kernel_rfl
theorem readable : ∀ t, t ∈ Tryz.f3.params.toList → Tryz.prog.readableRec t = true ∧ t < Tryz.prog.types.size := by
  rw [Tryz.params3]; intro t ht
  simp only [List.mem_cons, List.not_mem_nil, or_false] at ht
  rcases ht with rfl | rfl | rfl <;> exact ⟨by kernel_rfl, of_decide_eq_true (by kernel_rfl)⟩
theorem closed : closedK Tryz.prog [22, 80, 25, 9, 4, 23, 26, 3] = true := by kernel_rfl
theorem contract (H : Type) (enc : TypeId × Value → H) (W : World) (base : Nat) (args : Array Value) (ds gs : List (DataW H)) (before : List MemPlace)
    (hval : ∀ (j : Nat) t v, Tryz.f3.params[j]? = some t → args[j]? = some v → Value.okWide Tryz.prog W .any base t v)
    (hW : DataW.Whole enc Tryz.prog Tryz.f3.params.toList Rows.rewriteNormalizesSpec.vars false W args.toList ds gs before) (hk : Rows.uptoSmall H (ds ++ gs) = true) :
    Calls Tryz.prog 3 args W fun e W' => ∃ v, e = .returned v ∧ Rows.rewriteNormalizesSpec.post enc Tryz.prog Tryz.f3 false true false false W args v W' := by
  have hW' := hW
  obtain ⟨p, q, hA0, hV, rfl, hfz, hnd⟩ := hW
  have hA : DataW.TrodAll enc Tryz.prog W 0 (fun _ => true) true Tryz.f3.params.toList args.toList ds p := hA0
  rw [Tryz.params3] at hA hval
  obtain ⟨v0, vs0, d0, ds0, p0, q0, hargs, rfl, rfl, h0, r0⟩ := ChangeShapes.trodAll_cons hA
  obtain ⟨v1, vs1, d1, ds1, p1, q1, rfl, rfl, rfl, h1, r1⟩ := ChangeShapes.trodAll_cons r0
  obtain ⟨v2, vs2, d2, ds2, p2, q2, rfl, rfl, rfl, h2, r2⟩ := ChangeShapes.trodAll_cons r1
  obtain ⟨rfl, rfl, rfl⟩ := ChangeShapes.trodAll_nil r2
  obtain rfl : args = #[v0, v1, v2] := by cases args; simp_all
  have hg : gs = [] := by cases gs with | nil => rfl | cons _ _ => exact hV.elim
  subst hg
  have hb : Rows.uptoBulk d0 + Rows.uptoBulk d1 + Rows.uptoBulk d2 ≤ 1048576 := by
    have := of_decide_eq_true hk
    simp only [List.cons_append, List.nil_append, List.append_nil, Rows.uptoBulkAll] at this
    omega
  obtain ⟨n0, a0, e0, x0⟩ := arg_slice closed (by decide) Tryz.underlying22 (hval 0 _ v0 rfl rfl) h0
  obtain ⟨n1, a1, e1, x1⟩ := arg_struct closed (by decide) Tryz.underlying25 (hval 1 _ v1 rfl rfl) h1
  obtain ⟨n2, a2, e2, x2⟩ := arg_array closed (by decide) Tryz.underlying26 (hval 2 _ v2 rfl rfl) h2
  obtain ⟨rs, f0, b0, c0⟩ := rules_form n0 d0 [a0] e0
  obtain ⟨t, f1, b1⟩ := term_form n1 d1 a1 e1
  obtain ⟨st, most, f2⟩ := i2_form n2 d2 a2 e2
  try simp only [List.cons.injEq, and_true] at f0
  rw [f0] at x0; rw [f1] at x1; rw [f2] at x2
  have hc := law_calls (args := #[v0, v1, v2]) (avs := [.sl .none (encL encRu rs), encT t, .agg [.int .i64 st, .int .i64 most]]) (W := W) (normalizes_ac rs (by omega) (fun r hr => by have := c0 r hr; omega) t (by omega) st most []) (fun h => by simp [tabOn] at h) rfl (fun i hi hi' => by
    match i, hi with
    | 0, _ => exact x0
    | 1, _ => exact x1
    | 2, _ => exact x2)
  refine hc.mono fun e W' ⟨he, hbl⟩ => ?_
  subst he
  exact ⟨_, rfl, post_law rfl ⟨rfl, rfl, rfl⟩ hW' hbl rfl Tryz.underlying4 laid readable⟩
set_option maxRecDepth 100000 in
theorem lifted (os : Os) (started : os.Started) (H : Type) (enc : TypeId × Value → H) (F : Stop.Interp) :
    ReturnsInHanded {} Tryz.checked os 3 .any ((Rows.OpenSpec.upto Rows.rewriteNormalizesSpec).pre6 enc Tryz.prog Tryz.f3 Rows.rewriteNormalizesUptoRow.domain false) (((Rows.OpenSpec.upto Rows.rewriteNormalizesSpec).at F).post enc Tryz.prog Tryz.f3 false true false false) := by
  refine returnsInHanded_of_cond (C := Tryz.checked) (s := Rows.OpenSpec.upto Rows.rewriteNormalizesSpec) (k := Rows.uptoSmall) rfl own started (by kernel_rfl) Tryz.func3
    (OpenSpec.witness (enc := enc) (C := Tryz.checked) (s := Rows.OpenSpec.upto Rows.rewriteNormalizesSpec) (k := Rows.uptoSmall) rfl false
      ⟨#[], #[.slice none 0 0, .agg #[.string ⟨#[]⟩, .bool false, .slice none 0 0], .agg #[.int .i64 0, .int .i64 0]], []⟩ 8 (by kernel_rfl) (by kernel_rfl) (by kernel_rfl)
      (x := ([.nil, .agg [.lit (.string []), .lit (.bool false), .nil], .agg [.lit (.int .i64 0), .lit (.int .i64 0)]], [], [])) (by kernel_rfl) rfl (by kernel_rfl)) ?_
  intro W base args ds gs before hval hW _ hk _
  exact contract H enc W base args ds gs before hval hW hk
theorem over : Rows.rewriteNormalizesUptoRow.holds Tryz.pinned (Rows.OpenSpec.upto Rows.rewriteNormalizesSpec) :=
  OpenClaim.holds_of_cond 3 Tryz.f3 rfl rfl rfl rfl rfl rfl rfl ⟨rfl, rfl, rfl, rfl, rfl⟩ rfl rfl rfl rfl rfl (by kernel_rfl) Tryz.func3 (by kernel_rfl)
    (of_decide_eq_true (by kernel_rfl)) (by unfold Func.isWrapper; first | (rw [if_pos (by decide +kernel)]; kernel_rfl) | (rw [if_neg (by decide +kernel)]; exact ⟨rfl, rfl⟩))
    (fun os started H enc _ F => lifted os started H enc F)
end nrm
theorem rewriteNormalizes_upto : Rows.RewriteNormalizesUptoSaid := nrm.over
end Go.Proofs.YtgbmjnpbojcbdaaGreat
