/- Part 5 of 5 of a proof. Performing steps at parallel positions one after the other, in any order, has the same result as performing them at once, unless an intermediate term is too large. -/
import Derived.Test.YtgbmjnpbojcbdaaGreatRd4
set_option linter.unusedVariables false
set_option linter.unusedSimpArgs false
namespace Ab
open Go Go.Proofs
theorem step_some {n : List UInt8} {v : Bool} {xs : List Term} {i : Int} {p : List Int} {y : Term} (h : atP (.mk n v xs) (i :: p) = some y) : ∃ hi : 0 ≤ i ∧ i.toNat < xs.length, atP (xs[i.toNat]'hi.2) p = some y := by
  simp only [atP] at h
  split at h
  · rename_i hi; exact ⟨hi, h⟩
  · cases h
theorem step_put (n : List UInt8) (v : Bool) (xs : List Term) (i : Int) (p : List Int) (x : Term) (h : i.toNat < xs.length) : putP (.mk n v xs) (i :: p) x = .mk n false (xs.set i.toNat (putP (xs[i.toNat]'h) p x)) := by
  simp [putP, List.getD_eq_getElem?_getD, List.getElem?_eq_getElem h]
theorem place_at (n : List UInt8) (v : Bool) (xs : List Term) (i : Int) (p : List Int) (h : 0 ≤ i ∧ i.toNat < xs.length) : atP (.mk n v xs) (i :: p) = atP (xs[i.toNat]'h.2) p := by
  simp only [atP]; exact dif_pos h
theorem at_put : ∀ (p : List Int) (t x y : Term), atP t p = some y → atP (putP t p x) p = some x
  | [], t, x, y, _ => by cases t; rfl
  | i :: p, .mk n v xs, x, y, h => by
    obtain ⟨hi, h⟩ := step_some h
    rw [step_put _ _ _ _ _ _ hi.2, place_at _ _ _ _ _ ⟨hi.1, by simpa using hi.2⟩]
    simp only [List.getElem_set_self]
    exact at_put p _ x y h
theorem put_formed : ∀ (p : List Int) (t x y : Term), atP t p = some y → formedP t = true → formedP x = true → formedP (putP t p x) = true
  | [], t, x, y, _, _, hx => by cases t; exact hx
  | i :: p, .mk n v xs, x, y, h, hf, hx => by
    have hv := at_var h (by simp) hf
    obtain ⟨hi, ha⟩ := step_some h
    simp only [Term.var_mk] at hv
    subst hv
    rw [step_put _ _ _ _ _ _ hi.2]
    rw [formedP_mk] at hf ⊢
    simp only [Bool.false_eq_true, if_false, Bool.and_eq_true, decide_eq_true_eq, List.all_eq_true, List.length_set] at hf ⊢
    refine ⟨hf.1, fun z hz => ?_⟩
    rcases List.mem_or_eq_of_mem_set hz with hz | rfl
    · exact hf.2 _ hz
    · exact put_formed p _ x y ha (hf.2 _ (List.getElem_mem _)) hx
theorem par_at : ∀ (p o : List Int) (t x y : Term), parP p o = true → atP t p = some y → atP (putP t p x) o = atP t o
  | [], o, t, x, y, hp, _ => by simp [parP] at hp
  | _ :: _, [], t, x, y, hp, _ => by simp [parP] at hp
  | i :: p, j :: o, .mk n v xs, x, y, hp, h => by
    obtain ⟨hi, h⟩ := step_some h
    rw [step_put _ _ _ _ _ _ hi.2]
    simp only [parP] at hp
    by_cases hj : 0 ≤ j ∧ j.toNat < xs.length
    · rw [place_at _ _ _ _ _ hj, place_at _ _ _ _ _ ⟨hj.1, by simpa using hj.2⟩]
      by_cases e : i = j
      · subst e
        rw [if_pos rfl] at hp
        simp only [List.getElem_set_self]
        exact par_at p o _ x y hp h
      · rw [List.getElem_set_ne (by omega)]
    · simp only [atP]
      rw [dif_neg hj, dif_neg (by simpa using hj)]
theorem par_put : ∀ (p o : List Int) (t x y u v : Term), parP p o = true → atP t p = some u → atP t o = some v → putP (putP t p x) o y = putP (putP t o y) p x
  | [], o, t, x, y, u, v, hp, _, _ => by simp [parP] at hp
  | _ :: _, [], t, x, y, u, v, hp, _, _ => by simp [parP] at hp
  | i :: p, j :: o, .mk n w xs, x, y, u, v, hp, h, h' => by
    obtain ⟨hi, h⟩ := step_some h
    obtain ⟨hj, h'⟩ := step_some h'
    rw [step_put _ _ _ _ _ _ hi.2, step_put _ _ _ _ _ _ hj.2, step_put _ _ _ _ _ _ (by simpa using hj.2), step_put _ _ _ _ _ _ (by simpa using hi.2)]
    simp only [parP] at hp
    by_cases e : i = j
    · subst e
      rw [if_pos rfl] at hp
      simp only [List.getElem_set_self, List.set_set]
      rw [par_put p o _ x y u v hp h h']
    · have hne : i.toNat ≠ j.toNat := by omega
      rw [List.getElem_set_ne hne, List.getElem_set_ne (Ne.symm hne), List.set_comm _ _ hne]
theorem par_symm : ∀ (p o : List Int), parP p o = true → parP o p = true
  | [], o, h => by simp [parP] at h
  | _ :: _, [], h => by simp [parP] at h
  | i :: p, j :: o, h => by
    simp only [parP] at h ⊢
    by_cases e : i = j
    · subst e; rw [if_pos rfl] at h ⊢; exact par_symm p o h
    · rw [if_neg (Ne.symm e)]
end Ab
set_option maxRecDepth 10000
namespace Ab
open Go Go.Proofs
def normF (rs : List (Term × Term)) (st : Int) (t0 : Term) : Nat → Term → List (Int × List Int) → Term × List (Int × List Int) × Term × Bool × Int
  | 0, t, acc => (t0, acc, t, decide (underP rs t st = []), 0)
  | n + 1, t, acc => match underP rs t st with
    | [] => (t0, acc, t, true, 0)
    | s :: _ => if (doE rs t s).2 = 0 then normF rs st t0 n (doE rs t s).1 (acc ++ [s]) else (zeroT, [], zeroT, false, (doE rs t s).2)
def encNE (q : Term × List (Int × List Int) × Term × Bool × Int) : AV := .tup [.agg [.str q.1.name, .bool q.1.var, .sl .none (encTs q.1.args), .sl .none (encL encSt q.2.1)], encT q.2.2.1, .bool q.2.2.2.1, .int .i64 q.2.2.2.2]
def normalE (rs : List (Term × Term)) (t : Term) (st most : Int) : Term × List (Int × List Int) × Term × Bool × Int :=
  if bothP rs t ≠ 0 then (zeroT, [], zeroT, false, bothP rs t) else if 1 ≤ st ∧ st ≤ 5 ∧ 0 ≤ most ∧ most ≤ 4096 then normF rs st t most.toNat t [] else (zeroT, [], zeroT, false, 2)
theorem do_check {rs : List (Term × Term)} {t : Term} {s : Int × List Int} (hr : sysP rs = 0) (ht : checkP t = 0) (h : (doE rs t s).2 = 0) : checkP (doE rs t s).1 = 0 := by
  obtain ⟨_, hck, _⟩ := sys_B hr
  unfold doE at h ⊢
  by_cases hf : (findE rs t s).2 ≠ 0
  · rw [if_pos hf] at h; exact absurd h hf
  · rw [if_neg hf] at h ⊢
    have hf : (findE rs t s).2 = 0 := by simpa using hf
    obtain ⟨x, hfo⟩ := find_ok hf
    by_cases h2 : fitsP (rhsP rs t s) = true ∧ fitsP (putP t s.2 (rhsP rs t s)) = true
    · rw [if_pos h2] at h ⊢
      refine (check_iff _).2 ⟨?_, h2.2⟩
      refine put_formed _ _ _ _ hfo.at' ((check_iff _).1 ht).1 ?_
      refine formed_apply _ (fun b hb => ?_) _ ((check_iff _).1 (hck _ hfo.mem).2).1
      exact (((hfo.subOk).1.sub b hb).formed ((at_sub _ _ _ hfo.at').formed ((check_iff _).1 ht).1))
    · rw [if_neg h2] at h; cases h
theorem under_mem {rs : List (Term × Term)} {t : Term} {st : Int} {s : Int × List Int} (h : s ∈ underP rs t st) : s ∈ allS rs t := by
  rw [under_eq] at h
  unfold redR at h
  split at h
  · have : s ∈ (allS rs t).filter (keepP (allS rs t) st) := by
      cases hq : (allS rs t).filter (keepP (allS rs t) st) with
      | nil => rw [hq] at h; simp [firstS] at h
      | cons a r =>
        rw [hq] at h
        simp only [firstS, List.mem_cons] at h ⊢
        rcases h with h | h
        · exact .inl h
        · exact .inr ((List.takeWhile_sublist _).subset h)
    exact (List.mem_filter.1 this).1
  · exact (List.mem_filter.1 h).1
theorem normalize_ac (rs : List (Term × Term)) (hlen : rs.length < 1099511627776) (hb : BndR rs) (t : Term) (ht : t.bulk ≤ 1099511627775) (st most : Int) (H : List AObj) :
    ACall Tryz.prog 10 [.sl .none (encL encRu rs), encT t, .int .i64 st, .int .i64 most] H (fun r H' => r = encNE (normalE rs t st most) ∧ H' = H) := by
  refine ACall_VA (H.length) 79 [.cell 8 29, .cell 9 25, .tmp 10, .tmp 11] Tryz.func10 rfl rfl rfl ?_
  refine AW_reserve 1 ?_
  refine AW_of_W ?_
  simp only [push_cast, Nat.reduceAdd, Nat.reduceSub, Nat.reduceMul, Nat.reduceLT, Nat.reduceLeDiff, Nat.reduceEqDiff, Int.reduceToNat, ↓reduceIte]
  refine (both_ac rs hlen hb t ht _).to ?_
  simp only [push_cast, Nat.reduceAdd, Nat.reduceSub, Nat.reduceMul, Nat.reduceLT, Nat.reduceLeDiff, Nat.reduceEqDiff, Int.reduceToNat, ↓reduceIte]
  refine cI (fun h => ?_) (fun h => ?_)
  · obtain ⟨h1, h2⟩ := both_ok h
    have en : normalE rs t st most = if 1 ≤ st ∧ st ≤ 5 ∧ 0 ≤ most ∧ most ≤ 4096 then normF rs st t most.toNat t [] else (zeroT, [], zeroT, false, 2) := if_neg (by simpa using h)
    refine (strategic_ac st _).to ?_
    simp only [push_cast, Nat.reduceAdd, Nat.reduceSub, Nat.reduceMul, Nat.reduceLT, Nat.reduceLeDiff, Nat.reduceEqDiff, Int.reduceToNat, ↓reduceIte]
    have bad : ¬ (1 ≤ st ∧ st ≤ 5 ∧ 0 ≤ most ∧ most ≤ 4096) → normalE rs t st most = (zeroT, [], zeroT, false, 2) := fun h => en.trans (if_neg h)
    refine cI (fun hs1 => ?_) (fun hs1 => ?_)
    · refine cI (fun hm1 => ?_) (fun hm1 => ?_)
      · simp only [push_cast, Nat.reduceAdd, Nat.reduceSub, Nat.reduceMul, Nat.reduceLT, Nat.reduceLeDiff, Nat.reduceEqDiff, Int.reduceToNat, ↓reduceIte, bad (by omega), encNE, encL_nil]
      · refine cI (fun hm2 => ?_) (fun hm2 => ?_)
        · simp only [push_cast, Nat.reduceAdd, Nat.reduceSub, Nat.reduceMul, Nat.reduceLT, Nat.reduceLeDiff, Nat.reduceEqDiff, Int.reduceToNat, ↓reduceIte, bad (by omega), encNE, encL_nil]
        · have e : normalE rs t st most = normF rs st t most.toNat t [] := en.trans (if_pos (by omega))
          rw [e]
          refine (own_ac t ht _).to ?_
          simp only [push_cast, Nat.reduceAdd, Nat.reduceSub, Nat.reduceMul, Nat.reduceLT, Nat.reduceLeDiff, Nat.reduceEqDiff, Int.reduceToNat, ↓reduceIte]
          refine (own_ac t ht _).to ?_
          simp only [push_cast, Nat.reduceAdd, Nat.reduceSub, Nat.reduceMul, Nat.reduceLT, Nat.reduceLeDiff, Nat.reduceEqDiff, Int.reduceToNat, ↓reduceIte]
          obtain ⟨m, hm⟩ : ∃ m : Nat, m = most.toNat := ⟨_, rfl⟩
          have hmi : most = (m : Int) := by omega
          subst hmi
          rw [Int.toNat_natCast]
          refine AW_loopW (maskG 83 [0, 1, 0, 1, 2, 0, 3]) (fun (_ : Nat × Term × List (Int × List Int)) => []) (fun q => H ++ [gTok 48 2 (encL encSt q.2.2), .cells [.str q.2.1.name, .bool q.2.1.var, .sl .none (encTs q.2.1.args)], .cells [.str [], .bool false, .sl .zero [], .sl .zero []], .cells [.str [], .bool false, .sl .zero []], .cells [.str t.name, .bool t.var, .sl .none (encTs t.args), gSl H.length (encL encSt q.2.2)]]) (fun q => checkP q.2.1 = 0 ∧ q.2.2.length + q.1 = m ∧ normF rs st t m t [] = normF rs st t q.1 q.2.1 q.2.2) (fun q => q.1) (m, t, []) ⟨h2, by simp, rfl⟩ (by simp only [push_cast, Nat.reduceAdd, Nat.reduceSub, Nat.reduceMul, Nat.reduceLT, Nat.reduceLeDiff, Nat.reduceEqDiff, Int.reduceToNat, ↓reduceIte, encL_nil]) (fun q hq => ?_)
          obtain ⟨n, u, acc⟩ := q
          obtain ⟨q1, q2, q3⟩ := hq
          simp only at q1 q2 q3
          have hB := (sys_B h1).1
          have huc := check_small q1
          obtain ⟨tk, htk⟩ := gSl_ex H.length (encL encSt acc)
          simp only [push_cast, Nat.reduceAdd, Nat.reduceSub, Nat.reduceMul, Nat.reduceLT, Nat.reduceLeDiff, Nat.reduceEqDiff, Int.reduceToNat, ↓reduceIte]
          refine (under_ac rs hB u (by omega) st _).to ?_
          simp only [push_cast, Nat.reduceAdd, Nat.reduceSub, Nat.reduceMul, Nat.reduceLT, Nat.reduceLeDiff, Nat.reduceEqDiff, Int.reduceToNat, ↓reduceIte]
          rw [q3]
          cases hu : underP rs u st with
          | nil =>
            have ef : normF rs st t n u acc = (t, acc, u, true, 0) := by cases n <;> simp [normF, hu]
            rw [ef]
            refine cI (fun _ => ?_) (fun h => absurd rfl h)
            apply AW_drawE [some 56, some 57, some 58, some 59, some 60, none, none, some 10, some 11] [([false, false], _), ([true, false], _), ([true, true], _)] [none, none, none, none, none, some 0, some 1, none, none] 2 [(0, [false, false], [13]), (1, [false, false], [5]), (2, [false, false], [14]), (3, [false, false], [58]), (4, [false, false], [59]), (5, [false, false], [8, 47]), (6, [true, false], [9, 47]), (7, [true, true], [60]), (8, [true, true], []), (1, [true, false], [5]), (2, [true, false], [14]), (2, [true, true], [14]), (3, [true, false], [58]), (3, [true, true], [58]), (4, [true, false], [59]), (4, [true, true], [59])] [_, _, _, _, _, _, _, _, _]
            case' hm => exact dr
            case' hn => rfl
            case' hok => rfl
            case' hlen => rfl
            case' hd => rfl
            case' h0 => rfl
            case' hstep =>
             simp only [DAllG, push_cast, Option.isSome_some, Option.isSome_none]
             repeat' apply And.intro
             all_goals (apply DOne_V; simp only [push_cast, Nat.reduceAdd, Nat.reduceSub, Nat.reduceMul, Nat.reduceLT, Nat.reduceLeDiff, Nat.reduceEqDiff, Int.reduceToNat, ↓reduceIte] <;> first | exact rfl | omega | exact ⟨rfl, rfl⟩ | exact trivial | exact ⟨by omega, rfl⟩ | exact ⟨by omega, by omega, rfl⟩ | exact ⟨by omega, rfl, rfl⟩ | exact ⟨by omega, by omega, rfl, rfl⟩ | skip)
            case' hQ => skip
            simp only [push_cast, Nat.reduceAdd, Nat.reduceSub, Nat.reduceMul, Nat.reduceLT, Nat.reduceLeDiff, Nat.reduceEqDiff, Int.reduceToNat, ↓reduceIte, encNE]
          | cons s r =>
            refine cI (fun h => absurd h (by simp; omega)) (fun _ => ?_)
            rw [htk]
            simp only [push_cast, Nat.reduceAdd, Nat.reduceSub, Nat.reduceMul, Nat.reduceLT, Nat.reduceLeDiff, Nat.reduceEqDiff, Int.reduceToNat, ↓reduceIte]
            rw [← htk]
            refine cI (fun hl => ?_) (fun hl => ?_)
            · have hn0 : n = 0 := by omega
              subst hn0
              have ef : normF rs st t 0 u acc = (t, acc, u, false, 0) := by simp [normF, hu]
              rw [ef]
              apply AW_drawE [some 56, some 57, some 58, some 59, some 60, none, none, some 10, some 11] [([false, false], _), ([true, false], _), ([true, true], _)] [none, none, none, none, none, some 0, some 1, none, none] 2 [(0, [false, false], [13]), (1, [false, false], [5]), (2, [false, false], [14]), (3, [false, false], [58]), (4, [false, false], [59]), (5, [false, false], [8, 47]), (6, [true, false], [9, 47]), (7, [true, true], [60]), (8, [true, true], []), (1, [true, false], [5]), (2, [true, false], [14]), (2, [true, true], [14]), (3, [true, false], [58]), (3, [true, true], [58]), (4, [true, false], [59]), (4, [true, true], [59])] [_, _, _, _, _, _, _, _, _]
              case' hm => exact dr
              case' hn => rfl
              case' hok => rfl
              case' hlen => rfl
              case' hd => rfl
              case' h0 => rfl
              case' hstep =>
               simp only [DAllG, push_cast, Option.isSome_some, Option.isSome_none]
               repeat' apply And.intro
               all_goals (apply DOne_V; simp only [push_cast, Nat.reduceAdd, Nat.reduceSub, Nat.reduceMul, Nat.reduceLT, Nat.reduceLeDiff, Nat.reduceEqDiff, Int.reduceToNat, ↓reduceIte] <;> first | exact rfl | omega | exact ⟨rfl, rfl⟩ | exact trivial | exact ⟨by omega, rfl⟩ | exact ⟨by omega, by omega, rfl⟩ | exact ⟨by omega, rfl, rfl⟩ | exact ⟨by omega, by omega, rfl, rfl⟩ | skip)
              case' hQ => skip
              simp only [push_cast, Nat.reduceAdd, Nat.reduceSub, Nat.reduceMul, Nat.reduceLT, Nat.reduceLeDiff, Nat.reduceEqDiff, Int.reduceToNat, ↓reduceIte, encNE]
              omega
            · obtain ⟨n, rfl⟩ : ∃ n', n = n' + 1 := ⟨n - 1, by omega⟩
              have hsm := step_len (under_mem (by rw [hu]; exact List.mem_cons_self : s ∈ underP rs u st))
              have hdc := fun h => do_check (s := s) h1 q1 h
              apply AW_drawE [some 62, some 63, some 64, some 65, some 66, some 67, some 61, some 68, some 69, none, some 15] [([false], _), ([true], _)] [none, none, none, none, none, none, none, none, none, some 0, none] 1 [(0, [false], [0]), (1, [false], [5]), (2, [false], [14]), (3, [false], [64]), (4, [false], [65]), (5, [false], [62, 0, 2]), (6, [false], [67]), (7, [false], [61]), (8, [false], [61]), (9, [false], [5, 62]), (10, [true], [69]), (8, [true], [61])] [_, _, _, _, _, _, _, _, _, _, _]
              case' hm => exact dr
              case' hn => rfl
              case' hok => rfl
              case' hlen => rfl
              case' hd => rfl
              case' h0 => rfl
              case' hstep =>
               simp only [DAllG, push_cast, Option.isSome_some, Option.isSome_none]
               repeat' apply And.intro
               all_goals (apply DOne_V; simp only [push_cast, Nat.reduceAdd, Nat.reduceSub, Nat.reduceMul, Nat.reduceLT, Nat.reduceLeDiff, Nat.reduceEqDiff, Int.reduceToNat, ↓reduceIte] <;> first | exact rfl | omega | exact ⟨rfl, rfl⟩ | exact trivial | exact ⟨by omega, rfl⟩ | exact ⟨by omega, by omega, rfl⟩ | exact ⟨by omega, rfl, rfl⟩ | exact ⟨by omega, by omega, rfl, rfl⟩ | exact (do_ac rs h1 u q1 s (by omega) _).to ⟨rfl, rfl⟩)
              case' hQ => skip
              simp only [push_cast, Nat.reduceAdd, Nat.reduceSub, Nat.reduceMul, Nat.reduceLT, Nat.reduceLeDiff, Nat.reduceEqDiff, Int.reduceToNat, ↓reduceIte]
              refine cI (fun hd => ?_) (fun hd => ?_)
              · have ef : normF rs st t (n + 1) u acc = normF rs st t n (doE rs u s).1 (acc ++ [s]) := by simp [normF, hu, hd]
                have hac : acc.length < 5000 := by omega
                apply AW_drawE [some 75, some 76, some 77, some 78, some 79, some 80, some 81, some 82, none] [([false, false], _), ([true, false], _), ([true, true], _)] [none, none, none, none, none, none, some 0, none, some 1] 2 [(0, [false, false], [13]), (1, [false, false], [75]), (2, [false, false], [14]), (3, [false, false], [77]), (4, [false, false], [78]), (5, [false, false], [79]), (6, [false, false], [76, 3]), (7, [true, false], [13]), (8, [true, false], [81, 0]), (0, [true, false], [13]), (2, [true, false], [14]), (3, [true, false], [77]), (4, [true, false], [78])] [_, _, _, _, _, _, _, _, _]
                case' hm => exact dr
                case' hn => rfl
                case' hok => rfl
                case' hlen => rfl
                case' hd => rfl
                case' h0 => rfl
                case' hstep =>
                 simp only [DAllG, push_cast, Option.isSome_some, Option.isSome_none]
                 repeat' apply And.intro
                 all_goals (apply DOne_V; simp only [push_cast, Nat.reduceAdd, Nat.reduceSub, Nat.reduceMul, Nat.reduceLT, Nat.reduceLeDiff, Nat.reduceEqDiff, Int.reduceToNat, ↓reduceIte] <;> first | exact rfl | omega | exact ⟨rfl, rfl⟩ | exact trivial | exact ⟨by omega, rfl⟩ | exact ⟨by omega, by omega, rfl⟩ | exact ⟨by omega, rfl, rfl⟩ | exact ⟨by omega, by omega, rfl, rfl⟩ | (refine app1_L encSt (sz := 2) (fun _ => rfl) cellSt _ H.length acc s _ rfl rfl (by exact aget0 _ _ _) sl27 sz48 by48 zr48 rfl (by decide) (by decide) (by omega) ?_; simp only [push_cast, Nat.reduceAdd, Nat.reduceSub, Nat.reduceMul, Nat.reduceLT, Nat.reduceLeDiff, Nat.reduceEqDiff, Int.reduceToNat, ↓reduceIte]; exact ⟨rfl, rfl⟩) | exact ⟨by omega, by simp, trivial⟩)
                case' hQ => skip
                simp only [push_cast, Nat.reduceAdd, Nat.reduceSub, Nat.reduceMul, Nat.reduceLT, Nat.reduceLeDiff, Nat.reduceEqDiff, Int.reduceToNat, ↓reduceIte]
                exact loopW_n (n, (doE rs u s).1, acc ++ [s]) ⟨hdc hd, by simp; omega, ef⟩ (by simp) (by simp only [push_cast, Nat.reduceAdd, Nat.reduceSub, Nat.reduceMul, Nat.reduceLT, Nat.reduceLeDiff, Nat.reduceEqDiff, Int.reduceToNat, ↓reduceIte])
              · have ef : normF rs st t (n + 1) u acc = (zeroT, [], zeroT, false, (doE rs u s).2) := by simp [normF, hu, hd]
                rw [ef]
                simp only [push_cast, Nat.reduceAdd, Nat.reduceSub, Nat.reduceMul, Nat.reduceLT, Nat.reduceLeDiff, Nat.reduceEqDiff, Int.reduceToNat, ↓reduceIte, encNE, encL_nil]
    · simp only [push_cast, Nat.reduceAdd, Nat.reduceSub, Nat.reduceMul, Nat.reduceLT, Nat.reduceLeDiff, Nat.reduceEqDiff, Int.reduceToNat, ↓reduceIte, bad (by omega), encNE, encL_nil]
  · have e : normalE rs t st most = (zeroT, [], zeroT, false, bothP rs t) := if_pos h
    simp only [push_cast, Nat.reduceAdd, Nat.reduceSub, Nat.reduceMul, Nat.reduceLT, Nat.reduceLeDiff, Nat.reduceEqDiff, Int.reduceToNat, ↓reduceIte, e, encNE, encL_nil]
end Ab
set_option maxRecDepth 10000
namespace Ab
open Go Go.Proofs
section
variable {P : Program} {ro : Option Nat} {st : ASt} {dst : Option Tmp} {ty : TypeId} {pos : String} {after : Array Edge} {guard : Option (Nat × Bool)} {K : AV → List AObj → Prop}
end
theorem osc_itAi (n m ver : Nat) (l : List (List UInt8 × Nat)) (a : List UInt8) (b : Nat) (h : m < n) : OScoped n (.iter m ver (sA l) (some (.str a, .int .i64 (b : Nat)))) = True := osc_itA n m ver l (some (a, b)) h
attribute [push_cast] osc_itAi
end Ab
set_option maxRecDepth 10000
namespace Ab
open Go Go.Proofs
theorem do_alt {rs : List (Term × Term)} {t : Term} {s : Int × List Int} : doE rs t s = if (findE rs t s).2 ≠ 0 then (zeroT, (findE rs t s).2) else if fitsP (putP t s.2 (rhsP rs t s)) = true then (putP t s.2 (rhsP rs t s), 0) else (zeroT, 3) := by
  unfold doE
  by_cases h : (findE rs t s).2 ≠ 0
  · rw [if_pos h, if_pos h]
  · rw [if_neg h, if_neg h]
    obtain ⟨x, hf⟩ := find_ok (by simpa using h)
    by_cases h2 : fitsP (putP t s.2 (rhsP rs t s)) = true
    · have hs := (at_sub _ _ _ (at_put _ _ (rhsP rs t s) _ hf.at')).sizes
      have h1 : fitsP (rhsP rs t s) = true := by
        unfold fitsP at h2 ⊢
        rw [Bool.and_eq_true, decide_eq_true_eq, decide_eq_true_eq] at h2 ⊢
        omega
      rw [if_pos ⟨h1, h2⟩, if_pos h2]
    · rw [if_neg h2, if_neg (fun h => h2 h.2)]
end Ab
set_option maxRecDepth 10000
namespace Ab
open Go Go.Proofs
abbrev StepP := Int × List Int
def pfx (p q : List Int) : Bool := decide (q.length ≤ p.length) && decide (p.take q.length = q)
theorem pfx_nil (p : List Int) : pfx p [] = true := by simp [pfx]
theorem pfx_nil' (i : Int) (q : List Int) : pfx [] (i :: q) = false := by simp [pfx]
theorem pfx_cons (i j : Int) (p q : List Int) : pfx (i :: p) (j :: q) = (decide (i = j) && pfx p q) := by
  unfold pfx
  by_cases e : i = j
  · subst e; simp
  · simp [e]
theorem par_pfx : ∀ p q : List Int, parP p q = (!pfx p q && !pfx q p)
  | [], [] => by simp [parP, pfx]
  | [], j :: q => by rw [pfx_nil', pfx_nil]; simp [parP]
  | i :: p, [] => by rw [pfx_nil', pfx_nil]; simp [parP]
  | i :: p, j :: q => by
    have ih := par_pfx p q
    rw [pfx_cons, pfx_cons]
    simp only [parP]
    by_cases e : i = j
    · subst e; rw [if_pos rfl, ih]; simp
    · rw [if_neg e]; simp [e, Ne.symm e]
def ParL (l : List StepP) : Prop := l.Pairwise fun a b => parP a.2 b.2 = true
instance (l : List StepP) : Decidable (ParL l) := inferInstanceAs (Decidable (l.Pairwise _))
theorem ParL.get {l : List StepP} (h : ParL l) {i j : Nat} (hi : i < l.length) (hj : j < l.length) (hne : i ≠ j) : parP l[i].2 l[j].2 = true := by
  have hp := List.pairwise_iff_getElem.1 h
  rcases Nat.lt_or_gt_of_ne hne with h' | h'
  · exact hp i j hi hj h'
  · exact par_symm _ _ (hp j i hj hi h')
theorem parL_of {l : List StepP} (h : ∀ i (hi : i < l.length) j (hj : j < i), parP l[i].2 (l[j]'(by omega)).2 = true) : ParL l :=
  List.pairwise_iff_getElem.2 fun i j hi hj hij => par_symm _ _ (h j hj i hij)
theorem not_parL {l : List StepP} {i j : Nat} (hi : i < l.length) (hj : j < l.length) (hne : i ≠ j) (h : parP l[i].2 l[j].2 = false) : ¬ ParL l := fun hp => by
  have := hp.get hi hj hne
  rw [h] at this; cases this
def putsP (f : StepP → Term) (u : Term) (l : List StepP) : Term := l.foldl (fun u s => putP u s.2 (f s)) u
theorem puts_cons (f : StepP → Term) (u : Term) (s : StepP) (l : List StepP) : putsP f u (s :: l) = putsP f (putP u s.2 (f s)) l := rfl
theorem puts_snoc (f : StepP → Term) (u : Term) (l : List StepP) (s : StepP) : putsP f u (l ++ [s]) = putP (putsP f u l) s.2 (f s) := by unfold putsP; rw [List.foldl_append]; rfl
def AtsP (u : Term) (l : List StepP) : Prop := ∀ s, s ∈ l → ∃ y, atP u s.2 = some y
theorem puts_at (f : StepP → Term) (q : List Int) : ∀ (l : List StepP) (u : Term), AtsP u l → ParL l → (∀ s, s ∈ l → parP s.2 q = true) → atP (putsP f u l) q = atP u q
  | [], u, _, _, _ => rfl
  | s :: l, u, ha, hp, hq => by
    obtain ⟨y, hy⟩ := ha s (by simp)
    have h1 : ∀ a, a ∈ l → atP (putP u s.2 (f s)) a.2 = atP u a.2 := fun a h => par_at _ _ _ _ _ ((List.pairwise_cons.1 hp).1 a h) hy
    rw [puts_cons, puts_at f q l _ (fun a h => by rw [h1 a h]; exact ha a (by simp [h])) (List.pairwise_cons.1 hp).2 (fun a h => hq a (by simp [h]))]
    exact par_at _ _ _ _ _ (hq s (by simp)) hy
theorem puts_perm (f : StepP → Term) {l m : List StepP} (h : l.Perm m) : ParL l → ∀ u, AtsP u l → putsP f u l = putsP f u m := by
  induction h with
  | nil => intro _ u _; rfl
  | @cons s a b h ih =>
    intro hp u ha
    obtain ⟨y, hy⟩ := ha s (by simp)
    rw [puts_cons, puts_cons]
    exact ih (List.pairwise_cons.1 hp).2 _ fun z hz => by
      rw [par_at _ _ _ _ _ ((List.pairwise_cons.1 hp).1 z hz) hy]; exact ha z (by simp [hz])
  | swap x y a =>
    intro hp u ha
    obtain ⟨v, hv⟩ := ha y (by simp)
    obtain ⟨w, hw⟩ := ha x (by simp)
    have hxy : parP y.2 x.2 = true := (List.pairwise_cons.1 hp).1 x (by simp)
    rw [puts_cons, puts_cons, puts_cons, puts_cons]
    rw [par_put _ _ u _ _ v w hxy hv hw]
  | trans h1 h2 ih1 ih2 =>
    intro hp u ha
    rw [ih1 hp u ha]
    exact ih2 (h1.pairwise hp (fun {a b} h => par_symm _ _ h)) u fun z hz => ha z (h1.mem_iff.2 hz)
theorem puts_formed (f : StepP → Term) : ∀ (l : List StepP) (u : Term), AtsP u l → ParL l → formedP u = true → (∀ s, s ∈ l → formedP (f s) = true) → formedP (putsP f u l) = true
  | [], u, _, _, h, _ => h
  | s :: l, u, ha, hp, h, hf => by
    obtain ⟨y, hy⟩ := ha s (by simp)
    rw [puts_cons]
    exact puts_formed f l _ (fun z hz => by rw [par_at _ _ _ _ _ ((List.pairwise_cons.1 hp).1 z hz) hy]; exact ha z (by simp [hz])) (List.pairwise_cons.1 hp).2 (put_formed _ _ _ _ hy h (hf s (by simp))) fun z hz => hf z (by simp [hz])
theorem puts_bulk (f : StepP → Term) (B : Nat) : ∀ (l : List StepP) (u : Term), AtsP u l → ParL l → (∀ s, s ∈ l → (f s).bulk ≤ B) → (putsP f u l).bulk ≤ u.bulk + l.length * B
  | [], u, _, _, _ => by simp [putsP]
  | s :: l, u, ha, hp, hf => by
    obtain ⟨y, hy⟩ := ha s (by simp)
    have h1 := put_bulk (f s) _ _ _ hy
    have h2 := puts_bulk f B l (putP u s.2 (f s)) (fun z hz => by rw [par_at _ _ _ _ _ ((List.pairwise_cons.1 hp).1 z hz) hy]; exact ha z (by simp [hz])) (List.pairwise_cons.1 hp).2 (fun z hz => hf z (by simp [hz]))
    have h3 := hf s (by simp)
    rw [puts_cons, List.length_cons, Nat.succ_mul]
    omega
theorem rhs_formed {rs : List (Term × Term)} (hr : sysP rs = 0) {t : Term} (ht : checkP t = 0) {s : StepP} (h : (findE rs t s).2 = 0) : formedP (rhsP rs t s) = true := by
  obtain ⟨x, hf⟩ := find_ok h
  obtain ⟨hso, _⟩ := hf.subOk
  have hx := (at_sub _ _ _ hf.at').formed ((check_iff _).1 ht).1
  exact formed_apply _ (fun b hb => (hso.sub b hb).formed hx) _ ((check_iff _).1 ((sys_B hr).2.1 _ hf.mem).2).1
def errP (rs : List (Term × Term)) (t : Term) : List StepP → Int
  | [] => 0
  | s :: l => if (findE rs t s).2 ≠ 0 then (findE rs t s).2 else errP rs t l
theorem errP_zero (rs : List (Term × Term)) (t : Term) : ∀ l : List StepP, errP rs t l = 0 ↔ ∀ s, s ∈ l → (findE rs t s).2 = 0
  | [] => by simp [errP]
  | s :: l => by
    have ih := errP_zero rs t l
    unfold errP
    by_cases h : (findE rs t s).2 = 0
    · rw [if_neg (by simpa using h), ih]; simp [h]
    · rw [if_pos h]; simp [h]
theorem errP_at (rs : List (Term × Term)) (t : Term) : ∀ (l : List StepP) (i : Nat) (hi : i < l.length), (∀ j (hj : j < i), (findE rs t (l[j]'(by omega))).2 = 0) → (findE rs t l[i]).2 ≠ 0 → errP rs t l = (findE rs t l[i]).2
  | s :: l, 0, _, _, h => by unfold errP; exact if_pos h
  | s :: l, i + 1, hi, h0, h => by
    have h1 := h0 0 (by omega)
    simp only [List.getElem_cons_zero] at h1
    unfold errP
    rw [if_neg (by simpa using h1)]
    exact errP_at rs t l i (by simpa using hi) (fun j hj => by have := h0 (j + 1) (by omega); simpa using this) h
def largeP (rs : List (Term × Term)) (t : Term) (l : List StepP) : Bool := l.any fun s => !fitsP (rhsP rs t s)
def togP (rs : List (Term × Term)) (t : Term) (l : List StepP) : Term × Int :=
  if 4096 < l.length then (zeroT, 3) else if errP rs t l ≠ 0 then (zeroT, errP rs t l) else if ¬ ParL l then (zeroT, 9) else if largeP rs t l = true then (zeroT, 3)
  else if fitsP (putsP (rhsP rs t) t l) = true then (putsP (rhsP rs t) t l, 0) else (zeroT, 3)
def parE (rs : List (Term × Term)) (t : Term) (l : List StepP) : Term × Int := if bothP rs t ≠ 0 then (zeroT, bothP rs t) else togP rs t l
theorem find_ats {rs : List (Term × Term)} {t : Term} {l : List StepP} (h : ∀ s, s ∈ l → (findE rs t s).2 = 0) : AtsP t l := fun s hs => by
  obtain ⟨x, hf⟩ := find_ok (h s hs)
  exact ⟨x, hf.at'⟩
theorem AtsP.sub {u : Term} {l m : List StepP} (h : AtsP u l) (hm : ∀ s, s ∈ m → s ∈ l) : AtsP u m := fun s hs => h s (hm s hs)
def rotI (n k j : Nat) : Nat := (j + k) % n
theorem rotI_lt {n : Nat} (k j : Nat) (h : 0 < n) : rotI n k j < n := Nat.mod_lt _ h
theorem rotI_eq {n k a : Nat} (ha : a < n) : rotI n k a = if a + k % n < n then a + k % n else a + k % n - n := by
  unfold rotI
  have hk := Nat.mod_lt k (show 0 < n by omega)
  rw [← Nat.add_mod_mod]
  split
  · exact Nat.mod_eq_of_lt (by assumption)
  · rename_i hh
    rw [Nat.mod_eq_sub_mod (by omega), Nat.mod_eq_of_lt (by omega)]
theorem rotI_inj {n k i j : Nat} (hi : i < n) (hj : j < n) (h : rotI n k i = rotI n k j) : i = j := by
  have hk := Nat.mod_lt k (show 0 < n by omega)
  rw [rotI_eq hi, rotI_eq hj] at h
  split at h <;> split at h <;> omega
theorem rotI_sur {n k x : Nat} (hx : x < n) : ∃ j, j < n ∧ rotI n k j = x := by
  have hk := Nat.mod_lt k (show 0 < n by omega)
  by_cases h : k % n ≤ x
  · refine ⟨x - k % n, by omega, ?_⟩
    rw [rotI_eq (by omega), if_pos (by omega)]; omega
  · refine ⟨x + n - k % n, by omega, ?_⟩
    rw [rotI_eq (by omega), if_neg (by omega)]; omega
def rotL (l : List StepP) (k i : Nat) : List StepP := (List.range i).map fun j => l.getD (rotI l.length k j) (0, [])
theorem rot_nil (l : List StepP) (k : Nat) : rotL l k 0 = [] := rfl
theorem rotL_succ (l : List StepP) (k i : Nat) : rotL l k (i + 1) = rotL l k i ++ [l.getD (rotI l.length k i) (0, [])] := by unfold rotL; rw [List.range_succ, List.map_append]; rfl
theorem rot_get {l : List StepP} {k j : Nat} (h : 0 < l.length) : l.getD (rotI l.length k j) (0, []) = l[rotI l.length k j]'(rotI_lt k j h) := by
  rw [List.getD_eq_getElem?_getD, List.getElem?_eq_getElem (rotI_lt k j h)]; rfl
theorem rot_perm (l : List StepP) (k : Nat) : (rotL l k l.length).Perm l := by
  have h1 : ((List.range l.length).map (rotI l.length k)).Perm (List.range l.length) := by
    have hnd : ((List.range l.length).map (rotI l.length k)).Nodup := by
      unfold List.Nodup
      rw [List.pairwise_map]
      refine List.Pairwise.imp_of_mem ?_ (List.nodup_range (n := l.length))
      intro a b ha hb hne e
      exact hne (rotI_inj (List.mem_range.1 ha) (List.mem_range.1 hb) e)
    refine (List.perm_ext_iff_of_nodup hnd List.nodup_range).2 fun x => ?_
    rw [List.mem_map, List.mem_range]
    constructor
    · rintro ⟨a, ha, rfl⟩
      exact rotI_lt k a (by have := List.mem_range.1 ha; omega)
    · intro hx
      obtain ⟨j, hj, e⟩ := rotI_sur (k := k) hx
      exact ⟨j, List.mem_range.2 hj, e⟩
  have h2 := h1.map fun j => l.getD j (0, [])
  rw [List.map_map] at h2
  have e : (List.range l.length).map (fun j => l.getD j ((0, []) : StepP)) = l := by
    refine List.ext_getElem (by simp) fun i h h' => ?_
    rw [List.getElem_map, List.getElem_range, List.getD_eq_getElem?_getD, List.getElem?_eq_getElem h']; rfl
  rw [e] at h2
  exact h2
theorem rot_mem {l : List StepP} {k i : Nat} (h : 0 < l.length) {s : StepP} (hs : s ∈ rotL l k i) : s ∈ l := by
  obtain ⟨j, _, rfl⟩ := List.mem_map.1 hs
  rw [rot_get h]; exact List.getElem_mem _
theorem rot_par {l : List StepP} {k i : Nat} (hp : ParL l) (hi : i < l.length) : ∀ s, s ∈ rotL l k i → parP s.2 (l.getD (rotI l.length k i) (0, [])).2 = true := by
  intro s hs
  obtain ⟨j, hj, rfl⟩ := List.mem_map.1 hs
  have hj := List.mem_range.1 hj
  rw [rot_get (by omega), rot_get (by omega)]
  exact hp.get _ _ fun e => by have := rotI_inj (by omega) hi e; omega
theorem rot_parL {l : List StepP} {k : Nat} (hp : ParL l) : ∀ i, i ≤ l.length → ParL (rotL l k i)
  | 0, _ => by simp [rotL, ParL]
  | i + 1, hi => by
    rw [rotL_succ]
    unfold ParL
    rw [List.pairwise_append]
    refine ⟨rot_parL hp i (by omega), by simp, ?_⟩
    intro a ha b hb
    rw [List.mem_singleton] at hb
    subst hb
    exact rot_par hp (by omega) a ha
theorem rot_find {rs : List (Term × Term)} {t : Term} {l : List StepP} {k i : Nat} (ha : ∀ s, s ∈ l → (findE rs t s).2 = 0) (hp : ParL l) (hi : i < l.length) :
    findE rs (putsP (rhsP rs t) t (rotL l k i)) (l.getD (rotI l.length k i) (0, [])) = findE rs t (l.getD (rotI l.length k i) (0, [])) := by
  have e := puts_at (rhsP rs t) (l.getD (rotI l.length k i) (0, [])).2 (rotL l k i) t ((find_ats ha).sub fun s hs => rot_mem (by omega) hs) (rot_parL hp i (by omega)) (rot_par hp hi)
  unfold findE
  rw [e]
theorem rhs_of {rs : List (Term × Term)} {u t : Term} {s : StepP} (h : findE rs u s = findE rs t s) : rhsP rs u s = rhsP rs t s := by unfold rhsP; rw [h]
theorem rot_do {rs : List (Term × Term)} {t : Term} {l : List StepP} {k i : Nat} (ha : ∀ s, s ∈ l → (findE rs t s).2 = 0) (hp : ParL l) (hi : i < l.length) :
    doE rs (putsP (rhsP rs t) t (rotL l k i)) (l.getD (rotI l.length k i) (0, [])) = if fitsP (putsP (rhsP rs t) t (rotL l k (i + 1))) = true then (putsP (rhsP rs t) t (rotL l k (i + 1)), 0) else (zeroT, 3) := by
  have e := rot_find (k := k) ha hp hi
  have hm : l.getD (rotI l.length k i) (0, []) ∈ l := by rw [rot_get (by omega)]; exact List.getElem_mem _
  have e2 : rhsP rs (putsP (rhsP rs t) t (rotL l k i)) (l.getD (rotI l.length k i) (0, [])) = rhsP rs t (l.getD (rotI l.length k i) (0, [])) := rhs_of e
  rw [do_alt, e, e2, ha _ hm, rotL_succ, puts_snoc]
  simp
theorem rot_all {rs : List (Term × Term)} {t : Term} {l : List StepP} (k : Nat) (ha : ∀ s, s ∈ l → (findE rs t s).2 = 0) (hp : ParL l) : putsP (rhsP rs t) t (rotL l k l.length) = putsP (rhsP rs t) t l :=
  puts_perm _ (rot_perm l k) (rot_parL hp _ (Nat.le_refl _)) t ((find_ats ha).sub fun s hs => (rot_perm l k).mem_iff.1 hs)
theorem tog_ok {rs : List (Term × Term)} {t : Term} {l : List StepP} (h : (togP rs t l).2 = 0) : l.length ≤ 4096 ∧ (∀ s, s ∈ l → (findE rs t s).2 = 0) ∧ ParL l ∧ largeP rs t l = false ∧ fitsP (putsP (rhsP rs t) t l) = true ∧ togP rs t l = (putsP (rhsP rs t) t l, 0) := by
  unfold togP at h ⊢
  split at h
  · cases h
  · rename_i h1
    split at h
    · rename_i h2; exact absurd h h2
    · rename_i h2
      split at h
      · cases h
      · rename_i h3
        split at h
        · cases h
        · rename_i h4
          split at h
          · rename_i h5
            have h3' : ParL l := Decidable.not_not.1 h3
            refine ⟨by omega, (errP_zero rs t l).1 (by simpa using h2), h3', by simpa using h4, h5, ?_⟩
            rw [if_neg h1, if_neg h2, if_neg h3, if_neg h4, if_pos h5]
          · cases h
end Ab
set_option maxRecDepth 10000
namespace Ab
open Go Go.Proofs
theorem starts_ac (p q : List Int) (h1 : p.length < 1099511627776) (h2 : q.length < 1099511627776) (H : List AObj) : ACall Tryz.prog 63 [.sl .none (encP p), .sl .none (encP q)] H (fun r H' => r = .bool (pfx p q) ∧ H' = H) := by
  refine ACall_V (H.length) 16 [.tmp 4] Tryz.func63 rfl rfl rfl ?_
  simp only [push_cast, Nat.reduceAdd, Nat.reduceSub, Nat.reduceMul, Nat.reduceLT, Nat.reduceLeDiff, Nat.reduceEqDiff, Int.reduceToNat, ↓reduceIte, encP_length]
  refine cI (fun h => ?_) (fun h => ?_)
  · refine ⟨Nat.zero_le _, by omega, ?_⟩
    refine (equalI_ac (p.take q.length) q (by rw [List.length_take]; omega) h2 _).to ?_
    have e : pfx p q = decide (p.take q.length = q) := by unfold pfx; rw [decide_eq_true (by omega)]; rfl
    simp only [push_cast, Nat.reduceAdd, Nat.reduceSub, Nat.reduceMul, Nat.reduceLT, Nat.reduceLeDiff, Nat.reduceEqDiff, Int.reduceToNat, ↓reduceIte, e]
  · have e : pfx p q = false := by unfold pfx; rw [decide_eq_false (by omega)]; rfl
    simp only [push_cast, Nat.reduceAdd, Nat.reduceSub, Nat.reduceMul, Nat.reduceLT, Nat.reduceLeDiff, Nat.reduceEqDiff, Int.reduceToNat, ↓reduceIte, e]
def imT (rs : List (Term × Term)) (t : Term) (s : StepP) : Term := (instE (findE rs t s).1 (ruleN rs s.1).2).1
theorem imT_take (rs : List (Term × Term)) (t : Term) (l : List StepP) (i : Nat) (h : i < l.length) : (l.take i).map (imT rs t) ++ [imT rs t l[i]] = (l.take (i + 1)).map (imT rs t) := by
  rw [List.take_succ_eq_append_getElem h, List.map_append]; rfl
theorem large_take (rs : List (Term × Term)) (t : Term) (l : List StepP) (i : Nat) (h : i < l.length) : largeP rs t (l.take (i + 1)) = (largeP rs t (l.take i) || !fitsP (rhsP rs t l[i])) := by
  unfold largeP
  rw [List.take_succ_eq_append_getElem h, List.any_append]; simp
theorem puts_nil (f : StepP → Term) (u : Term) : putsP f u [] = u := rfl
set_option maxHeartbeats 4000000 in
theorem parSteps_ac (rs : List (Term × Term)) (hlen : rs.length < 1099511627776) (hb : BndR rs) (t : Term) (ht : t.bulk ≤ 1099511627775) (l : List StepP) (hl : l.length < 1099511627776) (hp : ∀ s, s ∈ l → s.2.length < 1099511627776) (H : List AObj) :
    ACall Tryz.prog 33 [.sl .none (encL encRu rs), encT t, .sl .none (encL encSt l)] H (fun r H' => r = encRE (parE rs t l) ∧ H' = H) := by
  refine ACall_VA (H.length) 123 [.cell 6 25, .tmp 7] Tryz.func33 rfl rfl rfl ?_
  refine AW_reserve 1 ?_
  refine AW_of_W ?_
  simp only [push_cast, Nat.reduceAdd, Nat.reduceSub, Nat.reduceMul, Nat.reduceLT, Nat.reduceLeDiff, Nat.reduceEqDiff, Int.reduceToNat, ↓reduceIte]
  refine (both_ac rs hlen hb t ht _).to ?_
  simp only [push_cast, Nat.reduceAdd, Nat.reduceSub, Nat.reduceMul, Nat.reduceLT, Nat.reduceLeDiff, Nat.reduceEqDiff, Int.reduceToNat, ↓reduceIte]
  refine cI (fun h => ?_) (fun h => ?_)
  · obtain ⟨hr, hc⟩ := both_ok h
    obtain ⟨hB, hck, _⟩ := sys_B hr
    have htb := check_small hc
    have e0 : parE rs t l = togP rs t l := if_neg (by simpa using h)
    rw [e0]
    refine cI (fun h1 => ?_) (fun h1 => ?_)
    · have e : togP rs t l = (zeroT, 3) := if_pos (by omega)
      simp only [push_cast, Nat.reduceAdd, Nat.reduceSub, Nat.reduceMul, Nat.reduceLT, Nat.reduceLeDiff, Nat.reduceEqDiff, Int.reduceToNat, ↓reduceIte, e]
    · have h1' : ¬ 4096 < l.length := by omega
      have e1 : togP rs t l = if errP rs t l ≠ 0 then (zeroT, errP rs t l) else if ¬ ParL l then (zeroT, 9) else if largeP rs t l = true then (zeroT, 3) else if fitsP (putsP (rhsP rs t) t l) = true then (putsP (rhsP rs t) t l, 0) else (zeroT, 3) := if_neg h1'
      rw [e1]
      refine AW_loopW (maskG 126 [0, 1, 1, 1, 2, 0, 23, 0, 0]) (fun (i : Nat) => [(36, .int .i64 i), (9, gSl H.length (encTs ((l.take i).map (imT rs t)))), (10, .bool (largeP rs t (l.take i)))]) (fun i => H ++ [gTok 25 3 (encTs ((l.take i).map (imT rs t))), .cells [.str t.name, .bool t.var, .sl .none (encTs t.args)], .cells [.str [], .bool false, .sl .zero []]]) (fun i => i ≤ l.length ∧ ∀ j (hj : j < l.length), j < i → (findE rs t l[j]).2 = 0) (fun i => l.length - i) 0 ⟨Nat.zero_le _, fun _ _ h => absurd h (by omega)⟩ (by simp only [push_cast, Nat.reduceAdd, Nat.reduceSub, Nat.reduceMul, Nat.reduceLT, Nat.reduceLeDiff, Nat.reduceEqDiff, Int.reduceToNat, ↓reduceIte, List.take_zero, List.map_nil, encTs_nil]; rfl) (fun i hi => ?_)
      obtain ⟨hi, hj⟩ := hi
      simp only [push_cast, Nat.reduceAdd, Nat.reduceSub, Nat.reduceMul, Nat.reduceLT, Nat.reduceLeDiff, Nat.reduceEqDiff, Int.reduceToNat, ↓reduceIte]
      refine cI (fun h2 => ?_) (fun h2 => ?_)
      · have hil : i < l.length := by omega
        refine ⟨hil, ?_⟩
        refine (stepFind_ac rs hB t (by omega) l[i] (hp _ (List.getElem_mem hil)) _).to ?_
        simp only [push_cast, Nat.reduceAdd, Nat.reduceSub, Nat.reduceMul, Nat.reduceLT, Nat.reduceLeDiff, Nat.reduceEqDiff, Int.reduceToNat, ↓reduceIte, encFE]
        refine cI (fun h3 => ?_) (fun h3 => ?_)
        · obtain ⟨x, hf⟩ := find_ok h3
          obtain ⟨hso, hsl⟩ := hf.subOk
          have hxs := at_sub _ _ _ hf.at'
          have hxc := check_small (hxs.check hc)
          have hrc := check_small (hck _ hf.mem).2
          have hlc := check_small (hck _ hf.mem).1
          have hap := hso.apply hxc hrc
          have hrn := ruleN_get hf.hi
          refine ⟨hf.lo, hf.hi, ?_⟩
          rw [← hrn]
          refine (instance_ac (findE rs t l[i]).1 hso.sorted (by omega) (fun b hb => by have := (hso.bulk b hb).1; omega) (ruleN rs l[i].1).2 (by omega) (by omega) _).to ?_
          simp only [push_cast, Nat.reduceAdd, Nat.reduceSub, Nat.reduceMul, Nat.reduceLT, Nat.reduceLeDiff, Nat.reduceEqDiff, Int.reduceToNat, ↓reduceIte]
          have hst := imT_take rs t l i hil
          have hlg := large_take rs t l i hil
          have h2' : (instE (findE rs t l[i]).1 (ruleN rs l[i].1).2).2 = if fitsP (rhsP rs t l[i]) = true then 0 else 3 := by
            unfold instE rhsP
            split <;> rfl
          have hnx : ∀ j (hj : j < l.length), j < i + 1 → (findE rs t l[j]).2 = 0 := fun j hj' hji => by
            by_cases e : j = i
            · subst e; exact h3
            · exact hj j hj' (by omega)
          refine cI (fun h4 => ?_) (fun h4 => ?_)
          · refine app1_T _ H.length ((l.take i).map (imT rs t)) (imT rs t l[i]) _ rfl rfl (by exact aget0 _ _ _) sl23 sz25 by25 zr25 rfl (by decide) (by rw [List.length_map, List.length_take]; omega) ?_
            rw [hst]
            simp only [push_cast, Nat.reduceAdd, Nat.reduceSub, Nat.reduceMul, Nat.reduceLT, Nat.reduceLeDiff, Nat.reduceEqDiff, Int.reduceToNat, ↓reduceIte]
            repeat' first | refine ⟨by omega, ?_⟩ | refine cI (fun _ => ?_) (fun _ => ?_)
            exact loopW_n (i + 1) ⟨by omega, hnx⟩ (by omega) (by rw [hlg, h4]; simp only [push_cast, Nat.reduceAdd, Nat.reduceSub, Nat.reduceMul, Nat.reduceLT, Nat.reduceLeDiff, Nat.reduceEqDiff, Int.reduceToNat, ↓reduceIte]; rfl)
          · refine app1_T _ H.length ((l.take i).map (imT rs t)) (imT rs t l[i]) _ rfl rfl (by exact aget0 _ _ _) sl23 sz25 by25 zr25 rfl (by decide) (by rw [List.length_map, List.length_take]; omega) ?_
            rw [hst, h2']
            simp only [push_cast, Nat.reduceAdd, Nat.reduceSub, Nat.reduceMul, Nat.reduceLT, Nat.reduceLeDiff, Nat.reduceEqDiff, Int.reduceToNat, ↓reduceIte]
            repeat' first | refine ⟨by omega, ?_⟩ | refine cI (fun _ => ?_) (fun _ => ?_)
            exact loopW_n (i + 1) ⟨by omega, hnx⟩ (by omega) (by
              rw [hlg, Bool.eq_false_iff.2 h4]
              cases hff : fitsP (rhsP rs t l[i]) <;> simp only [push_cast, Nat.reduceAdd, Nat.reduceSub, Nat.reduceMul, Nat.reduceLT, Nat.reduceLeDiff, Nat.reduceEqDiff, Int.reduceToNat, ↓reduceIte] <;> rfl)
        · have ee := errP_at rs t l i hil (fun j hj' => hj j (by omega) hj') h3
          rw [if_pos (by rw [ee]; exact h3), ee]
          simp only [push_cast, Nat.reduceAdd, Nat.reduceSub, Nat.reduceMul, Nat.reduceLT, Nat.reduceLeDiff, Nat.reduceEqDiff, Int.reduceToNat, ↓reduceIte]
      · rw [List.take_of_length_le (show l.length ≤ i by omega)]
        have hall : ∀ s, s ∈ l → (findE rs t s).2 = 0 := fun s hs => by
          obtain ⟨j, hj', rfl⟩ := List.mem_iff_getElem.1 hs
          exact hj j hj' (by omega)
        rw [if_neg (by rw [(errP_zero rs t l).2 hall]; simp)]
        refine AW_loopW (maskG 126 [2, 1, 1, 2, 0, 61, 0, 0]) (fun (i : Nat) => [(74, .int .i64 i)]) (fun i => H ++ [gTok 25 3 (encTs (l.map (imT rs t))), .cells [.str t.name, .bool t.var, .sl .none (encTs t.args)], .cells [.str [], .bool false, .sl .zero []]]) (fun i => i ≤ l.length ∧ ∀ a (ha : a < l.length), a < i → ∀ b (hb : b < a), parP l[a].2 (l[b]'(by omega)).2 = true) (fun i => l.length - i) 0 ⟨Nat.zero_le _, fun _ _ h => absurd h (by omega)⟩ (by simp only [push_cast, Nat.reduceAdd, Nat.reduceSub, Nat.reduceMul, Nat.reduceLT, Nat.reduceLeDiff, Nat.reduceEqDiff, Int.reduceToNat, ↓reduceIte]) (fun i hi => ?_)
        obtain ⟨hi, hpi⟩ := hi
        simp only [push_cast, Nat.reduceAdd, Nat.reduceSub, Nat.reduceMul, Nat.reduceLT, Nat.reduceLeDiff, Nat.reduceEqDiff, Int.reduceToNat, ↓reduceIte]
        refine cI (fun h2 => ?_) (fun h2 => ?_)
        · have hil : i < l.length := by omega
          refine ⟨hil, Nat.zero_le _, by omega, ?_⟩
          have hti : (l.take i).length = i := by rw [List.length_take]; omega
          refine AW_loopW (maskG 126 [2, 1, 1, 2, 0, 6, 54, 0, 0, 6, 0, 0]) (fun (j : Nat) => [(83, .int .i64 j)]) (fun j => H ++ [gTok 25 3 (encTs (l.map (imT rs t))), .cells [.str t.name, .bool t.var, .sl .none (encTs t.args)], .cells [.str [], .bool false, .sl .zero []], .cells [.int .i64 l[i].1, .sl .none (encP l[i].2)]]) (fun j => j ≤ i ∧ ∀ b (hb : b < j) (hbi : b < i), parP l[i].2 (l[b]'(by omega)).2 = true) (fun j => i - j) 0 ⟨Nat.zero_le _, fun _ h => absurd h (by omega)⟩ (by simp only [push_cast, Nat.reduceAdd, Nat.reduceSub, Nat.reduceMul, Nat.reduceLT, Nat.reduceLeDiff, Nat.reduceEqDiff, Int.reduceToNat, ↓reduceIte]) (fun j hj2 => ?_)
          obtain ⟨hji, hpj⟩ := hj2
          simp only [push_cast, Nat.reduceAdd, Nat.reduceSub, Nat.reduceMul, Nat.reduceLT, Nat.reduceLeDiff, Nat.reduceEqDiff, Int.reduceToNat, ↓reduceIte, hti]
          refine cI (fun h4 => ?_) (fun h4 => ?_)
          · have hjl : j < i := by omega
            have hget : (l.take i)[j]'(by omega) = l[j]'(by omega) := List.getElem_take
            refine ⟨hjl, ?_⟩
            rw [hget]
            have hil2 := hp _ (List.getElem_mem hil)
            have hjl2 := hp _ (List.getElem_mem (show j < l.length by omega))
            have hne : pfx l[i].2 (l[j]'(by omega)).2 = true ∨ pfx (l[j]'(by omega)).2 l[i].2 = true → (if ¬ ParL l then (zeroT, (9 : Int)) else if largeP rs t l = true then (zeroT, 3) else if fitsP (putsP (rhsP rs t) t l) = true then (putsP (rhsP rs t) t l, 0) else (zeroT, 3)) = (zeroT, 9) := fun hh => by
              refine if_pos (not_parL hil (show j < l.length by omega) (by omega) ?_)
              rw [par_pfx]
              rcases hh with hh | hh <;> rw [hh] <;> simp
            refine (starts_ac l[i].2 (l[j]'(by omega)).2 hil2 hjl2 _).to ?_
            simp only [push_cast, Nat.reduceAdd, Nat.reduceSub, Nat.reduceMul, Nat.reduceLT, Nat.reduceLeDiff, Nat.reduceEqDiff, Int.reduceToNat, ↓reduceIte]
            refine cI (fun h5 => ?_) (fun h5 => ?_)
            · rw [hne (.inl h5)]
              simp only [push_cast, Nat.reduceAdd, Nat.reduceSub, Nat.reduceMul, Nat.reduceLT, Nat.reduceLeDiff, Nat.reduceEqDiff, Int.reduceToNat, ↓reduceIte]
            · refine (starts_ac (l[j]'(by omega)).2 l[i].2 hjl2 hil2 _).to ?_
              simp only [push_cast, Nat.reduceAdd, Nat.reduceSub, Nat.reduceMul, Nat.reduceLT, Nat.reduceLeDiff, Nat.reduceEqDiff, Int.reduceToNat, ↓reduceIte]
              refine cI (fun h6 => ?_) (fun h6 => ?_)
              · rw [hne (.inr h6)]
                simp only [push_cast, Nat.reduceAdd, Nat.reduceSub, Nat.reduceMul, Nat.reduceLT, Nat.reduceLeDiff, Nat.reduceEqDiff, Int.reduceToNat, ↓reduceIte]
              · repeat' first | refine ⟨by omega, ?_⟩ | refine cI (fun _ => ?_) (fun _ => ?_)
                exact loopW_n (j + 1) ⟨by omega, fun b hb hbi => by
                  by_cases e : b = j
                  · subst e; rw [par_pfx, Bool.eq_false_iff.2 h5, Bool.eq_false_iff.2 h6]; rfl
                  · exact hpj b (by omega) hbi⟩ (by omega) (by simp only [push_cast, Nat.reduceAdd, Nat.reduceSub, Nat.reduceMul, Nat.reduceLT, Nat.reduceLeDiff, Nat.reduceEqDiff, Int.reduceToNat, ↓reduceIte])
          · repeat' first | refine ⟨by omega, ?_⟩ | refine cI (fun _ => ?_) (fun _ => ?_)
            exact loopW_n (i + 1) ⟨by omega, fun a ha hai b hb => by
              by_cases e : a = i
              · subst e; exact hpj b (by omega) hb
              · exact hpi a ha (by omega) b hb⟩ (by omega) (by simp only [push_cast, Nat.reduceAdd, Nat.reduceSub, Nat.reduceMul, Nat.reduceLT, Nat.reduceLeDiff, Nat.reduceEqDiff, Int.reduceToNat, ↓reduceIte])
        · have hP : ParL l := parL_of fun a ha b hb => hpi a ha (by omega) b hb
          rw [if_neg (not_not_intro hP)]
          refine cI (fun h5 => ?_) (fun h5 => ?_)
          · rw [if_pos h5]
            simp only [push_cast, Nat.reduceAdd, Nat.reduceSub, Nat.reduceMul, Nat.reduceLT, Nat.reduceLeDiff, Nat.reduceEqDiff, Int.reduceToNat, ↓reduceIte]
          · rw [if_neg h5]
            have hfit : ∀ s, s ∈ l → fitsP (rhsP rs t s) = true := fun s hs => by
              cases hf : fitsP (rhsP rs t s) with
              | true => rfl
              | false => exact absurd (List.any_eq_true.2 ⟨s, hs, by rw [hf]; rfl⟩) h5
            have him : ∀ s, s ∈ l → imT rs t s = rhsP rs t s := fun s hs => by
              unfold imT instE
              rw [show applyP (findE rs t s).1 (ruleN rs s.1).2 = rhsP rs t s from rfl, if_pos (hfit s hs)]
            have hfo : ∀ s, s ∈ l → formedP (rhsP rs t s) = true := fun s hs => rhs_formed hr hc (hall s hs)
            have hsm : ∀ s, s ∈ l → (rhsP rs t s).bulk ≤ 100000 := fun s hs => (check_small ((check_iff _).2 ⟨hfo s hs, hfit s hs⟩)).2
            have hat := find_ats hall
            refine (own_ac t (by omega) _).to ?_
            simp only [push_cast, Nat.reduceAdd, Nat.reduceSub, Nat.reduceMul, Nat.reduceLT, Nat.reduceLeDiff, Nat.reduceEqDiff, Int.reduceToNat, ↓reduceIte]
            obtain ⟨tk, htk⟩ := gSl_ex H.length (encTs (l.map (imT rs t)))
            refine AW_loopW (maskG 126 [6, 2, 10, 85, 0, 0]) (fun (i : Nat) => [(108, .int .i64 i)]) (fun i => H ++ [gTok 25 3 (encTs (l.map (imT rs t))), .cells [.str t.name, .bool t.var, .sl .none (encTs t.args)], .cells [.str [], .bool false, .sl .zero []], .cells [.str (putsP (rhsP rs t) t (l.take i)).name, .bool (putsP (rhsP rs t) t (l.take i)).var, .sl .none (encTs (putsP (rhsP rs t) t (l.take i)).args)]]) (fun i => i ≤ l.length) (fun i => l.length - i) 0 (Nat.zero_le _) (by simp only [push_cast, Nat.reduceAdd, Nat.reduceSub, Nat.reduceMul, Nat.reduceLT, Nat.reduceLeDiff, Nat.reduceEqDiff, Int.reduceToNat, ↓reduceIte, List.take_zero, puts_nil]) (fun i hi => ?_)
            have hsub : ∀ s, s ∈ l.take i → s ∈ l := fun s hs => List.mem_of_mem_take hs
            have hPi : ParL (l.take i) := List.Pairwise.sublist (List.take_sublist _ _) hP
            have hbk := puts_bulk (rhsP rs t) 100000 (l.take i) t (hat.sub hsub) hPi (fun s hs => hsm s (hsub s hs))
            have hfm := puts_formed (rhsP rs t) (l.take i) t (hat.sub hsub) hPi ((check_iff _).1 hc).1 (fun s hs => hfo s (hsub s hs))
            have hli : (l.take i).length * 100000 ≤ 4096 * 100000 := Nat.mul_le_mul (by rw [List.length_take]; omega) (Nat.le_refl _)
            simp only [push_cast, Nat.reduceAdd, Nat.reduceSub, Nat.reduceMul, Nat.reduceLT, Nat.reduceLeDiff, Nat.reduceEqDiff, Int.reduceToNat, ↓reduceIte]
            refine cI (fun h2 => ?_) (fun h2 => ?_)
            · have hil : i < l.length := by omega
              have hmem := List.getElem_mem hil
              refine ⟨hil, ?_⟩
              have hati : ∃ y, atP (putsP (rhsP rs t) t (l.take i)) l[i].2 = some y := by
                rw [puts_at (rhsP rs t) l[i].2 (l.take i) t (hat.sub hsub) hPi (fun s hs => ?_)]
                · exact hat _ hmem
                · obtain ⟨j, hj', rfl⟩ := List.mem_iff_getElem.1 hs
                  rw [List.length_take] at hj'
                  rw [List.getElem_take]
                  exact hP.get _ _ (by omega)
              obtain ⟨y, hy⟩ := hati
              have hset := setP_put _ _ (rhsP rs t l[i]) _ hy hfm
              have hnext : putP (putsP (rhsP rs t) t (l.take i)) l[i].2 (rhsP rs t l[i]) = putsP (rhsP rs t) t (l.take (i + 1)) := by
                rw [List.take_succ_eq_append_getElem hil, puts_snoc]
              have himg : (l.map (imT rs t))[i]'(by simpa using hil) = rhsP rs t l[i] := by rw [List.getElem_map]; exact him _ hmem
              have hscall := fun X => set_ac (rhsP rs t l[i]) (by have := hsm _ hmem; omega) (putsP (rhsP rs t) t (l.take i)) (by omega) l[i].2 (hp _ hmem) ⟨y, hy⟩ X
              rw [hset, hnext] at hscall
              rw [htk]
              apply AW_drawE [some 113, some 114, some 115, some 116, some 117, some 118, some 119, some 120, none] [([false], _), ([true], _)] [none, none, none, none, none, none, none, none, some 0] 1 [(0, [false], [20]), (1, [false], [22]), (2, [false], [114]), (3, [false], [9]), (4, [false], [21]), (5, [false], [116, 0]), (6, [false], [118]), (7, [false], [113, 1, 3]), (8, [false], [20, 99])] [_, _, _, _, _, _, _, _, _]
              case' hm => exact dr
              case' hn => rfl
              case' hok => rfl
              case' hlen => rfl
              case' hd => rfl
              case' h0 => rfl
              case' hstep =>
               simp only [DAllG, push_cast, Option.isSome_some, Option.isSome_none]
               repeat' apply And.intro
               all_goals (apply DOne_V; simp only [push_cast, Nat.reduceAdd, Nat.reduceSub, Nat.reduceMul, Nat.reduceLT, Nat.reduceLeDiff, Nat.reduceEqDiff, Int.reduceToNat, ↓reduceIte, himg] <;> first | exact rfl | omega | exact ⟨rfl, rfl⟩ | exact trivial | exact ⟨by omega, rfl⟩ | exact ⟨by omega, by omega, rfl⟩ | exact ⟨by omega, rfl, rfl⟩ | exact ⟨by omega, by omega, rfl, rfl⟩ | exact ⟨by omega, by simpa using hil, trivial⟩ | (refine (hscall _).to ?_; exact ⟨rfl, rfl⟩) | exact ⟨by simpa using hil, rfl⟩)
              case' hQ => skip
              rw [← htk]
              simp only [push_cast, Nat.reduceAdd, Nat.reduceSub, Nat.reduceMul, Nat.reduceLT, Nat.reduceLeDiff, Nat.reduceEqDiff, Int.reduceToNat, ↓reduceIte]
              repeat' first | refine ⟨by omega, ?_⟩ | refine cI (fun _ => ?_) (fun _ => ?_)
              exact loopW_n (i + 1) (by omega) (by omega) (by simp only [push_cast, Nat.reduceAdd, Nat.reduceSub, Nat.reduceMul, Nat.reduceLT, Nat.reduceLeDiff, Nat.reduceEqDiff, Int.reduceToNat, ↓reduceIte])
            · rw [List.take_of_length_le (show l.length ≤ i by omega)] at hbk ⊢
              have hll : l.length * 100000 ≤ 4096 * 100000 := Nat.mul_le_mul (by omega) (Nat.le_refl _)
              refine (fit_ac (putsP (rhsP rs t) t l) (by omega) _).to ?_
              cases hff : fitsP (putsP (rhsP rs t) t l) with
              | true => simp only [push_cast, Nat.reduceAdd, Nat.reduceSub, Nat.reduceMul, Nat.reduceLT, Nat.reduceLeDiff, Nat.reduceEqDiff, Int.reduceToNat, ↓reduceIte, if_true]
              | false => simp only [push_cast, Nat.reduceAdd, Nat.reduceSub, Nat.reduceMul, Nat.reduceLT, Nat.reduceLeDiff, Nat.reduceEqDiff, Int.reduceToNat, ↓reduceIte, Bool.false_eq_true, if_false]
  · have e : parE rs t l = (zeroT, bothP rs t) := if_pos h
    simp only [push_cast, Nat.reduceAdd, Nat.reduceSub, Nat.reduceMul, Nat.reduceLT, Nat.reduceLeDiff, Nat.reduceEqDiff, Int.reduceToNat, ↓reduceIte, e]
end Ab
set_option maxRecDepth 10000
namespace Ab
open Go Go.Proofs
theorem sameSteps_ac (a b : List (Int × List Int)) (h1 : a.length < 1099511627776) (h2 : b.length < 1099511627776) (h3 : ∀ x, x ∈ a → x.2.length < 1099511627776) (h4 : ∀ x, x ∈ b → x.2.length < 1099511627776) (H : List AObj) :
    ACall Tryz.prog 20 [.sl .none (encL encSt a), .sl .none (encL encSt b)] H (fun r H' => r = .bool (decide (a = b)) ∧ H' = H) := by
  refine ACall_V (H.length) 40 [.tmp 4] Tryz.func20 rfl rfl rfl ?_
  simp only [push_cast, Nat.reduceAdd, Nat.reduceSub, Nat.reduceMul, Nat.reduceLT, Nat.reduceLeDiff, Nat.reduceEqDiff, Int.reduceToNat, ↓reduceIte]
  refine cI (fun hl => ?_) (fun hl => ?_)
  · have hl : a.length = b.length := by omega
    refine AW_loopW (maskG 42 [0, 0, 10, 0]) (fun (i : Nat) => [(13, .int .i64 i)]) (fun _ => H) (fun i => i ≤ a.length ∧ a.take i = b.take i) (fun i => a.length - i) 0 ⟨Nat.zero_le _, rfl⟩ (by simp only [push_cast, Nat.reduceAdd, Nat.reduceSub, Nat.reduceMul, Nat.reduceLT, Nat.reduceLeDiff, Nat.reduceEqDiff, Int.reduceToNat, ↓reduceIte]) (fun i hi => ?_)
    simp only [push_cast, Nat.reduceAdd, Nat.reduceSub, Nat.reduceMul, Nat.reduceLT, Nat.reduceLeDiff, Nat.reduceEqDiff, Int.reduceToNat, ↓reduceIte]
    refine cI (fun h => ?_) (fun h => ?_)
    · repeat refine ⟨by omega, ?_⟩
      have hia : i < a.length := by omega
      have hib : i < b.length := by omega
      have heq := fun H => samePosR_ac (a[i]'hia).2 (b[i]'hib).2 (h3 _ (List.getElem_mem hia)) (h4 _ (List.getElem_mem hib)) H
      by_cases hn : (a[i]'hia).1 = (b[i]'hib).1
      · have hd : decide ((a[i]'hia).1 = (b[i]'hib).1) = true := by simpa using hn
        apply AW_drawE [some 16, some 17, some 18, some 19, some 20, some 21, some 22, some 23, some 24, some 25, some 26, some 27, some 28, some 29, some 30, some 31, some 32, some 33, some 34, some 35, some 36, some 37, some 38, some 39, some 40] [([], _)] [none, none, none, none, none, none, none, none, none, none, none, none, none, none, none, none, none, none, none, none, none, none, none, none, none] 0 [(0, [], [0]), (1, [], [5]), (2, [], [16, 0]), (3, [], [18]), (4, [], [19]), (5, [], [1]), (6, [], [5]), (7, [], [21, 0]), (8, [], [23]), (9, [], [24]), (10, [], [20, 4]), (11, [], [26]), (12, [], [0, 26]), (13, [], [5, 21]), (14, [], [27, 0, 0]), (15, [], [27, 2]), (16, [], [27, 3]), (17, [], [1, 25]), (18, [], [5, 21]), (19, [], [27, 5, 0]), (20, [], [27, 7]), (21, [], [27, 8]), (22, [], [27, 4, 4]), (23, [], [27, 10]), (24, [], [27, 11])] [_, _, _, _, _, _, _, _, _, _, _, _, _, _, _, _, _, _, _, _, _, _, _, _, _]
        case' hm => exact dr
        case' hn => rfl
        case' hok => rfl
        case' hlen => rfl
        case' hd => rfl
        case' h0 => rfl
        case' hstep =>
         simp only [DAllG, push_cast, Option.isSome_some, Option.isSome_none]
         repeat' apply And.intro
         all_goals (apply DOne_V; simp only [push_cast, Nat.reduceAdd, Nat.reduceSub, Nat.reduceMul, Nat.reduceLT, Nat.reduceLeDiff, Nat.reduceEqDiff, Int.reduceToNat, ↓reduceIte, hd, Bool.not_true] <;> first | exact rfl | omega | exact ⟨rfl, rfl⟩ | exact trivial | exact ⟨by omega, rfl⟩ | exact ⟨by omega, by omega, rfl⟩ | exact ⟨by omega, rfl, rfl⟩ | exact ⟨by omega, by omega, rfl, rfl⟩ | exact ⟨by omega, trivial⟩ | exact (heq _).to ⟨rfl, rfl⟩)
        case' hQ => skip
        simp only [push_cast, Nat.reduceAdd, Nat.reduceSub, Nat.reduceMul, Nat.reduceLT, Nat.reduceLeDiff, Nat.reduceEqDiff, Int.reduceToNat, ↓reduceIte, hd, Bool.not_true]
        refine cI (fun he => ?_) (fun he => ?_)
        · repeat' first | refine ⟨by omega, ?_⟩ | refine cI (fun _ => ?_) (fun _ => ?_)
          refine loopW_n (i + 1) ⟨by omega, ?_⟩ (by omega) (by simp only [push_cast, Nat.reduceAdd, Nat.reduceSub, Nat.reduceMul, Nat.reduceLT, Nat.reduceLeDiff, Nat.reduceEqDiff, Int.reduceToNat, ↓reduceIte])
          rw [List.take_succ_eq_append_getElem hia, List.take_succ_eq_append_getElem hib, hi.2]
          congr 2
          exact Prod.ext hn he
        · have hne : a ≠ b := fun e => he (by subst e; rfl)
          simp [hne]
      · have hd : decide ((a[i]'hia).1 = (b[i]'hib).1) = false := by simpa using hn
        apply AW_drawE [some 16, some 17, some 18, some 19, some 20, some 21, some 22, some 23, some 24, some 25, some 26, some 27, some 28, some 29, some 30, some 31, some 32, some 33, some 34, some 35, some 36, some 37, some 38, some 39, some 40] [([], _)] [none, none, none, none, none, none, none, none, none, none, none, none, none, none, none, none, none, none, none, none, none, none, none, none, none] 0 [(0, [], [0]), (1, [], [5]), (2, [], [16, 0]), (3, [], [18]), (4, [], [19]), (5, [], [1]), (6, [], [5]), (7, [], [21, 0]), (8, [], [23]), (9, [], [24]), (10, [], [20, 4]), (11, [], [26]), (12, [], [0, 26]), (13, [], [5, 21]), (14, [], [27, 0, 0]), (15, [], [27, 2]), (16, [], [27, 3]), (17, [], [1, 25]), (18, [], [5, 21]), (19, [], [27, 5, 0]), (20, [], [27, 7]), (21, [], [27, 8]), (22, [], [27, 4, 4]), (23, [], [27, 10]), (24, [], [27, 11])] [_, _, _, _, _, _, _, _, _, _, _, _, _, _, _, _, _, _, _, _, _, _, _, _, _]
        case' hm => exact dr
        case' hn => rfl
        case' hok => rfl
        case' hlen => rfl
        case' hd => rfl
        case' h0 => rfl
        case' hstep =>
         simp only [DAllG, push_cast, Option.isSome_some, Option.isSome_none]
         repeat' apply And.intro
         all_goals (apply DOne_V; simp only [push_cast, Nat.reduceAdd, Nat.reduceSub, Nat.reduceMul, Nat.reduceLT, Nat.reduceLeDiff, Nat.reduceEqDiff, Int.reduceToNat, ↓reduceIte, hd, Bool.not_false] <;> first | exact rfl | omega | exact ⟨rfl, rfl⟩ | exact trivial | exact ⟨by omega, rfl⟩ | exact ⟨by omega, by omega, rfl⟩ | exact ⟨by omega, rfl, rfl⟩ | exact ⟨by omega, by omega, rfl, rfl⟩ | exact ⟨by omega, trivial⟩)
        case' hQ => skip
        have hne : a ≠ b := fun e => hn (by subst e; rfl)
        simp only [push_cast, Nat.reduceAdd, Nat.reduceSub, Nat.reduceMul, Nat.reduceLT, Nat.reduceLeDiff, Nat.reduceEqDiff, Int.reduceToNat, ↓reduceIte, hd, Bool.not_false, decide_eq_false hne]
    · have e := hi.2
      rw [List.take_of_length_le (by omega), List.take_of_length_le (by omega)] at e
      simp [e]
  · have hne : a ≠ b := fun e => hl (by rw [e])
    simp [hne]
def ChB (c : Term × List (Int × List Int)) : Prop := c.1.bulk ≤ 1099511627775 ∧ c.2.length < 1099511627776 ∧ ∀ x, x ∈ c.2 → x.2.length < 1099511627776
theorem variable4_ac (s : List UInt8) (H : List AObj) : ACall Tryz.prog 45 [.str s] H (fun r H' => r = encT (.mk s true []) ∧ H' = H) := by
  refine ACall_V (H.length) 4 [.cell 2 25] Tryz.func45 rfl rfl rfl ?_
  simp only [push_cast, Nat.reduceAdd, Nat.reduceSub, Nat.reduceMul, Nat.reduceLT, Nat.reduceLeDiff, Nat.reduceEqDiff, Int.reduceToNat, ↓reduceIte]
theorem symbol4_ac (s : List UInt8) (l : List Term) (H : List AObj) : ACall Tryz.prog 44 [.str s, .sl .none (encTs l)] H (fun r H' => r = encT (.mk s false l) ∧ H' = H) := by
  refine ACall_V (H.length) 6 [.cell 4 25] Tryz.func44 rfl rfl rfl ?_
  simp only [push_cast, Nat.reduceAdd, Nat.reduceSub, Nat.reduceMul, Nat.reduceLT, Nat.reduceLeDiff, Nat.reduceEqDiff, Int.reduceToNat, ↓reduceIte]
theorem symbol40_ac (s : List UInt8) (H : List AObj) : ACall Tryz.prog 44 [.str s, .sl .zero []] H (fun r H' => r = encT (.mk s false []) ∧ H' = H) :=
  ACall.forget (args' := [.str s, .sl .none (encTs [])]) ⟨Forget.refl _, by rw [encTs_nil]; exact Forget.tok _ _, trivial⟩ (symbol4_ac s [] H)
def exA : Term := .mk [97] false []
def exB : Term := .mk [98] false []
def exX : Term := .mk [120] true []
def exF : Term := .mk [102] false [exX, exX]
def exR : List (Term × Term) := [(exA, exB), (exF, exX)]
def exT : Term := .mk [102] false [exA, exA]
theorem ex_ck : checkP exA = 0 ∧ checkP exB = 0 ∧ checkP exX = 0 ∧ checkP exF = 0 ∧ checkP exT = 0 := by
  have h1 : isNameP [97] true = true ∧ isNameP [98] true = true ∧ isNameP [102] true = true ∧ isNameP [120] false = true := by decide +kernel
  refine ⟨?_, ?_, ?_, ?_, ?_⟩ <;> rw [check_iff] <;> simp [exA, exB, exX, exF, exT, formedP_mk, fitsP, Term.size_mk, Term.depth_mk, h1]
theorem ex_rules : rulesP exR = 0 := by
  obtain ⟨h1, h2, h3, h4, h5⟩ := ex_ck
  simp [rulesP, exR, rT, firstErr, h1, h2, h3, h4]
theorem ex_nodes : nodesL (rT exR) = [([97], 0), ([98], 0), ([102], 2)] := by
  simp [exR, rT, exA, exB, exF, exX, nodesL, ndT, Term.mk_name, Term.mk_var, Term.mk_args]
theorem ex_ar : arB exR = false ∧ (arE exR).2.any (fun s => markedP s.1) = false := by
  unfold arB arE
  rw [ex_nodes]
  decide +kernel
theorem ex_extra : exR.any extraP = false := by
  simp [exR, extraP, exA, exB, exF, exX, Term.mk_var, varsP, collectP_mk, insertP, insAt]
  try decide +kernel
theorem ex_both : bothP exR exT = 0 := by
  have h : sysP exR = 0 := by
    unfold sysP
    rw [ex_rules, ex_ar.1, ex_ar.2, ex_extra]
    simp
  unfold bothP
  rw [h, ex_ck.2.2.2.2]
  simp
theorem ex_inner : underP exR exT 2 = [(0, [0]), (0, [1])] := by
  simp [underP, exR, exT, innT, innL_cons, innL_nil, atV, atF, exA, exF, exX, exB, matchP, matchTs_cons, matchTs_nil, leafM, look, insB, insAt, clash, Term.mk_name, Term.mk_var, Term.mk_args]
theorem ex_outer : underP exR exT 3 = [(1, [])] := by
  simp [underP, exR, exT, outT, outL_cons, outL_nil', atV, atF, exA, exF, exX, exB, matchP, matchTs_cons, matchTs_nil, leafM, look, insB, insAt, clash, Term.mk_name, Term.mk_var, Term.mk_args]
def exT1 : Term := .mk [102] false [exB, exA]
def exT2 : Term := .mk [102] false [exB, exB]
theorem ex_u0 : underP exR exT 4 = [(0, [0])] := by
  simp [underP, firstS, exR, exT, innT, innL_cons, innL_nil, atV, atF, exA, exF, exX, exB, matchP, matchTs_cons, matchTs_nil, leafM, look, insB, insAt, clash, Term.mk_name, Term.mk_var, Term.mk_args]
theorem ex_u1 : underP exR exT1 4 = [(0, [1])] := by
  simp [underP, firstS, exR, exT1, innT, innL_cons, innL_nil, atV, atF, exA, exF, exX, exB, matchP, matchTs_cons, matchTs_nil, leafM, look, insB, insAt, clash, Term.mk_name, Term.mk_var, Term.mk_args]
theorem ex_u2 : underP exR exT2 4 = [(1, [])] := by
  simp [underP, firstS, exR, exT2, innT, innL_cons, innL_nil, atV, atF, exA, exF, exX, exB, matchP, matchTs_cons, matchTs_nil, leafM, look, insB, insAt, clash, Term.mk_name, Term.mk_var, Term.mk_args]
theorem ex_u3 : underP exR exB 4 = [] := by
  simp [underP, firstS, exR, innT, innL_cons, innL_nil, atV, atF, exA, exF, exX, exB, matchP, matchTs_cons, matchTs_nil, leafM, look, insB, insAt, clash, Term.mk_name, Term.mk_var, Term.mk_args]
theorem ex_d0 : doE exR exT (0, [0]) = (exT1, 0) := by
  have hf : findE exR exT (0, [0]) = ([], 0) := by
    simp [findE, exR, exT, atP, ruleN, exA, exF, exX, exB, matchP, matchTs_nil, clash, Term.mk_name, Term.mk_var, Term.mk_args]
  have hr : rhsP exR exT (0, [0]) = exB := by
    unfold rhsP
    rw [hf]
    simp [ruleN, exR, exB, exX, exF, exA, applyP_mk, imageP]
  rw [do_alt, hf, hr]
  simp [exT, exT1, exA, exB, putP, fitsP, Term.size_mk, Term.depth_mk]
theorem ex_d1 : doE exR exT1 (0, [1]) = (exT2, 0) := by
  have hf : findE exR exT1 (0, [1]) = ([], 0) := by
    simp [findE, exR, exT1, atP, ruleN, exA, exF, exX, exB, matchP, matchTs_nil, clash, Term.mk_name, Term.mk_var, Term.mk_args]
  have hr : rhsP exR exT1 (0, [1]) = exB := by
    unfold rhsP
    rw [hf]
    simp [ruleN, exR, exB, exX, exF, exA, applyP_mk, imageP]
  rw [do_alt, hf, hr]
  simp [exT1, exT2, exA, exB, putP, fitsP, Term.size_mk, Term.depth_mk]
theorem ex_d2 : doE exR exT2 (1, []) = (exB, 0) := by
  have hf : findE exR exT2 (1, []) = ([([120], exB)], 0) := by
    simp [findE, exR, exT2, atP, ruleN, exA, exF, exX, exB, matchP, matchTs_cons, matchTs_nil, leafM, look, insB, insAt, clash, Term.mk_name, Term.mk_var, Term.mk_args]
  have hr : rhsP exR exT2 (1, []) = exB := by
    unfold rhsP
    rw [hf]
    simp [ruleN, exR, exB, exX, exF, exA, applyP_mk, imageP]
  rw [do_alt, hf, hr]
  simp [exT2, exB, exA, putP, fitsP, Term.size_mk, Term.depth_mk]
theorem ex_norm : normF exR 4 exT 10 exT [] = (exT, [(0, [0]), (0, [1]), (1, [])], exB, true, 0) := by
  simp [normF, ex_u0, ex_u1, ex_u2, ex_u3, ex_d0, ex_d1, ex_d2]
theorem ex_B : BndR exR ∧ exR.length = 2 ∧ exT.bulk ≤ 1099511627775 ∧ exB.bulk ≤ 1099511627775 := by
  refine ⟨fun r hr => ?_, rfl, ?_, ?_⟩
  · simp only [exR, List.mem_cons, List.not_mem_nil, or_false] at hr
    rcases hr with rfl | rfl <;> simp [exA, exB, exX, exF, Term.bulk_mk]
  · simp [exA, exT, Term.bulk_mk]
  · simp [exB, Term.bulk_mk]
theorem ex_redI : redE exR exT 2 = ([(0, [0]), (0, [1])], 0) := by unfold redE; rw [ex_both, ex_inner]; simp
theorem ex_redO : redE exR exT 3 = ([(1, [])], 0) := by unfold redE; rw [ex_both, ex_outer]; simp
theorem ex_normE : normalE exR exT 4 10 = (exT, [(0, [0]), (0, [1]), (1, [])], exB, true, 0) := by unfold normalE; rw [ex_both]; simpa using ex_norm
theorem encXX : encTs [exX, exX] = [AV.agg [.str [120], .bool true, .sl .none []], .agg [.str [120], .bool true, .sl .none []]] := by simp only [exX, encTs_cons, encTs_nil, encT, Term.mk_name, Term.mk_var, Term.mk_args]
theorem encAA : encTs [exA, exA] = [AV.agg [.str [97], .bool false, .sl .none []], .agg [.str [97], .bool false, .sl .none []]] := by simp only [exA, encTs_cons, encTs_nil, encT, Term.mk_name, Term.mk_var, Term.mk_args]
theorem enc_exR : encL encRu exR = [AV.agg [.str [97], .bool false, .sl .none [], .str [98], .bool false, .sl .none []], .agg [.str [102], .bool false, .sl .none (encTs [exX, exX]), .str [120], .bool true, .sl .none []]] := by
  simp only [encL, exR, List.map_cons, List.map_nil, encRu, exA, exB, exF, Term.mk_name, Term.mk_var, Term.mk_args, encTs_nil]
  have h : encTs exX.args = [] := encTs_nil
  rw [h]; rfl
theorem exS1_ac (H : List AObj) : ACall Tryz.prog 20 [.sl .none (encL encSt [(0, [0]), (0, [1])]), .sl .none [.agg [.int .i64 0, .sl .none [.int .i64 0]], .agg [.int .i64 0, .sl .none [.int .i64 1]]]] H (fun r H' => r = .bool true ∧ H' = H) :=
  (sameSteps_ac [(0, [0]), (0, [1])] [(0, [0]), (0, [1])] (by simp) (by simp) (by simp) (by simp) H).mono (by rintro r H' ⟨rfl, rfl⟩; exact ⟨by simp, rfl⟩)
theorem exS2_ac (H : List AObj) : ACall Tryz.prog 20 [.sl .none (encL encSt [(1, [])]), .sl .none [.agg [.int .i64 1, .sl .zero []]]] H (fun r H' => r = .bool true ∧ H' = H) := by
  refine ACall.forget (args' := [.sl .none (encL encSt [(1, [])]), .sl .none (encL encSt [(1, [])])]) ⟨Forget.refl _, ?_, trivial⟩ ((sameSteps_ac [(1, [])] [(1, [])] (by simp) (by simp) (by simp) (by simp) H).mono (by rintro r H' ⟨rfl, rfl⟩; exact ⟨by simp, rfl⟩))
  exact Forget.row _ (by simp [encL]) ⟨Forget.refl _, Forget.tok _ _, trivial⟩
theorem enc_exB : encT exB = .agg [.str [98], .bool false, .sl .none []] := by
  have h : encTs exB.args = [] := encTs_nil
  simp only [encT, h]; rfl
theorem exEq_ac (H : List AObj) : ACall Tryz.prog 25 [encT exB, .agg [.str [98], .bool false, .sl .none []]] H (fun r H' => r = .bool true ∧ H' = H) := by
  rw [← enc_exB]
  exact (equalR_ac exB exB (by simp [exB, Term.bulk_mk]) (by simp [exB, Term.bulk_mk]) H).mono (by rintro r H' ⟨rfl, rfl⟩; exact ⟨by simp, rfl⟩)
theorem alive4_ac (H : List AObj) : ACall Tryz.prog 15 [] H (fun r H' => r = .bool true ∧ H' = H) := by
  obtain ⟨b1, b2, b3, b4⟩ := ex_B
  refine ACall_V (H.length) 84 [.tmp 0] Tryz.func15 rfl rfl rfl ?_
  simp only [push_cast, Nat.reduceAdd, Nat.reduceSub, Nat.reduceMul, Nat.reduceLT, Nat.reduceLeDiff, Nat.reduceEqDiff, Int.reduceToNat, ↓reduceIte]
  refine (symbol40_ac _ _).to ?_
  simp only [push_cast, Nat.reduceAdd, Nat.reduceSub, Nat.reduceMul, Nat.reduceLT, Nat.reduceLeDiff, Nat.reduceEqDiff, Int.reduceToNat, ↓reduceIte]
  refine (symbol40_ac _ _).to ?_
  simp only [push_cast, Nat.reduceAdd, Nat.reduceSub, Nat.reduceMul, Nat.reduceLT, Nat.reduceLeDiff, Nat.reduceEqDiff, Int.reduceToNat, ↓reduceIte]
  refine (variable4_ac _ _).to ?_
  simp only [push_cast, Nat.reduceAdd, Nat.reduceSub, Nat.reduceMul, Nat.reduceLT, Nat.reduceLeDiff, Nat.reduceEqDiff, Int.reduceToNat, ↓reduceIte]
  refine (variable4_ac _ _).to ?_
  simp only [push_cast, Nat.reduceAdd, Nat.reduceSub, Nat.reduceMul, Nat.reduceLT, Nat.reduceLeDiff, Nat.reduceEqDiff, Int.reduceToNat, ↓reduceIte]
  rw [← encXX]
  refine (symbol4_ac _ [exX, exX] _).to ?_
  simp only [push_cast, Nat.reduceAdd, Nat.reduceSub, Nat.reduceMul, Nat.reduceLT, Nat.reduceLeDiff, Nat.reduceEqDiff, Int.reduceToNat, ↓reduceIte]
  refine (variable4_ac _ _).to ?_
  simp only [push_cast, Nat.reduceAdd, Nat.reduceSub, Nat.reduceMul, Nat.reduceLT, Nat.reduceLeDiff, Nat.reduceEqDiff, Int.reduceToNat, ↓reduceIte]
  refine (symbol40_ac _ _).to ?_
  simp only [push_cast, Nat.reduceAdd, Nat.reduceSub, Nat.reduceMul, Nat.reduceLT, Nat.reduceLeDiff, Nat.reduceEqDiff, Int.reduceToNat, ↓reduceIte]
  refine (symbol40_ac _ _).to ?_
  simp only [push_cast, Nat.reduceAdd, Nat.reduceSub, Nat.reduceMul, Nat.reduceLT, Nat.reduceLeDiff, Nat.reduceEqDiff, Int.reduceToNat, ↓reduceIte]
  rw [← encAA]
  refine (symbol4_ac _ [exA, exA] _).to ?_
  simp only [push_cast, Nat.reduceAdd, Nat.reduceSub, Nat.reduceMul, Nat.reduceLT, Nat.reduceLeDiff, Nat.reduceEqDiff, Int.reduceToNat, ↓reduceIte]
  rw [← enc_exR]
  refine (redexes_ac exR (by omega) b1 exT b3 2 _).to ?_
  simp only [push_cast, Nat.reduceAdd, Nat.reduceSub, Nat.reduceMul, Nat.reduceLT, Nat.reduceLeDiff, Nat.reduceEqDiff, Int.reduceToNat, ↓reduceIte, ex_redI, encLE]
  refine (redexes_ac exR (by omega) b1 exT b3 3 _).to ?_
  simp only [push_cast, Nat.reduceAdd, Nat.reduceSub, Nat.reduceMul, Nat.reduceLT, Nat.reduceLeDiff, Nat.reduceEqDiff, Int.reduceToNat, ↓reduceIte, ex_redO, encLE]
  refine (normalize_ac exR (by omega) b1 exT b3 4 10 _).to ?_
  simp only [push_cast, Nat.reduceAdd, Nat.reduceSub, Nat.reduceMul, Nat.reduceLT, Nat.reduceLeDiff, Nat.reduceEqDiff, Int.reduceToNat, ↓reduceIte, ex_normE, encNE]
  have h3 : ((0 : Int) + 1 + 1 + 1 = 3) = True := by decide
  apply AW_drawE [some 45, some 46, some 47, some 48, some 49, some 50, some 51, some 52, some 53, some 54, some 55, some 56, some 57, some 58, some 59, some 60, some 61, some 62, some 63, some 64, some 65, some 66, some 67, some 68, some 69, some 70, some 71, some 72, some 73, some 74, some 75, some 76, some 77, some 78, some 79, some 80, some 81, some 82, some 83, some 0] [([], _)] [none, none, none, none, none, none, none, none, none, none, none, none, none, none, none, none, none, none, none, none, none, none, none, none, none, none, none, none, none, none, none, none, none, none, none, none, none, none, none, none] 0 [(0, [], [4]), (1, [], [45]), (2, [], [46]), (3, [], [3, 43]), (4, [], [47]), (5, [], [47, 1]), (6, [], [47]), (7, [], [47, 3]), (8, [], [47, 2, 1]), (9, [], [47, 0, 4]), (10, [], [47, 6]), (11, [], [55]), (12, [], [6, 49]), (13, [], [56, 0]), (14, [], [56, 1]), (15, [], [59]), (16, [], [5, 54]), (17, [], [60]), (18, [], [60, 1]), (19, [], [60, 0, 1]), (20, [], [60, 3]), (21, [], [65]), (22, [], [10, 55]), (23, [], [66, 0]), (24, [], [66, 1]), (25, [], [69]), (26, [], [9, 60]), (27, [], [70, 0]), (28, [], [72]), (29, [], [7, 65]), (30, [], [73, 0]), (31, [], [73, 1]), (32, [], [73, 2]), (33, [], [73, 3]), (34, [], [78]), (35, [], [8, 70]), (36, [], [79]), (37, [], [79, 0, 0]), (38, [], [79, 2]), (39, [], [83])] [_, _, _, _, _, _, _, _, _, _, _, _, _, _, _, _, _, _, _, _, _, _, _, _, _, _, _, _, _, _, _, _, _, _, _, _, _, _, _, _]
  case' hm => exact dr
  case' hn => rfl
  case' hok => rfl
  case' hlen => rfl
  case' hd => rfl
  case' h0 => rfl
  case' hstep =>
   simp only [DAllG, push_cast, Option.isSome_some, Option.isSome_none]
   repeat' apply And.intro
   all_goals (apply DOne_V; simp only [push_cast, Nat.reduceAdd, Nat.reduceSub, Nat.reduceMul, Nat.reduceLT, Nat.reduceLeDiff, Nat.reduceEqDiff, Int.reduceToNat, ↓reduceIte, true_and, decide_true, h3] <;> first | exact rfl | omega | exact ⟨rfl, rfl⟩ | exact trivial | exact ⟨by omega, rfl⟩ | exact ⟨by omega, by omega, rfl⟩ | exact ⟨by omega, rfl, rfl⟩ | exact ⟨by omega, by omega, rfl, rfl⟩ | exact (exS1_ac _).to ⟨rfl, rfl⟩ | exact (exS2_ac _).to ⟨rfl, rfl⟩ | exact (symbol40_ac _ _).to ⟨rfl, rfl⟩ | exact (exEq_ac _).to ⟨rfl, rfl⟩)
  case' hQ => skip
  simp only [push_cast, Nat.reduceAdd, Nat.reduceSub, Nat.reduceMul, Nat.reduceLT, Nat.reduceLeDiff, Nat.reduceEqDiff, Int.reduceToNat, ↓reduceIte, h3, if_true]
end Ab
set_option maxRecDepth 10000
namespace Ab
open Go Go.Proofs
structure NormOk (t0 : Term) (k : Nat) (q : Term × List (Int × List Int) × Term × Bool × Int) : Prop where
  start : q.1 = t0 ∨ q.1 = zeroT
  len : q.2.1.length ≤ k
  pos : ∀ s, s ∈ q.2.1 → s.2.length < 4000
  last : q.2.2.1.bulk ≤ 100000
  err : q.2.2.2.2 ≠ 0 → q.2.2.1 = zeroT
theorem NormOk.ch {t0 : Term} {k : Nat} {q : Term × List (Int × List Int) × Term × Bool × Int} (h : NormOk t0 k q) (ht : t0.bulk ≤ 1099511627775) (hk : k ≤ 5000) : ChB (q.1, q.2.1) := by
  refine ⟨?_, by have := h.len; show q.2.1.length < _; omega, fun x hx => by have := h.pos x hx; omega⟩
  rcases h.start with e | e
  · show q.1.bulk ≤ _; rw [e]; exact ht
  · show q.1.bulk ≤ _; rw [e]; simp [zeroT, Term.bulk_mk]
end Ab
set_option maxRecDepth 10000
namespace Ab
open Go Go.Proofs
theorem equalSelf_ac (s : Term) (h1 : s.bulk ≤ 1099511627775) (H : List AObj) : ACall Tryz.prog 25 [encT s, encT s] H (fun r H' => r = .bool true ∧ H' = H) := by
  have := equalR_ac s s h1 h1 H
  rw [decide_eq_true rfl] at this
  exact this
theorem stepE_of {rs : List (Term × Term)} {t : Term} (h1 : sysP rs = 0) (h2 : checkP t = 0) (s : Int × List Int) : stepE rs t s = doE rs t s := by
  unfold stepE bothP
  rw [h1, h2]
  simp
end Ab
set_option maxRecDepth 10000
namespace Ab
open Go Go.Proofs
set_option maxHeartbeats 4000000 in
theorem orders_ac (rs : List (Term × Term)) (hlen : rs.length < 1099511627776) (hb : BndR rs) (t : Term) (ht : t.bulk ≤ 1099511627775) (l : List StepP) (hl : l.length < 1099511627776) (hp : ∀ s, s ∈ l → s.2.length < 1099511627776) (f : Nat) (hf : f ≤ 255) (H : List AObj) :
    ACall Tryz.prog 8 [.sl .none (encL encRu rs), encT t, .agg [.sl .none (encL encSt l), .int .u8 (f : Nat)]] H (fun r H' => r = .bool true ∧ H' = H) := by
  refine ACall_V (H.length) 61 [.tmp 6] Tryz.func8 rfl rfl rfl ?_
  simp only [push_cast, Nat.reduceAdd, Nat.reduceSub, Nat.reduceMul, Nat.reduceLT, Nat.reduceLeDiff, Nat.reduceEqDiff, Int.reduceToNat, ↓reduceIte]
  refine (parSteps_ac rs hlen hb t ht l hl hp _).to ?_
  simp only [push_cast, Nat.reduceAdd, Nat.reduceSub, Nat.reduceMul, Nat.reduceLT, Nat.reduceLeDiff, Nat.reduceEqDiff, Int.reduceToNat, ↓reduceIte]
  refine cI (fun h => ?_) (fun h => ?_)
  · have hpar : parE rs t l = togP rs t l ∧ sysP rs = 0 ∧ checkP t = 0 := by
      unfold parE at h ⊢
      by_cases hbo : bothP rs t ≠ 0
      · rw [if_pos hbo] at h; exact absurd h hbo
      · rw [if_neg hbo]; exact ⟨rfl, both_ok (by simpa using hbo)⟩
    obtain ⟨hpe, hr, hc⟩ := hpar
    have htg : (togP rs t l).2 = 0 := by rw [← hpe]; exact h
    obtain ⟨hl4, hall, hP, hlg, hfit, hte⟩ := tog_ok htg
    have hat := find_ats hall
    have hfo : ∀ s, s ∈ l → formedP (rhsP rs t s) = true := fun s hs => rhs_formed hr hc (hall s hs)
    have hxc : checkP (putsP (rhsP rs t) t l) = 0 := (check_iff _).2 ⟨puts_formed _ l t hat hP ((check_iff _).1 hc).1 hfo, hfit⟩
    have hxb := check_small hxc
    rw [hpe, hte]
    obtain ⟨x, hx⟩ : ∃ x, x = putsP (rhsP rs t) t l := ⟨_, rfl⟩
    rw [← hx] at hxb ⊢
    refine AW_loopW (maskG 64 [0, 3, 0, 1, 0, 18, 0]) (fun (i : Nat) => [(28, .int .i64 i)]) (fun i => H ++ [.cells [.str (putsP (rhsP rs t) t (rotL l f i)).name, .bool (putsP (rhsP rs t) t (rotL l f i)).var, .sl .none (encTs (putsP (rhsP rs t) t (rotL l f i)).args)], .cells [.sl .none (encL encSt l), .int .u8 (f : Nat)], .cells [.str x.name, .bool x.var, .sl .none (encTs x.args)]]) (fun i => i ≤ l.length ∧ checkP (putsP (rhsP rs t) t (rotL l f i)) = 0) (fun i => l.length - i) 0 ⟨Nat.zero_le _, hc⟩ (by simp only [push_cast, Nat.reduceAdd, Nat.reduceSub, Nat.reduceMul, Nat.reduceLT, Nat.reduceLeDiff, Nat.reduceEqDiff, Int.reduceToNat, ↓reduceIte, rot_nil, puts_nil]) (fun i hi => ?_)
    obtain ⟨hi, hci⟩ := hi
    simp only [push_cast, Nat.reduceAdd, Nat.reduceSub, Nat.reduceMul, Nat.reduceLT, Nat.reduceLeDiff, Nat.reduceEqDiff, Int.reduceToNat, ↓reduceIte]
    refine cI (fun h2 => ?_) (fun h2 => ?_)
    · have hil : i < l.length := by omega
      have hlpos : 0 < l.length := by omega
      obtain ⟨u, hu⟩ : ∃ u, u = putsP (rhsP rs t) t (rotL l f i) := ⟨_, rfl⟩
      rw [← hu] at hci ⊢
      have hub := check_small hci
      have hjl := rotI_lt f i hlpos
      have hjc : ((i : Int) + (f : Int)) % (l.length : Int) = ((rotI l.length f i : Nat) : Int) := by unfold rotI; rw [Int.natCast_emod, Int.natCast_add]
      refine ⟨by omega, by omega, by omega, by omega, ?_⟩
      rw [hjc]
      have hget := rot_get (l := l) (k := f) (j := i) hlpos
      have hdo := rot_do (k := f) hall hP hil
      rw [← hu, hget] at hdo
      have hsp := hp _ (List.getElem_mem hjl)
      have hscall := fun X => step_ac rs hlen hb u (by omega) (l[rotI l.length f i]'hjl) hsp X
      rw [stepE_of hr hci, hdo] at hscall
      have hfu : formedP (putsP (rhsP rs t) t (rotL l f (i + 1))) = true := by
        have hsub : ∀ s, s ∈ rotL l f (i + 1) → s ∈ l := fun s hs => rot_mem hlpos hs
        exact puts_formed _ _ t (hat.sub hsub) (rot_parL hP _ (by omega)) ((check_iff _).1 hc).1 (fun s hs => hfo s (hsub s hs))
      cases hfn : fitsP (putsP (rhsP rs t) t (rotL l f (i + 1))) with
      | true =>
        rw [if_pos hfn] at hscall
        apply AW_drawE [some 40, some 41, some 42, some 43, some 44, some 45, some 46, some 39, some 47, some 48, some 12, none, some 13] [([false, false], _), ([true, false], _), ([true, true], _)] [none, none, none, none, none, none, none, none, none, none, some 0, some 1, none] 2 [(0, [false, false], [0]), (1, [false, false], [4]), (2, [false, false], [7]), (3, [false, false], [11]), (4, [false, false], [42, 0]), (5, [false, false], [44]), (6, [false, false], [40, 0, 3]), (7, [false, false], [46]), (8, [false, false], [39]), (9, [false, false], [39]), (10, [false, false], []), (11, [true, false], [12, 34]), (12, [true, true], [48]), (0, [true, false], [0]), (1, [true, false], [4]), (2, [true, false], [7]), (3, [true, false], [11]), (4, [true, false], [42, 0]), (5, [true, false], [44]), (6, [true, false], [40, 0, 3]), (7, [true, false], [46]), (8, [true, false], [39]), (9, [true, false], [39]), (9, [true, true], [39])] [_, _, _, _, _, _, _, _, _, _, _, _, _]
        case' hm => exact dr
        case' hn => rfl
        case' hok => rfl
        case' hlen => rfl
        case' hd => rfl
        case' h0 => rfl
        case' hstep =>
         simp only [DAllG, push_cast, Option.isSome_some, Option.isSome_none]
         repeat' apply And.intro
         all_goals (apply DOne_V; simp only [push_cast, Nat.reduceAdd, Nat.reduceSub, Nat.reduceMul, Nat.reduceLT, Nat.reduceLeDiff, Nat.reduceEqDiff, Int.reduceToNat, ↓reduceIte] <;> first | exact rfl | omega | exact ⟨rfl, rfl⟩ | exact trivial | exact ⟨by omega, rfl⟩ | exact ⟨by omega, by omega, rfl⟩ | exact ⟨by omega, rfl, rfl⟩ | exact ⟨by omega, by omega, rfl, rfl⟩ | exact ⟨by omega, by omega, trivial⟩ | exact ⟨by omega, trivial⟩ | (refine (hscall _).to ?_; exact ⟨rfl, rfl⟩))
        case' hQ => skip
        simp only [push_cast, Nat.reduceAdd, Nat.reduceSub, Nat.reduceMul, Nat.reduceLT, Nat.reduceLeDiff, Nat.reduceEqDiff, Int.reduceToNat, ↓reduceIte]
        repeat' first | refine ⟨by omega, ?_⟩ | refine cI (fun _ => ?_) (fun _ => ?_)
        exact loopW_n (i + 1) ⟨by omega, (check_iff _).2 ⟨hfu, hfn⟩⟩ (by omega) (by simp only [push_cast, Nat.reduceAdd, Nat.reduceSub, Nat.reduceMul, Nat.reduceLT, Nat.reduceLeDiff, Nat.reduceEqDiff, Int.reduceToNat, ↓reduceIte])
      | false =>
        rw [if_neg (by rw [hfn]; simp)] at hscall
        apply AW_drawE [some 40, some 41, some 42, some 43, some 44, some 45, some 46, some 39, some 47, some 48, some 12, none, some 13] [([false, false], _), ([true, false], _), ([true, true], _)] [none, none, none, none, none, none, none, none, none, none, some 0, some 1, none] 2 [(0, [false, false], [0]), (1, [false, false], [4]), (2, [false, false], [7]), (3, [false, false], [11]), (4, [false, false], [42, 0]), (5, [false, false], [44]), (6, [false, false], [40, 0, 3]), (7, [false, false], [46]), (8, [false, false], [39]), (9, [false, false], [39]), (10, [false, false], []), (11, [true, false], [12, 34]), (12, [true, true], [48]), (0, [true, false], [0]), (1, [true, false], [4]), (2, [true, false], [7]), (3, [true, false], [11]), (4, [true, false], [42, 0]), (5, [true, false], [44]), (6, [true, false], [40, 0, 3]), (7, [true, false], [46]), (8, [true, false], [39]), (9, [true, false], [39]), (9, [true, true], [39])] [_, _, _, _, _, _, _, _, _, _, _, _, _]
        case' hm => exact dr
        case' hn => rfl
        case' hok => rfl
        case' hlen => rfl
        case' hd => rfl
        case' h0 => rfl
        case' hstep =>
         simp only [DAllG, push_cast, Option.isSome_some, Option.isSome_none]
         repeat' apply And.intro
         all_goals (apply DOne_V; simp only [push_cast, Nat.reduceAdd, Nat.reduceSub, Nat.reduceMul, Nat.reduceLT, Nat.reduceLeDiff, Nat.reduceEqDiff, Int.reduceToNat, ↓reduceIte] <;> first | exact rfl | omega | exact ⟨rfl, rfl⟩ | exact trivial | exact ⟨by omega, rfl⟩ | exact ⟨by omega, by omega, rfl⟩ | exact ⟨by omega, rfl, rfl⟩ | exact ⟨by omega, by omega, rfl, rfl⟩ | exact ⟨by omega, by omega, trivial⟩ | exact ⟨by omega, trivial⟩ | (refine (hscall _).to ?_; exact ⟨rfl, rfl⟩))
        case' hQ => skip
        simp only [push_cast, Nat.reduceAdd, Nat.reduceSub, Nat.reduceMul, Nat.reduceLT, Nat.reduceLeDiff, Nat.reduceEqDiff, Int.reduceToNat, ↓reduceIte]
        refine cI (fun h => absurd h (by decide)) (fun _ => ?_)
        refine (alive4_ac _).to ?_
        simp only [push_cast, Nat.reduceAdd, Nat.reduceSub, Nat.reduceMul, Nat.reduceLT, Nat.reduceLeDiff, Nat.reduceEqDiff, Int.reduceToNat, ↓reduceIte]
    · have hie : i = l.length := by omega
      subst hie
      rw [rot_all f hall hP, ← hx]
      refine (equalSelf_ac x (by omega) _).to ?_
      simp only [push_cast, Nat.reduceAdd, Nat.reduceSub, Nat.reduceMul, Nat.reduceLT, Nat.reduceLeDiff, Nat.reduceEqDiff, Int.reduceToNat, ↓reduceIte]
      refine (alive4_ac _).to ?_
      simp only [push_cast, Nat.reduceAdd, Nat.reduceSub, Nat.reduceMul, Nat.reduceLT, Nat.reduceLeDiff, Nat.reduceEqDiff, Int.reduceToNat, ↓reduceIte]
  · refine (alive4_ac _).to ?_
    simp only [push_cast, Nat.reduceAdd, Nat.reduceSub, Nat.reduceMul, Nat.reduceLT, Nat.reduceLeDiff, Nat.reduceEqDiff, Int.reduceToNat, ↓reduceIte]
end Ab
set_option maxRecDepth 10000
namespace Ab
open Go Go.Proofs Go.Proofs.YtgbmjnpbojcbdaaGreat
theorem cell_range {P : Program} {W : World} {b0 : Nat} {t : TypeId} {v : Value} {vs : List AV} {ts : List TypeId} {fs : Array Field} {u : TypeId} {k : IntKind} {n : Int} {i : Nat} {r : Reach} {C : Ctx}
    (hok : Value.okWide P W r b0 t v) (hu : P.underlying t = some (.struct fs)) (hts : P.cellTypes P.depth t = some ts) (hv : VRel C (.agg vs) v) (h : vs[i]? = some (.int k n)) (hti : ts[i % ts.length]? = some u) (huu : P.underlying u = some (.int k)) : k.has n := by
  unfold Value.okWide at hok
  rw [hu] at hok
  obtain ⟨cs, rfl, _, ts', hts', _, hc⟩ := hok
  rw [hts] at hts'
  injection hts' with hts'
  subst hts'
  cases hv with
  | agg _ _ hsz hrel =>
    obtain ⟨hi, hvi⟩ := List.getElem?_eq_some_iff.1 h
    have hr := hrel i hi
    rw [hvi] at hr
    obtain ⟨u', hu', hcell⟩ := hc i _ (by
      rw [Array.getElem?_eq_getElem (by omega)])
    rw [hti] at hu'
    injection hu' with hu'
    subst hu'
    generalize cs[i] = c at hr hcell
    cases hr
    unfold Cell.okWide Cell.ok at hcell
    rw [huu] at hcell
    exact hcell.2
section
variable {H : Type}
theorem kdU8 : kindOf Tryz.prog 5 = .int .u8 := by kernel_rfl
theorem kdSome : kindOf Tryz.prog 69 = .struct [27, 5] := by kernel_rfl
theorem kdSteps : kindOf Tryz.prog 27 = .slice 48 := by kernel_rfl
theorem agStep : aggK Tryz.prog 48 = true := by unfold aggK; rw [kdStep]
theorem steps_form (n : Nat) (d : DataW H) (avs : List AV) (h : toAV Tryz.prog n 27 d = some avs) : ∃ l : List StepP, avs = [.sl .none (encL encSt l)] ∧ l.length ≤ Rows.uptoBulk d ∧ ∀ s, s ∈ l → s.2.length ≤ Rows.uptoBulk d := by
  obtain ⟨xs, ds, e3, hw, _, hd⟩ := row_form (fun s : StepP => encSt s) (fun s => s.2.length + 1) Rows.uptoBulk kdSteps (n := n) (fun k d avs _ he => by
    obtain ⟨t, x1, x2⟩ := step_form k d avs he
    exact ⟨t, by rw [agStep]; exact x1, x2⟩) h
  have hb := bulk_row hd
  have := len_sum (fun s : StepP => s.2.length) xs (k := Rows.uptoBulk d) (by omega)
  exact ⟨xs, e3, this.1, this.2⟩
theorem some_form (n : Nat) (d : DataW H) (avs : List AV) (h : toAV Tryz.prog n 69 d = some avs) : ∃ (l : List StepP) (f : Int), AV.agg avs = .agg [.sl .none (encL encSt l), .int .u8 f] ∧ l.length ≤ Rows.uptoBulk d ∧ ∀ s, s ∈ l → s.2.length ≤ Rows.uptoBulk d := by
  obtain ⟨m, parts, avss, rfl, rfl, hl, hm, rfl⟩ := toAV_struct kdSome h
  match parts, hl, hm with
  | [d1, d2], _, hm =>
    obtain ⟨h1, h2⟩ := mapM_get hm
    match avss, h1, h2 with
    | [a1, a2], _, h2 =>
      obtain ⟨l, rfl, b1, c1⟩ := steps_form m d1 a1 (h2 0 (by simp) (by simp))
      obtain ⟨f, _, rfl⟩ := toAV_int kdU8 (h2 1 (by simp) (by simp))
      refine ⟨l, f, by simp, ?_⟩
      simp only [Rows.uptoBulk, Rows.uptoBulkAll]
      exact ⟨by omega, fun s hs => by have := c1 s hs; omega⟩
theorem some_range {W : World} {b0 : Nat} {v : Value} {l : List StepP} {f : Int} {r : Reach} {C : Ctx} (hok : Value.okWide Tryz.prog W r b0 69 v) (hv : VRel C (.agg [.sl .none (encL encSt l), .int .u8 f]) v) : ∃ n : Nat, f = n ∧ n ≤ 255 := by
  have h := cell_range (i := 1) (u := 5) (k := .u8) (n := f) hok Tryz.underlying69 (ts := [27, 5]) (by kernel_rfl) hv rfl rfl (by kernel_rfl)
  have h1 : (0 : Int) ≤ f ∧ f ≤ 255 := h
  exact ⟨f.toNat, by omega, by omega⟩
end
end Ab
set_option maxRecDepth 10000
namespace Go.Proofs.YtgbmjnpbojcbdaaGreat
open Go Ab
namespace nro
theorem own : ownKnob Tryz.prog.godebug = none := by kernel_rfl
theorem laid : laidOutB Tryz.prog = true := by kernel_rfl
theorem readable : ∀ t, t ∈ Tryz.f8.params.toList → Tryz.prog.readableRec t = true ∧ t < Tryz.prog.types.size := by
  rw [Tryz.params8]; intro t ht
  simp only [List.mem_cons, List.not_mem_nil, or_false] at ht
  rcases ht with rfl | rfl | rfl <;> exact ⟨by kernel_rfl, of_decide_eq_true (by kernel_rfl)⟩
theorem closed : closedK Tryz.prog [22, 80, 25, 9, 4, 23, 69, 27, 48, 3, 46, 5] = true := by kernel_rfl
theorem contract (H : Type) (enc : TypeId × Value → H) (W : World) (base : Nat) (args : Array Value) (ds gs : List (DataW H)) (before : List MemPlace)
    (hval : ∀ (j : Nat) t v, Tryz.f8.params[j]? = some t → args[j]? = some v → Value.okWide Tryz.prog W .any base t v)
    (hW : DataW.Whole enc Tryz.prog Tryz.f8.params.toList Rows.rewriteOrdersSpec.vars false W args.toList ds gs before) (hk : Rows.uptoSmall H (ds ++ gs) = true) :
    Calls Tryz.prog 8 args W fun e W' => ∃ v, e = .returned v ∧ Rows.rewriteOrdersSpec.post enc Tryz.prog Tryz.f8 false true false false W args v W' := by
  have hW' := hW
  obtain ⟨p, q, hA0, hV, rfl, hfz, hnd⟩ := hW
  have hA : DataW.TrodAll enc Tryz.prog W 0 (fun _ => true) true Tryz.f8.params.toList args.toList ds p := hA0
  rw [Tryz.params8] at hA hval
  obtain ⟨v0, vs0, d0, ds0, p0, q0, hargs, rfl, rfl, h0, r0⟩ := ChangeShapes.trodAll_cons hA
  obtain ⟨v1, vs1, d1, ds1, p1, q1, rfl, rfl, rfl, h1, r1⟩ := ChangeShapes.trodAll_cons r0
  obtain ⟨v2, vs2, d2, ds2, p2, q2, rfl, rfl, rfl, h2, r2⟩ := ChangeShapes.trodAll_cons r1
  obtain ⟨rfl, rfl, rfl⟩ := ChangeShapes.trodAll_nil r2
  obtain rfl : args = #[v0, v1, v2] := by cases args; simp_all
  have hg : gs = [] := by cases gs with | nil => rfl | cons _ _ => exact hV.elim
  subst hg
  have hb : Rows.uptoBulk d0 + Rows.uptoBulk d1 + Rows.uptoBulk d2 ≤ 1048576 := by
    have := of_decide_eq_true hk
    simp only [List.cons_append, List.nil_append, List.append_nil, Rows.uptoBulkAll] at this
    omega
  obtain ⟨n0, a0, e0, x0⟩ := arg_slice closed (by decide) Tryz.underlying22 (hval 0 _ v0 rfl rfl) h0
  obtain ⟨n1, a1, e1, x1⟩ := arg_struct closed (by decide) Tryz.underlying25 (hval 1 _ v1 rfl rfl) h1
  obtain ⟨n2, a2, e2, x2⟩ := arg_struct closed (by decide) Tryz.underlying69 (hval 2 _ v2 rfl rfl) h2
  obtain ⟨rs, f0, b0, c0⟩ := rules_form n0 d0 [a0] e0
  obtain ⟨t, f1, b1⟩ := term_form n1 d1 a1 e1
  obtain ⟨l, f, f2, b2, c2⟩ := some_form n2 d2 a2 e2
  obtain ⟨m, rfl, hm⟩ := some_range (hval 2 _ v2 rfl rfl) (f2 ▸ x2)
  try simp only [List.cons.injEq, and_true] at f0
  rw [f0] at x0; rw [f1] at x1; rw [f2] at x2
  have hc := law_calls (args := #[v0, v1, v2]) (avs := [.sl .none (encL encRu rs), encT t, .agg [.sl .none (encL encSt l), .int .u8 (m : Nat)]]) (W := W) (orders_ac rs (by omega) (fun r hr => by have := c0 r hr; omega) t (by omega) l (by omega) (fun s hs => by have := c2 s hs; omega) m hm []) (fun h => by simp [tabOn] at h) rfl (fun i hi hi' => by
    match i, hi with
    | 0, _ => exact x0
    | 1, _ => exact x1
    | 2, _ => exact x2)
  refine hc.mono fun e W' ⟨he, hbl⟩ => ?_
  subst he
  exact ⟨_, rfl, post_law rfl ⟨rfl, rfl, rfl⟩ hW' hbl rfl Tryz.underlying4 laid readable⟩
set_option maxRecDepth 100000 in
theorem lifted (os : Os) (started : os.Started) (H : Type) (enc : TypeId × Value → H) (F : Stop.Interp) :
    ReturnsInHanded {} Tryz.checked os 8 .any ((Rows.OpenSpec.upto Rows.rewriteOrdersSpec).pre6 enc Tryz.prog Tryz.f8 Rows.rewriteOrdersUptoRow.domain false) (((Rows.OpenSpec.upto Rows.rewriteOrdersSpec).at F).post enc Tryz.prog Tryz.f8 false true false false) := by
  refine returnsInHanded_of_cond (C := Tryz.checked) (s := Rows.OpenSpec.upto Rows.rewriteOrdersSpec) (k := Rows.uptoSmall) rfl own started (by kernel_rfl) Tryz.func8
    (OpenSpec.witness (enc := enc) (C := Tryz.checked) (s := Rows.OpenSpec.upto Rows.rewriteOrdersSpec) (k := Rows.uptoSmall) rfl false
      ⟨#[], #[.slice none 0 0, .agg #[.string ⟨#[]⟩, .bool false, .slice none 0 0], .agg #[.slice none 0 0, .int .u8 0]], []⟩ 8 (by kernel_rfl) (by kernel_rfl) (by kernel_rfl)
      (x := ([.nil, .agg [.lit (.string []), .lit (.bool false), .nil], .agg [.nil, .lit (.int .u8 0)]], [], [])) (by kernel_rfl) rfl (by kernel_rfl)) ?_
  intro W base args ds gs before hval hW _ hk _
  exact contract H enc W base args ds gs before hval hW hk
theorem over : Rows.rewriteOrdersUptoRow.holds Tryz.pinned (Rows.OpenSpec.upto Rows.rewriteOrdersSpec) :=
  OpenClaim.holds_of_cond 8 Tryz.f8 rfl rfl rfl rfl rfl rfl rfl ⟨rfl, rfl, rfl, rfl, rfl⟩ rfl rfl rfl rfl rfl (by kernel_rfl) Tryz.func8 (by kernel_rfl)
    (of_decide_eq_true (by kernel_rfl)) (by unfold Func.isWrapper; first | (rw [if_pos (by decide +kernel)]; kernel_rfl) | (rw [if_neg (by decide +kernel)]; exact ⟨rfl, rfl⟩))
    (fun os started H enc _ F => lifted os started H enc F)
end nro
theorem rewriteOrders_upto : Rows.RewriteOrdersUptoSaid := nro.over
end Go.Proofs.YtgbmjnpbojcbdaaGreat
