/- Part 5 of 6 of a proof. The law DeriveExplores of chapter 05 returns true at every input up to the bound: Explore, Normals and Longest are the reference's. -/
import Derived.Test.YtpgjcbeoipldgaaGreatRe4
import Derived.Laws.MakeOwn
set_option linter.unusedVariables false
set_option linter.unusedSimpArgs false
set_option maxRecDepth 10000
namespace Ab
open Go Go.Proofs
def matchRs : List Term → List Term → List (List UInt8 × Term) → List (List UInt8 × Term) × Bool
  | .mk n v xs :: r, y :: r', σ =>
    if v then (if (leafM σ n y).2 then matchRs r r' (leafM σ n y).1 else ([], false))
    else if clash n xs.length y then ([], false)
    else if (matchRs xs y.args σ).2 then matchRs r r' (matchRs xs y.args σ).1 else ([], false)
  | _, _, σ => (σ, true)
def matchR (p t : Term) (σ : List (List UInt8 × Term)) : List (List UInt8 × Term) × Bool :=
  if p.var then leafM σ p.name t else if clash p.name p.args.length t then ([], false) else matchRs p.args t.args σ
theorem matchR_v (n : List UInt8) (xs : List Term) (y : Term) (σ : List (List UInt8 × Term)) : matchR (.mk n true xs) y σ = leafM σ n y := by unfold matchR; exact if_pos rfl
theorem matchR_c {n : List UInt8} {xs : List Term} {y : Term} (σ : List (List UInt8 × Term)) (h : clash n xs.length y = true) : matchR (.mk n false xs) y σ = ([], false) := by
  unfold matchR
  exact (if_neg (by simp [Term.var_mk])).trans (if_pos h)
theorem matchR_g {n : List UInt8} {xs : List Term} {y : Term} (σ : List (List UInt8 × Term)) (h : clash n xs.length y = false) : matchR (.mk n false xs) y σ = matchRs xs y.args σ := by
  unfold matchR
  exact (if_neg (by simp [Term.var_mk])).trans (if_neg (fun e => by rw [show clash (Term.mk n false xs).name (Term.mk n false xs).args.length y = clash n xs.length y from rfl, h] at e; cases e))
theorem matchRs_cons (p y : Term) (r r' : List Term) (σ : List (List UInt8 × Term)) : matchRs (p :: r) (y :: r') σ = if (matchR p y σ).2 then matchRs r r' (matchR p y σ).1 else ([], false) := by
  cases p with
  | mk n v xs =>
    rw [matchRs]
    cases v with
    | true => rw [matchR_v]; simp
    | false =>
      cases hc : clash n xs.length y with
      | true => rw [matchR_c σ hc]; simp
      | false => rw [matchR_g σ hc]; simp
theorem matchRs_nil (ys : List Term) (σ : List (List UInt8 × Term)) : matchRs [] ys σ = (σ, true) := by cases ys <;> simp [matchRs]
theorem matchRs_eq : ∀ (xs ys : List Term) (σ : List (List UInt8 × Term)), (matchRs xs ys σ).2 = (matchTs xs ys σ).2 ∧ ((matchTs xs ys σ).2 = true → matchRs xs ys σ = matchTs xs ys σ)
  | [], ys, σ => by rw [matchRs_nil, matchTs_nil]; exact ⟨rfl, fun _ => rfl⟩
  | .mk n v xs :: r, [], σ => by simp [matchRs, matchTs]
  | .mk n v xs :: r, y :: r', σ => by
    have one : (matchR (.mk n v xs) y σ).2 = (matchP (.mk n v xs) y σ).2 ∧ ((matchP (.mk n v xs) y σ).2 = true → matchR (.mk n v xs) y σ = matchP (.mk n v xs) y σ) := by
      cases v with
      | true => rw [matchR_v, matchP_v]; exact ⟨rfl, fun _ => rfl⟩
      | false =>
        cases hc : clash n xs.length y with
        | true => rw [matchR_c σ hc, matchP_c σ hc]; exact ⟨rfl, fun h => by cases h⟩
        | false => rw [matchR_g σ hc, matchP_g σ hc]; exact matchRs_eq xs y.args σ
    rw [matchRs_cons, matchTs_cons, one.1]
    cases hq : (matchP (.mk n v xs) y σ).2 with
    | false => simp
    | true =>
      simp only [if_true]
      rw [one.2 hq]
      exact matchRs_eq r r' _
theorem matchRs_one (x y : Term) (σ : List (List UInt8 × Term)) : (matchRs [x] [y] σ).2 = (matchR x y σ).2 ∧ ((matchR x y σ).2 = true → matchRs [x] [y] σ = matchR x y σ) := by
  rw [matchRs_cons, matchRs_nil]
  cases h : (matchR x y σ).2 with
  | true => simp only [if_true]; exact ⟨by simp, fun _ => by rw [← h]⟩
  | false => simp
theorem matchR_eq (p t : Term) (σ : List (List UInt8 × Term)) : (matchR p t σ).2 = (matchP p t σ).2 ∧ ((matchP p t σ).2 = true → matchR p t σ = matchP p t σ) := by
  obtain ⟨h1, h2⟩ := matchRs_eq [p] [t] σ
  obtain ⟨g1, g2⟩ := matchRs_one p t σ
  rw [matchTs_one] at h1 h2
  exact ⟨g1.symm.trans h1, fun h => (g2 (g1.symm.trans (h1.trans h))).symm.trans (h2 h)⟩
theorem matchRs_split : ∀ (a a' b b' : List Term) (σ : List (List UInt8 × Term)), a.length = a'.length → matchRs (a ++ b) (a' ++ b') σ = if (matchRs a a' σ).2 then matchRs b b' (matchRs a a' σ).1 else ([], false)
  | [], [], b, b', σ, _ => by rw [matchRs_nil]; simp
  | [], _ :: _, _, _, _, h => by simp at h
  | _ :: _, [], _, _, _, h => by simp at h
  | x :: r, y :: r', b, b', σ, h => by
    rw [List.cons_append, List.cons_append, matchRs_cons, matchRs_cons]
    cases hq : (matchR x y σ).2 with
    | false => simp
    | true =>
      simp only [if_true]
      exact matchRs_split r r' b b' _ (by simpa using h)
theorem matchRs_step {xs ys : List Term} {σ : List (List UInt8 × Term)} (i : Nat) (h1 : i < xs.length) (h2 : i < ys.length) (h : (matchRs (xs.take i) (ys.take i) σ).2 = true) :
    ((matchR xs[i] ys[i] (matchRs (xs.take i) (ys.take i) σ).1).2 = true → matchRs (xs.take (i + 1)) (ys.take (i + 1)) σ = matchR xs[i] ys[i] (matchRs (xs.take i) (ys.take i) σ).1) ∧
    ((matchR xs[i] ys[i] (matchRs (xs.take i) (ys.take i) σ).1).2 = false → matchRs xs ys σ = ([], false)) := by
  have e : matchRs (xs.take (i + 1)) (ys.take (i + 1)) σ = matchRs [xs[i]] [ys[i]] (matchRs (xs.take i) (ys.take i) σ).1 := by
    rw [List.take_succ_eq_append_getElem h1, List.take_succ_eq_append_getElem h2, matchRs_split _ _ _ _ _ (by rw [List.length_take, List.length_take]; omega), h]
    simp only [if_true]
  obtain ⟨g1, g2⟩ := matchRs_one xs[i] ys[i] (matchRs (xs.take i) (ys.take i) σ).1
  refine ⟨fun hq => e.trans (g2 hq), fun hq => ?_⟩
  have hs := matchRs_split (xs.take (i + 1)) (ys.take (i + 1)) (xs.drop (i + 1)) (ys.drop (i + 1)) σ (by rw [List.length_take, List.length_take]; omega)
  rw [List.take_append_drop, List.take_append_drop, e, g1, hq] at hs
  rw [hs]; simp
theorem bound_ac (σ : List (List UInt8 × Term)) (v : List UInt8) (hlen : σ.length < 1099511627776) (H : List AObj) : ACall Tryz.prog 187 [.sl .none (encL encBd σ), .str v] H (fun r H' => r = .bool (look σ v).isSome ∧ H' = H) := by
  have key : (look σ v).isSome = σ.any fun b => decide (b.1 = v) := by
    unfold look
    rw [Option.isSome_map, Bool.eq_iff_iff, List.find?_isSome, List.any_eq_true]
  refine ACall_V (H.length) 16 [.tmp 4] Tryz.func187 rfl rfl rfl ?_
  simp only [push_cast, Nat.reduceAdd, Nat.reduceSub, Nat.reduceMul, Nat.reduceLT, Nat.reduceLeDiff, Nat.reduceEqDiff, Int.reduceToNat, ↓reduceIte]
  refine AW_loopW (maskG 18 [1, 5, 0, 0]) (fun (i : Nat) => [(9, .int .i64 i)]) (fun _ => H) (fun i => i ≤ σ.length ∧ (σ.take i).any (fun b => decide (b.1 = v)) = false) (fun i => σ.length - i) 0 ⟨Nat.zero_le _, by simp⟩ (by simp only [push_cast, Nat.reduceAdd, Nat.reduceSub, Nat.reduceMul, Nat.reduceLT, Nat.reduceLeDiff, Nat.reduceEqDiff, Int.reduceToNat, ↓reduceIte]) (fun i hi => ?_)
  simp only [push_cast, Nat.reduceAdd, Nat.reduceSub, Nat.reduceMul, Nat.reduceLT, Nat.reduceLeDiff, Nat.reduceEqDiff, Int.reduceToNat, ↓reduceIte]
  refine cI (fun h => ?_) (fun h => ?_)
  · have hil : i < σ.length := by omega
    repeat refine ⟨by omega, ?_⟩
    refine cI (fun he => ?_) (fun he => ?_)
    · rw [key, any_get hil (by simpa using he)]
    · repeat' first | refine ⟨by omega, ?_⟩ | refine cI (fun _ => ?_) (fun _ => ?_)
      exact loopW_n (i + 1) ⟨by omega, any_take_false hi.2 hil (by simpa using he)⟩ (by omega) (by simp only [push_cast, Nat.reduceAdd, Nat.reduceSub, Nat.reduceMul, Nat.reduceLT, Nat.reduceLeDiff, Nat.reduceEqDiff, Int.reduceToNat, ↓reduceIte])
  · have e := hi.2
    rw [List.take_of_length_le (by omega)] at e
    rw [key, e]
theorem with_ac (σ : List (List UInt8 × Term)) (v : List UInt8) (t : Term) (hlen : σ.length < 1099511627775) (hv : v.length < 1099511627776) (hn : ∀ b, b ∈ σ → b.1.length < 1099511627776) (H : List AObj) :
    ACall Tryz.prog 188 [.sl .none (encL encBd σ), .str v, encT t] H (fun r H' => r = .sl .none (encL encBd (insB σ v t)) ∧ H' = H) := by
  refine ACall_VA (H.length) 35 [.tmp 6] Tryz.func188 rfl rfl rfl ?_
  refine AW_reserve 1 ?_
  refine AW_of_W ?_
  simp only [push_cast, Nat.reduceAdd, Nat.reduceSub, Nat.reduceMul, Nat.reduceLT, Nat.reduceLeDiff, Nat.reduceEqDiff, Int.reduceToNat, ↓reduceIte]
  refine AW_loopW (maskG 38 [0, 0, 3, 1]) (fun (i : Nat) => [(7, .int .i64 i)]) (fun _ => H ++ [.dead, .cells [.str t.name, .bool t.var, .sl .none (encTs t.args)]]) (fun i => i ≤ σ.length ∧ ∀ j (h : j < σ.length), j < i → Lib.compareBytes σ[j].1 v < 0) (fun i => σ.length - i) 0 ⟨Nat.zero_le _, fun j h1 h => by omega⟩ (by simp only [push_cast, Nat.reduceAdd, Nat.reduceSub, Nat.reduceMul, Nat.reduceLT, Nat.reduceLeDiff, Nat.reduceEqDiff, Int.reduceToNat, ↓reduceIte]) (fun i hi => ?_)
  simp only [push_cast, Nat.reduceAdd, Nat.reduceSub, Nat.reduceMul, Nat.reduceLT, Nat.reduceLeDiff, Nat.reduceEqDiff, Int.reduceToNat, ↓reduceIte]
  have hdr : List.take (σ.length - i) (List.drop i σ) = σ.drop i := List.take_of_length_le (by simp)
  have hfin : (∀ h : i < σ.length, ¬ Lib.compareBytes σ[i].1 v < 0) → insB σ v t = σ.take i ++ ([(v, t)] ++ σ.drop i) := by
    intro h1
    have hia := insAt_eq (σ.map (·.1)) v i (by rw [List.length_map]; exact hi.1) (fun j hj hji => by rw [List.getElem_map]; exact hi.2 j (by simpa using hj) hji) (fun hj => by rw [List.getElem_map]; exact h1 (by simpa using hj))
    unfold insB
    rw [hia, List.append_assoc]
  refine cI (fun h => ?_) (fun h => ?_)
  · have hil : i < σ.length := by omega
    refine ⟨hil, ?_⟩
    refine (cmpNames_ac (σ[i]'hil).1 v (hn _ (List.getElem_mem hil)) hv _).to ?_
    simp only [push_cast, Nat.reduceAdd, Nat.reduceSub, Nat.reduceMul, Nat.reduceLT, Nat.reduceLeDiff, Nat.reduceEqDiff, Int.reduceToNat, ↓reduceIte]
    refine cI (fun hc => ?_) (fun hc => ?_)
    · repeat' first | refine ⟨by omega, ?_⟩ | refine cI (fun _ => ?_) (fun _ => ?_)
      refine loopW_n (i + 1) ⟨by omega, fun j h1 h => ?_⟩ (by omega) (by simp only [push_cast, Nat.reduceAdd, Nat.reduceSub, Nat.reduceMul, Nat.reduceLT, Nat.reduceLeDiff, Nat.reduceEqDiff, Int.reduceToNat, ↓reduceIte])
      rcases Nat.lt_or_ge j i with hj | hj
      · exact hi.2 j h1 hj
      · have hji : j = i := by omega
        subst hji; exact hc
    · skip
      apply AW_drawE [some 24, some 25, some 26, some 27, some 28, some 29, some 30, some 31, some 32, some 33, some 34, some 35, some 36, some 37, some 6] [([false, false, false], _), ([true, false, false], _), ([true, true, false], _), ([true, true, true], _)] [none, none, none, none, some 0, none, none, none, none, some 1, none, none, none, some 2, none] 3 [(0, [false, false, false], []), (1, [false, false, false], [0]), (2, [false, false, false], [7]), (3, [false, false, false], [25, 0]), (4, [false, false, false], [24, 2]), (5, [true, false, false], [1]), (6, [true, false, false], [5]), (7, [true, false, false], [29, 0]), (8, [true, false, false], [31]), (9, [true, false, false], [28, 3]), (10, [true, true, false], [0]), (11, [true, true, false], [7]), (12, [true, true, false], [34, 0]), (13, [true, true, false], [33, 2]), (14, [true, true, true], [37]), (1, [true, false, false], [0]), (1, [true, true, false], [0]), (1, [true, true, true], [0]), (2, [true, false, false], [7]), (2, [true, true, false], [7]), (2, [true, true, true], [7]), (5, [false, false, false], [1]), (5, [true, true, false], [1]), (5, [true, true, true], [1]), (6, [false, false, false], [5]), (6, [true, true, false], [5]), (6, [true, true, true], [5]), (7, [false, false, false], [29, 0]), (7, [true, true, false], [29, 0]), (7, [true, true, true], [29, 0]), (8, [false, false, false], [31]), (10, [false, false, false], [0]), (10, [true, false, false], [0]), (10, [true, true, true], [0]), (11, [false, false, false], [7]), (11, [true, false, false], [7]), (11, [true, true, true], [7]), (12, [false, false, false], [34, 0]), (12, [true, false, false], [34, 0])] [_, _, _, _, _, _, _, _, _, _, _, _, _, _, _]
      case' hm => exact dr
      case' hn => rfl
      case' hok => rfl
      case' hlen => rfl
      case' hd => rfl
      case' h0 => rfl
      case' hstep =>
       simp only [DAllG, push_cast, Option.isSome_some, Option.isSome_none]
       repeat' apply And.intro
       all_goals (apply DOne_V; simp only [push_cast, Nat.reduceAdd, Nat.reduceSub, Nat.reduceMul, Nat.reduceLT, Nat.reduceLeDiff, Nat.reduceEqDiff, Int.reduceToNat, ↓reduceIte, List.drop_zero, Nat.sub_zero, hdr] <;> first | exact rfl | omega | exact ⟨rfl, rfl⟩ | exact trivial | exact ⟨by omega, rfl⟩ | exact ⟨by omega, by omega, rfl⟩ | exact ⟨by omega, rfl, rfl⟩ | exact ⟨by omega, by omega, rfl, rfl⟩ | (refine app_L encBd (sz := 4) (fun _ => rfl) cellBd _ H.length [] (σ.take i) _ rfl rfl (by exact aget0 _ _ _) sl49 sz107 by107 zr107 rfl (by decide) (by decide) (by simp; omega) ?_; simp only [push_cast, Nat.reduceAdd, Nat.reduceSub, Nat.reduceMul, Nat.reduceLT, Nat.reduceLeDiff, Nat.reduceEqDiff, Int.reduceToNat, ↓reduceIte, List.nil_append]; exact ⟨rfl, rfl⟩) | (refine app1_L encBd (sz := 4) (fun _ => rfl) cellBd _ H.length (σ.take i) (v, t) _ rfl rfl (by exact aget0 _ _ _) sl49 sz107 by107 zr107 rfl (by decide) (by decide) (by simp; omega) ?_; simp only [push_cast, Nat.reduceAdd, Nat.reduceSub, Nat.reduceMul, Nat.reduceLT, Nat.reduceLeDiff, Nat.reduceEqDiff, Int.reduceToNat, ↓reduceIte]; exact ⟨rfl, rfl⟩) | (refine app_L encBd (sz := 4) (fun _ => rfl) cellBd _ H.length (σ.take i ++ [(v, t)]) (σ.drop i) _ rfl rfl (by exact aget0 _ _ _) sl49 sz107 by107 zr107 rfl (by decide) (by decide) (by simp; omega) ?_; simp only [push_cast, Nat.reduceAdd, Nat.reduceSub, Nat.reduceMul, Nat.reduceLT, Nat.reduceLeDiff, Nat.reduceEqDiff, Int.reduceToNat, ↓reduceIte]; exact ⟨rfl, rfl⟩))
      case' hQ => skip
      simp only [push_cast, Nat.reduceAdd, Nat.reduceSub, Nat.reduceMul, Nat.reduceLT, Nat.reduceLeDiff, Nat.reduceEqDiff, Int.reduceToNat, ↓reduceIte, hfin (fun _ => hc)]
  · skip
    apply AW_drawE [some 24, some 25, some 26, some 27, some 28, some 29, some 30, some 31, some 32, some 33, some 34, some 35, some 36, some 37, some 6] [([false, false, false], _), ([true, false, false], _), ([true, true, false], _), ([true, true, true], _)] [none, none, none, none, some 0, none, none, none, none, some 1, none, none, none, some 2, none] 3 [(0, [false, false, false], []), (1, [false, false, false], [0]), (2, [false, false, false], [7]), (3, [false, false, false], [25, 0]), (4, [false, false, false], [24, 2]), (5, [true, false, false], [1]), (6, [true, false, false], [5]), (7, [true, false, false], [29, 0]), (8, [true, false, false], [31]), (9, [true, false, false], [28, 3]), (10, [true, true, false], [0]), (11, [true, true, false], [7]), (12, [true, true, false], [34, 0]), (13, [true, true, false], [33, 2]), (14, [true, true, true], [37]), (1, [true, false, false], [0]), (1, [true, true, false], [0]), (1, [true, true, true], [0]), (2, [true, false, false], [7]), (2, [true, true, false], [7]), (2, [true, true, true], [7]), (5, [false, false, false], [1]), (5, [true, true, false], [1]), (5, [true, true, true], [1]), (6, [false, false, false], [5]), (6, [true, true, false], [5]), (6, [true, true, true], [5]), (7, [false, false, false], [29, 0]), (7, [true, true, false], [29, 0]), (7, [true, true, true], [29, 0]), (8, [false, false, false], [31]), (10, [false, false, false], [0]), (10, [true, false, false], [0]), (10, [true, true, true], [0]), (11, [false, false, false], [7]), (11, [true, false, false], [7]), (11, [true, true, true], [7]), (12, [false, false, false], [34, 0]), (12, [true, false, false], [34, 0])] [_, _, _, _, _, _, _, _, _, _, _, _, _, _, _]
    case' hm => exact dr
    case' hn => rfl
    case' hok => rfl
    case' hlen => rfl
    case' hd => rfl
    case' h0 => rfl
    case' hstep =>
     simp only [DAllG, push_cast, Option.isSome_some, Option.isSome_none]
     repeat' apply And.intro
     all_goals (apply DOne_V; simp only [push_cast, Nat.reduceAdd, Nat.reduceSub, Nat.reduceMul, Nat.reduceLT, Nat.reduceLeDiff, Nat.reduceEqDiff, Int.reduceToNat, ↓reduceIte, List.drop_zero, Nat.sub_zero, hdr] <;> first | exact rfl | omega | exact ⟨rfl, rfl⟩ | exact trivial | exact ⟨by omega, rfl⟩ | exact ⟨by omega, by omega, rfl⟩ | exact ⟨by omega, rfl, rfl⟩ | exact ⟨by omega, by omega, rfl, rfl⟩ | (refine app_L encBd (sz := 4) (fun _ => rfl) cellBd _ H.length [] (σ.take i) _ rfl rfl (by exact aget0 _ _ _) sl49 sz107 by107 zr107 rfl (by decide) (by decide) (by simp; omega) ?_; simp only [push_cast, Nat.reduceAdd, Nat.reduceSub, Nat.reduceMul, Nat.reduceLT, Nat.reduceLeDiff, Nat.reduceEqDiff, Int.reduceToNat, ↓reduceIte, List.nil_append]; exact ⟨rfl, rfl⟩) | (refine app1_L encBd (sz := 4) (fun _ => rfl) cellBd _ H.length (σ.take i) (v, t) _ rfl rfl (by exact aget0 _ _ _) sl49 sz107 by107 zr107 rfl (by decide) (by decide) (by simp; omega) ?_; simp only [push_cast, Nat.reduceAdd, Nat.reduceSub, Nat.reduceMul, Nat.reduceLT, Nat.reduceLeDiff, Nat.reduceEqDiff, Int.reduceToNat, ↓reduceIte]; exact ⟨rfl, rfl⟩) | (refine app_L encBd (sz := 4) (fun _ => rfl) cellBd _ H.length (σ.take i ++ [(v, t)]) (σ.drop i) _ rfl rfl (by exact aget0 _ _ _) sl49 sz107 by107 zr107 rfl (by decide) (by decide) (by simp; omega) ?_; simp only [push_cast, Nat.reduceAdd, Nat.reduceSub, Nat.reduceMul, Nat.reduceLT, Nat.reduceLeDiff, Nat.reduceEqDiff, Int.reduceToNat, ↓reduceIte]; exact ⟨rfl, rfl⟩))
    case' hQ => skip
    simp only [push_cast, Nat.reduceAdd, Nat.reduceSub, Nat.reduceMul, Nat.reduceLT, Nat.reduceLeDiff, Nat.reduceEqDiff, Int.reduceToNat, ↓reduceIte, hfin (fun hh => absurd hh (by omega))]
theorem matchRs_ok : ∀ (xs ys : List Term) (σ : List (List UInt8 × Term)), SortedN (σ.map (·.1)) → (matchRs xs ys σ).2 = true → MatchOk σ (matchRs xs ys σ).1 (fun x => ∃ y, y ∈ ys ∧ SubT y x) ∧ (matchRs xs ys σ).1.length ≤ σ.length + (xs.map Term.size).sum := fun xs ys σ hs h => by
  obtain ⟨h1, h2⟩ := matchRs_eq xs ys σ
  rw [h2 (h1.symm.trans h)]
  exact matchTs_ok xs ys σ hs
theorem match_names : ∀ (xs ys : List Term) (σ : List (List UInt8 × Term)) (B : Nat), (∀ x, x ∈ xs → x.bulk ≤ B) → (∀ b, b ∈ σ → b.1.length ≤ B) → ∀ b, b ∈ (matchTs xs ys σ).1 → b.1.length ≤ B
  | [], ys, σ, B, _, h => by rw [matchTs_nil]; exact h
  | .mk n u xs :: r, [], σ, B, _, h => by rw [matchTs_nil2]; exact h
  | .mk n u xs :: r, y :: r', σ, B, hx, h => by
    have h0 := hx (.mk n u xs) (by simp)
    have hnl := Term.name_le (n := n) (v := u) (xs := xs)
    have one : ∀ b, b ∈ (matchP (.mk n u xs) y σ).1 → b.1.length ≤ B := by
      cases u with
      | true =>
        rw [matchP_v]
        unfold leafM
        split
        · exact h
        · intro b hb
          rcases (mem_insB b).1 hb with hb | rfl
          · exact h b hb
          · show n.length ≤ B; omega
      | false =>
        cases hc : clash n xs.length y with
        | true => rw [matchP_c σ hc]; exact h
        | false =>
          rw [matchP_g σ hc]
          exact match_names xs y.args σ B (fun x hx' => by have := Term.arg_le (n := n) (v := false) hx'; omega) h
    rw [matchTs_cons]
    cases (matchP (.mk n u xs) y σ).2 with
    | false => simpa using one
    | true => simp only [if_true]; exact match_names r r' _ B (fun x hx' => hx x (by simp [hx'])) one
theorem matchR_ac (p : Term) : ∀ (t : Term) (σ : List (List UInt8 × Term)), SortedN (σ.map (·.1)) → p.bulk ≤ 1099511627774 → t.bulk ≤ 1099511627775 → (∀ b, b ∈ σ → b.2.bulk ≤ 1099511627775 ∧ b.1.length ≤ 1099511627774) → σ.length + p.size < 1099511627775 →
    ∀ H, ACall Tryz.prog 173 [.sl .none (encL encBd σ), encT p, encT t] H (fun r H' => r = .tup [.sl .none (encL encBd (matchR p t σ).1), .bool (matchR p t σ).2] ∧ H' = H) := by
  induction p using Term.ind with | _ n u xs ih
  intro t σ hs hb hb2 hb3 hl H
  obtain ⟨n2, u2, ys⟩ := t
  have hlx := Term.len_le (n := n) (v := u) (xs := xs)
  have hnx := Term.name_le (n := n) (v := u) (xs := xs)
  have hly := Term.len_le (n := n2) (v := u2) (xs := ys)
  have hz := Term.size_mk n u xs
  refine ACall_V (H.length) 70 [.tmp 6, .tmp 7] Tryz.func173 rfl rfl rfl ?_
  cases u with
  | true =>
    rw [matchR_v]
    simp only [push_cast, Nat.reduceAdd, Nat.reduceSub, Nat.reduceMul, Nat.reduceLT, Nat.reduceLeDiff, Nat.reduceEqDiff, Int.reduceToNat, ↓reduceIte]
    refine (bound_ac σ n (by omega) _).to ?_
    cases hlk : look σ n with
    | some x =>
      have hx := hb3 (n, x) (look_some_mem hlk)
      have e : leafM σ n (.mk n2 u2 ys) = (σ, decide (x = .mk n2 u2 ys)) := by unfold leafM; rw [hlk]
      have ei : imageP σ n = x := by rw [image_look, hlk]; rfl
      simp only [push_cast, Nat.reduceAdd, Nat.reduceSub, Nat.reduceMul, Nat.reduceLT, Nat.reduceLeDiff, Nat.reduceEqDiff, Int.reduceToNat, ↓reduceIte, Option.isSome_some]
      apply AW_drawE [some 17, some 18, some 19, some 20, some 21, some 22, some 23, some 6, some 7] [([], _)] [none, none, none, none, none, none, none, none, none] 0 [(0, [], [0]), (1, [], [0]), (2, [], [4]), (3, [], [19]), (4, [], [18, 1]), (5, [], [5]), (6, [], [21, 0]), (7, [], [17]), (8, [], [23])] [_, _, _, _, _, _, _, _, _]
      case' hm => exact dr
      case' hn => rfl
      case' hok => rfl
      case' hlen => rfl
      case' hd => rfl
      case' h0 => rfl
      case' hstep =>
       simp only [DAllG, push_cast, Option.isSome_some, Option.isSome_none]
       repeat' apply And.intro
       all_goals (apply DOne_V; simp only [push_cast, Nat.reduceAdd, Nat.reduceSub, Nat.reduceMul, Nat.reduceLT, Nat.reduceLeDiff, Nat.reduceEqDiff, Int.reduceToNat, ↓reduceIte] <;> first | exact rfl | omega | exact ⟨rfl, rfl⟩ | exact trivial | exact ⟨by omega, rfl⟩ | exact ⟨by omega, by omega, rfl⟩ | exact ⟨by omega, rfl, rfl⟩ | exact ⟨by omega, by omega, rfl, rfl⟩ | exact (imageR_ac σ n (by omega) _).to ⟨rfl, rfl⟩ | (rw [ei]; exact (equalR_ac x (.mk n2 u2 ys) hx.1 hb2 _).to ⟨rfl, rfl⟩))
      case' hQ => skip
      simp only [push_cast, Nat.reduceAdd, Nat.reduceSub, Nat.reduceMul, Nat.reduceLT, Nat.reduceLeDiff, Nat.reduceEqDiff, Int.reduceToNat, ↓reduceIte, e]
    | none =>
      have e : leafM σ n (.mk n2 u2 ys) = (insB σ n (.mk n2 u2 ys), true) := by unfold leafM; rw [hlk]
      simp only [push_cast, Nat.reduceAdd, Nat.reduceSub, Nat.reduceMul, Nat.reduceLT, Nat.reduceLeDiff, Nat.reduceEqDiff, Int.reduceToNat, ↓reduceIte, Option.isSome_none]
      refine (with_ac σ n (.mk n2 u2 ys) (by omega) (by omega) (fun b hb' => by have := (hb3 b hb').2; omega) _).to ?_
      simp only [push_cast, Nat.reduceAdd, Nat.reduceSub, Nat.reduceMul, Nat.reduceLT, Nat.reduceLeDiff, Nat.reduceEqDiff, Int.reduceToNat, ↓reduceIte, e]
  | false =>
    simp only [push_cast, Nat.reduceAdd, Nat.reduceSub, Nat.reduceMul, Nat.reduceLT, Nat.reduceLeDiff, Nat.reduceEqDiff, Int.reduceToNat, ↓reduceIte]
    cases u2 with
    | true =>
      have e : matchR (.mk n false xs) (.mk n2 true ys) σ = ([], false) := matchR_c σ (by simp [clash, Term.var_mk])
      refine cI (fun _ => ?_) (fun h => absurd rfl h)
      simp only [push_cast, Nat.reduceAdd, Nat.reduceSub, Nat.reduceMul, Nat.reduceLT, Nat.reduceLeDiff, Nat.reduceEqDiff, Int.reduceToNat, ↓reduceIte, e, encL_nil]
    | false =>
      refine cI (fun h => absurd h (by decide)) (fun _ => ?_)
      refine cI (fun hn => ?_) (fun hn => ?_)
      · subst hn
        refine cI (fun hq => ?_) (fun hq => ?_)
        · have hlen : xs.length = ys.length := by omega
          have hc : clash n2 xs.length (.mk n2 false ys) = false := clash_false.2 ⟨rfl, rfl, hlen⟩
          have eg : matchR (.mk n2 false xs) (.mk n2 false ys) σ = matchRs xs ys σ := matchR_g σ hc
          rw [eg]
          refine AW_loopW (maskG 73 [0, 3, 0, 43, 0]) (fun (i : Nat) => [(50, .int .i64 i), (0, .sl .none (encL encBd (matchRs (xs.take i) (ys.take i) σ).1))]) (fun i => H ++ [.cells [.str n2, .bool false, .sl .none (encTs xs)], .cells [.str n2, .bool false, .sl .none (encTs ys)]]) (fun i => i ≤ xs.length ∧ (matchRs (xs.take i) (ys.take i) σ).2 = true) (fun i => xs.length - i) 0 ⟨Nat.zero_le _, by rw [List.take_zero, matchRs_nil]⟩ (by simp only [push_cast, Nat.reduceAdd, Nat.reduceSub, Nat.reduceMul, Nat.reduceLT, Nat.reduceLeDiff, Nat.reduceEqDiff, Int.reduceToNat, ↓reduceIte, List.take_zero, matchRs_nil]) (fun i hi => ?_)
          simp only [push_cast, Nat.reduceAdd, Nat.reduceSub, Nat.reduceMul, Nat.reduceLT, Nat.reduceLeDiff, Nat.reduceEqDiff, Int.reduceToNat, ↓reduceIte]
          refine cI (fun h => ?_) (fun h => ?_)
          · have hix : i < xs.length := by omega
            have hiy : i < ys.length := by omega
            repeat refine ⟨by omega, ?_⟩
            obtain ⟨o1, o2⟩ := matchRs_ok (xs.take i) (ys.take i) σ hs hi.2
            have onm : ∀ b, b ∈ (matchRs (xs.take i) (ys.take i) σ).1 → b.1.length ≤ 1099511627774 := by
              obtain ⟨z1, z2⟩ := matchRs_eq (xs.take i) (ys.take i) σ
              rw [z2 (z1.symm.trans hi.2)]
              exact match_names _ _ _ _ (fun x hx => by have := Term.arg_le (n := n2) (v := false) (List.mem_of_mem_take hx); omega) (fun b hb' => (hb3 b hb').2)
            have hsum := take_sum_le Term.size xs i
            have hxi := le_sum Term.size (xs.drop i) xs[i] (by rw [List.drop_eq_getElem_cons hix]; exact List.mem_cons_self)
            have hsm : ((xs.take i).map Term.size).sum + ((xs.drop i).map Term.size).sum = (xs.map Term.size).sum := by rw [← List.sum_append, ← List.map_append, List.take_append_drop]
            have hstep := fun X => ih _ (List.getElem_mem hix) ys[i] (matchRs (xs.take i) (ys.take i) σ).1 o1.sorted (arg_bulk hb i hix) (arg_bulk hb2 i hiy) (fun b hb' => ⟨by
              rcases o1.new b hb' with h | ⟨y, hy, h⟩
              · exact (hb3 b h).1
              · have h5 := h.bulk
                have h6 := Term.arg_le (n := n2) (v := false) (List.mem_of_mem_take hy)
                omega, onm b hb'⟩) (by omega) X
            obtain ⟨st1, st2⟩ := matchRs_step i hix hiy hi.2
            apply AW_drawE [some 54, some 55, some 56, some 57, some 58, some 59, some 60, some 61, some 62, some 63, some 64, some 65, some 53, some 66, some 67, some 9, some 10] [([], _)] [none, none, none, none, none, none, none, none, none, none, none, none, none, none, none, none, none] 0 [(0, [], [0]), (1, [], [4]), (2, [], [55]), (3, [], [8]), (4, [], [56, 0]), (5, [], [58]), (6, [], [5]), (7, [], [60]), (8, [], [8]), (9, [], [61, 0]), (10, [], [63]), (11, [], [54, 4, 4]), (12, [], [65]), (13, [], [53]), (14, [], [53]), (15, [], [66]), (16, [], [67])] [_, _, _, _, _, _, _, _, _, _, _, _, _, _, _, _, _]
            case' hm => exact dr
            case' hn => rfl
            case' hok => rfl
            case' hlen => rfl
            case' hd => rfl
            case' h0 => rfl
            case' hstep =>
             simp only [DAllG, push_cast, Option.isSome_some, Option.isSome_none]
             repeat' apply And.intro
             all_goals (apply DOne_V; simp only [push_cast, Nat.reduceAdd, Nat.reduceSub, Nat.reduceMul, Nat.reduceLT, Nat.reduceLeDiff, Nat.reduceEqDiff, Int.reduceToNat, ↓reduceIte] <;> first | exact rfl | omega | exact ⟨rfl, rfl⟩ | exact trivial | exact ⟨by omega, rfl⟩ | exact ⟨by omega, by omega, rfl⟩ | exact ⟨by omega, rfl, rfl⟩ | exact ⟨by omega, by omega, rfl, rfl⟩ | exact ⟨by omega, trivial⟩ | exact (hstep _).to ⟨rfl, rfl⟩)
            case' hQ => skip
            simp only [push_cast, Nat.reduceAdd, Nat.reduceSub, Nat.reduceMul, Nat.reduceLT, Nat.reduceLeDiff, Nat.reduceEqDiff, Int.reduceToNat, ↓reduceIte]
            refine cI (fun hq => ?_) (fun hq => ?_)
            · repeat' first | refine ⟨by omega, ?_⟩ | refine cI (fun _ => ?_) (fun _ => ?_)
              refine loopW_n (i + 1) ⟨by omega, by rw [st1 hq]; exact hq⟩ (by omega) ?_
              rw [st1 hq]
              simp only [push_cast, Nat.reduceAdd, Nat.reduceSub, Nat.reduceMul, Nat.reduceLT, Nat.reduceLeDiff, Nat.reduceEqDiff, Int.reduceToNat, ↓reduceIte]
            · simp only [push_cast, Nat.reduceAdd, Nat.reduceSub, Nat.reduceMul, Nat.reduceLT, Nat.reduceLeDiff, Nat.reduceEqDiff, Int.reduceToNat, ↓reduceIte, st2 (by simpa using hq), encL_nil]
          · have hil : i = xs.length := by omega
            rw [List.take_of_length_le (show xs.length ≤ i by omega), List.take_of_length_le (show ys.length ≤ i by omega)] at hi ⊢
            simp only [push_cast, Nat.reduceAdd, Nat.reduceSub, Nat.reduceMul, Nat.reduceLT, Nat.reduceLeDiff, Nat.reduceEqDiff, Int.reduceToNat, ↓reduceIte, hi.2]
        · have hc : clash n2 xs.length (.mk n2 false ys) = true := by
            cases hcl : clash n2 xs.length (.mk n2 false ys) with
            | true => rfl
            | false => exact absurd (clash_false.1 hcl).2.2 (by show ¬ xs.length = ys.length; omega)
          have e := matchR_c σ hc
          simp only [push_cast, Nat.reduceAdd, Nat.reduceSub, Nat.reduceMul, Nat.reduceLT, Nat.reduceLeDiff, Nat.reduceEqDiff, Int.reduceToNat, ↓reduceIte, e, encL_nil]
      · have hc : clash n xs.length (.mk n2 false ys) = true := by
          cases hcl : clash n xs.length (.mk n2 false ys) with
          | true => rfl
          | false => exact absurd (clash_false.1 hcl).2.1.symm hn
        have e := matchR_c σ hc
        simp only [push_cast, Nat.reduceAdd, Nat.reduceSub, Nat.reduceMul, Nat.reduceLT, Nat.reduceLeDiff, Nat.reduceEqDiff, Int.reduceToNat, ↓reduceIte, e, encL_nil]
theorem matchRef_ac (p t : Term) (hb : p.bulk ≤ 1099511627770) (hb2 : t.bulk ≤ 1099511627775) (H : List AObj) :
    ACall Tryz.prog 139 [encT p, encT t] H (fun r H' => r = .tup [.sl .none (encL encBd (matchR p t []).1), .bool (matchR p t []).2] ∧ H' = H) := by
  have hsz := p.size_le
  refine ACall_V (H.length) 9 [.tmp 4, .tmp 5] Tryz.func139 rfl rfl rfl ?_
  simp only [push_cast, Nat.reduceAdd, Nat.reduceSub, Nat.reduceMul, Nat.reduceLT, Nat.reduceLeDiff, Nat.reduceEqDiff, Int.reduceToNat, ↓reduceIte]
  refine ACall.forget (args' := [.sl .none (encL encBd []), encT p, encT t]) ⟨Forget.tok _ _, Forget.refl _, Forget.refl _, trivial⟩ ((matchR_ac p t [] (by simp [SortedN]) (by omega) hb2 (by simp) (by simp; omega) _).to ?_)
  simp only [push_cast, Nat.reduceAdd, Nat.reduceSub, Nat.reduceMul, Nat.reduceLT, Nat.reduceLeDiff, Nat.reduceEqDiff, Int.reduceToNat, ↓reduceIte]
end Ab
set_option maxRecDepth 10000
namespace Ab
open Go Go.Proofs
theorem walkL_at : ∀ (xs : List Term) (i : Nat) (p : List Int) x, x ∈ walkL xs i p → ∃ k : Nat, ∃ h : k < xs.length, ∃ q, x.1 = p ++ ((i + k : Nat) : Int) :: q ∧ atP xs[k] q = some x.2
  | [], _, _, x, hx => by simp [walkL] at hx
  | .mk n v ys :: r, i, p, x, hx => by
    rw [walkL_cons, List.mem_append] at hx
    rcases hx with hx | hx
    · refine ⟨0, by simp, ?_⟩
      simp only [walkT, List.mem_cons, Term.mk_args] at hx
      rcases hx with rfl | hx
      · exact ⟨[], by simp, by simp [atP]⟩
      · obtain ⟨k, h, q, h1, h2⟩ := walkL_at ys 0 (p ++ [(i : Int)]) x hx
        refine ⟨((0 + k : Nat) : Int) :: q, by rw [h1]; simp, ?_⟩
        have := (at_step (.mk n v ys) ((0 + k : Nat) : Int) q).1 ⟨by omega, by show (((0 + k : Nat) : Int)).toNat < ys.length; omega⟩
        simp only [List.getElem_cons_zero]
        rw [this, ← h2]
        congr 1
        show ys[_] = ys[_]
        congr 1; omega
    · obtain ⟨k, h, q, h1, h2⟩ := walkL_at r (i + 1) p x (by exact_mod_cast hx)
      refine ⟨k + 1, by simpa using h, q, by rw [h1]; congr 2; omega, by simpa using h2⟩
theorem walk_at (t : Term) (x : List Int × Term) (h : x ∈ walkT t []) : atP t x.1 = some x.2 := by
  cases t with
  | mk n v ys =>
    simp only [walkT, List.mem_cons, Term.mk_args] at h
    rcases h with rfl | h
    · simp [atP]
    · obtain ⟨k, hk, q, h1, h2⟩ := walkL_at ys 0 [] x h
      rw [h1]
      have := (at_step (.mk n v ys) ((0 + k : Nat) : Int) q).1 ⟨by omega, by show (((0 + k : Nat) : Int)).toNat < ys.length; omega⟩
      rw [List.nil_append, this, ← h2]
      congr 1
      show ys[_] = ys[_]
      congr 1; omega
theorem allSteps_ac (rs : List (Term × Term)) (hr : SysB rs) (t : Term) (hb : t.bulk ≤ 1000000000) (H : List AObj) : ACall Tryz.prog 85 [.sl .none (encL encRu rs), encT t] H (fun r H' => r = .sl .none (encL encSt (allS rs t)) ∧ H' = H) := by
  have hsz := t.size_le
  have hr1 := hr.1
  refine ACall_V (H.length) 17 [.tmp 4] Tryz.func85 rfl rfl rfl ?_
  simp only [push_cast, Nat.reduceAdd, Nat.reduceSub, Nat.reduceMul, Nat.reduceLT, Nat.reduceLeDiff, Nat.reduceEqDiff, Int.reduceToNat, ↓reduceIte]
  refine (walkF_ac t _).to ?_
  simp only [push_cast, Nat.reduceAdd, Nat.reduceSub, Nat.reduceMul, Nat.reduceLT, Nat.reduceLeDiff, Nat.reduceEqDiff, Int.reduceToNat, ↓reduceIte]
  refine AW_reserve 1 ?_
  refine AW_iterW _ _ (walk_iter t (by omega) _) H (fun pre => [.cells [.sl .none (encL encRu rs)], .cells [.str t.name, .bool t.var, .sl .none (encTs t.args)], .cells [gSl (H.length + 4) (encL encSt (allI rs pre))], .cells [.str t.name, .bool t.var, .sl .none (encTs t.args)], gTok 86 2 (encL encSt (allI rs pre))]) 5 (fun _ _ => none) rfl ok153 (by simp only [push_cast, Nat.reduceAdd, Nat.reduceSub, Nat.reduceMul, Nat.reduceLT, Nat.reduceLeDiff, Nat.reduceEqDiff, Int.reduceToNat, ↓reduceIte, allI_nil, encL_nil]) (fun _ => rfl) (fun lp => by simp only [push_cast, Nat.reduceAdd, Nat.reduceSub, Nat.reduceMul, Nat.reduceLT, Nat.reduceLeDiff, Nat.reduceEqDiff, Int.reduceToNat, ↓reduceIte]) (fun p => by simp only [push_cast, Nat.reduceAdd, Nat.reduceSub, Nat.reduceMul, Nat.reduceLT, Nat.reduceLeDiff, Nat.reduceEqDiff, Int.reduceToNat, ↓reduceIte]) (fun _ => rfl) (fun pre x suf X l lp lp' he hn => ?_) (fun _ lp => ?_) (fun pre x suf c lp _ _ h => by cases h)
  · have hx := walk_pos_len t [] x (by rw [he]; simp)
    have hxb : x.2.bulk ≤ t.bulk := (at_bulk _ _ _ (walk_at t x (by rw [he]; simp)))
    have hpl : pre.length < t.size := by have := walkT_length t []; rw [he] at this; simp at this; omega
    have hal := allI_len rs pre
    have hmul : pre.length * rs.length ≤ 1000000000 * 64 := Nat.mul_le_mul (by omega) hr1
    have hav := atV_len rs x.1 x.2
    simp only [push_cast, Nat.reduceAdd, Nat.reduceSub, Nat.reduceMul, Nat.reduceLT, Nat.reduceLeDiff, Nat.reduceEqDiff, Int.reduceToNat, ↓reduceIte, List.drop_length]
    apply AW_drawE [some 12, some 13, some 14, some 15, some 16, some 17, none] [([false, false, false], _), ([true, false, false], _), ([true, true, false], _), ([true, true, true], _)] [none, none, none, none, some 0, some 1, some 2] 3 [(0, [false, false, false], [5]), (1, [false, false, false], [2]), (2, [false, false, false], [6]), (3, [false, false, false], [7]), (4, [false, false, false], [13, 0, 0]), (5, [true, false, false], [12, 3]), (6, [true, true, false], [5, 11]), (0, [true, false, false], [5])] [_, _, _, _, _, _, _]
    case' hm => exact dr
    case' hn => rfl
    case' hok => rfl
    case' hlen => rfl
    case' hd => rfl
    case' h0 => rfl
    case' hstep =>
     simp only [DAllG, push_cast, Option.isSome_some, Option.isSome_none]
     repeat' apply And.intro
     all_goals (apply DOne_V; simp only [push_cast, Nat.reduceAdd, Nat.reduceSub, Nat.reduceMul, Nat.reduceLT, Nat.reduceLeDiff, Nat.reduceEqDiff, Int.reduceToNat, ↓reduceIte] <;> first | exact rfl | omega | exact ⟨rfl, rfl⟩ | exact trivial | exact ⟨by omega, rfl⟩ | exact ⟨by omega, by omega, rfl⟩ | exact ⟨by omega, rfl, rfl⟩ | exact ⟨by omega, by omega, rfl, rfl⟩ | exact (at_ac' rs hr x.1 (by simp at hx; omega) x.2 (by omega) _).to ⟨rfl, rfl⟩ | (refine app_L encSt (sz := 2) (fun _ => rfl) cellSt _ (H.length + 4) (allI rs pre) (atV rs x.1 x.2) _ rfl rfl (by exact (agetN _ _ 4).trans rfl) sl26 sz86 by86 zr86 rfl (by decide) (by decide) (by omega) ?_; simp only [push_cast, Nat.reduceAdd, Nat.reduceSub, Nat.reduceMul, Nat.reduceLT, Nat.reduceLeDiff, Nat.reduceEqDiff, Int.reduceToNat, ↓reduceIte]; exact ⟨rfl, rfl⟩))
    case' hQ => skip
    simp only [push_cast, Nat.reduceAdd, Nat.reduceSub, Nat.reduceMul, Nat.reduceLT, Nat.reduceLeDiff, Nat.reduceEqDiff, Int.reduceToNat, ↓reduceIte, allI_snoc]
  · simp only [push_cast, Nat.reduceAdd, Nat.reduceSub, Nat.reduceMul, Nat.reduceLT, Nat.reduceLeDiff, Nat.reduceEqDiff, Int.reduceToNat, ↓reduceIte, allS]
end Ab
set_option maxRecDepth 10000
namespace Ab
open Go
theorem allI_mem {rs : List (Term × Term)} {items : List (List Int × Term)} {s : Int × List Int} (h : s ∈ allI rs items) : ∃ x, x ∈ items ∧ s.2 = x.1 ∧ s ∈ atV rs x.1 x.2 := by
  unfold allI at h
  obtain ⟨x, hx, hs⟩ := List.mem_flatMap.1 h
  exact ⟨x, hx, atV_pos hs, hs⟩
end Ab
set_option maxRecDepth 10000
namespace Ab
open Go Go.Proofs
def bothP (rs : List (Term × Term)) (t : Term) : Int := if sysP rs ≠ 0 then sysP rs else checkP t
theorem both_ac (rs : List (Term × Term)) (hlen : rs.length < 1099511627776) (hb : BndR rs) (t : Term) (ht : t.bulk ≤ 1099511627775) (H : List AObj) : ACall Tryz.prog 75 [.sl .none (encL encRu rs), encT t] H (fun r H' => r = .int .i64 (bothP rs t) ∧ H' = H) := by
  refine ACall_V (H.length) 11 [.tmp 4] Tryz.func75 rfl rfl rfl ?_
  simp only [push_cast, Nat.reduceAdd, Nat.reduceSub, Nat.reduceMul, Nat.reduceLT, Nat.reduceLeDiff, Nat.reduceEqDiff, Int.reduceToNat, ↓reduceIte]
  refine (checkSystem_ac rs hlen hb _).to ?_
  simp only [push_cast, Nat.reduceAdd, Nat.reduceSub, Nat.reduceMul, Nat.reduceLT, Nat.reduceLeDiff, Nat.reduceEqDiff, Int.reduceToNat, ↓reduceIte]
  refine cI (fun h => ?_) (fun h => ?_)
  · refine (check_ac t ht _).to ?_
    simp only [push_cast, Nat.reduceAdd, Nat.reduceSub, Nat.reduceMul, Nat.reduceLT, Nat.reduceLeDiff, Nat.reduceEqDiff, Int.reduceToNat, ↓reduceIte, bothP, h]
    simp
  · simp only [push_cast, Nat.reduceAdd, Nat.reduceSub, Nat.reduceMul, Nat.reduceLT, Nat.reduceLeDiff, Nat.reduceEqDiff, Int.reduceToNat, ↓reduceIte, bothP, h]
    simp [h]
theorem step_len {rs : List (Term × Term)} {t : Term} {s : Int × List Int} (h : s ∈ allS rs t) : s.2.length < t.size := by
  obtain ⟨x, hx, e, _⟩ := allI_mem h
  have := walk_pos_len t [] x hx
  rw [e]; simpa using this
end Ab
set_option maxRecDepth 10000
namespace Ab
open Go Go.Proofs
def allJ (rs : List (Term × Term)) (items : List (List Int × Term)) : List (Int × List Int) := items.flatMap fun x => atF rs 0 x.1 x.2
theorem allJ_take (rs : List (Term × Term)) (items : List (List Int × Term)) (i : Nat) (h : i < items.length) : allJ rs (items.take (i + 1)) = allJ rs (items.take i) ++ atF rs 0 items[i].1 items[i].2 := by
  rw [List.take_succ_eq_append_getElem h]
  unfold allJ
  rw [List.flatMap_append, List.flatMap_cons, List.flatMap_nil, List.append_nil]
theorem allJ_nil (rs : List (Term × Term)) : allJ rs [] = [] := (rfl)
theorem allJ_len (rs : List (Term × Term)) : ∀ items : List (List Int × Term), (allJ rs items).length ≤ items.length * rs.length
  | [] => by simp [allJ]
  | x :: l => by
    have h1 := allJ_len rs l
    have h2 := atF_len rs 0 x.1 x.2
    have e : allJ rs (x :: l) = atF rs 0 x.1 x.2 ++ allJ rs l := by simp [allJ]
    rw [e, List.length_append, List.length_cons, Nat.add_mul]
    omega
theorem atF_var : ∀ (rs : List (Term × Term)) (k : Nat) (p : List Int) (s : Term), (∀ r, r ∈ rs → r.1.var = false) → s.var = true → atF rs k p s = []
  | [], _, _, _, _, _ => rfl
  | r :: rs, k, p, s, hv, hs => by
    rw [atF, atF_var rs (k + 1) p s (fun x hx => hv x (by simp [hx])) hs]
    have h0 := hv r (by simp)
    have : (matchP r.1 s []).2 = false := by
      cases hr : r.1 with
      | mk n v xs =>
        rw [hr] at h0
        have h0 : v = false := h0
        subst h0
        rw [matchP_c [] (by simp [clash, hs])]
    simp [this]
theorem allJ_eq {rs : List (Term × Term)} (hv : ∀ r, r ∈ rs → r.1.var = false) (items : List (List Int × Term)) : allJ rs items = allI rs items := by
  unfold allJ allI
  congr 1
  funext x
  unfold atV
  by_cases h : x.2.var = true
  · rw [if_pos h, atF_var rs 0 x.1 x.2 hv h]
  · rw [if_neg h]
theorem allRef_ac (rs : List (Term × Term)) (hr : SysB rs) (t : Term) (hb : t.bulk ≤ 1000000000) (H : List AObj) : ACall Tryz.prog 104 [.sl .none (encL encRu rs), encT t] H (fun r H' => r = .sl .none (encL encSt (allJ rs (walkT t []))) ∧ H' = H) := by
  have hsz := t.size_le
  obtain ⟨hr1, hr2⟩ := hr
  obtain ⟨L, hL⟩ : ∃ L, L = walkT t [] := ⟨_, rfl⟩
  have hLl : L.length = t.size := by rw [hL, walkT_length]
  have hpl : (posP t).length = L.length := by rw [posP_len, hLl]
  have hpg : ∀ i (h : i < L.length) (h' : i < (posP t).length), (posP t)[i] = L[i].1 := fun i h h' => by simp [posP, hL]
  rw [← hL]
  refine ACall_VA (H.length) 49 [.tmp 4] Tryz.func104 rfl rfl rfl ?_
  refine AW_reserve 1 ?_
  refine AW_of_W ?_
  simp only [push_cast, Nat.reduceAdd, Nat.reduceSub, Nat.reduceMul, Nat.reduceLT, Nat.reduceLeDiff, Nat.reduceEqDiff, Int.reduceToNat, ↓reduceIte]
  refine (positionsR_ac t (by omega) _).to ?_
  simp only [push_cast, Nat.reduceAdd, Nat.reduceSub, Nat.reduceMul, Nat.reduceLT, Nat.reduceLeDiff, Nat.reduceEqDiff, Int.reduceToNat, ↓reduceIte]
  refine AW_loopW (maskG 51 [0, 2, 1, 8, 0, 0]) (fun (i : Nat) => [(16, .int .i64 i), (5, gSl H.length (encL encSt (allJ rs (L.take i))))]) (fun i => H ++ [gTok 86 2 (encL encSt (allJ rs (L.take i))), .cells [.str t.name, .bool t.var, .sl .none (encTs t.args)]]) (fun i => i ≤ L.length) (fun i => L.length - i) 0 (Nat.zero_le _) (by simp only [push_cast, Nat.reduceAdd, Nat.reduceSub, Nat.reduceMul, Nat.reduceLT, Nat.reduceLeDiff, Nat.reduceEqDiff, Int.reduceToNat, ↓reduceIte, List.take_zero, allJ_nil, encL_nil]) (fun i hi => ?_)
  simp only [push_cast, Nat.reduceAdd, Nat.reduceSub, Nat.reduceMul, Nat.reduceLT, Nat.reduceLeDiff, Nat.reduceEqDiff, Int.reduceToNat, ↓reduceIte]
  refine cI (fun h => ?_) (fun h => ?_)
  · have hil : i < L.length := by omega
    have hip : i < (posP t).length := by omega
    refine ⟨hip, ?_⟩
    rw [hpg i hil hip]
    have hx : L[i] ∈ walkT t [] := by rw [← hL]; exact List.getElem_mem hil
    have hxl := walk_pos_len t [] L[i] hx
    have hxa := walk_at t L[i] hx
    have hxb := at_bulk _ _ _ hxa
    refine (atR_ac t L[i].1 (by omega) (by simp at hxl; omega) _).to ?_
    simp only [hxa]
    simp only [push_cast, Nat.reduceAdd, Nat.reduceSub, Nat.reduceMul, Nat.reduceLT, Nat.reduceLeDiff, Nat.reduceEqDiff, Int.reduceToNat, ↓reduceIte]
    obtain ⟨p, hp⟩ : ∃ p, p = L[i].1 := ⟨_, rfl⟩
    obtain ⟨s, hs⟩ : ∃ s, s = L[i].2 := ⟨_, rfl⟩
    rw [← hp, ← hs]
    rw [← hs] at hxb
    have hst := allJ_take rs L i hil
    rw [← hp, ← hs] at hst
    have hjl := allJ_len rs (L.take i)
    have hjm : (L.take i).length * rs.length ≤ 1000000000 * 64 := Nat.mul_le_mul (by rw [List.length_take]; omega) hr1
    refine AW_loopW (maskG 51 [0, 2, 1, 1, 0, 5, 0, 0, 10, 0]) (fun (j : Nat) => [(28, .int .i64 j), (5, gSl H.length (encL encSt (allJ rs (L.take i) ++ atF (rs.take j) 0 p s)))]) (fun j => H ++ [gTok 86 2 (encL encSt (allJ rs (L.take i) ++ atF (rs.take j) 0 p s)), .cells [.str t.name, .bool t.var, .sl .none (encTs t.args)], .cells [.str s.name, .bool s.var, .sl .none (encTs s.args)]]) (fun j => j ≤ rs.length) (fun j => rs.length - j) 0 (Nat.zero_le _) (by simp only [push_cast, Nat.reduceAdd, Nat.reduceSub, Nat.reduceMul, Nat.reduceLT, Nat.reduceLeDiff, Nat.reduceEqDiff, Int.reduceToNat, ↓reduceIte, List.take_zero, atF, List.append_nil]) (fun j hj => ?_)
    simp only [push_cast, Nat.reduceAdd, Nat.reduceSub, Nat.reduceMul, Nat.reduceLT, Nat.reduceLeDiff, Nat.reduceEqDiff, Int.reduceToNat, ↓reduceIte]
    refine cI (fun h2 => ?_) (fun h2 => ?_)
    · have hjr : j < rs.length := by omega
      repeat refine ⟨by omega, ?_⟩
      have hjb := hr2 _ (List.getElem_mem hjr)
      have hst2 := atF_take rs p s j hjr
      have hal := atF_len (rs.take j) 0 p s
      rw [List.length_take] at hal
      apply AW_drawE [some 32, some 33, some 34, some 35, some 36, some 37, some 38, some 31, some 39, some 40, some 11, some 12] [([], _)] [none, none, none, none, none, none, none, none, none, none, none, none] 0 [(0, [], [0]), (1, [], [10]), (2, [], [32, 0]), (3, [], [34]), (4, [], [35]), (5, [], [8]), (6, [], [36, 0]), (7, [], [38]), (8, [], [31]), (9, [], [31]), (10, [], [39]), (11, [], [40])] [_, _, _, _, _, _, _, _, _, _, _, _]
      case' hm => exact dr
      case' hn => rfl
      case' hok => rfl
      case' hlen => rfl
      case' hd => rfl
      case' h0 => rfl
      case' hstep =>
       simp only [DAllG, push_cast, Option.isSome_some, Option.isSome_none]
       repeat' apply And.intro
       all_goals (apply DOne_V; simp only [push_cast, Nat.reduceAdd, Nat.reduceSub, Nat.reduceMul, Nat.reduceLT, Nat.reduceLeDiff, Nat.reduceEqDiff, Int.reduceToNat, ↓reduceIte] <;> first | exact rfl | omega | exact ⟨rfl, rfl⟩ | exact trivial | exact ⟨by omega, rfl⟩ | exact ⟨by omega, by omega, rfl⟩ | exact ⟨by omega, rfl, rfl⟩ | exact ⟨by omega, by omega, rfl, rfl⟩ | exact ⟨by omega, trivial⟩ | exact (matchRef_ac (rs[j]'hjr).1 s hjb.1 (by omega) _).to ⟨rfl, rfl⟩)
      case' hQ => skip
      rw [(matchR_eq _ _ _).1]
      simp only [push_cast, Nat.reduceAdd, Nat.reduceSub, Nat.reduceMul, Nat.reduceLT, Nat.reduceLeDiff, Nat.reduceEqDiff, Int.reduceToNat, ↓reduceIte]
      refine cI (fun hm => ?_) (fun hm => ?_)
      · rw [if_pos hm] at hst2
        refine app1_L encSt (sz := 2) (fun _ => rfl) cellSt _ H.length (allJ rs (L.take i) ++ atF (rs.take j) 0 p s) ((j : Int), p) _ rfl rfl (by exact aget0 _ _ _) sl26 sz86 by86 zr86 rfl (by decide) (by decide) (by rw [List.length_append]; omega) ?_
        rw [List.append_assoc, ← hst2]
        simp only [push_cast, Nat.reduceAdd, Nat.reduceSub, Nat.reduceMul, Nat.reduceLT, Nat.reduceLeDiff, Nat.reduceEqDiff, Int.reduceToNat, ↓reduceIte]
        repeat' first | refine ⟨by omega, ?_⟩ | refine cI (fun _ => ?_) (fun _ => ?_)
        exact loopW_n (j + 1) (by omega) (by omega) (by simp only [push_cast, Nat.reduceAdd, Nat.reduceSub, Nat.reduceMul, Nat.reduceLT, Nat.reduceLeDiff, Nat.reduceEqDiff, Int.reduceToNat, ↓reduceIte])
      · rw [if_neg hm, List.append_nil] at hst2
        repeat' first | refine ⟨by omega, ?_⟩ | refine cI (fun _ => ?_) (fun _ => ?_)
        refine loopW_n (j + 1) (by omega) (by omega) ?_
        rw [hst2]
        simp only [push_cast, Nat.reduceAdd, Nat.reduceSub, Nat.reduceMul, Nat.reduceLT, Nat.reduceLeDiff, Nat.reduceEqDiff, Int.reduceToNat, ↓reduceIte]
    · have hjl2 : j = rs.length := by omega
      subst hjl2
      rw [List.take_length, ← hst]
      repeat' first | refine ⟨by omega, ?_⟩ | refine cI (fun _ => ?_) (fun _ => ?_)
      exact loopW_n (i + 1) (by omega) (by omega) (by simp only [push_cast, Nat.reduceAdd, Nat.reduceSub, Nat.reduceMul, Nat.reduceLT, Nat.reduceLeDiff, Nat.reduceEqDiff, Int.reduceToNat, ↓reduceIte])
  · rw [List.take_of_length_le (show L.length ≤ i by omega)]
end Ab
set_option maxRecDepth 10000
namespace Ab
open Go Go.Proofs
theorem replace_ac (σ : List (List UInt8 × Term)) (hs : SortedN (σ.map (·.1))) (hlen : σ.length < 1099511627776) (hbk : ∀ b, b ∈ σ → b.2.bulk ≤ 1099511627775) (t : Term) : t.bulk ≤ 1099511627775 → ∀ H, ACall Tryz.prog 116 [.sl .none (encL encBd σ), encT t] H (fun r H' => r = encT (applyP σ t) ∧ H' = H) := by
  induction t using Term.ind with | _ n u xs ih
  intro hb H
  have hl := Term.len_le (n := n) (v := u) (xs := xs)
  cases u with
  | true =>
    rw [applyP_t, image_look]
    refine ACall_V (H.length) 43 [.cell 4 25] Tryz.func116 rfl rfl rfl ?_
    simp only [push_cast, Nat.reduceAdd, Nat.reduceSub, Nat.reduceMul, Nat.reduceLT, Nat.reduceLeDiff, Nat.reduceEqDiff, Int.reduceToNat, ↓reduceIte]
    refine (imageT_ac σ hs n hlen _).to ?_
    rcases look_cases (σ := σ) n with ⟨b, hbm, _, e⟩ | e
    · have hbb := hbk b hbm
      simp only [push_cast, Nat.reduceAdd, Nat.reduceSub, Nat.reduceMul, Nat.reduceLT, Nat.reduceLeDiff, Nat.reduceEqDiff, Int.reduceToNat, ↓reduceIte, e, Option.isSome_some, Option.getD_some]
      refine (own_ac b.2 (by omega) _).to ?_
      simp only [push_cast, Nat.reduceAdd, Nat.reduceSub, Nat.reduceMul, Nat.reduceLT, Nat.reduceLeDiff, Nat.reduceEqDiff, Int.reduceToNat, ↓reduceIte]
    · simp only [push_cast, Nat.reduceAdd, Nat.reduceSub, Nat.reduceMul, Nat.reduceLT, Nat.reduceLeDiff, Nat.reduceEqDiff, Int.reduceToNat, ↓reduceIte, e, Option.isSome_none, Option.getD_none]
  | false =>
    rw [applyP_f]
    refine ACall_V (H.length) 43 [.cell 4 25] Tryz.func116 rfl rfl rfl ?_
    simp only [push_cast, Nat.reduceAdd, Nat.reduceSub, Nat.reduceMul, Nat.reduceLT, Nat.reduceLeDiff, Nat.reduceEqDiff, Int.reduceToNat, ↓reduceIte]
    refine AW_reserve 1 ?_
    refine AW_loopW (maskG 45 [0, 3, 2, 21, 0, 0]) (fun (i : Nat) => [(31, .int .i64 i)]) (fun i => H ++ [.cells [.str n, .bool false, .sl .none (encTs xs)], .cells [.str [], .bool false, .sl .zero []], .cells [.str n, .bool false, gSl (H.length + 3) (encTs (appL σ (xs.take i)))], gTok 25 3 (encTs (appL σ (xs.take i)))]) (fun i => i ≤ xs.length) (fun i => xs.length - i) 0 (Nat.zero_le _) (by simp only [push_cast, Nat.reduceAdd, Nat.reduceSub, Nat.reduceMul, Nat.reduceLT, Nat.reduceLeDiff, Nat.reduceEqDiff, Int.reduceToNat, ↓reduceIte, List.take_zero, appL_nil]) (fun i hi => ?_)
    simp only [push_cast, Nat.reduceAdd, Nat.reduceSub, Nat.reduceMul, Nat.reduceLT, Nat.reduceLeDiff, Nat.reduceEqDiff, Int.reduceToNat, ↓reduceIte]
    refine cI (fun h => ?_) (fun h => ?_)
    · have hil : i < xs.length := by omega
      repeat refine ⟨by omega, ?_⟩
      have hal := appL_len σ (xs.take i)
      rw [List.length_take] at hal
      apply AW_drawE [some 35, some 36, some 37, some 38, some 39, some 40, some 41, some 42, none] [([false, false], _), ([true, false], _), ([true, true], _)] [none, none, none, none, none, none, some 0, none, some 1] 2 [(0, [false, false], [7]), (1, [false, false], [35]), (2, [false, false], [0]), (3, [false, false], [9]), (4, [false, false], [37, 0]), (5, [false, false], [39]), (6, [false, false], [36, 3]), (7, [true, false], [7]), (8, [true, false], [41, 0]), (0, [true, false], [7]), (2, [true, false], [0]), (3, [true, false], [9])] [_, _, _, _, _, _, _, _, _]
      case' hm => exact dr
      case' hn => rfl
      case' hok => rfl
      case' hlen => rfl
      case' hd => rfl
      case' h0 => rfl
      case' hstep =>
       simp only [DAllG, push_cast, Option.isSome_some, Option.isSome_none]
       repeat' apply And.intro
       all_goals (apply DOne_V; simp only [push_cast, Nat.reduceAdd, Nat.reduceSub, Nat.reduceMul, Nat.reduceLT, Nat.reduceLeDiff, Nat.reduceEqDiff, Int.reduceToNat, ↓reduceIte] <;> first | exact rfl | omega | exact ⟨rfl, rfl⟩ | exact trivial | exact ⟨by omega, rfl⟩ | exact ⟨by omega, by omega, rfl⟩ | exact ⟨by omega, rfl, rfl⟩ | exact ⟨by omega, by omega, rfl, rfl⟩ | exact (ih _ (List.getElem_mem hil) (arg_bulk hb i hil) _).to ⟨rfl, rfl⟩ | (refine app1_T _ (H.length + 3) (appL σ (xs.take i)) (applyP σ (xs[i]'hil)) _ rfl rfl (by exact (agetN _ _ 3).trans rfl) sl23 sz25 by25 zr25 rfl (by decide) (by omega) ?_; simp only [push_cast, Nat.reduceAdd, Nat.reduceSub, Nat.reduceMul, Nat.reduceLT, Nat.reduceLeDiff, Nat.reduceEqDiff, Int.reduceToNat, ↓reduceIte]; exact ⟨rfl, rfl⟩))
      case' hQ => skip
      simp only [push_cast, Nat.reduceAdd, Nat.reduceSub, Nat.reduceMul, Nat.reduceLT, Nat.reduceLeDiff, Nat.reduceEqDiff, Int.reduceToNat, ↓reduceIte, ← appL_take σ xs i hil]
      repeat' first | refine ⟨by omega, ?_⟩ | refine cI (fun _ => ?_) (fun _ => ?_)
      exact loopW_n (i + 1) (by omega) (by omega) (by simp only [push_cast, Nat.reduceAdd, Nat.reduceSub, Nat.reduceMul, Nat.reduceLT, Nat.reduceLeDiff, Nat.reduceEqDiff, Int.reduceToNat, ↓reduceIte])
    · simp only [push_cast, Nat.reduceAdd, Nat.reduceSub, Nat.reduceMul, Nat.reduceLT, Nat.reduceLeDiff, Nat.reduceEqDiff, Int.reduceToNat, ↓reduceIte, List.take_of_length_le (show xs.length ≤ i by omega)]
def instE (σ : List (List UInt8 × Term)) (t : Term) : Term × Int := if fitsP (applyP σ t) then (applyP σ t, 0) else (.mk [] false [], 3)
theorem instance_ac (σ : List (List UInt8 × Term)) (hs : SortedN (σ.map (·.1))) (hlen : σ.length < 1099511627776) (hbk : ∀ b, b ∈ σ → b.2.bulk ≤ 1099511627775) (t : Term) (hb : t.bulk ≤ 1099511627775) (hb2 : (applyP σ t).size ≤ 1099511627775) (H : List AObj) : ACall Tryz.prog 67 [.sl .none (encL encBd σ), encT t] H (fun r H' => r = encRE (instE σ t) ∧ H' = H) := by
  have hd := (applyP σ t).depth_le
  refine ACall_V (H.length) 20 [.cell 4 25, .tmp 5] Tryz.func67 rfl rfl rfl ?_
  simp only [push_cast, Nat.reduceAdd, Nat.reduceSub, Nat.reduceMul, Nat.reduceLT, Nat.reduceLeDiff, Nat.reduceEqDiff, Int.reduceToNat, ↓reduceIte]
  refine (measure_ac σ hs hlen hbk t hb hb2 _).to ?_
  simp only [push_cast, Nat.reduceAdd, Nat.reduceSub, Nat.reduceMul, Nat.reduceLT, Nat.reduceLeDiff, Nat.reduceEqDiff, Int.reduceToNat, ↓reduceIte]
  refine cI (fun h => ?_) (fun h => ?_)
  · have h1 : ¬ (applyP σ t).size ≤ 4000 := by omega
    have e : instE σ t = (.mk [] false [], 3) := by simp [instE, fitsP, h1]
    simp only [push_cast, Nat.reduceAdd, Nat.reduceSub, Nat.reduceMul, Nat.reduceLT, Nat.reduceLeDiff, Nat.reduceEqDiff, Int.reduceToNat, ↓reduceIte, e]
  · have h1 : (applyP σ t).size ≤ 4000 := by omega
    refine cI (fun h2 => ?_) (fun h2 => ?_)
    · have h3 : ¬ (applyP σ t).depth ≤ 200 := by omega
      have e : instE σ t = (.mk [] false [], 3) := by simp [instE, fitsP, h3]
      simp only [push_cast, Nat.reduceAdd, Nat.reduceSub, Nat.reduceMul, Nat.reduceLT, Nat.reduceLeDiff, Nat.reduceEqDiff, Int.reduceToNat, ↓reduceIte, e]
    · have h3 : (applyP σ t).depth ≤ 200 := by omega
      have e : instE σ t = (applyP σ t, 0) := by simp [instE, fitsP, h1, h3]
      refine (replace_ac σ hs hlen hbk t hb _).to ?_
      simp only [push_cast, Nat.reduceAdd, Nat.reduceSub, Nat.reduceMul, Nat.reduceLT, Nat.reduceLeDiff, Nat.reduceEqDiff, Int.reduceToNat, ↓reduceIte, e]
theorem grownR_ac (σ : List (List UInt8 × Term)) (hlen : σ.length < 1099511627776) (hbk : ∀ b, b ∈ σ → b.2.bulk ≤ 1099511627775) (t : Term) : t.bulk ≤ 1099511627775 → (applyP σ t).size ≤ 1099511627775 → ∀ H, ACall Tryz.prog 102 [.sl .none (encL encBd σ), encT t] H (fun r H' => r = .tup [.int .i64 (applyP σ t).size, .int .i64 (applyP σ t).depth] ∧ H' = H) := by
  induction t using Term.ind with | _ n u xs ih
  intro hb hb2 H
  have hl := Term.len_le (n := n) (v := u) (xs := xs)
  have hnl := Term.name_le (n := n) (v := u) (xs := xs)
  cases u with
  | true =>
    rw [applyP_t]
    have hib := image_bulk σ 1099511627775 hbk n (by omega)
    refine ACall_V (H.length) 44 [.tmp 4, .tmp 5] Tryz.func102 rfl rfl rfl ?_
    simp only [push_cast, Nat.reduceAdd, Nat.reduceSub, Nat.reduceMul, Nat.reduceLT, Nat.reduceLeDiff, Nat.reduceEqDiff, Int.reduceToNat, ↓reduceIte]
    refine (imageR_ac σ n hlen _).to ?_
    simp only [push_cast, Nat.reduceAdd, Nat.reduceSub, Nat.reduceMul, Nat.reduceLT, Nat.reduceLeDiff, Nat.reduceEqDiff, Int.reduceToNat, ↓reduceIte]
    apply AW_drawE [some 19, some 20, some 21, some 22, some 4, some 5] [([], _)] [none, none, none, none, none, none] 0 [(0, [], [6]), (1, [], [19]), (2, [], [6]), (3, [], [21]), (4, [], [20]), (5, [], [22])] [_, _, _, _, _, _]
    case' hm => exact dr
    case' hn => rfl
    case' hok => rfl
    case' hlen => rfl
    case' hd => rfl
    case' h0 => rfl
    case' hstep =>
     simp only [DAllG, push_cast, Option.isSome_some, Option.isSome_none]
     repeat' apply And.intro
     all_goals (apply DOne_V; simp only [push_cast, Nat.reduceAdd, Nat.reduceSub, Nat.reduceMul, Nat.reduceLT, Nat.reduceLeDiff, Nat.reduceEqDiff, Int.reduceToNat, ↓reduceIte] <;> first | exact rfl | omega | exact ⟨rfl, rfl⟩ | exact trivial | exact ⟨by omega, rfl⟩ | exact ⟨by omega, by omega, rfl⟩ | exact ⟨by omega, rfl, rfl⟩ | exact ⟨by omega, by omega, rfl, rfl⟩ | exact (sizeR_ac (imageP σ n) (by omega) _).to ⟨rfl, rfl⟩ | exact (depthR_ac (imageP σ n) (by omega) _).to ⟨rfl, rfl⟩)
    case' hQ => skip
    simp only [push_cast, Nat.reduceAdd, Nat.reduceSub, Nat.reduceMul, Nat.reduceLT, Nat.reduceLeDiff, Nat.reduceEqDiff, Int.reduceToNat, ↓reduceIte]
  | false =>
    rw [applyP_f] at hb2 ⊢
    have hdp := (Term.mk n false (appL σ xs)).depth_le
    rw [Term.size_mk] at hb2 hdp ⊢
    rw [Term.depth_mk] at hdp ⊢
    refine ACall_V (H.length) 44 [.tmp 4, .tmp 5] Tryz.func102 rfl rfl rfl ?_
    simp only [push_cast, Nat.reduceAdd, Nat.reduceSub, Nat.reduceMul, Nat.reduceLT, Nat.reduceLeDiff, Nat.reduceEqDiff, Int.reduceToNat, ↓reduceIte]
    refine AW_loopW (maskG 46 [0, 6, 0, 15, 0, 0]) (fun (i : Nat) => [(26, .int .i64 i), (7, .int .i64 (1 + ((appL σ (xs.take i)).map Term.size).sum : Nat)), (8, .int .i64 (((appL σ (xs.take i)).map Term.depth).foldl max 0 : Nat))]) (fun i => H ++ [.cells [.str n, .bool false, .sl .none (encTs xs)]]) (fun i => i ≤ xs.length) (fun i => xs.length - i) 0 (Nat.zero_le _) (by simp only [push_cast, Nat.reduceAdd, Nat.reduceSub, Nat.reduceMul, Nat.reduceLT, Nat.reduceLeDiff, Nat.reduceEqDiff, Int.reduceToNat, ↓reduceIte, List.take_zero, appL_nil]; simp) (fun i hi => ?_)
    simp only [push_cast, Nat.reduceAdd, Nat.reduceSub, Nat.reduceMul, Nat.reduceLT, Nat.reduceLeDiff, Nat.reduceEqDiff, Int.reduceToNat, ↓reduceIte]
    refine cI (fun h => ?_) (fun h => ?_)
    · have hil : i < xs.length := by omega
      repeat refine ⟨by omega, ?_⟩
      obtain ⟨hq1, hq2⟩ := sizes_take σ xs i hil
      obtain ⟨hw1, hw2⟩ := sizes_le σ xs (i + 1)
      obtain ⟨hw3, hw4⟩ := sizes_le σ xs i
      refine (ih _ (List.getElem_mem hil) (arg_bulk hb i hil) (by omega) _).to ?_
      simp only [push_cast, Nat.reduceAdd, Nat.reduceSub, Nat.reduceMul, Nat.reduceLT, Nat.reduceLeDiff, Nat.reduceEqDiff, Int.reduceToNat, ↓reduceIte]
      repeat' first | refine ⟨by omega, ?_⟩ | refine cI (fun _ => ?_) (fun _ => ?_)
      exact loopW_n (i + 1) (by omega) (by omega) (by simp only [push_cast, Nat.reduceAdd, Nat.reduceSub, Nat.reduceMul, Nat.reduceLT, Nat.reduceLeDiff, Nat.reduceEqDiff, Int.reduceToNat, ↓reduceIte, hq1, hq2]; omega)
    · obtain ⟨hw3, hw4⟩ := sizes_le σ xs xs.length
      rw [List.take_of_length_le (Nat.le_refl _)] at hw3 hw4
      simp only [push_cast, Nat.reduceAdd, Nat.reduceSub, Nat.reduceMul, Nat.reduceLT, Nat.reduceLeDiff, Nat.reduceEqDiff, Int.reduceToNat, ↓reduceIte, List.take_of_length_le (show xs.length ≤ i by omega)]
      omega
end Ab
set_option maxRecDepth 10000
namespace Ab
open Go Go.Proofs
def ruleN (rs : List (Term × Term)) (i : Int) : Term × Term := rs.getD i.toNat (zeroT, zeroT)
theorem ruleN_get {rs : List (Term × Term)} {i : Int} (h : i.toNat < rs.length) : ruleN rs i = rs[i.toNat] := by unfold ruleN; rw [List.getD_eq_getElem?_getD, List.getElem?_eq_getElem h]; rfl
def findE (rs : List (Term × Term)) (t : Term) (s : Int × List Int) : List (List UInt8 × Term) × Int :=
  if 0 ≤ s.1 ∧ s.1.toNat < rs.length then (match atP t s.2 with
    | some x => if (matchP (ruleN rs s.1).1 x []).2 then ((matchP (ruleN rs s.1).1 x []).1, 0) else ([], 9)
    | none => ([], 8)) else ([], 8)
def encFE (q : List (List UInt8 × Term) × Int) : AV := .tup [.sl .none (encL encBd q.1), .int .i64 q.2]
theorem stepFind_ac (rs : List (Term × Term)) (hr : SysB rs) (t : Term) (hb : t.bulk ≤ 1099511627775) (s : Int × List Int) (hs : s.2.length < 1099511627776) (H : List AObj) :
    ACall Tryz.prog 135 [.sl .none (encL encRu rs), encT t, encSt s] H (fun r H' => r = encFE (findE rs t s) ∧ H' = H) := by
  obtain ⟨hr1, hr2⟩ := hr
  refine ACall_V (H.length) 41 [.tmp 6, .tmp 7] Tryz.func135 rfl rfl rfl ?_
  simp only [push_cast, Nat.reduceAdd, Nat.reduceSub, Nat.reduceMul, Nat.reduceLT, Nat.reduceLeDiff, Nat.reduceEqDiff, Int.reduceToNat, ↓reduceIte]
  have bad : ¬ (0 ≤ s.1 ∧ s.1.toNat < rs.length) → findE rs t s = ([], 8) := fun h => if_neg h
  refine cI (fun h => ?_) (fun h => ?_)
  · simp only [push_cast, Nat.reduceAdd, Nat.reduceSub, Nat.reduceMul, Nat.reduceLT, Nat.reduceLeDiff, Nat.reduceEqDiff, Int.reduceToNat, ↓reduceIte, bad (by omega), encFE, encL_nil]
  · refine cI (fun h2 => ?_) (fun h2 => ?_)
    · simp only [push_cast, Nat.reduceAdd, Nat.reduceSub, Nat.reduceMul, Nat.reduceLT, Nat.reduceLeDiff, Nat.reduceEqDiff, Int.reduceToNat, ↓reduceIte, bad (by omega), encFE, encL_nil]
    · have hin : 0 ≤ s.1 ∧ s.1.toNat < rs.length := by omega
      have e : findE rs t s = (match atP t s.2 with
        | some x => if (matchP (ruleN rs s.1).1 x []).2 then ((matchP (ruleN rs s.1).1 x []).1, 0) else ([], 9)
        | none => ([], 8)) := if_pos hin
      refine (sub_ac t s.2 hb hs _).to ?_
      cases ha : atP t s.2 with
      | none =>
        simp only [ha] at e
        simp only [push_cast, Nat.reduceAdd, Nat.reduceSub, Nat.reduceMul, Nat.reduceLT, Nat.reduceLeDiff, Nat.reduceEqDiff, Int.reduceToNat, ↓reduceIte, e, encFE, encL_nil]
      | some x =>
        simp only [ha] at e
        have hxb := at_bulk _ _ _ ha
        have hrn := ruleN_get hin.2
        have hlb := hr2 _ (List.getElem_mem hin.2)
        simp only [push_cast, Nat.reduceAdd, Nat.reduceSub, Nat.reduceMul, Nat.reduceLT, Nat.reduceLeDiff, Nat.reduceEqDiff, Int.reduceToNat, ↓reduceIte]
        apply AW_drawE [some 31, some 32, some 33, some 34, some 35, some 36, some 37, some 38, some 30, some 39, some 40, some 10, some 9] [([], _)] [none, none, none, none, none, none, none, none, none, none, none, none, none] 0 [(0, [], [0]), (1, [], [5]), (2, [], [32]), (3, [], [31, 1]), (4, [], [34]), (5, [], [35]), (6, [], [8]), (7, [], [36, 0]), (8, [], [38]), (9, [], [30]), (10, [], [30]), (11, [], [39]), (12, [], [40])] [_, _, _, _, _, _, _, _, _, _, _, _, _]
        case' hm => exact dr
        case' hn => rfl
        case' hok => rfl
        case' hlen => rfl
        case' hd => rfl
        case' h0 => rfl
        case' hstep =>
         simp only [DAllG, push_cast, Option.isSome_some, Option.isSome_none]
         repeat' apply And.intro
         all_goals (apply DOne_V; simp only [push_cast, Nat.reduceAdd, Nat.reduceSub, Nat.reduceMul, Nat.reduceLT, Nat.reduceLeDiff, Nat.reduceEqDiff, Int.reduceToNat, ↓reduceIte] <;> first | exact rfl | omega | exact ⟨rfl, rfl⟩ | exact trivial | exact ⟨by omega, rfl⟩ | exact ⟨by omega, by omega, rfl⟩ | exact ⟨by omega, rfl, rfl⟩ | exact ⟨by omega, by omega, rfl, rfl⟩ | exact ⟨by omega, by omega, trivial⟩ | exact (find_ac (rs[s.1.toNat]'hin.2).1 x hlb.1 (by omega) _).to ⟨rfl, rfl⟩)
        case' hQ => skip
        rw [← hrn]
        cases hm : (matchP (ruleN rs s.1).1 x []).2 with
        | true =>
          rw [hm] at e
          simp only [if_true] at e
          simp only [push_cast, Nat.reduceAdd, Nat.reduceSub, Nat.reduceMul, Nat.reduceLT, Nat.reduceLeDiff, Nat.reduceEqDiff, Int.reduceToNat, ↓reduceIte, e, encFE]
        | false =>
          rw [hm] at e
          simp only [Bool.false_eq_true, if_false] at e
          simp only [push_cast, Nat.reduceAdd, Nat.reduceSub, Nat.reduceMul, Nat.reduceLT, Nat.reduceLeDiff, Nat.reduceEqDiff, Int.reduceToNat, ↓reduceIte, e, encFE, encL_nil]
theorem sys_B {rs : List (Term × Term)} (h : sysP rs = 0) : SysB rs ∧ (∀ r, r ∈ rs → checkP r.1 = 0 ∧ checkP r.2 = 0) ∧ ∀ r, r ∈ rs → extraP r = false := by
  unfold sysP at h
  split at h
  · rename_i h0; exact absurd h h0
  · rename_i h0
    have h0 : rulesP rs = 0 := by simpa using h0
    obtain ⟨h1, h2⟩ := rules_ok h0
    split at h
    · cases h
    · split at h
      · cases h
      · split at h
        · cases h
        · rename_i h3
          refine ⟨⟨h1, fun r hr => ?_⟩, h2, fun r hr => ?_⟩
          · have g1 := check_small (h2 r hr).1
            have g2 := check_small (h2 r hr).2
            omega
          · cases he : extraP r with
            | false => rfl
            | true => exact absurd (List.any_eq_true.2 ⟨r, hr, he⟩) h3
theorem both_ok {rs : List (Term × Term)} {t : Term} (h : bothP rs t = 0) : sysP rs = 0 ∧ checkP t = 0 := by
  unfold bothP at h
  split at h
  · rename_i h0; exact absurd h h0
  · rename_i h0; exact ⟨by simpa using h0, h⟩
structure FindOk (rs : List (Term × Term)) (t : Term) (s : Int × List Int) (x : Term) (σ : List (List UInt8 × Term)) : Prop where
  lo : 0 ≤ s.1
  hi : s.1.toNat < rs.length
  at' : atP t s.2 = some x
  ok : (matchP (ruleN rs s.1).1 x []).2 = true
  eq : (matchP (ruleN rs s.1).1 x []).1 = σ
  mem : ruleN rs s.1 ∈ rs
theorem find_ok {rs : List (Term × Term)} {t : Term} {s : Int × List Int} (h : (findE rs t s).2 = 0) : ∃ x, FindOk rs t s x (findE rs t s).1 := by
  unfold findE at h ⊢
  by_cases hin : 0 ≤ s.1 ∧ s.1.toNat < rs.length
  · rw [if_pos hin] at h ⊢
    cases ha : atP t s.2 with
    | none => rw [ha] at h; cases h
    | some x =>
      rw [ha] at h
      simp only at h ⊢
      cases hm : (matchP (ruleN rs s.1).1 x []).2 with
      | false => rw [hm] at h; cases h
      | true => exact ⟨x, hin.1, hin.2, ha, hm, rfl, by rw [ruleN_get hin.2]; exact List.getElem_mem hin.2⟩
  · rw [if_neg hin] at h; cases h
structure SubOk (σ : List (List UInt8 × Term)) (x : Term) : Prop where
  sorted : SortedN (σ.map (·.1))
  sub : ∀ b, b ∈ σ → SubT x b.2
theorem FindOk.subOk {rs : List (Term × Term)} {t : Term} {s : Int × List Int} {x : Term} {σ : List (List UInt8 × Term)} (h : FindOk rs t s x σ) : SubOk σ x ∧ σ.length ≤ (ruleN rs s.1).1.size := by
  obtain ⟨h1, h2⟩ := matchP_ok (ruleN rs s.1).1 x [] (by simp [SortedN])
  rw [h.eq] at h1 h2
  exact ⟨⟨h1.sorted, fun b hb => (h1.new b hb).resolve_left (by simp)⟩, by simpa using h2⟩
theorem SubOk.bulk {σ : List (List UInt8 × Term)} {x : Term} (h : SubOk σ x) : ∀ b, b ∈ σ → b.2.bulk ≤ x.bulk ∧ b.2.size ≤ x.size := fun b hb => ⟨(h.sub b hb).bulk, (h.sub b hb).sizes.1⟩
theorem SubOk.apply {σ : List (List UInt8 × Term)} {x : Term} (h : SubOk σ x) (hx : x.size ≤ 4000 ∧ x.bulk ≤ 100000) {r : Term} (hr : r.size ≤ 4000 ∧ r.bulk ≤ 100000) : (applyP σ r).size ≤ 16000000 ∧ (applyP σ r).bulk ≤ 20000000000 := by
  have h1 := apply_size σ 4000 (by decide) (fun b hb => by have := (h.bulk b hb).2; omega) r
  have h2 := apply_bulk σ 100000 (fun b hb => by have := (h.bulk b hb).1; omega) r
  have h3 : r.size * 4000 ≤ 4000 * 4000 := Nat.mul_le_mul hr.1 (Nat.le_refl _)
  have h4 : r.bulk * (100000 + 1) ≤ 100000 * (100000 + 1) := Nat.mul_le_mul hr.2 (Nat.le_refl _)
  omega
def rhsP (rs : List (Term × Term)) (t : Term) (s : Int × List Int) : Term := applyP (findE rs t s).1 (ruleN rs s.1).2
def doE (rs : List (Term × Term)) (t : Term) (s : Int × List Int) : Term × Int :=
  if (findE rs t s).2 ≠ 0 then (zeroT, (findE rs t s).2) else if fitsP (rhsP rs t s) = true ∧ fitsP (putP t s.2 (rhsP rs t s)) = true then (putP t s.2 (rhsP rs t s), 0) else (zeroT, 3)
theorem do_ac (rs : List (Term × Term)) (hr : sysP rs = 0) (t : Term) (ht : checkP t = 0) (s : Int × List Int) (hs : s.2.length < 1099511627776) (H : List AObj) :
    ACall Tryz.prog 94 [.sl .none (encL encRu rs), encT t, encSt s] H (fun r H' => r = encRE (doE rs t s) ∧ H' = H) := by
  obtain ⟨hB, hck, _⟩ := sys_B hr
  have htb := check_small ht
  refine ACall_V (H.length) 42 [.cell 6 25, .tmp 7] Tryz.func94 rfl rfl rfl ?_
  simp only [push_cast, Nat.reduceAdd, Nat.reduceSub, Nat.reduceMul, Nat.reduceLT, Nat.reduceLeDiff, Nat.reduceEqDiff, Int.reduceToNat, ↓reduceIte]
  refine (stepFind_ac rs hB t (by omega) s hs _).to ?_
  simp only [push_cast, Nat.reduceAdd, Nat.reduceSub, Nat.reduceMul, Nat.reduceLT, Nat.reduceLeDiff, Nat.reduceEqDiff, Int.reduceToNat, ↓reduceIte, encFE]
  refine cI (fun h => ?_) (fun h => ?_)
  · obtain ⟨x, hf⟩ := find_ok h
    obtain ⟨hso, hsl⟩ := hf.subOk
    have hxs := at_sub _ _ _ hf.at'
    have hxc := check_small (hxs.check ht)
    have hrc := check_small (hck _ hf.mem).2
    have hlc := check_small (hck _ hf.mem).1
    have hap := hso.apply hxc hrc
    have hrn := ruleN_get hf.hi
    have hpb := put_bulk (rhsP rs t s) _ _ _ hf.at'
    have hfm := ((check_iff _).1 ht).1
    have hsp := setP_put _ _ (rhsP rs t s) _ hf.at' hfm
    refine ⟨hf.lo, hf.hi, ?_⟩
    rw [← hrn]
    refine (instance_ac (findE rs t s).1 hso.sorted (by omega) (fun b hb => by have := (hso.bulk b hb).1; omega) (ruleN rs s.1).2 (by omega) (by omega) _).to ?_
    have hb2 : (rhsP rs t s).bulk ≤ 20000000000 := hap.2
    have ed : doE rs t s = if fitsP (rhsP rs t s) = true ∧ fitsP (putP t s.2 (rhsP rs t s)) = true then (putP t s.2 (rhsP rs t s), 0) else (zeroT, 3) := if_neg (by simpa using h)
    cases hf1 : fitsP (rhsP rs t s) with
    | true =>
      have e1 : instE (findE rs t s).1 (ruleN rs s.1).2 = (rhsP rs t s, 0) := if_pos hf1
      simp only [push_cast, Nat.reduceAdd, Nat.reduceSub, Nat.reduceMul, Nat.reduceLT, Nat.reduceLeDiff, Nat.reduceEqDiff, Int.reduceToNat, ↓reduceIte, e1]
      refine (set_ac (rhsP rs t s) (by omega) t (by omega) s.2 hs ⟨x, hf.at'⟩ _).to ?_
      rw [hsp]
      simp only [push_cast, Nat.reduceAdd, Nat.reduceSub, Nat.reduceMul, Nat.reduceLT, Nat.reduceLeDiff, Nat.reduceEqDiff, Int.reduceToNat, ↓reduceIte]
      refine (fit_ac (putP t s.2 (rhsP rs t s)) (by omega) _).to ?_
      cases hf2 : fitsP (putP t s.2 (rhsP rs t s)) with
      | true =>
        have e : doE rs t s = (putP t s.2 (rhsP rs t s), 0) := ed.trans (if_pos ⟨hf1, hf2⟩)
        simp only [push_cast, Nat.reduceAdd, Nat.reduceSub, Nat.reduceMul, Nat.reduceLT, Nat.reduceLeDiff, Nat.reduceEqDiff, Int.reduceToNat, ↓reduceIte, if_true, e]
      | false =>
        have e : doE rs t s = (zeroT, 3) := ed.trans (if_neg (by rw [hf2]; simp))
        simp only [push_cast, Nat.reduceAdd, Nat.reduceSub, Nat.reduceMul, Nat.reduceLT, Nat.reduceLeDiff, Nat.reduceEqDiff, Int.reduceToNat, ↓reduceIte, Bool.false_eq_true, if_false, e]
    | false =>
      have e1 : instE (findE rs t s).1 (ruleN rs s.1).2 = (.mk [] false [], 3) := if_neg (by rw [show fitsP (applyP (findE rs t s).1 (ruleN rs s.1).2) = false from hf1]; simp)
      have e : doE rs t s = (zeroT, 3) := ed.trans (if_neg (by rw [hf1]; simp))
      simp only [push_cast, Nat.reduceAdd, Nat.reduceSub, Nat.reduceMul, Nat.reduceLT, Nat.reduceLeDiff, Nat.reduceEqDiff, Int.reduceToNat, ↓reduceIte, e1, e]
      refine cI (fun h => absurd h (by decide)) (fun _ => ?_)
      simp only [push_cast, Nat.reduceAdd, Nat.reduceSub, Nat.reduceMul, Nat.reduceLT, Nat.reduceLeDiff, Nat.reduceEqDiff, Int.reduceToNat, ↓reduceIte]
  · have e : doE rs t s = (zeroT, (findE rs t s).2) := if_pos h
    simp only [push_cast, Nat.reduceAdd, Nat.reduceSub, Nat.reduceMul, Nat.reduceLT, Nat.reduceLeDiff, Nat.reduceEqDiff, Int.reduceToNat, ↓reduceIte, e]
end Ab
namespace Ab
open Go Go.Proofs
theorem step_some {n : List UInt8} {v : Bool} {xs : List Term} {i : Int} {p : List Int} {y : Term} (h : atP (.mk n v xs) (i :: p) = some y) : ∃ hi : 0 ≤ i ∧ i.toNat < xs.length, atP (xs[i.toNat]'hi.2) p = some y := by
  simp only [atP] at h
  split at h
  · rename_i hi; exact ⟨hi, h⟩
  · cases h
theorem step_put (n : List UInt8) (v : Bool) (xs : List Term) (i : Int) (p : List Int) (x : Term) (h : i.toNat < xs.length) : putP (.mk n v xs) (i :: p) x = .mk n false (xs.set i.toNat (putP (xs[i.toNat]'h) p x)) := by
  simp [putP, List.getD_eq_getElem?_getD, List.getElem?_eq_getElem h]
theorem place_at (n : List UInt8) (v : Bool) (xs : List Term) (i : Int) (p : List Int) (h : 0 ≤ i ∧ i.toNat < xs.length) : atP (.mk n v xs) (i :: p) = atP (xs[i.toNat]'h.2) p := by
  simp only [atP]; exact dif_pos h
theorem at_put : ∀ (p : List Int) (t x y : Term), atP t p = some y → atP (putP t p x) p = some x
  | [], t, x, y, _ => by cases t; rfl
  | i :: p, .mk n v xs, x, y, h => by
    obtain ⟨hi, h⟩ := step_some h
    rw [step_put _ _ _ _ _ _ hi.2, place_at _ _ _ _ _ ⟨hi.1, by simpa using hi.2⟩]
    simp only [List.getElem_set_self]
    exact at_put p _ x y h
theorem put_formed : ∀ (p : List Int) (t x y : Term), atP t p = some y → formedP t = true → formedP x = true → formedP (putP t p x) = true
  | [], t, x, y, _, _, hx => by cases t; exact hx
  | i :: p, .mk n v xs, x, y, h, hf, hx => by
    have hv := at_var h (by simp) hf
    obtain ⟨hi, ha⟩ := step_some h
    simp only [Term.var_mk] at hv
    subst hv
    rw [step_put _ _ _ _ _ _ hi.2]
    rw [formedP_mk] at hf ⊢
    simp only [Bool.false_eq_true, if_false, Bool.and_eq_true, decide_eq_true_eq, List.all_eq_true, List.length_set] at hf ⊢
    refine ⟨hf.1, fun z hz => ?_⟩
    rcases List.mem_or_eq_of_mem_set hz with hz | rfl
    · exact hf.2 _ hz
    · exact put_formed p _ x y ha (hf.2 _ (List.getElem_mem _)) hx
end Ab
set_option maxRecDepth 10000
namespace Ab
open Go Go.Proofs
theorem do_check {rs : List (Term × Term)} {t : Term} {s : Int × List Int} (hr : sysP rs = 0) (ht : checkP t = 0) (h : (doE rs t s).2 = 0) : checkP (doE rs t s).1 = 0 := by
  obtain ⟨_, hck, _⟩ := sys_B hr
  unfold doE at h ⊢
  by_cases hf : (findE rs t s).2 ≠ 0
  · rw [if_pos hf] at h; exact absurd h hf
  · rw [if_neg hf] at h ⊢
    have hf : (findE rs t s).2 = 0 := by simpa using hf
    obtain ⟨x, hfo⟩ := find_ok hf
    by_cases h2 : fitsP (rhsP rs t s) = true ∧ fitsP (putP t s.2 (rhsP rs t s)) = true
    · rw [if_pos h2] at h ⊢
      refine (check_iff _).2 ⟨?_, h2.2⟩
      refine put_formed _ _ _ _ hfo.at' ((check_iff _).1 ht).1 ?_
      refine formed_apply _ (fun b hb => ?_) _ ((check_iff _).1 (hck _ hfo.mem).2).1
      exact (((hfo.subOk).1.sub b hb).formed ((at_sub _ _ _ hfo.at').formed ((check_iff _).1 ht).1))
    · rw [if_neg h2] at h; cases h
end Ab
set_option maxRecDepth 10000
namespace Ab
open Go Go.Proofs
section
variable {P : Program} {ro : Option Nat} {st : ASt} {dst : Option Tmp} {ty : TypeId} {pos : String} {after : Array Edge} {guard : Option (Nat × Bool)} {K : AV → List AObj → Prop}
end
theorem formed_of_check {t : Term} (h : checkP t = 0) : formedP t = true := by
  unfold checkP at h
  cases hf : formedP t with
  | true => rfl
  | false => rw [hf] at h; simp at h
theorem size_of_check {t : Term} (h : checkP t = 0) : t.size ≤ 4000 := (check_bulk h).2
theorem rules_formed {rs : List (Term × Term)} (h : rulesP rs = 0) : ∀ t, t ∈ rT rs → formedP t = true := by
  intro t ht
  obtain ⟨r, hr, he⟩ := mem_rT.1 ht
  have := (rules_ok h).2 r hr
  rcases he with rfl | rfl
  · exact formed_of_check this.1
  · exact formed_of_check this.2
theorem rules_agree {rs : List (Term × Term)} (h : rulesP rs = 0) : (symRs (rT rs) []).2 = (!arB rs && (arE rs).2.all fun s => !markedP s.1) := sys_agree _ (rules_formed h)
theorem rules_size {rs : List (Term × Term)} (h : rulesP rs = 0) : ((rT rs).map Term.size).sum ≤ 512000 := by
  obtain ⟨h1, h2⟩ := rules_ok h
  have : ∀ l : List (Term × Term), (∀ r, r ∈ l → checkP r.1 = 0 ∧ checkP r.2 = 0) → ((rT l).map Term.size).sum ≤ l.length * 8000 := by
    intro l
    induction l with
    | nil => intro _; simp [rT]
    | cons r l ih =>
      intro hl
      have h4 := ih (fun x hx => hl x (by simp [hx]))
      have h5 := size_of_check (hl r (by simp)).1
      have h6 := size_of_check (hl r (by simp)).2
      have : rT (r :: l) = r.1 :: r.2 :: rT l := rfl
      rw [this]
      simp only [List.map_cons, List.sum_cons, List.length_cons]
      omega
  have h4 := this rs h2
  omega
end Ab
set_option maxRecDepth 10000
namespace Ab
open Go Go.Proofs
theorem gSl_sl' (k : Nat) (xs : List AV) : ∃ tk, gSl k xs = .sl tk xs := by cases xs <;> exact ⟨_, rfl⟩
theorem symRs_nil (l : List (List UInt8 × Nat)) : symRs [] l = (l, true) := by rw [symRs]
theorem symRs_app : ∀ (a b : List Term) (l : List (List UInt8 × Nat)), symRs (a ++ b) l = if (symRs a l).2 then symRs b (symRs a l).1 else symRs a l
  | [], b, l => by simp [symRs_nil]
  | t :: a, b, l => by
    rw [List.cons_append, symRs_cons, symRs_cons]
    by_cases h : (symR t l).2 = true
    · rw [if_pos h, if_pos h]; exact symRs_app a b _
    · rw [if_neg h, if_neg h]; simp
theorem symRs_snoc (a : List Term) (l : List (List UInt8 × Nat)) (x : Term) (h : (symRs a l).2 = true) : symRs (a ++ [x]) l = if (symR x (symRs a l).1).2 then ((symR x (symRs a l).1).1, true) else ((symRs a l).1, false) := by
  rw [symRs_app, if_pos h, symRs_cons, symRs_nil]
theorem symRs_fail (a : List Term) (l : List (List UInt8 × Nat)) (x : Term) (r : List Term) (h : (symRs a l).2 = true) (h2 : (symR x (symRs a l).1).2 = false) : symRs (a ++ x :: r) l = ((symRs a l).1, false) := by
  rw [symRs_app, if_pos h, symRs_cons, if_neg (by simp [h2])]
theorem insSy_sub {l : List (List UInt8 × Nat)} {s x : List UInt8 × Nat} (h : x ∈ insSy l s) : x ∈ l ∨ x = s := by
  unfold insSy at h
  split at h
  · exact .inl h
  · rw [List.mem_append, List.mem_append, List.mem_singleton] at h
    rcases h with (h | h) | h
    · exact .inl (List.mem_of_mem_take h)
    · exact .inr h
    · exact .inl (List.mem_of_mem_drop h)
theorem insSy_len (l : List (List UInt8 × Nat)) (s : List UInt8 × Nat) : (insSy l s).length ≤ l.length + 1 := by
  unfold insSy
  split
  · omega
  · simp; omega
theorem symRs_len : ∀ (ts : List Term) (l : List (List UInt8 × Nat)), (symRs ts l).1.length ≤ l.length + (ts.map Term.size).sum
  | [], l => by simp [symRs_nil]
  | .mk n u xs :: r, l => by
    rw [symRs, List.map_cons, List.sum_cons, Term.size_mk]
    have h0 := insSy_len l (n, xs.length)
    have h1 := symRs_len xs (insSy l (n, xs.length))
    have h2 := symRs_len r l
    have h3 := symRs_len r (symRs xs (insSy l (n, xs.length))).1
    repeat' split
    all_goals (first | omega | (simp only; omega))
theorem symRs_names : ∀ (ts : List Term) (l : List (List UInt8 × Nat)), (∀ t, t ∈ ts → t.bulk ≤ 1099511627775) → (∀ x, x ∈ l → x.1.length < 1099511627776) → ∀ x, x ∈ (symRs ts l).1 → x.1.length < 1099511627776
  | [], l, _, h, x, hx => by rw [symRs_nil] at hx; exact h x hx
  | .mk n u xs :: r, l, hb, h, x, hx => by
    have h0 := hb (.mk n u xs) (by simp)
    have hnl := Term.name_le (n := n) (v := u) (xs := xs)
    have hI : ∀ x, x ∈ insSy l (n, xs.length) → x.1.length < 1099511627776 := fun x hx => by
      rcases insSy_sub hx with h1 | h1
      · exact h x h1
      · rw [h1]; show n.length < _; omega
    have hX := symRs_names xs (insSy l (n, xs.length)) (fun t ht => by have := Term.arg_le (n := n) (v := u) ht; omega) hI
    rw [symRs] at hx
    split at hx
    · exact symRs_names r l (fun t ht => hb t (by simp [ht])) h x hx
    · split at hx
      · exact h x hx
      · split at hx
        · exact h x hx
        · split at hx
          · exact symRs_names r _ (fun t ht => hb t (by simp [ht])) hX x hx
          · exact h x hx
theorem syAt_eq (l : List (List UInt8 × Nat)) (n : List UInt8) (i : Nat) (hi : i ≤ l.length) (h1 : ∀ j (h : j < l.length), j < i → Lib.compareBytes l[j].1 n < 0) (h2 : ∀ h : i < l.length, ¬ Lib.compareBytes l[i].1 n < 0) : syAt l n = i := by
  unfold syAt
  exact insAt_eq _ n i (by simpa using hi) (fun j hj hji => by simpa using h1 j (by simpa using hj) hji) (fun hj => by simpa using h2 (by simpa using hj))
set_option maxHeartbeats 1600000 in
theorem symbolsR1_ac (t : Term) : t.bulk ≤ 1099511627775 → ∀ l : List (List UInt8 × Nat), l.length + t.size ≤ 1099511627770 → (∀ x, x ∈ l → x.1.length < 1099511627776) → ∀ H, ACall Tryz.prog 136 [encT t, .sl .none (encL encSy l)] H (fun r H' => r = .tup [.sl .none (encL encSy (symR t l).1), .bool (symR t l).2] ∧ H' = H) := by
  induction t using Term.ind with | _ n u xs ih
  intro hb l hl hn H
  have hxl := Term.len_le (n := n) (v := u) (xs := xs)
  have hnl := Term.name_le (n := n) (v := u) (xs := xs)
  rw [Term.size_mk] at hl
  cases u with
  | true =>
    have hR : symR (.mk n true xs) l = (l, true) := by simp [symR, Term.mk_var]
    rw [hR]
    refine ACall_V (H.length) 93 [.tmp 4, .tmp 5] Tryz.func136 rfl rfl rfl ?_
    simp only [push_cast, Nat.reduceAdd, Nat.reduceSub, Nat.reduceMul, Nat.reduceLT, Nat.reduceLeDiff, Nat.reduceEqDiff, Int.reduceToNat, ↓reduceIte]
  | false =>
    refine ACall_VA (H.length) 93 [.tmp 4, .tmp 5] Tryz.func136 rfl rfl rfl ?_
    refine AW_seq (AW_of_W ?_)
    simp only [push_cast, Nat.reduceAdd, Nat.reduceSub, Nat.reduceMul, Nat.reduceLT, Nat.reduceLeDiff, Nat.reduceEqDiff, Int.reduceToNat, ↓reduceIte]
    refine AW_reserve 1 ?_
    refine AW_of_W ?_
    simp only [push_cast, Nat.reduceAdd, Nat.reduceSub, Nat.reduceMul, Nat.reduceLT, Nat.reduceLeDiff, Nat.reduceEqDiff, Int.reduceToNat, ↓reduceIte]
    refine (markedR_ac n (by omega) _).to ?_
    simp only [push_cast, Nat.reduceAdd, Nat.reduceSub, Nat.reduceMul, Nat.reduceLT, Nat.reduceLeDiff, Nat.reduceEqDiff, Int.reduceToNat, ↓reduceIte]
    refine cI (fun hm => ?_) (fun hm => ?_)
    · have hR : symR (.mk n false xs) l = (l, false) := by simp [symR, Term.mk_var, Term.mk_name, hm]
      simp only [push_cast, Nat.reduceAdd, Nat.reduceSub, Nat.reduceMul, Nat.reduceLT, Nat.reduceLeDiff, Nat.reduceEqDiff, Int.reduceToNat, ↓reduceIte, hR]
    · have hm : markedP n = false := by simpa using hm
      refine AW_loopW (maskG 95 [1, 0, 3]) (fun (i : Nat) => [(6, .int .i64 i)]) (fun _ => H ++ [.cells [.str n, .bool false, .sl .none (encTs xs)], .dead]) (fun i => i ≤ l.length ∧ ∀ j (h : j < l.length), j < i → Lib.compareBytes l[j].1 n < 0) (fun i => l.length - i) 0 ⟨Nat.zero_le _, fun j h1 h => by omega⟩ (by simp only [push_cast, Nat.reduceAdd, Nat.reduceSub, Nat.reduceMul, Nat.reduceLT, Nat.reduceLeDiff, Nat.reduceEqDiff, Int.reduceToNat, ↓reduceIte]) (fun i hi => ?_)
      by_cases hil : i < l.length
      · have hd : decide ((i : Int) < (l.length : Int)) = true := by simp; omega
        have hcm := fun H => cmpNames_ac (l[i]'hil).1 n (hn _ (List.getElem_mem hil)) (by omega) H
        apply AW_drawE [some 18, some 19, some 20, some 21, some 22, some 23, some 24, some 25, some 26, some 27, some 28, some 29, some 30, some 31, some 32] [([], _)] [none, none, none, none, none, none, none, none, none, none, none, none, none, none, none] 0 [(0, [], [6]), (1, [], [1]), (2, [], [19]), (3, [], [18, 1]), (4, [], [21]), (5, [], [1, 20]), (6, [], [6, 15]), (7, [], [22, 0, 0]), (8, [], [22, 2]), (9, [], [22, 3]), (10, [], [2, 19]), (11, [], [22, 5]), (12, [], [22, 4, 1]), (13, [], [22, 7]), (14, [], [22, 8])] [_, _, _, _, _, _, _, _, _, _, _, _, _, _, _]
        case' hm => exact dr
        case' hn => rfl
        case' hok => rfl
        case' hlen => rfl
        case' hd => rfl
        case' h0 => rfl
        case' hstep =>
         simp only [DAllG, push_cast, Option.isSome_some, Option.isSome_none]
         repeat' apply And.intro
         all_goals (apply DOne_V; simp only [push_cast, Nat.reduceAdd, Nat.reduceSub, Nat.reduceMul, Nat.reduceLT, Nat.reduceLeDiff, Nat.reduceEqDiff, Int.reduceToNat, ↓reduceIte, hd] <;> first | exact rfl | omega | exact ⟨rfl, rfl⟩ | exact trivial | exact ⟨by omega, rfl⟩ | exact ⟨by omega, by omega, rfl⟩ | exact ⟨by omega, rfl, rfl⟩ | exact ⟨by omega, by omega, rfl, rfl⟩ | exact (hcm _).to ⟨rfl, rfl⟩)
        case' hQ => skip
        simp only [push_cast, Nat.reduceAdd, Nat.reduceSub, Nat.reduceMul, Nat.reduceLT, Nat.reduceLeDiff, Nat.reduceEqDiff, Int.reduceToNat, ↓reduceIte]
        refine cI (fun hc => ?_) (fun hc => ?_)
        · repeat' first | refine ⟨by omega, ?_⟩ | refine cI (fun _ => ?_) (fun _ => ?_)
          refine loopW_n (i + 1) ⟨by omega, fun j h1 h => ?_⟩ (by omega) (by simp only [push_cast, Nat.reduceAdd, Nat.reduceSub, Nat.reduceMul, Nat.reduceLT, Nat.reduceLeDiff, Nat.reduceEqDiff, Int.reduceToNat, ↓reduceIte])
          rcases Nat.lt_or_ge j i with hj | hj
          · exact hi.2 j h1 hj
          · have hji : j = i := by omega
            subst hji; exact hc
        · have hia : syAt l n = i := syAt_eq l n i hi.1 hi.2 (fun _ => hc)
          have hd2 : decide ((i : Int) = (l.length : Int)) = false := by simp; omega
          by_cases hne : (l[i]'hil).1 = n
          · have hd3 : decide ((l[i]'hil).1 = n) = true := by simpa using hne
            apply AW_drawE [some 35, some 36, some 37, some 38, some 39, some 40, some 41, some 42, some 43, some 44, some 45, some 46, some 47, some 48] [([], _)] [none, none, none, none, none, none, none, none, none, none, none, none, none, none] 0 [(0, [], [6]), (1, [], [1]), (2, [], [36]), (3, [], [35, 1]), (4, [], [38]), (5, [], [1, 37]), (6, [], [6, 32]), (7, [], [39, 0, 0]), (8, [], [39, 2]), (9, [], [39, 3]), (10, [], [2, 36]), (11, [], [39, 5]), (12, [], [39, 4, 1]), (13, [], [39, 7])] [_, _, _, _, _, _, _, _, _, _, _, _, _, _]
            case' hm => exact dr
            case' hn => rfl
            case' hok => rfl
            case' hlen => rfl
            case' hd => rfl
            case' h0 => rfl
            case' hstep =>
             simp only [DAllG, push_cast, Option.isSome_some, Option.isSome_none]
             repeat' apply And.intro
             all_goals (apply DOne_V; simp only [push_cast, Nat.reduceAdd, Nat.reduceSub, Nat.reduceMul, Nat.reduceLT, Nat.reduceLeDiff, Nat.reduceEqDiff, Int.reduceToNat, ↓reduceIte, hd2, hd3] <;> first | exact rfl | omega | exact ⟨rfl, rfl⟩ | exact trivial | exact ⟨by omega, rfl⟩ | exact ⟨by omega, by omega, rfl⟩ | exact ⟨by omega, rfl, rfl⟩ | exact ⟨by omega, by omega, rfl, rfl⟩ | skip)
            case' hQ => skip
            simp only [push_cast, Nat.reduceAdd, Nat.reduceSub, Nat.reduceMul, Nat.reduceLT, Nat.reduceLeDiff, Nat.reduceEqDiff, Int.reduceToNat, ↓reduceIte, hd3]
            have hI : insSy l (n, xs.length) = l := by
              unfold insSy
              rw [hia, if_pos]
              rw [List.getElem?_map, List.getElem?_eq_getElem hil]
              show some (l[i]'hil).1 = some n
              rw [hne]
            have hn1 := hn
            have hlt1 := hil
            have hz1 := List.getElem_mem hlt1
            apply AW_drawE [some 66, some 67, some 68, some 69, some 70, some 71, some 72, some 73, some 74] [([], _)] [none, none, none, none, none, none, none, none, none] 0 [(0, [], [1]), (1, [], [6]), (2, [], [66, 0]), (3, [], [68]), (4, [], [69]), (5, [], [2]), (6, [], [71]), (7, [], [72]), (8, [], [70, 2])] [_, _, _, _, _, _, _, _, _]
            case' hm => exact dr
            case' hn => rfl
            case' hok => rfl
            case' hlen => rfl
            case' hd => rfl
            case' h0 => rfl
            case' hstep =>
             simp only [DAllG, push_cast, Option.isSome_some, Option.isSome_none]
             repeat' apply And.intro
             all_goals (apply DOne_V; simp only [push_cast, Nat.reduceAdd, Nat.reduceSub, Nat.reduceMul, Nat.reduceLT, Nat.reduceLeDiff, Nat.reduceEqDiff, Int.reduceToNat, ↓reduceIte] <;> first | exact rfl | omega | exact ⟨rfl, rfl⟩ | exact trivial | exact ⟨by omega, rfl⟩ | exact ⟨by omega, by omega, rfl⟩ | exact ⟨by omega, rfl, rfl⟩ | exact ⟨by omega, by omega, rfl, rfl⟩ | skip)
            case' hQ => skip
            simp only [push_cast, Nat.reduceAdd, Nat.reduceSub, Nat.reduceMul, Nat.reduceLT, Nat.reduceLeDiff, Nat.reduceEqDiff, Int.reduceToNat, ↓reduceIte]
            refine cI (fun hk => ?_) (fun hk => ?_)
            · have hcf : cfSy l (n, xs.length) = false := by
                unfold cfSy
                rw [hI, hia, List.getElem?_eq_getElem hlt1]
                have : (l[i]'hlt1).2 = xs.length := by omega
                simp [this]
              have hR : symR (.mk n false xs) l = symRs xs l := by
                unfold symR
                simp only [Term.mk_name, Term.mk_var, Term.mk_args, Bool.false_eq_true, if_false, hm, hcf, hI]
              rw [hR]
              refine AW_loopW (maskG 95 [1, 75, 0, 0]) (fun (j : Nat) => [(1, .sl .none (encL encSy (symRs (xs.take j) l).1)), (79, .int .i64 j)]) (fun j => H ++ [.cells [.str n, .bool false, .sl .none (encTs xs)]]) (fun j => j ≤ xs.length ∧ (symRs (xs.take j) l).2 = true) (fun j => xs.length - j) 0 ⟨Nat.zero_le _, by simp [symRs]⟩ (by simp only [push_cast, Nat.reduceAdd, Nat.reduceSub, Nat.reduceMul, Nat.reduceLT, Nat.reduceLeDiff, Nat.reduceEqDiff, Int.reduceToNat, ↓reduceIte, List.take_zero, symRs_nil]) (fun j hj => ?_)
              simp only [push_cast, Nat.reduceAdd, Nat.reduceSub, Nat.reduceMul, Nat.reduceLT, Nat.reduceLeDiff, Nat.reduceEqDiff, Int.reduceToNat, ↓reduceIte]
              refine cI (fun h3 => ?_) (fun h3 => ?_)
              · have hjl : j < xs.length := by omega
                repeat refine ⟨by omega, ?_⟩
                have hq1 := symRs_len (xs.take j) l
                have hq2 := take_sum Term.size xs j hjl
                have hq3 := take_sum_le Term.size xs (j + 1)
                have hq4 := symRs_names (xs.take j) l (fun t ht => by have := Term.arg_le (n := n) (v := false) (List.mem_of_mem_take ht); omega) hn1
                have hsn := symRs_snoc (xs.take j) l (xs[j]'hjl) hj.2
                rw [← List.take_succ_eq_append_getElem hjl] at hsn
                refine (ih _ (List.getElem_mem hjl) (arg_bulk hb j hjl) (symRs (xs.take j) l).1 (by omega) hq4 _).to ?_
                simp only [push_cast, Nat.reduceAdd, Nat.reduceSub, Nat.reduceMul, Nat.reduceLT, Nat.reduceLeDiff, Nat.reduceEqDiff, Int.reduceToNat, ↓reduceIte]
                refine cI (fun h4 => ?_) (fun h4 => ?_)
                · rw [if_pos h4] at hsn
                  repeat' first | refine ⟨by omega, ?_⟩ | refine cI (fun _ => ?_) (fun _ => ?_)
                  refine loopW_n (j + 1) ⟨by omega, by rw [hsn]⟩ (by omega) ?_
                  rw [hsn]
                  simp only [push_cast, Nat.reduceAdd, Nat.reduceSub, Nat.reduceMul, Nat.reduceLT, Nat.reduceLeDiff, Nat.reduceEqDiff, Int.reduceToNat, ↓reduceIte]
                · have h4 : (symR (xs[j]'hjl) (symRs (xs.take j) l).1).2 = false := by simpa using h4
                  have hff := symRs_fail (xs.take j) l (xs[j]'hjl) (xs.drop (j + 1)) hj.2 h4
                  rw [← List.drop_eq_getElem_cons hjl, List.take_append_drop] at hff
                  simp only [push_cast, Nat.reduceAdd, Nat.reduceSub, Nat.reduceMul, Nat.reduceLT, Nat.reduceLeDiff, Nat.reduceEqDiff, Int.reduceToNat, ↓reduceIte, hff]
              · rw [List.take_of_length_le (show xs.length ≤ j by omega)] at hj ⊢
                simp only [push_cast, Nat.reduceAdd, Nat.reduceSub, Nat.reduceMul, Nat.reduceLT, Nat.reduceLeDiff, Nat.reduceEqDiff, Int.reduceToNat, ↓reduceIte, hj.2]
            · have hcf : cfSy l (n, xs.length) = true := by
                unfold cfSy
                rw [hI, hia, List.getElem?_eq_getElem hlt1]
                have : ¬ (l[i]'hlt1).2 = xs.length := by omega
                simp [this]
              have hR : symR (.mk n false xs) l = (l, false) := by
                unfold symR
                simp only [Term.mk_name, Term.mk_var, Term.mk_args, Bool.false_eq_true, if_false, if_true, hm, hcf, hI]
              simp only [push_cast, Nat.reduceAdd, Nat.reduceSub, Nat.reduceMul, Nat.reduceLT, Nat.reduceLeDiff, Nat.reduceEqDiff, Int.reduceToNat, ↓reduceIte, hR]
          · have hd3 : decide ((l[i]'hil).1 = n) = false := by simpa using hne
            apply AW_drawE [some 35, some 36, some 37, some 38, some 39, some 40, some 41, some 42, some 43, some 44, some 45, some 46, some 47, some 48] [([], _)] [none, none, none, none, none, none, none, none, none, none, none, none, none, none] 0 [(0, [], [6]), (1, [], [1]), (2, [], [36]), (3, [], [35, 1]), (4, [], [38]), (5, [], [1, 37]), (6, [], [6, 32]), (7, [], [39, 0, 0]), (8, [], [39, 2]), (9, [], [39, 3]), (10, [], [2, 36]), (11, [], [39, 5]), (12, [], [39, 4, 1]), (13, [], [39, 7])] [_, _, _, _, _, _, _, _, _, _, _, _, _, _]
            case' hm => exact dr
            case' hn => rfl
            case' hok => rfl
            case' hlen => rfl
            case' hd => rfl
            case' h0 => rfl
            case' hstep =>
             simp only [DAllG, push_cast, Option.isSome_some, Option.isSome_none]
             repeat' apply And.intro
             all_goals (apply DOne_V; simp only [push_cast, Nat.reduceAdd, Nat.reduceSub, Nat.reduceMul, Nat.reduceLT, Nat.reduceLeDiff, Nat.reduceEqDiff, Int.reduceToNat, ↓reduceIte, hd2, hd3] <;> first | exact rfl | omega | exact ⟨rfl, rfl⟩ | exact trivial | exact ⟨by omega, rfl⟩ | exact ⟨by omega, by omega, rfl⟩ | exact ⟨by omega, rfl, rfl⟩ | exact ⟨by omega, by omega, rfl, rfl⟩ | skip)
            case' hQ => skip
            simp only [push_cast, Nat.reduceAdd, Nat.reduceSub, Nat.reduceMul, Nat.reduceLT, Nat.reduceLeDiff, Nat.reduceEqDiff, Int.reduceToNat, ↓reduceIte, hd3]
            have hno : ¬ (l.map (·.1))[i]? = some n := by
              rw [List.getElem?_map, List.getElem?_eq_getElem hil]
              intro e
              injection e with e
              exact hne e
            have hdr : List.take (l.length - i) (List.drop i l) = l.drop i := List.take_of_length_le (by simp)
            obtain ⟨l1, hl1⟩ : ∃ l1, l1 = l.take i ++ (n, xs.length) :: l.drop i := ⟨_, rfl⟩
            have hI : insSy l (n, xs.length) = l1 := by
              unfold insSy
              rw [hia, if_neg (by intro e; exact hno e), hl1, List.append_assoc]; rfl
            have hll : l1.length = l.length + 1 := by rw [hl1]; simp; omega
            have hn1 : ∀ x, x ∈ l1 → x.1.length < 1099511627776 := fun x hx => by
              rw [← hI] at hx
              rcases insSy_sub hx with h | h
              · exact hn x h
              · rw [h]; show n.length < _; omega
            have hlt1 : i < l1.length := by omega
            apply AW_drawO [[], [1], [], [], [], [], [], [], [], [], [], [], [], [1], [], [], [], []] [some 49, some 50, some 51, some 52, some 53, some 54, some 55, some 56, some 57, some 58, some 59, some 60, some 61, some 62, some 63, some 64, some 65, some 1] [([false, false, false], _), ([true, false, false], _), ([true, true, false], _), ([true, true, true], _)] [none, none, none, none, some 0, none, none, none, none, none, none, none, some 1, none, none, none, some 2, none] 3 [(0, [false, false, false], []), (1, [false, false, false], [1]), (2, [false, false, false], [6]), (3, [false, false, false], [50, 0]), (4, [false, false, false], [49, 2]), (5, [true, false, false], [2]), (6, [true, false, false], [54]), (7, [true, false, false], [2]), (8, [true, false, false], [56]), (9, [true, false, false], [57]), (10, [true, false, false], [55, 2]), (11, [true, false, false], [59]), (12, [true, false, false], [53, 6]), (13, [true, true, false], [1]), (14, [true, true, false], [6]), (15, [true, true, false], [62, 0]), (16, [true, true, false], [61, 2]), (17, [true, true, true], [65]), (1, [true, false, false], [1]), (1, [true, true, false], [1]), (1, [true, true, true], [1]), (2, [true, false, false], [6]), (2, [true, true, false], [6]), (2, [true, true, true], [6]), (5, [false, false, false], [2]), (5, [true, true, false], [2]), (5, [true, true, true], [2]), (6, [false, false, false], [54]), (6, [true, true, false], [54]), (6, [true, true, true], [54]), (7, [false, false, false], [2]), (7, [true, true, false], [2]), (7, [true, true, true], [2]), (8, [false, false, false], [56]), (8, [true, true, false], [56]), (8, [true, true, true], [56]), (9, [false, false, false], [57]), (9, [true, true, false], [57]), (9, [true, true, true], [57]), (10, [false, false, false], [55, 2]), (10, [true, true, false], [55, 2]), (10, [true, true, true], [55, 2]), (11, [false, false, false], [59]), (13, [false, false, false], [1]), (13, [true, false, false], [1]), (13, [true, true, true], [1]), (14, [false, false, false], [6]), (14, [true, false, false], [6]), (14, [true, true, true], [6]), (15, [false, false, false], [62, 0]), (15, [true, false, false], [62, 0])] [_, _, _, _, _, _, _, _, _, _, _, _, _, _, _, _, _, _]
            case' hm => exact dr
            case' hn => rfl
            case' hok => rfl
            case' hlen => rfl
            case' hd => rfl
            case' h0 => rfl
            case' hstep =>
             simp only [DAllO, push_cast, Option.isSome_some, Option.isSome_none]
             repeat' apply And.intro
             all_goals (apply DOne_V; simp only [push_cast, Nat.reduceAdd, Nat.reduceSub, Nat.reduceMul, Nat.reduceLT, Nat.reduceLeDiff, Nat.reduceEqDiff, Int.reduceToNat, ↓reduceIte, List.drop_zero, Nat.sub_zero, hdr] <;> first | exact rfl | omega | exact ⟨rfl, rfl⟩ | exact trivial | exact ⟨by omega, rfl⟩ | exact ⟨by omega, by omega, rfl⟩ | exact ⟨by omega, rfl, rfl⟩ | exact ⟨by omega, by omega, rfl, rfl⟩ | (refine app_L encSy (sz := 2) (fun _ => rfl) cellSy _ (H.length + 1) [] (l.take i) _ rfl rfl (by exact (agetN _ _ 1).trans rfl) sl133 sz197 by197 zr197 rfl (by decide) (by decide) (by simp; omega) ?_; simp only [push_cast, Nat.reduceAdd, Nat.reduceSub, Nat.reduceMul, Nat.reduceLT, Nat.reduceLeDiff, Nat.reduceEqDiff, Int.reduceToNat, ↓reduceIte, List.nil_append]; exact ⟨rfl, rfl⟩) | (refine app1_L encSy (sz := 2) (fun _ => rfl) cellSy _ (H.length + 1) (l.take i) (n, xs.length) _ rfl rfl (by exact (agetN _ _ 1).trans rfl) sl133 sz197 by197 zr197 rfl (by decide) (by decide) (by simp; omega) ?_; simp only [push_cast, Nat.reduceAdd, Nat.reduceSub, Nat.reduceMul, Nat.reduceLT, Nat.reduceLeDiff, Nat.reduceEqDiff, Int.reduceToNat, ↓reduceIte]; exact ⟨rfl, rfl⟩) | (refine app_L encSy (sz := 2) (fun _ => rfl) cellSy _ (H.length + 1) (l.take i ++ [(n, xs.length)]) (l.drop i) _ rfl rfl (by exact (agetN _ _ 1).trans rfl) sl133 sz197 by197 zr197 rfl (by decide) (by decide) (by simp; omega) ?_; simp only [push_cast, Nat.reduceAdd, Nat.reduceSub, Nat.reduceMul, Nat.reduceLT, Nat.reduceLeDiff, Nat.reduceEqDiff, Int.reduceToNat, ↓reduceIte]; exact ⟨rfl, rfl⟩))
            case' hQ => skip
            simp only [push_cast, Nat.reduceAdd, Nat.reduceSub, Nat.reduceMul, Nat.reduceLT, Nat.reduceLeDiff, Nat.reduceEqDiff, Int.reduceToNat, ↓reduceIte]
            rw [← hl1]
            obtain ⟨tk, htk⟩ := gSl_sl' (H.length + 1) (encL encSy l1)
            rw [htk]
            have hz1 := List.getElem_mem hlt1
            apply AW_drawE [some 66, some 67, some 68, some 69, some 70, some 71, some 72, some 73, some 74] [([], _)] [none, none, none, none, none, none, none, none, none] 0 [(0, [], [1]), (1, [], [6]), (2, [], [66, 0]), (3, [], [68]), (4, [], [69]), (5, [], [2]), (6, [], [71]), (7, [], [72]), (8, [], [70, 2])] [_, _, _, _, _, _, _, _, _]
            case' hm => exact dr
            case' hn => rfl
            case' hok => rfl
            case' hlen => rfl
            case' hd => rfl
            case' h0 => rfl
            case' hstep =>
             simp only [DAllG, push_cast, Option.isSome_some, Option.isSome_none]
             repeat' apply And.intro
             all_goals (apply DOne_V; simp only [push_cast, Nat.reduceAdd, Nat.reduceSub, Nat.reduceMul, Nat.reduceLT, Nat.reduceLeDiff, Nat.reduceEqDiff, Int.reduceToNat, ↓reduceIte] <;> first | exact rfl | omega | exact ⟨rfl, rfl⟩ | exact trivial | exact ⟨by omega, rfl⟩ | exact ⟨by omega, by omega, rfl⟩ | exact ⟨by omega, rfl, rfl⟩ | exact ⟨by omega, by omega, rfl, rfl⟩ | skip)
            case' hQ => skip
            simp only [push_cast, Nat.reduceAdd, Nat.reduceSub, Nat.reduceMul, Nat.reduceLT, Nat.reduceLeDiff, Nat.reduceEqDiff, Int.reduceToNat, ↓reduceIte]
            refine cI (fun hk => ?_) (fun hk => ?_)
            · have hcf : cfSy l (n, xs.length) = false := by
                unfold cfSy
                rw [hI, hia, List.getElem?_eq_getElem hlt1]
                have : (l1[i]'hlt1).2 = xs.length := by omega
                simp [this]
              have hR : symR (.mk n false xs) l = symRs xs l1 := by
                unfold symR
                simp only [Term.mk_name, Term.mk_var, Term.mk_args, Bool.false_eq_true, if_false, hm, hcf, hI]
              rw [hR]
              refine AW_loopW (maskG 95 [1, 75, 0, 0]) (fun (j : Nat) => [(1, .sl .none (encL encSy (symRs (xs.take j) l1).1)), (79, .int .i64 j)]) (fun j => H ++ [.cells [.str n, .bool false, .sl .none (encTs xs)]]) (fun j => j ≤ xs.length ∧ (symRs (xs.take j) l1).2 = true) (fun j => xs.length - j) 0 ⟨Nat.zero_le _, by simp [symRs]⟩ (by simp only [push_cast, Nat.reduceAdd, Nat.reduceSub, Nat.reduceMul, Nat.reduceLT, Nat.reduceLeDiff, Nat.reduceEqDiff, Int.reduceToNat, ↓reduceIte, List.take_zero, symRs_nil]) (fun j hj => ?_)
              simp only [push_cast, Nat.reduceAdd, Nat.reduceSub, Nat.reduceMul, Nat.reduceLT, Nat.reduceLeDiff, Nat.reduceEqDiff, Int.reduceToNat, ↓reduceIte]
              refine cI (fun h3 => ?_) (fun h3 => ?_)
              · have hjl : j < xs.length := by omega
                repeat refine ⟨by omega, ?_⟩
                have hq1 := symRs_len (xs.take j) l1
                have hq2 := take_sum Term.size xs j hjl
                have hq3 := take_sum_le Term.size xs (j + 1)
                have hq4 := symRs_names (xs.take j) l1 (fun t ht => by have := Term.arg_le (n := n) (v := false) (List.mem_of_mem_take ht); omega) hn1
                have hsn := symRs_snoc (xs.take j) l1 (xs[j]'hjl) hj.2
                rw [← List.take_succ_eq_append_getElem hjl] at hsn
                refine (ih _ (List.getElem_mem hjl) (arg_bulk hb j hjl) (symRs (xs.take j) l1).1 (by omega) hq4 _).to ?_
                simp only [push_cast, Nat.reduceAdd, Nat.reduceSub, Nat.reduceMul, Nat.reduceLT, Nat.reduceLeDiff, Nat.reduceEqDiff, Int.reduceToNat, ↓reduceIte]
                refine cI (fun h4 => ?_) (fun h4 => ?_)
                · rw [if_pos h4] at hsn
                  repeat' first | refine ⟨by omega, ?_⟩ | refine cI (fun _ => ?_) (fun _ => ?_)
                  refine loopW_n (j + 1) ⟨by omega, by rw [hsn]⟩ (by omega) ?_
                  rw [hsn]
                  simp only [push_cast, Nat.reduceAdd, Nat.reduceSub, Nat.reduceMul, Nat.reduceLT, Nat.reduceLeDiff, Nat.reduceEqDiff, Int.reduceToNat, ↓reduceIte]
                · have h4 : (symR (xs[j]'hjl) (symRs (xs.take j) l1).1).2 = false := by simpa using h4
                  have hff := symRs_fail (xs.take j) l1 (xs[j]'hjl) (xs.drop (j + 1)) hj.2 h4
                  rw [← List.drop_eq_getElem_cons hjl, List.take_append_drop] at hff
                  simp only [push_cast, Nat.reduceAdd, Nat.reduceSub, Nat.reduceMul, Nat.reduceLT, Nat.reduceLeDiff, Nat.reduceEqDiff, Int.reduceToNat, ↓reduceIte, hff]
              · rw [List.take_of_length_le (show xs.length ≤ j by omega)] at hj ⊢
                simp only [push_cast, Nat.reduceAdd, Nat.reduceSub, Nat.reduceMul, Nat.reduceLT, Nat.reduceLeDiff, Nat.reduceEqDiff, Int.reduceToNat, ↓reduceIte, hj.2]
            · have hcf : cfSy l (n, xs.length) = true := by
                unfold cfSy
                rw [hI, hia, List.getElem?_eq_getElem hlt1]
                have : ¬ (l1[i]'hlt1).2 = xs.length := by omega
                simp [this]
              have hR : symR (.mk n false xs) l = (l1, false) := by
                unfold symR
                simp only [Term.mk_name, Term.mk_var, Term.mk_args, Bool.false_eq_true, if_false, if_true, hm, hcf, hI]
              simp only [push_cast, Nat.reduceAdd, Nat.reduceSub, Nat.reduceMul, Nat.reduceLT, Nat.reduceLeDiff, Nat.reduceEqDiff, Int.reduceToNat, ↓reduceIte, hR]
      · have hd : decide ((i : Int) < (l.length : Int)) = false := by simp; omega
        apply AW_drawE [some 18, some 19, some 20, some 21, some 22, some 23, some 24, some 25, some 26, some 27, some 28, some 29, some 30, some 31, some 32] [([], _)] [none, none, none, none, none, none, none, none, none, none, none, none, none, none, none] 0 [(0, [], [6]), (1, [], [1]), (2, [], [19]), (3, [], [18, 1]), (4, [], [21]), (5, [], [1, 20]), (6, [], [6, 15]), (7, [], [22, 0, 0]), (8, [], [22, 2]), (9, [], [22, 3]), (10, [], [2, 19]), (11, [], [22, 5]), (12, [], [22, 4, 1]), (13, [], [22, 7]), (14, [], [22, 8])] [_, _, _, _, _, _, _, _, _, _, _, _, _, _, _]
        case' hm => exact dr
        case' hn => rfl
        case' hok => rfl
        case' hlen => rfl
        case' hd => rfl
        case' h0 => rfl
        case' hstep =>
         simp only [DAllG, push_cast, Option.isSome_some, Option.isSome_none]
         repeat' apply And.intro
         all_goals (apply DOne_V; simp only [push_cast, Nat.reduceAdd, Nat.reduceSub, Nat.reduceMul, Nat.reduceLT, Nat.reduceLeDiff, Nat.reduceEqDiff, Int.reduceToNat, ↓reduceIte, hd] <;> first | exact rfl | omega | exact ⟨rfl, rfl⟩ | exact trivial | exact ⟨by omega, rfl⟩ | exact ⟨by omega, by omega, rfl⟩ | exact ⟨by omega, rfl, rfl⟩ | exact ⟨by omega, by omega, rfl, rfl⟩ | skip)
        case' hQ => skip
        simp only [push_cast, Nat.reduceAdd, Nat.reduceSub, Nat.reduceMul, Nat.reduceLT, Nat.reduceLeDiff, Nat.reduceEqDiff, Int.reduceToNat, ↓reduceIte]
        have hia : syAt l n = i := syAt_eq l n i hi.1 hi.2 (fun h1 => absurd h1 hil)
        have hd2 : decide ((i : Int) = (l.length : Int)) = true := by simp; omega
        apply AW_drawE [some 35, some 36, some 37, some 38, some 39, some 40, some 41, some 42, some 43, some 44, some 45, some 46, some 47, some 48] [([], _)] [none, none, none, none, none, none, none, none, none, none, none, none, none, none] 0 [(0, [], [6]), (1, [], [1]), (2, [], [36]), (3, [], [35, 1]), (4, [], [38]), (5, [], [1, 37]), (6, [], [6, 32]), (7, [], [39, 0, 0]), (8, [], [39, 2]), (9, [], [39, 3]), (10, [], [2, 36]), (11, [], [39, 5]), (12, [], [39, 4, 1]), (13, [], [39, 7])] [_, _, _, _, _, _, _, _, _, _, _, _, _, _]
        case' hm => exact dr
        case' hn => rfl
        case' hok => rfl
        case' hlen => rfl
        case' hd => rfl
        case' h0 => rfl
        case' hstep =>
         simp only [DAllG, push_cast, Option.isSome_some, Option.isSome_none]
         repeat' apply And.intro
         all_goals (apply DOne_V; simp only [push_cast, Nat.reduceAdd, Nat.reduceSub, Nat.reduceMul, Nat.reduceLT, Nat.reduceLeDiff, Nat.reduceEqDiff, Int.reduceToNat, ↓reduceIte, hd2] <;> first | exact rfl | omega | exact ⟨rfl, rfl⟩ | exact trivial | exact ⟨by omega, rfl⟩ | exact ⟨by omega, by omega, rfl⟩ | exact ⟨by omega, rfl, rfl⟩ | exact ⟨by omega, by omega, rfl, rfl⟩ | skip)
        case' hQ => skip
        simp only [push_cast, Nat.reduceAdd, Nat.reduceSub, Nat.reduceMul, Nat.reduceLT, Nat.reduceLeDiff, Nat.reduceEqDiff, Int.reduceToNat, ↓reduceIte]
        have hno : ¬ (l.map (·.1))[i]? = some n := by
          rw [List.getElem?_map, List.getElem?_eq_none (by omega)]
          intro e
          cases e
        have hdr : List.take (l.length - i) (List.drop i l) = l.drop i := List.take_of_length_le (by simp)
        obtain ⟨l1, hl1⟩ : ∃ l1, l1 = l.take i ++ (n, xs.length) :: l.drop i := ⟨_, rfl⟩
        have hI : insSy l (n, xs.length) = l1 := by
          unfold insSy
          rw [hia, if_neg (by intro e; exact hno e), hl1, List.append_assoc]; rfl
        have hll : l1.length = l.length + 1 := by rw [hl1]; simp; omega
        have hn1 : ∀ x, x ∈ l1 → x.1.length < 1099511627776 := fun x hx => by
          rw [← hI] at hx
          rcases insSy_sub hx with h | h
          · exact hn x h
          · rw [h]; show n.length < _; omega
        have hlt1 : i < l1.length := by omega
        apply AW_drawO [[], [1], [], [], [], [], [], [], [], [], [], [], [], [1], [], [], [], []] [some 49, some 50, some 51, some 52, some 53, some 54, some 55, some 56, some 57, some 58, some 59, some 60, some 61, some 62, some 63, some 64, some 65, some 1] [([false, false, false], _), ([true, false, false], _), ([true, true, false], _), ([true, true, true], _)] [none, none, none, none, some 0, none, none, none, none, none, none, none, some 1, none, none, none, some 2, none] 3 [(0, [false, false, false], []), (1, [false, false, false], [1]), (2, [false, false, false], [6]), (3, [false, false, false], [50, 0]), (4, [false, false, false], [49, 2]), (5, [true, false, false], [2]), (6, [true, false, false], [54]), (7, [true, false, false], [2]), (8, [true, false, false], [56]), (9, [true, false, false], [57]), (10, [true, false, false], [55, 2]), (11, [true, false, false], [59]), (12, [true, false, false], [53, 6]), (13, [true, true, false], [1]), (14, [true, true, false], [6]), (15, [true, true, false], [62, 0]), (16, [true, true, false], [61, 2]), (17, [true, true, true], [65]), (1, [true, false, false], [1]), (1, [true, true, false], [1]), (1, [true, true, true], [1]), (2, [true, false, false], [6]), (2, [true, true, false], [6]), (2, [true, true, true], [6]), (5, [false, false, false], [2]), (5, [true, true, false], [2]), (5, [true, true, true], [2]), (6, [false, false, false], [54]), (6, [true, true, false], [54]), (6, [true, true, true], [54]), (7, [false, false, false], [2]), (7, [true, true, false], [2]), (7, [true, true, true], [2]), (8, [false, false, false], [56]), (8, [true, true, false], [56]), (8, [true, true, true], [56]), (9, [false, false, false], [57]), (9, [true, true, false], [57]), (9, [true, true, true], [57]), (10, [false, false, false], [55, 2]), (10, [true, true, false], [55, 2]), (10, [true, true, true], [55, 2]), (11, [false, false, false], [59]), (13, [false, false, false], [1]), (13, [true, false, false], [1]), (13, [true, true, true], [1]), (14, [false, false, false], [6]), (14, [true, false, false], [6]), (14, [true, true, true], [6]), (15, [false, false, false], [62, 0]), (15, [true, false, false], [62, 0])] [_, _, _, _, _, _, _, _, _, _, _, _, _, _, _, _, _, _]
        case' hm => exact dr
        case' hn => rfl
        case' hok => rfl
        case' hlen => rfl
        case' hd => rfl
        case' h0 => rfl
        case' hstep =>
         simp only [DAllO, push_cast, Option.isSome_some, Option.isSome_none]
         repeat' apply And.intro
         all_goals (apply DOne_V; simp only [push_cast, Nat.reduceAdd, Nat.reduceSub, Nat.reduceMul, Nat.reduceLT, Nat.reduceLeDiff, Nat.reduceEqDiff, Int.reduceToNat, ↓reduceIte, List.drop_zero, Nat.sub_zero, hdr] <;> first | exact rfl | omega | exact ⟨rfl, rfl⟩ | exact trivial | exact ⟨by omega, rfl⟩ | exact ⟨by omega, by omega, rfl⟩ | exact ⟨by omega, rfl, rfl⟩ | exact ⟨by omega, by omega, rfl, rfl⟩ | (refine app_L encSy (sz := 2) (fun _ => rfl) cellSy _ (H.length + 1) [] (l.take i) _ rfl rfl (by exact (agetN _ _ 1).trans rfl) sl133 sz197 by197 zr197 rfl (by decide) (by decide) (by simp; omega) ?_; simp only [push_cast, Nat.reduceAdd, Nat.reduceSub, Nat.reduceMul, Nat.reduceLT, Nat.reduceLeDiff, Nat.reduceEqDiff, Int.reduceToNat, ↓reduceIte, List.nil_append]; exact ⟨rfl, rfl⟩) | (refine app1_L encSy (sz := 2) (fun _ => rfl) cellSy _ (H.length + 1) (l.take i) (n, xs.length) _ rfl rfl (by exact (agetN _ _ 1).trans rfl) sl133 sz197 by197 zr197 rfl (by decide) (by decide) (by simp; omega) ?_; simp only [push_cast, Nat.reduceAdd, Nat.reduceSub, Nat.reduceMul, Nat.reduceLT, Nat.reduceLeDiff, Nat.reduceEqDiff, Int.reduceToNat, ↓reduceIte]; exact ⟨rfl, rfl⟩) | (refine app_L encSy (sz := 2) (fun _ => rfl) cellSy _ (H.length + 1) (l.take i ++ [(n, xs.length)]) (l.drop i) _ rfl rfl (by exact (agetN _ _ 1).trans rfl) sl133 sz197 by197 zr197 rfl (by decide) (by decide) (by simp; omega) ?_; simp only [push_cast, Nat.reduceAdd, Nat.reduceSub, Nat.reduceMul, Nat.reduceLT, Nat.reduceLeDiff, Nat.reduceEqDiff, Int.reduceToNat, ↓reduceIte]; exact ⟨rfl, rfl⟩))
        case' hQ => skip
        simp only [push_cast, Nat.reduceAdd, Nat.reduceSub, Nat.reduceMul, Nat.reduceLT, Nat.reduceLeDiff, Nat.reduceEqDiff, Int.reduceToNat, ↓reduceIte]
        rw [← hl1]
        obtain ⟨tk, htk⟩ := gSl_sl' (H.length + 1) (encL encSy l1)
        rw [htk]
        have hz1 := List.getElem_mem hlt1
        apply AW_drawE [some 66, some 67, some 68, some 69, some 70, some 71, some 72, some 73, some 74] [([], _)] [none, none, none, none, none, none, none, none, none] 0 [(0, [], [1]), (1, [], [6]), (2, [], [66, 0]), (3, [], [68]), (4, [], [69]), (5, [], [2]), (6, [], [71]), (7, [], [72]), (8, [], [70, 2])] [_, _, _, _, _, _, _, _, _]
        case' hm => exact dr
        case' hn => rfl
        case' hok => rfl
        case' hlen => rfl
        case' hd => rfl
        case' h0 => rfl
        case' hstep =>
         simp only [DAllG, push_cast, Option.isSome_some, Option.isSome_none]
         repeat' apply And.intro
         all_goals (apply DOne_V; simp only [push_cast, Nat.reduceAdd, Nat.reduceSub, Nat.reduceMul, Nat.reduceLT, Nat.reduceLeDiff, Nat.reduceEqDiff, Int.reduceToNat, ↓reduceIte] <;> first | exact rfl | omega | exact ⟨rfl, rfl⟩ | exact trivial | exact ⟨by omega, rfl⟩ | exact ⟨by omega, by omega, rfl⟩ | exact ⟨by omega, rfl, rfl⟩ | exact ⟨by omega, by omega, rfl, rfl⟩ | skip)
        case' hQ => skip
        simp only [push_cast, Nat.reduceAdd, Nat.reduceSub, Nat.reduceMul, Nat.reduceLT, Nat.reduceLeDiff, Nat.reduceEqDiff, Int.reduceToNat, ↓reduceIte]
        refine cI (fun hk => ?_) (fun hk => ?_)
        · have hcf : cfSy l (n, xs.length) = false := by
            unfold cfSy
            rw [hI, hia, List.getElem?_eq_getElem hlt1]
            have : (l1[i]'hlt1).2 = xs.length := by omega
            simp [this]
          have hR : symR (.mk n false xs) l = symRs xs l1 := by
            unfold symR
            simp only [Term.mk_name, Term.mk_var, Term.mk_args, Bool.false_eq_true, if_false, hm, hcf, hI]
          rw [hR]
          refine AW_loopW (maskG 95 [1, 75, 0, 0]) (fun (j : Nat) => [(1, .sl .none (encL encSy (symRs (xs.take j) l1).1)), (79, .int .i64 j)]) (fun j => H ++ [.cells [.str n, .bool false, .sl .none (encTs xs)]]) (fun j => j ≤ xs.length ∧ (symRs (xs.take j) l1).2 = true) (fun j => xs.length - j) 0 ⟨Nat.zero_le _, by simp [symRs]⟩ (by simp only [push_cast, Nat.reduceAdd, Nat.reduceSub, Nat.reduceMul, Nat.reduceLT, Nat.reduceLeDiff, Nat.reduceEqDiff, Int.reduceToNat, ↓reduceIte, List.take_zero, symRs_nil]) (fun j hj => ?_)
          simp only [push_cast, Nat.reduceAdd, Nat.reduceSub, Nat.reduceMul, Nat.reduceLT, Nat.reduceLeDiff, Nat.reduceEqDiff, Int.reduceToNat, ↓reduceIte]
          refine cI (fun h3 => ?_) (fun h3 => ?_)
          · have hjl : j < xs.length := by omega
            repeat refine ⟨by omega, ?_⟩
            have hq1 := symRs_len (xs.take j) l1
            have hq2 := take_sum Term.size xs j hjl
            have hq3 := take_sum_le Term.size xs (j + 1)
            have hq4 := symRs_names (xs.take j) l1 (fun t ht => by have := Term.arg_le (n := n) (v := false) (List.mem_of_mem_take ht); omega) hn1
            have hsn := symRs_snoc (xs.take j) l1 (xs[j]'hjl) hj.2
            rw [← List.take_succ_eq_append_getElem hjl] at hsn
            refine (ih _ (List.getElem_mem hjl) (arg_bulk hb j hjl) (symRs (xs.take j) l1).1 (by omega) hq4 _).to ?_
            simp only [push_cast, Nat.reduceAdd, Nat.reduceSub, Nat.reduceMul, Nat.reduceLT, Nat.reduceLeDiff, Nat.reduceEqDiff, Int.reduceToNat, ↓reduceIte]
            refine cI (fun h4 => ?_) (fun h4 => ?_)
            · rw [if_pos h4] at hsn
              repeat' first | refine ⟨by omega, ?_⟩ | refine cI (fun _ => ?_) (fun _ => ?_)
              refine loopW_n (j + 1) ⟨by omega, by rw [hsn]⟩ (by omega) ?_
              rw [hsn]
              simp only [push_cast, Nat.reduceAdd, Nat.reduceSub, Nat.reduceMul, Nat.reduceLT, Nat.reduceLeDiff, Nat.reduceEqDiff, Int.reduceToNat, ↓reduceIte]
            · have h4 : (symR (xs[j]'hjl) (symRs (xs.take j) l1).1).2 = false := by simpa using h4
              have hff := symRs_fail (xs.take j) l1 (xs[j]'hjl) (xs.drop (j + 1)) hj.2 h4
              rw [← List.drop_eq_getElem_cons hjl, List.take_append_drop] at hff
              simp only [push_cast, Nat.reduceAdd, Nat.reduceSub, Nat.reduceMul, Nat.reduceLT, Nat.reduceLeDiff, Nat.reduceEqDiff, Int.reduceToNat, ↓reduceIte, hff]
          · rw [List.take_of_length_le (show xs.length ≤ j by omega)] at hj ⊢
            simp only [push_cast, Nat.reduceAdd, Nat.reduceSub, Nat.reduceMul, Nat.reduceLT, Nat.reduceLeDiff, Nat.reduceEqDiff, Int.reduceToNat, ↓reduceIte, hj.2]
        · have hcf : cfSy l (n, xs.length) = true := by
            unfold cfSy
            rw [hI, hia, List.getElem?_eq_getElem hlt1]
            have : ¬ (l1[i]'hlt1).2 = xs.length := by omega
            simp [this]
          have hR : symR (.mk n false xs) l = (l1, false) := by
            unfold symR
            simp only [Term.mk_name, Term.mk_var, Term.mk_args, Bool.false_eq_true, if_false, if_true, hm, hcf, hI]
          simp only [push_cast, Nat.reduceAdd, Nat.reduceSub, Nat.reduceMul, Nat.reduceLT, Nat.reduceLeDiff, Nat.reduceEqDiff, Int.reduceToNat, ↓reduceIte, hR]
end Ab
set_option maxRecDepth 10000
namespace Ab
open Go Go.Proofs
theorem rT_sizes (rs : List (Term × Term)) (i : Nat) : ((rT (rs.take i)).map Term.size).sum ≤ ((rT rs).map Term.size).sum := by
  have : rT rs = rT (rs.take i) ++ rT (rs.drop i) := by
    unfold rT; rw [← List.flatMap_append, List.take_append_drop]
  rw [this, List.map_append, List.sum_append]; omega
theorem symbolsR_ac (rs : List (Term × Term)) (hlen : rs.length < 1099511627776) (hb : BndR rs) (hsz : ((rT rs).map Term.size).sum ≤ 1000000000) (H : List AObj) : ACall Tryz.prog 99 [.sl .none (encL encRu rs)] H (fun r H' => r = .tup [.sl .none (encL encSy (if (symRs (rT rs) []).2 then (symRs (rT rs) []).1 else [])), .bool (symRs (rT rs) []).2] ∧ H' = H) := by
  refine ACall_V (H.length) 38 [.tmp 2, .tmp 3] Tryz.func99 rfl rfl rfl ?_
  simp only [push_cast, Nat.reduceAdd, Nat.reduceSub, Nat.reduceMul, Nat.reduceLT, Nat.reduceLeDiff, Nat.reduceEqDiff, Int.reduceToNat, ↓reduceIte]
  refine AW_loopW (maskG 39 [4, 6, 0, 0]) (fun (i : Nat) => [(4, .sl .none (encL encSy (symRs (rT (rs.take i)) []).1)), (13, .int .i64 i)]) (fun _ => H) (fun i => i ≤ rs.length ∧ (symRs (rT (rs.take i)) []).2 = true) (fun i => rs.length - i) 0 ⟨Nat.zero_le _, by rw [List.take_zero, rT_nil, symRs_nil]⟩ (by simp only [push_cast, Nat.reduceAdd, Nat.reduceSub, Nat.reduceMul, Nat.reduceLT, Nat.reduceLeDiff, Nat.reduceEqDiff, Int.reduceToNat, ↓reduceIte, List.take_zero, rT_nil, symRs_nil, encL_nil]) (fun i hi => ?_)
  simp only [push_cast, Nat.reduceAdd, Nat.reduceSub, Nat.reduceMul, Nat.reduceLT, Nat.reduceLeDiff, Nat.reduceEqDiff, Int.reduceToNat, ↓reduceIte]
  refine cI (fun h => ?_) (fun h => ?_)
  · repeat refine ⟨by omega, ?_⟩
    have hil : i < rs.length := by omega
    obtain ⟨l, r, hlr⟩ : ∃ l r, rs[i]'hil = (l, r) := ⟨_, _, rfl⟩
    have hbi := hb _ (List.getElem_mem hil)
    rw [hlr] at hbi
    obtain ⟨hbl, hbr⟩ := hbi
    simp only at hbl hbr
    have hTi : rT (rs.take (i + 1)) = rT (rs.take i) ++ [l, r] := by rw [rT_take rs i hil, hlr]
    have hsz2 := rT_sizes rs (i + 1)
    rw [hTi, List.map_append, List.sum_append] at hsz2
    simp only [List.map_cons, List.map_nil, List.sum_cons, List.sum_nil] at hsz2
    obtain ⟨q0, hq0⟩ : ∃ q0, q0 = (symRs (rT (rs.take i)) []).1 := ⟨_, rfl⟩
    have hq0l : q0.length ≤ ((rT (rs.take i)).map Term.size).sum := by have := symRs_len (rT (rs.take i)) []; rw [← hq0] at this; simpa using this
    have hq0n : ∀ x, x ∈ q0 → x.1.length < 1099511627776 := by
      rw [hq0]
      refine symRs_names _ _ (fun t ht => ?_) (fun x hx => by cases hx)
      obtain ⟨r, hr, he⟩ := mem_rT.1 ht
      have := hb r (List.mem_of_mem_take hr)
      rcases he with rfl | rfl <;> omega
    simp only [push_cast, Nat.reduceAdd, Nat.reduceSub, Nat.reduceMul, Nat.reduceLT, Nat.reduceLeDiff, Nat.reduceEqDiff, Int.reduceToNat, ↓reduceIte, hlr]
    rw [← hq0]
    obtain ⟨T, hT⟩ : ∃ T, T = [l, r] := ⟨_, rfl⟩
    have hTl : T.length = 2 := by rw [hT]; rfl
    have hTb : ∀ t, t ∈ T → t.bulk ≤ 1099511627775 := by rw [hT]; intro t ht; simp at ht; rcases ht with rfl | rfl <;> omega
    have hTs : (T.map Term.size).sum = l.size + r.size := by rw [hT]; simp
    have eT : encTs T = [.agg [.str l.name, .bool l.var, .sl .none (encTs l.args)], .agg [.str r.name, .bool r.var, .sl .none (encTs r.args)]] := by rw [hT, encTs_cons, encTs_cons, encTs_nil]
    refine AW_loopW (maskG 39 [4, 6, 0, 0, 7, 0, 0]) (fun (j : Nat) => [(4, .sl .none (encL encSy (symRs (T.take j) q0).1)), (21, .sl .none (encTs T)), (23, .int .i64 j)]) (fun _ => H) (fun j => j ≤ 2 ∧ (symRs (T.take j) q0).2 = true) (fun j => 2 - j) 0 ⟨by omega, by rw [List.take_zero, symRs_nil]⟩ (by simp only [push_cast, Nat.reduceAdd, Nat.reduceSub, Nat.reduceMul, Nat.reduceLT, Nat.reduceLeDiff, Nat.reduceEqDiff, Int.reduceToNat, ↓reduceIte, List.take_zero, symRs_nil, eT]) (fun j hj => ?_)
    simp only [push_cast, Nat.reduceAdd, Nat.reduceSub, Nat.reduceMul, Nat.reduceLT, Nat.reduceLeDiff, Nat.reduceEqDiff, Int.reduceToNat, ↓reduceIte]
    refine cI (fun h2 => ?_) (fun h2 => ?_)
    · have hjl : j < T.length := by omega
      repeat refine ⟨by omega, ?_⟩
      have hq1 := symRs_len (T.take j) q0
      have hq2 := take_sum Term.size T j hjl
      have hq3 := take_sum_le Term.size T (j + 1)
      have hq4 := symRs_names (T.take j) q0 (fun t ht => hTb t (List.mem_of_mem_take ht)) hq0n
      have hsn := symRs_snoc (T.take j) q0 (T[j]'hjl) hj.2
      rw [← List.take_succ_eq_append_getElem hjl] at hsn
      refine (symbolsR1_ac (T[j]'hjl) (hTb _ (List.getElem_mem hjl)) (symRs (T.take j) q0).1 (by omega) hq4 _).to ?_
      simp only [push_cast, Nat.reduceAdd, Nat.reduceSub, Nat.reduceMul, Nat.reduceLT, Nat.reduceLeDiff, Nat.reduceEqDiff, Int.reduceToNat, ↓reduceIte]
      refine cI (fun h4 => ?_) (fun h4 => ?_)
      · rw [if_pos h4] at hsn
        repeat' first | refine ⟨by omega, ?_⟩ | refine cI (fun _ => ?_) (fun _ => ?_)
        refine loopW_n (j + 1) ⟨by omega, by rw [hsn]⟩ (by omega) ?_
        rw [hsn]
        simp only [push_cast, Nat.reduceAdd, Nat.reduceSub, Nat.reduceMul, Nat.reduceLT, Nat.reduceLeDiff, Nat.reduceEqDiff, Int.reduceToNat, ↓reduceIte]
      · have h4 : (symR (T[j]'hjl) (symRs (T.take j) q0).1).2 = false := by simpa using h4
        have hff := symRs_fail (T.take j) q0 (T[j]'hjl) (T.drop (j + 1)) hj.2 h4
        rw [← List.drop_eq_getElem_cons hjl, List.take_append_drop] at hff
        have hbad : (symRs (rT rs) []).2 = false := by
          rw [rT_split rs i hil, hlr, symRs_app, if_pos hi.2, ← hq0, symRs_app, ← hT, hff]; simp
        simp only [push_cast, Nat.reduceAdd, Nat.reduceSub, Nat.reduceMul, Nat.reduceLT, Nat.reduceLeDiff, Nat.reduceEqDiff, Int.reduceToNat, ↓reduceIte, hbad, encL_nil, Bool.false_eq_true, if_false]
    · have hj2 : j = 2 := by omega
      subst hj2
      rw [List.take_of_length_le (show T.length ≤ 2 by omega)] at hj ⊢
      have e1 : symRs (rT (rs.take (i + 1))) [] = symRs T q0 := by rw [hTi, symRs_app, if_pos hi.2, ← hq0, hT]
      repeat' first | refine ⟨by omega, ?_⟩ | refine cI (fun _ => ?_) (fun _ => ?_)
      refine loopW_n (i + 1) ⟨by omega, by rw [e1]; exact hj.2⟩ (by omega) ?_
      rw [e1]
      simp only [push_cast, Nat.reduceAdd, Nat.reduceSub, Nat.reduceMul, Nat.reduceLT, Nat.reduceLeDiff, Nat.reduceEqDiff, Int.reduceToNat, ↓reduceIte]
  · rw [List.take_of_length_le (show rs.length ≤ i by omega)] at hi ⊢
    simp only [push_cast, Nat.reduceAdd, Nat.reduceSub, Nat.reduceMul, Nat.reduceLT, Nat.reduceLeDiff, Nat.reduceEqDiff, Int.reduceToNat, ↓reduceIte, hi.2]
theorem checkSystemR_ac (rs : List (Term × Term)) (hlen : rs.length < 1099511627776) (hb : BndR rs) (H : List AObj) : ACall Tryz.prog 49 [.sl .none (encL encRu rs)] H (fun r H' => r = .int .i64 (sysP rs) ∧ H' = H) := by
  have hb' : ∀ r, r ∈ rs → r.1.bulk ≤ 1099511627775 ∧ r.2.bulk ≤ 1099511627775 := fun r hr => by have := hb r hr; omega
  refine ACall_V (H.length) 37 [.tmp 2] Tryz.func49 rfl rfl rfl ?_
  simp only [push_cast, Nat.reduceAdd, Nat.reduceSub, Nat.reduceMul, Nat.reduceLT, Nat.reduceLeDiff, Nat.reduceEqDiff, Int.reduceToNat, ↓reduceIte]
  refine (rulesR_ac rs hlen hb' _).to ?_
  simp only [push_cast, Nat.reduceAdd, Nat.reduceSub, Nat.reduceMul, Nat.reduceLT, Nat.reduceLeDiff, Nat.reduceEqDiff, Int.reduceToNat, ↓reduceIte]
  refine cI (fun h1 => ?_) (fun h1 => ?_)
  · have hsz := rules_size h1
    have hag := rules_agree h1
    refine (symbolsR_ac rs hlen hb (by omega) _).to ?_
    simp only [push_cast, Nat.reduceAdd, Nat.reduceSub, Nat.reduceMul, Nat.reduceLT, Nat.reduceLeDiff, Nat.reduceEqDiff, Int.reduceToNat, ↓reduceIte]
    refine cI (fun h2 => ?_) (fun h2 => ?_)
    · rw [h2] at hag
      have hag := hag.symm
      rw [Bool.and_eq_true, Bool.not_eq_true'] at hag
      have hm : (arE rs).2.any (fun s => markedP s.1) = false := by
        rw [List.all_eq_true] at hag
        rw [← Bool.not_eq_true, List.any_eq_true]
        rintro ⟨x, hx, hxm⟩
        have := hag.2 x hx
        rw [hxm] at this; cases this
      have hS : sysP rs = if rs.any extraP then 7 else 0 := by simp [sysP, h1, hag.1, hm]
      refine AW_loopW (maskG 38 [20, 0, 0]) (fun (i : Nat) => [(22, .int .i64 i)]) (fun _ => H) (fun i => i ≤ rs.length ∧ (rs.take i).any extraP = false) (fun i => rs.length - i) 0 ⟨Nat.zero_le _, by simp⟩ (by simp only [push_cast, Nat.reduceAdd, Nat.reduceSub, Nat.reduceMul, Nat.reduceLT, Nat.reduceLeDiff, Nat.reduceEqDiff, Int.reduceToNat, ↓reduceIte]) (fun i hi => ?_)
      simp only [push_cast, Nat.reduceAdd, Nat.reduceSub, Nat.reduceMul, Nat.reduceLT, Nat.reduceLeDiff, Nat.reduceEqDiff, Int.reduceToNat, ↓reduceIte]
      refine cI (fun h => ?_) (fun h => ?_)
      · repeat refine ⟨by omega, ?_⟩
        have hil : i < rs.length := by omega
        have hbi := hb _ (List.getElem_mem hil)
        have hex := extra_within (rs[i]'hil)
        refine cI (fun hv => ?_) (fun hv => ?_)
        · have hx : extraP (rs[i]'hil) = true := by rw [hex, hv]; rfl
          have e : sysP rs = 7 := by rw [hS, if_pos (any_get hil hx)]
          simp only [push_cast, Nat.reduceAdd, Nat.reduceSub, Nat.reduceMul, Nat.reduceLT, Nat.reduceLeDiff, Nat.reduceEqDiff, Int.reduceToNat, ↓reduceIte, e]
        · have hv : (rs[i]'hil).1.var = false := by simpa using hv
          rw [hv, Bool.false_or] at hex
          repeat refine ⟨by omega, ?_⟩
          refine (withinR_ac (rs[i]'hil).2 (rs[i]'hil).1 hbi.2 hbi.1 _).to ?_
          simp only [push_cast, Nat.reduceAdd, Nat.reduceSub, Nat.reduceMul, Nat.reduceLT, Nat.reduceLeDiff, Nat.reduceEqDiff, Int.reduceToNat, ↓reduceIte, ← hex]
          refine cI (fun hx => ?_) (fun hx => ?_)
          · rw [hS, if_pos (any_get hil hx)]
          · repeat' first | refine ⟨by omega, ?_⟩ | refine cI (fun _ => ?_) (fun _ => ?_)
            exact loopW_n (i + 1) ⟨by omega, any_take_false hi.2 hil (by simpa using hx)⟩ (by omega) (by simp only [push_cast, Nat.reduceAdd, Nat.reduceSub, Nat.reduceMul, Nat.reduceLT, Nat.reduceLeDiff, Nat.reduceEqDiff, Int.reduceToNat, ↓reduceIte])
      · have e := hi.2
        rw [List.take_of_length_le (show rs.length ≤ i by omega)] at e
        have e2 : sysP rs = 0 := by rw [hS, e]; rfl
        simp only [push_cast, Nat.reduceAdd, Nat.reduceSub, Nat.reduceMul, Nat.reduceLT, Nat.reduceLeDiff, Nat.reduceEqDiff, Int.reduceToNat, ↓reduceIte, e2]
    · have h2 : (symRs (rT rs) []).2 = false := by simpa using h2
      rw [h2] at hag
      have e : sysP rs = 6 := by
        cases hB : arB rs with
        | true => simp [sysP, h1, hB]
        | false =>
          rw [hB] at hag
          have hm : (arE rs).2.any (fun s => markedP s.1) = true := by
            rw [← Bool.not_eq_false]
            intro h5
            rw [← Bool.not_eq_true, List.any_eq_true] at h5
            have : (arE rs).2.all (fun s => !markedP s.1) = true := by
              rw [List.all_eq_true]
              intro x hx
              by_cases hxm : markedP x.1 = true
              · exact absurd ⟨x, hx, hxm⟩ h5
              · simpa using hxm
            rw [this] at hag; cases hag
          simp [sysP, h1, hB, hm]
      simp only [push_cast, Nat.reduceAdd, Nat.reduceSub, Nat.reduceMul, Nat.reduceLT, Nat.reduceLeDiff, Nat.reduceEqDiff, Int.reduceToNat, ↓reduceIte, e]
  · have e : sysP rs = rulesP rs := by simp [sysP, h1]
    simp only [push_cast, Nat.reduceAdd, Nat.reduceSub, Nat.reduceMul, Nat.reduceLT, Nat.reduceLeDiff, Nat.reduceEqDiff, Int.reduceToNat, ↓reduceIte, e]
end Ab
set_option maxRecDepth 10000
namespace Ab
open Go Go.Proofs
theorem putR_ac (x : Term) (hx : x.bulk ≤ 1099511627775) : ∀ (p : List Int) (t y : Term), t.bulk ≤ 1099511627775 → p.length < 1099511627776 → atP t p = some y → ∀ H,
    ACall Tryz.prog 28 [encT t, .sl .none (encP p), encT x] H (fun r H' => r = encT (putP t p x) ∧ H' = H) := by
  intro p
  induction p with
  | nil =>
    rintro ⟨n, u, xs⟩ y hb hlen hat H
    refine ACall_V (H.length) 32 [.cell 6 25] Tryz.func28 rfl rfl rfl ?_
    simp only [push_cast, Nat.reduceAdd, Nat.reduceSub, Nat.reduceMul, Nat.reduceLT, Nat.reduceLeDiff, Nat.reduceEqDiff, Int.reduceToNat, ↓reduceIte, putP]
  | cons k q ih =>
    rintro ⟨n, u, xs⟩ y hb hlen hat H
    have hl2 := Term.len_le (n := n) (v := u) (xs := xs)
    obtain ⟨hk, hat2⟩ := step_some hat
    rw [step_put _ _ _ _ _ _ hk.2]
    have hbx := arg_bulk hb k.toNat hk.2
    have hne : encTs xs ≠ [] := fun e => by have := congrArg List.length e; rw [encTs_length] at this; simp at this; rw [this] at hk; simp at hk
    have hrec := fun H => ih (xs[k.toNat]'hk.2) y hbx (by simp at hlen; omega) hat2 H
    have hget := flat_encTs_get xs k.toNat hk.2
    have hset := flat_encTs_set2 xs k.toNat hk.2
    have hfl := flat_encTs_len xs
    refine ACall_VA (H.length) 32 [.cell 6 25] Tryz.func28 rfl rfl rfl ?_
    refine AW_seq (AW_of_W ?_)
    simp only [push_cast, Nat.reduceAdd, Nat.reduceSub, Nat.reduceMul, Nat.reduceLT, Nat.reduceLeDiff, Nat.reduceEqDiff, Int.reduceToNat, ↓reduceIte]
    refine AW_reserve 1 ?_
    refine AW_seq (AW_of_W ?_)
    simp only [push_cast, Nat.reduceAdd, Nat.reduceSub, Nat.reduceMul, Nat.reduceLT, Nat.reduceLeDiff, Nat.reduceEqDiff, Int.reduceToNat, ↓reduceIte]
    refine cI (fun h => by omega) (fun _ => ?_)
    refine AW_seq (AW_of_W ?_)
    simp only [push_cast, Nat.reduceAdd, Nat.reduceSub, Nat.reduceMul, Nat.reduceLT, Nat.reduceLeDiff, Nat.reduceEqDiff, Int.reduceToNat, ↓reduceIte]
    refine AOp_append_arrAt (H.length + 3) (by exact (agetN _ _ 3).trans rfl) _ (encTs xs) _ rfl rfl sl23 sz25 by25 zr25 rfl (by decide) (uni_encTs _) (cell_encTs _) hne (by rw [encTs_length]; omega) (by rw [encTs_length]; omega) ?_
    simp only [push_cast, Nat.reduceAdd, Nat.reduceSub, Nat.reduceMul, Nat.reduceLT, Nat.reduceLeDiff, Nat.reduceEqDiff, Int.reduceToNat, ↓reduceIte]
    refine AW_seq ?_
    apply AW_drawE [some 16, some 17, some 18, some 19, some 20, some 21, some 22, some 23, some 24, some 25, some 26, some 27, some 28, some 29, some 30, none] [([false], _), ([true], _)] [none, none, none, none, none, none, none, none, none, none, none, none, none, none, none, some 0] 1 [(0, [false], [7]), (1, [false], [1]), (2, [false], [17]), (3, [false], [18]), (4, [false], [7]), (5, [false], [1]), (6, [false], [21]), (7, [false], [22]), (8, [false], [20, 2]), (9, [false], [24]), (10, [false], [1]), (11, [false], [26]), (12, [false], [5]), (13, [false], [25, 1, 0]), (14, [false], [16, 2]), (15, [false], [29, 0])] [_, _, _, _, _, _, _, _, _, _, _, _, _, _, _, _]
    case' hm => exact dr
    case' hn => rfl
    case' hok => rfl
    case' hlen => rfl
    case' hd => rfl
    case' h0 => rfl
    case' hstep =>
     simp only [DAllG, push_cast, Option.isSome_some, Option.isSome_none]
     repeat' apply And.intro
     all_goals (apply DOne_V; simp only [push_cast, Nat.reduceAdd, Nat.reduceSub, Nat.reduceMul, Nat.reduceLT, Nat.reduceLeDiff, Nat.reduceEqDiff, Int.reduceToNat, ↓reduceIte] <;> first | exact rfl | omega | exact ⟨rfl, rfl⟩ | exact trivial | exact ⟨by omega, rfl⟩ | exact ⟨by omega, by omega, rfl⟩ | exact ⟨by omega, rfl, rfl⟩ | exact ⟨by omega, by omega, rfl, rfl⟩ | (rw [hget]; exact ⟨leL_of (by rw [hfl]; omega), rfl⟩) | exact (hrec _).to ⟨rfl, rfl⟩ | (rw [hset]; exact ⟨leL_of (by rw [hfl]; omega), rfl, rfl⟩))
    case' hQ => skip
    obtain ⟨zs, hzs⟩ : ∃ zs, zs = xs.set k.toNat (putP (xs[k.toNat]'hk.2) q x) := ⟨_, rfl⟩
    rw [← hzs]
    have hzl : zs.length = xs.length := by rw [hzs, List.length_set]
    have hLl : (H ++ [AObj.cells [.str n, .bool u, .sl .none (encTs xs)], .cells [.str x.name, .bool x.var, .sl .none (encTs x.args)], .cells [.str [], .bool false, .sl .zero []]]).length = H.length + 3 := by simp
    simp only [push_cast, Nat.reduceAdd, Nat.reduceSub, Nat.reduceMul, Nat.reduceLT, Nat.reduceLeDiff, Nat.reduceEqDiff, Int.reduceToNat, ↓reduceIte]
    apply AW_freezeA (H ++ [.cells [.str n, .bool u, .sl .none (encTs xs)], .cells [.str x.name, .bool x.var, .sl .none (encTs x.args)], .cells [.str [], .bool false, .sl .zero []]]) (flat (encTs zs))
    case' hh => simp
    case' hm => rw [hLl]; simp only [push_cast, Nat.reduceAdd, Nat.reduceSub, Nat.reduceMul, Nat.reduceLT, Nat.reduceLeDiff, Nat.reduceEqDiff, Int.reduceToNat, ↓reduceIte]
    case' hvs => exact scoped_flatT _ zs
    case' hsl => (rw [hLl]; repeat (first | exact FrzOk.nil | apply FrzOk.froz | (apply FrzOk.row (xs := encTs zs); (case' hxs => rfl); (case' hn => (rw [encTs_length, hzl]))) | (apply FrzOk.same; (case' hv => (first | (simp [push_cast]; done) | (simp [push_cast, Scoped, ScopedL, scoped_encTs]; done)))) | apply FrzOk.junk))
    refine AW_of_W ?_
    simp only [push_cast, Nat.reduceAdd, Nat.reduceSub, Nat.reduceMul, Nat.reduceLT, Nat.reduceLeDiff, Nat.reduceEqDiff, Int.reduceToNat, ↓reduceIte]
end Ab
set_option maxRecDepth 10000
namespace Ab
open Go Go.Proofs
set_option maxHeartbeats 2000000 in
theorem substRX_ac (rs : List (Term × Term)) (hr2 : ∀ r, r ∈ rs → r.1.bulk ≤ 1099511627770) (t : Term) (hb : t.bulk ≤ 1099511627775) (s : Int × List Int) (hs : s.2.length < 1099511627776) (H : List AObj) :
    ACall Tryz.prog 101 [.sl .none (encL encRu rs), encT t, encSt s] H (fun r H' => r = encFE (findE rs t s) ∧ H' = H) := by
  refine ACall_V (H.length) 43 [.tmp 6, .tmp 7] Tryz.func101 rfl rfl rfl ?_
  simp only [push_cast, Nat.reduceAdd, Nat.reduceSub, Nat.reduceMul, Nat.reduceLT, Nat.reduceLeDiff, Nat.reduceEqDiff, Int.reduceToNat, ↓reduceIte]
  have bad : ¬ (0 ≤ s.1 ∧ s.1.toNat < rs.length) → findE rs t s = ([], 8) := fun h => if_neg h
  refine (atR_ac t s.2 hb hs _).to ?_
  cases ha : atP t s.2 with
  | none =>
    have e : findE rs t s = ([], 8) := by
      unfold findE
      split
      · rw [ha]
      · rfl
    simp only [push_cast, Nat.reduceAdd, Nat.reduceSub, Nat.reduceMul, Nat.reduceLT, Nat.reduceLeDiff, Nat.reduceEqDiff, Int.reduceToNat, ↓reduceIte, e, encFE, encL_nil]
    exact cI (fun _ => trivial) (fun _ => cI (fun _ => trivial) (fun _ => trivial))
  | some x =>
    simp only [push_cast, Nat.reduceAdd, Nat.reduceSub, Nat.reduceMul, Nat.reduceLT, Nat.reduceLeDiff, Nat.reduceEqDiff, Int.reduceToNat, ↓reduceIte]
    refine cI (fun h => ?_) (fun h => ?_)
    · simp only [push_cast, Nat.reduceAdd, Nat.reduceSub, Nat.reduceMul, Nat.reduceLT, Nat.reduceLeDiff, Nat.reduceEqDiff, Int.reduceToNat, ↓reduceIte, bad (by omega), encFE, encL_nil]
    · refine cI (fun h2 => ?_) (fun h2 => ?_)
      · simp only [push_cast, Nat.reduceAdd, Nat.reduceSub, Nat.reduceMul, Nat.reduceLT, Nat.reduceLeDiff, Nat.reduceEqDiff, Int.reduceToNat, ↓reduceIte, bad (by omega), encFE, encL_nil]
      · have hin : 0 ≤ s.1 ∧ s.1.toNat < rs.length := by omega
        have e : findE rs t s = (match atP t s.2 with
          | some x => if (matchP (ruleN rs s.1).1 x []).2 then ((matchP (ruleN rs s.1).1 x []).1, 0) else ([], 9)
          | none => ([], 8)) := if_pos hin
        simp only [ha] at e
        have hxb := at_bulk _ _ _ ha
        have hrn := ruleN_get hin.2
        have hlb := hr2 _ (List.getElem_mem hin.2)
        apply AW_drawE [some 33, some 34, some 35, some 36, some 37, some 38, some 39, some 40, some 32, some 41, some 42, some 10, some 9] [([], _)] [none, none, none, none, none, none, none, none, none, none, none, none, none] 0 [(0, [], [0]), (1, [], [5]), (2, [], [34]), (3, [], [33, 1]), (4, [], [36]), (5, [], [37]), (6, [], [8]), (7, [], [38, 0]), (8, [], [40]), (9, [], [32]), (10, [], [32]), (11, [], [41]), (12, [], [42])] [_, _, _, _, _, _, _, _, _, _, _, _, _]
        case' hm => exact dr
        case' hn => rfl
        case' hok => rfl
        case' hlen => rfl
        case' hd => rfl
        case' h0 => rfl
        case' hstep =>
         simp only [DAllG, push_cast, Option.isSome_some, Option.isSome_none]
         repeat' apply And.intro
         all_goals (apply DOne_V; simp only [push_cast, Nat.reduceAdd, Nat.reduceSub, Nat.reduceMul, Nat.reduceLT, Nat.reduceLeDiff, Nat.reduceEqDiff, Int.reduceToNat, ↓reduceIte] <;> first | exact rfl | omega | exact ⟨rfl, rfl⟩ | exact trivial | exact ⟨by omega, rfl⟩ | exact ⟨by omega, by omega, rfl⟩ | exact ⟨by omega, rfl, rfl⟩ | exact ⟨by omega, by omega, rfl, rfl⟩ | exact ⟨by omega, by omega, trivial⟩ | exact (matchRef_ac (rs[s.1.toNat]'hin.2).1 x hlb (by omega) _).to ⟨rfl, rfl⟩)
        case' hQ => skip
        rw [← hrn]
        have g1 := (matchR_eq (ruleN rs s.1).1 x []).1
        have g2 := (matchR_eq (ruleN rs s.1).1 x []).2
        rcases Bool.eq_false_or_eq_true (matchP (ruleN rs s.1).1 x []).2 with hm | hm
        · have em : matchR (ruleN rs s.1).1 x [] = ((matchP (ruleN rs s.1).1 x []).1, true) := (g2 hm).trans (by rw [← hm])
          rw [if_pos hm] at e
          rw [em, e]
          generalize (matchP (ruleN rs s.1).1 x []).1 = σ
          simp only [push_cast, Nat.reduceAdd, Nat.reduceSub, Nat.reduceMul, Nat.reduceLT, Nat.reduceLeDiff, Nat.reduceEqDiff, Int.reduceToNat, ↓reduceIte, encFE]
        · have em : matchR (ruleN rs s.1).1 x [] = ((matchR (ruleN rs s.1).1 x []).1, false) := by rw [← g1.trans hm]
          rw [if_neg (by rw [hm]; simp)] at e
          rw [em, e]
          generalize (matchR (ruleN rs s.1).1 x []).1 = σ
          simp only [push_cast, Nat.reduceAdd, Nat.reduceSub, Nat.reduceMul, Nat.reduceLT, Nat.reduceLeDiff, Nat.reduceEqDiff, Int.reduceToNat, ↓reduceIte, encFE, encL_nil]
theorem substR_ac (rs : List (Term × Term)) (hr : SysB rs) (t : Term) (hb : t.bulk ≤ 1099511627775) (s : Int × List Int) (hs : s.2.length < 1099511627776) (H : List AObj) :
    ACall Tryz.prog 101 [.sl .none (encL encRu rs), encT t, encSt s] H (fun r H' => r = encFE (findE rs t s) ∧ H' = H) := substRX_ac rs (fun r h => (hr.2 r h).1) t hb s hs H
theorem put_size (s : Term) : ∀ (p : List Int) (c x : Term), atP c p = some x → (putP c p s).size ≤ c.size + s.size
  | [], c, x, _ => by cases c; simp [putP]
  | i :: p, .mk n u xs, x, h => by
    obtain ⟨hk, h2⟩ := step_some h
    have ih := put_size s p _ x h2
    rw [step_put n u xs i p s hk.2, Term.size_mk, Term.size_mk]
    have h1 := sum_setN Term.size xs i.toNat hk.2 (putP (xs[i.toNat]'hk.2) p s)
    omega
theorem set_sizes (f : Term → Nat) (xs : List Term) (k : Nat) (z : Term) (i : Nat) (h : i < xs.length) : ((xs.set k z)[i]'(by simpa using h)) = if k = i then z else xs[i] := by
  rw [List.getElem_set]
set_option maxHeartbeats 2000000 in
theorem replacedX_ac (x : Term) (hx : x.size ≤ 100000000000) (hxd : x.depth ≤ 100000000000) : ∀ (p : List Int) (t y : Term), t.bulk ≤ 100000000000 → p.length < 1099511627776 → atP t p = some y → ∀ H,
    ACall Tryz.prog 103 [encT t, .sl .none (encP p), .int .i64 x.size, .int .i64 x.depth] H (fun r H' => r = .tup [.int .i64 (putP t p x).size, .int .i64 (putP t p x).depth] ∧ H' = H) := by
  intro p
  induction p with
  | nil =>
    intro t y hb hp ha H
    have e : putP t [] x = x := by cases t; rfl
    rw [e]
    refine ACall_V (H.length) 53 [.tmp 8, .tmp 9] Tryz.func103 rfl rfl rfl ?_
    simp only [push_cast, Nat.reduceAdd, Nat.reduceSub, Nat.reduceMul, Nat.reduceLT, Nat.reduceLeDiff, Nat.reduceEqDiff, Int.reduceToNat, ↓reduceIte, encP_length]
  | cons k p ih =>
    intro t y hb hp ha H
    obtain ⟨n, u, xs⟩ := t
    obtain ⟨hk, ha2⟩ := step_some ha
    have hlx := Term.len_le (n := n) (v := u) (xs := xs)
    have ep := step_put n u xs k p x hk.2
    obtain ⟨z, hz⟩ : ∃ z, z = putP (xs[k.toNat]'hk.2) p x := ⟨_, rfl⟩
    rw [ep, ← hz]
    have hkb := Term.arg_le (n := n) (v := u) (List.getElem_mem hk.2)
    have hpb := put_size x _ _ _ ha2
    rw [← hz] at hpb
    have hxs0 := (xs[k.toNat]'hk.2).size_le
    have hzd := z.depth_le
    obtain ⟨ys, hys⟩ : ∃ ys, ys = xs.set k.toNat z := ⟨_, rfl⟩
    have hyl : ys.length = xs.length := by rw [hys]; simp
    rw [← hys, Term.size_mk, Term.depth_mk]
    have hget : ∀ i (h : i < xs.length), ys[i]'(by omega) = if k.toNat = i then z else xs[i] := fun i h => by
      simp only [hys]; exact set_sizes Term.size xs k.toNat z i h
    have hys2 : (ys.map Term.size).sum ≤ 300000000000 := by
      have h1 := sum_setN Term.size xs k.toNat hk.2 z
      rw [← hys] at h1
      have h2 := (Term.mk n u xs).size_le
      rw [Term.size_mk] at h2
      omega
    refine ACall_V (H.length) 53 [.tmp 8, .tmp 9] Tryz.func103 rfl rfl rfl ?_
    simp only [push_cast, Nat.reduceAdd, Nat.reduceSub, Nat.reduceMul, Nat.reduceLT, Nat.reduceLeDiff, Nat.reduceEqDiff, Int.reduceToNat, ↓reduceIte, encP_length]
    refine cI (fun h => absurd h (by omega)) (fun _ => ?_)
    refine AW_loopW (maskG 57 [1, 0, 0, 6, 0, 10, 0, 0]) (fun (i : Nat) => [(24, .int .i64 i), (10, .int .i64 (1 + ((ys.take i).map Term.size).sum : Nat)), (11, .int .i64 (((ys.take i).map Term.depth).foldl max 0 : Nat))]) (fun i => H ++ [.cells [.str n, .bool u, .sl .none (encTs xs)]]) (fun i => i ≤ xs.length) (fun i => xs.length - i) 0 (Nat.zero_le _) (by simp only [push_cast, Nat.reduceAdd, Nat.reduceSub, Nat.reduceMul, Nat.reduceLT, Nat.reduceLeDiff, Nat.reduceEqDiff, Int.reduceToNat, ↓reduceIte, List.take_zero]; simp) (fun i hi => ?_)
    simp only [push_cast, Nat.reduceAdd, Nat.reduceSub, Nat.reduceMul, Nat.reduceLT, Nat.reduceLeDiff, Nat.reduceEqDiff, Int.reduceToNat, ↓reduceIte]
    refine cI (fun h => ?_) (fun h => ?_)
    · have hix : i < xs.length := by omega
      have hiy : i < ys.length := by omega
      refine ⟨hix, ?_⟩
      have hib := Term.arg_le (n := n) (v := u) (List.getElem_mem hix)
      have hst1 := take_sum Term.size ys i hiy
      have hst2 := take_depth ys i hiy
      have hg := hget i hix
      have hle := take_sum_le Term.size ys (i + 1)
      have hle0 := take_sum_le Term.size ys i
      have hdl := foldl_max_le Term.depth (ys.take i) 0
      have hdl2 : ((ys.take i).map Term.depth).sum ≤ ((ys.take i).map Term.size).sum := by
        generalize ys.take i = l
        induction l with
        | nil => simp
        | cons a r ih => have := a.depth_le; simp only [List.map_cons, List.sum_cons]; omega
      have hsi := xs[i].size_le
      have hdi := xs[i].depth_le
      apply AW_drawE [some 29, some 30, some 31, some 32, some 14, some 15] [([], _)] [none, none, none, none, none, none] 0 [(0, [], [13]), (1, [], [29]), (2, [], [13]), (3, [], [31]), (4, [], [30]), (5, [], [32])] [_, _, _, _, _, _]
      case' hm => exact dr
      case' hn => rfl
      case' hok => rfl
      case' hlen => rfl
      case' hd => rfl
      case' h0 => rfl
      case' hstep =>
       simp only [DAllG, push_cast, Option.isSome_some, Option.isSome_none]
       repeat' apply And.intro
       all_goals (apply DOne_V; simp only [push_cast, Nat.reduceAdd, Nat.reduceSub, Nat.reduceMul, Nat.reduceLT, Nat.reduceLeDiff, Nat.reduceEqDiff, Int.reduceToNat, ↓reduceIte] <;> first | exact rfl | omega | exact ⟨rfl, rfl⟩ | exact trivial | exact ⟨by omega, rfl⟩ | exact ⟨by omega, by omega, rfl⟩ | exact ⟨by omega, rfl, rfl⟩ | exact ⟨by omega, by omega, rfl, rfl⟩ | exact (sizeR_ac xs[i] (by omega) _).to ⟨rfl, rfl⟩ | exact (depthR_ac xs[i] (by omega) _).to ⟨rfl, rfl⟩)
      case' hQ => skip
      simp only [push_cast, Nat.reduceAdd, Nat.reduceSub, Nat.reduceMul, Nat.reduceLT, Nat.reduceLeDiff, Nat.reduceEqDiff, Int.reduceToNat, ↓reduceIte]
      refine ⟨by omega, by simp, ?_⟩
      refine cI (fun hik => ?_) (fun hik => ?_)
      · have hki : k.toNat = i := by omega
        rw [if_pos hki] at hg
        subst hki
        have hdr : List.drop 1 (encP (k :: p)) = encP p := rfl
        apply AW_drawE [some 39, some 40, some 41, some 42, some 43, some 44, some 38, some 45, some 46, some 14, some 15] [([], _)] [none, none, none, none, none, none, none, none, none, none, none] 0 [(0, [], [13]), (1, [], [1]), (2, [], [40]), (3, [], [2]), (4, [], [3]), (5, [], [39, 1, 0, 0]), (6, [], [44]), (7, [], [38]), (8, [], [38]), (9, [], [45]), (10, [], [46])] [_, _, _, _, _, _, _, _, _, _, _]
        case' hm => exact dr
        case' hn => rfl
        case' hok => rfl
        case' hlen => rfl
        case' hd => rfl
        case' h0 => rfl
        case' hstep =>
         simp only [DAllG, push_cast, Option.isSome_some, Option.isSome_none]
         repeat' apply And.intro
         all_goals (apply DOne_V; simp only [push_cast, Nat.reduceAdd, Nat.reduceSub, Nat.reduceMul, Nat.reduceLT, Nat.reduceLeDiff, Nat.reduceEqDiff, Int.reduceToNat, ↓reduceIte] <;> first | exact rfl | omega | exact ⟨rfl, rfl⟩ | exact trivial | exact ⟨by omega, rfl⟩ | exact ⟨by omega, by omega, rfl⟩ | exact ⟨by omega, rfl, rfl⟩ | exact ⟨by omega, by omega, rfl, rfl⟩ | exact (ih (xs[k.toNat]'hk.2) y (by omega) (by simp at hp; omega) ha2 _).to ⟨rfl, rfl⟩)
        case' hQ => skip
        rw [← hz]
        rw [hg] at hst1 hst2
        simp only [push_cast, Nat.reduceAdd, Nat.reduceSub, Nat.reduceMul, Nat.reduceLT, Nat.reduceLeDiff, Nat.reduceEqDiff, Int.reduceToNat, ↓reduceIte]
        repeat' first | refine ⟨by omega, ?_⟩ | refine cI (fun _ => ?_) (fun _ => ?_)
        refine loopW_n (k.toNat + 1) (by omega) (by omega) ?_
        rw [hst1, hst2]
        simp only [push_cast, Nat.reduceAdd, Nat.reduceSub, Nat.reduceMul, Nat.reduceLT, Nat.reduceLeDiff, Nat.reduceEqDiff, Int.reduceToNat, ↓reduceIte]
        omega
      · have hki : ¬ k.toNat = i := by omega
        rw [if_neg hki] at hg
        rw [hg] at hst1 hst2
        repeat' first | refine ⟨by omega, ?_⟩ | refine cI (fun _ => ?_) (fun _ => ?_)
        refine loopW_n (i + 1) (by omega) (by omega) ?_
        rw [hst1, hst2]
        simp only [push_cast, Nat.reduceAdd, Nat.reduceSub, Nat.reduceMul, Nat.reduceLT, Nat.reduceLeDiff, Nat.reduceEqDiff, Int.reduceToNat, ↓reduceIte]
        omega
    · rw [List.take_of_length_le (show ys.length ≤ i by omega)]
      have hdl := foldl_max_le Term.depth ys 0
      have hdl2 : (ys.map Term.depth).sum ≤ (ys.map Term.size).sum := by
        generalize ys = l
        induction l with
        | nil => simp
        | cons a r ih => have := a.depth_le; simp only [List.map_cons, List.sum_cons]; omega
      simp only [push_cast, Nat.reduceAdd, Nat.reduceSub, Nat.reduceMul, Nat.reduceLT, Nat.reduceLeDiff, Nat.reduceEqDiff, Int.reduceToNat, ↓reduceIte]
      omega
theorem replaced_ac (x : Term) (hx : x.bulk ≤ 100000000000) (p : List Int) (t y : Term) (hb : t.bulk ≤ 100000000000) (hp : p.length < 1099511627776) (ha : atP t p = some y) (H : List AObj) :
    ACall Tryz.prog 103 [encT t, .sl .none (encP p), .int .i64 x.size, .int .i64 x.depth] H (fun r H' => r = .tup [.int .i64 (putP t p x).size, .int .i64 (putP t p x).depth] ∧ H' = H) :=
  replacedX_ac x (by have := x.size_le; omega) (by have := x.size_le; have := x.depth_le; omega) p t y hb hp ha H
end Ab
set_option maxRecDepth 10000
namespace Ab
open Go Go.Proofs
theorem do_alt {rs : List (Term × Term)} {t : Term} {s : Int × List Int} : doE rs t s = if (findE rs t s).2 ≠ 0 then (zeroT, (findE rs t s).2) else if fitsP (putP t s.2 (rhsP rs t s)) = true then (putP t s.2 (rhsP rs t s), 0) else (zeroT, 3) := by
  unfold doE
  by_cases h : (findE rs t s).2 ≠ 0
  · rw [if_pos h, if_pos h]
  · rw [if_neg h, if_neg h]
    obtain ⟨x, hf⟩ := find_ok (by simpa using h)
    by_cases h2 : fitsP (putP t s.2 (rhsP rs t s)) = true
    · have hs := (at_sub _ _ _ (at_put _ _ (rhsP rs t s) _ hf.at')).sizes
      have h1 : fitsP (rhsP rs t s) = true := by
        unfold fitsP at h2 ⊢
        rw [Bool.and_eq_true, decide_eq_true_eq, decide_eq_true_eq] at h2 ⊢
        omega
      rw [if_pos ⟨h1, h2⟩, if_pos h2]
    · rw [if_neg h2, if_neg (fun h => h2 h.2)]
set_option maxHeartbeats 2000000 in
theorem stepR_ac (rs : List (Term × Term)) (hr : sysP rs = 0) (t : Term) (ht : checkP t = 0) (s : Int × List Int) (hs : s.2.length < 1099511627776) (H : List AObj) :
    ACall Tryz.prog 51 [.sl .none (encL encRu rs), encT t, encSt s] H (fun r H' => r = encRE (doE rs t s) ∧ H' = H) := by
  obtain ⟨hB, hck, _⟩ := sys_B hr
  have htb := check_small ht
  rw [do_alt]
  refine ACall_V (H.length) 59 [.cell 6 25, .tmp 7] Tryz.func51 rfl rfl rfl ?_
  simp only [push_cast, Nat.reduceAdd, Nat.reduceSub, Nat.reduceMul, Nat.reduceLT, Nat.reduceLeDiff, Nat.reduceEqDiff, Int.reduceToNat, ↓reduceIte]
  refine (substR_ac rs hB t (by omega) s hs _).to ?_
  simp only [push_cast, Nat.reduceAdd, Nat.reduceSub, Nat.reduceMul, Nat.reduceLT, Nat.reduceLeDiff, Nat.reduceEqDiff, Int.reduceToNat, ↓reduceIte, encFE]
  refine cI (fun h => ?_) (fun h => ?_)
  · rw [if_neg (by simpa using h)]
    obtain ⟨x, hf⟩ := find_ok h
    obtain ⟨hso, hsl⟩ := hf.subOk
    have hxs := at_sub _ _ _ hf.at'
    have hxc := check_small (hxs.check ht)
    have hrc := check_small (hck _ hf.mem).2
    have hlc := check_small (hck _ hf.mem).1
    have hap := hso.apply hxc hrc
    have hrn := ruleN_get hf.hi
    have hpb := put_bulk (rhsP rs t s) _ _ _ hf.at'
    have hb2 : (rhsP rs t s).bulk ≤ 20000000000 := hap.2
    have hsbk : ∀ b, b ∈ (findE rs t s).1 → b.2.bulk ≤ 1099511627775 := fun b hb => by have := (hso.bulk b hb).1; omega
    refine ⟨hf.lo, hf.hi, ?_⟩
    rw [← hrn]
    refine (grownR_ac (findE rs t s).1 (by omega) hsbk (ruleN rs s.1).2 (by omega) (by omega) _).to ?_
    simp only [push_cast, Nat.reduceAdd, Nat.reduceSub, Nat.reduceMul, Nat.reduceLT, Nat.reduceLeDiff, Nat.reduceEqDiff, Int.reduceToNat, ↓reduceIte]
    refine (replaced_ac (rhsP rs t s) (by omega) s.2 t x (by omega) hs hf.at' _).to ?_
    simp only [push_cast, Nat.reduceAdd, Nat.reduceSub, Nat.reduceMul, Nat.reduceLT, Nat.reduceLeDiff, Nat.reduceEqDiff, Int.reduceToNat, ↓reduceIte]
    obtain ⟨u, hu⟩ : ∃ u, u = putP t s.2 (rhsP rs t s) := ⟨_, rfl⟩
    rw [← hu]
    have fn : ¬ (u.size ≤ 4000 ∧ u.depth ≤ 200) → ¬ fitsP u = true := fun h1 h2 => by
      unfold fitsP at h2
      rw [Bool.and_eq_true, decide_eq_true_eq, decide_eq_true_eq] at h2
      exact h1 h2
    refine cI (fun h1 => ?_) (fun h1 => ?_)
    · rw [if_neg (fn (by omega))]
      simp only [push_cast, Nat.reduceAdd, Nat.reduceSub, Nat.reduceMul, Nat.reduceLT, Nat.reduceLeDiff, Nat.reduceEqDiff, Int.reduceToNat, ↓reduceIte]
    · refine cI (fun h2 => ?_) (fun h2 => ?_)
      · rw [if_neg (fn (by omega))]
        simp only [push_cast, Nat.reduceAdd, Nat.reduceSub, Nat.reduceMul, Nat.reduceLT, Nat.reduceLeDiff, Nat.reduceEqDiff, Int.reduceToNat, ↓reduceIte]
      · have hfu : fitsP u = true := by unfold fitsP; rw [Bool.and_eq_true, decide_eq_true_eq, decide_eq_true_eq]; omega
        rw [if_pos hfu]
        apply AW_drawE [some 50, some 51, some 52, some 53, some 54, some 55, some 56, some 57, some 58, some 59, some 60, some 61, none, some 7] [([false], _), ([true], _)] [none, none, none, none, none, none, none, none, none, none, none, none, some 0, none] 1 [(0, [false], [4]), (1, [false], [5]), (2, [false], [51]), (3, [false], [8]), (4, [false], [0]), (5, [false], [5]), (6, [false], [55]), (7, [false], [54, 1]), (8, [false], [57]), (9, [false], [58]), (10, [false], [53, 5]), (11, [false], [50, 1, 7]), (12, [false], [6, 54]), (13, [true], [])] [_, _, _, _, _, _, _, _, _, _, _, _, _, _]
        case' hm => exact dr
        case' hn => rfl
        case' hok => rfl
        case' hlen => rfl
        case' hd => rfl
        case' h0 => rfl
        case' hstep =>
         simp only [DAllG, push_cast, Option.isSome_some, Option.isSome_none]
         repeat' apply And.intro
         all_goals (apply DOne_V; simp only [push_cast, Nat.reduceAdd, Nat.reduceSub, Nat.reduceMul, Nat.reduceLT, Nat.reduceLeDiff, Nat.reduceEqDiff, Int.reduceToNat, ↓reduceIte] <;> first | exact rfl | omega | exact ⟨rfl, rfl⟩ | exact trivial | exact ⟨by omega, rfl⟩ | exact ⟨by omega, by omega, rfl⟩ | exact ⟨by omega, rfl, rfl⟩ | exact ⟨by omega, by omega, rfl, rfl⟩ | exact ⟨hf.lo, hf.hi, rfl⟩ | (rw [← hrn]; refine (applyR_ac (findE rs t s).1 (by omega) (ruleN rs s.1).2 (by omega) _).to ?_; exact ⟨rfl, rfl⟩) | (refine (putR_ac (rhsP rs t s) (by omega) s.2 t x (by omega) hs hf.at' _).to ?_; exact ⟨rfl, rfl⟩))
        case' hQ => skip
        rw [← hu]
        simp only [push_cast, Nat.reduceAdd, Nat.reduceSub, Nat.reduceMul, Nat.reduceLT, Nat.reduceLeDiff, Nat.reduceEqDiff, Int.reduceToNat, ↓reduceIte]
  · rw [if_pos h]
    simp only [push_cast, Nat.reduceAdd, Nat.reduceSub, Nat.reduceMul, Nat.reduceLT, Nat.reduceLeDiff, Nat.reduceEqDiff, Int.reduceToNat, ↓reduceIte]
theorem lefts {rs : List (Term × Term)} (h : sysP rs = 0) : ∀ r, r ∈ rs → r.1.var = false := fun r hr => by
  have := (sys_B h).2.2 r hr
  unfold extraP at this
  rw [Bool.or_eq_false_iff] at this
  exact this.1
end Ab
set_option maxRecDepth 10000
namespace Ab
open Go Go.Proofs
def nmB (N : Nat) : Term → Bool
  | .mk n _ xs => decide (n.length ≤ N) && (xs.map (nmB N)).all id
theorem nmB_mk (N : Nat) (n : List UInt8) (u : Bool) (xs : List Term) : nmB N (.mk n u xs) = (decide (n.length ≤ N) && xs.all (nmB N)) := by rw [nmB, List.all_map]; rfl
theorem nmB_iff (N : Nat) (n : List UInt8) (u : Bool) (xs : List Term) : nmB N (.mk n u xs) = true ↔ n.length ≤ N ∧ ∀ x, x ∈ xs → nmB N x = true := by rw [nmB_mk, Bool.and_eq_true, decide_eq_true_eq, List.all_eq_true]
theorem nm_bulk (N : Nat) (t : Term) : nmB N t = true → t.bulk ≤ t.size * (N + 1) := by
  induction t using Term.ind with | _ n u xs ih
  intro h
  obtain ⟨h1, h2⟩ := (nmB_iff N n u xs).1 h
  rw [Term.bulk_mk, Term.size_mk]
  have key : ∀ ys : List Term, (∀ y, y ∈ ys → y ∈ xs) → (ys.map Term.bulk).sum ≤ (ys.map Term.size).sum * (N + 1) := by
    intro ys
    induction ys with
    | nil => intro _; simp
    | cons y ys ih2 =>
      intro hy
      have a := ih y (hy y (by simp)) (h2 y (hy y (by simp)))
      have b := ih2 (fun z hz => hy z (by simp [hz]))
      simp only [List.map_cons, List.sum_cons, Nat.add_mul]
      omega
  have := key xs (fun y h => h)
  rw [Nat.add_mul]
  omega
def TmB (t : Term) : Prop := t.size ≤ 4000 ∧ nmB 1048576 t = true
theorem TmB.bulk {t : Term} (h : TmB t) : t.bulk ≤ 4194308000 := by
  have h1 := nm_bulk 1048576 t h.2
  have h2 : t.size * (1048576 + 1) ≤ 4000 * (1048576 + 1) := Nat.mul_le_mul h.1 (Nat.le_refl _)
  omega
def RuB (rs : List (Term × Term)) : Prop := ∀ r, r ∈ rs → r.1.bulk ≤ 1048576 ∧ r.2.bulk ≤ 1048576
theorem gSl_tk (k : Nat) (xs : List AV) : ∃ tk, gSl k xs = .sl tk xs := by cases xs <;> exact ⟨_, rfl⟩
end Ab
set_option maxRecDepth 10000
namespace Ab
open Go Go.Proofs
section
variable {P : Program} {ro : Option Nat} {H0 : List AObj} {Q : Exit → ASt → Prop} {st : ASt} {K : AV → List AObj → Prop} {dst : Option Tmp} {ty : TypeId} {pos : String} {after : Array Edge} {guard : Option (Nat × Bool)}
inductive ToA (m : Nat) (h : List AObj) : AV → AV → Prop
  | fgt {r v : AV} (hf : fgtW r v) : ToA m h r v
  | rowA (k e sz : Nat) {xs cs cs' : List AV} {b b' : AV} (hk : h[k]? = some (grO e sz xs)) (hl : (flat xs).length = xs.length * sz) (hm : m ≤ k) (hsc : ScopedL m (flat xs)) (hc : fgtL cs cs') (hb : fgtW b b') : ToA m h (.tup [.agg (grS k xs :: cs), b]) (.tup [.agg (.sl .none xs :: cs'), b'])
def finHH (H : List AObj) (m : Nat) (v : AV) (H1 h : List AObj) (r : AV) : Prop := OutOk H h m ∧ ToA m h r v ∧ Scoped m v ∧ h.take m = H1
def finVH (P : Program) (H : List AObj) (m : Nat) (v : AV) (H1 : List AObj) (rs : List ResultVar) : Exit → ASt → Prop
  | .normal, st => finR P rs st (finHH H m v H1 st.heap)
  | .ret, st => finR P rs st (finHH H m v H1 st.heap)
  | _, _ => False
theorem ACall_VHA {f : Nat} {fn : Func} {c : Code} {args : List AV} {H H1 : List AObj} {v : AV} (m n : Nat) (rs : List ResultVar) (hf : P.funcs[f]? = some fn) (hb : fn.body = some c) (hn : fn.ntmps - args.length = n) (hr : fn.results = rs.toArray)
    (h : AW P none H c (finVH P H m v H1 rs) ⟨args ++ List.replicate n (.lit undef), H⟩) : ACall P f args H (fun r H' => r = v ∧ H' = H1) := by
  subst hn
  intro C vs hg hH hsz hv
  refine ACall_of_AW (P := P) hf hb ?_ C vs hg hH hsz hv (R := fun r H' => r = v ∧ H' = H1)
  refine AW_mono h ?_
  intro e st' hh
  have key : finR P rs st' (finHH H m v H1 st'.heap) → ∃ r, ResOk P fn st' r ∧ finHH H m v H1 st'.heap r := by
    intro hh
    cases rs with
    | nil => exact ⟨.tup [], by unfold ResOk; rw [hr], hh⟩
    | cons x rs =>
      cases rs with
      | nil =>
        refine ⟨_, ?_, hh.2⟩
        have := resPre_spec hh.1
        unfold ResOk; rw [hr]
        cases x with
        | tmp t => rfl
        | cell a t => exact this
      | cons y l =>
        refine ⟨_, ?_, hh.2⟩
        unfold ResOk; rw [hr]
        have h2 := resPres_spec hh.1
        cases x <;> exact ⟨_, rfl, h2⟩
  have fin : (∃ r, ResOk P fn st' r ∧ finHH H m v H1 st'.heap r) → ∀ C1 a, Good C1 → C1.H = st'.heap → SRel C1 st' a → ∃ u r C', (results fn a.tmps).run P C1.w = .ok u C1.w ∧ C'.w = C1.w ∧ Good C' ∧ (∀ C0, Ext C0 C1 → C0.H = H → Good C0 → Ext C0 C') ∧ VRel C' r u ∧ (r = v ∧ C'.H = H1) := by
    rintro ⟨r, hr, ho, hto, hsc, ht⟩ C1 a hg1 hH1 hs1
    obtain ⟨u, hrun, hrel⟩ := results_run hr hg1 hH1 hs1
    have ho' : OutOk C.H C1.H m := by rw [hH, hH1]; exact ho
    have hgt : Good (C1.take m) := Good.take hg hg1 ho'
    have hht : (C1.take m).H = H1 := by show C1.H.take m = H1; rw [hH1]; exact ht
    cases hto with
    | fgt hf => exact ⟨u, v, C1.take m, hrun, rfl, hgt, fun C0 hx h0 _ => hx.take (by rw [h0]; exact ho.2.1), (fgtW_spec _ _ hf _ _ hrel).take hsc, rfl, hht⟩
    | @rowA k e sz xs cs cs' b b' hk hl hm hs2 hcc hbb =>
      cases hrel with
      | tup _ us hsz hrel =>
        have h0 := hrel 0 (by simp)
        have h1 := hrel 1 (by simp)
        obtain ⟨vs, hxx, hvs, hvr⟩ := h0.agg_inv
        have hv0 := hvr 0 (by simp)
        obtain ⟨C', e1, e2, e3, e4, e5⟩ := gr_frz hg1 hv0 (by rw [hH1]; exact hk) hl hm hgt hs2
        have hsb : Scoped m b' := by simp only [Scoped, ScopedL] at hsc; exact hsc.2.1
        have hsc' : ScopedL m cs' := by simp only [Scoped, ScopedL] at hsc; exact hsc.1.2
        obtain ⟨q1, q2⟩ := fgtL_spec _ _ hcc
        refine ⟨_, .tup [.agg (.sl .none xs :: cs'), b'], C', hrun, e1, e3, fun C0 hx h0 _ => (hx.take (by rw [h0]; exact ho.2.1)).trans e4, .tup _ us hsz (fun i hi => ?_), rfl, e2.trans hht⟩
        match i, hi with
        | 0, _ =>
          simp only [List.getElem_cons_zero]
          rw [hxx]
          refine .agg _ vs (by simp only [List.length_cons] at hvs ⊢; omega) (fun j hj => ?_)
          match j, hj with
          | 0, _ => exact e5
          | j + 1, hj =>
            simp only [List.length_cons] at hj
            have hj1 : j < cs.length := by omega
            have hj2 : j < cs'.length := by omega
            have h3 := hvr (j + 1) (by simp only [List.length_cons]; omega)
            exact ((q2 j hj1 hj2 _ _ h3).take (ScopedL_iff.1 hsc' _ (List.getElem_mem hj2))).ext e4
        | 1, _ => exact ((fgtW_spec _ _ hbb _ _ h1).take hsb).ext e4
  cases e <;> first
    | exact fin (key hh)
    | exact hh.elim
end
section rules
variable {P : Program} {st : ASt}
theorem finVH_n {H H1 : List AObj} {m : Nat} {v : AV} {rs : List ResultVar} : finVH P H m v H1 rs .normal st = finR P rs st (finHH H m v H1 st.heap) := (rfl)
theorem finVH_r {H H1 : List AObj} {m : Nat} {v : AV} {rs : List ResultVar} : finVH P H m v H1 rs .ret st = finR P rs st (finHH H m v H1 st.heap) := (rfl)
end rules
attribute [push_cast] finVH_n finVH_r finHH
end Ab
set_option maxRecDepth 10000
namespace Ab
open Go Go.Proofs
section
variable {P : Program} {ro : Option Nat} {st : ASt} {K : AV → List AObj → Prop} {dst : Option Tmp} {ty : TypeId} {pos : String} {after : Array Edge} {guard : Option (Nat × Bool)}
theorem made_one (z : Value) (n : Nat) (c : Array Value) (h : c.toList = [z]) : (madeCells c n).toList = List.replicate n z := by
  have hc : c = #[z] := by
    apply Array.ext'
    exact h
  subst hc
  apply List.ext_getElem
  · simp [madeCells]
  · intro i h1 h2
    simp [madeCells, Nat.mod_one]
theorem AOp_make1 {t e by_ : Nat} {l c : Operand} (n : Nat) (kl kc : IntKind) (z : Value) (hl : st.opd l = .int kl (n : Nat)) (hc : st.opd c = .int kc (n : Nat)) (ht : SliceT P t e) (hsz : SzOf P e 1) (hby : BytesOf P e by_) (hz : ZeroOf P e [z]) (hzc : (ofVal z).isCell = true) (hb : by_ ≤ 100) (hn : n ≤ 1099511627776)
    (k : K (.arr st.heap.length 0 n) (st.heap ++ [.cells (List.replicate n (ofVal z))])) : AOp P ro ⟨dst, .makeSlice t l c, ty, pos, after, guard⟩ K st :=
  AOp_value (fun ρ => semAt_of (fun c => by simp) ro ρ) fun C a hg hH hs => by
    have e1 := hs.opd l
    have e2 := hs.opd c
    rw [hl] at e1
    rw [hc] at e2
    have e1 := e1.int_inv
    have e2 := e2.int_inv
    obtain ⟨i, z', hi, i1, i2, i3, i4⟩ := info_of hsz hby hz
    have hbb : by_ * n ≤ 100 * 1099511627776 := Nat.mul_le_mul hb hn
    have hb2 : (by_ : Int) * (n : Int) ≤ 281474976710656 := by
      have : ((by_ * n : Nat) : Int) ≤ 281474976710656 := by omega
      rwa [Int.natCast_mul] at this
    have hrun := run_make (P := P) C.w t e i z' ht hi i3 kl kc (n : Nat) (n : Nat) (by omega) (Int.le_refl _) (by rw [i2]; exact hb2) (by omega)
    rw [i1, Nat.mul_one, Int.toNat_natCast] at hrun
    obtain ⟨cs, hcs⟩ : ∃ cs, cs = madeCells z'.cells n := ⟨_, rfl⟩
    have hcl : cs.toList = List.replicate n z := by rw [hcs]; exact made_one z n _ i4
    have hcz : cs.size = n := by have := congrArg List.length hcl; simpa using this
    rw [← hcs] at hrun
    have hcg : ∀ j (h : j < cs.size), cs[j] = z := fun j h => by
      have h1 : cs.toList[j]'(by simpa using h) = z := by simp [hcl]
      simpa using h1
    obtain ⟨hg', he⟩ := step_new hg (.cells (List.replicate n (ofVal z))) (.cells cs e) (C.w.alloc (.cells cs e)) rfl ⟨rfl, rfl, rfl, by first | exact Nat.le_refl _ | exact Nat.le_add_right _ _⟩ (by simp [AObj.kind]) rfl (fun he => by
      refine ⟨cs, e, ?_, ?_, ?_, ?_⟩
      · simp only [if_true]; exact heap_alloc_new _ _
      · simp [hcz]
      · simp; exact hg.fresh _ (Nat.le_refl _)
      · intro j hj hj'
        rw [hcg j hj']
        have := VRel.ofVal (C := { S := C.S, μ := fun k => if k = C.H.length then C.w.heap.size else C.μ k, H := C.H ++ [AObj.cells (List.replicate n (ofVal z))], w := C.w.alloc (.cells cs e) }) z
        refine ⟨by simpa using this, ?_⟩
        simpa using hzc)
    refine ⟨_, .slice (some ⟨C.w.heap.size, 0, none⟩) n n, .arr st.heap.length 0 n, ?_, hg', he, ?_, ?_⟩
    · simp [execOp, e1, e2, hrun]
    · have := VRel.arr (C := { S := C.S, μ := fun k => if k = C.H.length then C.w.heap.size else C.μ k, H := C.H ++ [AObj.cells (List.replicate n (ofVal z))], w := C.w.alloc (.cells cs e) }) st.heap.length 0 n n ⟨.cells (List.replicate n (ofVal z)), by simp [hH], rfl⟩ (Nat.le_refl _)
      rw [← hH] at this ⊢
      simpa using this
    · rw [← hH] at k ⊢; exact k
end
end Ab
set_option maxRecDepth 10000
namespace Ab
open Go Go.Proofs
def keyP : Term → List UInt8
  | .mk n u xs => n ++ ((if u then 63 else 40) :: ((xs.map keyP).flatten ++ [41]))
theorem keyP_mk (n : List UInt8) (u : Bool) (xs : List Term) : keyP (.mk n u xs) = n ++ ((if u then 63 else 40) :: (xs.flatMap keyP ++ [41])) := by simp [keyP, List.flatMap]
def markB (c : UInt8) : Bool := decide (c = 40) || decide (c = 41) || decide (c = 63)
theorem split_mark : ∀ (n m : List UInt8) (c d : UInt8) (a b : List UInt8), (∀ x, x ∈ n → markB x = false) → (∀ x, x ∈ m → markB x = false) → markB c = true → markB d = true → n ++ c :: a = m ++ d :: b → n = m ∧ c = d ∧ a = b
  | [], [], c, d, a, b, _, _, _, _, h => by simpa using h
  | [], y :: m, c, d, a, b, _, h2, hc, _, h => by
    simp only [List.nil_append, List.cons_append, List.cons.injEq] at h
    have := h2 y (by simp)
    rw [← h.1, hc] at this; cases this
  | x :: n, [], c, d, a, b, h1, _, _, hd, h => by
    simp only [List.nil_append, List.cons_append, List.cons.injEq] at h
    have := h1 x (by simp)
    rw [h.1, hd] at this; cases this
  | x :: n, y :: m, c, d, a, b, h1, h2, hc, hd, h => by
    simp only [List.cons_append, List.cons.injEq] at h
    obtain ⟨e1, e2, e3⟩ := split_mark n m c d a b (fun z hz => h1 z (by simp [hz])) (fun z hz => h2 z (by simp [hz])) hc hd h.2
    exact ⟨by rw [h.1, e1], e2, e3⟩
theorem inName_markF : ∀ i : Fin 256, inNameB (UInt8.ofNat i.1) = true → markB (UInt8.ofNat i.1) = false := by decide +kernel
theorem inName_mark (c : UInt8) (h : inNameB c = true) : markB c = false := by
  have := inName_markF ⟨c.toNat, c.toNat_lt⟩
  simp only [UInt8.ofNat_toNat] at this
  exact this h
theorem name_mark {n : List UInt8} {b : Bool} (h : isNameP n b = true) : n ≠ [] ∧ ∀ c, c ∈ n → markB c = false := by
  unfold isNameP at h
  simp only [Bool.and_eq_true, decide_eq_true_eq, Bool.not_eq_true', List.any_eq_false, Bool.not_eq_true'] at h
  obtain ⟨_, h1, h2⟩ := h
  cases b with
  | false =>
    simp only [Bool.false_eq_true, if_false] at h1 h2
    exact ⟨h1, fun c hc => inName_mark c (by simpa using h2 c hc)⟩
  | true =>
    simp only [if_true] at h1 h2
    unfold trimSuffix at h1 h2
    by_cases hc : ([35] : List UInt8).length ≤ n.length ∧ n.drop (n.length - ([35] : List UInt8).length) = [35]
    · rw [if_pos hc] at h1 h2
      have e := List.take_append_drop (n.length - ([35] : List UInt8).length) n
      rw [hc.2] at e
      refine ⟨fun e0 => by rw [e0] at hc; simp at hc, fun c hcm => ?_⟩
      rw [← e, List.mem_append] at hcm
      rcases hcm with hcm | hcm
      · exact inName_mark c (by simpa using h2 c hcm)
      · rw [List.mem_singleton] at hcm; subst hcm; rfl
    · rw [if_neg hc] at h1 h2
      exact ⟨h1, fun c hc => inName_mark c (by simpa using h2 c hc)⟩
theorem key_inj (t : Term) : ∀ u r r', formedP t = true → formedP u = true → keyP t ++ r = keyP u ++ r' → t = u ∧ r = r' := by
  induction t using Term.ind with | _ n v xs ih
  intro u r r' ht hu h
  obtain ⟨m, w, ys⟩ := u
  have nm : ∀ {n : List UInt8} {v : Bool} {xs : List Term}, formedP (.mk n v xs) = true → (n ≠ [] ∧ ∀ c, c ∈ n → markB c = false) ∧ ∀ x, x ∈ xs → formedP x = true := by
    intro n v xs h
    rw [formedP_mk] at h
    cases v with
    | true =>
      simp only [if_true, Bool.and_eq_true, decide_eq_true_eq] at h
      have := List.eq_nil_of_length_eq_zero h.1
      subst this
      exact ⟨name_mark h.2, fun x hx => by simp at hx⟩
    | false =>
      simp only [Bool.false_eq_true, if_false, Bool.and_eq_true, List.all_eq_true] at h
      exact ⟨name_mark h.1.2, h.2⟩
  obtain ⟨⟨_, a2⟩, a3⟩ := nm ht
  obtain ⟨⟨_, b2⟩, b3⟩ := nm hu
  rw [keyP_mk, keyP_mk, List.append_assoc, List.append_assoc, List.cons_append, List.cons_append] at h
  obtain ⟨e1, e2, e3⟩ := split_mark _ _ _ _ _ _ a2 b2 (by cases v <;> rfl) (by cases w <;> rfl) h
  have hv : v = w := by cases v <;> cases w <;> simp_all
  have key : ∀ xs' ys' : List Term, (∀ x, x ∈ xs' → x ∈ xs) → (∀ y, y ∈ ys' → formedP y = true) → xs'.flatMap keyP ++ (41 :: r) = ys'.flatMap keyP ++ (41 :: r') → xs' = ys' ∧ r = r' := by
    have hd : ∀ (y : Term) (ys' : List Term) (s s' : List UInt8), formedP y = true → ¬ (41 :: s = keyP y ++ s') := by
      intro y ys' s s' hy e
      obtain ⟨k, z, zs⟩ := y
      obtain ⟨⟨c1, c2⟩, _⟩ := nm hy
      cases k with
      | nil => exact c1 rfl
      | cons c k =>
        rw [keyP_mk] at e
        simp only [List.cons_append, List.cons.injEq] at e
        have := c2 c (by simp)
        rw [← e.1] at this
        cases this
    intro xs'
    induction xs' with
    | nil =>
      intro ys' _ hy h
      cases ys' with
      | nil => simpa using h
      | cons y ys' =>
        rw [List.flatMap_cons, List.append_assoc] at h
        exact absurd h (hd y ys' _ _ (hy y (by simp)))
    | cons x xs' ih2 =>
      intro ys' hx hy h
      cases ys' with
      | nil =>
        rw [List.flatMap_cons, List.append_assoc] at h
        exact absurd h.symm (hd x xs' _ _ (a3 x (hx x (by simp))))
      | cons y ys' =>
        rw [List.flatMap_cons, List.append_assoc, List.flatMap_cons, List.append_assoc] at h
        obtain ⟨g1, g2⟩ := ih x (hx x (by simp)) y _ _ (a3 x (hx x (by simp))) (hy y (by simp)) h
        obtain ⟨g3, g4⟩ := ih2 ys' (fun z hz => hx z (by simp [hz])) (fun z hz => hy z (by simp [hz])) g2
        exact ⟨by rw [g1, g3], g4⟩
  have e4 : xs.flatMap keyP ++ (41 :: r) = ys.flatMap keyP ++ (41 :: r') := by simpa using e3
  obtain ⟨f1, f2⟩ := key xs ys (fun x h => h) b3 e4
  exact ⟨by rw [e1, hv, f1], f2⟩
theorem keyP_inj {t u : Term} (ht : formedP t = true) (hu : formedP u = true) (h : keyP t = keyP u) : t = u := (key_inj t u [] [] ht hu (by rw [h])).1
end Ab
set_option maxRecDepth 10000
namespace Ab
open Go Go.Proofs
theorem keyP_len (t : Term) : (keyP t).length ≤ 2 * t.bulk := by
  induction t using Term.ind with | _ n u xs ih
  rw [keyP_mk, Term.bulk_mk]
  have : ∀ ys : List Term, (∀ y, y ∈ ys → y ∈ xs) → (ys.flatMap keyP).length ≤ 2 * (ys.map Term.bulk).sum := by
    intro ys
    induction ys with
    | nil => intro _; simp
    | cons y ys ih2 =>
      intro hy
      have h1 := ih y (hy y (by simp))
      have h2 := ih2 (fun z hz => hy z (by simp [hz]))
      simp only [List.flatMap_cons, List.length_append, List.map_cons, List.sum_cons]
      omega
  have := this xs (fun y h => h)
  simp only [List.length_append, List.length_cons, List.length_nil]
  omega
theorem key_ac (t : Term) : t.bulk ≤ 1099511627775 → ∀ H, ACall Tryz.prog 152 [encT t] H (fun r H' => r = .str (keyP t) ∧ H' = H) := by
  induction t using Term.ind with | _ n u xs ih
  intro hb H
  have hl := Term.len_le (n := n) (v := u) (xs := xs)
  obtain ⟨c, hc⟩ : ∃ c : UInt8, c = if u then 63 else 40 := ⟨_, rfl⟩
  rw [keyP_mk, ← hc]
  refine ACall_V (H.length) 28 [.tmp 2] Tryz.func152 rfl rfl rfl ?_
  simp only [push_cast, Nat.reduceAdd, Nat.reduceSub, Nat.reduceMul, Nat.reduceLT, Nat.reduceLeDiff, Nat.reduceEqDiff, Int.reduceToNat, ↓reduceIte, Term.name, Term.var, Term.args]
  have hfin : ∀ i, i ≤ xs.length → ((xs.take i).flatMap keyP).length ≤ 2 * 1099511627775 := by
    intro i hi
    have h1 := keyP_len (.mk n u (xs.take i))
    rw [keyP_mk] at h1
    simp only [List.length_append, List.length_cons] at h1
    have h2 := take_sum_le Term.bulk xs i
    rw [Term.bulk_mk] at hb
    rw [Term.bulk_mk] at h1
    omega
  refine cI (fun h => ?_) (fun h => ?_)
  refine AOp_convert_str [63] .none (by simp only [push_cast, encB, List.map_cons, List.map_nil]; rfl) (by simp) sl175 (by kernel_rfl) (by kernel_rfl) ?_
  have hc63 : c = 63 := by rw [hc, if_pos h]
  rw [← hc63]
  rotate_left
  refine AOp_convert_str [40] .none (by simp only [push_cast, encB, List.map_cons, List.map_nil]; rfl) (by simp) sl175 (by kernel_rfl) (by kernel_rfl) ?_
  have hc63 : c = 40 := by rw [hc, if_neg h]
  rw [← hc63]
  all_goals (
    clear hc63 hc
    simp only [push_cast, Nat.reduceAdd, Nat.reduceSub, Nat.reduceMul, Nat.reduceLT, Nat.reduceLeDiff, Nat.reduceEqDiff, Int.reduceToNat, ↓reduceIte]
    have hnl := Term.name_le (n := n) (v := u) (xs := xs)
    refine ⟨by omega, ?_⟩
    refine AW_loopW (maskG 29 [4, 11, 0, 0]) (fun (i : Nat) => [(18, .int .i64 i), (4, .str (n ++ [c] ++ (xs.take i).flatMap keyP))]) (fun i => H ++ [.cells [.str n, .bool u, .sl .none (encTs xs)]]) (fun i => i ≤ xs.length) (fun i => xs.length - i) 0 (Nat.zero_le _) (by simp only [push_cast, Nat.reduceAdd, Nat.reduceSub, Nat.reduceMul, Nat.reduceLT, Nat.reduceLeDiff, Nat.reduceEqDiff, Int.reduceToNat, ↓reduceIte, List.take_zero, List.flatMap_nil, List.append_nil]) (fun i hi => ?_)
    simp only [push_cast, Nat.reduceAdd, Nat.reduceSub, Nat.reduceMul, Nat.reduceLT, Nat.reduceLeDiff, Nat.reduceEqDiff, Int.reduceToNat, ↓reduceIte]
    refine cI (fun h2 => ?_) (fun h2 => ?_)
    · have hil : i < xs.length := by omega
      have hbi := Term.arg_le (n := n) (v := u) (List.getElem_mem hil)
      have hf1 := hfin i (by omega)
      have hf2 := keyP_len (xs[i]'hil)
      have e : (xs.take (i + 1)).flatMap keyP = (xs.take i).flatMap keyP ++ keyP (xs[i]'hil) := by rw [List.take_succ_eq_append_getElem hil, List.flatMap_append]; simp
      refine ⟨hil, ?_⟩
      refine (ih _ (List.getElem_mem hil) (by omega) _).to ?_
      simp only [push_cast, Nat.reduceAdd, Nat.reduceSub, Nat.reduceMul, Nat.reduceLT, Nat.reduceLeDiff, Nat.reduceEqDiff, Int.reduceToNat, ↓reduceIte]
      refine ⟨by first | omega | (simp only [List.length_append, List.length_cons, List.length_nil]; omega), ?_⟩
      repeat' first | refine ⟨by omega, ?_⟩ | refine cI (fun _ => ?_) (fun _ => ?_)
      refine loopW_n (i + 1) (by omega) (by omega) ?_
      rw [e]
      simp only [push_cast, Nat.reduceAdd, Nat.reduceSub, Nat.reduceMul, Nat.reduceLT, Nat.reduceLeDiff, Nat.reduceEqDiff, Int.reduceToNat, ↓reduceIte, List.append_assoc]
    · have hf1 := hfin xs.length (Nat.le_refl _)
      rw [List.take_length] at hf1
      rw [List.take_of_length_le (show xs.length ≤ i by omega)]
      refine ⟨by first | omega | (simp only [List.length_append, List.length_cons, List.length_nil]; omega), ?_⟩
      simp)
end Ab
set_option maxRecDepth 10000
namespace Ab
open Go Go.Proofs
def idxF : Nat → List Term → List (List UInt8 × Int)
  | _, [] => []
  | i, t :: r => (keyP t, (i : Int)) :: idxF (i + 1) r
theorem idxF_snoc : ∀ (ts : List Term) (i : Nat) (u : Term), idxF i (ts ++ [u]) = idxF i ts ++ [(keyP u, ((i + ts.length : Nat) : Int))]
  | [], i, u => by simp [idxF]
  | t :: r, i, u => by
    have := idxF_snoc r (i + 1) u
    simp only [List.cons_append, idxF, this, List.length_cons]
    rw [show i + 1 + r.length = i + (r.length + 1) by omega]
theorem idxF_get (u : Term) (hu : formedP u = true) : ∀ (ts : List Term) (i : Nat), (∀ x, x ∈ ts → formedP x = true) → aget (idxF i ts) (keyP u) = if u ∈ ts then some ((i + ts.idxOf u : Nat) : Int) else none
  | [], i, _ => by simp [idxF, aget]
  | t :: r, i, h => by
    have ih := idxF_get u hu r (i + 1) (fun x hx => h x (by simp [hx]))
    rw [idxF, aget, ih]
    by_cases he : t = u
    · subst he; simp
    · have hk : ¬ keyP t = keyP u := fun e => he (keyP_inj (h t (by simp)) hu e)
      have he' : ¬ u = t := fun e => he e.symm
      rw [if_neg hk]
      by_cases hm : u ∈ r
      · have hx : (t :: r).idxOf u = r.idxOf u + 1 := by
          have hb : (t == u) = false := by simpa using he
          rw [List.idxOf_cons, hb]; rfl
        rw [if_pos hm, if_pos (by simp [hm]), hx]
        congr 2; omega
      · rw [if_neg hm, if_neg (by simp [hm, he'])]
theorem idxF_key : ∀ (ts : List Term) (i : Nat) (p : List UInt8 × Int), p ∈ idxF i ts → ∃ t, t ∈ ts ∧ p.1 = keyP t
  | [], _, _, h => by simp [idxF] at h
  | t :: r, i, p, h => by
    rw [idxF] at h
    rcases List.mem_cons.1 h with rfl | h
    · exact ⟨t, by simp, rfl⟩
    · obtain ⟨x, hx, e⟩ := idxF_key r (i + 1) p h
      exact ⟨x, by simp [hx], e⟩
theorem idxF_set {u : Term} (hu : formedP u = true) {ts : List Term} (h : ∀ x, x ∈ ts → formedP x = true) (hn : u ∉ ts) : aset (idxF 0 ts) (keyP u) (ts.length : Int) = idxF 0 (ts ++ [u]) := by
  rw [idxF_snoc, (aget_none (k := keyP u) (m := idxF 0 ts) (fun p hp => by
    obtain ⟨t, ht, e⟩ := idxF_key ts 0 p hp
    rw [e]
    exact fun e2 => hn (by rw [← keyP_inj (h t ht) hu e2]; exact ht))).2]
  simp
structure Edg where
  fr : Int
  to : Int
  st : Int × List Int
  deriving DecidableEq
@[reducible] def encE (e : Edg) : AV := .agg [.int .i64 e.fr, .int .i64 e.to, .int .i64 e.st.1, .sl .none (encP e.st.2)]
theorem uniE (l : List Edg) : Uni (1 + 1 + 2) (encL encE l) = True := eq_true (uni_encL (enc := encE) (k := 4) (fun _ => rfl) l)
theorem scopedE (n : Nat) (l : List Edg) : ScopedL n (encL encE l) = True := eq_true (scoped_encL (fun x => by simp [Scoped, ScopedL, scoped_encP]) l)
attribute [push_cast] uniE scopedE
def addR (most : Nat) (ts : List Term) (u : Term) : Nat × Bool := if u ∈ ts then (ts.idxOf u, true) else if most ≤ ts.length then (0, false) else (ts.length, true)
def addTs (most : Nat) (ts : List Term) (u : Term) : List Term := if u ∈ ts ∨ most ≤ ts.length then ts else ts ++ [u]
def addW (most : Nat) (ts : List Term) (w : Bool) (u : Term) : Bool := if u ∉ ts ∧ most ≤ ts.length then false else w
@[reducible] def mapT (ts : List Term) : List (AV × AV) := amap AV.str (AV.int .i64) (idxF 0 ts)
@[reducible] def exL (H : List AObj) (c2 c3 : AObj) (most : Nat) (ts : List Term) (el : List Edg) (w : Bool) (X : List AObj) : List AObj :=
  .grow 25 3 (flat (encTs ts)) :: gTok 117 4 (encL encE el) :: c2 :: c3 :: .map ts.length (mapT ts) :: .cells [.gr H.length ts.length, gSl (H.length + 1) (encL encE el), .bool w, .map (H.length + 4), .int .i64 (most : Nat)] :: X
@[reducible] def exHeap (H : List AObj) (c2 c3 : AObj) (most : Nat) (ts : List Term) (el : List Edg) (w : Bool) (X : List AObj) : List AObj := H ++ exL H c2 c3 most ts el w X
theorem outok_ex {H L L' Y : List AObj} {m : Nat} (hl : L.length = L'.length) (hm : m = H.length + L.length) (h : ∀ (i : Nat) (o : AObj), L'[i]? = some o → L[i]? = some o ∨ OScoped m o) : OutOk (H ++ L) (H ++ (L' ++ Y)) m := by
  subst hm
  refine ⟨by simp; omega, by simp, fun k hk => ?_⟩
  rcases Nat.lt_or_ge k H.length with h1 | h1
  · exact .inl ⟨by simp; omega, by rw [List.getElem?_append_left h1, List.getElem?_append_left h1]⟩
  · have hk2 : k - H.length < L'.length := by omega
    have e1 : (H ++ (L' ++ Y))[k]? = some L'[k - H.length] := by
      rw [List.getElem?_append_right h1, List.getElem?_append_left hk2, List.getElem?_eq_getElem hk2]
    rcases h (k - H.length) L'[k - H.length] (List.getElem?_eq_getElem hk2) with h2 | h2
    · exact .inl ⟨by simp; omega, by rw [e1, List.getElem?_append_right h1, h2]⟩
    · exact .inr ⟨_, e1, h2⟩
theorem osc_gx (n : Nat) (k len : Nat) (e : Nat) (el : List Edg) (w : Bool) (id : Nat) (mo : Int) (h1 : k < n) (h2 : e < n) (h3 : id < n) : OScoped n (.cells [.gr k len, gSl e (encL encE el), .bool w, .map id, .int .i64 mo]) := by
  have h4 : Scoped n (gSl e (encL encE el)) := by
    cases el with
    | nil => simp [gSl, encL, Scoped, ScopedL]
    | cons a r => exact ⟨h2, of_eq_true (scopedE n (a :: r))⟩
  simp [OScoped, ScopedL, Scoped, h1, h3, h4]
theorem scIx (n ver : Nat) (ts : List Term) : OScoped n (.map ver (amap AV.str (AV.int .i64) (idxF 0 ts))) = True := eq_true (osc_amap _ _ (idxF 0 ts) n ver (fun _ => by simp [Scoped]) (fun _ => by simp [Scoped]))
attribute [push_cast] scIx
theorem flT_len (ts : List Term) : (flat (encTs ts)).length = ts.length * 3 := by rw [flat_length (uni_encTs ts), encTs_length]
theorem splice_T (ts : List Term) (u : Term) (z : List AV) (hz : z.length = 3) : splice (flat (encTs ts) ++ z) (ts.length * 3) [.str u.name, .bool u.var, .sl .none (encTs u.args)] = flat (encTs (ts ++ [u])) := by
  have hl := flT_len ts
  unfold splice
  rw [← hl, List.take_left, List.drop_of_length_le (by rw [List.length_append, hz]; simp), List.append_nil, encTs_append, encTs_one]
  simp [flat, AV.cells]
theorem flT_sc (n : Nat) (ts : List Term) : ScopedL n (flat (encTs ts)) := by
  induction ts with
  | nil => rw [encTs_nil]; exact trivial
  | cons t ts ih =>
    rw [encTs_cons]
    have e : flat (encT t :: encTs ts) = [.str t.name, .bool t.var, .sl .none (encTs t.args)] ++ flat (encTs ts) := by simp [flat, AV.cells]
    rw [e]
    exact ⟨trivial, trivial, scoped_encTs n t.args, ih⟩
section
variable {P : Program} {ro : Option Nat} {st : ASt} {K : AV → List AObj → Prop} {dst : Option Tmp} {ty : TypeId} {pos : String} {after : Array Edge} {guard : Option (Nat × Bool)}
theorem appZ_T {t e by_ : Nat} {s x : Operand} (zs : List Value) (k : Nat) (ts : List Term) (tk : Tok) (hs : st.opd s = .gr k ts.length) (hx : st.opd x = .sl tk [.agg [.str [], .bool false, .sl .zero []]]) (hh : st.heap[k]? = some (.grow e 3 (flat (encTs ts))))
    (ht : SliceT P t e) (hsz : SzOf P e 3) (hby : BytesOf P e by_) (hz : ZeroOf P e zs) (hz0 : zs.length = 3) (hb : by_ ≤ 100) (hl : ts.length < 1099511627776)
    (k' : K (.gr k (ts.length + 1)) (st.heap.set k (.grow e 3 (flat (encTs ts) ++ [.str [], .bool false, .sl .zero []])))) :
    AOp P ro ⟨dst, .call { callee := .builtin .append, args := #[s, x], argTypes := #[t, t] }, ty, pos, after, guard⟩ K st := by
  have h1 : (ts.length + 1) * by_ ≤ 1099511627776 * 100 := Nat.mul_le_mul (by omega) hb
  refine AOp_append_gr1 zs k (encTs ts) [.agg [.str [], .bool false, .sl .zero []]] tk (by rw [encTs_length]; exact hs) hx hh ht hsz hby hz hz0 (by decide) (uni_encTs ts) (by simp [Uni, AV.cells]) (by intro c hc; simp [flat, AV.cells] at hc; rcases hc with rfl | rfl | rfl <;> rfl) (by rw [encTs_length]; simp; omega) (by rw [encTs_length]; simp; omega) ?_
  rw [encTs_length]
  exact k'
end
set_option maxHeartbeats 4000000 in
theorem add2_ac (H : List AObj) (c2 c3 x1 x2 : AObj) (most : Nat) (ts : List Term) (el : List Edg) (w : Bool) (u : Term) (hts : ∀ x, x ∈ ts → formedP x = true) (hu : formedP u = true) (hb : u.bulk ≤ 1099511627775) (hl : ts.length < 1099511627776) :
    ACall Tryz.prog 119 [.ptr (H.length + 5) 0, encT u] (exHeap H c2 c3 most ts el w [x1, x2]) (fun r H' => r = .tup [.int .i64 ((addR most ts u).1 : Nat), .bool (addR most ts u).2] ∧ H' = exHeap H c2 c3 most (addTs most ts u) el (addW most ts w u) [x1, x2]) := by
  have hget := idxF_get u hu ts 0 hts
  refine ACall_V (H.length + 8) 66 [.tmp 4, .tmp 5] Tryz.func119 rfl rfl rfl ?_
  simp only [push_cast, Nat.reduceAdd, Nat.reduceSub, Nat.reduceMul, Nat.reduceLT, Nat.reduceLeDiff, Nat.reduceEqDiff, Int.reduceToNat, ↓reduceIte]
  refine (key_ac u hb _).to ?_
  simp only [push_cast, Nat.reduceAdd, Nat.reduceSub, Nat.reduceMul, Nat.reduceLT, Nat.reduceLeDiff, Nat.reduceEqDiff, Int.reduceToNat, ↓reduceIte]
  refine AOp_lookupOk (strKey un9) (AV.int .i64) (idxF 0 ts) (H.length + 4) ts.length (keyP u) (.int .i64 0) rfl (by exact (agetN _ _ 4).trans rfl) rfl un125 (ZeroV_of (.int .i64 0) (by kernel_rfl)) ?_
  rw [hget]
  unfold addR addTs addW
  by_cases hm : u ∈ ts
  · rw [if_pos hm, if_pos hm, if_pos (.inl hm), if_neg (by simp [hm])]
    simp only [push_cast, Nat.reduceAdd, Nat.reduceSub, Nat.reduceMul, Nat.reduceLT, Nat.reduceLeDiff, Nat.reduceEqDiff, Int.reduceToNat, ↓reduceIte, Option.map_some, Option.getD_some, Option.isSome_some]
    exact outok_ex (L := exL H c2 c3 most ts el w [x1, x2]) (L' := exL H c2 c3 most ts el w [x1, x2]) (Y := [_]) rfl rfl (fun i o h => .inl h)
  · rw [if_neg hm, if_neg hm]
    simp only [push_cast, Nat.reduceAdd, Nat.reduceSub, Nat.reduceMul, Nat.reduceLT, Nat.reduceLeDiff, Nat.reduceEqDiff, Int.reduceToNat, ↓reduceIte, Option.map_none, Option.getD_none, Option.isSome_none]
    apply AW_drawE [some 22, some 23, some 24, some 25, some 26, some 27, some 28, some 29, some 30, some 31, some 32] [([], _)] [none, none, none, none, none, none, none, none, none, none, none] 0 [(0, [], [0]), (1, [], [22]), (2, [], [23]), (3, [], [24]), (4, [], [25]), (5, [], [26]), (6, [], [0]), (7, [], [28]), (8, [], [29]), (9, [], [30]), (10, [], [27, 3])] [_, _, _, _, _, _, _, _, _, _, _]
    case' hm => exact dr
    case' hn => rfl
    case' hok => rfl
    case' hlen => rfl
    case' hd => rfl
    case' h0 => rfl
    case' hstep =>
     simp only [DAllG, push_cast, Option.isSome_some, Option.isSome_none]
     repeat' apply And.intro
     all_goals (apply DOne_V; simp only [push_cast, Nat.reduceAdd, Nat.reduceSub, Nat.reduceMul, Nat.reduceLT, Nat.reduceLeDiff, Nat.reduceEqDiff, Int.reduceToNat, ↓reduceIte] <;> first | exact rfl | omega | exact ⟨rfl, rfl⟩ | exact trivial | exact ⟨by omega, rfl⟩ | exact ⟨by omega, by omega, rfl⟩ | exact ⟨by omega, rfl, rfl⟩ | exact ⟨by omega, by omega, rfl, rfl⟩ | skip)
    case' hQ => skip
    simp only [push_cast, Nat.reduceAdd, Nat.reduceSub, Nat.reduceMul, Nat.reduceLT, Nat.reduceLeDiff, Nat.reduceEqDiff, Int.reduceToNat, ↓reduceIte]
    refine cI (fun h5 => ?_) (fun h5 => ?_)
    · have h5' : most ≤ ts.length := by omega
      rw [if_pos h5', if_pos (.inr h5'), if_pos ⟨hm, h5'⟩]
      simp only [push_cast, Nat.reduceAdd, Nat.reduceSub, Nat.reduceMul, Nat.reduceLT, Nat.reduceLeDiff, Nat.reduceEqDiff, Int.reduceToNat, ↓reduceIte]
      refine outok_ex (L := exL H c2 c3 most ts el w [x1, x2]) (L' := exL H c2 c3 most ts el false [x1, x2]) (Y := [_]) rfl rfl (fun i o h => ?_)
      match i with
      | 0 | 1 | 2 | 3 | 4 => exact .inl h
      | 5 => injection h with h; subst h; exact .inr (osc_gx _ _ _ _ _ _ _ _ (by omega) (by omega) (by omega))
      | i + 6 => exact .inl h
    · have h5' : ¬ most ≤ ts.length := by omega
      rw [if_neg h5', if_neg (by rintro (h | h); exact hm h; exact h5' h), if_neg (by rintro ⟨_, h⟩; exact h5' h)]
      have hset := idxF_set hu hts hm
      apply AW_drawE [some 37, some 38, some 39, some 40, some 41, some 42, some 43, some 44, some 45, some 46, some 47, none] [([false], _), ([true], _)] [none, none, none, none, none, none, none, none, none, none, none, some 0] 1 [(0, [false], [0]), (1, [false], [37]), (2, [false], [38]), (3, [false], [39]), (4, [false], [6]), (5, [false], [0]), (6, [false], [42]), (7, [false], [43]), (8, [false], [44]), (9, [false], [45]), (10, [false], [46]), (11, [false], [40, 0, 5])] [_, _, _, _, _, _, _, _, _, _, _, _]
      case' hm => exact dr
      case' hn => rfl
      case' hok => rfl
      case' hlen => rfl
      case' hd => rfl
      case' h0 => rfl
      case' hstep =>
       simp only [DAllG, push_cast, Option.isSome_some, Option.isSome_none]
       repeat' apply And.intro
       all_goals (apply DOne_V; simp only [push_cast, Nat.reduceAdd, Nat.reduceSub, Nat.reduceMul, Nat.reduceLT, Nat.reduceLeDiff, Nat.reduceEqDiff, Int.reduceToNat, ↓reduceIte] <;> first | exact rfl | omega | exact ⟨rfl, rfl⟩ | exact trivial | exact ⟨by omega, rfl⟩ | exact ⟨by omega, by omega, rfl⟩ | exact ⟨by omega, rfl, rfl⟩ | exact ⟨by omega, by omega, rfl, rfl⟩ | (refine AOp_mapUpdate (strKey un9) (AV.int .i64) (idxF 0 ts) (H.length + 4) ts.length (keyP u) (ts.length : Int) rfl (by exact (agetN _ _ 4).trans rfl) rfl rfl un125 ?_; exact ⟨rfl, rfl⟩))
      case' hQ => skip
      simp only [push_cast, Nat.reduceAdd, Nat.reduceSub, Nat.reduceMul, Nat.reduceLT, Nat.reduceLeDiff, Nat.reduceEqDiff, Int.reduceToNat, ↓reduceIte]
      have hfl := flT_len ts
      apply AW_drawE [some 48, some 49, some 50, some 51, some 52, some 53, some 54, some 55, some 56, some 57, none, some 58, some 59, some 60, none] [([false, false, false], _), ([true, false, false], _), ([true, false, true], _), ([true, true, false], _), ([true, true, true], _)] [none, none, none, none, none, none, none, none, some 0, none, some 1, none, none, none, some 2] 3 [(0, [false, false, false], [0]), (1, [false, false, false], [48]), (2, [false, false, false], [49]), (3, [false, false, false], [50]), (4, [false, false, false], [51]), (5, [false, false, false], [3]), (6, [false, false, false], [52]), (7, [false, false, false], []), (8, [false, false, false], [52, 2]), (9, [true, false, false], [54, 1]), (10, [true, false, false], [53, 3]), (11, [true, false, false], [48]), (12, [true, false, false], [58]), (13, [true, false, false], [59]), (14, [true, false, false], [56, 3]), (9, [true, false, true], [54, 1]), (10, [true, false, true], [53, 3]), (11, [true, true, false], [48]), (11, [true, false, true], [48]), (12, [true, true, false], [58]), (12, [true, false, true], [58]), (13, [true, true, false], [59]), (14, [true, true, false], [56, 3]), (11, [true, true, true], [48]), (12, [true, true, true], [58])] [_, _, _, _, _, _, _, _, _, _, _, _, _, _, _]
      case' hm => exact dr
      case' hn => rfl
      case' hok => rfl
      case' hlen => rfl
      case' hd => rfl
      case' h0 => rfl
      case' hstep =>
       simp only [DAllG, push_cast, Option.isSome_some, Option.isSome_none]
       repeat' apply And.intro
       all_goals (apply DOne_V; simp only [push_cast, Nat.reduceAdd, Nat.reduceSub, Nat.reduceMul, Nat.reduceLT, Nat.reduceLeDiff, Nat.reduceEqDiff, Int.reduceToNat, ↓reduceIte] <;> first | exact rfl | omega | exact ⟨rfl, rfl⟩ | exact trivial | exact ⟨by omega, rfl⟩ | exact ⟨by omega, by omega, rfl⟩ | exact ⟨by omega, rfl, rfl⟩ | exact ⟨by omega, by omega, rfl, rfl⟩ | (refine appZ_T _ H.length ts _ rfl rfl (by exact aget0 _ _ _) sl23 sz25 by25 zr25 rfl (by decide) hl ?_; exact ⟨rfl, rfl⟩) | trace_state)
      case' hQ => skip
      simp only [push_cast, Nat.reduceAdd, Nat.reduceSub, Nat.reduceMul, Nat.reduceLT, Nat.reduceLeDiff, Nat.reduceEqDiff, Int.reduceToNat, ↓reduceIte]
      have hsp := splice_T ts u [.str [], .bool false, .sl .zero []] rfl
      simp only [splice, List.append_assoc, List.cons_append, List.nil_append, List.length_cons, List.length_nil, Nat.zero_add, Nat.reduceAdd] at hsp
      rw [hsp, hset]
      refine ⟨⟨by omega, by omega⟩, ?_, by omega, ?_⟩
      · refine outok_ex (L := exL H c2 c3 most ts el w [x1, x2]) (L' := .grow 25 3 (flat (encTs (ts ++ [u]))) :: gTok 117 4 (encL encE el) :: c2 :: c3 :: .map (ts.length + 1) (mapT (ts ++ [u])) :: .cells [.gr H.length (ts.length + 1), gSl (H.length + 1) (encL encE el), .bool w, .map (H.length + 4), .int .i64 (most : Nat)] :: [x1, x2]) (Y := [_]) rfl rfl (fun i o h => ?_)
        match i with
        | 0 => injection h with h; subst h; exact .inr (flT_sc _ _)
        | 1 | 2 | 3 => exact .inl h
        | 4 => injection h with h; subst h; exact .inr (of_eq_true (scIx _ _ _))
        | 5 => injection h with h; subst h; exact .inr (osc_gx _ _ _ _ _ _ _ _ (by omega) (by omega) (by omega))
        | i + 6 => exact .inl h
      · exact ⟨rfl, rfl⟩
section
variable {P : Program} {ro : Option Nat} {st : ASt} {K : AV → List AObj → Prop} {dst : Option Tmp} {ty : TypeId} {pos : String} {after : Array Edge} {guard : Option (Nat × Bool)}
theorem appZ0_T {t e by_ : Nat} {s x : Operand} (zs : List Value) (k : Nat) (tk : Tok) (hs : st.opd s = .sl .zero []) (hx : st.opd x = .sl tk [.agg [.str [], .bool false, .sl .zero []]]) (hh : st.heap[k]? = some .dead)
    (ht : SliceT P t e) (hsz : SzOf P e 3) (hby : BytesOf P e by_) (hz : ZeroOf P e zs) (hz0 : zs.length = 3) (hb : by_ ≤ 100)
    (k' : K (.gr k 1) (st.heap.set k (.grow e 3 [.str [], .bool false, .sl .zero []]))) :
    AOp P ro ⟨dst, .call { callee := .builtin .append, args := #[s, x], argTypes := #[t, t] }, ty, pos, after, guard⟩ K st :=
  AOp_append_zeroGr k hh zs [.agg [.str [], .bool false, .sl .zero []]] tk hs hx ht hsz hby hz hz0 (by decide) (by simp [Uni, AV.cells]) (by intro c hc; simp [flat, AV.cells] at hc; rcases hc with rfl | rfl | rfl <;> rfl) (by simp) (by simp; omega) (by simp) k'
end
@[reducible] def exL0 (H : List AObj) (c2 c3 : AObj) (most : Nat) : List AObj := [.dead, .dead, c2, c3, .map 0 [], .cells [.sl .zero [], .sl .zero [], .bool true, .map (H.length + 4), .int .i64 (most : Nat)]]
set_option maxHeartbeats 4000000 in
theorem add1_ac (H : List AObj) (c2 c3 : AObj) (most : Nat) (u : Term) (hu : formedP u = true) (hb : u.bulk ≤ 1099511627775) (hm : 1 ≤ most) :
    ACall Tryz.prog 119 [.ptr (H.length + 5) 0, encT u] (H ++ exL0 H c2 c3 most) (fun r H' => r = .tup [.int .i64 0, .bool true] ∧ H' = exHeap H c2 c3 most [u] [] true []) := by
  refine ACall_V (H.length + 6) 66 [.tmp 4, .tmp 5] Tryz.func119 rfl rfl rfl ?_
  simp only [push_cast, Nat.reduceAdd, Nat.reduceSub, Nat.reduceMul, Nat.reduceLT, Nat.reduceLeDiff, Nat.reduceEqDiff, Int.reduceToNat, ↓reduceIte]
  refine (key_ac u hb _).to ?_
  simp only [push_cast, Nat.reduceAdd, Nat.reduceSub, Nat.reduceMul, Nat.reduceLT, Nat.reduceLeDiff, Nat.reduceEqDiff, Int.reduceToNat, ↓reduceIte]
  refine AOp_lookupOk (strKey un9) (AV.int .i64) [] (H.length + 4) 0 (keyP u) (.int .i64 0) rfl (by exact (agetN _ _ 4).trans rfl) rfl un125 (ZeroV_of (.int .i64 0) (by kernel_rfl)) ?_
  simp only [push_cast, Nat.reduceAdd, Nat.reduceSub, Nat.reduceMul, Nat.reduceLT, Nat.reduceLeDiff, Nat.reduceEqDiff, Int.reduceToNat, ↓reduceIte, aget, Option.map_none, Option.getD_none, Option.isSome_none]
  apply AW_drawE [some 22, some 23, some 24, some 25, some 26, some 27, some 28, some 29, some 30, some 31, some 32] [([], _)] [none, none, none, none, none, none, none, none, none, none, none] 0 [(0, [], [0]), (1, [], [22]), (2, [], [23]), (3, [], [24]), (4, [], [25]), (5, [], [26]), (6, [], [0]), (7, [], [28]), (8, [], [29]), (9, [], [30]), (10, [], [27, 3])] [_, _, _, _, _, _, _, _, _, _, _]
  case' hm => exact dr
  case' hn => rfl
  case' hok => rfl
  case' hlen => rfl
  case' hd => rfl
  case' h0 => rfl
  case' hstep =>
   simp only [DAllG, push_cast, Option.isSome_some, Option.isSome_none]
   repeat' apply And.intro
   all_goals (apply DOne_V; simp only [push_cast, Nat.reduceAdd, Nat.reduceSub, Nat.reduceMul, Nat.reduceLT, Nat.reduceLeDiff, Nat.reduceEqDiff, Int.reduceToNat, ↓reduceIte] <;> first | exact rfl | omega | exact ⟨rfl, rfl⟩ | exact trivial | exact ⟨by omega, rfl⟩ | exact ⟨by omega, by omega, rfl⟩ | exact ⟨by omega, rfl, rfl⟩ | exact ⟨by omega, by omega, rfl, rfl⟩ | skip)
  case' hQ => skip
  simp only [push_cast, Nat.reduceAdd, Nat.reduceSub, Nat.reduceMul, Nat.reduceLT, Nat.reduceLeDiff, Nat.reduceEqDiff, Int.reduceToNat, ↓reduceIte]
  refine cI (fun h5 => absurd h5 (by omega)) (fun h5 => ?_)
  apply AW_drawE [some 37, some 38, some 39, some 40, some 41, some 42, some 43, some 44, some 45, some 46, some 47, none] [([false], _), ([true], _)] [none, none, none, none, none, none, none, none, none, none, none, some 0] 1 [(0, [false], [0]), (1, [false], [37]), (2, [false], [38]), (3, [false], [39]), (4, [false], [6]), (5, [false], [0]), (6, [false], [42]), (7, [false], [43]), (8, [false], [44]), (9, [false], [45]), (10, [false], [46]), (11, [false], [40, 0, 5])] [_, _, _, _, _, _, _, _, _, _, _, _]
  case' hm => exact dr
  case' hn => rfl
  case' hok => rfl
  case' hlen => rfl
  case' hd => rfl
  case' h0 => rfl
  case' hstep =>
   simp only [DAllG, push_cast, Option.isSome_some, Option.isSome_none]
   repeat' apply And.intro
   all_goals (apply DOne_V; simp only [push_cast, Nat.reduceAdd, Nat.reduceSub, Nat.reduceMul, Nat.reduceLT, Nat.reduceLeDiff, Nat.reduceEqDiff, Int.reduceToNat, ↓reduceIte] <;> first | exact rfl | omega | exact ⟨rfl, rfl⟩ | exact trivial | exact ⟨by omega, rfl⟩ | exact ⟨by omega, by omega, rfl⟩ | exact ⟨by omega, rfl, rfl⟩ | exact ⟨by omega, by omega, rfl, rfl⟩ | (refine AOp_mapUpdate (strKey un9) (AV.int .i64) [] (H.length + 4) 0 (keyP u) (0 : Int) rfl (by exact (agetN _ _ 4).trans rfl) rfl rfl un125 ?_; exact ⟨rfl, rfl⟩))
  case' hQ => skip
  simp only [push_cast, Nat.reduceAdd, Nat.reduceSub, Nat.reduceMul, Nat.reduceLT, Nat.reduceLeDiff, Nat.reduceEqDiff, Int.reduceToNat, ↓reduceIte]
  apply AW_drawE [some 48, some 49, some 50, some 51, some 52, some 53, some 54, some 55, some 56, some 57, none, some 58, some 59, some 60, none] [([false, false, false], _), ([true, false, false], _), ([true, false, true], _), ([true, true, false], _), ([true, true, true], _)] [none, none, none, none, none, none, none, none, some 0, none, some 1, none, none, none, some 2] 3 [(0, [false, false, false], [0]), (1, [false, false, false], [48]), (2, [false, false, false], [49]), (3, [false, false, false], [50]), (4, [false, false, false], [51]), (5, [false, false, false], [3]), (6, [false, false, false], [52]), (7, [false, false, false], []), (8, [false, false, false], [52, 2]), (9, [true, false, false], [54, 1]), (10, [true, false, false], [53, 3]), (11, [true, false, false], [48]), (12, [true, false, false], [58]), (13, [true, false, false], [59]), (14, [true, false, false], [56, 3]), (9, [true, false, true], [54, 1]), (10, [true, false, true], [53, 3]), (11, [true, true, false], [48]), (11, [true, false, true], [48]), (12, [true, true, false], [58]), (12, [true, false, true], [58]), (13, [true, true, false], [59]), (14, [true, true, false], [56, 3]), (11, [true, true, true], [48]), (12, [true, true, true], [58])] [_, _, _, _, _, _, _, _, _, _, _, _, _, _, _]
  case' hm => exact dr
  case' hn => rfl
  case' hok => rfl
  case' hlen => rfl
  case' hd => rfl
  case' h0 => rfl
  case' hstep =>
   simp only [DAllG, push_cast, Option.isSome_some, Option.isSome_none]
   repeat' apply And.intro
   all_goals (apply DOne_V; simp only [push_cast, Nat.reduceAdd, Nat.reduceSub, Nat.reduceMul, Nat.reduceLT, Nat.reduceLeDiff, Nat.reduceEqDiff, Int.reduceToNat, ↓reduceIte] <;> first | exact rfl | omega | exact ⟨rfl, rfl⟩ | exact trivial | exact ⟨by omega, rfl⟩ | exact ⟨by omega, by omega, rfl⟩ | exact ⟨by omega, rfl, rfl⟩ | exact ⟨by omega, by omega, rfl, rfl⟩ | (refine appZ0_T _ H.length _ rfl rfl (by exact aget0 _ _ _) sl23 sz25 by25 zr25 rfl (by decide) ?_; exact ⟨rfl, rfl⟩) | trace_state)
  case' hQ => skip
  simp only [push_cast, Nat.reduceAdd, Nat.reduceSub, Nat.reduceMul, Nat.reduceLT, Nat.reduceLeDiff, Nat.reduceEqDiff, Int.reduceToNat, ↓reduceIte]
  refine ⟨⟨by omega, by omega⟩, ?_, by omega, by simp [flat, AV.cells], rfl⟩
  refine outok_ex (L := exL0 H c2 c3 most) (L' := [.grow 25 3 [.str u.name, .bool u.var, .sl .none (encTs u.args)], .dead, c2, c3, .map 1 (mapT [u]), .cells [.gr H.length 1, .sl .zero [], .bool true, .map (H.length + 4), .int .i64 (most : Nat)]]) (Y := [_]) rfl rfl (fun i o h => ?_)
  match i with
  | 0 => injection h with h; subst h; exact .inr ⟨trivial, trivial, scoped_encTs _ u.args, trivial⟩
  | 1 | 2 | 3 => exact .inl h
  | 4 => injection h with h; subst h; exact .inr (of_eq_true (scIx _ 1 [u]))
  | 5 => injection h with h; subst h; exact .inr (osc_gx _ _ _ (H.length + 1) [] _ _ _ (by omega) (by omega) (by omega))
  | i + 6 => exact .inl h
end Ab
set_option maxRecDepth 10000
namespace Ab
open Go Go.Proofs
structure GrP where
  ts : List Term
  es : List Edg
  wh : Bool
def zeroG : GrP := ⟨[], [], false⟩
@[reducible] def encG (g : GrP) : AV := .agg [.sl .none (encTs g.ts), .sl .none (encL encE g.es), .bool g.wh]
def exStep (most i : Nat) (g : GrP) (s : Int × List Int) (u : Term) : GrP := ⟨addTs most g.ts u, if (addR most g.ts u).2 then g.es ++ [⟨i, (addR most g.ts u).1, s⟩] else g.es, addW most g.ts g.wh u⟩
def exRow (rs : List (Term × Term)) (most i : Nat) (t : Term) : GrP → List (Int × List Int) → GrP × Int
  | g, [] => (g, 0)
  | g, s :: r => if (doE rs t s).2 ≠ 0 then (zeroG, (doE rs t s).2) else exRow rs most i t (exStep most i g s (doE rs t s).1) r
def expF (rs : List (Term × Term)) (most : Nat) : Nat → Nat → GrP → GrP × Int
  | 0, _, g => (g, 0)
  | n + 1, i, g => match g.ts[i]? with
    | none => (g, 0)
    | some t => if (exRow rs most i t g (allS rs t)).2 ≠ 0 then exRow rs most i t g (allS rs t) else expF rs most n (i + 1) (exRow rs most i t g (allS rs t)).1
def exploreF (rs : List (Term × Term)) (t : Term) (most : Nat) : GrP × Int := expF rs most most 0 ⟨[t], [], true⟩
def encGE (q : GrP × Int) : AV := .tup [encG q.1, .int .i64 q.2]
theorem allS_len {rs : List (Term × Term)} (hr : sysP rs = 0) {t : Term} (ht : checkP t = 0) : (allS rs t).length ≤ 256000 := by
  have hc := check_small ht
  have h2 := allI_len rs (walkT t [])
  have h3 := walkT_length t []
  have h4 : (walkT t []).length * rs.length ≤ 4000 * 64 := Nat.mul_le_mul (by omega) (sys_B hr).1.1
  unfold allS
  omega
theorem addTs_len (most : Nat) (ts : List Term) (u : Term) (h : ts.length ≤ most) : (addTs most ts u).length ≤ most := by
  unfold addTs; split
  · exact h
  · rename_i h1; simp; omega
theorem addTs_mem {most : Nat} {ts : List Term} {u x : Term} (h : x ∈ addTs most ts u) : x ∈ ts ∨ x = u := by
  unfold addTs at h; split at h
  · exact .inl h
  · rcases List.mem_append.1 h with h | h
    · exact .inl h
    · exact .inr (List.mem_singleton.1 h)
theorem addTs_get {most : Nat} {ts : List Term} {u t : Term} {i : Nat} (h : ts[i]? = some t) : (addTs most ts u)[i]? = some t := by
  unfold addTs; split
  · exact h
  · rw [List.getElem?_append_left (List.getElem?_eq_some_iff.1 h).1]; exact h
theorem flT_get (ts : List Term) (i : Nat) (h : i < ts.length) : ((flat (encTs ts)).drop (i * 3)).take 3 = [.str (ts[i]).name, .bool (ts[i]).var, .sl .none (encTs (ts[i]).args)] := by
  have e : ts = ts.take i ++ ts[i] :: ts.drop (i + 1) := by rw [← List.drop_eq_getElem_cons h, List.take_append_drop]
  have hl := flT_len (ts.take i)
  rw [List.length_take, Nat.min_eq_left (by omega)] at hl
  obtain ⟨x, hx⟩ : ∃ x, x = ts[i] := ⟨_, rfl⟩
  rw [← hx] at e ⊢
  rw [e, encTs_append]
  have e2 : flat (encTs (ts.take i) ++ encTs (x :: ts.drop (i + 1))) = flat (encTs (ts.take i)) ++ flat (encTs (x :: ts.drop (i + 1))) := by simp [flat]
  rw [e2, ← hl, List.drop_left, encTs_cons]
  simp [flat, AV.cells]
theorem grS_T (k : Nat) {ts : List Term} (h : ts ≠ []) : AV.gr k ts.length = grS k (encTs ts) := by
  cases ts with
  | nil => exact absurd rfl h
  | cons t r => rw [encTs_cons]; show AV.gr k (r.length + 1) = .gr k ((encTs r).length + 1); rw [encTs_length]
theorem grO_T (e : Nat) {ts : List Term} (h : ts ≠ []) : AObj.grow e 3 (flat (encTs ts)) = grO e 3 (encTs ts) := by
  cases ts with
  | nil => exact absurd rfl h
  | cons t r => rw [encTs_cons]; rfl
theorem osc_exL {n : Nat} {H : List AObj} {c2 c3 : AObj} {most : Nat} {ts : List Term} {el : List Edg} {w : Bool} (h2 : OScoped n c2) (h3 : OScoped n c3) (hn : H.length + 6 ≤ n) : ∀ o, o ∈ exL H c2 c3 most ts el w [] → OScoped n o := by
  intro o ho
  simp only [List.mem_cons, List.not_mem_nil, or_false] at ho
  rcases ho with rfl | rfl | rfl | rfl | rfl | rfl
  · exact flT_sc _ _
  · cases el with
    | nil => exact trivial
    | cons a r => exact trivial
  · exact h2
  · exact h3
  · exact of_eq_true (scIx _ _ _)
  · exact osc_gx _ _ _ _ _ _ _ _ (by omega) (by omega) (by omega)
theorem ok_ex (H : List AObj) (t : Term) (most : Nat) (g : GrP) : OutOk H (H ++ [.grow 25 3 (flat (encTs g.ts)), gTok 117 4 (encL encE g.es), .cells [.str t.name, .bool t.var, .sl .none (encTs t.args)], .cells [.sl .zero [], .sl .zero [], .bool false], .map g.ts.length (mapT g.ts), .cells [.gr H.length g.ts.length, gSl (H.length + 1) (encL encE g.es), .bool g.wh, .map (H.length + 4), .int .i64 (most : Nat)]]) (H.length + 6) :=
  outok_app (L := exL H (.cells [.str t.name, .bool t.var, .sl .none (encTs t.args)]) (.cells [.sl .zero [], .sl .zero [], .bool false]) most g.ts g.es g.wh []) 6 rfl (by simp) (fun o ho => osc_exL (by exact ⟨trivial, trivial, scoped_encTs _ t.args, trivial⟩) (by exact ⟨trivial, trivial, trivial, trivial⟩) (Nat.le_refl _) o (List.mem_of_mem_take ho))
theorem ok_exX (H : List AObj) (t : Term) (most : Nat) (ts : List Term) (el : List Edg) (w : Bool) (X : List AObj) : OutOk H (H ++ exL H (.cells [.str t.name, .bool t.var, .sl .none (encTs t.args)]) (.cells [.sl .zero [], .sl .zero [], .bool false]) most ts el w X) (H.length + 6) :=
  outok_app 6 rfl (by simp) (fun o ho => osc_exL (c2 := .cells [.str t.name, .bool t.var, .sl .none (encTs t.args)]) (c3 := .cells [.sl .zero [], .sl .zero [], .bool false]) (most := most) (ts := ts) (el := el) (w := w) (by exact ⟨trivial, trivial, scoped_encTs _ t.args, trivial⟩) (by exact ⟨trivial, trivial, trivial, trivial⟩) (Nat.le_refl _) o (by simpa using ho))
theorem expF_end (rs : List (Term × Term)) (most n : Nat) (g : GrP) : expF rs most n g.ts.length g = (g, 0) := by
  cases n with
  | zero => rfl
  | succ n => rw [expF, List.getElem?_eq_none (Nat.le_refl _)]
structure GOk (most i j : Nat) (t : Term) (g : GrP) : Prop where
  len : g.ts.length ≤ most
  ck : ∀ x, x ∈ g.ts → checkP x = 0
  es : g.es.length ≤ i * 256000 + j
  at' : g.ts[i]? = some t
theorem GOk.step {rs : List (Term × Term)} (hr : sysP rs = 0) {most i j : Nat} {t : Term} {g : GrP} (h : GOk most i j t g) (ht : checkP t = 0) {s : Int × List Int} (hd : (doE rs t s).2 = 0) : GOk most i (j + 1) t (exStep most i g s (doE rs t s).1) := by
  refine ⟨addTs_len most _ _ h.len, fun x hx => ?_, ?_, addTs_get h.at'⟩
  · rcases addTs_mem hx with hx | rfl
    · exact h.ck x hx
    · exact do_check hr ht hd
  · have := h.es
    unfold exStep
    split <;> simp <;> omega
set_option maxRecDepth 1000000 in
set_option maxHeartbeats 8000000 in
theorem explore_ac (rs : List (Term × Term)) (hr : sysP rs = 0) (t : Term) (ht : checkP t = 0) (most : Nat) (hm : 1 ≤ most) (hm2 : most ≤ 4096) (H : List AObj) :
    ACall Tryz.prog 83 [.sl .none (encL encRu rs), encT t, .int .i64 (most : Nat)] H (fun r H' => r = encGE (exploreF rs t most) ∧ H' = H) := by
  have hts := check_small ht
  refine ACall_VHA (H.length) 95 [.cell 6 69, .tmp 7] Tryz.func83 rfl rfl rfl ?_
  refine AW_reserve 2 ?_
  refine AW_of_W ?_
  simp only [push_cast, Nat.reduceAdd, Nat.reduceSub, Nat.reduceMul, Nat.reduceLT, Nat.reduceLeDiff, Nat.reduceEqDiff, Int.reduceToNat, ↓reduceIte]
  refine (own_ac t (by omega) _).to ?_
  simp only [push_cast, Nat.reduceAdd, Nat.reduceSub, Nat.reduceMul, Nat.reduceLT, Nat.reduceLeDiff, Nat.reduceEqDiff, Int.reduceToNat, ↓reduceIte]
  refine (add1_ac H (.cells [.str t.name, .bool t.var, .sl .none (encTs t.args)]) (.cells [.sl .zero [], .sl .zero [], .bool false]) most t ((check_iff t).1 ht).1 (by omega) hm).to ?_
  simp only [push_cast, Nat.reduceAdd, Nat.reduceSub, Nat.reduceMul, Nat.reduceLT, Nat.reduceLeDiff, Nat.reduceEqDiff, Int.reduceToNat, ↓reduceIte]
  obtain ⟨RES, hRES⟩ : ∃ RES, RES = exploreF rs t most := ⟨_, rfl⟩
  rw [← hRES]
  refine AW_loopW (maskG 98 [0, 5, 1, 0]) (fun (q : Nat × GrP) => [(9, .int .i64 q.1)]) (fun q => H ++ [.grow 25 3 (flat (encTs q.2.ts)), gTok 117 4 (encL encE q.2.es), .cells [.str t.name, .bool t.var, .sl .none (encTs t.args)], .cells [.sl .zero [], .sl .zero [], .bool false], .map q.2.ts.length (mapT q.2.ts), .cells [.gr H.length q.2.ts.length, gSl (H.length + 1) (encL encE q.2.es), .bool q.2.wh, .map (H.length + 4), .int .i64 (most : Nat)]]) (fun q => q.1 ≤ q.2.ts.length ∧ q.2.ts ≠ [] ∧ q.2.ts.length ≤ most ∧ (∀ x, x ∈ q.2.ts → checkP x = 0) ∧ q.2.es.length ≤ q.1 * 256000 ∧ RES = expF rs most (most - q.1) q.1 q.2) (fun q => most - q.1) (0, ⟨[t], [], true⟩) ⟨Nat.zero_le _, by simp, by simpa using hm, by intro x hx; simp at hx; rw [hx]; exact ht, by simp, by rw [hRES]; rfl⟩ (by simp only [push_cast, Nat.reduceAdd, Nat.reduceSub, Nat.reduceMul, Nat.reduceLT, Nat.reduceLeDiff, Nat.reduceEqDiff, Int.reduceToNat, ↓reduceIte]; exact ok_ex H t most ⟨[t], [], true⟩) (fun q hq => ?_)
  obtain ⟨i, g⟩ := q
  obtain ⟨q1, q2, q3, q4, q5, q6⟩ := hq
  simp only at q1 q2 q3 q4 q5 q6
  have hfl := flT_len g.ts
  simp only [push_cast, Nat.reduceAdd, Nat.reduceSub, Nat.reduceMul, Nat.reduceLT, Nat.reduceLeDiff, Nat.reduceEqDiff, Int.reduceToNat, ↓reduceIte]
  refine cI (fun h => ?_) (fun h => ?_)
  · have hil : i < g.ts.length := by omega
    obtain ⟨u, hu⟩ : ∃ u, u = g.ts[i]'hil := ⟨_, rfl⟩
    have hut : g.ts[i]? = some u := by rw [List.getElem?_eq_getElem hil, hu]
    have huc : checkP u = 0 := by rw [hu]; exact q4 _ (List.getElem_mem hil)
    have hus := check_small huc
    have hal := allS_len hr huc
    have hfg := flT_get g.ts i hil
    rw [← hu] at hfg
    obtain ⟨n, hn⟩ : ∃ n, most - i = n + 1 := ⟨most - i - 1, by omega⟩
    rw [hn, expF, hut] at q6
    simp only at q6
    simp only [push_cast, Nat.reduceAdd, Nat.reduceSub, Nat.reduceMul, Nat.reduceLT, Nat.reduceLeDiff, Nat.reduceEqDiff, Int.reduceToNat, ↓reduceIte, hfl, hfg]
    refine ⟨hil, by omega, ?_⟩
    refine (allSteps_ac rs (sys_B hr).1 u (by omega) _).to ?_
    simp only [push_cast, Nat.reduceAdd, Nat.reduceSub, Nat.reduceMul, Nat.reduceLT, Nat.reduceLeDiff, Nat.reduceEqDiff, Int.reduceToNat, ↓reduceIte]
    obtain ⟨l, hl⟩ : ∃ l, l = allS rs u := ⟨_, rfl⟩
    have hlm : ∀ s, s ∈ l → s.2.length < 1099511627776 := fun s hs => by
      rw [hl] at hs
      have := step_len hs
      omega
    rw [← hl] at q6 hal ⊢
    refine AW_loopW (maskG 98 [0, 5, 1, 0, 37, 0, 0]) (fun (q : Nat × GrP) => [(49, .int .i64 q.1)]) (fun q => H ++ [.grow 25 3 (flat (encTs q.2.ts)), gTok 117 4 (encL encE q.2.es), .cells [.str t.name, .bool t.var, .sl .none (encTs t.args)], .cells [.sl .zero [], .sl .zero [], .bool false], .map q.2.ts.length (mapT q.2.ts), .cells [.gr H.length q.2.ts.length, gSl (H.length + 1) (encL encE q.2.es), .bool q.2.wh, .map (H.length + 4), .int .i64 (most : Nat)]]) (fun q => q.1 ≤ l.length ∧ GOk most i q.1 u q.2 ∧ exRow rs most i u g l = exRow rs most i u q.2 (l.drop q.1)) (fun q => l.length - q.1) (0, g) ⟨Nat.zero_le _, ⟨q3, q4, by simpa using q5, hut⟩, by simp⟩ (by simp only [push_cast, Nat.reduceAdd, Nat.reduceSub, Nat.reduceMul, Nat.reduceLT, Nat.reduceLeDiff, Nat.reduceEqDiff, Int.reduceToNat, ↓reduceIte]; exact ok_ex H t most g) (fun q hq => ?_)
    obtain ⟨j, g'⟩ := q
    obtain ⟨p1, p2, p3⟩ := hq
    simp only at p1 p2 p3
    have hil' : i < g'.ts.length := (List.getElem?_eq_some_iff.1 p2.at').1
    have hgu : g'.ts[i]'hil' = u := (List.getElem?_eq_some_iff.1 p2.at').2
    have hfl' := flT_len g'.ts
    have hfg' := flT_get g'.ts i hil'
    rw [hgu] at hfg'
    simp only [push_cast, Nat.reduceAdd, Nat.reduceSub, Nat.reduceMul, Nat.reduceLT, Nat.reduceLeDiff, Nat.reduceEqDiff, Int.reduceToNat, ↓reduceIte]
    refine cI (fun h3 => ?_) (fun h3 => ?_)
    · have hjl : j < l.length := by omega
      obtain ⟨s, hs⟩ : ∃ s, s = l[j]'hjl := ⟨_, rfl⟩
      have hsm := hlm _ (List.getElem_mem hjl)
      rw [List.drop_eq_getElem_cons hjl, ← hs] at p3
      refine ⟨hjl, ?_⟩
      rw [← hs] at hsm ⊢
      have hdo := fun X => do_ac rs hr u huc s hsm X
      apply AW_drawE [some 54, some 55, some 56, some 57, some 58, some 59, some 60, some 61, some 62, some 63, some 64, some 53, some 65, some 66, some 12, none, some 13] [([false, false], _), ([true, false], _), ([true, true], _)] [none, none, none, none, none, none, none, none, none, none, none, none, none, none, some 0, some 1, none] 2 [(0, [false, false], [0]), (1, [false, false], [8]), (2, [false, false], [55]), (3, [false, false], [56]), (4, [false, false], [57]), (5, [false, false], [58]), (6, [false, false], [9]), (7, [false, false], [59, 0]), (8, [false, false], [61]), (9, [false, false], [11]), (10, [false, false], [54, 7, 0]), (11, [false, false], [64]), (12, [false, false], [53]), (13, [false, false], [53]), (14, [false, false], []), (15, [true, false], [12, 52]), (16, [true, true], [66]), (0, [true, false], [0]), (1, [true, false], [8]), (2, [true, false], [55]), (3, [true, false], [56]), (4, [true, false], [57]), (5, [true, false], [58]), (6, [true, false], [9]), (7, [true, false], [59, 0]), (8, [true, false], [61]), (9, [true, false], [11]), (10, [true, false], [54, 7, 0]), (11, [true, false], [64]), (12, [true, false], [53]), (13, [true, false], [53]), (13, [true, true], [53])] [_, _, _, _, _, _, _, _, _, _, _, _, _, _, _, _, _]
      case' hm => exact dr
      case' hn => rfl
      case' hok => rfl
      case' hlen => rfl
      case' hd => rfl
      case' h0 => rfl
      case' hstep =>
       simp only [DAllG, push_cast, Option.isSome_some, Option.isSome_none]
       repeat' apply And.intro
       all_goals (apply DOne_V; simp only [push_cast, Nat.reduceAdd, Nat.reduceSub, Nat.reduceMul, Nat.reduceLT, Nat.reduceLeDiff, Nat.reduceEqDiff, Int.reduceToNat, ↓reduceIte, hfl', hfg'] <;> first | exact rfl | omega | exact ⟨rfl, rfl⟩ | exact trivial | exact ⟨by omega, rfl⟩ | exact ⟨by omega, by omega, rfl⟩ | exact ⟨by omega, rfl, rfl⟩ | exact ⟨by omega, by omega, rfl, rfl⟩ | exact ⟨rfl, by omega, by omega, by omega, rfl⟩ | (refine (hdo _).to ?_; exact ⟨rfl, rfl⟩) | trace_state)
      case' hQ => skip
      simp only [push_cast, Nat.reduceAdd, Nat.reduceSub, Nat.reduceMul, Nat.reduceLT, Nat.reduceLeDiff, Nat.reduceEqDiff, Int.reduceToNat, ↓reduceIte]
      have hgs := fun h => p2.step hr huc (s := s) h
      refine cI (fun h4 => ?_) (fun h4 => ?_)
      · have hu2 := do_check (s := s) hr huc h4
        rw [exRow, if_neg (by simpa using h4)] at p3
        obtain ⟨v, hv⟩ : ∃ v, v = (doE rs u s).1 := ⟨_, rfl⟩
        have hgs := hgs h4
        rw [← hv] at hu2 p3 hgs ⊢
        have hvs := check_small hu2
        have hel := hgs.es
        refine (add2_ac H (.cells [.str t.name, .bool t.var, .sl .none (encTs t.args)]) (.cells [.sl .zero [], .sl .zero [], .bool false]) (.cells [.int .i64 s.1, .sl .none (encP s.2)]) (.cells [.str v.name, .bool v.var, .sl .none (encTs v.args)]) most g'.ts g'.es g'.wh v (fun x hx => ((check_iff x).1 (p2.ck x hx)).1) ((check_iff v).1 hu2).1 (by omega) (by have := p2.len; omega)).to ?_
        simp only [push_cast, Nat.reduceAdd, Nat.reduceSub, Nat.reduceMul, Nat.reduceLT, Nat.reduceLeDiff, Nat.reduceEqDiff, Int.reduceToNat, ↓reduceIte]
        refine cI (fun h5 => ?_) (fun h5 => ?_)
        · have hes : (exStep most i g' s v).es = g'.es ++ [⟨i, (addR most g'.ts v).1, s⟩] := by unfold exStep; rw [h5]; rfl
          have hel2 := p2.es
          apply AW_drawE [some 78, some 79, some 80, some 81, some 82, some 83, some 84, some 85, some 86, some 87, some 88, some 89, some 90, some 91, some 92, none] [([false, false], _), ([true, false], _), ([true, true], _)] [none, none, none, none, none, none, none, none, none, none, none, some 0, none, none, none, some 1] 2 [(0, [false, false], [8]), (1, [false, false], [8]), (2, [false, false], [79]), (3, [false, false], [80]), (4, [false, false], [81]), (5, [false, false], [82]), (6, [false, false], [9]), (7, [false, false], [14]), (8, [false, false], [11]), (9, [false, false], [84, 0, 0]), (10, [false, false], [87]), (11, [false, false], [83, 4]), (12, [true, false], [78]), (13, [true, false], [90]), (14, [true, false], [91]), (15, [true, false], [89, 2]), (0, [true, false], [8]), (1, [true, false], [8]), (2, [true, false], [79]), (3, [true, false], [80]), (4, [true, false], [81]), (6, [true, false], [9]), (7, [true, false], [14]), (8, [true, false], [11]), (9, [true, false], [84, 0, 0]), (12, [true, true], [78]), (13, [true, true], [90])] [_, _, _, _, _, _, _, _, _, _, _, _, _, _, _, _]
          case' hm => exact dr
          case' hn => rfl
          case' hok => rfl
          case' hlen => rfl
          case' hd => rfl
          case' h0 => rfl
          case' hstep =>
           simp only [DAllG, push_cast, Option.isSome_some, Option.isSome_none]
           repeat' apply And.intro
           all_goals (apply DOne_V; simp only [push_cast, Nat.reduceAdd, Nat.reduceSub, Nat.reduceMul, Nat.reduceLT, Nat.reduceLeDiff, Nat.reduceEqDiff, Int.reduceToNat, ↓reduceIte] <;> first | exact rfl | omega | exact ⟨rfl, rfl⟩ | exact trivial | exact ⟨by omega, rfl⟩ | exact ⟨by omega, by omega, rfl⟩ | exact ⟨by omega, rfl, rfl⟩ | exact ⟨by omega, by omega, rfl, rfl⟩ | (refine app1_L encE (sz := 4) (fun _ => rfl) (by intro x c hc; simp [AV.cells] at hc; rcases hc with rfl | rfl | rfl | rfl <;> rfl) _ (H.length + 1) g'.es ⟨i, (addR most g'.ts v).1, s⟩ _ rfl rfl (by exact (agetN _ _ 1).trans rfl) sl67 sz117 by117 zr117 rfl (by decide) (by decide) (by omega) ?_; exact ⟨rfl, rfl⟩) | trace_state)
          case' hQ => skip
          simp only [push_cast, Nat.reduceAdd, Nat.reduceSub, Nat.reduceMul, Nat.reduceLT, Nat.reduceLeDiff, Nat.reduceEqDiff, Int.reduceToNat, ↓reduceIte]
          repeat' first | refine ⟨by omega, ?_⟩ | refine cI (fun _ => ?_) (fun _ => ?_)
          refine loopW_n (j + 1, exStep most i g' s v) ⟨by simp only; omega, hgs, p3⟩ (by simp only; omega) ?_
          rw [hes]
          simp only [push_cast, Nat.reduceAdd, Nat.reduceSub, Nat.reduceMul, Nat.reduceLT, Nat.reduceLeDiff, Nat.reduceEqDiff, Int.reduceToNat, ↓reduceIte]
          exact ⟨⟨rfl, rfl, rfl⟩, ok_exX H t most _ _ _ _⟩
        · have hes : (exStep most i g' s v).es = g'.es := by unfold exStep; rw [Bool.eq_false_iff.2 h5]; rfl
          repeat' first | refine ⟨by omega, ?_⟩ | refine cI (fun _ => ?_) (fun _ => ?_)
          refine loopW_n (j + 1, exStep most i g' s v) ⟨by simp only; omega, hgs, p3⟩ (by simp only; omega) ?_
          rw [hes]
          simp only [push_cast, Nat.reduceAdd, Nat.reduceSub, Nat.reduceMul, Nat.reduceLT, Nat.reduceLeDiff, Nat.reduceEqDiff, Int.reduceToNat, ↓reduceIte]
          exact ⟨⟨rfl, rfl, rfl⟩, ok_exX H t most _ _ _ _⟩
      · rw [exRow, if_pos h4] at p3
        rw [p3, if_pos h4] at q6
        rw [q6]
        exact ⟨ToA.fgt (by simp only [push_cast, Nat.reduceAdd, Nat.reduceSub, Nat.reduceMul, Nat.reduceLT, Nat.reduceLeDiff, Nat.reduceEqDiff, Int.reduceToNat, ↓reduceIte, encGE, zeroG, encTs_nil, encL_nil]), by simp only [push_cast, Nat.reduceAdd, Nat.reduceSub, Nat.reduceMul, Nat.reduceLT, Nat.reduceLeDiff, Nat.reduceEqDiff, Int.reduceToNat, ↓reduceIte, encGE, zeroG, encTs_nil, encL_nil]⟩
    · rw [List.drop_of_length_le (show l.length ≤ j by omega)] at p3
      rw [p3] at q6
      have hes := p2.es
      have hne : g'.ts ≠ [] := fun e => by rw [e] at hil'; exact absurd hil' (by simp)
      repeat' first | refine ⟨by omega, ?_⟩ | refine cI (fun _ => ?_) (fun _ => ?_)
      refine loopW_n (i + 1, g') ⟨by simp only; omega, hne, p2.len, p2.ck, by simp only; omega, ?_⟩ (by simp only; omega) ?_
      · rw [q6]
        simp only [exRow, ne_eq, not_true_eq_false, if_false]
        rw [show most - (i + 1) = n by omega]
      · simp only [push_cast, Nat.reduceAdd, Nat.reduceSub, Nat.reduceMul, Nat.reduceLT, Nat.reduceLeDiff, Nat.reduceEqDiff, Int.reduceToNat, ↓reduceIte]
        exact ok_ex H t most g'
  · have hie : i = g.ts.length := by omega
    rw [hie, expF_end] at q6
    rw [q6]
    simp only [push_cast, Nat.reduceAdd, Nat.reduceSub, Nat.reduceMul, Nat.reduceLT, Nat.reduceLeDiff, Nat.reduceEqDiff, Int.reduceToNat, ↓reduceIte, encGE]
    rw [grS_T H.length q2]
    exact ToA.rowA H.length 25 3 (by rw [← grO_T _ q2]; exact aget0 _ _ _) (by rw [hfl, encTs_length]) (Nat.le_refl _) (flT_sc _ _) (by simp only [push_cast, Nat.reduceAdd, Nat.reduceSub, Nat.reduceMul, Nat.reduceLT, Nat.reduceLeDiff, Nat.reduceEqDiff, Int.reduceToNat, ↓reduceIte]) (by simp only [push_cast, Nat.reduceAdd, Nat.reduceSub, Nat.reduceMul, Nat.reduceLT, Nat.reduceLeDiff, Nat.reduceEqDiff, Int.reduceToNat, ↓reduceIte])
end Ab
set_option maxRecDepth 100000
namespace Ab
open Go Go.Proofs
def exploreE (rs : List (Term × Term)) (t : Term) (most : Int) : GrP × Int := if bothP rs t ≠ 0 then (zeroG, bothP rs t) else if most < 1 ∨ 4096 < most then (zeroG, 2) else exploreF rs t most.toNat
theorem exploreX_ac (rs : List (Term × Term)) (hlen : rs.length < 1099511627776) (hb : BndR rs) (t : Term) (ht : t.bulk ≤ 1099511627775) (most : Int) (H : List AObj) :
    ACall Tryz.prog 37 [.sl .none (encL encRu rs), encT t, .int .i64 most] H (fun r H' => r = encGE (exploreE rs t most) ∧ H' = H) := by
  refine ACall_V (H.length) 26 [.cell 6 69, .tmp 7] Tryz.func37 rfl rfl rfl ?_
  simp only [push_cast, Nat.reduceAdd, Nat.reduceSub, Nat.reduceMul, Nat.reduceLT, Nat.reduceLeDiff, Nat.reduceEqDiff, Int.reduceToNat, ↓reduceIte]
  refine (both_ac rs hlen hb t ht _).to ?_
  simp only [push_cast, Nat.reduceAdd, Nat.reduceSub, Nat.reduceMul, Nat.reduceLT, Nat.reduceLeDiff, Nat.reduceEqDiff, Int.reduceToNat, ↓reduceIte]
  unfold exploreE
  refine cI (fun h => ?_) (fun h => ?_)
  · rw [if_neg (by simpa using h)]
    obtain ⟨h1, h2⟩ := both_ok h
    refine cI (fun h3 => ?_) (fun h3 => ?_)
    · rw [if_pos (.inl h3)]
      simp only [push_cast, Nat.reduceAdd, Nat.reduceSub, Nat.reduceMul, Nat.reduceLT, Nat.reduceLeDiff, Nat.reduceEqDiff, Int.reduceToNat, ↓reduceIte, encGE, zeroG, encTs_nil, encL_nil]
    · refine cI (fun h4 => ?_) (fun h4 => ?_)
      · rw [if_pos (.inr h4)]
        simp only [push_cast, Nat.reduceAdd, Nat.reduceSub, Nat.reduceMul, Nat.reduceLT, Nat.reduceLeDiff, Nat.reduceEqDiff, Int.reduceToNat, ↓reduceIte, encGE, zeroG, encTs_nil, encL_nil]
      · rw [if_neg (by omega)]
        have hmm : most = ((most.toNat : Nat) : Int) := by omega
        obtain ⟨m, hm⟩ : ∃ m, m = most.toNat := ⟨_, rfl⟩
        rw [← hm] at hmm ⊢
        subst hmm
        refine (explore_ac rs h1 t h2 m (by omega) (by omega) _).to ?_
        simp only [push_cast, Nat.reduceAdd, Nat.reduceSub, Nat.reduceMul, Nat.reduceLT, Nat.reduceLeDiff, Nat.reduceEqDiff, Int.reduceToNat, ↓reduceIte, encGE]
  · rw [if_pos h]
    simp only [push_cast, Nat.reduceAdd, Nat.reduceSub, Nat.reduceMul, Nat.reduceLT, Nat.reduceLeDiff, Nat.reduceEqDiff, Int.reduceToNat, ↓reduceIte, encGE, zeroG, encTs_nil, encL_nil]
def normsF (rs : List (Term × Term)) (ts : List Term) : List Term := ts.filter fun x => decide ((allS rs x).length = 0)
theorem normsF_snoc (rs : List (Term × Term)) (ts : List Term) (i : Nat) (h : i < ts.length) : normsF rs (ts.take (i + 1)) = normsF rs (ts.take i) ++ if (allS rs ts[i]).length = 0 then [ts[i]] else [] := by
  unfold normsF
  rw [List.take_succ_eq_append_getElem h, List.filter_append]
  congr 1
  by_cases hq : (allS rs ts[i]).length = 0
  · rw [if_pos hq, List.filter_cons, if_pos (by simpa using hq)]; rfl
  · rw [if_neg hq, List.filter_cons, if_neg (by simpa using hq)]; rfl
theorem gSl_tk2 (k : Nat) (xs : List AV) : ∃ tk, gSl k xs = .sl tk xs := by cases xs <;> exact ⟨_, rfl⟩
end Ab
set_option maxRecDepth 100000
namespace Ab
open Go Go.Proofs
def dxA : Term := .mk [97] false []
def dxB : Term := .mk [98] false []
def dxC : Term := .mk [99] false []
def dxR : List (Term × Term) := [(dxA, dxB), (dxA, dxC), (dxB, dxA)]
theorem dx_ck : checkP dxA = 0 ∧ checkP dxB = 0 ∧ checkP dxC = 0 := by
  have h1 : isNameP [97] true = true ∧ isNameP [98] true = true ∧ isNameP [99] true = true := by decide +kernel
  refine ⟨?_, ?_, ?_⟩ <;> rw [check_iff] <;> simp [dxA, dxB, dxC, formedP_mk, fitsP, Term.size_mk, Term.depth_mk, h1]
theorem dx_rules : rulesP dxR = 0 := by
  obtain ⟨h1, h2, h3⟩ := dx_ck
  simp [rulesP, dxR, rT, firstErr, h1, h2, h3]
theorem dx_nodes : nodesL (rT dxR) = [([97], 0), ([98], 0), ([97], 0), ([99], 0), ([98], 0), ([97], 0)] := by
  simp [dxR, rT, dxA, dxB, dxC, nodesL, ndT, Term.mk_name, Term.mk_var, Term.mk_args]
theorem dx_ar : arB dxR = false ∧ (arE dxR).2.any (fun s => markedP s.1) = false := by
  unfold arB arE
  rw [dx_nodes]
  decide +kernel
theorem dx_extra : dxR.any extraP = false := by
  simp [dxR, extraP, dxA, dxB, dxC, Term.mk_var, varsP, collectP_mk]
theorem dx_sys : sysP dxR = 0 := by
  unfold sysP
  rw [dx_rules, dx_ar.1, dx_ar.2, dx_extra]
  simp
theorem dx_both : bothP dxR dxA = 0 := by
  unfold bothP
  rw [dx_sys, dx_ck.1]
  simp
theorem dx_S : allS dxR dxA = [(0, []), (1, [])] ∧ allS dxR dxB = [(2, [])] ∧ allS dxR dxC = [] := by
  refine ⟨?_, ?_, ?_⟩ <;> simp [allS, allI, walkT, walkL, Term.args, dxR, atV, atF, dxA, dxB, dxC, matchP, matchTs_nil, clash, Term.mk_name, Term.mk_var, Term.mk_args]
theorem dx_do : doE dxR dxA (0, []) = (dxB, 0) ∧ doE dxR dxA (1, []) = (dxC, 0) ∧ doE dxR dxB (2, []) = (dxA, 0) := by
  have f1 : findE dxR dxA (0, []) = ([], 0) ∧ findE dxR dxA (1, []) = ([], 0) ∧ findE dxR dxB (2, []) = ([], 0) := by
    refine ⟨?_, ?_, ?_⟩ <;> simp [findE, dxR, atP, ruleN, dxA, dxB, dxC, matchP, matchTs_nil, clash, Term.mk_name, Term.mk_var, Term.mk_args]
  refine ⟨?_, ?_, ?_⟩
  · rw [do_alt, f1.1]
    have : rhsP dxR dxA (0, []) = dxB := by unfold rhsP; rw [f1.1]; simp [ruleN, dxR, dxB, applyP_mk]
    rw [this]
    simp [dxA, dxB, putP, fitsP, Term.size_mk, Term.depth_mk]
  · rw [do_alt, f1.2.1]
    have : rhsP dxR dxA (1, []) = dxC := by unfold rhsP; rw [f1.2.1]; simp [ruleN, dxR, dxC, applyP_mk]
    rw [this]
    simp [dxA, dxC, putP, fitsP, Term.size_mk, Term.depth_mk]
  · rw [do_alt, f1.2.2]
    have : rhsP dxR dxB (2, []) = dxA := by unfold rhsP; rw [f1.2.2]; simp [ruleN, dxR, dxA, applyP_mk]
    rw [this]
    simp [dxA, dxB, putP, fitsP, Term.size_mk, Term.depth_mk]
def dxG : GrP := ⟨[dxA, dxB, dxC], [⟨0, 1, (0, [])⟩, ⟨0, 2, (1, [])⟩, ⟨1, 0, (2, [])⟩], true⟩
theorem dx_ne : ¬ dxB = dxA ∧ ¬ dxC = dxA ∧ ¬ dxC = dxB ∧ ¬ dxA = dxB := by
  refine ⟨fun e => ?_, fun e => ?_, fun e => ?_, fun e => ?_⟩ <;> (have h := congrArg Term.name e; simp [dxA, dxB, dxC, Term.mk_name] at h)
theorem dx_ex : exploreF dxR dxA 10 = (dxG, 0) := by
  obtain ⟨s1, s2, s3⟩ := dx_S
  obtain ⟨d1, d2, d3⟩ := dx_do
  obtain ⟨n1, n2, n3, n4⟩ := dx_ne
  simp [exploreF, expF, s1, s2, s3, exRow, d1, d2, d3, exStep, addTs, addR, addW, n1, n2, n3, n4, dxG, List.idxOf_cons]
theorem dx_exE : exploreE dxR dxA 10 = (dxG, 0) := by
  unfold exploreE
  rw [dx_both]
  simpa using dx_ex
theorem dx_norm : normsF dxR dxG.ts = [dxC] := by
  obtain ⟨s1, s2, s3⟩ := dx_S
  simp [normsF, dxG, s1, s2, s3]
theorem dx_B : BndR dxR ∧ dxR.length = 3 ∧ dxA.bulk = 2 := by
  refine ⟨fun r hr => ?_, rfl, ?_⟩
  · simp only [dxR, List.mem_cons, List.not_mem_nil, or_false] at hr
    rcases hr with rfl | rfl | rfl <;> simp [dxA, dxB, dxC, Term.bulk_mk]
  · simp [dxA, Term.bulk_mk]
end Ab
set_option maxRecDepth 100000
namespace Ab
open Go Go.Proofs
theorem sameTerms_ac (a b : List Term) (h1 : a.length < 1099511627776) (h2 : b.length < 1099511627776) (h3 : ∀ x, x ∈ a → x.bulk ≤ 1099511627775) (h4 : ∀ x, x ∈ b → x.bulk ≤ 1099511627775) (H : List AObj) :
    ACall Tryz.prog 16 [.sl .none (encTs a), .sl .none (encTs b)] H (fun r H' => r = .bool (decide (a = b)) ∧ H' = H) := by
  refine ACall_V (H.length) 25 [.tmp 4] Tryz.func16 rfl rfl rfl ?_
  simp only [push_cast, Nat.reduceAdd, Nat.reduceSub, Nat.reduceMul, Nat.reduceLT, Nat.reduceLeDiff, Nat.reduceEqDiff, Int.reduceToNat, ↓reduceIte]
  refine cI (fun hl => ?_) (fun hl => ?_)
  · have hl : a.length = b.length := by omega
    refine AW_loopW (maskG 27 [0, 0, 10, 0]) (fun (i : Nat) => [(13, .int .i64 i)]) (fun _ => H) (fun i => i ≤ a.length ∧ a.take i = b.take i) (fun i => a.length - i) 0 ⟨Nat.zero_le _, rfl⟩ (by simp only [push_cast, Nat.reduceAdd, Nat.reduceSub, Nat.reduceMul, Nat.reduceLT, Nat.reduceLeDiff, Nat.reduceEqDiff, Int.reduceToNat, ↓reduceIte]) (fun i hi => ?_)
    simp only [push_cast, Nat.reduceAdd, Nat.reduceSub, Nat.reduceMul, Nat.reduceLT, Nat.reduceLeDiff, Nat.reduceEqDiff, Int.reduceToNat, ↓reduceIte]
    refine cI (fun h => ?_) (fun h => ?_)
    · repeat refine ⟨by omega, ?_⟩
      have hia : i < a.length := by omega
      have hib : i < b.length := by omega
      have heq := fun X => equalR_ac (a[i]'hia) (b[i]'hib) (h3 _ (List.getElem_mem hia)) (h4 _ (List.getElem_mem hib)) X
      apply AW_drawE [some 16, some 17, some 18, some 19, some 20, some 21, some 22, some 23, some 24, some 25] [([], _)] [none, none, none, none, none, none, none, none, none, none] 0 [(0, [], [0]), (1, [], [5]), (2, [], [16, 0]), (3, [], [18]), (4, [], [1]), (5, [], [5]), (6, [], [20, 0]), (7, [], [22]), (8, [], [19, 3]), (9, [], [24])] [_, _, _, _, _, _, _, _, _, _]
      case' hm => exact dr
      case' hn => rfl
      case' hok => rfl
      case' hlen => rfl
      case' hd => rfl
      case' h0 => rfl
      case' hstep =>
       simp only [DAllG, push_cast, Option.isSome_some, Option.isSome_none]
       repeat' apply And.intro
       all_goals (apply DOne_V; simp only [push_cast, Nat.reduceAdd, Nat.reduceSub, Nat.reduceMul, Nat.reduceLT, Nat.reduceLeDiff, Nat.reduceEqDiff, Int.reduceToNat, ↓reduceIte] <;> first | exact rfl | omega | exact ⟨rfl, rfl⟩ | exact trivial | exact ⟨by omega, rfl⟩ | exact ⟨by omega, by omega, rfl⟩ | exact ⟨by omega, rfl, rfl⟩ | exact ⟨by omega, by omega, rfl, rfl⟩ | exact ⟨by omega, trivial⟩ | (refine (heq _).to ?_; exact ⟨rfl, rfl⟩))
      case' hQ => skip
      simp only [push_cast, Nat.reduceAdd, Nat.reduceSub, Nat.reduceMul, Nat.reduceLT, Nat.reduceLeDiff, Nat.reduceEqDiff, Int.reduceToNat, ↓reduceIte]
      refine cI (fun he => ?_) (fun he => ?_)
      · repeat' first | refine ⟨by omega, ?_⟩ | refine cI (fun _ => ?_) (fun _ => ?_)
        refine loopW_n (i + 1) ⟨by omega, ?_⟩ (by omega) (by simp only [push_cast, Nat.reduceAdd, Nat.reduceSub, Nat.reduceMul, Nat.reduceLT, Nat.reduceLeDiff, Nat.reduceEqDiff, Int.reduceToNat, ↓reduceIte])
        rw [List.take_succ_eq_append_getElem hia, List.take_succ_eq_append_getElem hib, hi.2, he]
      · have hne : a ≠ b := fun e => he (by subst e; rfl)
        simp [hne]
    · have e := hi.2
      rw [List.take_of_length_le (by omega), List.take_of_length_le (by omega)] at e
      simp [e]
  · have hne : a ≠ b := fun e => hl (by rw [e])
    simp [hne]
theorem constant_ac (s : List UInt8) (H : List AObj) : ACall Tryz.prog 50 [.str s] H (fun r H' => r = encT (.mk s false []) ∧ H' = H) := by
  refine ACall_V (H.length) 4 [.cell 2 25] Tryz.func50 rfl rfl rfl ?_
  simp only [push_cast, Nat.reduceAdd, Nat.reduceSub, Nat.reduceMul, Nat.reduceLT, Nat.reduceLeDiff, Nat.reduceEqDiff, Int.reduceToNat, ↓reduceIte]
theorem enc_c (s : List UInt8) : encT (.mk s false []) = .agg [.str s, .bool false, .sl .none []] := by
  have h : encTs (Term.mk s false []).args = [] := encTs_nil
  simp only [encT, h]; rfl
theorem enc_dxR : encL encRu dxR = [AV.agg [.str [97], .bool false, .sl .none [], .str [98], .bool false, .sl .none []], .agg [.str [97], .bool false, .sl .none [], .str [99], .bool false, .sl .none []], .agg [.str [98], .bool false, .sl .none [], .str [97], .bool false, .sl .none []]] := by
  have h : ∀ s, encTs (Term.mk s false []).args = [] := fun s => encTs_nil
  simp only [encL, dxR, List.map_cons, List.map_nil, encRu, dxA, dxB, dxC, h, Term.mk_name, Term.mk_var]
end Ab
set_option maxRecDepth 10000
namespace Ab
open Go Go.Proofs
theorem sameSteps_ac (a b : List (Int × List Int)) (h1 : a.length < 1099511627776) (h2 : b.length < 1099511627776) (h3 : ∀ x, x ∈ a → x.2.length < 1099511627776) (h4 : ∀ x, x ∈ b → x.2.length < 1099511627776) (H : List AObj) :
    ACall Tryz.prog 53 [.sl .none (encL encSt a), .sl .none (encL encSt b)] H (fun r H' => r = .bool (decide (a = b)) ∧ H' = H) := by
  refine ACall_V (H.length) 40 [.tmp 4] Tryz.func53 rfl rfl rfl ?_
  simp only [push_cast, Nat.reduceAdd, Nat.reduceSub, Nat.reduceMul, Nat.reduceLT, Nat.reduceLeDiff, Nat.reduceEqDiff, Int.reduceToNat, ↓reduceIte]
  refine cI (fun hl => ?_) (fun hl => ?_)
  · have hl : a.length = b.length := by omega
    refine AW_loopW (maskG 42 [0, 0, 10, 0]) (fun (i : Nat) => [(13, .int .i64 i)]) (fun _ => H) (fun i => i ≤ a.length ∧ a.take i = b.take i) (fun i => a.length - i) 0 ⟨Nat.zero_le _, rfl⟩ (by simp only [push_cast, Nat.reduceAdd, Nat.reduceSub, Nat.reduceMul, Nat.reduceLT, Nat.reduceLeDiff, Nat.reduceEqDiff, Int.reduceToNat, ↓reduceIte]) (fun i hi => ?_)
    simp only [push_cast, Nat.reduceAdd, Nat.reduceSub, Nat.reduceMul, Nat.reduceLT, Nat.reduceLeDiff, Nat.reduceEqDiff, Int.reduceToNat, ↓reduceIte]
    refine cI (fun h => ?_) (fun h => ?_)
    · repeat refine ⟨by omega, ?_⟩
      have hia : i < a.length := by omega
      have hib : i < b.length := by omega
      have heq := fun H => samePosR_ac (a[i]'hia).2 (b[i]'hib).2 (h3 _ (List.getElem_mem hia)) (h4 _ (List.getElem_mem hib)) H
      by_cases hn : (a[i]'hia).1 = (b[i]'hib).1
      · have hd : decide ((a[i]'hia).1 = (b[i]'hib).1) = true := by simpa using hn
        apply AW_drawE [some 16, some 17, some 18, some 19, some 20, some 21, some 22, some 23, some 24, some 25, some 26, some 27, some 28, some 29, some 30, some 31, some 32, some 33, some 34, some 35, some 36, some 37, some 38, some 39, some 40] [([], _)] [none, none, none, none, none, none, none, none, none, none, none, none, none, none, none, none, none, none, none, none, none, none, none, none, none] 0 [(0, [], [0]), (1, [], [5]), (2, [], [16, 0]), (3, [], [18]), (4, [], [19]), (5, [], [1]), (6, [], [5]), (7, [], [21, 0]), (8, [], [23]), (9, [], [24]), (10, [], [20, 4]), (11, [], [26]), (12, [], [0, 26]), (13, [], [5, 21]), (14, [], [27, 0, 0]), (15, [], [27, 2]), (16, [], [27, 3]), (17, [], [1, 25]), (18, [], [5, 21]), (19, [], [27, 5, 0]), (20, [], [27, 7]), (21, [], [27, 8]), (22, [], [27, 4, 4]), (23, [], [27, 10]), (24, [], [27, 11])] [_, _, _, _, _, _, _, _, _, _, _, _, _, _, _, _, _, _, _, _, _, _, _, _, _]
        case' hm => exact dr
        case' hn => rfl
        case' hok => rfl
        case' hlen => rfl
        case' hd => rfl
        case' h0 => rfl
        case' hstep =>
         simp only [DAllG, push_cast, Option.isSome_some, Option.isSome_none]
         repeat' apply And.intro
         all_goals (apply DOne_V; simp only [push_cast, Nat.reduceAdd, Nat.reduceSub, Nat.reduceMul, Nat.reduceLT, Nat.reduceLeDiff, Nat.reduceEqDiff, Int.reduceToNat, ↓reduceIte, hd, Bool.not_true] <;> first | exact rfl | omega | exact ⟨rfl, rfl⟩ | exact trivial | exact ⟨by omega, rfl⟩ | exact ⟨by omega, by omega, rfl⟩ | exact ⟨by omega, rfl, rfl⟩ | exact ⟨by omega, by omega, rfl, rfl⟩ | exact ⟨by omega, trivial⟩ | exact (heq _).to ⟨rfl, rfl⟩)
        case' hQ => skip
        simp only [push_cast, Nat.reduceAdd, Nat.reduceSub, Nat.reduceMul, Nat.reduceLT, Nat.reduceLeDiff, Nat.reduceEqDiff, Int.reduceToNat, ↓reduceIte, hd, Bool.not_true]
        refine cI (fun he => ?_) (fun he => ?_)
        · repeat' first | refine ⟨by omega, ?_⟩ | refine cI (fun _ => ?_) (fun _ => ?_)
          refine loopW_n (i + 1) ⟨by omega, ?_⟩ (by omega) (by simp only [push_cast, Nat.reduceAdd, Nat.reduceSub, Nat.reduceMul, Nat.reduceLT, Nat.reduceLeDiff, Nat.reduceEqDiff, Int.reduceToNat, ↓reduceIte])
          rw [List.take_succ_eq_append_getElem hia, List.take_succ_eq_append_getElem hib, hi.2]
          congr 2
          exact Prod.ext hn he
        · have hne : a ≠ b := fun e => he (by subst e; rfl)
          simp [hne]
      · have hd : decide ((a[i]'hia).1 = (b[i]'hib).1) = false := by simpa using hn
        apply AW_drawE [some 16, some 17, some 18, some 19, some 20, some 21, some 22, some 23, some 24, some 25, some 26, some 27, some 28, some 29, some 30, some 31, some 32, some 33, some 34, some 35, some 36, some 37, some 38, some 39, some 40] [([], _)] [none, none, none, none, none, none, none, none, none, none, none, none, none, none, none, none, none, none, none, none, none, none, none, none, none] 0 [(0, [], [0]), (1, [], [5]), (2, [], [16, 0]), (3, [], [18]), (4, [], [19]), (5, [], [1]), (6, [], [5]), (7, [], [21, 0]), (8, [], [23]), (9, [], [24]), (10, [], [20, 4]), (11, [], [26]), (12, [], [0, 26]), (13, [], [5, 21]), (14, [], [27, 0, 0]), (15, [], [27, 2]), (16, [], [27, 3]), (17, [], [1, 25]), (18, [], [5, 21]), (19, [], [27, 5, 0]), (20, [], [27, 7]), (21, [], [27, 8]), (22, [], [27, 4, 4]), (23, [], [27, 10]), (24, [], [27, 11])] [_, _, _, _, _, _, _, _, _, _, _, _, _, _, _, _, _, _, _, _, _, _, _, _, _]
        case' hm => exact dr
        case' hn => rfl
        case' hok => rfl
        case' hlen => rfl
        case' hd => rfl
        case' h0 => rfl
        case' hstep =>
         simp only [DAllG, push_cast, Option.isSome_some, Option.isSome_none]
         repeat' apply And.intro
         all_goals (apply DOne_V; simp only [push_cast, Nat.reduceAdd, Nat.reduceSub, Nat.reduceMul, Nat.reduceLT, Nat.reduceLeDiff, Nat.reduceEqDiff, Int.reduceToNat, ↓reduceIte, hd, Bool.not_false] <;> first | exact rfl | omega | exact ⟨rfl, rfl⟩ | exact trivial | exact ⟨by omega, rfl⟩ | exact ⟨by omega, by omega, rfl⟩ | exact ⟨by omega, rfl, rfl⟩ | exact ⟨by omega, by omega, rfl, rfl⟩ | exact ⟨by omega, trivial⟩)
        case' hQ => skip
        have hne : a ≠ b := fun e => hn (by subst e; rfl)
        simp only [push_cast, Nat.reduceAdd, Nat.reduceSub, Nat.reduceMul, Nat.reduceLT, Nat.reduceLeDiff, Nat.reduceEqDiff, Int.reduceToNat, ↓reduceIte, hd, Bool.not_false, decide_eq_false hne]
    · have e := hi.2
      rw [List.take_of_length_le (by omega), List.take_of_length_le (by omega)] at e
      simp [e]
  · have hne : a ≠ b := fun e => hl (by rw [e])
    simp [hne]
end Ab
set_option maxRecDepth 10000
namespace Ab
open Go Go.Proofs
set_option maxHeartbeats 2000000 in
theorem redexesA_ac (rs : List (Term × Term)) (hr : sysP rs = 0) (t : Term) (ht : checkP t = 0) (H : List AObj) : ACall Tryz.prog 52 [.sl .none (encL encRu rs), encT t, .int .i64 1] H (fun r H' => r = .sl .none (encL encSt (allS rs t)) ∧ H' = H) := by
  have hts := check_small ht
  have hB := (sys_B hr).1
  have hall := fun H => allRef_ac rs hB t (by omega) H
  rw [allJ_eq (lefts hr)] at hall
  obtain ⟨l, hl⟩ : ∃ l, l = allS rs t := ⟨_, rfl⟩
  have hlen : l.length ≤ 64 * 1000000000 := by
    rw [hl]
    have h1 := allI_len rs (walkT t [])
    have h2 := walkT_length t []
    have h3 : (walkT t []).length * rs.length ≤ 1000000000 * 64 := Nat.mul_le_mul (by have := t.size_le; omega) hB.1
    unfold allS; omega
  rw [show allI rs (walkT t []) = l from hl.symm] at hall
  rw [← hl]
  refine ACall_VA (H.length) 61 [.tmp 6] Tryz.func52 rfl rfl rfl ?_
  refine AW_reserve 1 ?_
  refine AW_of_W ?_
  simp only [push_cast, Nat.reduceAdd, Nat.reduceSub, Nat.reduceMul, Nat.reduceLT, Nat.reduceLeDiff, Nat.reduceEqDiff, Int.reduceToNat, ↓reduceIte]
  refine (hall _).to ?_
  simp only [push_cast, Nat.reduceAdd, Nat.reduceSub, Nat.reduceMul, Nat.reduceLT, Nat.reduceLeDiff, Nat.reduceEqDiff, Int.reduceToNat, ↓reduceIte]
  refine AW_loopW (maskG 64 [2, 4, 0, 6, 0, 0]) (fun (i : Nat) => [(17, .int .i64 i), (8, gSl H.length (encL encSt (l.take i)))]) (fun i => H ++ [gTok 86 2 (encL encSt (l.take i)), .cells [.str t.name, .bool t.var, .sl .none (encTs t.args)]]) (fun i => i ≤ l.length) (fun i => l.length - i) 0 (Nat.zero_le _) (by simp only [push_cast, Nat.reduceAdd, Nat.reduceSub, Nat.reduceMul, Nat.reduceLT, Nat.reduceLeDiff, Nat.reduceEqDiff, Int.reduceToNat, ↓reduceIte, List.take_zero, encL_nil]; first | done | trace_state) (fun i hi => ?_)
  have k2 : ((1 : Int) = 2) = False := by decide
  have k3 : ((1 : Int) = 3) = False := by decide
  have k4 : ((1 : Int) = 4) = False := by decide
  have k5 : ((1 : Int) = 5) = False := by decide
  simp only [push_cast, Nat.reduceAdd, Nat.reduceSub, Nat.reduceMul, Nat.reduceLT, Nat.reduceLeDiff, Nat.reduceEqDiff, Int.reduceToNat, ↓reduceIte, k2, k3, k4, k5]
  refine cI (fun h => ?_) (fun h => ?_)
  · have hil : i < l.length := by omega
    refine ⟨hil, ?_⟩
    apply AW_drawE [some 36, some 37, some 38, some 39, some 40, some 41, some 42, some 43, some 44, some 45, some 46, some 47, some 48, some 49, some 50, some 51, some 52, some 53, some 54, some 55, some 56] [([], _)] [none, none, none, none, none, none, none, none, none, none, none, none, none, none, none, none, none, none, none, none, none] 0 [(0, [], [2]), (1, [], [36]), (2, [], [37]), (3, [], [2, 35]), (4, [], [38, 0]), (5, [], [38, 1]), (6, [], [41]), (7, [], [8, 33]), (8, [], [42, 0]), (9, [], [42, 1]), (10, [], [42, 2]), (11, [], [46]), (12, [], [8, 38]), (13, [], [47, 0]), (14, [], [47, 1]), (15, [], [47, 2]), (16, [], [10, 36]), (17, [], [47, 4]), (18, [], [47, 3, 1]), (19, [], [47, 6]), (20, [], [47, 7])] [_, _, _, _, _, _, _, _, _, _, _, _, _, _, _, _, _, _, _, _, _]
    case' hm => exact dr
    case' hn => rfl
    case' hok => rfl
    case' hlen => rfl
    case' hd => rfl
    case' h0 => rfl
    case' hstep =>
     simp only [DAllG, push_cast, Option.isSome_some, Option.isSome_none]
     repeat' apply And.intro
     all_goals (apply DOne_V; simp only [push_cast, Nat.reduceAdd, Nat.reduceSub, Nat.reduceMul, Nat.reduceLT, Nat.reduceLeDiff, Nat.reduceEqDiff, Int.reduceToNat, ↓reduceIte, k2, k3, k4, k5] <;> first | exact rfl | omega | exact ⟨rfl, rfl⟩ | exact trivial | exact ⟨by omega, rfl⟩ | exact ⟨by omega, by omega, rfl⟩ | exact ⟨by omega, rfl, rfl⟩ | exact ⟨by omega, by omega, rfl, rfl⟩ | skip)
    case' hQ => skip
    simp only [push_cast, Nat.reduceAdd, Nat.reduceSub, Nat.reduceMul, Nat.reduceLT, Nat.reduceLeDiff, Nat.reduceEqDiff, Int.reduceToNat, ↓reduceIte, k2, k3, k4, k5]
    refine app1_L encSt (sz := 2) (fun _ => rfl) (by intro x c hc; simp [AV.cells] at hc; rcases hc with rfl | rfl <;> rfl) _ H.length (l.take i) (l[i]'hil) _ rfl rfl (by exact aget0 _ _ _) sl26 sz86 by86 zr86 rfl (by decide) (by decide) (by rw [List.length_take]; omega) ?_
    rw [← List.take_succ_eq_append_getElem hil]
    simp only [push_cast, Nat.reduceAdd, Nat.reduceSub, Nat.reduceMul, Nat.reduceLT, Nat.reduceLeDiff, Nat.reduceEqDiff, Int.reduceToNat, ↓reduceIte]
    repeat' first | refine ⟨by omega, ?_⟩ | refine cI (fun _ => ?_) (fun _ => ?_)
    exact loopW_n (i + 1) (by omega) (by omega) (by simp only [push_cast, Nat.reduceAdd, Nat.reduceSub, Nat.reduceMul, Nat.reduceLT, Nat.reduceLeDiff, Nat.reduceEqDiff, Int.reduceToNat, ↓reduceIte])
  · rw [List.take_of_length_le (show l.length ≤ i by omega)]
    first | done | simp only [push_cast, Nat.reduceAdd, Nat.reduceSub, Nat.reduceMul, Nat.reduceLT, Nat.reduceLeDiff, Nat.reduceEqDiff, Int.reduceToNat, ↓reduceIte]
end Ab
set_option maxRecDepth 100000
namespace Ab
open Go Go.Proofs
def findI (ts : List Term) (u : Term) : Int := if u ∈ ts then ((ts.idxOf u : Nat) : Int) else -1
theorem idx_at {ts : List Term} {u : Term} {i : Nat} (h : i < ts.length) (h1 : ts[i] = u) (h2 : ∀ x, x ∈ ts.take i → ¬ x = u) : findI ts u = (i : Int) := by
  have hm : u ∈ ts := by rw [← h1]; exact List.getElem_mem h
  have e : ts = ts.take i ++ u :: ts.drop (i + 1) := by rw [← h1, ← List.drop_eq_getElem_cons h, List.take_append_drop]
  have hn : u ∉ ts.take i := fun hh => h2 u hh rfl
  have hx : (ts.take i ++ u :: ts.drop (i + 1)).idxOf u = i := by
    rw [List.idxOf_append, if_neg hn]
    simp
    omega
  unfold findI
  rw [if_pos hm]
  rw [← e] at hx
  rw [hx]
theorem findR_ac (ts : List Term) (u : Term) (hl : ts.length < 1099511627776) (hb : ∀ x, x ∈ ts → x.bulk ≤ 1099511627775) (hu : u.bulk ≤ 1099511627775) (H : List AObj) :
    ACall Tryz.prog 35 [.sl .none (encTs ts), encT u] H (fun r H' => r = .int .i64 (findI ts u) ∧ H' = H) := by
  refine ACall_V (H.length) 17 [.tmp 4] Tryz.func35 rfl rfl rfl ?_
  simp only [push_cast, Nat.reduceAdd, Nat.reduceSub, Nat.reduceMul, Nat.reduceLT, Nat.reduceLeDiff, Nat.reduceEqDiff, Int.reduceToNat, ↓reduceIte]
  refine AW_loopW (maskG 19 [0, 2, 3, 0]) (fun (i : Nat) => [(8, .int .i64 i)]) (fun _ => H ++ [.cells [.str u.name, .bool u.var, .sl .none (encTs u.args)]]) (fun i => i ≤ ts.length ∧ ∀ x, x ∈ ts.take i → ¬ x = u) (fun i => ts.length - i) 0 ⟨Nat.zero_le _, by simp⟩ (by simp only [push_cast, Nat.reduceAdd, Nat.reduceSub, Nat.reduceMul, Nat.reduceLT, Nat.reduceLeDiff, Nat.reduceEqDiff, Int.reduceToNat, ↓reduceIte]) (fun i hi => ?_)
  obtain ⟨hi1, hi2⟩ := hi
  simp only [push_cast, Nat.reduceAdd, Nat.reduceSub, Nat.reduceMul, Nat.reduceLT, Nat.reduceLeDiff, Nat.reduceEqDiff, Int.reduceToNat, ↓reduceIte]
  refine cI (fun h => ?_) (fun h => ?_)
  · have hil : i < ts.length := by omega
    have heq := fun X => equalR_ac (ts[i]'hil) u (hb _ (List.getElem_mem hil)) hu X
    apply AW_drawE [some 11, some 12, some 13, some 14, some 15, some 16] [([], _)] [none, none, none, none, none, none] 0 [(0, [], [0]), (1, [], [5]), (2, [], [11, 0]), (3, [], [13]), (4, [], [3]), (5, [], [14, 0])] [_, _, _, _, _, _]
    case' hm => exact dr
    case' hn => rfl
    case' hok => rfl
    case' hlen => rfl
    case' hd => rfl
    case' h0 => rfl
    case' hstep =>
     simp only [DAllG, push_cast, Option.isSome_some, Option.isSome_none]
     repeat' apply And.intro
     all_goals (apply DOne_V; simp only [push_cast, Nat.reduceAdd, Nat.reduceSub, Nat.reduceMul, Nat.reduceLT, Nat.reduceLeDiff, Nat.reduceEqDiff, Int.reduceToNat, ↓reduceIte] <;> first | exact rfl | omega | exact ⟨rfl, rfl⟩ | exact trivial | exact ⟨by omega, rfl⟩ | exact ⟨by omega, by omega, rfl⟩ | exact ⟨by omega, rfl, rfl⟩ | exact ⟨by omega, by omega, rfl, rfl⟩ | exact ⟨by omega, trivial⟩ | (refine (heq _).to ?_; exact ⟨rfl, rfl⟩))
    case' hQ => skip
    simp only [push_cast, Nat.reduceAdd, Nat.reduceSub, Nat.reduceMul, Nat.reduceLT, Nat.reduceLeDiff, Nat.reduceEqDiff, Int.reduceToNat, ↓reduceIte]
    refine cI (fun h1 => ?_) (fun h1 => ?_)
    · rw [idx_at hil h1 hi2]
    · repeat' first | refine ⟨by omega, ?_⟩ | refine cI (fun _ => ?_) (fun _ => ?_)
      refine loopW_n (i + 1) ⟨by omega, fun x hx => ?_⟩ (by omega) (by simp only [push_cast, Nat.reduceAdd, Nat.reduceSub, Nat.reduceMul, Nat.reduceLT, Nat.reduceLeDiff, Nat.reduceEqDiff, Int.reduceToNat, ↓reduceIte])
      rw [List.take_succ_eq_append_getElem hil] at hx
      rcases List.mem_append.1 hx with hx | hx
      · exact hi2 x hx
      · rw [List.mem_singleton] at hx; rw [hx]; exact h1
  · rw [List.take_of_length_le (show ts.length ≤ i by omega)] at hi2
    unfold findI
    rw [if_neg (fun hm => hi2 u hm rfl)]
theorem cellE : ∀ (x : Edg) c, c ∈ (encE x).cells → c.isCell = true := by
  intro x c hc; simp [AV.cells] at hc; rcases hc with rfl | rfl | rfl | rfl <;> rfl
set_option maxRecDepth 1000000 in
set_option maxHeartbeats 8000000 in
theorem exploreR_ac (rs : List (Term × Term)) (hr : sysP rs = 0) (t : Term) (ht : checkP t = 0) (most : Nat) (hm : 1 ≤ most) (hm2 : most ≤ 4096) (H : List AObj) :
    ACall Tryz.prog 34 [.sl .none (encL encRu rs), encT t, .int .i64 (most : Nat)] H (fun r H' => r = encGE (exploreF rs t most) ∧ H' = H) := by
  have hts := check_small ht
  refine ACall_VA (H.length) 85 [.cell 6 69, .tmp 7] Tryz.func34 rfl rfl rfl ?_
  refine AW_reserve 2 ?_
  refine AW_seq (AW_of_W ?_)
  simp only [push_cast, Nat.reduceAdd, Nat.reduceSub, Nat.reduceMul, Nat.reduceLT, Nat.reduceLeDiff, Nat.reduceEqDiff, Int.reduceToNat, ↓reduceIte]
  refine AW_seq ?_
  refine AW_regionAt _ [_] _ _ rfl rfl ?_
  simp only [push_cast, Nat.reduceAdd, Nat.reduceSub, Nat.reduceMul, Nat.reduceLT, Nat.reduceLeDiff, Nat.reduceEqDiff, Int.reduceToNat, ↓reduceIte]
  refine bsliceG_sound H.length ?_
  simp only [push_cast, Nat.reduceAdd, Nat.reduceSub, Nat.reduceMul, Nat.reduceLT, Nat.reduceLeDiff, Nat.reduceEqDiff, Int.reduceToNat, ↓reduceIte, bsliceG]
  refine AW_of_W ?_
  simp only [push_cast, Nat.reduceAdd, Nat.reduceSub, Nat.reduceMul, Nat.reduceLT, Nat.reduceLeDiff, Nat.reduceEqDiff, Int.reduceToNat, ↓reduceIte]
  obtain ⟨RES, hRES⟩ : ∃ RES, RES = exploreF rs t most := ⟨_, rfl⟩
  rw [← hRES]
  refine AW_loopW (maskG 88 [0, 1, 3, 1, 0]) (fun (q : Nat × GrP) => [(9, .int .i64 q.1)]) (fun q => H ++ [gTok 25 3 (encTs q.2.ts), gTok 117 4 (encL encE q.2.es), .cells [.str t.name, .bool t.var, .sl .none (encTs t.args)], .cells [.sl .zero [], .sl .zero [], .bool false], .cells [gSl H.length (encTs q.2.ts), gSl (H.length + 1) (encL encE q.2.es), .bool q.2.wh]]) (fun q => q.1 ≤ q.2.ts.length ∧ q.2.ts ≠ [] ∧ q.2.ts.length ≤ most ∧ (∀ x, x ∈ q.2.ts → checkP x = 0) ∧ q.2.es.length ≤ q.1 * 256000 ∧ RES = expF rs most (most - q.1) q.1 q.2) (fun q => most - q.1) (0, ⟨[t], [], true⟩) ⟨Nat.zero_le _, by simp, by simpa using hm, by intro x hx; simp at hx; rw [hx]; exact ht, by simp, by rw [hRES]; rfl⟩ (by first | (simp only [push_cast, Nat.reduceAdd, Nat.reduceSub, Nat.reduceMul, Nat.reduceLT, Nat.reduceLeDiff, Nat.reduceEqDiff, Int.reduceToNat, ↓reduceIte, encTs_one, gSl_cons, gTok_cons, encL_nil]; done) | (simp only [push_cast, Nat.reduceAdd, Nat.reduceSub, Nat.reduceMul, Nat.reduceLT, Nat.reduceLeDiff, Nat.reduceEqDiff, Int.reduceToNat, ↓reduceIte, encTs_one, gSl_cons, gTok_cons, encL_nil]; trace_state)) (fun q hq => ?_)
  obtain ⟨i, g⟩ := q
  obtain ⟨q1, q2, q3, q4, q5, q6⟩ := hq
  simp only at q1 q2 q3 q4 q5 q6
  obtain ⟨tk, htk⟩ := gSl_tk H.length (encTs g.ts)
  rw [htk]
  simp only [push_cast, Nat.reduceAdd, Nat.reduceSub, Nat.reduceMul, Nat.reduceLT, Nat.reduceLeDiff, Nat.reduceEqDiff, Int.reduceToNat, ↓reduceIte]
  refine cI (fun h => ?_) (fun h => ?_)
  · have hil : i < g.ts.length := by omega
    obtain ⟨u, hu⟩ : ∃ u, u = g.ts[i]'hil := ⟨_, rfl⟩
    have hut : g.ts[i]? = some u := by rw [List.getElem?_eq_getElem hil, hu]
    have huc : checkP u = 0 := by rw [hu]; exact q4 _ (List.getElem_mem hil)
    have hus := check_small huc
    have hal := allS_len hr huc
    obtain ⟨n, hn⟩ : ∃ n, most - i = n + 1 := ⟨most - i - 1, by omega⟩
    rw [hn, expF, hut] at q6
    simp only at q6
    refine ⟨hil, ?_⟩
    rw [← hu]
    have hredex := fun X => redexesA_ac rs hr u huc X
    refine (hredex _).to ?_
    simp only [push_cast, Nat.reduceAdd, Nat.reduceSub, Nat.reduceMul, Nat.reduceLT, Nat.reduceLeDiff, Nat.reduceEqDiff, Int.reduceToNat, ↓reduceIte]
    obtain ⟨l, hl⟩ : ∃ l, l = allS rs u := ⟨_, rfl⟩
    have hlm : ∀ s, s ∈ l → s.2.length < 1099511627776 := fun s hs => by
      rw [hl] at hs
      have := step_len hs
      omega
    rw [← hl] at q6 hal ⊢
    rw [← htk]
    refine AW_loopW (maskG 88 [0, 1, 3, 1, 0, 21, 0, 0]) (fun (q : Nat × GrP) => [(33, .int .i64 q.1)]) (fun q => H ++ [gTok 25 3 (encTs q.2.ts), gTok 117 4 (encL encE q.2.es), .cells [.str t.name, .bool t.var, .sl .none (encTs t.args)], .cells [.sl .zero [], .sl .zero [], .bool false], .cells [gSl H.length (encTs q.2.ts), gSl (H.length + 1) (encL encE q.2.es), .bool q.2.wh]]) (fun q => q.1 ≤ l.length ∧ GOk most i q.1 u q.2 ∧ exRow rs most i u g l = exRow rs most i u q.2 (l.drop q.1)) (fun q => l.length - q.1) (0, g) ⟨Nat.zero_le _, ⟨q3, q4, by simpa using q5, hut⟩, by simp⟩ (by simp only [push_cast, Nat.reduceAdd, Nat.reduceSub, Nat.reduceMul, Nat.reduceLT, Nat.reduceLeDiff, Nat.reduceEqDiff, Int.reduceToNat, ↓reduceIte]) (fun q hq => ?_)
    obtain ⟨j, g'⟩ := q
    obtain ⟨p1, p2, p3⟩ := hq
    simp only at p1 p2 p3
    have hil' : i < g'.ts.length := (List.getElem?_eq_some_iff.1 p2.at').1
    have hgu : ∀ h, g'.ts[i]'h = u := fun h => (List.getElem?_eq_some_iff.1 p2.at').2
    have hgl := p2.len
    have hgb : ∀ x, x ∈ g'.ts → x.bulk ≤ 1099511627775 := fun x hx => by have := check_small (p2.ck x hx); omega
    simp only [push_cast, Nat.reduceAdd, Nat.reduceSub, Nat.reduceMul, Nat.reduceLT, Nat.reduceLeDiff, Nat.reduceEqDiff, Int.reduceToNat, ↓reduceIte]
    refine cI (fun h3 => ?_) (fun h3 => ?_)
    · have hjl : j < l.length := by omega
      obtain ⟨s, hs⟩ : ∃ s, s = l[j]'hjl := ⟨_, rfl⟩
      have hsm := hlm _ (List.getElem_mem hjl)
      rw [List.drop_eq_getElem_cons hjl, ← hs] at p3
      refine ⟨hjl, ?_⟩
      rw [← hs] at hsm ⊢
      have hdo := fun X => stepR_ac rs hr u huc s hsm X
      obtain ⟨tk2, htk2⟩ := gSl_tk H.length (encTs g'.ts)
      rw [htk2]
      apply AW_drawE [some 38, some 39, some 40, some 41, some 42, some 43, some 44, some 45, some 37, some 46, some 47, some 12, none, some 13] [([false, false], _), ([true, false], _), ([true, true], _)] [none, none, none, none, none, none, none, none, none, none, none, some 0, some 1, none] 2 [(0, [false, false], [0]), (1, [false, false], [8]), (2, [false, false], [39]), (3, [false, false], [9]), (4, [false, false], [40, 0]), (5, [false, false], [42]), (6, [false, false], [11]), (7, [false, false], [38, 4, 0]), (8, [false, false], [45]), (9, [false, false], [37]), (10, [false, false], [37]), (11, [false, false], []), (12, [true, false], [12, 33]), (13, [true, true], [47]), (0, [true, false], [0]), (1, [true, false], [8]), (2, [true, false], [39]), (3, [true, false], [9]), (4, [true, false], [40, 0]), (5, [true, false], [42]), (6, [true, false], [11]), (7, [true, false], [38, 4, 0]), (8, [true, false], [45]), (9, [true, false], [37]), (10, [true, false], [37]), (10, [true, true], [37])] [_, _, _, _, _, _, _, _, _, _, _, _, _, _]
      case' hm => exact dr
      case' hn => rfl
      case' hok => rfl
      case' hlen => rfl
      case' hd => rfl
      case' h0 => rfl
      case' hstep =>
       simp only [DAllG, push_cast, Option.isSome_some, Option.isSome_none]
       repeat' apply And.intro
       all_goals (apply DOne_V; simp only [push_cast, Nat.reduceAdd, Nat.reduceSub, Nat.reduceMul, Nat.reduceLT, Nat.reduceLeDiff, Nat.reduceEqDiff, Int.reduceToNat, ↓reduceIte, hgu] <;> first | exact rfl | omega | exact ⟨rfl, rfl⟩ | exact trivial | exact ⟨by omega, rfl⟩ | exact ⟨by omega, by omega, rfl⟩ | exact ⟨by omega, rfl, rfl⟩ | exact ⟨by omega, by omega, rfl, rfl⟩ | exact ⟨by omega, by omega, trivial⟩ | exact ⟨by omega, trivial⟩ | exact ⟨hil', rfl⟩ | exact ⟨hil', trivial⟩ | (refine (hdo _).to ?_; exact ⟨rfl, rfl⟩) | trace_state)
      case' hQ => skip
      simp only [push_cast, Nat.reduceAdd, Nat.reduceSub, Nat.reduceMul, Nat.reduceLT, Nat.reduceLeDiff, Nat.reduceEqDiff, Int.reduceToNat, ↓reduceIte]
      have hgs := fun h => p2.step hr huc (s := s) h
      refine cI (fun h4 => ?_) (fun h4 => ?_)
      · have hu2 := do_check (s := s) hr huc h4
        rw [exRow, if_neg (by simpa using h4)] at p3
        obtain ⟨v, hv⟩ : ∃ v, v = (doE rs u s).1 := ⟨_, rfl⟩
        have hgs := hgs h4
        rw [← hv] at hu2 p3 hgs ⊢
        have hvs := check_small hu2
        have hfd := fun X => ACall.forget (args := [.sl tk2 (encTs g'.ts), encT v]) (args' := [.sl .none (encTs g'.ts), encT v]) ⟨Forget.tok _ _, Forget.refl _, trivial⟩ (findR_ac g'.ts v (by omega) hgb (by omega) X)
        refine (hfd _).to ?_
        have hel := p2.es
        by_cases hm : v ∈ g'.ts
        · have hfi : findI g'.ts v = ((g'.ts.idxOf v : Nat) : Int) := if_pos hm
          have hex : exStep most i g' s v = ⟨g'.ts, g'.es ++ [⟨i, ((g'.ts.idxOf v : Nat) : Int), s⟩], g'.wh⟩ := by unfold exStep addTs addR addW; simp [hm]
          rw [hex] at hgs p3
          rw [hfi]
          simp only [push_cast, Nat.reduceAdd, Nat.reduceSub, Nat.reduceMul, Nat.reduceLT, Nat.reduceLeDiff, Nat.reduceEqDiff, Int.reduceToNat, ↓reduceIte]
          refine cI (fun h => absurd h (by omega)) (fun _ => ?_)
          refine cI (fun h => absurd h (by omega)) (fun _ => ?_)
          refine app1_L encE (sz := 4) (fun _ => rfl) cellE _ (H.length + 1) g'.es ⟨i, ((g'.ts.idxOf v : Nat) : Int), s⟩ _ rfl rfl (by exact (agetN _ _ 1).trans rfl) sl67 sz117 by117 zr117 rfl (by decide) (by decide) (by omega) ?_
          rw [← htk2]
          simp only [push_cast, Nat.reduceAdd, Nat.reduceSub, Nat.reduceMul, Nat.reduceLT, Nat.reduceLeDiff, Nat.reduceEqDiff, Int.reduceToNat, ↓reduceIte]
          repeat' first | refine ⟨by omega, ?_⟩ | refine cI (fun _ => ?_) (fun _ => ?_)
          exact loopW_n (j + 1, ⟨g'.ts, g'.es ++ [⟨i, ((g'.ts.idxOf v : Nat) : Int), s⟩], g'.wh⟩) ⟨by simp only; omega, hgs, p3⟩ (by simp only; omega) (by simp only [push_cast, Nat.reduceAdd, Nat.reduceSub, Nat.reduceMul, Nat.reduceLT, Nat.reduceLeDiff, Nat.reduceEqDiff, Int.reduceToNat, ↓reduceIte])
        · have hfi : findI g'.ts v = -1 := if_neg hm
          rw [hfi]
          simp only [push_cast, Nat.reduceAdd, Nat.reduceSub, Nat.reduceMul, Nat.reduceLT, Nat.reduceLeDiff, Nat.reduceEqDiff, Int.reduceToNat, ↓reduceIte]
          by_cases hmo : most ≤ g'.ts.length
          · have hex : exStep most i g' s v = ⟨g'.ts, g'.es, false⟩ := by unfold exStep addTs addR addW; simp [hm, hmo]
            rw [hex] at hgs p3
            refine cI (fun _ => ?_) (fun h => absurd (by decide) h)
            refine cI (fun _ => ?_) (fun h => absurd h (by omega))
            rw [← htk2]
            repeat' first | refine ⟨by omega, ?_⟩ | refine cI (fun _ => ?_) (fun _ => ?_)
            exact loopW_n (j + 1, ⟨g'.ts, g'.es, false⟩) ⟨by simp only; omega, hgs, p3⟩ (by simp only; omega) (by simp only [push_cast, Nat.reduceAdd, Nat.reduceSub, Nat.reduceMul, Nat.reduceLT, Nat.reduceLeDiff, Nat.reduceEqDiff, Int.reduceToNat, ↓reduceIte])
          · have hex : exStep most i g' s v = ⟨g'.ts ++ [v], g'.es ++ [⟨i, ((g'.ts.length : Nat) : Int), s⟩], g'.wh⟩ := by unfold exStep addTs addR addW; simp [hm, hmo]
            rw [hex] at hgs p3
            refine cI (fun _ => ?_) (fun h => absurd (by decide) h)
            refine cI (fun h => absurd h (by omega)) (fun _ => ?_)
            refine cI (fun _ => ?_) (fun h => absurd (by decide) h)
            refine app1_T _ H.length g'.ts v _ (by rw [htk2]; rfl) rfl (by exact aget0 _ _ _) sl23 sz25 by25 zr25 rfl (by decide) (by omega) ?_
            simp only [push_cast, Nat.reduceAdd, Nat.reduceSub, Nat.reduceMul, Nat.reduceLT, Nat.reduceLeDiff, Nat.reduceEqDiff, Int.reduceToNat, ↓reduceIte]
            refine app1_L encE (sz := 4) (fun _ => rfl) cellE _ (H.length + 1) g'.es ⟨i, ((g'.ts.length : Nat) : Int), s⟩ _ rfl rfl (by exact (agetN _ _ 1).trans rfl) sl67 sz117 by117 zr117 rfl (by decide) (by decide) (by omega) ?_
            simp only [push_cast, Nat.reduceAdd, Nat.reduceSub, Nat.reduceMul, Nat.reduceLT, Nat.reduceLeDiff, Nat.reduceEqDiff, Int.reduceToNat, ↓reduceIte]
            repeat' first | refine ⟨by omega, ?_⟩ | refine cI (fun _ => ?_) (fun _ => ?_)
            exact loopW_n (j + 1, ⟨g'.ts ++ [v], g'.es ++ [⟨i, ((g'.ts.length : Nat) : Int), s⟩], g'.wh⟩) ⟨by simp only; omega, hgs, p3⟩ (by simp only; omega) (by simp only [push_cast, Nat.reduceAdd, Nat.reduceSub, Nat.reduceMul, Nat.reduceLT, Nat.reduceLeDiff, Nat.reduceEqDiff, Int.reduceToNat, ↓reduceIte])
      · rw [exRow, if_pos h4] at p3
        rw [p3, if_pos h4] at q6
        rw [q6]
        simp only [push_cast, Nat.reduceAdd, Nat.reduceSub, Nat.reduceMul, Nat.reduceLT, Nat.reduceLeDiff, Nat.reduceEqDiff, Int.reduceToNat, ↓reduceIte, encGE, zeroG, encTs_nil, encL_nil]
    · rw [List.drop_of_length_le (show l.length ≤ j by omega)] at p3
      rw [p3] at q6
      have hes := p2.es
      have hne : g'.ts ≠ [] := fun e => by rw [e] at hil'; exact absurd hil' (by simp)
      repeat' first | refine ⟨by omega, ?_⟩ | refine cI (fun _ => ?_) (fun _ => ?_)
      refine loopW_n (i + 1, g') ⟨by simp only; omega, hne, p2.len, p2.ck, by simp only; omega, ?_⟩ (by simp only; omega) ?_
      · rw [q6]
        simp only [exRow, ne_eq, not_true_eq_false, if_false]
        rw [show most - (i + 1) = n by omega]
      · simp only [push_cast, Nat.reduceAdd, Nat.reduceSub, Nat.reduceMul, Nat.reduceLT, Nat.reduceLeDiff, Nat.reduceEqDiff, Int.reduceToNat, ↓reduceIte]
  · have hie : i = g.ts.length := by omega
    rw [hie, expF_end] at q6
    rw [q6]
    rw [← htk]
    simp only [push_cast, Nat.reduceAdd, Nat.reduceSub, Nat.reduceMul, Nat.reduceLT, Nat.reduceLeDiff, Nat.reduceEqDiff, Int.reduceToNat, ↓reduceIte, encGE]
end Ab
set_option maxRecDepth 10000
namespace Ab
open Go Go.Proofs
section
variable {P : Program} {ro : Option Nat} {H0 : List AObj} {Q : Exit → ASt → Prop} {st : ASt} {K : AV → List AObj → Prop} {dst : Option Tmp} {ty : TypeId} {pos : String} {after : Array Edge} {guard : Option (Nat × Bool)}
inductive ToJ (m : Nat) (h : List AObj) : AV → AV → Prop
  | fgt {r v : AV} (hf : fgtW r v) : ToJ m h r v
  | row (k e sz : Nat) {xs a a' b b' c c' : List AV} (hk : h[k]? = some (grO e sz xs)) (hl : (flat xs).length = xs.length * sz) (hm : m ≤ k) (hsc : ScopedL m (flat xs)) (ha : fgtL a a') (hb : fgtL b b') (hc : fgtL c c') : ToJ m h (.tup (.agg (a ++ grS k xs :: b) :: c)) (.tup (.agg (a' ++ .sl .none xs :: b') :: c'))
def finJJ (H : List AObj) (m : Nat) (v : AV) (H1 h : List AObj) (r : AV) : Prop := OutOk H h m ∧ ToJ m h r v ∧ Scoped m v ∧ h.take m = H1
def finVJ (P : Program) (H : List AObj) (m : Nat) (v : AV) (H1 : List AObj) (rs : List ResultVar) : Exit → ASt → Prop
  | .normal, st => finR P rs st (finJJ H m v H1 st.heap)
  | .ret, st => finR P rs st (finJJ H m v H1 st.heap)
  | _, _ => False
end
section rules
variable {P : Program} {st : ASt}
theorem finVJ_n {H H1 : List AObj} {m : Nat} {v : AV} {rs : List ResultVar} : finVJ P H m v H1 rs .normal st = finR P rs st (finJJ H m v H1 st.heap) := (rfl)
theorem finVJ_r {H H1 : List AObj} {m : Nat} {v : AV} {rs : List ResultVar} : finVJ P H m v H1 rs .ret st = finR P rs st (finJJ H m v H1 st.heap) := (rfl)
end rules
attribute [push_cast] finVJ_n finVJ_r finJJ
end Ab
