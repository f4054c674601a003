/- Part 5 of 6 of a proof. P5.6: Path returns a shortest derivation between two terms. -/
import Derived.Test.YtpgjcbeoipldgaaGreatRc4
import Derived.Laws.MakeOwn
set_option linter.unusedVariables false
set_option linter.unusedSimpArgs false
set_option maxRecDepth 10000
namespace Ab
open Go Go.Proofs
def matchRs : List Term → List Term → List (List UInt8 × Term) → List (List UInt8 × Term) × Bool
  | .mk n v xs :: r, y :: r', σ =>
    if v then (if (leafM σ n y).2 then matchRs r r' (leafM σ n y).1 else ([], false))
    else if clash n xs.length y then ([], false)
    else if (matchRs xs y.args σ).2 then matchRs r r' (matchRs xs y.args σ).1 else ([], false)
  | _, _, σ => (σ, true)
def matchR (p t : Term) (σ : List (List UInt8 × Term)) : List (List UInt8 × Term) × Bool :=
  if p.var then leafM σ p.name t else if clash p.name p.args.length t then ([], false) else matchRs p.args t.args σ
theorem matchR_v (n : List UInt8) (xs : List Term) (y : Term) (σ : List (List UInt8 × Term)) : matchR (.mk n true xs) y σ = leafM σ n y := by unfold matchR; exact if_pos rfl
theorem matchR_c {n : List UInt8} {xs : List Term} {y : Term} (σ : List (List UInt8 × Term)) (h : clash n xs.length y = true) : matchR (.mk n false xs) y σ = ([], false) := by
  unfold matchR
  exact (if_neg (by simp [Term.var_mk])).trans (if_pos h)
theorem matchR_g {n : List UInt8} {xs : List Term} {y : Term} (σ : List (List UInt8 × Term)) (h : clash n xs.length y = false) : matchR (.mk n false xs) y σ = matchRs xs y.args σ := by
  unfold matchR
  exact (if_neg (by simp [Term.var_mk])).trans (if_neg (fun e => by rw [show clash (Term.mk n false xs).name (Term.mk n false xs).args.length y = clash n xs.length y from rfl, h] at e; cases e))
theorem matchRs_cons (p y : Term) (r r' : List Term) (σ : List (List UInt8 × Term)) : matchRs (p :: r) (y :: r') σ = if (matchR p y σ).2 then matchRs r r' (matchR p y σ).1 else ([], false) := by
  cases p with
  | mk n v xs =>
    rw [matchRs]
    cases v with
    | true => rw [matchR_v]; simp
    | false =>
      cases hc : clash n xs.length y with
      | true => rw [matchR_c σ hc]; simp
      | false => rw [matchR_g σ hc]; simp
theorem matchRs_nil (ys : List Term) (σ : List (List UInt8 × Term)) : matchRs [] ys σ = (σ, true) := by cases ys <;> simp [matchRs]
theorem matchRs_eq : ∀ (xs ys : List Term) (σ : List (List UInt8 × Term)), (matchRs xs ys σ).2 = (matchTs xs ys σ).2 ∧ ((matchTs xs ys σ).2 = true → matchRs xs ys σ = matchTs xs ys σ)
  | [], ys, σ => by rw [matchRs_nil, matchTs_nil]; exact ⟨rfl, fun _ => rfl⟩
  | .mk n v xs :: r, [], σ => by simp [matchRs, matchTs]
  | .mk n v xs :: r, y :: r', σ => by
    have one : (matchR (.mk n v xs) y σ).2 = (matchP (.mk n v xs) y σ).2 ∧ ((matchP (.mk n v xs) y σ).2 = true → matchR (.mk n v xs) y σ = matchP (.mk n v xs) y σ) := by
      cases v with
      | true => rw [matchR_v, matchP_v]; exact ⟨rfl, fun _ => rfl⟩
      | false =>
        cases hc : clash n xs.length y with
        | true => rw [matchR_c σ hc, matchP_c σ hc]; exact ⟨rfl, fun h => by cases h⟩
        | false => rw [matchR_g σ hc, matchP_g σ hc]; exact matchRs_eq xs y.args σ
    rw [matchRs_cons, matchTs_cons, one.1]
    cases hq : (matchP (.mk n v xs) y σ).2 with
    | false => simp
    | true =>
      simp only [if_true]
      rw [one.2 hq]
      exact matchRs_eq r r' _
theorem matchRs_one (x y : Term) (σ : List (List UInt8 × Term)) : (matchRs [x] [y] σ).2 = (matchR x y σ).2 ∧ ((matchR x y σ).2 = true → matchRs [x] [y] σ = matchR x y σ) := by
  rw [matchRs_cons, matchRs_nil]
  cases h : (matchR x y σ).2 with
  | true => simp only [if_true]; exact ⟨by simp, fun _ => by rw [← h]⟩
  | false => simp
theorem matchR_eq (p t : Term) (σ : List (List UInt8 × Term)) : (matchR p t σ).2 = (matchP p t σ).2 ∧ ((matchP p t σ).2 = true → matchR p t σ = matchP p t σ) := by
  obtain ⟨h1, h2⟩ := matchRs_eq [p] [t] σ
  obtain ⟨g1, g2⟩ := matchRs_one p t σ
  rw [matchTs_one] at h1 h2
  exact ⟨g1.symm.trans h1, fun h => (g2 (g1.symm.trans (h1.trans h))).symm.trans (h2 h)⟩
theorem matchRs_split : ∀ (a a' b b' : List Term) (σ : List (List UInt8 × Term)), a.length = a'.length → matchRs (a ++ b) (a' ++ b') σ = if (matchRs a a' σ).2 then matchRs b b' (matchRs a a' σ).1 else ([], false)
  | [], [], b, b', σ, _ => by rw [matchRs_nil]; simp
  | [], _ :: _, _, _, _, h => by simp at h
  | _ :: _, [], _, _, _, h => by simp at h
  | x :: r, y :: r', b, b', σ, h => by
    rw [List.cons_append, List.cons_append, matchRs_cons, matchRs_cons]
    cases hq : (matchR x y σ).2 with
    | false => simp
    | true =>
      simp only [if_true]
      exact matchRs_split r r' b b' _ (by simpa using h)
theorem matchRs_step {xs ys : List Term} {σ : List (List UInt8 × Term)} (i : Nat) (h1 : i < xs.length) (h2 : i < ys.length) (h : (matchRs (xs.take i) (ys.take i) σ).2 = true) :
    ((matchR xs[i] ys[i] (matchRs (xs.take i) (ys.take i) σ).1).2 = true → matchRs (xs.take (i + 1)) (ys.take (i + 1)) σ = matchR xs[i] ys[i] (matchRs (xs.take i) (ys.take i) σ).1) ∧
    ((matchR xs[i] ys[i] (matchRs (xs.take i) (ys.take i) σ).1).2 = false → matchRs xs ys σ = ([], false)) := by
  have e : matchRs (xs.take (i + 1)) (ys.take (i + 1)) σ = matchRs [xs[i]] [ys[i]] (matchRs (xs.take i) (ys.take i) σ).1 := by
    rw [List.take_succ_eq_append_getElem h1, List.take_succ_eq_append_getElem h2, matchRs_split _ _ _ _ _ (by rw [List.length_take, List.length_take]; omega), h]
    simp only [if_true]
  obtain ⟨g1, g2⟩ := matchRs_one xs[i] ys[i] (matchRs (xs.take i) (ys.take i) σ).1
  refine ⟨fun hq => e.trans (g2 hq), fun hq => ?_⟩
  have hs := matchRs_split (xs.take (i + 1)) (ys.take (i + 1)) (xs.drop (i + 1)) (ys.drop (i + 1)) σ (by rw [List.length_take, List.length_take]; omega)
  rw [List.take_append_drop, List.take_append_drop, e, g1, hq] at hs
  rw [hs]; simp
theorem bound_ac (σ : List (List UInt8 × Term)) (v : List UInt8) (hlen : σ.length < 1099511627776) (H : List AObj) : ACall Tryz.prog 187 [.sl .none (encL encBd σ), .str v] H (fun r H' => r = .bool (look σ v).isSome ∧ H' = H) := by
  have key : (look σ v).isSome = σ.any fun b => decide (b.1 = v) := by
    unfold look
    rw [Option.isSome_map, Bool.eq_iff_iff, List.find?_isSome, List.any_eq_true]
  refine ACall_V (H.length) 16 [.tmp 4] Tryz.func187 rfl rfl rfl ?_
  simp only [push_cast, Nat.reduceAdd, Nat.reduceSub, Nat.reduceMul, Nat.reduceLT, Nat.reduceLeDiff, Nat.reduceEqDiff, Int.reduceToNat, ↓reduceIte]
  refine AW_loopW (maskG 18 [1, 5, 0, 0]) (fun (i : Nat) => [(9, .int .i64 i)]) (fun _ => H) (fun i => i ≤ σ.length ∧ (σ.take i).any (fun b => decide (b.1 = v)) = false) (fun i => σ.length - i) 0 ⟨Nat.zero_le _, by simp⟩ (by simp only [push_cast, Nat.reduceAdd, Nat.reduceSub, Nat.reduceMul, Nat.reduceLT, Nat.reduceLeDiff, Nat.reduceEqDiff, Int.reduceToNat, ↓reduceIte]) (fun i hi => ?_)
  simp only [push_cast, Nat.reduceAdd, Nat.reduceSub, Nat.reduceMul, Nat.reduceLT, Nat.reduceLeDiff, Nat.reduceEqDiff, Int.reduceToNat, ↓reduceIte]
  refine cI (fun h => ?_) (fun h => ?_)
  · have hil : i < σ.length := by omega
    repeat refine ⟨by omega, ?_⟩
    refine cI (fun he => ?_) (fun he => ?_)
    · rw [key, any_get hil (by simpa using he)]
    · repeat' first | refine ⟨by omega, ?_⟩ | refine cI (fun _ => ?_) (fun _ => ?_)
      exact loopW_n (i + 1) ⟨by omega, any_take_false hi.2 hil (by simpa using he)⟩ (by omega) (by simp only [push_cast, Nat.reduceAdd, Nat.reduceSub, Nat.reduceMul, Nat.reduceLT, Nat.reduceLeDiff, Nat.reduceEqDiff, Int.reduceToNat, ↓reduceIte])
  · have e := hi.2
    rw [List.take_of_length_le (by omega)] at e
    rw [key, e]
theorem with_ac (σ : List (List UInt8 × Term)) (v : List UInt8) (t : Term) (hlen : σ.length < 1099511627775) (hv : v.length < 1099511627776) (hn : ∀ b, b ∈ σ → b.1.length < 1099511627776) (H : List AObj) :
    ACall Tryz.prog 188 [.sl .none (encL encBd σ), .str v, encT t] H (fun r H' => r = .sl .none (encL encBd (insB σ v t)) ∧ H' = H) := by
  refine ACall_VA (H.length) 35 [.tmp 6] Tryz.func188 rfl rfl rfl ?_
  refine AW_reserve 1 ?_
  refine AW_of_W ?_
  simp only [push_cast, Nat.reduceAdd, Nat.reduceSub, Nat.reduceMul, Nat.reduceLT, Nat.reduceLeDiff, Nat.reduceEqDiff, Int.reduceToNat, ↓reduceIte]
  refine AW_loopW (maskG 38 [0, 0, 3, 1]) (fun (i : Nat) => [(7, .int .i64 i)]) (fun _ => H ++ [.dead, .cells [.str t.name, .bool t.var, .sl .none (encTs t.args)]]) (fun i => i ≤ σ.length ∧ ∀ j (h : j < σ.length), j < i → Lib.compareBytes σ[j].1 v < 0) (fun i => σ.length - i) 0 ⟨Nat.zero_le _, fun j h1 h => by omega⟩ (by simp only [push_cast, Nat.reduceAdd, Nat.reduceSub, Nat.reduceMul, Nat.reduceLT, Nat.reduceLeDiff, Nat.reduceEqDiff, Int.reduceToNat, ↓reduceIte]) (fun i hi => ?_)
  simp only [push_cast, Nat.reduceAdd, Nat.reduceSub, Nat.reduceMul, Nat.reduceLT, Nat.reduceLeDiff, Nat.reduceEqDiff, Int.reduceToNat, ↓reduceIte]
  have hdr : List.take (σ.length - i) (List.drop i σ) = σ.drop i := List.take_of_length_le (by simp)
  have hfin : (∀ h : i < σ.length, ¬ Lib.compareBytes σ[i].1 v < 0) → insB σ v t = σ.take i ++ ([(v, t)] ++ σ.drop i) := by
    intro h1
    have hia := insAt_eq (σ.map (·.1)) v i (by rw [List.length_map]; exact hi.1) (fun j hj hji => by rw [List.getElem_map]; exact hi.2 j (by simpa using hj) hji) (fun hj => by rw [List.getElem_map]; exact h1 (by simpa using hj))
    unfold insB
    rw [hia, List.append_assoc]
  refine cI (fun h => ?_) (fun h => ?_)
  · have hil : i < σ.length := by omega
    refine ⟨hil, ?_⟩
    refine (cmpNames_ac (σ[i]'hil).1 v (hn _ (List.getElem_mem hil)) hv _).to ?_
    simp only [push_cast, Nat.reduceAdd, Nat.reduceSub, Nat.reduceMul, Nat.reduceLT, Nat.reduceLeDiff, Nat.reduceEqDiff, Int.reduceToNat, ↓reduceIte]
    refine cI (fun hc => ?_) (fun hc => ?_)
    · repeat' first | refine ⟨by omega, ?_⟩ | refine cI (fun _ => ?_) (fun _ => ?_)
      refine loopW_n (i + 1) ⟨by omega, fun j h1 h => ?_⟩ (by omega) (by simp only [push_cast, Nat.reduceAdd, Nat.reduceSub, Nat.reduceMul, Nat.reduceLT, Nat.reduceLeDiff, Nat.reduceEqDiff, Int.reduceToNat, ↓reduceIte])
      rcases Nat.lt_or_ge j i with hj | hj
      · exact hi.2 j h1 hj
      · have hji : j = i := by omega
        subst hji; exact hc
    · skip
      apply AW_drawE [some 24, some 25, some 26, some 27, some 28, some 29, some 30, some 31, some 32, some 33, some 34, some 35, some 36, some 37, some 6] [([false, false, false], _), ([true, false, false], _), ([true, true, false], _), ([true, true, true], _)] [none, none, none, none, some 0, none, none, none, none, some 1, none, none, none, some 2, none] 3 [(0, [false, false, false], []), (1, [false, false, false], [0]), (2, [false, false, false], [7]), (3, [false, false, false], [25, 0]), (4, [false, false, false], [24, 2]), (5, [true, false, false], [1]), (6, [true, false, false], [5]), (7, [true, false, false], [29, 0]), (8, [true, false, false], [31]), (9, [true, false, false], [28, 3]), (10, [true, true, false], [0]), (11, [true, true, false], [7]), (12, [true, true, false], [34, 0]), (13, [true, true, false], [33, 2]), (14, [true, true, true], [37]), (1, [true, false, false], [0]), (1, [true, true, false], [0]), (1, [true, true, true], [0]), (2, [true, false, false], [7]), (2, [true, true, false], [7]), (2, [true, true, true], [7]), (5, [false, false, false], [1]), (5, [true, true, false], [1]), (5, [true, true, true], [1]), (6, [false, false, false], [5]), (6, [true, true, false], [5]), (6, [true, true, true], [5]), (7, [false, false, false], [29, 0]), (7, [true, true, false], [29, 0]), (7, [true, true, true], [29, 0]), (8, [false, false, false], [31]), (10, [false, false, false], [0]), (10, [true, false, false], [0]), (10, [true, true, true], [0]), (11, [false, false, false], [7]), (11, [true, false, false], [7]), (11, [true, true, true], [7]), (12, [false, false, false], [34, 0]), (12, [true, false, false], [34, 0])] [_, _, _, _, _, _, _, _, _, _, _, _, _, _, _]
      case' hm => exact dr
      case' hn => rfl
      case' hok => rfl
      case' hlen => rfl
      case' hd => rfl
      case' h0 => rfl
      case' hstep =>
       simp only [DAllG, push_cast, Option.isSome_some, Option.isSome_none]
       repeat' apply And.intro
       all_goals (apply DOne_V; simp only [push_cast, Nat.reduceAdd, Nat.reduceSub, Nat.reduceMul, Nat.reduceLT, Nat.reduceLeDiff, Nat.reduceEqDiff, Int.reduceToNat, ↓reduceIte, List.drop_zero, Nat.sub_zero, hdr] <;> first | exact rfl | omega | exact ⟨rfl, rfl⟩ | exact trivial | exact ⟨by omega, rfl⟩ | exact ⟨by omega, by omega, rfl⟩ | exact ⟨by omega, rfl, rfl⟩ | exact ⟨by omega, by omega, rfl, rfl⟩ | (refine app_L encBd (sz := 4) (fun _ => rfl) cellBd _ H.length [] (σ.take i) _ rfl rfl (by exact aget0 _ _ _) sl49 sz107 by107 zr107 rfl (by decide) (by decide) (by simp; omega) ?_; simp only [push_cast, Nat.reduceAdd, Nat.reduceSub, Nat.reduceMul, Nat.reduceLT, Nat.reduceLeDiff, Nat.reduceEqDiff, Int.reduceToNat, ↓reduceIte, List.nil_append]; exact ⟨rfl, rfl⟩) | (refine app1_L encBd (sz := 4) (fun _ => rfl) cellBd _ H.length (σ.take i) (v, t) _ rfl rfl (by exact aget0 _ _ _) sl49 sz107 by107 zr107 rfl (by decide) (by decide) (by simp; omega) ?_; simp only [push_cast, Nat.reduceAdd, Nat.reduceSub, Nat.reduceMul, Nat.reduceLT, Nat.reduceLeDiff, Nat.reduceEqDiff, Int.reduceToNat, ↓reduceIte]; exact ⟨rfl, rfl⟩) | (refine app_L encBd (sz := 4) (fun _ => rfl) cellBd _ H.length (σ.take i ++ [(v, t)]) (σ.drop i) _ rfl rfl (by exact aget0 _ _ _) sl49 sz107 by107 zr107 rfl (by decide) (by decide) (by simp; omega) ?_; simp only [push_cast, Nat.reduceAdd, Nat.reduceSub, Nat.reduceMul, Nat.reduceLT, Nat.reduceLeDiff, Nat.reduceEqDiff, Int.reduceToNat, ↓reduceIte]; exact ⟨rfl, rfl⟩))
      case' hQ => skip
      simp only [push_cast, Nat.reduceAdd, Nat.reduceSub, Nat.reduceMul, Nat.reduceLT, Nat.reduceLeDiff, Nat.reduceEqDiff, Int.reduceToNat, ↓reduceIte, hfin (fun _ => hc)]
  · skip
    apply AW_drawE [some 24, some 25, some 26, some 27, some 28, some 29, some 30, some 31, some 32, some 33, some 34, some 35, some 36, some 37, some 6] [([false, false, false], _), ([true, false, false], _), ([true, true, false], _), ([true, true, true], _)] [none, none, none, none, some 0, none, none, none, none, some 1, none, none, none, some 2, none] 3 [(0, [false, false, false], []), (1, [false, false, false], [0]), (2, [false, false, false], [7]), (3, [false, false, false], [25, 0]), (4, [false, false, false], [24, 2]), (5, [true, false, false], [1]), (6, [true, false, false], [5]), (7, [true, false, false], [29, 0]), (8, [true, false, false], [31]), (9, [true, false, false], [28, 3]), (10, [true, true, false], [0]), (11, [true, true, false], [7]), (12, [true, true, false], [34, 0]), (13, [true, true, false], [33, 2]), (14, [true, true, true], [37]), (1, [true, false, false], [0]), (1, [true, true, false], [0]), (1, [true, true, true], [0]), (2, [true, false, false], [7]), (2, [true, true, false], [7]), (2, [true, true, true], [7]), (5, [false, false, false], [1]), (5, [true, true, false], [1]), (5, [true, true, true], [1]), (6, [false, false, false], [5]), (6, [true, true, false], [5]), (6, [true, true, true], [5]), (7, [false, false, false], [29, 0]), (7, [true, true, false], [29, 0]), (7, [true, true, true], [29, 0]), (8, [false, false, false], [31]), (10, [false, false, false], [0]), (10, [true, false, false], [0]), (10, [true, true, true], [0]), (11, [false, false, false], [7]), (11, [true, false, false], [7]), (11, [true, true, true], [7]), (12, [false, false, false], [34, 0]), (12, [true, false, false], [34, 0])] [_, _, _, _, _, _, _, _, _, _, _, _, _, _, _]
    case' hm => exact dr
    case' hn => rfl
    case' hok => rfl
    case' hlen => rfl
    case' hd => rfl
    case' h0 => rfl
    case' hstep =>
     simp only [DAllG, push_cast, Option.isSome_some, Option.isSome_none]
     repeat' apply And.intro
     all_goals (apply DOne_V; simp only [push_cast, Nat.reduceAdd, Nat.reduceSub, Nat.reduceMul, Nat.reduceLT, Nat.reduceLeDiff, Nat.reduceEqDiff, Int.reduceToNat, ↓reduceIte, List.drop_zero, Nat.sub_zero, hdr] <;> first | exact rfl | omega | exact ⟨rfl, rfl⟩ | exact trivial | exact ⟨by omega, rfl⟩ | exact ⟨by omega, by omega, rfl⟩ | exact ⟨by omega, rfl, rfl⟩ | exact ⟨by omega, by omega, rfl, rfl⟩ | (refine app_L encBd (sz := 4) (fun _ => rfl) cellBd _ H.length [] (σ.take i) _ rfl rfl (by exact aget0 _ _ _) sl49 sz107 by107 zr107 rfl (by decide) (by decide) (by simp; omega) ?_; simp only [push_cast, Nat.reduceAdd, Nat.reduceSub, Nat.reduceMul, Nat.reduceLT, Nat.reduceLeDiff, Nat.reduceEqDiff, Int.reduceToNat, ↓reduceIte, List.nil_append]; exact ⟨rfl, rfl⟩) | (refine app1_L encBd (sz := 4) (fun _ => rfl) cellBd _ H.length (σ.take i) (v, t) _ rfl rfl (by exact aget0 _ _ _) sl49 sz107 by107 zr107 rfl (by decide) (by decide) (by simp; omega) ?_; simp only [push_cast, Nat.reduceAdd, Nat.reduceSub, Nat.reduceMul, Nat.reduceLT, Nat.reduceLeDiff, Nat.reduceEqDiff, Int.reduceToNat, ↓reduceIte]; exact ⟨rfl, rfl⟩) | (refine app_L encBd (sz := 4) (fun _ => rfl) cellBd _ H.length (σ.take i ++ [(v, t)]) (σ.drop i) _ rfl rfl (by exact aget0 _ _ _) sl49 sz107 by107 zr107 rfl (by decide) (by decide) (by simp; omega) ?_; simp only [push_cast, Nat.reduceAdd, Nat.reduceSub, Nat.reduceMul, Nat.reduceLT, Nat.reduceLeDiff, Nat.reduceEqDiff, Int.reduceToNat, ↓reduceIte]; exact ⟨rfl, rfl⟩))
    case' hQ => skip
    simp only [push_cast, Nat.reduceAdd, Nat.reduceSub, Nat.reduceMul, Nat.reduceLT, Nat.reduceLeDiff, Nat.reduceEqDiff, Int.reduceToNat, ↓reduceIte, hfin (fun hh => absurd hh (by omega))]
theorem matchRs_ok : ∀ (xs ys : List Term) (σ : List (List UInt8 × Term)), SortedN (σ.map (·.1)) → (matchRs xs ys σ).2 = true → MatchOk σ (matchRs xs ys σ).1 (fun x => ∃ y, y ∈ ys ∧ SubT y x) ∧ (matchRs xs ys σ).1.length ≤ σ.length + (xs.map Term.size).sum := fun xs ys σ hs h => by
  obtain ⟨h1, h2⟩ := matchRs_eq xs ys σ
  rw [h2 (h1.symm.trans h)]
  exact matchTs_ok xs ys σ hs
theorem match_names : ∀ (xs ys : List Term) (σ : List (List UInt8 × Term)) (B : Nat), (∀ x, x ∈ xs → x.bulk ≤ B) → (∀ b, b ∈ σ → b.1.length ≤ B) → ∀ b, b ∈ (matchTs xs ys σ).1 → b.1.length ≤ B
  | [], ys, σ, B, _, h => by rw [matchTs_nil]; exact h
  | .mk n u xs :: r, [], σ, B, _, h => by rw [matchTs_nil2]; exact h
  | .mk n u xs :: r, y :: r', σ, B, hx, h => by
    have h0 := hx (.mk n u xs) (by simp)
    have hnl := Term.name_le (n := n) (v := u) (xs := xs)
    have one : ∀ b, b ∈ (matchP (.mk n u xs) y σ).1 → b.1.length ≤ B := by
      cases u with
      | true =>
        rw [matchP_v]
        unfold leafM
        split
        · exact h
        · intro b hb
          rcases (mem_insB b).1 hb with hb | rfl
          · exact h b hb
          · show n.length ≤ B; omega
      | false =>
        cases hc : clash n xs.length y with
        | true => rw [matchP_c σ hc]; exact h
        | false =>
          rw [matchP_g σ hc]
          exact match_names xs y.args σ B (fun x hx' => by have := Term.arg_le (n := n) (v := false) hx'; omega) h
    rw [matchTs_cons]
    cases (matchP (.mk n u xs) y σ).2 with
    | false => simpa using one
    | true => simp only [if_true]; exact match_names r r' _ B (fun x hx' => hx x (by simp [hx'])) one
theorem matchR_ac (p : Term) : ∀ (t : Term) (σ : List (List UInt8 × Term)), SortedN (σ.map (·.1)) → p.bulk ≤ 1099511627774 → t.bulk ≤ 1099511627775 → (∀ b, b ∈ σ → b.2.bulk ≤ 1099511627775 ∧ b.1.length ≤ 1099511627774) → σ.length + p.size < 1099511627775 →
    ∀ H, ACall Tryz.prog 173 [.sl .none (encL encBd σ), encT p, encT t] H (fun r H' => r = .tup [.sl .none (encL encBd (matchR p t σ).1), .bool (matchR p t σ).2] ∧ H' = H) := by
  induction p using Term.ind with | _ n u xs ih
  intro t σ hs hb hb2 hb3 hl H
  obtain ⟨n2, u2, ys⟩ := t
  have hlx := Term.len_le (n := n) (v := u) (xs := xs)
  have hnx := Term.name_le (n := n) (v := u) (xs := xs)
  have hly := Term.len_le (n := n2) (v := u2) (xs := ys)
  have hz := Term.size_mk n u xs
  refine ACall_V (H.length) 70 [.tmp 6, .tmp 7] Tryz.func173 rfl rfl rfl ?_
  cases u with
  | true =>
    rw [matchR_v]
    simp only [push_cast, Nat.reduceAdd, Nat.reduceSub, Nat.reduceMul, Nat.reduceLT, Nat.reduceLeDiff, Nat.reduceEqDiff, Int.reduceToNat, ↓reduceIte]
    refine (bound_ac σ n (by omega) _).to ?_
    cases hlk : look σ n with
    | some x =>
      have hx := hb3 (n, x) (look_some_mem hlk)
      have e : leafM σ n (.mk n2 u2 ys) = (σ, decide (x = .mk n2 u2 ys)) := by unfold leafM; rw [hlk]
      have ei : imageP σ n = x := by rw [image_look, hlk]; rfl
      simp only [push_cast, Nat.reduceAdd, Nat.reduceSub, Nat.reduceMul, Nat.reduceLT, Nat.reduceLeDiff, Nat.reduceEqDiff, Int.reduceToNat, ↓reduceIte, Option.isSome_some]
      apply AW_drawE [some 17, some 18, some 19, some 20, some 21, some 22, some 23, some 6, some 7] [([], _)] [none, none, none, none, none, none, none, none, none] 0 [(0, [], [0]), (1, [], [0]), (2, [], [4]), (3, [], [19]), (4, [], [18, 1]), (5, [], [5]), (6, [], [21, 0]), (7, [], [17]), (8, [], [23])] [_, _, _, _, _, _, _, _, _]
      case' hm => exact dr
      case' hn => rfl
      case' hok => rfl
      case' hlen => rfl
      case' hd => rfl
      case' h0 => rfl
      case' hstep =>
       simp only [DAllG, push_cast, Option.isSome_some, Option.isSome_none]
       repeat' apply And.intro
       all_goals (apply DOne_V; simp only [push_cast, Nat.reduceAdd, Nat.reduceSub, Nat.reduceMul, Nat.reduceLT, Nat.reduceLeDiff, Nat.reduceEqDiff, Int.reduceToNat, ↓reduceIte] <;> first | exact rfl | omega | exact ⟨rfl, rfl⟩ | exact trivial | exact ⟨by omega, rfl⟩ | exact ⟨by omega, by omega, rfl⟩ | exact ⟨by omega, rfl, rfl⟩ | exact ⟨by omega, by omega, rfl, rfl⟩ | exact (imageR_ac σ n (by omega) _).to ⟨rfl, rfl⟩ | (rw [ei]; exact (equalR_ac x (.mk n2 u2 ys) hx.1 hb2 _).to ⟨rfl, rfl⟩))
      case' hQ => skip
      simp only [push_cast, Nat.reduceAdd, Nat.reduceSub, Nat.reduceMul, Nat.reduceLT, Nat.reduceLeDiff, Nat.reduceEqDiff, Int.reduceToNat, ↓reduceIte, e]
    | none =>
      have e : leafM σ n (.mk n2 u2 ys) = (insB σ n (.mk n2 u2 ys), true) := by unfold leafM; rw [hlk]
      simp only [push_cast, Nat.reduceAdd, Nat.reduceSub, Nat.reduceMul, Nat.reduceLT, Nat.reduceLeDiff, Nat.reduceEqDiff, Int.reduceToNat, ↓reduceIte, Option.isSome_none]
      refine (with_ac σ n (.mk n2 u2 ys) (by omega) (by omega) (fun b hb' => by have := (hb3 b hb').2; omega) _).to ?_
      simp only [push_cast, Nat.reduceAdd, Nat.reduceSub, Nat.reduceMul, Nat.reduceLT, Nat.reduceLeDiff, Nat.reduceEqDiff, Int.reduceToNat, ↓reduceIte, e]
  | false =>
    simp only [push_cast, Nat.reduceAdd, Nat.reduceSub, Nat.reduceMul, Nat.reduceLT, Nat.reduceLeDiff, Nat.reduceEqDiff, Int.reduceToNat, ↓reduceIte]
    cases u2 with
    | true =>
      have e : matchR (.mk n false xs) (.mk n2 true ys) σ = ([], false) := matchR_c σ (by simp [clash, Term.var_mk])
      refine cI (fun _ => ?_) (fun h => absurd rfl h)
      simp only [push_cast, Nat.reduceAdd, Nat.reduceSub, Nat.reduceMul, Nat.reduceLT, Nat.reduceLeDiff, Nat.reduceEqDiff, Int.reduceToNat, ↓reduceIte, e, encL_nil]
    | false =>
      refine cI (fun h => absurd h (by decide)) (fun _ => ?_)
      refine cI (fun hn => ?_) (fun hn => ?_)
      · subst hn
        refine cI (fun hq => ?_) (fun hq => ?_)
        · have hlen : xs.length = ys.length := by omega
          have hc : clash n2 xs.length (.mk n2 false ys) = false := clash_false.2 ⟨rfl, rfl, hlen⟩
          have eg : matchR (.mk n2 false xs) (.mk n2 false ys) σ = matchRs xs ys σ := matchR_g σ hc
          rw [eg]
          refine AW_loopW (maskG 73 [0, 3, 0, 43, 0]) (fun (i : Nat) => [(50, .int .i64 i), (0, .sl .none (encL encBd (matchRs (xs.take i) (ys.take i) σ).1))]) (fun i => H ++ [.cells [.str n2, .bool false, .sl .none (encTs xs)], .cells [.str n2, .bool false, .sl .none (encTs ys)]]) (fun i => i ≤ xs.length ∧ (matchRs (xs.take i) (ys.take i) σ).2 = true) (fun i => xs.length - i) 0 ⟨Nat.zero_le _, by rw [List.take_zero, matchRs_nil]⟩ (by simp only [push_cast, Nat.reduceAdd, Nat.reduceSub, Nat.reduceMul, Nat.reduceLT, Nat.reduceLeDiff, Nat.reduceEqDiff, Int.reduceToNat, ↓reduceIte, List.take_zero, matchRs_nil]) (fun i hi => ?_)
          simp only [push_cast, Nat.reduceAdd, Nat.reduceSub, Nat.reduceMul, Nat.reduceLT, Nat.reduceLeDiff, Nat.reduceEqDiff, Int.reduceToNat, ↓reduceIte]
          refine cI (fun h => ?_) (fun h => ?_)
          · have hix : i < xs.length := by omega
            have hiy : i < ys.length := by omega
            repeat refine ⟨by omega, ?_⟩
            obtain ⟨o1, o2⟩ := matchRs_ok (xs.take i) (ys.take i) σ hs hi.2
            have onm : ∀ b, b ∈ (matchRs (xs.take i) (ys.take i) σ).1 → b.1.length ≤ 1099511627774 := by
              obtain ⟨z1, z2⟩ := matchRs_eq (xs.take i) (ys.take i) σ
              rw [z2 (z1.symm.trans hi.2)]
              exact match_names _ _ _ _ (fun x hx => by have := Term.arg_le (n := n2) (v := false) (List.mem_of_mem_take hx); omega) (fun b hb' => (hb3 b hb').2)
            have hsum := take_sum_le Term.size xs i
            have hxi := le_sum Term.size (xs.drop i) xs[i] (by rw [List.drop_eq_getElem_cons hix]; exact List.mem_cons_self)
            have hsm : ((xs.take i).map Term.size).sum + ((xs.drop i).map Term.size).sum = (xs.map Term.size).sum := by rw [← List.sum_append, ← List.map_append, List.take_append_drop]
            have hstep := fun X => ih _ (List.getElem_mem hix) ys[i] (matchRs (xs.take i) (ys.take i) σ).1 o1.sorted (arg_bulk hb i hix) (arg_bulk hb2 i hiy) (fun b hb' => ⟨by
              rcases o1.new b hb' with h | ⟨y, hy, h⟩
              · exact (hb3 b h).1
              · have h5 := h.bulk
                have h6 := Term.arg_le (n := n2) (v := false) (List.mem_of_mem_take hy)
                omega, onm b hb'⟩) (by omega) X
            obtain ⟨st1, st2⟩ := matchRs_step i hix hiy hi.2
            apply AW_drawE [some 54, some 55, some 56, some 57, some 58, some 59, some 60, some 61, some 62, some 63, some 64, some 65, some 53, some 66, some 67, some 9, some 10] [([], _)] [none, none, none, none, none, none, none, none, none, none, none, none, none, none, none, none, none] 0 [(0, [], [0]), (1, [], [4]), (2, [], [55]), (3, [], [8]), (4, [], [56, 0]), (5, [], [58]), (6, [], [5]), (7, [], [60]), (8, [], [8]), (9, [], [61, 0]), (10, [], [63]), (11, [], [54, 4, 4]), (12, [], [65]), (13, [], [53]), (14, [], [53]), (15, [], [66]), (16, [], [67])] [_, _, _, _, _, _, _, _, _, _, _, _, _, _, _, _, _]
            case' hm => exact dr
            case' hn => rfl
            case' hok => rfl
            case' hlen => rfl
            case' hd => rfl
            case' h0 => rfl
            case' hstep =>
             simp only [DAllG, push_cast, Option.isSome_some, Option.isSome_none]
             repeat' apply And.intro
             all_goals (apply DOne_V; simp only [push_cast, Nat.reduceAdd, Nat.reduceSub, Nat.reduceMul, Nat.reduceLT, Nat.reduceLeDiff, Nat.reduceEqDiff, Int.reduceToNat, ↓reduceIte] <;> first | exact rfl | omega | exact ⟨rfl, rfl⟩ | exact trivial | exact ⟨by omega, rfl⟩ | exact ⟨by omega, by omega, rfl⟩ | exact ⟨by omega, rfl, rfl⟩ | exact ⟨by omega, by omega, rfl, rfl⟩ | exact ⟨by omega, trivial⟩ | exact (hstep _).to ⟨rfl, rfl⟩)
            case' hQ => skip
            simp only [push_cast, Nat.reduceAdd, Nat.reduceSub, Nat.reduceMul, Nat.reduceLT, Nat.reduceLeDiff, Nat.reduceEqDiff, Int.reduceToNat, ↓reduceIte]
            refine cI (fun hq => ?_) (fun hq => ?_)
            · repeat' first | refine ⟨by omega, ?_⟩ | refine cI (fun _ => ?_) (fun _ => ?_)
              refine loopW_n (i + 1) ⟨by omega, by rw [st1 hq]; exact hq⟩ (by omega) ?_
              rw [st1 hq]
              simp only [push_cast, Nat.reduceAdd, Nat.reduceSub, Nat.reduceMul, Nat.reduceLT, Nat.reduceLeDiff, Nat.reduceEqDiff, Int.reduceToNat, ↓reduceIte]
            · simp only [push_cast, Nat.reduceAdd, Nat.reduceSub, Nat.reduceMul, Nat.reduceLT, Nat.reduceLeDiff, Nat.reduceEqDiff, Int.reduceToNat, ↓reduceIte, st2 (by simpa using hq), encL_nil]
          · have hil : i = xs.length := by omega
            rw [List.take_of_length_le (show xs.length ≤ i by omega), List.take_of_length_le (show ys.length ≤ i by omega)] at hi ⊢
            simp only [push_cast, Nat.reduceAdd, Nat.reduceSub, Nat.reduceMul, Nat.reduceLT, Nat.reduceLeDiff, Nat.reduceEqDiff, Int.reduceToNat, ↓reduceIte, hi.2]
        · have hc : clash n2 xs.length (.mk n2 false ys) = true := by
            cases hcl : clash n2 xs.length (.mk n2 false ys) with
            | true => rfl
            | false => exact absurd (clash_false.1 hcl).2.2 (by show ¬ xs.length = ys.length; omega)
          have e := matchR_c σ hc
          simp only [push_cast, Nat.reduceAdd, Nat.reduceSub, Nat.reduceMul, Nat.reduceLT, Nat.reduceLeDiff, Nat.reduceEqDiff, Int.reduceToNat, ↓reduceIte, e, encL_nil]
      · have hc : clash n xs.length (.mk n2 false ys) = true := by
          cases hcl : clash n xs.length (.mk n2 false ys) with
          | true => rfl
          | false => exact absurd (clash_false.1 hcl).2.1.symm hn
        have e := matchR_c σ hc
        simp only [push_cast, Nat.reduceAdd, Nat.reduceSub, Nat.reduceMul, Nat.reduceLT, Nat.reduceLeDiff, Nat.reduceEqDiff, Int.reduceToNat, ↓reduceIte, e, encL_nil]
theorem matchRef_ac (p t : Term) (hb : p.bulk ≤ 1099511627770) (hb2 : t.bulk ≤ 1099511627775) (H : List AObj) :
    ACall Tryz.prog 139 [encT p, encT t] H (fun r H' => r = .tup [.sl .none (encL encBd (matchR p t []).1), .bool (matchR p t []).2] ∧ H' = H) := by
  have hsz := p.size_le
  refine ACall_V (H.length) 9 [.tmp 4, .tmp 5] Tryz.func139 rfl rfl rfl ?_
  simp only [push_cast, Nat.reduceAdd, Nat.reduceSub, Nat.reduceMul, Nat.reduceLT, Nat.reduceLeDiff, Nat.reduceEqDiff, Int.reduceToNat, ↓reduceIte]
  refine ACall.forget (args' := [.sl .none (encL encBd []), encT p, encT t]) ⟨Forget.tok _ _, Forget.refl _, Forget.refl _, trivial⟩ ((matchR_ac p t [] (by simp [SortedN]) (by omega) hb2 (by simp) (by simp; omega) _).to ?_)
  simp only [push_cast, Nat.reduceAdd, Nat.reduceSub, Nat.reduceMul, Nat.reduceLT, Nat.reduceLeDiff, Nat.reduceEqDiff, Int.reduceToNat, ↓reduceIte]
end Ab
set_option maxRecDepth 10000
namespace Ab
open Go Go.Proofs
theorem gSl_ex (k : Nat) (xs : List AV) : ∃ tk, gSl k xs = .sl tk xs := by cases xs <;> exact ⟨_, rfl⟩
theorem walkL_at : ∀ (xs : List Term) (i : Nat) (p : List Int) x, x ∈ walkL xs i p → ∃ k : Nat, ∃ h : k < xs.length, ∃ q, x.1 = p ++ ((i + k : Nat) : Int) :: q ∧ atP xs[k] q = some x.2
  | [], _, _, x, hx => by simp [walkL] at hx
  | .mk n v ys :: r, i, p, x, hx => by
    rw [walkL_cons, List.mem_append] at hx
    rcases hx with hx | hx
    · refine ⟨0, by simp, ?_⟩
      simp only [walkT, List.mem_cons, Term.mk_args] at hx
      rcases hx with rfl | hx
      · exact ⟨[], by simp, by simp [atP]⟩
      · obtain ⟨k, h, q, h1, h2⟩ := walkL_at ys 0 (p ++ [(i : Int)]) x hx
        refine ⟨((0 + k : Nat) : Int) :: q, by rw [h1]; simp, ?_⟩
        have := (at_step (.mk n v ys) ((0 + k : Nat) : Int) q).1 ⟨by omega, by show (((0 + k : Nat) : Int)).toNat < ys.length; omega⟩
        simp only [List.getElem_cons_zero]
        rw [this, ← h2]
        congr 1
        show ys[_] = ys[_]
        congr 1; omega
    · obtain ⟨k, h, q, h1, h2⟩ := walkL_at r (i + 1) p x (by exact_mod_cast hx)
      refine ⟨k + 1, by simpa using h, q, by rw [h1]; congr 2; omega, by simpa using h2⟩
theorem walk_at (t : Term) (x : List Int × Term) (h : x ∈ walkT t []) : atP t x.1 = some x.2 := by
  cases t with
  | mk n v ys =>
    simp only [walkT, List.mem_cons, Term.mk_args] at h
    rcases h with rfl | h
    · simp [atP]
    · obtain ⟨k, hk, q, h1, h2⟩ := walkL_at ys 0 [] x h
      rw [h1]
      have := (at_step (.mk n v ys) ((0 + k : Nat) : Int) q).1 ⟨by omega, by show (((0 + k : Nat) : Int)).toNat < ys.length; omega⟩
      rw [List.nil_append, this, ← h2]
      congr 1
      show ys[_] = ys[_]
      congr 1; omega
theorem allSteps_ac (rs : List (Term × Term)) (hr : SysB rs) (t : Term) (hb : t.bulk ≤ 1000000000) (H : List AObj) : ACall Tryz.prog 85 [.sl .none (encL encRu rs), encT t] H (fun r H' => r = .sl .none (encL encSt (allS rs t)) ∧ H' = H) := by
  have hsz := t.size_le
  have hr1 := hr.1
  refine ACall_V (H.length) 17 [.tmp 4] Tryz.func85 rfl rfl rfl ?_
  simp only [push_cast, Nat.reduceAdd, Nat.reduceSub, Nat.reduceMul, Nat.reduceLT, Nat.reduceLeDiff, Nat.reduceEqDiff, Int.reduceToNat, ↓reduceIte]
  refine (walkF_ac t _).to ?_
  simp only [push_cast, Nat.reduceAdd, Nat.reduceSub, Nat.reduceMul, Nat.reduceLT, Nat.reduceLeDiff, Nat.reduceEqDiff, Int.reduceToNat, ↓reduceIte]
  refine AW_reserve 1 ?_
  refine AW_iterW _ _ (walk_iter t (by omega) _) H (fun pre => [.cells [.sl .none (encL encRu rs)], .cells [.str t.name, .bool t.var, .sl .none (encTs t.args)], .cells [gSl (H.length + 4) (encL encSt (allI rs pre))], .cells [.str t.name, .bool t.var, .sl .none (encTs t.args)], gTok 86 2 (encL encSt (allI rs pre))]) 5 (fun _ _ => none) rfl ok153 (by simp only [push_cast, Nat.reduceAdd, Nat.reduceSub, Nat.reduceMul, Nat.reduceLT, Nat.reduceLeDiff, Nat.reduceEqDiff, Int.reduceToNat, ↓reduceIte, allI_nil, encL_nil]) (fun _ => rfl) (fun lp => by simp only [push_cast, Nat.reduceAdd, Nat.reduceSub, Nat.reduceMul, Nat.reduceLT, Nat.reduceLeDiff, Nat.reduceEqDiff, Int.reduceToNat, ↓reduceIte]) (fun p => by simp only [push_cast, Nat.reduceAdd, Nat.reduceSub, Nat.reduceMul, Nat.reduceLT, Nat.reduceLeDiff, Nat.reduceEqDiff, Int.reduceToNat, ↓reduceIte]) (fun _ => rfl) (fun pre x suf X l lp lp' he hn => ?_) (fun _ lp => ?_) (fun pre x suf c lp _ _ h => by cases h)
  · have hx := walk_pos_len t [] x (by rw [he]; simp)
    have hxb : x.2.bulk ≤ t.bulk := (at_bulk _ _ _ (walk_at t x (by rw [he]; simp)))
    have hpl : pre.length < t.size := by have := walkT_length t []; rw [he] at this; simp at this; omega
    have hal := allI_len rs pre
    have hmul : pre.length * rs.length ≤ 1000000000 * 64 := Nat.mul_le_mul (by omega) hr1
    have hav := atV_len rs x.1 x.2
    simp only [push_cast, Nat.reduceAdd, Nat.reduceSub, Nat.reduceMul, Nat.reduceLT, Nat.reduceLeDiff, Nat.reduceEqDiff, Int.reduceToNat, ↓reduceIte, List.drop_length]
    apply AW_drawE [some 12, some 13, some 14, some 15, some 16, some 17, none] [([false, false, false], _), ([true, false, false], _), ([true, true, false], _), ([true, true, true], _)] [none, none, none, none, some 0, some 1, some 2] 3 [(0, [false, false, false], [5]), (1, [false, false, false], [2]), (2, [false, false, false], [6]), (3, [false, false, false], [7]), (4, [false, false, false], [13, 0, 0]), (5, [true, false, false], [12, 3]), (6, [true, true, false], [5, 11]), (0, [true, false, false], [5])] [_, _, _, _, _, _, _]
    case' hm => exact dr
    case' hn => rfl
    case' hok => rfl
    case' hlen => rfl
    case' hd => rfl
    case' h0 => rfl
    case' hstep =>
     simp only [DAllG, push_cast, Option.isSome_some, Option.isSome_none]
     repeat' apply And.intro
     all_goals (apply DOne_V; simp only [push_cast, Nat.reduceAdd, Nat.reduceSub, Nat.reduceMul, Nat.reduceLT, Nat.reduceLeDiff, Nat.reduceEqDiff, Int.reduceToNat, ↓reduceIte] <;> first | exact rfl | omega | exact ⟨rfl, rfl⟩ | exact trivial | exact ⟨by omega, rfl⟩ | exact ⟨by omega, by omega, rfl⟩ | exact ⟨by omega, rfl, rfl⟩ | exact ⟨by omega, by omega, rfl, rfl⟩ | exact (at_ac' rs hr x.1 (by simp at hx; omega) x.2 (by omega) _).to ⟨rfl, rfl⟩ | (refine app_L encSt (sz := 2) (fun _ => rfl) cellSt _ (H.length + 4) (allI rs pre) (atV rs x.1 x.2) _ rfl rfl (by exact (agetN _ _ 4).trans rfl) sl26 sz86 by86 zr86 rfl (by decide) (by decide) (by omega) ?_; simp only [push_cast, Nat.reduceAdd, Nat.reduceSub, Nat.reduceMul, Nat.reduceLT, Nat.reduceLeDiff, Nat.reduceEqDiff, Int.reduceToNat, ↓reduceIte]; exact ⟨rfl, rfl⟩))
    case' hQ => skip
    simp only [push_cast, Nat.reduceAdd, Nat.reduceSub, Nat.reduceMul, Nat.reduceLT, Nat.reduceLeDiff, Nat.reduceEqDiff, Int.reduceToNat, ↓reduceIte, allI_snoc]
  · simp only [push_cast, Nat.reduceAdd, Nat.reduceSub, Nat.reduceMul, Nat.reduceLT, Nat.reduceLeDiff, Nat.reduceEqDiff, Int.reduceToNat, ↓reduceIte, allS]
end Ab
set_option maxRecDepth 10000
namespace Ab
open Go
def belowP (p q : List Int) : Bool := decide (q.length < p.length) && decide (p.take q.length = q)
theorem below_iff (p q : List Int) : belowP p q = true ↔ ∃ a r, p = q ++ a :: r := by
  unfold belowP
  rw [Bool.and_eq_true, decide_eq_true_eq, decide_eq_true_eq]
  constructor
  · rintro ⟨h1, h2⟩
    cases hd : p.drop q.length with
    | nil =>
      have := congrArg List.length hd
      rw [List.length_drop] at this; simp at this; omega
    | cons a r =>
      refine ⟨a, r, ?_⟩
      conv => lhs; rw [← List.take_append_drop q.length p, h2, hd]
  · rintro ⟨a, r, rfl⟩
    simp
theorem walkT_mem {t : Term} {p : List Int} {x : List Int × Term} (h : x ∈ walkT t p) : ∃ q, x.1 = p ++ q := by
  cases t with
  | mk n v xs =>
    rw [walkT, List.mem_cons, Term.mk_args] at h
    rcases h with rfl | h
    · exact ⟨[], by simp⟩
    · have h1 : x.1 ∈ (walkL xs 0 p).map (·.1) := List.mem_map.2 ⟨x, h, rfl⟩
      rw [walkL_pre] at h1
      obtain ⟨q, _, hq⟩ := List.mem_map.1 h1
      exact ⟨q, hq.symm⟩
theorem walkL_mem : ∀ {xs : List Term} {i : Int} {p : List Int} {x : List Int × Term}, x ∈ walkL xs i p → ∃ k : Nat, ∃ q, x.1 = p ++ (i + (k : Int)) :: q
  | [], _, _, _, h => by simp [walkL] at h
  | t :: r, i, p, x, h => by
    rw [walkL_cons, List.mem_append] at h
    rcases h with h | h
    · obtain ⟨q, hq⟩ := walkT_mem h
      exact ⟨0, q, by rw [hq]; simp⟩
    · obtain ⟨k, q, hq⟩ := walkL_mem h
      exact ⟨k + 1, q, by rw [hq]; congr 2; omega⟩
theorem allI_mem {rs : List (Term × Term)} {items : List (List Int × Term)} {s : Int × List Int} (h : s ∈ allI rs items) : ∃ x, x ∈ items ∧ s.2 = x.1 ∧ s ∈ atV rs x.1 x.2 := by
  unfold allI at h
  obtain ⟨x, hx, hs⟩ := List.mem_flatMap.1 h
  exact ⟨x, hx, atV_pos hs, hs⟩
theorem allT_mem {rs : List (Term × Term)} {t : Term} {p : List Int} {s : Int × List Int} (h : s ∈ allI rs (walkT t p)) : ∃ q, s.2 = p ++ q := by
  obtain ⟨x, hx, e, _⟩ := allI_mem h
  obtain ⟨q, hq⟩ := walkT_mem hx
  exact ⟨q, e.trans hq⟩
theorem allL_mem {rs : List (Term × Term)} {xs : List Term} {i : Int} {p : List Int} {s : Int × List Int} (h : s ∈ allI rs (walkL xs i p)) : ∃ k : Nat, ∃ q, s.2 = p ++ (i + (k : Int)) :: q := by
  obtain ⟨x, hx, e, _⟩ := allI_mem h
  obtain ⟨k, q, hq⟩ := walkL_mem hx
  exact ⟨k, q, e.trans hq⟩
theorem allT_eq (rs : List (Term × Term)) (t : Term) (p : List Int) : allI rs (walkT t p) = atV rs p t ++ allI rs (walkL t.args 0 p) := by
  rw [walkT]; simp [allI]
theorem allL_cons (rs : List (Term × Term)) (t : Term) (r : List Term) (i : Int) (p : List Int) : allI rs (walkL (t :: r) i p) = allI rs (walkT t (p ++ [i])) ++ allI rs (walkL r (i + 1) p) := by
  rw [walkL_cons, allI_app]
theorem apart1 {p q q' : List Int} {i : Int} {k : Nat} : ¬ ∃ a r, p ++ (i + 1 + (k : Int)) :: q' = (p ++ [i] ++ q) ++ a :: r := by
  rintro ⟨a, r, h⟩
  rw [List.append_assoc, List.append_assoc, List.append_cancel_left_eq] at h
  simp at h
  omega
theorem apart2 {p q q' : List Int} {i : Int} {k : Nat} : ¬ ∃ a r, p ++ [i] ++ q = (p ++ (i + 1 + (k : Int)) :: q') ++ a :: r := by
  rintro ⟨a, r, h⟩
  rw [List.append_assoc, List.append_assoc, List.append_cancel_left_eq] at h
  simp at h
  omega
def innF (l : List (Int × List Int)) (s : Int × List Int) : Bool := l.all fun s' => !belowP s'.2 s.2
def outF (l : List (Int × List Int)) (s : Int × List Int) : Bool := l.all fun s' => !belowP s.2 s'.2
theorem innF_app (a b : List (Int × List Int)) (s : Int × List Int) : innF (a ++ b) s = (innF a s && innF b s) := by unfold innF; rw [List.all_append]
theorem outF_app (a b : List (Int × List Int)) (s : Int × List Int) : outF (a ++ b) s = (outF a s && outF b s) := by unfold outF; rw [List.all_append]
theorem innF_true {l : List (Int × List Int)} {s : Int × List Int} (h : ∀ s', s' ∈ l → ¬ ∃ a r, s'.2 = s.2 ++ a :: r) : innF l s = true := by
  unfold innF
  rw [List.all_eq_true]
  intro s' hs'
  have := h s' hs'
  rw [← below_iff] at this
  simpa using this
theorem outF_true {l : List (Int × List Int)} {s : Int × List Int} (h : ∀ s', s' ∈ l → ¬ ∃ a r, s.2 = s'.2 ++ a :: r) : outF l s = true := by
  unfold outF
  rw [List.all_eq_true]
  intro s' hs'
  have := h s' hs'
  rw [← below_iff] at this
  simpa using this
theorem filter_split {α : Type} (p q r : α → Bool) (a b : List α) (h1 : ∀ x, x ∈ a → p x = q x) (h2 : ∀ x, x ∈ b → p x = r x) : (a ++ b).filter p = a.filter q ++ b.filter r := by
  rw [List.filter_append, List.filter_congr h1, List.filter_congr h2]
theorem filter_none {α : Type} {p : α → Bool} {a : List α} (h : ∀ x, x ∈ a → p x = false) : a.filter p = [] := List.filter_eq_nil_iff.2 fun x hx => by simp [h x hx]
theorem filter_each {α : Type} {p : α → Bool} {a : List α} (h : ∀ x, x ∈ a → p x = true) : a.filter p = a := List.filter_eq_self.2 h
theorem self_apart {q : List Int} : ¬ ∃ a r, q = q ++ a :: r := by
  rintro ⟨a, r, h⟩
  have := congrArg List.length h
  simp at this
theorem long_apart {q : List Int} {k : Nat} {i : Int} {u : List Int} : ¬ ∃ a r, q = (q ++ (i + (k : Int)) :: u) ++ a :: r := by
  rintro ⟨a, r, h⟩
  have := congrArg List.length h
  simp at this
theorem innT_y {rs : List (Term × Term)} {n : List UInt8} {v : Bool} {xs : List Term} {p : List Int} (h : innL rs xs 0 p = []) : innT rs (.mk n v xs) p = atV rs p (.mk n v xs) := if_pos h
theorem innT_n {rs : List (Term × Term)} {n : List UInt8} {v : Bool} {xs : List Term} {p : List Int} (h : ¬ innL rs xs 0 p = []) : innT rs (.mk n v xs) p = innL rs xs 0 p := if_neg h
theorem outT_y {rs : List (Term × Term)} {n : List UInt8} {v : Bool} {xs : List Term} {p : List Int} (h : atV rs p (.mk n v xs) = []) : outT rs (.mk n v xs) p = outL rs xs 0 p := if_pos h
theorem outT_n {rs : List (Term × Term)} {n : List UInt8} {v : Bool} {xs : List Term} {p : List Int} (h : ¬ atV rs p (.mk n v xs) = []) : outT rs (.mk n v xs) p = atV rs p (.mk n v xs) := if_neg h
theorem innL_nilI (rs : List (Term × Term)) : ∀ (xs : List Term) (i : Int) (p : List Int), innL rs xs i p = [] ↔ allI rs (walkL xs i p) = []
  | [], i, p => by simp [innL_nil, walkL, allI]
  | .mk n v xs :: r, i, p => by
    have h1 := innL_nilI rs xs 0 (p ++ [i])
    have h2 := innL_nilI rs r (i + 1) p
    rw [innL_cons, allL_cons, List.append_eq_nil_iff, List.append_eq_nil_iff, h2, allT_eq, List.append_eq_nil_iff]
    simp only [Term.mk_args]
    by_cases hD : innL rs xs 0 (p ++ [i]) = []
    · rw [innT_y hD]; simp [h1.1 hD]
    · rw [innT_n hD]
      have : ¬ allI rs (walkL xs 0 (p ++ [i])) = [] := fun e => hD (h1.2 e)
      simp [hD, this]
theorem innT_of {rs : List (Term × Term)} {n : List UInt8} {v : Bool} {xs : List Term} {q0 : List Int} (h1 : innL rs xs 0 q0 = (allI rs (walkL xs 0 q0)).filter (innF (allI rs (walkL xs 0 q0)))) : innT rs (.mk n v xs) q0 = (allI rs (walkT (.mk n v xs) q0)).filter (innF (allI rs (walkT (.mk n v xs) q0))) := by
  have h3 := innL_nilI rs xs 0 q0
  rw [allT_eq]
  simp only [Term.mk_args]
  obtain ⟨D, hD⟩ : ∃ D, D = allI rs (walkL xs 0 q0) := ⟨_, rfl⟩
  have hmem : ∀ s, s ∈ D → ∃ k : Nat, ∃ q, s.2 = q0 ++ ((0 : Int) + (k : Int)) :: q := fun s hs => allL_mem (by rw [hD] at hs; exact hs)
  rw [← hD] at h1 h3 ⊢
  rw [filter_split _ (fun _ => decide (D = [])) (innF D) _ _ (fun s hs => ?_) (fun s hs => ?_)]
  · by_cases hn : D = []
    · rw [innT_y (h3.2 hn), hn, filter_each (fun _ _ => by simp)]; simp
    · rw [innT_n (fun e => hn (h3.1 e)), h1]
      simp [hn]
  · rw [innF_app]
    have e1 : innF (atV rs q0 (.mk n v xs)) s = true := innF_true fun s' hs' => by
      rw [atV_pos hs', atV_pos hs]; exact self_apart
    rw [e1, Bool.true_and]
    cases hq : D with
    | nil => simp [innF]
    | cons d l =>
      obtain ⟨k, q, hk⟩ := hmem d (by rw [hq]; simp)
      have : belowP d.2 s.2 = true := (below_iff _ _).2 ⟨_, q, by rw [hk, atV_pos hs]⟩
      simp [innF, this]
  · rw [innF_app]
    have e1 : innF (atV rs q0 (.mk n v xs)) s = true := innF_true fun s' hs' => by
      obtain ⟨k, q, hk⟩ := hmem s hs
      rw [atV_pos hs', hk]; exact long_apart
    rw [e1, Bool.true_and]
theorem innL_eq (rs : List (Term × Term)) : ∀ (xs : List Term) (i : Int) (p : List Int), innL rs xs i p = (allI rs (walkL xs i p)).filter (innF (allI rs (walkL xs i p)))
  | [], i, p => by simp [innL_nil, walkL, allI]
  | .mk n v xs :: r, i, p => by
    have h1 := innL_eq rs xs 0 (p ++ [i])
    have h2 := innL_eq rs r (i + 1) p
    have h3 := innL_nilI rs xs 0 (p ++ [i])
    rw [innL_cons, allL_cons, h2]
    rw [filter_split _ (innF (allI rs (walkT (.mk n v xs) (p ++ [i])))) (innF (allI rs (walkL r (i + 1) p))) _ _ (fun s hs => ?_) (fun s hs => ?_)]
    · congr 1
      exact innT_of h1
    · rw [innF_app]
      have e1 : innF (allI rs (walkL r (i + 1) p)) s = true := innF_true fun s' hs' => by
        obtain ⟨q, hq⟩ := allT_mem hs
        obtain ⟨k, q', hq'⟩ := allL_mem hs'
        rw [hq, hq']; exact apart1
      rw [e1, Bool.and_true]
    · rw [innF_app]
      have e1 : innF (allI rs (walkT (.mk n v xs) (p ++ [i]))) s = true := innF_true fun s' hs' => by
        obtain ⟨q, hq⟩ := allT_mem hs'
        obtain ⟨k, q', hq'⟩ := allL_mem hs
        rw [hq, hq']; exact apart2
      rw [e1, Bool.true_and]
theorem outT_of {rs : List (Term × Term)} {n : List UInt8} {v : Bool} {xs : List Term} {q0 : List Int} (h1 : outL rs xs 0 q0 = (allI rs (walkL xs 0 q0)).filter (outF (allI rs (walkL xs 0 q0)))) : outT rs (.mk n v xs) q0 = (allI rs (walkT (.mk n v xs) q0)).filter (outF (allI rs (walkT (.mk n v xs) q0))) := by
  rw [allT_eq]
  simp only [Term.mk_args]
  obtain ⟨D, hD⟩ : ∃ D, D = allI rs (walkL xs 0 q0) := ⟨_, rfl⟩
  have hmem : ∀ s, s ∈ D → ∃ k : Nat, ∃ q, s.2 = q0 ++ ((0 : Int) + (k : Int)) :: q := fun s hs => allL_mem (by rw [hD] at hs; exact hs)
  rw [← hD] at h1 ⊢
  rw [filter_split _ (fun _ => true) (fun s => decide (atV rs q0 (.mk n v xs) = []) && outF D s) _ _ (fun s hs => ?_) (fun s hs => ?_)]
  · by_cases hn : atV rs q0 (.mk n v xs) = []
    · rw [outT_y hn, h1, hn]; simp
    · rw [outT_n hn, filter_each (fun _ _ => rfl), filter_none (fun s _ => by rw [decide_eq_false hn]; rfl), List.append_nil]
  · refine outF_true fun s' hs' => ?_
    rw [atV_pos hs]
    rw [List.mem_append] at hs'
    rcases hs' with hs' | hs'
    · rw [atV_pos hs']; exact self_apart
    · obtain ⟨k, q, hk⟩ := hmem s' hs'
      rw [hk]; exact long_apart
  · rw [outF_app]
    congr 1
    obtain ⟨k, q, hk⟩ := hmem s hs
    cases hq : atV rs q0 (.mk n v xs) with
    | nil => simp [outF]
    | cons d l =>
      have hd : d.2 = q0 := atV_pos (by rw [hq]; simp)
      have : belowP s.2 d.2 = true := (below_iff _ _).2 ⟨_, q, by rw [hk, hd]⟩
      simp [outF, this]
theorem outL_eq (rs : List (Term × Term)) : ∀ (xs : List Term) (i : Int) (p : List Int), outL rs xs i p = (allI rs (walkL xs i p)).filter (outF (allI rs (walkL xs i p)))
  | [], i, p => by simp [outL_nil', walkL, allI]
  | .mk n v xs :: r, i, p => by
    have h1 := outL_eq rs xs 0 (p ++ [i])
    have h2 := outL_eq rs r (i + 1) p
    rw [outL_cons, allL_cons, h2]
    rw [filter_split _ (outF (allI rs (walkT (.mk n v xs) (p ++ [i])))) (outF (allI rs (walkL r (i + 1) p))) _ _ (fun s hs => ?_) (fun s hs => ?_)]
    · congr 1
      exact outT_of h1
    · rw [outF_app]
      have e1 : outF (allI rs (walkL r (i + 1) p)) s = true := outF_true fun s' hs' => by
        obtain ⟨q, hq⟩ := allT_mem hs
        obtain ⟨k, q', hq'⟩ := allL_mem hs'
        rw [hq, hq']; exact apart2
      rw [e1, Bool.and_true]
    · rw [outF_app]
      have e1 : outF (allI rs (walkT (.mk n v xs) (p ++ [i]))) s = true := outF_true fun s' hs' => by
        obtain ⟨q, hq⟩ := allT_mem hs'
        obtain ⟨k, q', hq'⟩ := allL_mem hs
        rw [hq, hq']; exact apart1
      rw [e1, Bool.true_and]
theorem inn_top (rs : List (Term × Term)) (t : Term) : innT rs t [] = (allS rs t).filter (innF (allS rs t)) := by
  cases t with
  | mk n v xs => exact innT_of (innL_eq rs xs 0 [])
theorem out_top (rs : List (Term × Term)) (t : Term) : outT rs t [] = (allS rs t).filter (outF (allS rs t)) := by
  cases t with
  | mk n v xs => exact outT_of (outL_eq rs xs 0 [])
theorem firstS_filter {β : Type} (key : β → List Int) (g : β → List (Int × List Int)) : ∀ bs : List β, (bs.map key).Nodup → (∀ b, b ∈ bs → ∀ s, s ∈ g b → s.2 = key b) → ∀ s0 r, bs.flatMap g = s0 :: r → firstS (bs.flatMap g) = (bs.flatMap g).filter fun s => decide (s.2 = s0.2)
  | [], _, _, s0, r, h => by simp at h
  | b :: bs, hn, hk, s0, r, h => by
    rw [List.map_cons, List.nodup_cons] at hn
    rw [List.flatMap_cons] at h ⊢
    cases hg : g b with
    | nil =>
      rw [hg, List.nil_append] at h
      rw [List.nil_append]
      exact firstS_filter key g bs hn.2 (fun b' hb' => hk b' (by simp [hb'])) s0 r h
    | cons s l =>
      have hkb := hk b (by simp)
      rw [hg] at h hkb
      have e0 : s = s0 := by simpa using (List.cons.inj h).1
      subst e0
      have hs : s.2 = key b := hkb s (by simp)
      have hl : ∀ x, x ∈ l → decide (x.2 = s.2) = true := fun x hx => by rw [decide_eq_true_eq, hkb x (by simp [hx]), hs]
      have hr : ∀ x, x ∈ bs.flatMap g → decide (x.2 = s.2) = false := fun x hx => by
        obtain ⟨b', hb', hx'⟩ := List.mem_flatMap.1 hx
        rw [decide_eq_false_iff_not, hk b' (by simp [hb']) x hx', hs]
        intro e
        exact hn.1 (List.mem_map.2 ⟨b', hb', e⟩)
      rw [List.cons_append, List.filter_cons, if_pos (by simp)]
      show s :: (l ++ bs.flatMap g).takeWhile _ = _
      congr 1
      rw [List.filter_append, filter_each hl, filter_none hr, List.append_nil]
      have : ∀ (a b : List (Int × List Int)), (∀ x, x ∈ a → decide (x.2 = s.2) = true) → (∀ x, x ∈ b → decide (x.2 = s.2) = false) → (a ++ b).takeWhile (fun y => decide (y.2 = s.2)) = a := by
        intro a b h1 h2
        induction a with
        | nil =>
          cases b with
          | nil => rfl
          | cons y t => simp [List.takeWhile_cons, show ¬ y.2 = s.2 by simpa using h2 y (by simp)]
        | cons y t ih => rw [List.cons_append, List.takeWhile_cons, if_pos (h1 y (by simp)), ih (fun x hx => h1 x (by simp [hx]))]
      exact this l _ hl hr
theorem walk_nodup : ∀ (xs : List Term) (i : Int) (p : List Int), ((walkL xs i p).map (·.1)).Nodup
  | [], _, _ => by simp [walkL]
  | .mk n v ys :: r, i, p => by
    have h1 := walk_nodup ys 0 (p ++ [i])
    have h2 := walk_nodup r (i + 1) p
    rw [walkL_cons, List.map_append, List.nodup_append]
    refine ⟨?_, h2, ?_⟩
    · rw [walkT, List.map_cons, List.nodup_cons, Term.mk_args]
      refine ⟨fun hm => ?_, h1⟩
      obtain ⟨x, hx, e⟩ := List.mem_map.1 hm
      obtain ⟨k, q, hq⟩ := walkL_mem hx
      rw [hq] at e
      have := congrArg List.length e
      simp at this
    · intro a ha b hb e
      obtain ⟨x, hx, rfl⟩ := List.mem_map.1 ha
      obtain ⟨y, hy, rfl⟩ := List.mem_map.1 hb
      obtain ⟨q, hq⟩ := walkT_mem hx
      obtain ⟨k, q', hq'⟩ := walkL_mem hy
      rw [hq, hq', List.append_assoc, List.append_cancel_left_eq] at e
      simp at e
      omega
theorem walkT_nodup (t : Term) : ((walkT t []).map (·.1)).Nodup := by
  cases t with
  | mk n v xs =>
    rw [walkT, List.map_cons, List.nodup_cons, Term.mk_args]
    refine ⟨fun hm => ?_, walk_nodup xs 0 []⟩
    obtain ⟨x, hx, e⟩ := List.mem_map.1 hm
    obtain ⟨k, q, hq⟩ := walkL_mem hx
    rw [hq] at e
    simp at e
theorem filter_flat {α β : Type} (f : α → Bool) (g : β → List α) (l : List β) : (l.flatMap g).filter f = l.flatMap fun b => (g b).filter f := by
  induction l with
  | nil => rfl
  | cons a r ih => rw [List.flatMap_cons, List.filter_append, ih, List.flatMap_cons]
theorem firstS_all (rs : List (Term × Term)) (t : Term) (f : Int × List Int → Bool) (s0 : Int × List Int) (r : List (Int × List Int)) (h : (allS rs t).filter f = s0 :: r) : firstS ((allS rs t).filter f) = (allS rs t).filter fun s => f s && decide (s.2 = s0.2) := by
  have e : (allS rs t).filter f = (walkT t []).flatMap fun x => (atV rs x.1 x.2).filter f := filter_flat _ _ _
  rw [e] at h ⊢
  rw [firstS_filter (fun x : List Int × Term => x.1) _ _ (walkT_nodup t) (fun b _ s hs => atV_pos (List.mem_filter.1 hs).1) s0 r h, ← e, List.filter_filter]
  exact List.filter_congr fun x _ => Bool.and_comm _ _
def keepP (l : List (Int × List Int)) (s : Int) (x : Int × List Int) : Bool := if s = 2 ∨ s = 4 then innF l x else if s = 3 ∨ s = 5 then outF l x else true
def redR (l : List (Int × List Int)) (s : Int) : List (Int × List Int) := if s = 4 ∨ s = 5 then firstS (l.filter (keepP l s)) else l.filter (keepP l s)
theorem under_eq (rs : List (Term × Term)) (t : Term) (s : Int) : underP rs t s = redR (allS rs t) s := by
  unfold underP redR
  by_cases h2 : s = 2
  · subst h2
    rw [if_pos rfl, if_neg (by omega), inn_top]
    exact List.filter_congr fun x _ => by simp [keepP]
  · by_cases h4 : s = 4
    · subst h4
      rw [if_neg (by omega), if_pos rfl, if_pos (by omega), inn_top]
      congr 1
    · by_cases h3 : s = 3
      · subst h3
        rw [if_neg (by omega), if_neg (by omega), if_pos rfl, if_neg (by omega), out_top]
        exact List.filter_congr fun x _ => by simp [keepP]
      · by_cases h5 : s = 5
        · subst h5
          rw [if_neg (by omega), if_neg (by omega), if_neg (by omega), if_pos rfl, if_pos (by omega), out_top]
          congr 1
        · rw [if_neg h2, if_neg h4, if_neg h3, if_neg h5, if_neg (by omega)]
          exact (filter_each fun x _ => by simp [keepP, h2, h3, h4, h5]).symm
end Ab
set_option maxRecDepth 10000
namespace Ab
open Go Go.Proofs
def bothP (rs : List (Term × Term)) (t : Term) : Int := if sysP rs ≠ 0 then sysP rs else checkP t
theorem both_ac (rs : List (Term × Term)) (hlen : rs.length < 1099511627776) (hb : BndR rs) (t : Term) (ht : t.bulk ≤ 1099511627775) (H : List AObj) : ACall Tryz.prog 75 [.sl .none (encL encRu rs), encT t] H (fun r H' => r = .int .i64 (bothP rs t) ∧ H' = H) := by
  refine ACall_V (H.length) 11 [.tmp 4] Tryz.func75 rfl rfl rfl ?_
  simp only [push_cast, Nat.reduceAdd, Nat.reduceSub, Nat.reduceMul, Nat.reduceLT, Nat.reduceLeDiff, Nat.reduceEqDiff, Int.reduceToNat, ↓reduceIte]
  refine (checkSystem_ac rs hlen hb _).to ?_
  simp only [push_cast, Nat.reduceAdd, Nat.reduceSub, Nat.reduceMul, Nat.reduceLT, Nat.reduceLeDiff, Nat.reduceEqDiff, Int.reduceToNat, ↓reduceIte]
  refine cI (fun h => ?_) (fun h => ?_)
  · refine (check_ac t ht _).to ?_
    simp only [push_cast, Nat.reduceAdd, Nat.reduceSub, Nat.reduceMul, Nat.reduceLT, Nat.reduceLeDiff, Nat.reduceEqDiff, Int.reduceToNat, ↓reduceIte, bothP, h]
    simp
  · simp only [push_cast, Nat.reduceAdd, Nat.reduceSub, Nat.reduceMul, Nat.reduceLT, Nat.reduceLeDiff, Nat.reduceEqDiff, Int.reduceToNat, ↓reduceIte, bothP, h]
    simp [h]
theorem step_len {rs : List (Term × Term)} {t : Term} {s : Int × List Int} (h : s ∈ allS rs t) : s.2.length < t.size := by
  obtain ⟨x, hx, e, _⟩ := allI_mem h
  have := walk_pos_len t [] x hx
  rw [e]; simpa using this
end Ab
set_option maxRecDepth 10000
namespace Ab
open Go Go.Proofs
def allJ (rs : List (Term × Term)) (items : List (List Int × Term)) : List (Int × List Int) := items.flatMap fun x => atF rs 0 x.1 x.2
theorem allJ_take (rs : List (Term × Term)) (items : List (List Int × Term)) (i : Nat) (h : i < items.length) : allJ rs (items.take (i + 1)) = allJ rs (items.take i) ++ atF rs 0 items[i].1 items[i].2 := by
  rw [List.take_succ_eq_append_getElem h]
  unfold allJ
  rw [List.flatMap_append, List.flatMap_cons, List.flatMap_nil, List.append_nil]
theorem allJ_nil (rs : List (Term × Term)) : allJ rs [] = [] := (rfl)
theorem allJ_len (rs : List (Term × Term)) : ∀ items : List (List Int × Term), (allJ rs items).length ≤ items.length * rs.length
  | [] => by simp [allJ]
  | x :: l => by
    have h1 := allJ_len rs l
    have h2 := atF_len rs 0 x.1 x.2
    have e : allJ rs (x :: l) = atF rs 0 x.1 x.2 ++ allJ rs l := by simp [allJ]
    rw [e, List.length_append, List.length_cons, Nat.add_mul]
    omega
theorem atF_var : ∀ (rs : List (Term × Term)) (k : Nat) (p : List Int) (s : Term), (∀ r, r ∈ rs → r.1.var = false) → s.var = true → atF rs k p s = []
  | [], _, _, _, _, _ => rfl
  | r :: rs, k, p, s, hv, hs => by
    rw [atF, atF_var rs (k + 1) p s (fun x hx => hv x (by simp [hx])) hs]
    have h0 := hv r (by simp)
    have : (matchP r.1 s []).2 = false := by
      cases hr : r.1 with
      | mk n v xs =>
        rw [hr] at h0
        have h0 : v = false := h0
        subst h0
        rw [matchP_c [] (by simp [clash, hs])]
    simp [this]
theorem allJ_eq {rs : List (Term × Term)} (hv : ∀ r, r ∈ rs → r.1.var = false) (items : List (List Int × Term)) : allJ rs items = allI rs items := by
  unfold allJ allI
  congr 1
  funext x
  unfold atV
  by_cases h : x.2.var = true
  · rw [if_pos h, atF_var rs 0 x.1 x.2 hv h]
  · rw [if_neg h]
theorem allRef_ac (rs : List (Term × Term)) (hr : SysB rs) (t : Term) (hb : t.bulk ≤ 1000000000) (H : List AObj) : ACall Tryz.prog 104 [.sl .none (encL encRu rs), encT t] H (fun r H' => r = .sl .none (encL encSt (allJ rs (walkT t []))) ∧ H' = H) := by
  have hsz := t.size_le
  obtain ⟨hr1, hr2⟩ := hr
  obtain ⟨L, hL⟩ : ∃ L, L = walkT t [] := ⟨_, rfl⟩
  have hLl : L.length = t.size := by rw [hL, walkT_length]
  have hpl : (posP t).length = L.length := by rw [posP_len, hLl]
  have hpg : ∀ i (h : i < L.length) (h' : i < (posP t).length), (posP t)[i] = L[i].1 := fun i h h' => by simp [posP, hL]
  rw [← hL]
  refine ACall_VA (H.length) 49 [.tmp 4] Tryz.func104 rfl rfl rfl ?_
  refine AW_reserve 1 ?_
  refine AW_of_W ?_
  simp only [push_cast, Nat.reduceAdd, Nat.reduceSub, Nat.reduceMul, Nat.reduceLT, Nat.reduceLeDiff, Nat.reduceEqDiff, Int.reduceToNat, ↓reduceIte]
  refine (positionsR_ac t (by omega) _).to ?_
  simp only [push_cast, Nat.reduceAdd, Nat.reduceSub, Nat.reduceMul, Nat.reduceLT, Nat.reduceLeDiff, Nat.reduceEqDiff, Int.reduceToNat, ↓reduceIte]
  refine AW_loopW (maskG 51 [0, 2, 1, 8, 0, 0]) (fun (i : Nat) => [(16, .int .i64 i), (5, gSl H.length (encL encSt (allJ rs (L.take i))))]) (fun i => H ++ [gTok 86 2 (encL encSt (allJ rs (L.take i))), .cells [.str t.name, .bool t.var, .sl .none (encTs t.args)]]) (fun i => i ≤ L.length) (fun i => L.length - i) 0 (Nat.zero_le _) (by simp only [push_cast, Nat.reduceAdd, Nat.reduceSub, Nat.reduceMul, Nat.reduceLT, Nat.reduceLeDiff, Nat.reduceEqDiff, Int.reduceToNat, ↓reduceIte, List.take_zero, allJ_nil, encL_nil]) (fun i hi => ?_)
  simp only [push_cast, Nat.reduceAdd, Nat.reduceSub, Nat.reduceMul, Nat.reduceLT, Nat.reduceLeDiff, Nat.reduceEqDiff, Int.reduceToNat, ↓reduceIte]
  refine cI (fun h => ?_) (fun h => ?_)
  · have hil : i < L.length := by omega
    have hip : i < (posP t).length := by omega
    refine ⟨hip, ?_⟩
    rw [hpg i hil hip]
    have hx : L[i] ∈ walkT t [] := by rw [← hL]; exact List.getElem_mem hil
    have hxl := walk_pos_len t [] L[i] hx
    have hxa := walk_at t L[i] hx
    have hxb := at_bulk _ _ _ hxa
    refine (atR_ac t L[i].1 (by omega) (by simp at hxl; omega) _).to ?_
    simp only [hxa]
    simp only [push_cast, Nat.reduceAdd, Nat.reduceSub, Nat.reduceMul, Nat.reduceLT, Nat.reduceLeDiff, Nat.reduceEqDiff, Int.reduceToNat, ↓reduceIte]
    obtain ⟨p, hp⟩ : ∃ p, p = L[i].1 := ⟨_, rfl⟩
    obtain ⟨s, hs⟩ : ∃ s, s = L[i].2 := ⟨_, rfl⟩
    rw [← hp, ← hs]
    rw [← hs] at hxb
    have hst := allJ_take rs L i hil
    rw [← hp, ← hs] at hst
    have hjl := allJ_len rs (L.take i)
    have hjm : (L.take i).length * rs.length ≤ 1000000000 * 64 := Nat.mul_le_mul (by rw [List.length_take]; omega) hr1
    refine AW_loopW (maskG 51 [0, 2, 1, 1, 0, 5, 0, 0, 10, 0]) (fun (j : Nat) => [(28, .int .i64 j), (5, gSl H.length (encL encSt (allJ rs (L.take i) ++ atF (rs.take j) 0 p s)))]) (fun j => H ++ [gTok 86 2 (encL encSt (allJ rs (L.take i) ++ atF (rs.take j) 0 p s)), .cells [.str t.name, .bool t.var, .sl .none (encTs t.args)], .cells [.str s.name, .bool s.var, .sl .none (encTs s.args)]]) (fun j => j ≤ rs.length) (fun j => rs.length - j) 0 (Nat.zero_le _) (by simp only [push_cast, Nat.reduceAdd, Nat.reduceSub, Nat.reduceMul, Nat.reduceLT, Nat.reduceLeDiff, Nat.reduceEqDiff, Int.reduceToNat, ↓reduceIte, List.take_zero, atF, List.append_nil]) (fun j hj => ?_)
    simp only [push_cast, Nat.reduceAdd, Nat.reduceSub, Nat.reduceMul, Nat.reduceLT, Nat.reduceLeDiff, Nat.reduceEqDiff, Int.reduceToNat, ↓reduceIte]
    refine cI (fun h2 => ?_) (fun h2 => ?_)
    · have hjr : j < rs.length := by omega
      repeat refine ⟨by omega, ?_⟩
      have hjb := hr2 _ (List.getElem_mem hjr)
      have hst2 := atF_take rs p s j hjr
      have hal := atF_len (rs.take j) 0 p s
      rw [List.length_take] at hal
      apply AW_drawE [some 32, some 33, some 34, some 35, some 36, some 37, some 38, some 31, some 39, some 40, some 11, some 12] [([], _)] [none, none, none, none, none, none, none, none, none, none, none, none] 0 [(0, [], [0]), (1, [], [10]), (2, [], [32, 0]), (3, [], [34]), (4, [], [35]), (5, [], [8]), (6, [], [36, 0]), (7, [], [38]), (8, [], [31]), (9, [], [31]), (10, [], [39]), (11, [], [40])] [_, _, _, _, _, _, _, _, _, _, _, _]
      case' hm => exact dr
      case' hn => rfl
      case' hok => rfl
      case' hlen => rfl
      case' hd => rfl
      case' h0 => rfl
      case' hstep =>
       simp only [DAllG, push_cast, Option.isSome_some, Option.isSome_none]
       repeat' apply And.intro
       all_goals (apply DOne_V; simp only [push_cast, Nat.reduceAdd, Nat.reduceSub, Nat.reduceMul, Nat.reduceLT, Nat.reduceLeDiff, Nat.reduceEqDiff, Int.reduceToNat, ↓reduceIte] <;> first | exact rfl | omega | exact ⟨rfl, rfl⟩ | exact trivial | exact ⟨by omega, rfl⟩ | exact ⟨by omega, by omega, rfl⟩ | exact ⟨by omega, rfl, rfl⟩ | exact ⟨by omega, by omega, rfl, rfl⟩ | exact ⟨by omega, trivial⟩ | exact (matchRef_ac (rs[j]'hjr).1 s hjb.1 (by omega) _).to ⟨rfl, rfl⟩)
      case' hQ => skip
      rw [(matchR_eq _ _ _).1]
      simp only [push_cast, Nat.reduceAdd, Nat.reduceSub, Nat.reduceMul, Nat.reduceLT, Nat.reduceLeDiff, Nat.reduceEqDiff, Int.reduceToNat, ↓reduceIte]
      refine cI (fun hm => ?_) (fun hm => ?_)
      · rw [if_pos hm] at hst2
        refine app1_L encSt (sz := 2) (fun _ => rfl) cellSt _ H.length (allJ rs (L.take i) ++ atF (rs.take j) 0 p s) ((j : Int), p) _ rfl rfl (by exact aget0 _ _ _) sl26 sz86 by86 zr86 rfl (by decide) (by decide) (by rw [List.length_append]; omega) ?_
        rw [List.append_assoc, ← hst2]
        simp only [push_cast, Nat.reduceAdd, Nat.reduceSub, Nat.reduceMul, Nat.reduceLT, Nat.reduceLeDiff, Nat.reduceEqDiff, Int.reduceToNat, ↓reduceIte]
        repeat' first | refine ⟨by omega, ?_⟩ | refine cI (fun _ => ?_) (fun _ => ?_)
        exact loopW_n (j + 1) (by omega) (by omega) (by simp only [push_cast, Nat.reduceAdd, Nat.reduceSub, Nat.reduceMul, Nat.reduceLT, Nat.reduceLeDiff, Nat.reduceEqDiff, Int.reduceToNat, ↓reduceIte])
      · rw [if_neg hm, List.append_nil] at hst2
        repeat' first | refine ⟨by omega, ?_⟩ | refine cI (fun _ => ?_) (fun _ => ?_)
        refine loopW_n (j + 1) (by omega) (by omega) ?_
        rw [hst2]
        simp only [push_cast, Nat.reduceAdd, Nat.reduceSub, Nat.reduceMul, Nat.reduceLT, Nat.reduceLeDiff, Nat.reduceEqDiff, Int.reduceToNat, ↓reduceIte]
    · have hjl2 : j = rs.length := by omega
      subst hjl2
      rw [List.take_length, ← hst]
      repeat' first | refine ⟨by omega, ?_⟩ | refine cI (fun _ => ?_) (fun _ => ?_)
      exact loopW_n (i + 1) (by omega) (by omega) (by simp only [push_cast, Nat.reduceAdd, Nat.reduceSub, Nat.reduceMul, Nat.reduceLT, Nat.reduceLeDiff, Nat.reduceEqDiff, Int.reduceToNat, ↓reduceIte])
  · rw [List.take_of_length_le (show L.length ≤ i by omega)]
theorem belowR_ac (p q : List Int) (h1 : p.length < 1099511627776) (h2 : q.length < 1099511627776) (H : List AObj) : ACall Tryz.prog 141 [.sl .none (encP p), .sl .none (encP q)] H (fun r H' => r = .bool (belowP p q) ∧ H' = H) := by
  refine ACall_V (H.length) 16 [.tmp 4] Tryz.func141 rfl rfl rfl ?_
  simp only [push_cast, Nat.reduceAdd, Nat.reduceSub, Nat.reduceMul, Nat.reduceLT, Nat.reduceLeDiff, Nat.reduceEqDiff, Int.reduceToNat, ↓reduceIte, encP_length]
  refine cI (fun h => ?_) (fun h => ?_)
  · have e : List.take q.length (encP p) = encP (p.take q.length) := by simp [encP, encL, List.map_take]
    repeat refine ⟨by omega, ?_⟩
    refine (samePosR_ac (p.take q.length) q (by rw [List.length_take]; omega) h2 _).to ?_
    simp only [push_cast, Nat.reduceAdd, Nat.reduceSub, Nat.reduceMul, Nat.reduceLT, Nat.reduceLeDiff, Nat.reduceEqDiff, Int.reduceToNat, ↓reduceIte]
    unfold belowP
    rw [decide_eq_true (show q.length < p.length by omega), Bool.true_and]
  · have : belowP p q = false := by unfold belowP; rw [decide_eq_false (by omega)]; rfl
    simp only [push_cast, Nat.reduceAdd, Nat.reduceSub, Nat.reduceMul, Nat.reduceLT, Nat.reduceLeDiff, Nat.reduceEqDiff, Int.reduceToNat, ↓reduceIte, this]
theorem innerR_ac (l : List (Int × List Int)) (hl : l.length < 1099511627776) (hp : ∀ x, x ∈ l → x.2.length < 1099511627776) (p : List Int) (h2 : p.length < 1099511627776) (k : Int) (H : List AObj) : ACall Tryz.prog 105 [.sl .none (encL encSt l), .sl .none (encP p)] H (fun r H' => r = .bool (innF l (k, p)) ∧ H' = H) := by
  refine ACall_V (H.length) 16 [.tmp 4] Tryz.func105 rfl rfl rfl ?_
  simp only [push_cast, Nat.reduceAdd, Nat.reduceSub, Nat.reduceMul, Nat.reduceLT, Nat.reduceLeDiff, Nat.reduceEqDiff, Int.reduceToNat, ↓reduceIte]
  refine AW_loopW (maskG 18 [1, 5, 0, 0]) (fun (i : Nat) => [(9, .int .i64 i)]) (fun _ => H) (fun i => i ≤ l.length ∧ innF (l.take i) (k, p) = true) (fun i => l.length - i) 0 ⟨Nat.zero_le _, by simp [innF]⟩ (by simp only [push_cast, Nat.reduceAdd, Nat.reduceSub, Nat.reduceMul, Nat.reduceLT, Nat.reduceLeDiff, Nat.reduceEqDiff, Int.reduceToNat, ↓reduceIte]) (fun i hi => ?_)
  simp only [push_cast, Nat.reduceAdd, Nat.reduceSub, Nat.reduceMul, Nat.reduceLT, Nat.reduceLeDiff, Nat.reduceEqDiff, Int.reduceToNat, ↓reduceIte]
  refine cI (fun h => ?_) (fun h => ?_)
  · have hil : i < l.length := by omega
    repeat refine ⟨by omega, ?_⟩
    refine (belowR_ac (l[i]'hil).2 p (hp _ (List.getElem_mem hil)) h2 _).to ?_
    simp only [push_cast, Nat.reduceAdd, Nat.reduceSub, Nat.reduceMul, Nat.reduceLT, Nat.reduceLeDiff, Nat.reduceEqDiff, Int.reduceToNat, ↓reduceIte]
    refine cI (fun hq => ?_) (fun hq => ?_)
    · have e : innF l (k, p) = false := all_get hil (by simp [hq])
      simp only [push_cast, Nat.reduceAdd, Nat.reduceSub, Nat.reduceMul, Nat.reduceLT, Nat.reduceLeDiff, Nat.reduceEqDiff, Int.reduceToNat, ↓reduceIte, e]
    · repeat' first | refine ⟨by omega, ?_⟩ | refine cI (fun _ => ?_) (fun _ => ?_)
      exact loopW_n (i + 1) ⟨by omega, all_take_true hi.2 hil (by simpa using hq)⟩ (by omega) (by simp only [push_cast, Nat.reduceAdd, Nat.reduceSub, Nat.reduceMul, Nat.reduceLT, Nat.reduceLeDiff, Nat.reduceEqDiff, Int.reduceToNat, ↓reduceIte])
  · have e := hi.2
    rw [List.take_of_length_le (by omega)] at e
    simp only [push_cast, Nat.reduceAdd, Nat.reduceSub, Nat.reduceMul, Nat.reduceLT, Nat.reduceLeDiff, Nat.reduceEqDiff, Int.reduceToNat, ↓reduceIte, e]
theorem outerR_ac (l : List (Int × List Int)) (hl : l.length < 1099511627776) (hp : ∀ x, x ∈ l → x.2.length < 1099511627776) (p : List Int) (h2 : p.length < 1099511627776) (k : Int) (H : List AObj) : ACall Tryz.prog 106 [.sl .none (encL encSt l), .sl .none (encP p)] H (fun r H' => r = .bool (outF l (k, p)) ∧ H' = H) := by
  refine ACall_V (H.length) 16 [.tmp 4] Tryz.func106 rfl rfl rfl ?_
  simp only [push_cast, Nat.reduceAdd, Nat.reduceSub, Nat.reduceMul, Nat.reduceLT, Nat.reduceLeDiff, Nat.reduceEqDiff, Int.reduceToNat, ↓reduceIte]
  refine AW_loopW (maskG 18 [1, 5, 0, 0]) (fun (i : Nat) => [(9, .int .i64 i)]) (fun _ => H) (fun i => i ≤ l.length ∧ outF (l.take i) (k, p) = true) (fun i => l.length - i) 0 ⟨Nat.zero_le _, by simp [outF]⟩ (by simp only [push_cast, Nat.reduceAdd, Nat.reduceSub, Nat.reduceMul, Nat.reduceLT, Nat.reduceLeDiff, Nat.reduceEqDiff, Int.reduceToNat, ↓reduceIte]) (fun i hi => ?_)
  simp only [push_cast, Nat.reduceAdd, Nat.reduceSub, Nat.reduceMul, Nat.reduceLT, Nat.reduceLeDiff, Nat.reduceEqDiff, Int.reduceToNat, ↓reduceIte]
  refine cI (fun h => ?_) (fun h => ?_)
  · have hil : i < l.length := by omega
    repeat refine ⟨by omega, ?_⟩
    refine (belowR_ac p (l[i]'hil).2 h2 (hp _ (List.getElem_mem hil)) _).to ?_
    simp only [push_cast, Nat.reduceAdd, Nat.reduceSub, Nat.reduceMul, Nat.reduceLT, Nat.reduceLeDiff, Nat.reduceEqDiff, Int.reduceToNat, ↓reduceIte]
    refine cI (fun hq => ?_) (fun hq => ?_)
    · have e : outF l (k, p) = false := all_get hil (by simp [hq])
      simp only [push_cast, Nat.reduceAdd, Nat.reduceSub, Nat.reduceMul, Nat.reduceLT, Nat.reduceLeDiff, Nat.reduceEqDiff, Int.reduceToNat, ↓reduceIte, e]
    · repeat' first | refine ⟨by omega, ?_⟩ | refine cI (fun _ => ?_) (fun _ => ?_)
      exact loopW_n (i + 1) ⟨by omega, all_take_true hi.2 hil (by simpa using hq)⟩ (by omega) (by simp only [push_cast, Nat.reduceAdd, Nat.reduceSub, Nat.reduceMul, Nat.reduceLT, Nat.reduceLeDiff, Nat.reduceEqDiff, Int.reduceToNat, ↓reduceIte])
  · have e := hi.2
    rw [List.take_of_length_le (by omega)] at e
    simp only [push_cast, Nat.reduceAdd, Nat.reduceSub, Nat.reduceMul, Nat.reduceLT, Nat.reduceLeDiff, Nat.reduceEqDiff, Int.reduceToNat, ↓reduceIte, e]
def redK (l : List (Int × List Int)) (s : Int) (out : List (Int × List Int)) (x : Int × List Int) : Bool := keepP l s x && (!(decide (s = 4 ∨ s = 5) && decide (0 < out.length)) || decide ((out.getD 0 (0, [])).2 = x.2))
def redG (l : List (Int × List Int)) (s : Int) (ys : List (Int × List Int)) : List (Int × List Int) := ys.foldl (fun out x => if redK l s out x then out ++ [x] else out) []
theorem redG_take (l : List (Int × List Int)) (s : Int) (ys : List (Int × List Int)) (i : Nat) (h : i < ys.length) : redG l s (ys.take (i + 1)) = if redK l s (redG l s (ys.take i)) ys[i] then redG l s (ys.take i) ++ [ys[i]] else redG l s (ys.take i) := by
  unfold redG
  rw [take_foldl]
theorem redG_len (l : List (Int × List Int)) (s : Int) : ∀ (ys : List (Int × List Int)) (out : List (Int × List Int)), (ys.foldl (fun out x => if redK l s out x then out ++ [x] else out) out).length ≤ out.length + ys.length
  | [], out => by simp
  | y :: ys, out => by
    rw [List.foldl_cons]
    have := redG_len l s ys (if redK l s out y then out ++ [y] else out)
    have h2 : (if redK l s out y then out ++ [y] else out).length ≤ out.length + 1 := by split <;> simp
    simp only [List.length_cons]; omega
theorem redG_memA (l : List (Int × List Int)) (s : Int) (x : Int × List Int) : ∀ (ys out : List (Int × List Int)), x ∈ ys.foldl (fun out x => if redK l s out x then out ++ [x] else out) out → x ∈ out ∨ x ∈ ys
  | [], out, h => .inl h
  | y :: ys, out, h => by
    rw [List.foldl_cons] at h
    rcases redG_memA l s x ys _ h with h | h
    · split at h
      · rcases List.mem_append.1 h with h | h
        · exact .inl h
        · rw [List.mem_singleton] at h; exact .inr (by simp [h])
      · exact .inl h
    · exact .inr (by simp [h])
theorem redG_mem (l : List (Int × List Int)) (s : Int) (ys : List (Int × List Int)) (x : Int × List Int) (h : x ∈ redG l s ys) : x ∈ ys := (redG_memA l s x ys [] h).resolve_left (by simp)
theorem redG_first (l : List (Int × List Int)) (s : Int) (hs : s = 4 ∨ s = 5) (a : Int × List Int) (r : List (Int × List Int)) : ∀ ys : List (Int × List Int), ys.foldl (fun out x => if redK l s out x then out ++ [x] else out) (a :: r) = (a :: r) ++ ys.filter fun x => keepP l s x && decide (x.2 = a.2)
  | [] => by simp
  | y :: ys => by
    have e : redK l s (a :: r) y = (keepP l s y && decide (y.2 = a.2)) := by
      unfold redK
      simp [hs]
      by_cases h : a.2 = y.2
      · simp [h]
      · have h' : ¬ y.2 = a.2 := fun e => h e.symm
        simp [h, h']
    rw [List.foldl_cons, e]
    cases hk : keepP l s y && decide (y.2 = a.2) with
    | true =>
      simp only [if_true, List.cons_append]
      rw [redG_first l s hs a (r ++ [y]) ys, List.filter_cons, hk]
      simp
    | false =>
      simp only [Bool.false_eq_true, if_false]
      rw [redG_first l s hs a r ys, List.filter_cons, hk]
      simp
theorem redG_none (l : List (Int × List Int)) (s : Int) (hs : ¬ (s = 4 ∨ s = 5)) : ∀ (ys out : List (Int × List Int)), ys.foldl (fun out x => if redK l s out x then out ++ [x] else out) out = out ++ ys.filter (keepP l s)
  | [], out => by simp
  | y :: ys, out => by
    have e : redK l s out y = keepP l s y := by unfold redK; simp [hs]
    rw [List.foldl_cons, e, List.filter_cons]
    cases hk : keepP l s y with
    | true => simp only [if_true]; rw [redG_none l s hs ys]; simp
    | false => simp only [Bool.false_eq_true, if_false]; rw [redG_none l s hs ys]
theorem redG_some (l : List (Int × List Int)) (s : Int) (hs : s = 4 ∨ s = 5) : ∀ ys : List (Int × List Int), redG l s ys = match ys.filter (keepP l s) with
    | [] => []
    | a :: _ => ys.filter fun x => keepP l s x && decide (x.2 = a.2)
  | [] => by simp [redG]
  | y :: ys => by
    have ih := redG_some l s hs ys
    have e : redK l s [] y = keepP l s y := by unfold redK; simp
    unfold redG at ih ⊢
    rw [List.foldl_cons, e, List.filter_cons]
    cases hk : keepP l s y with
    | true =>
      simp only [if_true]
      rw [List.nil_append, redG_first l s hs y [] ys, List.filter_cons, hk]
      simp
    | false =>
      simp only [Bool.false_eq_true, if_false]
      rw [ih]
      cases ys.filter (keepP l s) with
      | nil => rfl
      | cons a r => simp [List.filter_cons, hk]
theorem redG_eq (rs : List (Term × Term)) (t : Term) (s : Int) : redG (allS rs t) s (allS rs t) = redR (allS rs t) s := by
  unfold redR
  by_cases hs : s = 4 ∨ s = 5
  · rw [if_pos hs, redG_some _ _ hs]
    cases hf : (allS rs t).filter (keepP (allS rs t) s) with
    | nil => simp [firstS]
    | cons a r =>
      have e := (firstS_all rs t _ a r hf).symm
      rw [hf] at e
      exact e
  · rw [if_neg hs]
    have := redG_none (allS rs t) s hs (allS rs t) []
    rw [List.nil_append] at this
    exact this
set_option maxHeartbeats 4000000 in
theorem redexesR_ac (rs : List (Term × Term)) (hr : SysB rs) (t : Term) (hb : t.bulk ≤ 1000000000) (s : Int) (H : List AObj) : ACall Tryz.prog 52 [.sl .none (encL encRu rs), encT t, .int .i64 s] H (fun r H' => r = .sl .none (encL encSt (redG (allJ rs (walkT t [])) s (allJ rs (walkT t [])))) ∧ H' = H) := by
  have hsz := t.size_le
  have hall := fun H => allRef_ac rs hr t hb H
  have hlen : (allJ rs (walkT t [])).length ≤ 64 * 1000000000 := by
    have h1 := allJ_len rs (walkT t [])
    have h2 := walkT_length t []
    have h3 : (walkT t []).length * rs.length ≤ 1000000000 * 64 := Nat.mul_le_mul (by omega) hr.1
    omega
  have hpos : ∀ x, x ∈ allJ rs (walkT t []) → x.2.length < 1099511627776 := fun x hx => by
    unfold allJ at hx
    obtain ⟨y, hy, hx⟩ := List.mem_flatMap.1 hx
    have h1 := (atF_mem _ _ _ _ _ hx).1
    have h2 := walk_pos_len t [] y hy
    rw [h1]; simp at h2; omega
  obtain ⟨l, hl⟩ : ∃ l, l = allJ rs (walkT t []) := ⟨_, rfl⟩
  rw [← hl] at hall hlen hpos ⊢
  refine ACall_VA (H.length) 61 [.tmp 6] Tryz.func52 rfl rfl rfl ?_
  refine AW_reserve 1 ?_
  refine AW_of_W ?_
  simp only [push_cast, Nat.reduceAdd, Nat.reduceSub, Nat.reduceMul, Nat.reduceLT, Nat.reduceLeDiff, Nat.reduceEqDiff, Int.reduceToNat, ↓reduceIte]
  refine (hall _).to ?_
  simp only [push_cast, Nat.reduceAdd, Nat.reduceSub, Nat.reduceMul, Nat.reduceLT, Nat.reduceLeDiff, Nat.reduceEqDiff, Int.reduceToNat, ↓reduceIte]
  refine AW_loopW (maskG 64 [2, 4, 0, 6, 0, 0]) (fun (i : Nat) => [(17, .int .i64 i), (8, gSl H.length (encL encSt (redG l s (l.take i))))]) (fun i => H ++ [gTok 86 2 (encL encSt (redG l s (l.take i))), .cells [.str t.name, .bool t.var, .sl .none (encTs t.args)]]) (fun i => i ≤ l.length) (fun i => l.length - i) 0 (Nat.zero_le _) (by simp only [push_cast, Nat.reduceAdd, Nat.reduceSub, Nat.reduceMul, Nat.reduceLT, Nat.reduceLeDiff, Nat.reduceEqDiff, Int.reduceToNat, ↓reduceIte, List.take_zero, redG, List.foldl_nil, encL_nil]) (fun i hi => ?_)
  by_cases h2 : s = 2
  · subst h2
    have k3 : ((2 : Int) = 3) = False := by decide
    have k4 : ((2 : Int) = 4) = False := by decide
    have k5 : ((2 : Int) = 5) = False := by decide
    have hr2 : (redG l 2 (l.take i)).length ≤ (l.take i).length := by have := redG_len l 2 (l.take i) []; simpa [redG] using this
    rw [List.length_take] at hr2
    simp only [push_cast, Nat.reduceAdd, Nat.reduceSub, Nat.reduceMul, Nat.reduceLT, Nat.reduceLeDiff, Nat.reduceEqDiff, Int.reduceToNat, ↓reduceIte, k3, k4, k5]
    refine cI (fun h => ?_) (fun h => ?_)
    · have hil : i < l.length := by omega
      have hst := redG_take l 2 l i hil
      have hpi := hpos _ (List.getElem_mem hil)
      refine ⟨hil, ?_⟩
      refine (innerR_ac l (by omega) hpos (l[i]'hil).2 hpi (l[i]'hil).1 _).to ?_
      have ek : keepP l 2 (l[i]'hil) = innF l ((l[i]'hil).1, (l[i]'hil).2) := by simp [keepP]
      rw [← ek]
      have ekk : redK l 2 (redG l 2 (l.take i)) (l[i]'hil) = keepP l 2 (l[i]'hil) := by unfold redK; simp
      rw [ekk] at hst
      simp only [push_cast, Nat.reduceAdd, Nat.reduceSub, Nat.reduceMul, Nat.reduceLT, Nat.reduceLeDiff, Nat.reduceEqDiff, Int.reduceToNat, ↓reduceIte, k3, k4, k5]
      apply AW_drawE [some 36, some 37, some 38, some 39, some 40, some 41, some 42, some 43, some 44, some 45, some 46, some 47, some 48, some 49, some 50, some 51, some 52, some 53, some 54, some 55, some 56] [([], _)] [none, none, none, none, none, none, none, none, none, none, none, none, none, none, none, none, none, none, none, none, none] 0 [(0, [], [2]), (1, [], [36]), (2, [], [37]), (3, [], [2, 35]), (4, [], [38, 0]), (5, [], [38, 1]), (6, [], [41]), (7, [], [8, 33]), (8, [], [42, 0]), (9, [], [42, 1]), (10, [], [42, 2]), (11, [], [46]), (12, [], [8, 38]), (13, [], [47, 0]), (14, [], [47, 1]), (15, [], [47, 2]), (16, [], [10, 36]), (17, [], [47, 4]), (18, [], [47, 3, 1]), (19, [], [47, 6]), (20, [], [47, 7])] [_, _, _, _, _, _, _, _, _, _, _, _, _, _, _, _, _, _, _, _, _]
      case' hm => exact dr
      case' hn => rfl
      case' hok => rfl
      case' hlen => rfl
      case' hd => rfl
      case' h0 => rfl
      case' hstep =>
       simp only [DAllG, push_cast, Option.isSome_some, Option.isSome_none]
       repeat' apply And.intro
       all_goals (apply DOne_V; simp only [push_cast, Nat.reduceAdd, Nat.reduceSub, Nat.reduceMul, Nat.reduceLT, Nat.reduceLeDiff, Nat.reduceEqDiff, Int.reduceToNat, ↓reduceIte, k3, k4, k5] <;> first | exact rfl | omega | exact ⟨rfl, rfl⟩ | exact trivial | exact ⟨by omega, rfl⟩ | exact ⟨by omega, by omega, rfl⟩ | exact ⟨by omega, rfl, rfl⟩ | exact ⟨by omega, by omega, rfl, rfl⟩ | skip)
      case' hQ => skip
      simp only [push_cast, Nat.reduceAdd, Nat.reduceSub, Nat.reduceMul, Nat.reduceLT, Nat.reduceLeDiff, Nat.reduceEqDiff, Int.reduceToNat, ↓reduceIte, k3, k4, k5]
      refine cI (fun hk => ?_) (fun hk => ?_)
      · rw [if_pos hk] at hst
        refine app1_L encSt (sz := 2) (fun _ => rfl) cellSt _ H.length (redG l 2 (l.take i)) (l[i]'hil) _ rfl rfl (by exact aget0 _ _ _) sl26 sz86 by86 zr86 rfl (by decide) (by decide) (by omega) ?_
        rw [← hst]
        simp only [push_cast, Nat.reduceAdd, Nat.reduceSub, Nat.reduceMul, Nat.reduceLT, Nat.reduceLeDiff, Nat.reduceEqDiff, Int.reduceToNat, ↓reduceIte]
        repeat' first | refine ⟨by omega, ?_⟩ | refine cI (fun _ => ?_) (fun _ => ?_)
        exact loopW_n (i + 1) (by omega) (by omega) (by simp only [push_cast, Nat.reduceAdd, Nat.reduceSub, Nat.reduceMul, Nat.reduceLT, Nat.reduceLeDiff, Nat.reduceEqDiff, Int.reduceToNat, ↓reduceIte])
      · rw [if_neg hk] at hst
        repeat' first | refine ⟨by omega, ?_⟩ | refine cI (fun _ => ?_) (fun _ => ?_)
        refine loopW_n (i + 1) (by omega) (by omega) ?_
        rw [hst]
        simp only [push_cast, Nat.reduceAdd, Nat.reduceSub, Nat.reduceMul, Nat.reduceLT, Nat.reduceLeDiff, Nat.reduceEqDiff, Int.reduceToNat, ↓reduceIte]
    · rw [List.take_of_length_le (show l.length ≤ i by omega)]
  by_cases h3 : s = 3
  · subst h3
    have k2 : ((3 : Int) = 2) = False := by decide
    have k4 : ((3 : Int) = 4) = False := by decide
    have k5 : ((3 : Int) = 5) = False := by decide
    have hr2 : (redG l 3 (l.take i)).length ≤ (l.take i).length := by have := redG_len l 3 (l.take i) []; simpa [redG] using this
    rw [List.length_take] at hr2
    simp only [push_cast, Nat.reduceAdd, Nat.reduceSub, Nat.reduceMul, Nat.reduceLT, Nat.reduceLeDiff, Nat.reduceEqDiff, Int.reduceToNat, ↓reduceIte, k2, k4, k5]
    refine cI (fun h => ?_) (fun h => ?_)
    · have hil : i < l.length := by omega
      have hst := redG_take l 3 l i hil
      have hpi := hpos _ (List.getElem_mem hil)
      refine ⟨hil, ?_⟩
      refine (outerR_ac l (by omega) hpos (l[i]'hil).2 hpi (l[i]'hil).1 _).to ?_
      have ek : keepP l 3 (l[i]'hil) = outF l ((l[i]'hil).1, (l[i]'hil).2) := by simp [keepP]
      rw [← ek]
      have ekk : redK l 3 (redG l 3 (l.take i)) (l[i]'hil) = keepP l 3 (l[i]'hil) := by unfold redK; simp
      rw [ekk] at hst
      simp only [push_cast, Nat.reduceAdd, Nat.reduceSub, Nat.reduceMul, Nat.reduceLT, Nat.reduceLeDiff, Nat.reduceEqDiff, Int.reduceToNat, ↓reduceIte, k2, k4, k5]
      apply AW_drawE [some 36, some 37, some 38, some 39, some 40, some 41, some 42, some 43, some 44, some 45, some 46, some 47, some 48, some 49, some 50, some 51, some 52, some 53, some 54, some 55, some 56] [([], _)] [none, none, none, none, none, none, none, none, none, none, none, none, none, none, none, none, none, none, none, none, none] 0 [(0, [], [2]), (1, [], [36]), (2, [], [37]), (3, [], [2, 35]), (4, [], [38, 0]), (5, [], [38, 1]), (6, [], [41]), (7, [], [8, 33]), (8, [], [42, 0]), (9, [], [42, 1]), (10, [], [42, 2]), (11, [], [46]), (12, [], [8, 38]), (13, [], [47, 0]), (14, [], [47, 1]), (15, [], [47, 2]), (16, [], [10, 36]), (17, [], [47, 4]), (18, [], [47, 3, 1]), (19, [], [47, 6]), (20, [], [47, 7])] [_, _, _, _, _, _, _, _, _, _, _, _, _, _, _, _, _, _, _, _, _]
      case' hm => exact dr
      case' hn => rfl
      case' hok => rfl
      case' hlen => rfl
      case' hd => rfl
      case' h0 => rfl
      case' hstep =>
       simp only [DAllG, push_cast, Option.isSome_some, Option.isSome_none]
       repeat' apply And.intro
       all_goals (apply DOne_V; simp only [push_cast, Nat.reduceAdd, Nat.reduceSub, Nat.reduceMul, Nat.reduceLT, Nat.reduceLeDiff, Nat.reduceEqDiff, Int.reduceToNat, ↓reduceIte, k2, k4, k5] <;> first | exact rfl | omega | exact ⟨rfl, rfl⟩ | exact trivial | exact ⟨by omega, rfl⟩ | exact ⟨by omega, by omega, rfl⟩ | exact ⟨by omega, rfl, rfl⟩ | exact ⟨by omega, by omega, rfl, rfl⟩ | skip)
      case' hQ => skip
      simp only [push_cast, Nat.reduceAdd, Nat.reduceSub, Nat.reduceMul, Nat.reduceLT, Nat.reduceLeDiff, Nat.reduceEqDiff, Int.reduceToNat, ↓reduceIte, k2, k4, k5]
      refine cI (fun hk => ?_) (fun hk => ?_)
      · rw [if_pos hk] at hst
        refine app1_L encSt (sz := 2) (fun _ => rfl) cellSt _ H.length (redG l 3 (l.take i)) (l[i]'hil) _ rfl rfl (by exact aget0 _ _ _) sl26 sz86 by86 zr86 rfl (by decide) (by decide) (by omega) ?_
        rw [← hst]
        simp only [push_cast, Nat.reduceAdd, Nat.reduceSub, Nat.reduceMul, Nat.reduceLT, Nat.reduceLeDiff, Nat.reduceEqDiff, Int.reduceToNat, ↓reduceIte]
        repeat' first | refine ⟨by omega, ?_⟩ | refine cI (fun _ => ?_) (fun _ => ?_)
        exact loopW_n (i + 1) (by omega) (by omega) (by simp only [push_cast, Nat.reduceAdd, Nat.reduceSub, Nat.reduceMul, Nat.reduceLT, Nat.reduceLeDiff, Nat.reduceEqDiff, Int.reduceToNat, ↓reduceIte])
      · rw [if_neg hk] at hst
        repeat' first | refine ⟨by omega, ?_⟩ | refine cI (fun _ => ?_) (fun _ => ?_)
        refine loopW_n (i + 1) (by omega) (by omega) ?_
        rw [hst]
        simp only [push_cast, Nat.reduceAdd, Nat.reduceSub, Nat.reduceMul, Nat.reduceLT, Nat.reduceLeDiff, Nat.reduceEqDiff, Int.reduceToNat, ↓reduceIte]
    · rw [List.take_of_length_le (show l.length ≤ i by omega)]
  by_cases h4 : s = 4
  · subst h4
    have k2 : ((4 : Int) = 2) = False := by decide
    have k3 : ((4 : Int) = 3) = False := by decide
    have k5 : ((4 : Int) = 5) = False := by decide
    have hr2 : (redG l 4 (l.take i)).length ≤ (l.take i).length := by have := redG_len l 4 (l.take i) []; simpa [redG] using this
    rw [List.length_take] at hr2
    simp only [push_cast, Nat.reduceAdd, Nat.reduceSub, Nat.reduceMul, Nat.reduceLT, Nat.reduceLeDiff, Nat.reduceEqDiff, Int.reduceToNat, ↓reduceIte, k2, k3, k5]
    refine cI (fun h => ?_) (fun h => ?_)
    · have hil : i < l.length := by omega
      have hst := redG_take l 4 l i hil
      have hpi := hpos _ (List.getElem_mem hil)
      refine ⟨hil, ?_⟩
      refine (innerR_ac l (by omega) hpos (l[i]'hil).2 hpi (l[i]'hil).1 _).to ?_
      have ek : keepP l 4 (l[i]'hil) = innF l ((l[i]'hil).1, (l[i]'hil).2) := by simp [keepP]
      rw [← ek]
      obtain ⟨out, hout⟩ : ∃ out, out = redG l 4 (l.take i) := ⟨_, rfl⟩
      rw [← hout] at hst hr2 ⊢
      obtain ⟨tk, htk⟩ := gSl_ex H.length (encL encSt out)
      by_cases ho : 0 < out.length
      · have hd : decide ((out.length : Int) > 0) = true := by rw [decide_eq_true_eq]; omega
        have hd2 : decide ((0 : Int) < (out.length : Int)) = true := by rw [decide_eq_true_eq]; omega
        have hop : (out[0]'ho).2.length < 1099511627776 := hpos _ (redG_mem l 4 (l.take i) (out[0]'ho) (by rw [← hout]; exact List.getElem_mem ho) |> fun h => List.mem_of_mem_take h)
        simp only [push_cast, Nat.reduceAdd, Nat.reduceSub, Nat.reduceMul, Nat.reduceLT, Nat.reduceLeDiff, Nat.reduceEqDiff, Int.reduceToNat, ↓reduceIte, k2, k3, k5]
        rw [htk]
        apply AW_drawE [some 36, some 37, some 38, some 39, some 40, some 41, some 42, some 43, some 44, some 45, some 46, some 47, some 48, some 49, some 50, some 51, some 52, some 53, some 54, some 55, some 56] [([], _)] [none, none, none, none, none, none, none, none, none, none, none, none, none, none, none, none, none, none, none, none, none] 0 [(0, [], [2]), (1, [], [36]), (2, [], [37]), (3, [], [2, 35]), (4, [], [38, 0]), (5, [], [38, 1]), (6, [], [41]), (7, [], [8, 33]), (8, [], [42, 0]), (9, [], [42, 1]), (10, [], [42, 2]), (11, [], [46]), (12, [], [8, 38]), (13, [], [47, 0]), (14, [], [47, 1]), (15, [], [47, 2]), (16, [], [10, 36]), (17, [], [47, 4]), (18, [], [47, 3, 1]), (19, [], [47, 6]), (20, [], [47, 7])] [_, _, _, _, _, _, _, _, _, _, _, _, _, _, _, _, _, _, _, _, _]
        case' hm => exact dr
        case' hn => rfl
        case' hok => rfl
        case' hlen => rfl
        case' hd => rfl
        case' h0 => rfl
        case' hstep =>
         simp only [DAllG, push_cast, Option.isSome_some, Option.isSome_none]
         repeat' apply And.intro
         all_goals (apply DOne_V; simp only [push_cast, Nat.reduceAdd, Nat.reduceSub, Nat.reduceMul, Nat.reduceLT, Nat.reduceLeDiff, Nat.reduceEqDiff, Int.reduceToNat, ↓reduceIte, k2, k3, k5, hd, hd2] <;> first | exact rfl | omega | exact ⟨rfl, rfl⟩ | exact trivial | exact ⟨by omega, rfl⟩ | exact ⟨by omega, by omega, rfl⟩ | exact ⟨by omega, rfl, rfl⟩ | exact ⟨by omega, by omega, rfl, rfl⟩ | exact ⟨by omega, by omega, trivial⟩ | exact (samePosR_ac (out[0]'ho).2 (l[i]'hil).2 hop hpi _).to ⟨rfl, rfl⟩)
        case' hQ => skip
        simp only [push_cast, Nat.reduceAdd, Nat.reduceSub, Nat.reduceMul, Nat.reduceLT, Nat.reduceLeDiff, Nat.reduceEqDiff, Int.reduceToNat, ↓reduceIte, k2, k3, k5]
        have hg0 : out.getD 0 (0, []) = out[0]'ho := by rw [List.getD_eq_getElem?_getD, List.getElem?_eq_getElem ho]; rfl
        refine cI (fun hpq => ?_) (fun hpq => ?_)
        · have ekk : redK l 4 out (l[i]'hil) = keepP l 4 (l[i]'hil) := by unfold redK; rw [hg0, decide_eq_true hpq]; simp
          refine cI (fun hk => ?_) (fun hk => ?_)
          · rw [if_pos (by rw [ekk]; exact hk)] at hst
            rw [← htk]
            refine app1_L encSt (sz := 2) (fun _ => rfl) cellSt _ H.length out (l[i]'hil) _ rfl rfl (by exact aget0 _ _ _) sl26 sz86 by86 zr86 rfl (by decide) (by decide) (by omega) ?_
            rw [← hst]
            simp only [push_cast, Nat.reduceAdd, Nat.reduceSub, Nat.reduceMul, Nat.reduceLT, Nat.reduceLeDiff, Nat.reduceEqDiff, Int.reduceToNat, ↓reduceIte]
            repeat' first | refine ⟨by omega, ?_⟩ | refine cI (fun _ => ?_) (fun _ => ?_)
            exact loopW_n (i + 1) (by omega) (by omega) (by simp only [push_cast, Nat.reduceAdd, Nat.reduceSub, Nat.reduceMul, Nat.reduceLT, Nat.reduceLeDiff, Nat.reduceEqDiff, Int.reduceToNat, ↓reduceIte])
          · rw [if_neg (by rw [ekk]; exact hk)] at hst
            rw [← htk]
            repeat' first | refine ⟨by omega, ?_⟩ | refine cI (fun _ => ?_) (fun _ => ?_)
            refine loopW_n (i + 1) (by omega) (by omega) ?_
            rw [hst]
            simp only [push_cast, Nat.reduceAdd, Nat.reduceSub, Nat.reduceMul, Nat.reduceLT, Nat.reduceLeDiff, Nat.reduceEqDiff, Int.reduceToNat, ↓reduceIte]
        · have ekk : redK l 4 out (l[i]'hil) = false := by unfold redK; rw [hg0, decide_eq_false hpq, decide_eq_true ho]; simp
          rw [if_neg (by rw [ekk]; simp)] at hst
          rw [← htk]
          repeat' first | refine ⟨by omega, ?_⟩ | refine cI (fun _ => ?_) (fun _ => ?_)
          refine loopW_n (i + 1) (by omega) (by omega) ?_
          rw [hst]
          simp only [push_cast, Nat.reduceAdd, Nat.reduceSub, Nat.reduceMul, Nat.reduceLT, Nat.reduceLeDiff, Nat.reduceEqDiff, Int.reduceToNat, ↓reduceIte]
      · have hd : decide ((out.length : Int) > 0) = false := by rw [decide_eq_false_iff_not]; omega
        have hd2 : decide ((0 : Int) < (out.length : Int)) = false := by rw [decide_eq_false_iff_not]; omega
        simp only [push_cast, Nat.reduceAdd, Nat.reduceSub, Nat.reduceMul, Nat.reduceLT, Nat.reduceLeDiff, Nat.reduceEqDiff, Int.reduceToNat, ↓reduceIte, k2, k3, k5]
        rw [htk]
        apply AW_drawE [some 36, some 37, some 38, some 39, some 40, some 41, some 42, some 43, some 44, some 45, some 46, some 47, some 48, some 49, some 50, some 51, some 52, some 53, some 54, some 55, some 56] [([], _)] [none, none, none, none, none, none, none, none, none, none, none, none, none, none, none, none, none, none, none, none, none] 0 [(0, [], [2]), (1, [], [36]), (2, [], [37]), (3, [], [2, 35]), (4, [], [38, 0]), (5, [], [38, 1]), (6, [], [41]), (7, [], [8, 33]), (8, [], [42, 0]), (9, [], [42, 1]), (10, [], [42, 2]), (11, [], [46]), (12, [], [8, 38]), (13, [], [47, 0]), (14, [], [47, 1]), (15, [], [47, 2]), (16, [], [10, 36]), (17, [], [47, 4]), (18, [], [47, 3, 1]), (19, [], [47, 6]), (20, [], [47, 7])] [_, _, _, _, _, _, _, _, _, _, _, _, _, _, _, _, _, _, _, _, _]
        case' hm => exact dr
        case' hn => rfl
        case' hok => rfl
        case' hlen => rfl
        case' hd => rfl
        case' h0 => rfl
        case' hstep =>
         simp only [DAllG, push_cast, Option.isSome_some, Option.isSome_none]
         repeat' apply And.intro
         all_goals (apply DOne_V; simp only [push_cast, Nat.reduceAdd, Nat.reduceSub, Nat.reduceMul, Nat.reduceLT, Nat.reduceLeDiff, Nat.reduceEqDiff, Int.reduceToNat, ↓reduceIte, k2, k3, k5, hd, hd2] <;> first | exact rfl | omega | exact ⟨rfl, rfl⟩ | exact trivial | exact ⟨by omega, rfl⟩ | exact ⟨by omega, by omega, rfl⟩ | exact ⟨by omega, rfl, rfl⟩ | exact ⟨by omega, by omega, rfl, rfl⟩ | skip)
        case' hQ => skip
        simp only [push_cast, Nat.reduceAdd, Nat.reduceSub, Nat.reduceMul, Nat.reduceLT, Nat.reduceLeDiff, Nat.reduceEqDiff, Int.reduceToNat, ↓reduceIte, k2, k3, k5]
        have ekk : redK l 4 out (l[i]'hil) = keepP l 4 (l[i]'hil) := by unfold redK; rw [decide_eq_false ho]; simp
        refine cI (fun hk => ?_) (fun hk => ?_)
        · rw [if_pos (by rw [ekk]; exact hk)] at hst
          rw [← htk]
          refine app1_L encSt (sz := 2) (fun _ => rfl) cellSt _ H.length out (l[i]'hil) _ rfl rfl (by exact aget0 _ _ _) sl26 sz86 by86 zr86 rfl (by decide) (by decide) (by omega) ?_
          rw [← hst]
          simp only [push_cast, Nat.reduceAdd, Nat.reduceSub, Nat.reduceMul, Nat.reduceLT, Nat.reduceLeDiff, Nat.reduceEqDiff, Int.reduceToNat, ↓reduceIte]
          repeat' first | refine ⟨by omega, ?_⟩ | refine cI (fun _ => ?_) (fun _ => ?_)
          exact loopW_n (i + 1) (by omega) (by omega) (by simp only [push_cast, Nat.reduceAdd, Nat.reduceSub, Nat.reduceMul, Nat.reduceLT, Nat.reduceLeDiff, Nat.reduceEqDiff, Int.reduceToNat, ↓reduceIte])
        · rw [if_neg (by rw [ekk]; exact hk)] at hst
          rw [← htk]
          repeat' first | refine ⟨by omega, ?_⟩ | refine cI (fun _ => ?_) (fun _ => ?_)
          refine loopW_n (i + 1) (by omega) (by omega) ?_
          rw [hst]
          simp only [push_cast, Nat.reduceAdd, Nat.reduceSub, Nat.reduceMul, Nat.reduceLT, Nat.reduceLeDiff, Nat.reduceEqDiff, Int.reduceToNat, ↓reduceIte]
    · rw [List.take_of_length_le (show l.length ≤ i by omega)]
  by_cases h5 : s = 5
  · subst h5
    have k2 : ((5 : Int) = 2) = False := by decide
    have k3 : ((5 : Int) = 3) = False := by decide
    have k4 : ((5 : Int) = 4) = False := by decide
    have hr2 : (redG l 5 (l.take i)).length ≤ (l.take i).length := by have := redG_len l 5 (l.take i) []; simpa [redG] using this
    rw [List.length_take] at hr2
    simp only [push_cast, Nat.reduceAdd, Nat.reduceSub, Nat.reduceMul, Nat.reduceLT, Nat.reduceLeDiff, Nat.reduceEqDiff, Int.reduceToNat, ↓reduceIte, k2, k3, k4]
    refine cI (fun h => ?_) (fun h => ?_)
    · have hil : i < l.length := by omega
      have hst := redG_take l 5 l i hil
      have hpi := hpos _ (List.getElem_mem hil)
      refine ⟨hil, ?_⟩
      refine (outerR_ac l (by omega) hpos (l[i]'hil).2 hpi (l[i]'hil).1 _).to ?_
      have ek : keepP l 5 (l[i]'hil) = outF l ((l[i]'hil).1, (l[i]'hil).2) := by simp [keepP]
      rw [← ek]
      obtain ⟨out, hout⟩ : ∃ out, out = redG l 5 (l.take i) := ⟨_, rfl⟩
      rw [← hout] at hst hr2 ⊢
      obtain ⟨tk, htk⟩ := gSl_ex H.length (encL encSt out)
      by_cases ho : 0 < out.length
      · have hd : decide ((out.length : Int) > 0) = true := by rw [decide_eq_true_eq]; omega
        have hd2 : decide ((0 : Int) < (out.length : Int)) = true := by rw [decide_eq_true_eq]; omega
        have hop : (out[0]'ho).2.length < 1099511627776 := hpos _ (redG_mem l 5 (l.take i) (out[0]'ho) (by rw [← hout]; exact List.getElem_mem ho) |> fun h => List.mem_of_mem_take h)
        simp only [push_cast, Nat.reduceAdd, Nat.reduceSub, Nat.reduceMul, Nat.reduceLT, Nat.reduceLeDiff, Nat.reduceEqDiff, Int.reduceToNat, ↓reduceIte, k2, k3, k4]
        rw [htk]
        apply AW_drawE [some 36, some 37, some 38, some 39, some 40, some 41, some 42, some 43, some 44, some 45, some 46, some 47, some 48, some 49, some 50, some 51, some 52, some 53, some 54, some 55, some 56] [([], _)] [none, none, none, none, none, none, none, none, none, none, none, none, none, none, none, none, none, none, none, none, none] 0 [(0, [], [2]), (1, [], [36]), (2, [], [37]), (3, [], [2, 35]), (4, [], [38, 0]), (5, [], [38, 1]), (6, [], [41]), (7, [], [8, 33]), (8, [], [42, 0]), (9, [], [42, 1]), (10, [], [42, 2]), (11, [], [46]), (12, [], [8, 38]), (13, [], [47, 0]), (14, [], [47, 1]), (15, [], [47, 2]), (16, [], [10, 36]), (17, [], [47, 4]), (18, [], [47, 3, 1]), (19, [], [47, 6]), (20, [], [47, 7])] [_, _, _, _, _, _, _, _, _, _, _, _, _, _, _, _, _, _, _, _, _]
        case' hm => exact dr
        case' hn => rfl
        case' hok => rfl
        case' hlen => rfl
        case' hd => rfl
        case' h0 => rfl
        case' hstep =>
         simp only [DAllG, push_cast, Option.isSome_some, Option.isSome_none]
         repeat' apply And.intro
         all_goals (apply DOne_V; simp only [push_cast, Nat.reduceAdd, Nat.reduceSub, Nat.reduceMul, Nat.reduceLT, Nat.reduceLeDiff, Nat.reduceEqDiff, Int.reduceToNat, ↓reduceIte, k2, k3, k4, hd, hd2] <;> first | exact rfl | omega | exact ⟨rfl, rfl⟩ | exact trivial | exact ⟨by omega, rfl⟩ | exact ⟨by omega, by omega, rfl⟩ | exact ⟨by omega, rfl, rfl⟩ | exact ⟨by omega, by omega, rfl, rfl⟩ | exact ⟨by omega, by omega, trivial⟩ | exact (samePosR_ac (out[0]'ho).2 (l[i]'hil).2 hop hpi _).to ⟨rfl, rfl⟩)
        case' hQ => skip
        simp only [push_cast, Nat.reduceAdd, Nat.reduceSub, Nat.reduceMul, Nat.reduceLT, Nat.reduceLeDiff, Nat.reduceEqDiff, Int.reduceToNat, ↓reduceIte, k2, k3, k4]
        have hg0 : out.getD 0 (0, []) = out[0]'ho := by rw [List.getD_eq_getElem?_getD, List.getElem?_eq_getElem ho]; rfl
        refine cI (fun hpq => ?_) (fun hpq => ?_)
        · have ekk : redK l 5 out (l[i]'hil) = keepP l 5 (l[i]'hil) := by unfold redK; rw [hg0, decide_eq_true hpq]; simp
          refine cI (fun hk => ?_) (fun hk => ?_)
          · rw [if_pos (by rw [ekk]; exact hk)] at hst
            rw [← htk]
            refine app1_L encSt (sz := 2) (fun _ => rfl) cellSt _ H.length out (l[i]'hil) _ rfl rfl (by exact aget0 _ _ _) sl26 sz86 by86 zr86 rfl (by decide) (by decide) (by omega) ?_
            rw [← hst]
            simp only [push_cast, Nat.reduceAdd, Nat.reduceSub, Nat.reduceMul, Nat.reduceLT, Nat.reduceLeDiff, Nat.reduceEqDiff, Int.reduceToNat, ↓reduceIte]
            repeat' first | refine ⟨by omega, ?_⟩ | refine cI (fun _ => ?_) (fun _ => ?_)
            exact loopW_n (i + 1) (by omega) (by omega) (by simp only [push_cast, Nat.reduceAdd, Nat.reduceSub, Nat.reduceMul, Nat.reduceLT, Nat.reduceLeDiff, Nat.reduceEqDiff, Int.reduceToNat, ↓reduceIte])
          · rw [if_neg (by rw [ekk]; exact hk)] at hst
            rw [← htk]
            repeat' first | refine ⟨by omega, ?_⟩ | refine cI (fun _ => ?_) (fun _ => ?_)
            refine loopW_n (i + 1) (by omega) (by omega) ?_
            rw [hst]
            simp only [push_cast, Nat.reduceAdd, Nat.reduceSub, Nat.reduceMul, Nat.reduceLT, Nat.reduceLeDiff, Nat.reduceEqDiff, Int.reduceToNat, ↓reduceIte]
        · have ekk : redK l 5 out (l[i]'hil) = false := by unfold redK; rw [hg0, decide_eq_false hpq, decide_eq_true ho]; simp
          rw [if_neg (by rw [ekk]; simp)] at hst
          rw [← htk]
          repeat' first | refine ⟨by omega, ?_⟩ | refine cI (fun _ => ?_) (fun _ => ?_)
          refine loopW_n (i + 1) (by omega) (by omega) ?_
          rw [hst]
          simp only [push_cast, Nat.reduceAdd, Nat.reduceSub, Nat.reduceMul, Nat.reduceLT, Nat.reduceLeDiff, Nat.reduceEqDiff, Int.reduceToNat, ↓reduceIte]
      · have hd : decide ((out.length : Int) > 0) = false := by rw [decide_eq_false_iff_not]; omega
        have hd2 : decide ((0 : Int) < (out.length : Int)) = false := by rw [decide_eq_false_iff_not]; omega
        simp only [push_cast, Nat.reduceAdd, Nat.reduceSub, Nat.reduceMul, Nat.reduceLT, Nat.reduceLeDiff, Nat.reduceEqDiff, Int.reduceToNat, ↓reduceIte, k2, k3, k4]
        rw [htk]
        apply AW_drawE [some 36, some 37, some 38, some 39, some 40, some 41, some 42, some 43, some 44, some 45, some 46, some 47, some 48, some 49, some 50, some 51, some 52, some 53, some 54, some 55, some 56] [([], _)] [none, none, none, none, none, none, none, none, none, none, none, none, none, none, none, none, none, none, none, none, none] 0 [(0, [], [2]), (1, [], [36]), (2, [], [37]), (3, [], [2, 35]), (4, [], [38, 0]), (5, [], [38, 1]), (6, [], [41]), (7, [], [8, 33]), (8, [], [42, 0]), (9, [], [42, 1]), (10, [], [42, 2]), (11, [], [46]), (12, [], [8, 38]), (13, [], [47, 0]), (14, [], [47, 1]), (15, [], [47, 2]), (16, [], [10, 36]), (17, [], [47, 4]), (18, [], [47, 3, 1]), (19, [], [47, 6]), (20, [], [47, 7])] [_, _, _, _, _, _, _, _, _, _, _, _, _, _, _, _, _, _, _, _, _]
        case' hm => exact dr
        case' hn => rfl
        case' hok => rfl
        case' hlen => rfl
        case' hd => rfl
        case' h0 => rfl
        case' hstep =>
         simp only [DAllG, push_cast, Option.isSome_some, Option.isSome_none]
         repeat' apply And.intro
         all_goals (apply DOne_V; simp only [push_cast, Nat.reduceAdd, Nat.reduceSub, Nat.reduceMul, Nat.reduceLT, Nat.reduceLeDiff, Nat.reduceEqDiff, Int.reduceToNat, ↓reduceIte, k2, k3, k4, hd, hd2] <;> first | exact rfl | omega | exact ⟨rfl, rfl⟩ | exact trivial | exact ⟨by omega, rfl⟩ | exact ⟨by omega, by omega, rfl⟩ | exact ⟨by omega, rfl, rfl⟩ | exact ⟨by omega, by omega, rfl, rfl⟩ | skip)
        case' hQ => skip
        simp only [push_cast, Nat.reduceAdd, Nat.reduceSub, Nat.reduceMul, Nat.reduceLT, Nat.reduceLeDiff, Nat.reduceEqDiff, Int.reduceToNat, ↓reduceIte, k2, k3, k4]
        have ekk : redK l 5 out (l[i]'hil) = keepP l 5 (l[i]'hil) := by unfold redK; rw [decide_eq_false ho]; simp
        refine cI (fun hk => ?_) (fun hk => ?_)
        · rw [if_pos (by rw [ekk]; exact hk)] at hst
          rw [← htk]
          refine app1_L encSt (sz := 2) (fun _ => rfl) cellSt _ H.length out (l[i]'hil) _ rfl rfl (by exact aget0 _ _ _) sl26 sz86 by86 zr86 rfl (by decide) (by decide) (by omega) ?_
          rw [← hst]
          simp only [push_cast, Nat.reduceAdd, Nat.reduceSub, Nat.reduceMul, Nat.reduceLT, Nat.reduceLeDiff, Nat.reduceEqDiff, Int.reduceToNat, ↓reduceIte]
          repeat' first | refine ⟨by omega, ?_⟩ | refine cI (fun _ => ?_) (fun _ => ?_)
          exact loopW_n (i + 1) (by omega) (by omega) (by simp only [push_cast, Nat.reduceAdd, Nat.reduceSub, Nat.reduceMul, Nat.reduceLT, Nat.reduceLeDiff, Nat.reduceEqDiff, Int.reduceToNat, ↓reduceIte])
        · rw [if_neg (by rw [ekk]; exact hk)] at hst
          rw [← htk]
          repeat' first | refine ⟨by omega, ?_⟩ | refine cI (fun _ => ?_) (fun _ => ?_)
          refine loopW_n (i + 1) (by omega) (by omega) ?_
          rw [hst]
          simp only [push_cast, Nat.reduceAdd, Nat.reduceSub, Nat.reduceMul, Nat.reduceLT, Nat.reduceLeDiff, Nat.reduceEqDiff, Int.reduceToNat, ↓reduceIte]
    · rw [List.take_of_length_le (show l.length ≤ i by omega)]
  have k2 := eq_false h2
  have k3 := eq_false h3
  have k4 := eq_false h4
  have k5 := eq_false h5
  have hr2 : (redG l s (l.take i)).length ≤ (l.take i).length := by have := redG_len l s (l.take i) []; simpa [redG] using this
  rw [List.length_take] at hr2
  simp only [push_cast, Nat.reduceAdd, Nat.reduceSub, Nat.reduceMul, Nat.reduceLT, Nat.reduceLeDiff, Nat.reduceEqDiff, Int.reduceToNat, ↓reduceIte, k2, k3, k4, k5]
  refine cI (fun h => ?_) (fun h => ?_)
  · have hil : i < l.length := by omega
    have hst := redG_take l s l i hil
    have hpi := hpos _ (List.getElem_mem hil)
    refine ⟨hil, ?_⟩
    have ek : keepP l s (l[i]'hil) = true := by simp [keepP, h2, h3, h4, h5]
    have ekk : redK l s (redG l s (l.take i)) (l[i]'hil) = keepP l s (l[i]'hil) := by unfold redK; simp [h4, h5]
    rw [ekk] at hst
    apply AW_drawE [some 36, some 37, some 38, some 39, some 40, some 41, some 42, some 43, some 44, some 45, some 46, some 47, some 48, some 49, some 50, some 51, some 52, some 53, some 54, some 55, some 56] [([], _)] [none, none, none, none, none, none, none, none, none, none, none, none, none, none, none, none, none, none, none, none, none] 0 [(0, [], [2]), (1, [], [36]), (2, [], [37]), (3, [], [2, 35]), (4, [], [38, 0]), (5, [], [38, 1]), (6, [], [41]), (7, [], [8, 33]), (8, [], [42, 0]), (9, [], [42, 1]), (10, [], [42, 2]), (11, [], [46]), (12, [], [8, 38]), (13, [], [47, 0]), (14, [], [47, 1]), (15, [], [47, 2]), (16, [], [10, 36]), (17, [], [47, 4]), (18, [], [47, 3, 1]), (19, [], [47, 6]), (20, [], [47, 7])] [_, _, _, _, _, _, _, _, _, _, _, _, _, _, _, _, _, _, _, _, _]
    case' hm => exact dr
    case' hn => rfl
    case' hok => rfl
    case' hlen => rfl
    case' hd => rfl
    case' h0 => rfl
    case' hstep =>
     simp only [DAllG, push_cast, Option.isSome_some, Option.isSome_none]
     repeat' apply And.intro
     all_goals (apply DOne_V; simp only [push_cast, Nat.reduceAdd, Nat.reduceSub, Nat.reduceMul, Nat.reduceLT, Nat.reduceLeDiff, Nat.reduceEqDiff, Int.reduceToNat, ↓reduceIte, k2, k3, k4, k5] <;> first | exact rfl | omega | exact ⟨rfl, rfl⟩ | exact trivial | exact ⟨by omega, rfl⟩ | exact ⟨by omega, by omega, rfl⟩ | exact ⟨by omega, rfl, rfl⟩ | exact ⟨by omega, by omega, rfl, rfl⟩ | skip)
    case' hQ => skip
    simp only [push_cast, Nat.reduceAdd, Nat.reduceSub, Nat.reduceMul, Nat.reduceLT, Nat.reduceLeDiff, Nat.reduceEqDiff, Int.reduceToNat, ↓reduceIte, k2, k3, k4, k5]
    rw [if_pos ek] at hst
    refine app1_L encSt (sz := 2) (fun _ => rfl) cellSt _ H.length (redG l s (l.take i)) (l[i]'hil) _ rfl rfl (by exact aget0 _ _ _) sl26 sz86 by86 zr86 rfl (by decide) (by decide) (by omega) ?_
    rw [← hst]
    simp only [push_cast, Nat.reduceAdd, Nat.reduceSub, Nat.reduceMul, Nat.reduceLT, Nat.reduceLeDiff, Nat.reduceEqDiff, Int.reduceToNat, ↓reduceIte]
    repeat' first | refine ⟨by omega, ?_⟩ | refine cI (fun _ => ?_) (fun _ => ?_)
    exact loopW_n (i + 1) (by omega) (by omega) (by simp only [push_cast, Nat.reduceAdd, Nat.reduceSub, Nat.reduceMul, Nat.reduceLT, Nat.reduceLeDiff, Nat.reduceEqDiff, Int.reduceToNat, ↓reduceIte])
  · rw [List.take_of_length_le (show l.length ≤ i by omega)]
end Ab
set_option maxRecDepth 10000
namespace Ab
open Go Go.Proofs
theorem replace_ac (σ : List (List UInt8 × Term)) (hs : SortedN (σ.map (·.1))) (hlen : σ.length < 1099511627776) (hbk : ∀ b, b ∈ σ → b.2.bulk ≤ 1099511627775) (t : Term) : t.bulk ≤ 1099511627775 → ∀ H, ACall Tryz.prog 116 [.sl .none (encL encBd σ), encT t] H (fun r H' => r = encT (applyP σ t) ∧ H' = H) := by
  induction t using Term.ind with | _ n u xs ih
  intro hb H
  have hl := Term.len_le (n := n) (v := u) (xs := xs)
  cases u with
  | true =>
    rw [applyP_t, image_look]
    refine ACall_V (H.length) 43 [.cell 4 25] Tryz.func116 rfl rfl rfl ?_
    simp only [push_cast, Nat.reduceAdd, Nat.reduceSub, Nat.reduceMul, Nat.reduceLT, Nat.reduceLeDiff, Nat.reduceEqDiff, Int.reduceToNat, ↓reduceIte]
    refine (imageT_ac σ hs n hlen _).to ?_
    rcases look_cases (σ := σ) n with ⟨b, hbm, _, e⟩ | e
    · have hbb := hbk b hbm
      simp only [push_cast, Nat.reduceAdd, Nat.reduceSub, Nat.reduceMul, Nat.reduceLT, Nat.reduceLeDiff, Nat.reduceEqDiff, Int.reduceToNat, ↓reduceIte, e, Option.isSome_some, Option.getD_some]
      refine (own_ac b.2 (by omega) _).to ?_
      simp only [push_cast, Nat.reduceAdd, Nat.reduceSub, Nat.reduceMul, Nat.reduceLT, Nat.reduceLeDiff, Nat.reduceEqDiff, Int.reduceToNat, ↓reduceIte]
    · simp only [push_cast, Nat.reduceAdd, Nat.reduceSub, Nat.reduceMul, Nat.reduceLT, Nat.reduceLeDiff, Nat.reduceEqDiff, Int.reduceToNat, ↓reduceIte, e, Option.isSome_none, Option.getD_none]
  | false =>
    rw [applyP_f]
    refine ACall_V (H.length) 43 [.cell 4 25] Tryz.func116 rfl rfl rfl ?_
    simp only [push_cast, Nat.reduceAdd, Nat.reduceSub, Nat.reduceMul, Nat.reduceLT, Nat.reduceLeDiff, Nat.reduceEqDiff, Int.reduceToNat, ↓reduceIte]
    refine AW_reserve 1 ?_
    refine AW_loopW (maskG 45 [0, 3, 2, 21, 0, 0]) (fun (i : Nat) => [(31, .int .i64 i)]) (fun i => H ++ [.cells [.str n, .bool false, .sl .none (encTs xs)], .cells [.str [], .bool false, .sl .zero []], .cells [.str n, .bool false, gSl (H.length + 3) (encTs (appL σ (xs.take i)))], gTok 25 3 (encTs (appL σ (xs.take i)))]) (fun i => i ≤ xs.length) (fun i => xs.length - i) 0 (Nat.zero_le _) (by simp only [push_cast, Nat.reduceAdd, Nat.reduceSub, Nat.reduceMul, Nat.reduceLT, Nat.reduceLeDiff, Nat.reduceEqDiff, Int.reduceToNat, ↓reduceIte, List.take_zero, appL_nil]) (fun i hi => ?_)
    simp only [push_cast, Nat.reduceAdd, Nat.reduceSub, Nat.reduceMul, Nat.reduceLT, Nat.reduceLeDiff, Nat.reduceEqDiff, Int.reduceToNat, ↓reduceIte]
    refine cI (fun h => ?_) (fun h => ?_)
    · have hil : i < xs.length := by omega
      repeat refine ⟨by omega, ?_⟩
      have hal := appL_len σ (xs.take i)
      rw [List.length_take] at hal
      apply AW_drawE [some 35, some 36, some 37, some 38, some 39, some 40, some 41, some 42, none] [([false, false], _), ([true, false], _), ([true, true], _)] [none, none, none, none, none, none, some 0, none, some 1] 2 [(0, [false, false], [7]), (1, [false, false], [35]), (2, [false, false], [0]), (3, [false, false], [9]), (4, [false, false], [37, 0]), (5, [false, false], [39]), (6, [false, false], [36, 3]), (7, [true, false], [7]), (8, [true, false], [41, 0]), (0, [true, false], [7]), (2, [true, false], [0]), (3, [true, false], [9])] [_, _, _, _, _, _, _, _, _]
      case' hm => exact dr
      case' hn => rfl
      case' hok => rfl
      case' hlen => rfl
      case' hd => rfl
      case' h0 => rfl
      case' hstep =>
       simp only [DAllG, push_cast, Option.isSome_some, Option.isSome_none]
       repeat' apply And.intro
       all_goals (apply DOne_V; simp only [push_cast, Nat.reduceAdd, Nat.reduceSub, Nat.reduceMul, Nat.reduceLT, Nat.reduceLeDiff, Nat.reduceEqDiff, Int.reduceToNat, ↓reduceIte] <;> first | exact rfl | omega | exact ⟨rfl, rfl⟩ | exact trivial | exact ⟨by omega, rfl⟩ | exact ⟨by omega, by omega, rfl⟩ | exact ⟨by omega, rfl, rfl⟩ | exact ⟨by omega, by omega, rfl, rfl⟩ | exact (ih _ (List.getElem_mem hil) (arg_bulk hb i hil) _).to ⟨rfl, rfl⟩ | (refine app1_T _ (H.length + 3) (appL σ (xs.take i)) (applyP σ (xs[i]'hil)) _ rfl rfl (by exact (agetN _ _ 3).trans rfl) sl23 sz25 by25 zr25 rfl (by decide) (by omega) ?_; simp only [push_cast, Nat.reduceAdd, Nat.reduceSub, Nat.reduceMul, Nat.reduceLT, Nat.reduceLeDiff, Nat.reduceEqDiff, Int.reduceToNat, ↓reduceIte]; exact ⟨rfl, rfl⟩))
      case' hQ => skip
      simp only [push_cast, Nat.reduceAdd, Nat.reduceSub, Nat.reduceMul, Nat.reduceLT, Nat.reduceLeDiff, Nat.reduceEqDiff, Int.reduceToNat, ↓reduceIte, ← appL_take σ xs i hil]
      repeat' first | refine ⟨by omega, ?_⟩ | refine cI (fun _ => ?_) (fun _ => ?_)
      exact loopW_n (i + 1) (by omega) (by omega) (by simp only [push_cast, Nat.reduceAdd, Nat.reduceSub, Nat.reduceMul, Nat.reduceLT, Nat.reduceLeDiff, Nat.reduceEqDiff, Int.reduceToNat, ↓reduceIte])
    · simp only [push_cast, Nat.reduceAdd, Nat.reduceSub, Nat.reduceMul, Nat.reduceLT, Nat.reduceLeDiff, Nat.reduceEqDiff, Int.reduceToNat, ↓reduceIte, List.take_of_length_le (show xs.length ≤ i by omega)]
def instE (σ : List (List UInt8 × Term)) (t : Term) : Term × Int := if fitsP (applyP σ t) then (applyP σ t, 0) else (.mk [] false [], 3)
theorem instance_ac (σ : List (List UInt8 × Term)) (hs : SortedN (σ.map (·.1))) (hlen : σ.length < 1099511627776) (hbk : ∀ b, b ∈ σ → b.2.bulk ≤ 1099511627775) (t : Term) (hb : t.bulk ≤ 1099511627775) (hb2 : (applyP σ t).size ≤ 1099511627775) (H : List AObj) : ACall Tryz.prog 67 [.sl .none (encL encBd σ), encT t] H (fun r H' => r = encRE (instE σ t) ∧ H' = H) := by
  have hd := (applyP σ t).depth_le
  refine ACall_V (H.length) 20 [.cell 4 25, .tmp 5] Tryz.func67 rfl rfl rfl ?_
  simp only [push_cast, Nat.reduceAdd, Nat.reduceSub, Nat.reduceMul, Nat.reduceLT, Nat.reduceLeDiff, Nat.reduceEqDiff, Int.reduceToNat, ↓reduceIte]
  refine (measure_ac σ hs hlen hbk t hb hb2 _).to ?_
  simp only [push_cast, Nat.reduceAdd, Nat.reduceSub, Nat.reduceMul, Nat.reduceLT, Nat.reduceLeDiff, Nat.reduceEqDiff, Int.reduceToNat, ↓reduceIte]
  refine cI (fun h => ?_) (fun h => ?_)
  · have h1 : ¬ (applyP σ t).size ≤ 4000 := by omega
    have e : instE σ t = (.mk [] false [], 3) := by simp [instE, fitsP, h1]
    simp only [push_cast, Nat.reduceAdd, Nat.reduceSub, Nat.reduceMul, Nat.reduceLT, Nat.reduceLeDiff, Nat.reduceEqDiff, Int.reduceToNat, ↓reduceIte, e]
  · have h1 : (applyP σ t).size ≤ 4000 := by omega
    refine cI (fun h2 => ?_) (fun h2 => ?_)
    · have h3 : ¬ (applyP σ t).depth ≤ 200 := by omega
      have e : instE σ t = (.mk [] false [], 3) := by simp [instE, fitsP, h3]
      simp only [push_cast, Nat.reduceAdd, Nat.reduceSub, Nat.reduceMul, Nat.reduceLT, Nat.reduceLeDiff, Nat.reduceEqDiff, Int.reduceToNat, ↓reduceIte, e]
    · have h3 : (applyP σ t).depth ≤ 200 := by omega
      have e : instE σ t = (applyP σ t, 0) := by simp [instE, fitsP, h1, h3]
      refine (replace_ac σ hs hlen hbk t hb _).to ?_
      simp only [push_cast, Nat.reduceAdd, Nat.reduceSub, Nat.reduceMul, Nat.reduceLT, Nat.reduceLeDiff, Nat.reduceEqDiff, Int.reduceToNat, ↓reduceIte, e]
theorem grownR_ac (σ : List (List UInt8 × Term)) (hlen : σ.length < 1099511627776) (hbk : ∀ b, b ∈ σ → b.2.bulk ≤ 1099511627775) (t : Term) : t.bulk ≤ 1099511627775 → (applyP σ t).size ≤ 1099511627775 → ∀ H, ACall Tryz.prog 102 [.sl .none (encL encBd σ), encT t] H (fun r H' => r = .tup [.int .i64 (applyP σ t).size, .int .i64 (applyP σ t).depth] ∧ H' = H) := by
  induction t using Term.ind with | _ n u xs ih
  intro hb hb2 H
  have hl := Term.len_le (n := n) (v := u) (xs := xs)
  have hnl := Term.name_le (n := n) (v := u) (xs := xs)
  cases u with
  | true =>
    rw [applyP_t]
    have hib := image_bulk σ 1099511627775 hbk n (by omega)
    refine ACall_V (H.length) 44 [.tmp 4, .tmp 5] Tryz.func102 rfl rfl rfl ?_
    simp only [push_cast, Nat.reduceAdd, Nat.reduceSub, Nat.reduceMul, Nat.reduceLT, Nat.reduceLeDiff, Nat.reduceEqDiff, Int.reduceToNat, ↓reduceIte]
    refine (imageR_ac σ n hlen _).to ?_
    simp only [push_cast, Nat.reduceAdd, Nat.reduceSub, Nat.reduceMul, Nat.reduceLT, Nat.reduceLeDiff, Nat.reduceEqDiff, Int.reduceToNat, ↓reduceIte]
    apply AW_drawE [some 19, some 20, some 21, some 22, some 4, some 5] [([], _)] [none, none, none, none, none, none] 0 [(0, [], [6]), (1, [], [19]), (2, [], [6]), (3, [], [21]), (4, [], [20]), (5, [], [22])] [_, _, _, _, _, _]
    case' hm => exact dr
    case' hn => rfl
    case' hok => rfl
    case' hlen => rfl
    case' hd => rfl
    case' h0 => rfl
    case' hstep =>
     simp only [DAllG, push_cast, Option.isSome_some, Option.isSome_none]
     repeat' apply And.intro
     all_goals (apply DOne_V; simp only [push_cast, Nat.reduceAdd, Nat.reduceSub, Nat.reduceMul, Nat.reduceLT, Nat.reduceLeDiff, Nat.reduceEqDiff, Int.reduceToNat, ↓reduceIte] <;> first | exact rfl | omega | exact ⟨rfl, rfl⟩ | exact trivial | exact ⟨by omega, rfl⟩ | exact ⟨by omega, by omega, rfl⟩ | exact ⟨by omega, rfl, rfl⟩ | exact ⟨by omega, by omega, rfl, rfl⟩ | exact (sizeR_ac (imageP σ n) (by omega) _).to ⟨rfl, rfl⟩ | exact (depthR_ac (imageP σ n) (by omega) _).to ⟨rfl, rfl⟩)
    case' hQ => skip
    simp only [push_cast, Nat.reduceAdd, Nat.reduceSub, Nat.reduceMul, Nat.reduceLT, Nat.reduceLeDiff, Nat.reduceEqDiff, Int.reduceToNat, ↓reduceIte]
  | false =>
    rw [applyP_f] at hb2 ⊢
    have hdp := (Term.mk n false (appL σ xs)).depth_le
    rw [Term.size_mk] at hb2 hdp ⊢
    rw [Term.depth_mk] at hdp ⊢
    refine ACall_V (H.length) 44 [.tmp 4, .tmp 5] Tryz.func102 rfl rfl rfl ?_
    simp only [push_cast, Nat.reduceAdd, Nat.reduceSub, Nat.reduceMul, Nat.reduceLT, Nat.reduceLeDiff, Nat.reduceEqDiff, Int.reduceToNat, ↓reduceIte]
    refine AW_loopW (maskG 46 [0, 6, 0, 15, 0, 0]) (fun (i : Nat) => [(26, .int .i64 i), (7, .int .i64 (1 + ((appL σ (xs.take i)).map Term.size).sum : Nat)), (8, .int .i64 (((appL σ (xs.take i)).map Term.depth).foldl max 0 : Nat))]) (fun i => H ++ [.cells [.str n, .bool false, .sl .none (encTs xs)]]) (fun i => i ≤ xs.length) (fun i => xs.length - i) 0 (Nat.zero_le _) (by simp only [push_cast, Nat.reduceAdd, Nat.reduceSub, Nat.reduceMul, Nat.reduceLT, Nat.reduceLeDiff, Nat.reduceEqDiff, Int.reduceToNat, ↓reduceIte, List.take_zero, appL_nil]; simp) (fun i hi => ?_)
    simp only [push_cast, Nat.reduceAdd, Nat.reduceSub, Nat.reduceMul, Nat.reduceLT, Nat.reduceLeDiff, Nat.reduceEqDiff, Int.reduceToNat, ↓reduceIte]
    refine cI (fun h => ?_) (fun h => ?_)
    · have hil : i < xs.length := by omega
      repeat refine ⟨by omega, ?_⟩
      obtain ⟨hq1, hq2⟩ := sizes_take σ xs i hil
      obtain ⟨hw1, hw2⟩ := sizes_le σ xs (i + 1)
      obtain ⟨hw3, hw4⟩ := sizes_le σ xs i
      refine (ih _ (List.getElem_mem hil) (arg_bulk hb i hil) (by omega) _).to ?_
      simp only [push_cast, Nat.reduceAdd, Nat.reduceSub, Nat.reduceMul, Nat.reduceLT, Nat.reduceLeDiff, Nat.reduceEqDiff, Int.reduceToNat, ↓reduceIte]
      repeat' first | refine ⟨by omega, ?_⟩ | refine cI (fun _ => ?_) (fun _ => ?_)
      exact loopW_n (i + 1) (by omega) (by omega) (by simp only [push_cast, Nat.reduceAdd, Nat.reduceSub, Nat.reduceMul, Nat.reduceLT, Nat.reduceLeDiff, Nat.reduceEqDiff, Int.reduceToNat, ↓reduceIte, hq1, hq2]; omega)
    · obtain ⟨hw3, hw4⟩ := sizes_le σ xs xs.length
      rw [List.take_of_length_le (Nat.le_refl _)] at hw3 hw4
      simp only [push_cast, Nat.reduceAdd, Nat.reduceSub, Nat.reduceMul, Nat.reduceLT, Nat.reduceLeDiff, Nat.reduceEqDiff, Int.reduceToNat, ↓reduceIte, List.take_of_length_le (show xs.length ≤ i by omega)]
      omega
end Ab
set_option maxRecDepth 10000
namespace Ab
open Go Go.Proofs
def ruleN (rs : List (Term × Term)) (i : Int) : Term × Term := rs.getD i.toNat (zeroT, zeroT)
theorem ruleN_get {rs : List (Term × Term)} {i : Int} (h : i.toNat < rs.length) : ruleN rs i = rs[i.toNat] := by unfold ruleN; rw [List.getD_eq_getElem?_getD, List.getElem?_eq_getElem h]; rfl
def findE (rs : List (Term × Term)) (t : Term) (s : Int × List Int) : List (List UInt8 × Term) × Int :=
  if 0 ≤ s.1 ∧ s.1.toNat < rs.length then (match atP t s.2 with
    | some x => if (matchP (ruleN rs s.1).1 x []).2 then ((matchP (ruleN rs s.1).1 x []).1, 0) else ([], 9)
    | none => ([], 8)) else ([], 8)
def encFE (q : List (List UInt8 × Term) × Int) : AV := .tup [.sl .none (encL encBd q.1), .int .i64 q.2]
theorem stepFind_ac (rs : List (Term × Term)) (hr : SysB rs) (t : Term) (hb : t.bulk ≤ 1099511627775) (s : Int × List Int) (hs : s.2.length < 1099511627776) (H : List AObj) :
    ACall Tryz.prog 135 [.sl .none (encL encRu rs), encT t, encSt s] H (fun r H' => r = encFE (findE rs t s) ∧ H' = H) := by
  obtain ⟨hr1, hr2⟩ := hr
  refine ACall_V (H.length) 41 [.tmp 6, .tmp 7] Tryz.func135 rfl rfl rfl ?_
  simp only [push_cast, Nat.reduceAdd, Nat.reduceSub, Nat.reduceMul, Nat.reduceLT, Nat.reduceLeDiff, Nat.reduceEqDiff, Int.reduceToNat, ↓reduceIte]
  have bad : ¬ (0 ≤ s.1 ∧ s.1.toNat < rs.length) → findE rs t s = ([], 8) := fun h => if_neg h
  refine cI (fun h => ?_) (fun h => ?_)
  · simp only [push_cast, Nat.reduceAdd, Nat.reduceSub, Nat.reduceMul, Nat.reduceLT, Nat.reduceLeDiff, Nat.reduceEqDiff, Int.reduceToNat, ↓reduceIte, bad (by omega), encFE, encL_nil]
  · refine cI (fun h2 => ?_) (fun h2 => ?_)
    · simp only [push_cast, Nat.reduceAdd, Nat.reduceSub, Nat.reduceMul, Nat.reduceLT, Nat.reduceLeDiff, Nat.reduceEqDiff, Int.reduceToNat, ↓reduceIte, bad (by omega), encFE, encL_nil]
    · have hin : 0 ≤ s.1 ∧ s.1.toNat < rs.length := by omega
      have e : findE rs t s = (match atP t s.2 with
        | some x => if (matchP (ruleN rs s.1).1 x []).2 then ((matchP (ruleN rs s.1).1 x []).1, 0) else ([], 9)
        | none => ([], 8)) := if_pos hin
      refine (sub_ac t s.2 hb hs _).to ?_
      cases ha : atP t s.2 with
      | none =>
        simp only [ha] at e
        simp only [push_cast, Nat.reduceAdd, Nat.reduceSub, Nat.reduceMul, Nat.reduceLT, Nat.reduceLeDiff, Nat.reduceEqDiff, Int.reduceToNat, ↓reduceIte, e, encFE, encL_nil]
      | some x =>
        simp only [ha] at e
        have hxb := at_bulk _ _ _ ha
        have hrn := ruleN_get hin.2
        have hlb := hr2 _ (List.getElem_mem hin.2)
        simp only [push_cast, Nat.reduceAdd, Nat.reduceSub, Nat.reduceMul, Nat.reduceLT, Nat.reduceLeDiff, Nat.reduceEqDiff, Int.reduceToNat, ↓reduceIte]
        apply AW_drawE [some 31, some 32, some 33, some 34, some 35, some 36, some 37, some 38, some 30, some 39, some 40, some 10, some 9] [([], _)] [none, none, none, none, none, none, none, none, none, none, none, none, none] 0 [(0, [], [0]), (1, [], [5]), (2, [], [32]), (3, [], [31, 1]), (4, [], [34]), (5, [], [35]), (6, [], [8]), (7, [], [36, 0]), (8, [], [38]), (9, [], [30]), (10, [], [30]), (11, [], [39]), (12, [], [40])] [_, _, _, _, _, _, _, _, _, _, _, _, _]
        case' hm => exact dr
        case' hn => rfl
        case' hok => rfl
        case' hlen => rfl
        case' hd => rfl
        case' h0 => rfl
        case' hstep =>
         simp only [DAllG, push_cast, Option.isSome_some, Option.isSome_none]
         repeat' apply And.intro
         all_goals (apply DOne_V; simp only [push_cast, Nat.reduceAdd, Nat.reduceSub, Nat.reduceMul, Nat.reduceLT, Nat.reduceLeDiff, Nat.reduceEqDiff, Int.reduceToNat, ↓reduceIte] <;> first | exact rfl | omega | exact ⟨rfl, rfl⟩ | exact trivial | exact ⟨by omega, rfl⟩ | exact ⟨by omega, by omega, rfl⟩ | exact ⟨by omega, rfl, rfl⟩ | exact ⟨by omega, by omega, rfl, rfl⟩ | exact ⟨by omega, by omega, trivial⟩ | exact (find_ac (rs[s.1.toNat]'hin.2).1 x hlb.1 (by omega) _).to ⟨rfl, rfl⟩)
        case' hQ => skip
        rw [← hrn]
        cases hm : (matchP (ruleN rs s.1).1 x []).2 with
        | true =>
          rw [hm] at e
          simp only [if_true] at e
          simp only [push_cast, Nat.reduceAdd, Nat.reduceSub, Nat.reduceMul, Nat.reduceLT, Nat.reduceLeDiff, Nat.reduceEqDiff, Int.reduceToNat, ↓reduceIte, e, encFE]
        | false =>
          rw [hm] at e
          simp only [Bool.false_eq_true, if_false] at e
          simp only [push_cast, Nat.reduceAdd, Nat.reduceSub, Nat.reduceMul, Nat.reduceLT, Nat.reduceLeDiff, Nat.reduceEqDiff, Int.reduceToNat, ↓reduceIte, e, encFE, encL_nil]
theorem sys_B {rs : List (Term × Term)} (h : sysP rs = 0) : SysB rs ∧ (∀ r, r ∈ rs → checkP r.1 = 0 ∧ checkP r.2 = 0) ∧ ∀ r, r ∈ rs → extraP r = false := by
  unfold sysP at h
  split at h
  · rename_i h0; exact absurd h h0
  · rename_i h0
    have h0 : rulesP rs = 0 := by simpa using h0
    obtain ⟨h1, h2⟩ := rules_ok h0
    split at h
    · cases h
    · split at h
      · cases h
      · split at h
        · cases h
        · rename_i h3
          refine ⟨⟨h1, fun r hr => ?_⟩, h2, fun r hr => ?_⟩
          · have g1 := check_small (h2 r hr).1
            have g2 := check_small (h2 r hr).2
            omega
          · cases he : extraP r with
            | false => rfl
            | true => exact absurd (List.any_eq_true.2 ⟨r, hr, he⟩) h3
theorem both_ok {rs : List (Term × Term)} {t : Term} (h : bothP rs t = 0) : sysP rs = 0 ∧ checkP t = 0 := by
  unfold bothP at h
  split at h
  · rename_i h0; exact absurd h h0
  · rename_i h0; exact ⟨by simpa using h0, h⟩
structure FindOk (rs : List (Term × Term)) (t : Term) (s : Int × List Int) (x : Term) (σ : List (List UInt8 × Term)) : Prop where
  lo : 0 ≤ s.1
  hi : s.1.toNat < rs.length
  at' : atP t s.2 = some x
  ok : (matchP (ruleN rs s.1).1 x []).2 = true
  eq : (matchP (ruleN rs s.1).1 x []).1 = σ
  mem : ruleN rs s.1 ∈ rs
theorem find_ok {rs : List (Term × Term)} {t : Term} {s : Int × List Int} (h : (findE rs t s).2 = 0) : ∃ x, FindOk rs t s x (findE rs t s).1 := by
  unfold findE at h ⊢
  by_cases hin : 0 ≤ s.1 ∧ s.1.toNat < rs.length
  · rw [if_pos hin] at h ⊢
    cases ha : atP t s.2 with
    | none => rw [ha] at h; cases h
    | some x =>
      rw [ha] at h
      simp only at h ⊢
      cases hm : (matchP (ruleN rs s.1).1 x []).2 with
      | false => rw [hm] at h; cases h
      | true => exact ⟨x, hin.1, hin.2, ha, hm, rfl, by rw [ruleN_get hin.2]; exact List.getElem_mem hin.2⟩
  · rw [if_neg hin] at h; cases h
structure SubOk (σ : List (List UInt8 × Term)) (x : Term) : Prop where
  sorted : SortedN (σ.map (·.1))
  sub : ∀ b, b ∈ σ → SubT x b.2
theorem FindOk.subOk {rs : List (Term × Term)} {t : Term} {s : Int × List Int} {x : Term} {σ : List (List UInt8 × Term)} (h : FindOk rs t s x σ) : SubOk σ x ∧ σ.length ≤ (ruleN rs s.1).1.size := by
  obtain ⟨h1, h2⟩ := matchP_ok (ruleN rs s.1).1 x [] (by simp [SortedN])
  rw [h.eq] at h1 h2
  exact ⟨⟨h1.sorted, fun b hb => (h1.new b hb).resolve_left (by simp)⟩, by simpa using h2⟩
theorem SubOk.bulk {σ : List (List UInt8 × Term)} {x : Term} (h : SubOk σ x) : ∀ b, b ∈ σ → b.2.bulk ≤ x.bulk ∧ b.2.size ≤ x.size := fun b hb => ⟨(h.sub b hb).bulk, (h.sub b hb).sizes.1⟩
theorem SubOk.apply {σ : List (List UInt8 × Term)} {x : Term} (h : SubOk σ x) (hx : x.size ≤ 4000 ∧ x.bulk ≤ 100000) {r : Term} (hr : r.size ≤ 4000 ∧ r.bulk ≤ 100000) : (applyP σ r).size ≤ 16000000 ∧ (applyP σ r).bulk ≤ 20000000000 := by
  have h1 := apply_size σ 4000 (by decide) (fun b hb => by have := (h.bulk b hb).2; omega) r
  have h2 := apply_bulk σ 100000 (fun b hb => by have := (h.bulk b hb).1; omega) r
  have h3 : r.size * 4000 ≤ 4000 * 4000 := Nat.mul_le_mul hr.1 (Nat.le_refl _)
  have h4 : r.bulk * (100000 + 1) ≤ 100000 * (100000 + 1) := Nat.mul_le_mul hr.2 (Nat.le_refl _)
  omega
def rhsP (rs : List (Term × Term)) (t : Term) (s : Int × List Int) : Term := applyP (findE rs t s).1 (ruleN rs s.1).2
def doE (rs : List (Term × Term)) (t : Term) (s : Int × List Int) : Term × Int :=
  if (findE rs t s).2 ≠ 0 then (zeroT, (findE rs t s).2) else if fitsP (rhsP rs t s) = true ∧ fitsP (putP t s.2 (rhsP rs t s)) = true then (putP t s.2 (rhsP rs t s), 0) else (zeroT, 3)
theorem do_ac (rs : List (Term × Term)) (hr : sysP rs = 0) (t : Term) (ht : checkP t = 0) (s : Int × List Int) (hs : s.2.length < 1099511627776) (H : List AObj) :
    ACall Tryz.prog 94 [.sl .none (encL encRu rs), encT t, encSt s] H (fun r H' => r = encRE (doE rs t s) ∧ H' = H) := by
  obtain ⟨hB, hck, _⟩ := sys_B hr
  have htb := check_small ht
  refine ACall_V (H.length) 42 [.cell 6 25, .tmp 7] Tryz.func94 rfl rfl rfl ?_
  simp only [push_cast, Nat.reduceAdd, Nat.reduceSub, Nat.reduceMul, Nat.reduceLT, Nat.reduceLeDiff, Nat.reduceEqDiff, Int.reduceToNat, ↓reduceIte]
  refine (stepFind_ac rs hB t (by omega) s hs _).to ?_
  simp only [push_cast, Nat.reduceAdd, Nat.reduceSub, Nat.reduceMul, Nat.reduceLT, Nat.reduceLeDiff, Nat.reduceEqDiff, Int.reduceToNat, ↓reduceIte, encFE]
  refine cI (fun h => ?_) (fun h => ?_)
  · obtain ⟨x, hf⟩ := find_ok h
    obtain ⟨hso, hsl⟩ := hf.subOk
    have hxs := at_sub _ _ _ hf.at'
    have hxc := check_small (hxs.check ht)
    have hrc := check_small (hck _ hf.mem).2
    have hlc := check_small (hck _ hf.mem).1
    have hap := hso.apply hxc hrc
    have hrn := ruleN_get hf.hi
    have hpb := put_bulk (rhsP rs t s) _ _ _ hf.at'
    have hfm := ((check_iff _).1 ht).1
    have hsp := setP_put _ _ (rhsP rs t s) _ hf.at' hfm
    refine ⟨hf.lo, hf.hi, ?_⟩
    rw [← hrn]
    refine (instance_ac (findE rs t s).1 hso.sorted (by omega) (fun b hb => by have := (hso.bulk b hb).1; omega) (ruleN rs s.1).2 (by omega) (by omega) _).to ?_
    have hb2 : (rhsP rs t s).bulk ≤ 20000000000 := hap.2
    have ed : doE rs t s = if fitsP (rhsP rs t s) = true ∧ fitsP (putP t s.2 (rhsP rs t s)) = true then (putP t s.2 (rhsP rs t s), 0) else (zeroT, 3) := if_neg (by simpa using h)
    cases hf1 : fitsP (rhsP rs t s) with
    | true =>
      have e1 : instE (findE rs t s).1 (ruleN rs s.1).2 = (rhsP rs t s, 0) := if_pos hf1
      simp only [push_cast, Nat.reduceAdd, Nat.reduceSub, Nat.reduceMul, Nat.reduceLT, Nat.reduceLeDiff, Nat.reduceEqDiff, Int.reduceToNat, ↓reduceIte, e1]
      refine (set_ac (rhsP rs t s) (by omega) t (by omega) s.2 hs ⟨x, hf.at'⟩ _).to ?_
      rw [hsp]
      simp only [push_cast, Nat.reduceAdd, Nat.reduceSub, Nat.reduceMul, Nat.reduceLT, Nat.reduceLeDiff, Nat.reduceEqDiff, Int.reduceToNat, ↓reduceIte]
      refine (fit_ac (putP t s.2 (rhsP rs t s)) (by omega) _).to ?_
      cases hf2 : fitsP (putP t s.2 (rhsP rs t s)) with
      | true =>
        have e : doE rs t s = (putP t s.2 (rhsP rs t s), 0) := ed.trans (if_pos ⟨hf1, hf2⟩)
        simp only [push_cast, Nat.reduceAdd, Nat.reduceSub, Nat.reduceMul, Nat.reduceLT, Nat.reduceLeDiff, Nat.reduceEqDiff, Int.reduceToNat, ↓reduceIte, if_true, e]
      | false =>
        have e : doE rs t s = (zeroT, 3) := ed.trans (if_neg (by rw [hf2]; simp))
        simp only [push_cast, Nat.reduceAdd, Nat.reduceSub, Nat.reduceMul, Nat.reduceLT, Nat.reduceLeDiff, Nat.reduceEqDiff, Int.reduceToNat, ↓reduceIte, Bool.false_eq_true, if_false, e]
    | false =>
      have e1 : instE (findE rs t s).1 (ruleN rs s.1).2 = (.mk [] false [], 3) := if_neg (by rw [show fitsP (applyP (findE rs t s).1 (ruleN rs s.1).2) = false from hf1]; simp)
      have e : doE rs t s = (zeroT, 3) := ed.trans (if_neg (by rw [hf1]; simp))
      simp only [push_cast, Nat.reduceAdd, Nat.reduceSub, Nat.reduceMul, Nat.reduceLT, Nat.reduceLeDiff, Nat.reduceEqDiff, Int.reduceToNat, ↓reduceIte, e1, e]
      refine cI (fun h => absurd h (by decide)) (fun _ => ?_)
      simp only [push_cast, Nat.reduceAdd, Nat.reduceSub, Nat.reduceMul, Nat.reduceLT, Nat.reduceLeDiff, Nat.reduceEqDiff, Int.reduceToNat, ↓reduceIte]
  · have e : doE rs t s = (zeroT, (findE rs t s).2) := if_pos h
    simp only [push_cast, Nat.reduceAdd, Nat.reduceSub, Nat.reduceMul, Nat.reduceLT, Nat.reduceLeDiff, Nat.reduceEqDiff, Int.reduceToNat, ↓reduceIte, e]
end Ab
namespace Ab
open Go Go.Proofs
theorem step_some {n : List UInt8} {v : Bool} {xs : List Term} {i : Int} {p : List Int} {y : Term} (h : atP (.mk n v xs) (i :: p) = some y) : ∃ hi : 0 ≤ i ∧ i.toNat < xs.length, atP (xs[i.toNat]'hi.2) p = some y := by
  simp only [atP] at h
  split at h
  · rename_i hi; exact ⟨hi, h⟩
  · cases h
theorem step_put (n : List UInt8) (v : Bool) (xs : List Term) (i : Int) (p : List Int) (x : Term) (h : i.toNat < xs.length) : putP (.mk n v xs) (i :: p) x = .mk n false (xs.set i.toNat (putP (xs[i.toNat]'h) p x)) := by
  simp [putP, List.getD_eq_getElem?_getD, List.getElem?_eq_getElem h]
theorem place_at (n : List UInt8) (v : Bool) (xs : List Term) (i : Int) (p : List Int) (h : 0 ≤ i ∧ i.toNat < xs.length) : atP (.mk n v xs) (i :: p) = atP (xs[i.toNat]'h.2) p := by
  simp only [atP]; exact dif_pos h
theorem at_put : ∀ (p : List Int) (t x y : Term), atP t p = some y → atP (putP t p x) p = some x
  | [], t, x, y, _ => by cases t; rfl
  | i :: p, .mk n v xs, x, y, h => by
    obtain ⟨hi, h⟩ := step_some h
    rw [step_put _ _ _ _ _ _ hi.2, place_at _ _ _ _ _ ⟨hi.1, by simpa using hi.2⟩]
    simp only [List.getElem_set_self]
    exact at_put p _ x y h
theorem put_formed : ∀ (p : List Int) (t x y : Term), atP t p = some y → formedP t = true → formedP x = true → formedP (putP t p x) = true
  | [], t, x, y, _, _, hx => by cases t; exact hx
  | i :: p, .mk n v xs, x, y, h, hf, hx => by
    have hv := at_var h (by simp) hf
    obtain ⟨hi, ha⟩ := step_some h
    simp only [Term.var_mk] at hv
    subst hv
    rw [step_put _ _ _ _ _ _ hi.2]
    rw [formedP_mk] at hf ⊢
    simp only [Bool.false_eq_true, if_false, Bool.and_eq_true, decide_eq_true_eq, List.all_eq_true, List.length_set] at hf ⊢
    refine ⟨hf.1, fun z hz => ?_⟩
    rcases List.mem_or_eq_of_mem_set hz with hz | rfl
    · exact hf.2 _ hz
    · exact put_formed p _ x y ha (hf.2 _ (List.getElem_mem _)) hx
end Ab
set_option maxRecDepth 10000
namespace Ab
open Go Go.Proofs
theorem do_check {rs : List (Term × Term)} {t : Term} {s : Int × List Int} (hr : sysP rs = 0) (ht : checkP t = 0) (h : (doE rs t s).2 = 0) : checkP (doE rs t s).1 = 0 := by
  obtain ⟨_, hck, _⟩ := sys_B hr
  unfold doE at h ⊢
  by_cases hf : (findE rs t s).2 ≠ 0
  · rw [if_pos hf] at h; exact absurd h hf
  · rw [if_neg hf] at h ⊢
    have hf : (findE rs t s).2 = 0 := by simpa using hf
    obtain ⟨x, hfo⟩ := find_ok hf
    by_cases h2 : fitsP (rhsP rs t s) = true ∧ fitsP (putP t s.2 (rhsP rs t s)) = true
    · rw [if_pos h2] at h ⊢
      refine (check_iff _).2 ⟨?_, h2.2⟩
      refine put_formed _ _ _ _ hfo.at' ((check_iff _).1 ht).1 ?_
      refine formed_apply _ (fun b hb => ?_) _ ((check_iff _).1 (hck _ hfo.mem).2).1
      exact (((hfo.subOk).1.sub b hb).formed ((at_sub _ _ _ hfo.at').formed ((check_iff _).1 ht).1))
    · rw [if_neg h2] at h; cases h
end Ab
set_option maxRecDepth 10000
namespace Ab
open Go Go.Proofs
section
variable {P : Program} {ro : Option Nat} {st : ASt} {dst : Option Tmp} {ty : TypeId} {pos : String} {after : Array Edge} {guard : Option (Nat × Bool)} {K : AV → List AObj → Prop}
end
theorem formed_of_check {t : Term} (h : checkP t = 0) : formedP t = true := by
  unfold checkP at h
  cases hf : formedP t with
  | true => rfl
  | false => rw [hf] at h; simp at h
theorem size_of_check {t : Term} (h : checkP t = 0) : t.size ≤ 4000 := (check_bulk h).2
theorem rules_formed {rs : List (Term × Term)} (h : rulesP rs = 0) : ∀ t, t ∈ rT rs → formedP t = true := by
  intro t ht
  obtain ⟨r, hr, he⟩ := mem_rT.1 ht
  have := (rules_ok h).2 r hr
  rcases he with rfl | rfl
  · exact formed_of_check this.1
  · exact formed_of_check this.2
theorem rules_agree {rs : List (Term × Term)} (h : rulesP rs = 0) : (symRs (rT rs) []).2 = (!arB rs && (arE rs).2.all fun s => !markedP s.1) := sys_agree _ (rules_formed h)
theorem rules_size {rs : List (Term × Term)} (h : rulesP rs = 0) : ((rT rs).map Term.size).sum ≤ 512000 := by
  obtain ⟨h1, h2⟩ := rules_ok h
  have : ∀ l : List (Term × Term), (∀ r, r ∈ l → checkP r.1 = 0 ∧ checkP r.2 = 0) → ((rT l).map Term.size).sum ≤ l.length * 8000 := by
    intro l
    induction l with
    | nil => intro _; simp [rT]
    | cons r l ih =>
      intro hl
      have h4 := ih (fun x hx => hl x (by simp [hx]))
      have h5 := size_of_check (hl r (by simp)).1
      have h6 := size_of_check (hl r (by simp)).2
      have : rT (r :: l) = r.1 :: r.2 :: rT l := rfl
      rw [this]
      simp only [List.map_cons, List.sum_cons, List.length_cons]
      omega
  have h4 := this rs h2
  omega
end Ab
set_option maxRecDepth 10000
namespace Ab
open Go Go.Proofs
theorem gSl_sl' (k : Nat) (xs : List AV) : ∃ tk, gSl k xs = .sl tk xs := by cases xs <;> exact ⟨_, rfl⟩
theorem symRs_nil (l : List (List UInt8 × Nat)) : symRs [] l = (l, true) := by rw [symRs]
theorem symRs_app : ∀ (a b : List Term) (l : List (List UInt8 × Nat)), symRs (a ++ b) l = if (symRs a l).2 then symRs b (symRs a l).1 else symRs a l
  | [], b, l => by simp [symRs_nil]
  | t :: a, b, l => by
    rw [List.cons_append, symRs_cons, symRs_cons]
    by_cases h : (symR t l).2 = true
    · rw [if_pos h, if_pos h]; exact symRs_app a b _
    · rw [if_neg h, if_neg h]; simp
theorem symRs_snoc (a : List Term) (l : List (List UInt8 × Nat)) (x : Term) (h : (symRs a l).2 = true) : symRs (a ++ [x]) l = if (symR x (symRs a l).1).2 then ((symR x (symRs a l).1).1, true) else ((symRs a l).1, false) := by
  rw [symRs_app, if_pos h, symRs_cons, symRs_nil]
theorem symRs_fail (a : List Term) (l : List (List UInt8 × Nat)) (x : Term) (r : List Term) (h : (symRs a l).2 = true) (h2 : (symR x (symRs a l).1).2 = false) : symRs (a ++ x :: r) l = ((symRs a l).1, false) := by
  rw [symRs_app, if_pos h, symRs_cons, if_neg (by simp [h2])]
theorem insSy_sub {l : List (List UInt8 × Nat)} {s x : List UInt8 × Nat} (h : x ∈ insSy l s) : x ∈ l ∨ x = s := by
  unfold insSy at h
  split at h
  · exact .inl h
  · rw [List.mem_append, List.mem_append, List.mem_singleton] at h
    rcases h with (h | h) | h
    · exact .inl (List.mem_of_mem_take h)
    · exact .inr h
    · exact .inl (List.mem_of_mem_drop h)
theorem insSy_len (l : List (List UInt8 × Nat)) (s : List UInt8 × Nat) : (insSy l s).length ≤ l.length + 1 := by
  unfold insSy
  split
  · omega
  · simp; omega
theorem symRs_len : ∀ (ts : List Term) (l : List (List UInt8 × Nat)), (symRs ts l).1.length ≤ l.length + (ts.map Term.size).sum
  | [], l => by simp [symRs_nil]
  | .mk n u xs :: r, l => by
    rw [symRs, List.map_cons, List.sum_cons, Term.size_mk]
    have h0 := insSy_len l (n, xs.length)
    have h1 := symRs_len xs (insSy l (n, xs.length))
    have h2 := symRs_len r l
    have h3 := symRs_len r (symRs xs (insSy l (n, xs.length))).1
    repeat' split
    all_goals (first | omega | (simp only; omega))
theorem symRs_names : ∀ (ts : List Term) (l : List (List UInt8 × Nat)), (∀ t, t ∈ ts → t.bulk ≤ 1099511627775) → (∀ x, x ∈ l → x.1.length < 1099511627776) → ∀ x, x ∈ (symRs ts l).1 → x.1.length < 1099511627776
  | [], l, _, h, x, hx => by rw [symRs_nil] at hx; exact h x hx
  | .mk n u xs :: r, l, hb, h, x, hx => by
    have h0 := hb (.mk n u xs) (by simp)
    have hnl := Term.name_le (n := n) (v := u) (xs := xs)
    have hI : ∀ x, x ∈ insSy l (n, xs.length) → x.1.length < 1099511627776 := fun x hx => by
      rcases insSy_sub hx with h1 | h1
      · exact h x h1
      · rw [h1]; show n.length < _; omega
    have hX := symRs_names xs (insSy l (n, xs.length)) (fun t ht => by have := Term.arg_le (n := n) (v := u) ht; omega) hI
    rw [symRs] at hx
    split at hx
    · exact symRs_names r l (fun t ht => hb t (by simp [ht])) h x hx
    · split at hx
      · exact h x hx
      · split at hx
        · exact h x hx
        · split at hx
          · exact symRs_names r _ (fun t ht => hb t (by simp [ht])) hX x hx
          · exact h x hx
theorem syAt_eq (l : List (List UInt8 × Nat)) (n : List UInt8) (i : Nat) (hi : i ≤ l.length) (h1 : ∀ j (h : j < l.length), j < i → Lib.compareBytes l[j].1 n < 0) (h2 : ∀ h : i < l.length, ¬ Lib.compareBytes l[i].1 n < 0) : syAt l n = i := by
  unfold syAt
  exact insAt_eq _ n i (by simpa using hi) (fun j hj hji => by simpa using h1 j (by simpa using hj) hji) (fun hj => by simpa using h2 (by simpa using hj))
set_option maxHeartbeats 1600000 in
theorem symbolsR1_ac (t : Term) : t.bulk ≤ 1099511627775 → ∀ l : List (List UInt8 × Nat), l.length + t.size ≤ 1099511627770 → (∀ x, x ∈ l → x.1.length < 1099511627776) → ∀ H, ACall Tryz.prog 136 [encT t, .sl .none (encL encSy l)] H (fun r H' => r = .tup [.sl .none (encL encSy (symR t l).1), .bool (symR t l).2] ∧ H' = H) := by
  induction t using Term.ind with | _ n u xs ih
  intro hb l hl hn H
  have hxl := Term.len_le (n := n) (v := u) (xs := xs)
  have hnl := Term.name_le (n := n) (v := u) (xs := xs)
  rw [Term.size_mk] at hl
  cases u with
  | true =>
    have hR : symR (.mk n true xs) l = (l, true) := by simp [symR, Term.mk_var]
    rw [hR]
    refine ACall_V (H.length) 93 [.tmp 4, .tmp 5] Tryz.func136 rfl rfl rfl ?_
    simp only [push_cast, Nat.reduceAdd, Nat.reduceSub, Nat.reduceMul, Nat.reduceLT, Nat.reduceLeDiff, Nat.reduceEqDiff, Int.reduceToNat, ↓reduceIte]
  | false =>
    refine ACall_VA (H.length) 93 [.tmp 4, .tmp 5] Tryz.func136 rfl rfl rfl ?_
    refine AW_seq (AW_of_W ?_)
    simp only [push_cast, Nat.reduceAdd, Nat.reduceSub, Nat.reduceMul, Nat.reduceLT, Nat.reduceLeDiff, Nat.reduceEqDiff, Int.reduceToNat, ↓reduceIte]
    refine AW_reserve 1 ?_
    refine AW_of_W ?_
    simp only [push_cast, Nat.reduceAdd, Nat.reduceSub, Nat.reduceMul, Nat.reduceLT, Nat.reduceLeDiff, Nat.reduceEqDiff, Int.reduceToNat, ↓reduceIte]
    refine (markedR_ac n (by omega) _).to ?_
    simp only [push_cast, Nat.reduceAdd, Nat.reduceSub, Nat.reduceMul, Nat.reduceLT, Nat.reduceLeDiff, Nat.reduceEqDiff, Int.reduceToNat, ↓reduceIte]
    refine cI (fun hm => ?_) (fun hm => ?_)
    · have hR : symR (.mk n false xs) l = (l, false) := by simp [symR, Term.mk_var, Term.mk_name, hm]
      simp only [push_cast, Nat.reduceAdd, Nat.reduceSub, Nat.reduceMul, Nat.reduceLT, Nat.reduceLeDiff, Nat.reduceEqDiff, Int.reduceToNat, ↓reduceIte, hR]
    · have hm : markedP n = false := by simpa using hm
      refine AW_loopW (maskG 95 [1, 0, 3]) (fun (i : Nat) => [(6, .int .i64 i)]) (fun _ => H ++ [.cells [.str n, .bool false, .sl .none (encTs xs)], .dead]) (fun i => i ≤ l.length ∧ ∀ j (h : j < l.length), j < i → Lib.compareBytes l[j].1 n < 0) (fun i => l.length - i) 0 ⟨Nat.zero_le _, fun j h1 h => by omega⟩ (by simp only [push_cast, Nat.reduceAdd, Nat.reduceSub, Nat.reduceMul, Nat.reduceLT, Nat.reduceLeDiff, Nat.reduceEqDiff, Int.reduceToNat, ↓reduceIte]) (fun i hi => ?_)
      by_cases hil : i < l.length
      · have hd : decide ((i : Int) < (l.length : Int)) = true := by simp; omega
        have hcm := fun H => cmpNames_ac (l[i]'hil).1 n (hn _ (List.getElem_mem hil)) (by omega) H
        apply AW_drawE [some 18, some 19, some 20, some 21, some 22, some 23, some 24, some 25, some 26, some 27, some 28, some 29, some 30, some 31, some 32] [([], _)] [none, none, none, none, none, none, none, none, none, none, none, none, none, none, none] 0 [(0, [], [6]), (1, [], [1]), (2, [], [19]), (3, [], [18, 1]), (4, [], [21]), (5, [], [1, 20]), (6, [], [6, 15]), (7, [], [22, 0, 0]), (8, [], [22, 2]), (9, [], [22, 3]), (10, [], [2, 19]), (11, [], [22, 5]), (12, [], [22, 4, 1]), (13, [], [22, 7]), (14, [], [22, 8])] [_, _, _, _, _, _, _, _, _, _, _, _, _, _, _]
        case' hm => exact dr
        case' hn => rfl
        case' hok => rfl
        case' hlen => rfl
        case' hd => rfl
        case' h0 => rfl
        case' hstep =>
         simp only [DAllG, push_cast, Option.isSome_some, Option.isSome_none]
         repeat' apply And.intro
         all_goals (apply DOne_V; simp only [push_cast, Nat.reduceAdd, Nat.reduceSub, Nat.reduceMul, Nat.reduceLT, Nat.reduceLeDiff, Nat.reduceEqDiff, Int.reduceToNat, ↓reduceIte, hd] <;> first | exact rfl | omega | exact ⟨rfl, rfl⟩ | exact trivial | exact ⟨by omega, rfl⟩ | exact ⟨by omega, by omega, rfl⟩ | exact ⟨by omega, rfl, rfl⟩ | exact ⟨by omega, by omega, rfl, rfl⟩ | exact (hcm _).to ⟨rfl, rfl⟩)
        case' hQ => skip
        simp only [push_cast, Nat.reduceAdd, Nat.reduceSub, Nat.reduceMul, Nat.reduceLT, Nat.reduceLeDiff, Nat.reduceEqDiff, Int.reduceToNat, ↓reduceIte]
        refine cI (fun hc => ?_) (fun hc => ?_)
        · repeat' first | refine ⟨by omega, ?_⟩ | refine cI (fun _ => ?_) (fun _ => ?_)
          refine loopW_n (i + 1) ⟨by omega, fun j h1 h => ?_⟩ (by omega) (by simp only [push_cast, Nat.reduceAdd, Nat.reduceSub, Nat.reduceMul, Nat.reduceLT, Nat.reduceLeDiff, Nat.reduceEqDiff, Int.reduceToNat, ↓reduceIte])
          rcases Nat.lt_or_ge j i with hj | hj
          · exact hi.2 j h1 hj
          · have hji : j = i := by omega
            subst hji; exact hc
        · have hia : syAt l n = i := syAt_eq l n i hi.1 hi.2 (fun _ => hc)
          have hd2 : decide ((i : Int) = (l.length : Int)) = false := by simp; omega
          by_cases hne : (l[i]'hil).1 = n
          · have hd3 : decide ((l[i]'hil).1 = n) = true := by simpa using hne
            apply AW_drawE [some 35, some 36, some 37, some 38, some 39, some 40, some 41, some 42, some 43, some 44, some 45, some 46, some 47, some 48] [([], _)] [none, none, none, none, none, none, none, none, none, none, none, none, none, none] 0 [(0, [], [6]), (1, [], [1]), (2, [], [36]), (3, [], [35, 1]), (4, [], [38]), (5, [], [1, 37]), (6, [], [6, 32]), (7, [], [39, 0, 0]), (8, [], [39, 2]), (9, [], [39, 3]), (10, [], [2, 36]), (11, [], [39, 5]), (12, [], [39, 4, 1]), (13, [], [39, 7])] [_, _, _, _, _, _, _, _, _, _, _, _, _, _]
            case' hm => exact dr
            case' hn => rfl
            case' hok => rfl
            case' hlen => rfl
            case' hd => rfl
            case' h0 => rfl
            case' hstep =>
             simp only [DAllG, push_cast, Option.isSome_some, Option.isSome_none]
             repeat' apply And.intro
             all_goals (apply DOne_V; simp only [push_cast, Nat.reduceAdd, Nat.reduceSub, Nat.reduceMul, Nat.reduceLT, Nat.reduceLeDiff, Nat.reduceEqDiff, Int.reduceToNat, ↓reduceIte, hd2, hd3] <;> first | exact rfl | omega | exact ⟨rfl, rfl⟩ | exact trivial | exact ⟨by omega, rfl⟩ | exact ⟨by omega, by omega, rfl⟩ | exact ⟨by omega, rfl, rfl⟩ | exact ⟨by omega, by omega, rfl, rfl⟩ | skip)
            case' hQ => skip
            simp only [push_cast, Nat.reduceAdd, Nat.reduceSub, Nat.reduceMul, Nat.reduceLT, Nat.reduceLeDiff, Nat.reduceEqDiff, Int.reduceToNat, ↓reduceIte, hd3]
            have hI : insSy l (n, xs.length) = l := by
              unfold insSy
              rw [hia, if_pos]
              rw [List.getElem?_map, List.getElem?_eq_getElem hil]
              show some (l[i]'hil).1 = some n
              rw [hne]
            have hn1 := hn
            have hlt1 := hil
            have hz1 := List.getElem_mem hlt1
            apply AW_drawE [some 66, some 67, some 68, some 69, some 70, some 71, some 72, some 73, some 74] [([], _)] [none, none, none, none, none, none, none, none, none] 0 [(0, [], [1]), (1, [], [6]), (2, [], [66, 0]), (3, [], [68]), (4, [], [69]), (5, [], [2]), (6, [], [71]), (7, [], [72]), (8, [], [70, 2])] [_, _, _, _, _, _, _, _, _]
            case' hm => exact dr
            case' hn => rfl
            case' hok => rfl
            case' hlen => rfl
            case' hd => rfl
            case' h0 => rfl
            case' hstep =>
             simp only [DAllG, push_cast, Option.isSome_some, Option.isSome_none]
             repeat' apply And.intro
             all_goals (apply DOne_V; simp only [push_cast, Nat.reduceAdd, Nat.reduceSub, Nat.reduceMul, Nat.reduceLT, Nat.reduceLeDiff, Nat.reduceEqDiff, Int.reduceToNat, ↓reduceIte] <;> first | exact rfl | omega | exact ⟨rfl, rfl⟩ | exact trivial | exact ⟨by omega, rfl⟩ | exact ⟨by omega, by omega, rfl⟩ | exact ⟨by omega, rfl, rfl⟩ | exact ⟨by omega, by omega, rfl, rfl⟩ | skip)
            case' hQ => skip
            simp only [push_cast, Nat.reduceAdd, Nat.reduceSub, Nat.reduceMul, Nat.reduceLT, Nat.reduceLeDiff, Nat.reduceEqDiff, Int.reduceToNat, ↓reduceIte]
            refine cI (fun hk => ?_) (fun hk => ?_)
            · have hcf : cfSy l (n, xs.length) = false := by
                unfold cfSy
                rw [hI, hia, List.getElem?_eq_getElem hlt1]
                have : (l[i]'hlt1).2 = xs.length := by omega
                simp [this]
              have hR : symR (.mk n false xs) l = symRs xs l := by
                unfold symR
                simp only [Term.mk_name, Term.mk_var, Term.mk_args, Bool.false_eq_true, if_false, hm, hcf, hI]
              rw [hR]
              refine AW_loopW (maskG 95 [1, 75, 0, 0]) (fun (j : Nat) => [(1, .sl .none (encL encSy (symRs (xs.take j) l).1)), (79, .int .i64 j)]) (fun j => H ++ [.cells [.str n, .bool false, .sl .none (encTs xs)]]) (fun j => j ≤ xs.length ∧ (symRs (xs.take j) l).2 = true) (fun j => xs.length - j) 0 ⟨Nat.zero_le _, by simp [symRs]⟩ (by simp only [push_cast, Nat.reduceAdd, Nat.reduceSub, Nat.reduceMul, Nat.reduceLT, Nat.reduceLeDiff, Nat.reduceEqDiff, Int.reduceToNat, ↓reduceIte, List.take_zero, symRs_nil]) (fun j hj => ?_)
              simp only [push_cast, Nat.reduceAdd, Nat.reduceSub, Nat.reduceMul, Nat.reduceLT, Nat.reduceLeDiff, Nat.reduceEqDiff, Int.reduceToNat, ↓reduceIte]
              refine cI (fun h3 => ?_) (fun h3 => ?_)
              · have hjl : j < xs.length := by omega
                repeat refine ⟨by omega, ?_⟩
                have hq1 := symRs_len (xs.take j) l
                have hq2 := take_sum Term.size xs j hjl
                have hq3 := take_sum_le Term.size xs (j + 1)
                have hq4 := symRs_names (xs.take j) l (fun t ht => by have := Term.arg_le (n := n) (v := false) (List.mem_of_mem_take ht); omega) hn1
                have hsn := symRs_snoc (xs.take j) l (xs[j]'hjl) hj.2
                rw [← List.take_succ_eq_append_getElem hjl] at hsn
                refine (ih _ (List.getElem_mem hjl) (arg_bulk hb j hjl) (symRs (xs.take j) l).1 (by omega) hq4 _).to ?_
                simp only [push_cast, Nat.reduceAdd, Nat.reduceSub, Nat.reduceMul, Nat.reduceLT, Nat.reduceLeDiff, Nat.reduceEqDiff, Int.reduceToNat, ↓reduceIte]
                refine cI (fun h4 => ?_) (fun h4 => ?_)
                · rw [if_pos h4] at hsn
                  repeat' first | refine ⟨by omega, ?_⟩ | refine cI (fun _ => ?_) (fun _ => ?_)
                  refine loopW_n (j + 1) ⟨by omega, by rw [hsn]⟩ (by omega) ?_
                  rw [hsn]
                  simp only [push_cast, Nat.reduceAdd, Nat.reduceSub, Nat.reduceMul, Nat.reduceLT, Nat.reduceLeDiff, Nat.reduceEqDiff, Int.reduceToNat, ↓reduceIte]
                · have h4 : (symR (xs[j]'hjl) (symRs (xs.take j) l).1).2 = false := by simpa using h4
                  have hff := symRs_fail (xs.take j) l (xs[j]'hjl) (xs.drop (j + 1)) hj.2 h4
                  rw [← List.drop_eq_getElem_cons hjl, List.take_append_drop] at hff
                  simp only [push_cast, Nat.reduceAdd, Nat.reduceSub, Nat.reduceMul, Nat.reduceLT, Nat.reduceLeDiff, Nat.reduceEqDiff, Int.reduceToNat, ↓reduceIte, hff]
              · rw [List.take_of_length_le (show xs.length ≤ j by omega)] at hj ⊢
                simp only [push_cast, Nat.reduceAdd, Nat.reduceSub, Nat.reduceMul, Nat.reduceLT, Nat.reduceLeDiff, Nat.reduceEqDiff, Int.reduceToNat, ↓reduceIte, hj.2]
            · have hcf : cfSy l (n, xs.length) = true := by
                unfold cfSy
                rw [hI, hia, List.getElem?_eq_getElem hlt1]
                have : ¬ (l[i]'hlt1).2 = xs.length := by omega
                simp [this]
              have hR : symR (.mk n false xs) l = (l, false) := by
                unfold symR
                simp only [Term.mk_name, Term.mk_var, Term.mk_args, Bool.false_eq_true, if_false, if_true, hm, hcf, hI]
              simp only [push_cast, Nat.reduceAdd, Nat.reduceSub, Nat.reduceMul, Nat.reduceLT, Nat.reduceLeDiff, Nat.reduceEqDiff, Int.reduceToNat, ↓reduceIte, hR]
          · have hd3 : decide ((l[i]'hil).1 = n) = false := by simpa using hne
            apply AW_drawE [some 35, some 36, some 37, some 38, some 39, some 40, some 41, some 42, some 43, some 44, some 45, some 46, some 47, some 48] [([], _)] [none, none, none, none, none, none, none, none, none, none, none, none, none, none] 0 [(0, [], [6]), (1, [], [1]), (2, [], [36]), (3, [], [35, 1]), (4, [], [38]), (5, [], [1, 37]), (6, [], [6, 32]), (7, [], [39, 0, 0]), (8, [], [39, 2]), (9, [], [39, 3]), (10, [], [2, 36]), (11, [], [39, 5]), (12, [], [39, 4, 1]), (13, [], [39, 7])] [_, _, _, _, _, _, _, _, _, _, _, _, _, _]
            case' hm => exact dr
            case' hn => rfl
            case' hok => rfl
            case' hlen => rfl
            case' hd => rfl
            case' h0 => rfl
            case' hstep =>
             simp only [DAllG, push_cast, Option.isSome_some, Option.isSome_none]
             repeat' apply And.intro
             all_goals (apply DOne_V; simp only [push_cast, Nat.reduceAdd, Nat.reduceSub, Nat.reduceMul, Nat.reduceLT, Nat.reduceLeDiff, Nat.reduceEqDiff, Int.reduceToNat, ↓reduceIte, hd2, hd3] <;> first | exact rfl | omega | exact ⟨rfl, rfl⟩ | exact trivial | exact ⟨by omega, rfl⟩ | exact ⟨by omega, by omega, rfl⟩ | exact ⟨by omega, rfl, rfl⟩ | exact ⟨by omega, by omega, rfl, rfl⟩ | skip)
            case' hQ => skip
            simp only [push_cast, Nat.reduceAdd, Nat.reduceSub, Nat.reduceMul, Nat.reduceLT, Nat.reduceLeDiff, Nat.reduceEqDiff, Int.reduceToNat, ↓reduceIte, hd3]
            have hno : ¬ (l.map (·.1))[i]? = some n := by
              rw [List.getElem?_map, List.getElem?_eq_getElem hil]
              intro e
              injection e with e
              exact hne e
            have hdr : List.take (l.length - i) (List.drop i l) = l.drop i := List.take_of_length_le (by simp)
            obtain ⟨l1, hl1⟩ : ∃ l1, l1 = l.take i ++ (n, xs.length) :: l.drop i := ⟨_, rfl⟩
            have hI : insSy l (n, xs.length) = l1 := by
              unfold insSy
              rw [hia, if_neg (by intro e; exact hno e), hl1, List.append_assoc]; rfl
            have hll : l1.length = l.length + 1 := by rw [hl1]; simp; omega
            have hn1 : ∀ x, x ∈ l1 → x.1.length < 1099511627776 := fun x hx => by
              rw [← hI] at hx
              rcases insSy_sub hx with h | h
              · exact hn x h
              · rw [h]; show n.length < _; omega
            have hlt1 : i < l1.length := by omega
            apply AW_drawO [[], [1], [], [], [], [], [], [], [], [], [], [], [], [1], [], [], [], []] [some 49, some 50, some 51, some 52, some 53, some 54, some 55, some 56, some 57, some 58, some 59, some 60, some 61, some 62, some 63, some 64, some 65, some 1] [([false, false, false], _), ([true, false, false], _), ([true, true, false], _), ([true, true, true], _)] [none, none, none, none, some 0, none, none, none, none, none, none, none, some 1, none, none, none, some 2, none] 3 [(0, [false, false, false], []), (1, [false, false, false], [1]), (2, [false, false, false], [6]), (3, [false, false, false], [50, 0]), (4, [false, false, false], [49, 2]), (5, [true, false, false], [2]), (6, [true, false, false], [54]), (7, [true, false, false], [2]), (8, [true, false, false], [56]), (9, [true, false, false], [57]), (10, [true, false, false], [55, 2]), (11, [true, false, false], [59]), (12, [true, false, false], [53, 6]), (13, [true, true, false], [1]), (14, [true, true, false], [6]), (15, [true, true, false], [62, 0]), (16, [true, true, false], [61, 2]), (17, [true, true, true], [65]), (1, [true, false, false], [1]), (1, [true, true, false], [1]), (1, [true, true, true], [1]), (2, [true, false, false], [6]), (2, [true, true, false], [6]), (2, [true, true, true], [6]), (5, [false, false, false], [2]), (5, [true, true, false], [2]), (5, [true, true, true], [2]), (6, [false, false, false], [54]), (6, [true, true, false], [54]), (6, [true, true, true], [54]), (7, [false, false, false], [2]), (7, [true, true, false], [2]), (7, [true, true, true], [2]), (8, [false, false, false], [56]), (8, [true, true, false], [56]), (8, [true, true, true], [56]), (9, [false, false, false], [57]), (9, [true, true, false], [57]), (9, [true, true, true], [57]), (10, [false, false, false], [55, 2]), (10, [true, true, false], [55, 2]), (10, [true, true, true], [55, 2]), (11, [false, false, false], [59]), (13, [false, false, false], [1]), (13, [true, false, false], [1]), (13, [true, true, true], [1]), (14, [false, false, false], [6]), (14, [true, false, false], [6]), (14, [true, true, true], [6]), (15, [false, false, false], [62, 0]), (15, [true, false, false], [62, 0])] [_, _, _, _, _, _, _, _, _, _, _, _, _, _, _, _, _, _]
            case' hm => exact dr
            case' hn => rfl
            case' hok => rfl
            case' hlen => rfl
            case' hd => rfl
            case' h0 => rfl
            case' hstep =>
             simp only [DAllO, push_cast, Option.isSome_some, Option.isSome_none]
             repeat' apply And.intro
             all_goals (apply DOne_V; simp only [push_cast, Nat.reduceAdd, Nat.reduceSub, Nat.reduceMul, Nat.reduceLT, Nat.reduceLeDiff, Nat.reduceEqDiff, Int.reduceToNat, ↓reduceIte, List.drop_zero, Nat.sub_zero, hdr] <;> first | exact rfl | omega | exact ⟨rfl, rfl⟩ | exact trivial | exact ⟨by omega, rfl⟩ | exact ⟨by omega, by omega, rfl⟩ | exact ⟨by omega, rfl, rfl⟩ | exact ⟨by omega, by omega, rfl, rfl⟩ | (refine app_L encSy (sz := 2) (fun _ => rfl) cellSy _ (H.length + 1) [] (l.take i) _ rfl rfl (by exact (agetN _ _ 1).trans rfl) sl133 sz197 by197 zr197 rfl (by decide) (by decide) (by simp; omega) ?_; simp only [push_cast, Nat.reduceAdd, Nat.reduceSub, Nat.reduceMul, Nat.reduceLT, Nat.reduceLeDiff, Nat.reduceEqDiff, Int.reduceToNat, ↓reduceIte, List.nil_append]; exact ⟨rfl, rfl⟩) | (refine app1_L encSy (sz := 2) (fun _ => rfl) cellSy _ (H.length + 1) (l.take i) (n, xs.length) _ rfl rfl (by exact (agetN _ _ 1).trans rfl) sl133 sz197 by197 zr197 rfl (by decide) (by decide) (by simp; omega) ?_; simp only [push_cast, Nat.reduceAdd, Nat.reduceSub, Nat.reduceMul, Nat.reduceLT, Nat.reduceLeDiff, Nat.reduceEqDiff, Int.reduceToNat, ↓reduceIte]; exact ⟨rfl, rfl⟩) | (refine app_L encSy (sz := 2) (fun _ => rfl) cellSy _ (H.length + 1) (l.take i ++ [(n, xs.length)]) (l.drop i) _ rfl rfl (by exact (agetN _ _ 1).trans rfl) sl133 sz197 by197 zr197 rfl (by decide) (by decide) (by simp; omega) ?_; simp only [push_cast, Nat.reduceAdd, Nat.reduceSub, Nat.reduceMul, Nat.reduceLT, Nat.reduceLeDiff, Nat.reduceEqDiff, Int.reduceToNat, ↓reduceIte]; exact ⟨rfl, rfl⟩))
            case' hQ => skip
            simp only [push_cast, Nat.reduceAdd, Nat.reduceSub, Nat.reduceMul, Nat.reduceLT, Nat.reduceLeDiff, Nat.reduceEqDiff, Int.reduceToNat, ↓reduceIte]
            rw [← hl1]
            obtain ⟨tk, htk⟩ := gSl_sl' (H.length + 1) (encL encSy l1)
            rw [htk]
            have hz1 := List.getElem_mem hlt1
            apply AW_drawE [some 66, some 67, some 68, some 69, some 70, some 71, some 72, some 73, some 74] [([], _)] [none, none, none, none, none, none, none, none, none] 0 [(0, [], [1]), (1, [], [6]), (2, [], [66, 0]), (3, [], [68]), (4, [], [69]), (5, [], [2]), (6, [], [71]), (7, [], [72]), (8, [], [70, 2])] [_, _, _, _, _, _, _, _, _]
            case' hm => exact dr
            case' hn => rfl
            case' hok => rfl
            case' hlen => rfl
            case' hd => rfl
            case' h0 => rfl
            case' hstep =>
             simp only [DAllG, push_cast, Option.isSome_some, Option.isSome_none]
             repeat' apply And.intro
             all_goals (apply DOne_V; simp only [push_cast, Nat.reduceAdd, Nat.reduceSub, Nat.reduceMul, Nat.reduceLT, Nat.reduceLeDiff, Nat.reduceEqDiff, Int.reduceToNat, ↓reduceIte] <;> first | exact rfl | omega | exact ⟨rfl, rfl⟩ | exact trivial | exact ⟨by omega, rfl⟩ | exact ⟨by omega, by omega, rfl⟩ | exact ⟨by omega, rfl, rfl⟩ | exact ⟨by omega, by omega, rfl, rfl⟩ | skip)
            case' hQ => skip
            simp only [push_cast, Nat.reduceAdd, Nat.reduceSub, Nat.reduceMul, Nat.reduceLT, Nat.reduceLeDiff, Nat.reduceEqDiff, Int.reduceToNat, ↓reduceIte]
            refine cI (fun hk => ?_) (fun hk => ?_)
            · have hcf : cfSy l (n, xs.length) = false := by
                unfold cfSy
                rw [hI, hia, List.getElem?_eq_getElem hlt1]
                have : (l1[i]'hlt1).2 = xs.length := by omega
                simp [this]
              have hR : symR (.mk n false xs) l = symRs xs l1 := by
                unfold symR
                simp only [Term.mk_name, Term.mk_var, Term.mk_args, Bool.false_eq_true, if_false, hm, hcf, hI]
              rw [hR]
              refine AW_loopW (maskG 95 [1, 75, 0, 0]) (fun (j : Nat) => [(1, .sl .none (encL encSy (symRs (xs.take j) l1).1)), (79, .int .i64 j)]) (fun j => H ++ [.cells [.str n, .bool false, .sl .none (encTs xs)]]) (fun j => j ≤ xs.length ∧ (symRs (xs.take j) l1).2 = true) (fun j => xs.length - j) 0 ⟨Nat.zero_le _, by simp [symRs]⟩ (by simp only [push_cast, Nat.reduceAdd, Nat.reduceSub, Nat.reduceMul, Nat.reduceLT, Nat.reduceLeDiff, Nat.reduceEqDiff, Int.reduceToNat, ↓reduceIte, List.take_zero, symRs_nil]) (fun j hj => ?_)
              simp only [push_cast, Nat.reduceAdd, Nat.reduceSub, Nat.reduceMul, Nat.reduceLT, Nat.reduceLeDiff, Nat.reduceEqDiff, Int.reduceToNat, ↓reduceIte]
              refine cI (fun h3 => ?_) (fun h3 => ?_)
              · have hjl : j < xs.length := by omega
                repeat refine ⟨by omega, ?_⟩
                have hq1 := symRs_len (xs.take j) l1
                have hq2 := take_sum Term.size xs j hjl
                have hq3 := take_sum_le Term.size xs (j + 1)
                have hq4 := symRs_names (xs.take j) l1 (fun t ht => by have := Term.arg_le (n := n) (v := false) (List.mem_of_mem_take ht); omega) hn1
                have hsn := symRs_snoc (xs.take j) l1 (xs[j]'hjl) hj.2
                rw [← List.take_succ_eq_append_getElem hjl] at hsn
                refine (ih _ (List.getElem_mem hjl) (arg_bulk hb j hjl) (symRs (xs.take j) l1).1 (by omega) hq4 _).to ?_
                simp only [push_cast, Nat.reduceAdd, Nat.reduceSub, Nat.reduceMul, Nat.reduceLT, Nat.reduceLeDiff, Nat.reduceEqDiff, Int.reduceToNat, ↓reduceIte]
                refine cI (fun h4 => ?_) (fun h4 => ?_)
                · rw [if_pos h4] at hsn
                  repeat' first | refine ⟨by omega, ?_⟩ | refine cI (fun _ => ?_) (fun _ => ?_)
                  refine loopW_n (j + 1) ⟨by omega, by rw [hsn]⟩ (by omega) ?_
                  rw [hsn]
                  simp only [push_cast, Nat.reduceAdd, Nat.reduceSub, Nat.reduceMul, Nat.reduceLT, Nat.reduceLeDiff, Nat.reduceEqDiff, Int.reduceToNat, ↓reduceIte]
                · have h4 : (symR (xs[j]'hjl) (symRs (xs.take j) l1).1).2 = false := by simpa using h4
                  have hff := symRs_fail (xs.take j) l1 (xs[j]'hjl) (xs.drop (j + 1)) hj.2 h4
                  rw [← List.drop_eq_getElem_cons hjl, List.take_append_drop] at hff
                  simp only [push_cast, Nat.reduceAdd, Nat.reduceSub, Nat.reduceMul, Nat.reduceLT, Nat.reduceLeDiff, Nat.reduceEqDiff, Int.reduceToNat, ↓reduceIte, hff]
              · rw [List.take_of_length_le (show xs.length ≤ j by omega)] at hj ⊢
                simp only [push_cast, Nat.reduceAdd, Nat.reduceSub, Nat.reduceMul, Nat.reduceLT, Nat.reduceLeDiff, Nat.reduceEqDiff, Int.reduceToNat, ↓reduceIte, hj.2]
            · have hcf : cfSy l (n, xs.length) = true := by
                unfold cfSy
                rw [hI, hia, List.getElem?_eq_getElem hlt1]
                have : ¬ (l1[i]'hlt1).2 = xs.length := by omega
                simp [this]
              have hR : symR (.mk n false xs) l = (l1, false) := by
                unfold symR
                simp only [Term.mk_name, Term.mk_var, Term.mk_args, Bool.false_eq_true, if_false, if_true, hm, hcf, hI]
              simp only [push_cast, Nat.reduceAdd, Nat.reduceSub, Nat.reduceMul, Nat.reduceLT, Nat.reduceLeDiff, Nat.reduceEqDiff, Int.reduceToNat, ↓reduceIte, hR]
      · have hd : decide ((i : Int) < (l.length : Int)) = false := by simp; omega
        apply AW_drawE [some 18, some 19, some 20, some 21, some 22, some 23, some 24, some 25, some 26, some 27, some 28, some 29, some 30, some 31, some 32] [([], _)] [none, none, none, none, none, none, none, none, none, none, none, none, none, none, none] 0 [(0, [], [6]), (1, [], [1]), (2, [], [19]), (3, [], [18, 1]), (4, [], [21]), (5, [], [1, 20]), (6, [], [6, 15]), (7, [], [22, 0, 0]), (8, [], [22, 2]), (9, [], [22, 3]), (10, [], [2, 19]), (11, [], [22, 5]), (12, [], [22, 4, 1]), (13, [], [22, 7]), (14, [], [22, 8])] [_, _, _, _, _, _, _, _, _, _, _, _, _, _, _]
        case' hm => exact dr
        case' hn => rfl
        case' hok => rfl
        case' hlen => rfl
        case' hd => rfl
        case' h0 => rfl
        case' hstep =>
         simp only [DAllG, push_cast, Option.isSome_some, Option.isSome_none]
         repeat' apply And.intro
         all_goals (apply DOne_V; simp only [push_cast, Nat.reduceAdd, Nat.reduceSub, Nat.reduceMul, Nat.reduceLT, Nat.reduceLeDiff, Nat.reduceEqDiff, Int.reduceToNat, ↓reduceIte, hd] <;> first | exact rfl | omega | exact ⟨rfl, rfl⟩ | exact trivial | exact ⟨by omega, rfl⟩ | exact ⟨by omega, by omega, rfl⟩ | exact ⟨by omega, rfl, rfl⟩ | exact ⟨by omega, by omega, rfl, rfl⟩ | skip)
        case' hQ => skip
        simp only [push_cast, Nat.reduceAdd, Nat.reduceSub, Nat.reduceMul, Nat.reduceLT, Nat.reduceLeDiff, Nat.reduceEqDiff, Int.reduceToNat, ↓reduceIte]
        have hia : syAt l n = i := syAt_eq l n i hi.1 hi.2 (fun h1 => absurd h1 hil)
        have hd2 : decide ((i : Int) = (l.length : Int)) = true := by simp; omega
        apply AW_drawE [some 35, some 36, some 37, some 38, some 39, some 40, some 41, some 42, some 43, some 44, some 45, some 46, some 47, some 48] [([], _)] [none, none, none, none, none, none, none, none, none, none, none, none, none, none] 0 [(0, [], [6]), (1, [], [1]), (2, [], [36]), (3, [], [35, 1]), (4, [], [38]), (5, [], [1, 37]), (6, [], [6, 32]), (7, [], [39, 0, 0]), (8, [], [39, 2]), (9, [], [39, 3]), (10, [], [2, 36]), (11, [], [39, 5]), (12, [], [39, 4, 1]), (13, [], [39, 7])] [_, _, _, _, _, _, _, _, _, _, _, _, _, _]
        case' hm => exact dr
        case' hn => rfl
        case' hok => rfl
        case' hlen => rfl
        case' hd => rfl
        case' h0 => rfl
        case' hstep =>
         simp only [DAllG, push_cast, Option.isSome_some, Option.isSome_none]
         repeat' apply And.intro
         all_goals (apply DOne_V; simp only [push_cast, Nat.reduceAdd, Nat.reduceSub, Nat.reduceMul, Nat.reduceLT, Nat.reduceLeDiff, Nat.reduceEqDiff, Int.reduceToNat, ↓reduceIte, hd2] <;> first | exact rfl | omega | exact ⟨rfl, rfl⟩ | exact trivial | exact ⟨by omega, rfl⟩ | exact ⟨by omega, by omega, rfl⟩ | exact ⟨by omega, rfl, rfl⟩ | exact ⟨by omega, by omega, rfl, rfl⟩ | skip)
        case' hQ => skip
        simp only [push_cast, Nat.reduceAdd, Nat.reduceSub, Nat.reduceMul, Nat.reduceLT, Nat.reduceLeDiff, Nat.reduceEqDiff, Int.reduceToNat, ↓reduceIte]
        have hno : ¬ (l.map (·.1))[i]? = some n := by
          rw [List.getElem?_map, List.getElem?_eq_none (by omega)]
          intro e
          cases e
        have hdr : List.take (l.length - i) (List.drop i l) = l.drop i := List.take_of_length_le (by simp)
        obtain ⟨l1, hl1⟩ : ∃ l1, l1 = l.take i ++ (n, xs.length) :: l.drop i := ⟨_, rfl⟩
        have hI : insSy l (n, xs.length) = l1 := by
          unfold insSy
          rw [hia, if_neg (by intro e; exact hno e), hl1, List.append_assoc]; rfl
        have hll : l1.length = l.length + 1 := by rw [hl1]; simp; omega
        have hn1 : ∀ x, x ∈ l1 → x.1.length < 1099511627776 := fun x hx => by
          rw [← hI] at hx
          rcases insSy_sub hx with h | h
          · exact hn x h
          · rw [h]; show n.length < _; omega
        have hlt1 : i < l1.length := by omega
        apply AW_drawO [[], [1], [], [], [], [], [], [], [], [], [], [], [], [1], [], [], [], []] [some 49, some 50, some 51, some 52, some 53, some 54, some 55, some 56, some 57, some 58, some 59, some 60, some 61, some 62, some 63, some 64, some 65, some 1] [([false, false, false], _), ([true, false, false], _), ([true, true, false], _), ([true, true, true], _)] [none, none, none, none, some 0, none, none, none, none, none, none, none, some 1, none, none, none, some 2, none] 3 [(0, [false, false, false], []), (1, [false, false, false], [1]), (2, [false, false, false], [6]), (3, [false, false, false], [50, 0]), (4, [false, false, false], [49, 2]), (5, [true, false, false], [2]), (6, [true, false, false], [54]), (7, [true, false, false], [2]), (8, [true, false, false], [56]), (9, [true, false, false], [57]), (10, [true, false, false], [55, 2]), (11, [true, false, false], [59]), (12, [true, false, false], [53, 6]), (13, [true, true, false], [1]), (14, [true, true, false], [6]), (15, [true, true, false], [62, 0]), (16, [true, true, false], [61, 2]), (17, [true, true, true], [65]), (1, [true, false, false], [1]), (1, [true, true, false], [1]), (1, [true, true, true], [1]), (2, [true, false, false], [6]), (2, [true, true, false], [6]), (2, [true, true, true], [6]), (5, [false, false, false], [2]), (5, [true, true, false], [2]), (5, [true, true, true], [2]), (6, [false, false, false], [54]), (6, [true, true, false], [54]), (6, [true, true, true], [54]), (7, [false, false, false], [2]), (7, [true, true, false], [2]), (7, [true, true, true], [2]), (8, [false, false, false], [56]), (8, [true, true, false], [56]), (8, [true, true, true], [56]), (9, [false, false, false], [57]), (9, [true, true, false], [57]), (9, [true, true, true], [57]), (10, [false, false, false], [55, 2]), (10, [true, true, false], [55, 2]), (10, [true, true, true], [55, 2]), (11, [false, false, false], [59]), (13, [false, false, false], [1]), (13, [true, false, false], [1]), (13, [true, true, true], [1]), (14, [false, false, false], [6]), (14, [true, false, false], [6]), (14, [true, true, true], [6]), (15, [false, false, false], [62, 0]), (15, [true, false, false], [62, 0])] [_, _, _, _, _, _, _, _, _, _, _, _, _, _, _, _, _, _]
        case' hm => exact dr
        case' hn => rfl
        case' hok => rfl
        case' hlen => rfl
        case' hd => rfl
        case' h0 => rfl
        case' hstep =>
         simp only [DAllO, push_cast, Option.isSome_some, Option.isSome_none]
         repeat' apply And.intro
         all_goals (apply DOne_V; simp only [push_cast, Nat.reduceAdd, Nat.reduceSub, Nat.reduceMul, Nat.reduceLT, Nat.reduceLeDiff, Nat.reduceEqDiff, Int.reduceToNat, ↓reduceIte, List.drop_zero, Nat.sub_zero, hdr] <;> first | exact rfl | omega | exact ⟨rfl, rfl⟩ | exact trivial | exact ⟨by omega, rfl⟩ | exact ⟨by omega, by omega, rfl⟩ | exact ⟨by omega, rfl, rfl⟩ | exact ⟨by omega, by omega, rfl, rfl⟩ | (refine app_L encSy (sz := 2) (fun _ => rfl) cellSy _ (H.length + 1) [] (l.take i) _ rfl rfl (by exact (agetN _ _ 1).trans rfl) sl133 sz197 by197 zr197 rfl (by decide) (by decide) (by simp; omega) ?_; simp only [push_cast, Nat.reduceAdd, Nat.reduceSub, Nat.reduceMul, Nat.reduceLT, Nat.reduceLeDiff, Nat.reduceEqDiff, Int.reduceToNat, ↓reduceIte, List.nil_append]; exact ⟨rfl, rfl⟩) | (refine app1_L encSy (sz := 2) (fun _ => rfl) cellSy _ (H.length + 1) (l.take i) (n, xs.length) _ rfl rfl (by exact (agetN _ _ 1).trans rfl) sl133 sz197 by197 zr197 rfl (by decide) (by decide) (by simp; omega) ?_; simp only [push_cast, Nat.reduceAdd, Nat.reduceSub, Nat.reduceMul, Nat.reduceLT, Nat.reduceLeDiff, Nat.reduceEqDiff, Int.reduceToNat, ↓reduceIte]; exact ⟨rfl, rfl⟩) | (refine app_L encSy (sz := 2) (fun _ => rfl) cellSy _ (H.length + 1) (l.take i ++ [(n, xs.length)]) (l.drop i) _ rfl rfl (by exact (agetN _ _ 1).trans rfl) sl133 sz197 by197 zr197 rfl (by decide) (by decide) (by simp; omega) ?_; simp only [push_cast, Nat.reduceAdd, Nat.reduceSub, Nat.reduceMul, Nat.reduceLT, Nat.reduceLeDiff, Nat.reduceEqDiff, Int.reduceToNat, ↓reduceIte]; exact ⟨rfl, rfl⟩))
        case' hQ => skip
        simp only [push_cast, Nat.reduceAdd, Nat.reduceSub, Nat.reduceMul, Nat.reduceLT, Nat.reduceLeDiff, Nat.reduceEqDiff, Int.reduceToNat, ↓reduceIte]
        rw [← hl1]
        obtain ⟨tk, htk⟩ := gSl_sl' (H.length + 1) (encL encSy l1)
        rw [htk]
        have hz1 := List.getElem_mem hlt1
        apply AW_drawE [some 66, some 67, some 68, some 69, some 70, some 71, some 72, some 73, some 74] [([], _)] [none, none, none, none, none, none, none, none, none] 0 [(0, [], [1]), (1, [], [6]), (2, [], [66, 0]), (3, [], [68]), (4, [], [69]), (5, [], [2]), (6, [], [71]), (7, [], [72]), (8, [], [70, 2])] [_, _, _, _, _, _, _, _, _]
        case' hm => exact dr
        case' hn => rfl
        case' hok => rfl
        case' hlen => rfl
        case' hd => rfl
        case' h0 => rfl
        case' hstep =>
         simp only [DAllG, push_cast, Option.isSome_some, Option.isSome_none]
         repeat' apply And.intro
         all_goals (apply DOne_V; simp only [push_cast, Nat.reduceAdd, Nat.reduceSub, Nat.reduceMul, Nat.reduceLT, Nat.reduceLeDiff, Nat.reduceEqDiff, Int.reduceToNat, ↓reduceIte] <;> first | exact rfl | omega | exact ⟨rfl, rfl⟩ | exact trivial | exact ⟨by omega, rfl⟩ | exact ⟨by omega, by omega, rfl⟩ | exact ⟨by omega, rfl, rfl⟩ | exact ⟨by omega, by omega, rfl, rfl⟩ | skip)
        case' hQ => skip
        simp only [push_cast, Nat.reduceAdd, Nat.reduceSub, Nat.reduceMul, Nat.reduceLT, Nat.reduceLeDiff, Nat.reduceEqDiff, Int.reduceToNat, ↓reduceIte]
        refine cI (fun hk => ?_) (fun hk => ?_)
        · have hcf : cfSy l (n, xs.length) = false := by
            unfold cfSy
            rw [hI, hia, List.getElem?_eq_getElem hlt1]
            have : (l1[i]'hlt1).2 = xs.length := by omega
            simp [this]
          have hR : symR (.mk n false xs) l = symRs xs l1 := by
            unfold symR
            simp only [Term.mk_name, Term.mk_var, Term.mk_args, Bool.false_eq_true, if_false, hm, hcf, hI]
          rw [hR]
          refine AW_loopW (maskG 95 [1, 75, 0, 0]) (fun (j : Nat) => [(1, .sl .none (encL encSy (symRs (xs.take j) l1).1)), (79, .int .i64 j)]) (fun j => H ++ [.cells [.str n, .bool false, .sl .none (encTs xs)]]) (fun j => j ≤ xs.length ∧ (symRs (xs.take j) l1).2 = true) (fun j => xs.length - j) 0 ⟨Nat.zero_le _, by simp [symRs]⟩ (by simp only [push_cast, Nat.reduceAdd, Nat.reduceSub, Nat.reduceMul, Nat.reduceLT, Nat.reduceLeDiff, Nat.reduceEqDiff, Int.reduceToNat, ↓reduceIte, List.take_zero, symRs_nil]) (fun j hj => ?_)
          simp only [push_cast, Nat.reduceAdd, Nat.reduceSub, Nat.reduceMul, Nat.reduceLT, Nat.reduceLeDiff, Nat.reduceEqDiff, Int.reduceToNat, ↓reduceIte]
          refine cI (fun h3 => ?_) (fun h3 => ?_)
          · have hjl : j < xs.length := by omega
            repeat refine ⟨by omega, ?_⟩
            have hq1 := symRs_len (xs.take j) l1
            have hq2 := take_sum Term.size xs j hjl
            have hq3 := take_sum_le Term.size xs (j + 1)
            have hq4 := symRs_names (xs.take j) l1 (fun t ht => by have := Term.arg_le (n := n) (v := false) (List.mem_of_mem_take ht); omega) hn1
            have hsn := symRs_snoc (xs.take j) l1 (xs[j]'hjl) hj.2
            rw [← List.take_succ_eq_append_getElem hjl] at hsn
            refine (ih _ (List.getElem_mem hjl) (arg_bulk hb j hjl) (symRs (xs.take j) l1).1 (by omega) hq4 _).to ?_
            simp only [push_cast, Nat.reduceAdd, Nat.reduceSub, Nat.reduceMul, Nat.reduceLT, Nat.reduceLeDiff, Nat.reduceEqDiff, Int.reduceToNat, ↓reduceIte]
            refine cI (fun h4 => ?_) (fun h4 => ?_)
            · rw [if_pos h4] at hsn
              repeat' first | refine ⟨by omega, ?_⟩ | refine cI (fun _ => ?_) (fun _ => ?_)
              refine loopW_n (j + 1) ⟨by omega, by rw [hsn]⟩ (by omega) ?_
              rw [hsn]
              simp only [push_cast, Nat.reduceAdd, Nat.reduceSub, Nat.reduceMul, Nat.reduceLT, Nat.reduceLeDiff, Nat.reduceEqDiff, Int.reduceToNat, ↓reduceIte]
            · have h4 : (symR (xs[j]'hjl) (symRs (xs.take j) l1).1).2 = false := by simpa using h4
              have hff := symRs_fail (xs.take j) l1 (xs[j]'hjl) (xs.drop (j + 1)) hj.2 h4
              rw [← List.drop_eq_getElem_cons hjl, List.take_append_drop] at hff
              simp only [push_cast, Nat.reduceAdd, Nat.reduceSub, Nat.reduceMul, Nat.reduceLT, Nat.reduceLeDiff, Nat.reduceEqDiff, Int.reduceToNat, ↓reduceIte, hff]
          · rw [List.take_of_length_le (show xs.length ≤ j by omega)] at hj ⊢
            simp only [push_cast, Nat.reduceAdd, Nat.reduceSub, Nat.reduceMul, Nat.reduceLT, Nat.reduceLeDiff, Nat.reduceEqDiff, Int.reduceToNat, ↓reduceIte, hj.2]
        · have hcf : cfSy l (n, xs.length) = true := by
            unfold cfSy
            rw [hI, hia, List.getElem?_eq_getElem hlt1]
            have : ¬ (l1[i]'hlt1).2 = xs.length := by omega
            simp [this]
          have hR : symR (.mk n false xs) l = (l1, false) := by
            unfold symR
            simp only [Term.mk_name, Term.mk_var, Term.mk_args, Bool.false_eq_true, if_false, if_true, hm, hcf, hI]
          simp only [push_cast, Nat.reduceAdd, Nat.reduceSub, Nat.reduceMul, Nat.reduceLT, Nat.reduceLeDiff, Nat.reduceEqDiff, Int.reduceToNat, ↓reduceIte, hR]
end Ab
set_option maxRecDepth 10000
namespace Ab
open Go Go.Proofs
theorem rT_sizes (rs : List (Term × Term)) (i : Nat) : ((rT (rs.take i)).map Term.size).sum ≤ ((rT rs).map Term.size).sum := by
  have : rT rs = rT (rs.take i) ++ rT (rs.drop i) := by
    unfold rT; rw [← List.flatMap_append, List.take_append_drop]
  rw [this, List.map_append, List.sum_append]; omega
theorem symbolsR_ac (rs : List (Term × Term)) (hlen : rs.length < 1099511627776) (hb : BndR rs) (hsz : ((rT rs).map Term.size).sum ≤ 1000000000) (H : List AObj) : ACall Tryz.prog 99 [.sl .none (encL encRu rs)] H (fun r H' => r = .tup [.sl .none (encL encSy (if (symRs (rT rs) []).2 then (symRs (rT rs) []).1 else [])), .bool (symRs (rT rs) []).2] ∧ H' = H) := by
  refine ACall_V (H.length) 38 [.tmp 2, .tmp 3] Tryz.func99 rfl rfl rfl ?_
  simp only [push_cast, Nat.reduceAdd, Nat.reduceSub, Nat.reduceMul, Nat.reduceLT, Nat.reduceLeDiff, Nat.reduceEqDiff, Int.reduceToNat, ↓reduceIte]
  refine AW_loopW (maskG 39 [4, 6, 0, 0]) (fun (i : Nat) => [(4, .sl .none (encL encSy (symRs (rT (rs.take i)) []).1)), (13, .int .i64 i)]) (fun _ => H) (fun i => i ≤ rs.length ∧ (symRs (rT (rs.take i)) []).2 = true) (fun i => rs.length - i) 0 ⟨Nat.zero_le _, by rw [List.take_zero, rT_nil, symRs_nil]⟩ (by simp only [push_cast, Nat.reduceAdd, Nat.reduceSub, Nat.reduceMul, Nat.reduceLT, Nat.reduceLeDiff, Nat.reduceEqDiff, Int.reduceToNat, ↓reduceIte, List.take_zero, rT_nil, symRs_nil, encL_nil]) (fun i hi => ?_)
  simp only [push_cast, Nat.reduceAdd, Nat.reduceSub, Nat.reduceMul, Nat.reduceLT, Nat.reduceLeDiff, Nat.reduceEqDiff, Int.reduceToNat, ↓reduceIte]
  refine cI (fun h => ?_) (fun h => ?_)
  · repeat refine ⟨by omega, ?_⟩
    have hil : i < rs.length := by omega
    obtain ⟨l, r, hlr⟩ : ∃ l r, rs[i]'hil = (l, r) := ⟨_, _, rfl⟩
    have hbi := hb _ (List.getElem_mem hil)
    rw [hlr] at hbi
    obtain ⟨hbl, hbr⟩ := hbi
    simp only at hbl hbr
    have hTi : rT (rs.take (i + 1)) = rT (rs.take i) ++ [l, r] := by rw [rT_take rs i hil, hlr]
    have hsz2 := rT_sizes rs (i + 1)
    rw [hTi, List.map_append, List.sum_append] at hsz2
    simp only [List.map_cons, List.map_nil, List.sum_cons, List.sum_nil] at hsz2
    obtain ⟨q0, hq0⟩ : ∃ q0, q0 = (symRs (rT (rs.take i)) []).1 := ⟨_, rfl⟩
    have hq0l : q0.length ≤ ((rT (rs.take i)).map Term.size).sum := by have := symRs_len (rT (rs.take i)) []; rw [← hq0] at this; simpa using this
    have hq0n : ∀ x, x ∈ q0 → x.1.length < 1099511627776 := by
      rw [hq0]
      refine symRs_names _ _ (fun t ht => ?_) (fun x hx => by cases hx)
      obtain ⟨r, hr, he⟩ := mem_rT.1 ht
      have := hb r (List.mem_of_mem_take hr)
      rcases he with rfl | rfl <;> omega
    simp only [push_cast, Nat.reduceAdd, Nat.reduceSub, Nat.reduceMul, Nat.reduceLT, Nat.reduceLeDiff, Nat.reduceEqDiff, Int.reduceToNat, ↓reduceIte, hlr]
    rw [← hq0]
    obtain ⟨T, hT⟩ : ∃ T, T = [l, r] := ⟨_, rfl⟩
    have hTl : T.length = 2 := by rw [hT]; rfl
    have hTb : ∀ t, t ∈ T → t.bulk ≤ 1099511627775 := by rw [hT]; intro t ht; simp at ht; rcases ht with rfl | rfl <;> omega
    have hTs : (T.map Term.size).sum = l.size + r.size := by rw [hT]; simp
    have eT : encTs T = [.agg [.str l.name, .bool l.var, .sl .none (encTs l.args)], .agg [.str r.name, .bool r.var, .sl .none (encTs r.args)]] := by rw [hT, encTs_cons, encTs_cons, encTs_nil]
    refine AW_loopW (maskG 39 [4, 6, 0, 0, 7, 0, 0]) (fun (j : Nat) => [(4, .sl .none (encL encSy (symRs (T.take j) q0).1)), (21, .sl .none (encTs T)), (23, .int .i64 j)]) (fun _ => H) (fun j => j ≤ 2 ∧ (symRs (T.take j) q0).2 = true) (fun j => 2 - j) 0 ⟨by omega, by rw [List.take_zero, symRs_nil]⟩ (by simp only [push_cast, Nat.reduceAdd, Nat.reduceSub, Nat.reduceMul, Nat.reduceLT, Nat.reduceLeDiff, Nat.reduceEqDiff, Int.reduceToNat, ↓reduceIte, List.take_zero, symRs_nil, eT]) (fun j hj => ?_)
    simp only [push_cast, Nat.reduceAdd, Nat.reduceSub, Nat.reduceMul, Nat.reduceLT, Nat.reduceLeDiff, Nat.reduceEqDiff, Int.reduceToNat, ↓reduceIte]
    refine cI (fun h2 => ?_) (fun h2 => ?_)
    · have hjl : j < T.length := by omega
      repeat refine ⟨by omega, ?_⟩
      have hq1 := symRs_len (T.take j) q0
      have hq2 := take_sum Term.size T j hjl
      have hq3 := take_sum_le Term.size T (j + 1)
      have hq4 := symRs_names (T.take j) q0 (fun t ht => hTb t (List.mem_of_mem_take ht)) hq0n
      have hsn := symRs_snoc (T.take j) q0 (T[j]'hjl) hj.2
      rw [← List.take_succ_eq_append_getElem hjl] at hsn
      refine (symbolsR1_ac (T[j]'hjl) (hTb _ (List.getElem_mem hjl)) (symRs (T.take j) q0).1 (by omega) hq4 _).to ?_
      simp only [push_cast, Nat.reduceAdd, Nat.reduceSub, Nat.reduceMul, Nat.reduceLT, Nat.reduceLeDiff, Nat.reduceEqDiff, Int.reduceToNat, ↓reduceIte]
      refine cI (fun h4 => ?_) (fun h4 => ?_)
      · rw [if_pos h4] at hsn
        repeat' first | refine ⟨by omega, ?_⟩ | refine cI (fun _ => ?_) (fun _ => ?_)
        refine loopW_n (j + 1) ⟨by omega, by rw [hsn]⟩ (by omega) ?_
        rw [hsn]
        simp only [push_cast, Nat.reduceAdd, Nat.reduceSub, Nat.reduceMul, Nat.reduceLT, Nat.reduceLeDiff, Nat.reduceEqDiff, Int.reduceToNat, ↓reduceIte]
      · have h4 : (symR (T[j]'hjl) (symRs (T.take j) q0).1).2 = false := by simpa using h4
        have hff := symRs_fail (T.take j) q0 (T[j]'hjl) (T.drop (j + 1)) hj.2 h4
        rw [← List.drop_eq_getElem_cons hjl, List.take_append_drop] at hff
        have hbad : (symRs (rT rs) []).2 = false := by
          rw [rT_split rs i hil, hlr, symRs_app, if_pos hi.2, ← hq0, symRs_app, ← hT, hff]; simp
        simp only [push_cast, Nat.reduceAdd, Nat.reduceSub, Nat.reduceMul, Nat.reduceLT, Nat.reduceLeDiff, Nat.reduceEqDiff, Int.reduceToNat, ↓reduceIte, hbad, encL_nil, Bool.false_eq_true, if_false]
    · have hj2 : j = 2 := by omega
      subst hj2
      rw [List.take_of_length_le (show T.length ≤ 2 by omega)] at hj ⊢
      have e1 : symRs (rT (rs.take (i + 1))) [] = symRs T q0 := by rw [hTi, symRs_app, if_pos hi.2, ← hq0, hT]
      repeat' first | refine ⟨by omega, ?_⟩ | refine cI (fun _ => ?_) (fun _ => ?_)
      refine loopW_n (i + 1) ⟨by omega, by rw [e1]; exact hj.2⟩ (by omega) ?_
      rw [e1]
      simp only [push_cast, Nat.reduceAdd, Nat.reduceSub, Nat.reduceMul, Nat.reduceLT, Nat.reduceLeDiff, Nat.reduceEqDiff, Int.reduceToNat, ↓reduceIte]
  · rw [List.take_of_length_le (show rs.length ≤ i by omega)] at hi ⊢
    simp only [push_cast, Nat.reduceAdd, Nat.reduceSub, Nat.reduceMul, Nat.reduceLT, Nat.reduceLeDiff, Nat.reduceEqDiff, Int.reduceToNat, ↓reduceIte, hi.2]
theorem checkSystemR_ac (rs : List (Term × Term)) (hlen : rs.length < 1099511627776) (hb : BndR rs) (H : List AObj) : ACall Tryz.prog 49 [.sl .none (encL encRu rs)] H (fun r H' => r = .int .i64 (sysP rs) ∧ H' = H) := by
  have hb' : ∀ r, r ∈ rs → r.1.bulk ≤ 1099511627775 ∧ r.2.bulk ≤ 1099511627775 := fun r hr => by have := hb r hr; omega
  refine ACall_V (H.length) 37 [.tmp 2] Tryz.func49 rfl rfl rfl ?_
  simp only [push_cast, Nat.reduceAdd, Nat.reduceSub, Nat.reduceMul, Nat.reduceLT, Nat.reduceLeDiff, Nat.reduceEqDiff, Int.reduceToNat, ↓reduceIte]
  refine (rulesR_ac rs hlen hb' _).to ?_
  simp only [push_cast, Nat.reduceAdd, Nat.reduceSub, Nat.reduceMul, Nat.reduceLT, Nat.reduceLeDiff, Nat.reduceEqDiff, Int.reduceToNat, ↓reduceIte]
  refine cI (fun h1 => ?_) (fun h1 => ?_)
  · have hsz := rules_size h1
    have hag := rules_agree h1
    refine (symbolsR_ac rs hlen hb (by omega) _).to ?_
    simp only [push_cast, Nat.reduceAdd, Nat.reduceSub, Nat.reduceMul, Nat.reduceLT, Nat.reduceLeDiff, Nat.reduceEqDiff, Int.reduceToNat, ↓reduceIte]
    refine cI (fun h2 => ?_) (fun h2 => ?_)
    · rw [h2] at hag
      have hag := hag.symm
      rw [Bool.and_eq_true, Bool.not_eq_true'] at hag
      have hm : (arE rs).2.any (fun s => markedP s.1) = false := by
        rw [List.all_eq_true] at hag
        rw [← Bool.not_eq_true, List.any_eq_true]
        rintro ⟨x, hx, hxm⟩
        have := hag.2 x hx
        rw [hxm] at this; cases this
      have hS : sysP rs = if rs.any extraP then 7 else 0 := by simp [sysP, h1, hag.1, hm]
      refine AW_loopW (maskG 38 [20, 0, 0]) (fun (i : Nat) => [(22, .int .i64 i)]) (fun _ => H) (fun i => i ≤ rs.length ∧ (rs.take i).any extraP = false) (fun i => rs.length - i) 0 ⟨Nat.zero_le _, by simp⟩ (by simp only [push_cast, Nat.reduceAdd, Nat.reduceSub, Nat.reduceMul, Nat.reduceLT, Nat.reduceLeDiff, Nat.reduceEqDiff, Int.reduceToNat, ↓reduceIte]) (fun i hi => ?_)
      simp only [push_cast, Nat.reduceAdd, Nat.reduceSub, Nat.reduceMul, Nat.reduceLT, Nat.reduceLeDiff, Nat.reduceEqDiff, Int.reduceToNat, ↓reduceIte]
      refine cI (fun h => ?_) (fun h => ?_)
      · repeat refine ⟨by omega, ?_⟩
        have hil : i < rs.length := by omega
        have hbi := hb _ (List.getElem_mem hil)
        have hex := extra_within (rs[i]'hil)
        refine cI (fun hv => ?_) (fun hv => ?_)
        · have hx : extraP (rs[i]'hil) = true := by rw [hex, hv]; rfl
          have e : sysP rs = 7 := by rw [hS, if_pos (any_get hil hx)]
          simp only [push_cast, Nat.reduceAdd, Nat.reduceSub, Nat.reduceMul, Nat.reduceLT, Nat.reduceLeDiff, Nat.reduceEqDiff, Int.reduceToNat, ↓reduceIte, e]
        · have hv : (rs[i]'hil).1.var = false := by simpa using hv
          rw [hv, Bool.false_or] at hex
          repeat refine ⟨by omega, ?_⟩
          refine (withinR_ac (rs[i]'hil).2 (rs[i]'hil).1 hbi.2 hbi.1 _).to ?_
          simp only [push_cast, Nat.reduceAdd, Nat.reduceSub, Nat.reduceMul, Nat.reduceLT, Nat.reduceLeDiff, Nat.reduceEqDiff, Int.reduceToNat, ↓reduceIte, ← hex]
          refine cI (fun hx => ?_) (fun hx => ?_)
          · rw [hS, if_pos (any_get hil hx)]
          · repeat' first | refine ⟨by omega, ?_⟩ | refine cI (fun _ => ?_) (fun _ => ?_)
            exact loopW_n (i + 1) ⟨by omega, any_take_false hi.2 hil (by simpa using hx)⟩ (by omega) (by simp only [push_cast, Nat.reduceAdd, Nat.reduceSub, Nat.reduceMul, Nat.reduceLT, Nat.reduceLeDiff, Nat.reduceEqDiff, Int.reduceToNat, ↓reduceIte])
      · have e := hi.2
        rw [List.take_of_length_le (show rs.length ≤ i by omega)] at e
        have e2 : sysP rs = 0 := by rw [hS, e]; rfl
        simp only [push_cast, Nat.reduceAdd, Nat.reduceSub, Nat.reduceMul, Nat.reduceLT, Nat.reduceLeDiff, Nat.reduceEqDiff, Int.reduceToNat, ↓reduceIte, e2]
    · have h2 : (symRs (rT rs) []).2 = false := by simpa using h2
      rw [h2] at hag
      have e : sysP rs = 6 := by
        cases hB : arB rs with
        | true => simp [sysP, h1, hB]
        | false =>
          rw [hB] at hag
          have hm : (arE rs).2.any (fun s => markedP s.1) = true := by
            rw [← Bool.not_eq_false]
            intro h5
            rw [← Bool.not_eq_true, List.any_eq_true] at h5
            have : (arE rs).2.all (fun s => !markedP s.1) = true := by
              rw [List.all_eq_true]
              intro x hx
              by_cases hxm : markedP x.1 = true
              · exact absurd ⟨x, hx, hxm⟩ h5
              · simpa using hxm
            rw [this] at hag; cases hag
          simp [sysP, h1, hB, hm]
      simp only [push_cast, Nat.reduceAdd, Nat.reduceSub, Nat.reduceMul, Nat.reduceLT, Nat.reduceLeDiff, Nat.reduceEqDiff, Int.reduceToNat, ↓reduceIte, e]
  · have e : sysP rs = rulesP rs := by simp [sysP, h1]
    simp only [push_cast, Nat.reduceAdd, Nat.reduceSub, Nat.reduceMul, Nat.reduceLT, Nat.reduceLeDiff, Nat.reduceEqDiff, Int.reduceToNat, ↓reduceIte, e]
end Ab
set_option maxRecDepth 10000
namespace Ab
open Go Go.Proofs
theorem putR_ac (x : Term) (hx : x.bulk ≤ 1099511627775) : ∀ (p : List Int) (t y : Term), t.bulk ≤ 1099511627775 → p.length < 1099511627776 → atP t p = some y → ∀ H,
    ACall Tryz.prog 28 [encT t, .sl .none (encP p), encT x] H (fun r H' => r = encT (putP t p x) ∧ H' = H) := by
  intro p
  induction p with
  | nil =>
    rintro ⟨n, u, xs⟩ y hb hlen hat H
    refine ACall_V (H.length) 32 [.cell 6 25] Tryz.func28 rfl rfl rfl ?_
    simp only [push_cast, Nat.reduceAdd, Nat.reduceSub, Nat.reduceMul, Nat.reduceLT, Nat.reduceLeDiff, Nat.reduceEqDiff, Int.reduceToNat, ↓reduceIte, putP]
  | cons k q ih =>
    rintro ⟨n, u, xs⟩ y hb hlen hat H
    have hl2 := Term.len_le (n := n) (v := u) (xs := xs)
    obtain ⟨hk, hat2⟩ := step_some hat
    rw [step_put _ _ _ _ _ _ hk.2]
    have hbx := arg_bulk hb k.toNat hk.2
    have hne : encTs xs ≠ [] := fun e => by have := congrArg List.length e; rw [encTs_length] at this; simp at this; rw [this] at hk; simp at hk
    have hrec := fun H => ih (xs[k.toNat]'hk.2) y hbx (by simp at hlen; omega) hat2 H
    have hget := flat_encTs_get xs k.toNat hk.2
    have hset := flat_encTs_set2 xs k.toNat hk.2
    have hfl := flat_encTs_len xs
    refine ACall_VA (H.length) 32 [.cell 6 25] Tryz.func28 rfl rfl rfl ?_
    refine AW_seq (AW_of_W ?_)
    simp only [push_cast, Nat.reduceAdd, Nat.reduceSub, Nat.reduceMul, Nat.reduceLT, Nat.reduceLeDiff, Nat.reduceEqDiff, Int.reduceToNat, ↓reduceIte]
    refine AW_reserve 1 ?_
    refine AW_seq (AW_of_W ?_)
    simp only [push_cast, Nat.reduceAdd, Nat.reduceSub, Nat.reduceMul, Nat.reduceLT, Nat.reduceLeDiff, Nat.reduceEqDiff, Int.reduceToNat, ↓reduceIte]
    refine cI (fun h => by omega) (fun _ => ?_)
    refine AW_seq (AW_of_W ?_)
    simp only [push_cast, Nat.reduceAdd, Nat.reduceSub, Nat.reduceMul, Nat.reduceLT, Nat.reduceLeDiff, Nat.reduceEqDiff, Int.reduceToNat, ↓reduceIte]
    refine AOp_append_arrAt (H.length + 3) (by exact (agetN _ _ 3).trans rfl) _ (encTs xs) _ rfl rfl sl23 sz25 by25 zr25 rfl (by decide) (uni_encTs _) (cell_encTs _) hne (by rw [encTs_length]; omega) (by rw [encTs_length]; omega) ?_
    simp only [push_cast, Nat.reduceAdd, Nat.reduceSub, Nat.reduceMul, Nat.reduceLT, Nat.reduceLeDiff, Nat.reduceEqDiff, Int.reduceToNat, ↓reduceIte]
    refine AW_seq ?_
    apply AW_drawE [some 16, some 17, some 18, some 19, some 20, some 21, some 22, some 23, some 24, some 25, some 26, some 27, some 28, some 29, some 30, none] [([false], _), ([true], _)] [none, none, none, none, none, none, none, none, none, none, none, none, none, none, none, some 0] 1 [(0, [false], [7]), (1, [false], [1]), (2, [false], [17]), (3, [false], [18]), (4, [false], [7]), (5, [false], [1]), (6, [false], [21]), (7, [false], [22]), (8, [false], [20, 2]), (9, [false], [24]), (10, [false], [1]), (11, [false], [26]), (12, [false], [5]), (13, [false], [25, 1, 0]), (14, [false], [16, 2]), (15, [false], [29, 0])] [_, _, _, _, _, _, _, _, _, _, _, _, _, _, _, _]
    case' hm => exact dr
    case' hn => rfl
    case' hok => rfl
    case' hlen => rfl
    case' hd => rfl
    case' h0 => rfl
    case' hstep =>
     simp only [DAllG, push_cast, Option.isSome_some, Option.isSome_none]
     repeat' apply And.intro
     all_goals (apply DOne_V; simp only [push_cast, Nat.reduceAdd, Nat.reduceSub, Nat.reduceMul, Nat.reduceLT, Nat.reduceLeDiff, Nat.reduceEqDiff, Int.reduceToNat, ↓reduceIte] <;> first | exact rfl | omega | exact ⟨rfl, rfl⟩ | exact trivial | exact ⟨by omega, rfl⟩ | exact ⟨by omega, by omega, rfl⟩ | exact ⟨by omega, rfl, rfl⟩ | exact ⟨by omega, by omega, rfl, rfl⟩ | (rw [hget]; exact ⟨leL_of (by rw [hfl]; omega), rfl⟩) | exact (hrec _).to ⟨rfl, rfl⟩ | (rw [hset]; exact ⟨leL_of (by rw [hfl]; omega), rfl, rfl⟩))
    case' hQ => skip
    obtain ⟨zs, hzs⟩ : ∃ zs, zs = xs.set k.toNat (putP (xs[k.toNat]'hk.2) q x) := ⟨_, rfl⟩
    rw [← hzs]
    have hzl : zs.length = xs.length := by rw [hzs, List.length_set]
    have hLl : (H ++ [AObj.cells [.str n, .bool u, .sl .none (encTs xs)], .cells [.str x.name, .bool x.var, .sl .none (encTs x.args)], .cells [.str [], .bool false, .sl .zero []]]).length = H.length + 3 := by simp
    simp only [push_cast, Nat.reduceAdd, Nat.reduceSub, Nat.reduceMul, Nat.reduceLT, Nat.reduceLeDiff, Nat.reduceEqDiff, Int.reduceToNat, ↓reduceIte]
    apply AW_freezeA (H ++ [.cells [.str n, .bool u, .sl .none (encTs xs)], .cells [.str x.name, .bool x.var, .sl .none (encTs x.args)], .cells [.str [], .bool false, .sl .zero []]]) (flat (encTs zs))
    case' hh => simp
    case' hm => rw [hLl]; simp only [push_cast, Nat.reduceAdd, Nat.reduceSub, Nat.reduceMul, Nat.reduceLT, Nat.reduceLeDiff, Nat.reduceEqDiff, Int.reduceToNat, ↓reduceIte]
    case' hvs => exact scoped_flatT _ zs
    case' hsl => (rw [hLl]; repeat (first | exact FrzOk.nil | apply FrzOk.froz | (apply FrzOk.row (xs := encTs zs); (case' hxs => rfl); (case' hn => (rw [encTs_length, hzl]))) | (apply FrzOk.same; (case' hv => (first | (simp [push_cast]; done) | (simp [push_cast, Scoped, ScopedL, scoped_encTs]; done)))) | apply FrzOk.junk))
    refine AW_of_W ?_
    simp only [push_cast, Nat.reduceAdd, Nat.reduceSub, Nat.reduceMul, Nat.reduceLT, Nat.reduceLeDiff, Nat.reduceEqDiff, Int.reduceToNat, ↓reduceIte]
end Ab
set_option maxRecDepth 10000
namespace Ab
open Go Go.Proofs
set_option maxHeartbeats 2000000 in
theorem substRX_ac (rs : List (Term × Term)) (hr2 : ∀ r, r ∈ rs → r.1.bulk ≤ 1099511627770) (t : Term) (hb : t.bulk ≤ 1099511627775) (s : Int × List Int) (hs : s.2.length < 1099511627776) (H : List AObj) :
    ACall Tryz.prog 101 [.sl .none (encL encRu rs), encT t, encSt s] H (fun r H' => r = encFE (findE rs t s) ∧ H' = H) := by
  refine ACall_V (H.length) 43 [.tmp 6, .tmp 7] Tryz.func101 rfl rfl rfl ?_
  simp only [push_cast, Nat.reduceAdd, Nat.reduceSub, Nat.reduceMul, Nat.reduceLT, Nat.reduceLeDiff, Nat.reduceEqDiff, Int.reduceToNat, ↓reduceIte]
  have bad : ¬ (0 ≤ s.1 ∧ s.1.toNat < rs.length) → findE rs t s = ([], 8) := fun h => if_neg h
  refine (atR_ac t s.2 hb hs _).to ?_
  cases ha : atP t s.2 with
  | none =>
    have e : findE rs t s = ([], 8) := by
      unfold findE
      split
      · rw [ha]
      · rfl
    simp only [push_cast, Nat.reduceAdd, Nat.reduceSub, Nat.reduceMul, Nat.reduceLT, Nat.reduceLeDiff, Nat.reduceEqDiff, Int.reduceToNat, ↓reduceIte, e, encFE, encL_nil]
    exact cI (fun _ => trivial) (fun _ => cI (fun _ => trivial) (fun _ => trivial))
  | some x =>
    simp only [push_cast, Nat.reduceAdd, Nat.reduceSub, Nat.reduceMul, Nat.reduceLT, Nat.reduceLeDiff, Nat.reduceEqDiff, Int.reduceToNat, ↓reduceIte]
    refine cI (fun h => ?_) (fun h => ?_)
    · simp only [push_cast, Nat.reduceAdd, Nat.reduceSub, Nat.reduceMul, Nat.reduceLT, Nat.reduceLeDiff, Nat.reduceEqDiff, Int.reduceToNat, ↓reduceIte, bad (by omega), encFE, encL_nil]
    · refine cI (fun h2 => ?_) (fun h2 => ?_)
      · simp only [push_cast, Nat.reduceAdd, Nat.reduceSub, Nat.reduceMul, Nat.reduceLT, Nat.reduceLeDiff, Nat.reduceEqDiff, Int.reduceToNat, ↓reduceIte, bad (by omega), encFE, encL_nil]
      · have hin : 0 ≤ s.1 ∧ s.1.toNat < rs.length := by omega
        have e : findE rs t s = (match atP t s.2 with
          | some x => if (matchP (ruleN rs s.1).1 x []).2 then ((matchP (ruleN rs s.1).1 x []).1, 0) else ([], 9)
          | none => ([], 8)) := if_pos hin
        simp only [ha] at e
        have hxb := at_bulk _ _ _ ha
        have hrn := ruleN_get hin.2
        have hlb := hr2 _ (List.getElem_mem hin.2)
        apply AW_drawE [some 33, some 34, some 35, some 36, some 37, some 38, some 39, some 40, some 32, some 41, some 42, some 10, some 9] [([], _)] [none, none, none, none, none, none, none, none, none, none, none, none, none] 0 [(0, [], [0]), (1, [], [5]), (2, [], [34]), (3, [], [33, 1]), (4, [], [36]), (5, [], [37]), (6, [], [8]), (7, [], [38, 0]), (8, [], [40]), (9, [], [32]), (10, [], [32]), (11, [], [41]), (12, [], [42])] [_, _, _, _, _, _, _, _, _, _, _, _, _]
        case' hm => exact dr
        case' hn => rfl
        case' hok => rfl
        case' hlen => rfl
        case' hd => rfl
        case' h0 => rfl
        case' hstep =>
         simp only [DAllG, push_cast, Option.isSome_some, Option.isSome_none]
         repeat' apply And.intro
         all_goals (apply DOne_V; simp only [push_cast, Nat.reduceAdd, Nat.reduceSub, Nat.reduceMul, Nat.reduceLT, Nat.reduceLeDiff, Nat.reduceEqDiff, Int.reduceToNat, ↓reduceIte] <;> first | exact rfl | omega | exact ⟨rfl, rfl⟩ | exact trivial | exact ⟨by omega, rfl⟩ | exact ⟨by omega, by omega, rfl⟩ | exact ⟨by omega, rfl, rfl⟩ | exact ⟨by omega, by omega, rfl, rfl⟩ | exact ⟨by omega, by omega, trivial⟩ | exact (matchRef_ac (rs[s.1.toNat]'hin.2).1 x hlb (by omega) _).to ⟨rfl, rfl⟩)
        case' hQ => skip
        rw [← hrn]
        have g1 := (matchR_eq (ruleN rs s.1).1 x []).1
        have g2 := (matchR_eq (ruleN rs s.1).1 x []).2
        rcases Bool.eq_false_or_eq_true (matchP (ruleN rs s.1).1 x []).2 with hm | hm
        · have em : matchR (ruleN rs s.1).1 x [] = ((matchP (ruleN rs s.1).1 x []).1, true) := (g2 hm).trans (by rw [← hm])
          rw [if_pos hm] at e
          rw [em, e]
          generalize (matchP (ruleN rs s.1).1 x []).1 = σ
          simp only [push_cast, Nat.reduceAdd, Nat.reduceSub, Nat.reduceMul, Nat.reduceLT, Nat.reduceLeDiff, Nat.reduceEqDiff, Int.reduceToNat, ↓reduceIte, encFE]
        · have em : matchR (ruleN rs s.1).1 x [] = ((matchR (ruleN rs s.1).1 x []).1, false) := by rw [← g1.trans hm]
          rw [if_neg (by rw [hm]; simp)] at e
          rw [em, e]
          generalize (matchR (ruleN rs s.1).1 x []).1 = σ
          simp only [push_cast, Nat.reduceAdd, Nat.reduceSub, Nat.reduceMul, Nat.reduceLT, Nat.reduceLeDiff, Nat.reduceEqDiff, Int.reduceToNat, ↓reduceIte, encFE, encL_nil]
theorem substR_ac (rs : List (Term × Term)) (hr : SysB rs) (t : Term) (hb : t.bulk ≤ 1099511627775) (s : Int × List Int) (hs : s.2.length < 1099511627776) (H : List AObj) :
    ACall Tryz.prog 101 [.sl .none (encL encRu rs), encT t, encSt s] H (fun r H' => r = encFE (findE rs t s) ∧ H' = H) := substRX_ac rs (fun r h => (hr.2 r h).1) t hb s hs H
theorem put_size (s : Term) : ∀ (p : List Int) (c x : Term), atP c p = some x → (putP c p s).size ≤ c.size + s.size
  | [], c, x, _ => by cases c; simp [putP]
  | i :: p, .mk n u xs, x, h => by
    obtain ⟨hk, h2⟩ := step_some h
    have ih := put_size s p _ x h2
    rw [step_put n u xs i p s hk.2, Term.size_mk, Term.size_mk]
    have h1 := sum_setN Term.size xs i.toNat hk.2 (putP (xs[i.toNat]'hk.2) p s)
    omega
theorem set_sizes (f : Term → Nat) (xs : List Term) (k : Nat) (z : Term) (i : Nat) (h : i < xs.length) : ((xs.set k z)[i]'(by simpa using h)) = if k = i then z else xs[i] := by
  rw [List.getElem_set]
set_option maxHeartbeats 2000000 in
theorem replacedX_ac (x : Term) (hx : x.size ≤ 100000000000) (hxd : x.depth ≤ 100000000000) : ∀ (p : List Int) (t y : Term), t.bulk ≤ 100000000000 → p.length < 1099511627776 → atP t p = some y → ∀ H,
    ACall Tryz.prog 103 [encT t, .sl .none (encP p), .int .i64 x.size, .int .i64 x.depth] H (fun r H' => r = .tup [.int .i64 (putP t p x).size, .int .i64 (putP t p x).depth] ∧ H' = H) := by
  intro p
  induction p with
  | nil =>
    intro t y hb hp ha H
    have e : putP t [] x = x := by cases t; rfl
    rw [e]
    refine ACall_V (H.length) 53 [.tmp 8, .tmp 9] Tryz.func103 rfl rfl rfl ?_
    simp only [push_cast, Nat.reduceAdd, Nat.reduceSub, Nat.reduceMul, Nat.reduceLT, Nat.reduceLeDiff, Nat.reduceEqDiff, Int.reduceToNat, ↓reduceIte, encP_length]
  | cons k p ih =>
    intro t y hb hp ha H
    obtain ⟨n, u, xs⟩ := t
    obtain ⟨hk, ha2⟩ := step_some ha
    have hlx := Term.len_le (n := n) (v := u) (xs := xs)
    have ep := step_put n u xs k p x hk.2
    obtain ⟨z, hz⟩ : ∃ z, z = putP (xs[k.toNat]'hk.2) p x := ⟨_, rfl⟩
    rw [ep, ← hz]
    have hkb := Term.arg_le (n := n) (v := u) (List.getElem_mem hk.2)
    have hpb := put_size x _ _ _ ha2
    rw [← hz] at hpb
    have hxs0 := (xs[k.toNat]'hk.2).size_le
    have hzd := z.depth_le
    obtain ⟨ys, hys⟩ : ∃ ys, ys = xs.set k.toNat z := ⟨_, rfl⟩
    have hyl : ys.length = xs.length := by rw [hys]; simp
    rw [← hys, Term.size_mk, Term.depth_mk]
    have hget : ∀ i (h : i < xs.length), ys[i]'(by omega) = if k.toNat = i then z else xs[i] := fun i h => by
      simp only [hys]; exact set_sizes Term.size xs k.toNat z i h
    have hys2 : (ys.map Term.size).sum ≤ 300000000000 := by
      have h1 := sum_setN Term.size xs k.toNat hk.2 z
      rw [← hys] at h1
      have h2 := (Term.mk n u xs).size_le
      rw [Term.size_mk] at h2
      omega
    refine ACall_V (H.length) 53 [.tmp 8, .tmp 9] Tryz.func103 rfl rfl rfl ?_
    simp only [push_cast, Nat.reduceAdd, Nat.reduceSub, Nat.reduceMul, Nat.reduceLT, Nat.reduceLeDiff, Nat.reduceEqDiff, Int.reduceToNat, ↓reduceIte, encP_length]
    refine cI (fun h => absurd h (by omega)) (fun _ => ?_)
    refine AW_loopW (maskG 57 [1, 0, 0, 6, 0, 10, 0, 0]) (fun (i : Nat) => [(24, .int .i64 i), (10, .int .i64 (1 + ((ys.take i).map Term.size).sum : Nat)), (11, .int .i64 (((ys.take i).map Term.depth).foldl max 0 : Nat))]) (fun i => H ++ [.cells [.str n, .bool u, .sl .none (encTs xs)]]) (fun i => i ≤ xs.length) (fun i => xs.length - i) 0 (Nat.zero_le _) (by simp only [push_cast, Nat.reduceAdd, Nat.reduceSub, Nat.reduceMul, Nat.reduceLT, Nat.reduceLeDiff, Nat.reduceEqDiff, Int.reduceToNat, ↓reduceIte, List.take_zero]; simp) (fun i hi => ?_)
    simp only [push_cast, Nat.reduceAdd, Nat.reduceSub, Nat.reduceMul, Nat.reduceLT, Nat.reduceLeDiff, Nat.reduceEqDiff, Int.reduceToNat, ↓reduceIte]
    refine cI (fun h => ?_) (fun h => ?_)
    · have hix : i < xs.length := by omega
      have hiy : i < ys.length := by omega
      refine ⟨hix, ?_⟩
      have hib := Term.arg_le (n := n) (v := u) (List.getElem_mem hix)
      have hst1 := take_sum Term.size ys i hiy
      have hst2 := take_depth ys i hiy
      have hg := hget i hix
      have hle := take_sum_le Term.size ys (i + 1)
      have hle0 := take_sum_le Term.size ys i
      have hdl := foldl_max_le Term.depth (ys.take i) 0
      have hdl2 : ((ys.take i).map Term.depth).sum ≤ ((ys.take i).map Term.size).sum := by
        generalize ys.take i = l
        induction l with
        | nil => simp
        | cons a r ih => have := a.depth_le; simp only [List.map_cons, List.sum_cons]; omega
      have hsi := xs[i].size_le
      have hdi := xs[i].depth_le
      apply AW_drawE [some 29, some 30, some 31, some 32, some 14, some 15] [([], _)] [none, none, none, none, none, none] 0 [(0, [], [13]), (1, [], [29]), (2, [], [13]), (3, [], [31]), (4, [], [30]), (5, [], [32])] [_, _, _, _, _, _]
      case' hm => exact dr
      case' hn => rfl
      case' hok => rfl
      case' hlen => rfl
      case' hd => rfl
      case' h0 => rfl
      case' hstep =>
       simp only [DAllG, push_cast, Option.isSome_some, Option.isSome_none]
       repeat' apply And.intro
       all_goals (apply DOne_V; simp only [push_cast, Nat.reduceAdd, Nat.reduceSub, Nat.reduceMul, Nat.reduceLT, Nat.reduceLeDiff, Nat.reduceEqDiff, Int.reduceToNat, ↓reduceIte] <;> first | exact rfl | omega | exact ⟨rfl, rfl⟩ | exact trivial | exact ⟨by omega, rfl⟩ | exact ⟨by omega, by omega, rfl⟩ | exact ⟨by omega, rfl, rfl⟩ | exact ⟨by omega, by omega, rfl, rfl⟩ | exact (sizeR_ac xs[i] (by omega) _).to ⟨rfl, rfl⟩ | exact (depthR_ac xs[i] (by omega) _).to ⟨rfl, rfl⟩)
      case' hQ => skip
      simp only [push_cast, Nat.reduceAdd, Nat.reduceSub, Nat.reduceMul, Nat.reduceLT, Nat.reduceLeDiff, Nat.reduceEqDiff, Int.reduceToNat, ↓reduceIte]
      refine ⟨by omega, by simp, ?_⟩
      refine cI (fun hik => ?_) (fun hik => ?_)
      · have hki : k.toNat = i := by omega
        rw [if_pos hki] at hg
        subst hki
        have hdr : List.drop 1 (encP (k :: p)) = encP p := rfl
        apply AW_drawE [some 39, some 40, some 41, some 42, some 43, some 44, some 38, some 45, some 46, some 14, some 15] [([], _)] [none, none, none, none, none, none, none, none, none, none, none] 0 [(0, [], [13]), (1, [], [1]), (2, [], [40]), (3, [], [2]), (4, [], [3]), (5, [], [39, 1, 0, 0]), (6, [], [44]), (7, [], [38]), (8, [], [38]), (9, [], [45]), (10, [], [46])] [_, _, _, _, _, _, _, _, _, _, _]
        case' hm => exact dr
        case' hn => rfl
        case' hok => rfl
        case' hlen => rfl
        case' hd => rfl
        case' h0 => rfl
        case' hstep =>
         simp only [DAllG, push_cast, Option.isSome_some, Option.isSome_none]
         repeat' apply And.intro
         all_goals (apply DOne_V; simp only [push_cast, Nat.reduceAdd, Nat.reduceSub, Nat.reduceMul, Nat.reduceLT, Nat.reduceLeDiff, Nat.reduceEqDiff, Int.reduceToNat, ↓reduceIte] <;> first | exact rfl | omega | exact ⟨rfl, rfl⟩ | exact trivial | exact ⟨by omega, rfl⟩ | exact ⟨by omega, by omega, rfl⟩ | exact ⟨by omega, rfl, rfl⟩ | exact ⟨by omega, by omega, rfl, rfl⟩ | exact (ih (xs[k.toNat]'hk.2) y (by omega) (by simp at hp; omega) ha2 _).to ⟨rfl, rfl⟩)
        case' hQ => skip
        rw [← hz]
        rw [hg] at hst1 hst2
        simp only [push_cast, Nat.reduceAdd, Nat.reduceSub, Nat.reduceMul, Nat.reduceLT, Nat.reduceLeDiff, Nat.reduceEqDiff, Int.reduceToNat, ↓reduceIte]
        repeat' first | refine ⟨by omega, ?_⟩ | refine cI (fun _ => ?_) (fun _ => ?_)
        refine loopW_n (k.toNat + 1) (by omega) (by omega) ?_
        rw [hst1, hst2]
        simp only [push_cast, Nat.reduceAdd, Nat.reduceSub, Nat.reduceMul, Nat.reduceLT, Nat.reduceLeDiff, Nat.reduceEqDiff, Int.reduceToNat, ↓reduceIte]
        omega
      · have hki : ¬ k.toNat = i := by omega
        rw [if_neg hki] at hg
        rw [hg] at hst1 hst2
        repeat' first | refine ⟨by omega, ?_⟩ | refine cI (fun _ => ?_) (fun _ => ?_)
        refine loopW_n (i + 1) (by omega) (by omega) ?_
        rw [hst1, hst2]
        simp only [push_cast, Nat.reduceAdd, Nat.reduceSub, Nat.reduceMul, Nat.reduceLT, Nat.reduceLeDiff, Nat.reduceEqDiff, Int.reduceToNat, ↓reduceIte]
        omega
    · rw [List.take_of_length_le (show ys.length ≤ i by omega)]
      have hdl := foldl_max_le Term.depth ys 0
      have hdl2 : (ys.map Term.depth).sum ≤ (ys.map Term.size).sum := by
        generalize ys = l
        induction l with
        | nil => simp
        | cons a r ih => have := a.depth_le; simp only [List.map_cons, List.sum_cons]; omega
      simp only [push_cast, Nat.reduceAdd, Nat.reduceSub, Nat.reduceMul, Nat.reduceLT, Nat.reduceLeDiff, Nat.reduceEqDiff, Int.reduceToNat, ↓reduceIte]
      omega
theorem replaced_ac (x : Term) (hx : x.bulk ≤ 100000000000) (p : List Int) (t y : Term) (hb : t.bulk ≤ 100000000000) (hp : p.length < 1099511627776) (ha : atP t p = some y) (H : List AObj) :
    ACall Tryz.prog 103 [encT t, .sl .none (encP p), .int .i64 x.size, .int .i64 x.depth] H (fun r H' => r = .tup [.int .i64 (putP t p x).size, .int .i64 (putP t p x).depth] ∧ H' = H) :=
  replacedX_ac x (by have := x.size_le; omega) (by have := x.size_le; have := x.depth_le; omega) p t y hb hp ha H
end Ab
set_option maxRecDepth 10000
namespace Ab
open Go Go.Proofs
theorem do_alt {rs : List (Term × Term)} {t : Term} {s : Int × List Int} : doE rs t s = if (findE rs t s).2 ≠ 0 then (zeroT, (findE rs t s).2) else if fitsP (putP t s.2 (rhsP rs t s)) = true then (putP t s.2 (rhsP rs t s), 0) else (zeroT, 3) := by
  unfold doE
  by_cases h : (findE rs t s).2 ≠ 0
  · rw [if_pos h, if_pos h]
  · rw [if_neg h, if_neg h]
    obtain ⟨x, hf⟩ := find_ok (by simpa using h)
    by_cases h2 : fitsP (putP t s.2 (rhsP rs t s)) = true
    · have hs := (at_sub _ _ _ (at_put _ _ (rhsP rs t s) _ hf.at')).sizes
      have h1 : fitsP (rhsP rs t s) = true := by
        unfold fitsP at h2 ⊢
        rw [Bool.and_eq_true, decide_eq_true_eq, decide_eq_true_eq] at h2 ⊢
        omega
      rw [if_pos ⟨h1, h2⟩, if_pos h2]
    · rw [if_neg h2, if_neg (fun h => h2 h.2)]
set_option maxHeartbeats 2000000 in
theorem stepR_ac (rs : List (Term × Term)) (hr : sysP rs = 0) (t : Term) (ht : checkP t = 0) (s : Int × List Int) (hs : s.2.length < 1099511627776) (H : List AObj) :
    ACall Tryz.prog 51 [.sl .none (encL encRu rs), encT t, encSt s] H (fun r H' => r = encRE (doE rs t s) ∧ H' = H) := by
  obtain ⟨hB, hck, _⟩ := sys_B hr
  have htb := check_small ht
  rw [do_alt]
  refine ACall_V (H.length) 59 [.cell 6 25, .tmp 7] Tryz.func51 rfl rfl rfl ?_
  simp only [push_cast, Nat.reduceAdd, Nat.reduceSub, Nat.reduceMul, Nat.reduceLT, Nat.reduceLeDiff, Nat.reduceEqDiff, Int.reduceToNat, ↓reduceIte]
  refine (substR_ac rs hB t (by omega) s hs _).to ?_
  simp only [push_cast, Nat.reduceAdd, Nat.reduceSub, Nat.reduceMul, Nat.reduceLT, Nat.reduceLeDiff, Nat.reduceEqDiff, Int.reduceToNat, ↓reduceIte, encFE]
  refine cI (fun h => ?_) (fun h => ?_)
  · rw [if_neg (by simpa using h)]
    obtain ⟨x, hf⟩ := find_ok h
    obtain ⟨hso, hsl⟩ := hf.subOk
    have hxs := at_sub _ _ _ hf.at'
    have hxc := check_small (hxs.check ht)
    have hrc := check_small (hck _ hf.mem).2
    have hlc := check_small (hck _ hf.mem).1
    have hap := hso.apply hxc hrc
    have hrn := ruleN_get hf.hi
    have hpb := put_bulk (rhsP rs t s) _ _ _ hf.at'
    have hb2 : (rhsP rs t s).bulk ≤ 20000000000 := hap.2
    have hsbk : ∀ b, b ∈ (findE rs t s).1 → b.2.bulk ≤ 1099511627775 := fun b hb => by have := (hso.bulk b hb).1; omega
    refine ⟨hf.lo, hf.hi, ?_⟩
    rw [← hrn]
    refine (grownR_ac (findE rs t s).1 (by omega) hsbk (ruleN rs s.1).2 (by omega) (by omega) _).to ?_
    simp only [push_cast, Nat.reduceAdd, Nat.reduceSub, Nat.reduceMul, Nat.reduceLT, Nat.reduceLeDiff, Nat.reduceEqDiff, Int.reduceToNat, ↓reduceIte]
    refine (replaced_ac (rhsP rs t s) (by omega) s.2 t x (by omega) hs hf.at' _).to ?_
    simp only [push_cast, Nat.reduceAdd, Nat.reduceSub, Nat.reduceMul, Nat.reduceLT, Nat.reduceLeDiff, Nat.reduceEqDiff, Int.reduceToNat, ↓reduceIte]
    obtain ⟨u, hu⟩ : ∃ u, u = putP t s.2 (rhsP rs t s) := ⟨_, rfl⟩
    rw [← hu]
    have fn : ¬ (u.size ≤ 4000 ∧ u.depth ≤ 200) → ¬ fitsP u = true := fun h1 h2 => by
      unfold fitsP at h2
      rw [Bool.and_eq_true, decide_eq_true_eq, decide_eq_true_eq] at h2
      exact h1 h2
    refine cI (fun h1 => ?_) (fun h1 => ?_)
    · rw [if_neg (fn (by omega))]
      simp only [push_cast, Nat.reduceAdd, Nat.reduceSub, Nat.reduceMul, Nat.reduceLT, Nat.reduceLeDiff, Nat.reduceEqDiff, Int.reduceToNat, ↓reduceIte]
    · refine cI (fun h2 => ?_) (fun h2 => ?_)
      · rw [if_neg (fn (by omega))]
        simp only [push_cast, Nat.reduceAdd, Nat.reduceSub, Nat.reduceMul, Nat.reduceLT, Nat.reduceLeDiff, Nat.reduceEqDiff, Int.reduceToNat, ↓reduceIte]
      · have hfu : fitsP u = true := by unfold fitsP; rw [Bool.and_eq_true, decide_eq_true_eq, decide_eq_true_eq]; omega
        rw [if_pos hfu]
        apply AW_drawE [some 50, some 51, some 52, some 53, some 54, some 55, some 56, some 57, some 58, some 59, some 60, some 61, none, some 7] [([false], _), ([true], _)] [none, none, none, none, none, none, none, none, none, none, none, none, some 0, none] 1 [(0, [false], [4]), (1, [false], [5]), (2, [false], [51]), (3, [false], [8]), (4, [false], [0]), (5, [false], [5]), (6, [false], [55]), (7, [false], [54, 1]), (8, [false], [57]), (9, [false], [58]), (10, [false], [53, 5]), (11, [false], [50, 1, 7]), (12, [false], [6, 54]), (13, [true], [])] [_, _, _, _, _, _, _, _, _, _, _, _, _, _]
        case' hm => exact dr
        case' hn => rfl
        case' hok => rfl
        case' hlen => rfl
        case' hd => rfl
        case' h0 => rfl
        case' hstep =>
         simp only [DAllG, push_cast, Option.isSome_some, Option.isSome_none]
         repeat' apply And.intro
         all_goals (apply DOne_V; simp only [push_cast, Nat.reduceAdd, Nat.reduceSub, Nat.reduceMul, Nat.reduceLT, Nat.reduceLeDiff, Nat.reduceEqDiff, Int.reduceToNat, ↓reduceIte] <;> first | exact rfl | omega | exact ⟨rfl, rfl⟩ | exact trivial | exact ⟨by omega, rfl⟩ | exact ⟨by omega, by omega, rfl⟩ | exact ⟨by omega, rfl, rfl⟩ | exact ⟨by omega, by omega, rfl, rfl⟩ | exact ⟨hf.lo, hf.hi, rfl⟩ | (rw [← hrn]; refine (applyR_ac (findE rs t s).1 (by omega) (ruleN rs s.1).2 (by omega) _).to ?_; exact ⟨rfl, rfl⟩) | (refine (putR_ac (rhsP rs t s) (by omega) s.2 t x (by omega) hs hf.at' _).to ?_; exact ⟨rfl, rfl⟩))
        case' hQ => skip
        rw [← hu]
        simp only [push_cast, Nat.reduceAdd, Nat.reduceSub, Nat.reduceMul, Nat.reduceLT, Nat.reduceLeDiff, Nat.reduceEqDiff, Int.reduceToNat, ↓reduceIte]
  · rw [if_pos h]
    simp only [push_cast, Nat.reduceAdd, Nat.reduceSub, Nat.reduceMul, Nat.reduceLT, Nat.reduceLeDiff, Nat.reduceEqDiff, Int.reduceToNat, ↓reduceIte]
theorem lefts {rs : List (Term × Term)} (h : sysP rs = 0) : ∀ r, r ∈ rs → r.1.var = false := fun r hr => by
  have := (sys_B h).2.2 r hr
  unfold extraP at this
  rw [Bool.or_eq_false_iff] at this
  exact this.1
theorem redexesV_ac (rs : List (Term × Term)) (hr : sysP rs = 0) (t : Term) (ht : checkP t = 0) (s : Int) (H : List AObj) : ACall Tryz.prog 52 [.sl .none (encL encRu rs), encT t, .int .i64 s] H (fun r H' => r = .sl .none (encL encSt (underP rs t s)) ∧ H' = H) := by
  have h := redexesR_ac rs (sys_B hr).1 t (by have := check_small ht; omega) s H
  rw [allJ_eq (lefts hr)] at h
  rw [under_eq, ← redG_eq]
  exact h
end Ab
set_option maxRecDepth 10000
namespace Ab
open Go Go.Proofs
def nmB (N : Nat) : Term → Bool
  | .mk n _ xs => decide (n.length ≤ N) && (xs.map (nmB N)).all id
theorem nmB_mk (N : Nat) (n : List UInt8) (u : Bool) (xs : List Term) : nmB N (.mk n u xs) = (decide (n.length ≤ N) && xs.all (nmB N)) := by rw [nmB, List.all_map]; rfl
theorem nmB_iff (N : Nat) (n : List UInt8) (u : Bool) (xs : List Term) : nmB N (.mk n u xs) = true ↔ n.length ≤ N ∧ ∀ x, x ∈ xs → nmB N x = true := by rw [nmB_mk, Bool.and_eq_true, decide_eq_true_eq, List.all_eq_true]
theorem nm_bulk (N : Nat) (t : Term) : nmB N t = true → t.bulk ≤ t.size * (N + 1) := by
  induction t using Term.ind with | _ n u xs ih
  intro h
  obtain ⟨h1, h2⟩ := (nmB_iff N n u xs).1 h
  rw [Term.bulk_mk, Term.size_mk]
  have key : ∀ ys : List Term, (∀ y, y ∈ ys → y ∈ xs) → (ys.map Term.bulk).sum ≤ (ys.map Term.size).sum * (N + 1) := by
    intro ys
    induction ys with
    | nil => intro _; simp
    | cons y ys ih2 =>
      intro hy
      have a := ih y (hy y (by simp)) (h2 y (hy y (by simp)))
      have b := ih2 (fun z hz => hy z (by simp [hz]))
      simp only [List.map_cons, List.sum_cons, Nat.add_mul]
      omega
  have := key xs (fun y h => h)
  rw [Nat.add_mul]
  omega
theorem nm_of (N : Nat) (t : Term) : t.bulk ≤ N → nmB N t = true := by
  induction t using Term.ind with | _ n u xs ih
  intro h
  have h1 := Term.name_le (n := n) (v := u) (xs := xs)
  exact (nmB_iff N n u xs).2 ⟨by omega, fun x hx => ih x hx (by have := Term.arg_le (n := n) (v := u) hx; omega)⟩
theorem nm_sub {N : Nat} {s t : Term} (h : SubT s t) : nmB N s = true → nmB N t = true := by
  induction h with
  | refl => exact id
  | arg hx _ ih => intro hs; exact ih (((nmB_iff _ _ _ _).1 hs).2 _ hx)
theorem nm_image {N : Nat} {σ : List (List UInt8 × Term)} (h : ∀ b, b ∈ σ → nmB N b.2 = true) (v : List UInt8) (hv : v.length ≤ N) : nmB N (imageP σ v) = true := by
  unfold imageP
  cases hf : σ.find? fun b => decide (b.1 = v) with
  | none => exact (nmB_iff _ _ _ _).2 ⟨hv, fun x hx => by simp at hx⟩
  | some b => exact h b (List.mem_of_find?_eq_some hf)
theorem nm_apply {N : Nat} {σ : List (List UInt8 × Term)} (h : ∀ b, b ∈ σ → nmB N b.2 = true) (t : Term) : nmB N t = true → nmB N (applyP σ t) = true := by
  induction t using Term.ind with | _ n u xs ih
  intro ht
  obtain ⟨h1, h2⟩ := (nmB_iff _ _ _ _).1 ht
  rw [applyP_mk]
  split
  · exact nm_image h n h1
  · refine (nmB_iff _ _ _ _).2 ⟨h1, fun x hx => ?_⟩
    obtain ⟨y, hy, rfl⟩ := List.mem_map.1 hx
    exact ih y hy (h2 y hy)
theorem nm_put {N : Nat} {x : Term} (hx : nmB N x = true) : ∀ (p : List Int) (t y : Term), atP t p = some y → nmB N t = true → nmB N (putP t p x) = true
  | [], t, y, _, _ => by cases t; exact hx
  | i :: p, .mk n u xs, y, h, ht => by
    obtain ⟨hk, h2⟩ := step_some h
    obtain ⟨h1, h3⟩ := (nmB_iff _ _ _ _).1 ht
    rw [step_put n u xs i p x hk.2]
    refine (nmB_iff _ _ _ _).2 ⟨h1, fun z hz => ?_⟩
    rcases List.mem_or_eq_of_mem_set hz with hz | rfl
    · exact h3 z hz
    · exact nm_put hx p _ y h2 (h3 _ (List.getElem_mem hk.2))
def TmB (t : Term) : Prop := t.size ≤ 4000 ∧ nmB 1048576 t = true
theorem TmB.bulk {t : Term} (h : TmB t) : t.bulk ≤ 4194308000 := by
  have h1 := nm_bulk 1048576 t h.2
  have h2 : t.size * (1048576 + 1) ≤ 4000 * (1048576 + 1) := Nat.mul_le_mul h.1 (Nat.le_refl _)
  omega
def RuB (rs : List (Term × Term)) : Prop := ∀ r, r ∈ rs → r.1.bulk ≤ 1048576 ∧ r.2.bulk ≤ 1048576
theorem rhs_nm {rs : List (Term × Term)} (hr : RuB rs) {t : Term} (ht : TmB t) {s : Int × List Int} {x : Term} (hf : FindOk rs t s x (findE rs t s).1) : nmB 1048576 (rhsP rs t s) = true := by
  have hxn := nm_sub (at_sub _ _ _ hf.at') ht.2
  exact nm_apply (fun b hb => nm_sub (hf.subOk.1.sub b hb) hxn) _ (nm_of _ _ (hr _ hf.mem).2)
theorem do_TmB {rs : List (Term × Term)} (hr : RuB rs) {t : Term} (ht : TmB t) {s : Int × List Int} (h : (doE rs t s).2 = 0) : TmB (doE rs t s).1 := by
  rw [do_alt] at h ⊢
  split
  · rename_i h1; rw [if_pos h1] at h; exact absurd h h1
  · rename_i h1
    rw [if_neg h1] at h
    obtain ⟨x, hf⟩ := find_ok (by simpa using h1)
    split
    · rename_i h2
      exact ⟨fits_size h2, nm_put (rhs_nm hr ht hf) _ _ _ hf.at' ht.2⟩
    · rename_i h2; rw [if_neg h2] at h; cases h
set_option maxHeartbeats 2000000 in
theorem stepRX_ac (rs : List (Term × Term)) (hr : RuB rs) (t : Term) (ht : TmB t) (s : Int × List Int) (hs : s.2.length < 1099511627776) (H : List AObj) :
    ACall Tryz.prog 51 [.sl .none (encL encRu rs), encT t, encSt s] H (fun r H' => r = encRE (doE rs t s) ∧ H' = H) := by
  have htb := ht.bulk
  rw [do_alt]
  refine ACall_V (H.length) 59 [.cell 6 25, .tmp 7] Tryz.func51 rfl rfl rfl ?_
  simp only [push_cast, Nat.reduceAdd, Nat.reduceSub, Nat.reduceMul, Nat.reduceLT, Nat.reduceLeDiff, Nat.reduceEqDiff, Int.reduceToNat, ↓reduceIte]
  refine (substRX_ac rs (fun r h => by have := hr r h; omega) t (by omega) s hs _).to ?_
  simp only [push_cast, Nat.reduceAdd, Nat.reduceSub, Nat.reduceMul, Nat.reduceLT, Nat.reduceLeDiff, Nat.reduceEqDiff, Int.reduceToNat, ↓reduceIte, encFE]
  refine cI (fun h => ?_) (fun h => ?_)
  · rw [if_neg (by simpa using h)]
    obtain ⟨x, hf⟩ := find_ok h
    obtain ⟨hso, hsl⟩ := hf.subOk
    have hxs := at_sub _ _ _ hf.at'
    have hrb := hr _ hf.mem
    have hlz := (ruleN rs s.1).1.size_le
    have hrz := (ruleN rs s.1).2.size_le
    have hrn := ruleN_get hf.hi
    have hxz := hxs.sizes.1
    have hxb := hxs.bulk
    have ht1 := ht.1
    have hap : (rhsP rs t s).size ≤ (ruleN rs s.1).2.size * 4000 := apply_size _ 4000 (by decide) (fun b hb => by have := (hso.bulk b hb).2; omega) _
    have hap2 : (rhsP rs t s).size ≤ 4194304000 := by omega
    have hapd := (rhsP rs t s).depth_le
    have hnm := rhs_nm hr ht hf
    have hap3 : (applyP (findE rs t s).1 (ruleN rs s.1).2).size ≤ 4194304000 := hap2
    have hsbk : ∀ b, b ∈ (findE rs t s).1 → b.2.bulk ≤ 1099511627775 := fun b hb => by have := (hso.bulk b hb).1; omega
    refine ⟨hf.lo, hf.hi, ?_⟩
    rw [← hrn]
    refine (grownR_ac (findE rs t s).1 (by omega) hsbk (ruleN rs s.1).2 (by omega) (by omega) _).to ?_
    simp only [push_cast, Nat.reduceAdd, Nat.reduceSub, Nat.reduceMul, Nat.reduceLT, Nat.reduceLeDiff, Nat.reduceEqDiff, Int.reduceToNat, ↓reduceIte]
    refine (replacedX_ac (rhsP rs t s) (by omega) (by omega) s.2 t x (by omega) hs hf.at' _).to ?_
    simp only [push_cast, Nat.reduceAdd, Nat.reduceSub, Nat.reduceMul, Nat.reduceLT, Nat.reduceLeDiff, Nat.reduceEqDiff, Int.reduceToNat, ↓reduceIte]
    have hsub := at_sub _ _ _ (at_put _ _ (rhsP rs t s) _ hf.at')
    obtain ⟨u, hu⟩ : ∃ u, u = putP t s.2 (rhsP rs t s) := ⟨_, rfl⟩
    rw [← hu] at hsub ⊢
    have fn : ¬ (u.size ≤ 4000 ∧ u.depth ≤ 200) → ¬ fitsP u = true := fun h1 h2 => by
      unfold fitsP at h2
      rw [Bool.and_eq_true, decide_eq_true_eq, decide_eq_true_eq] at h2
      exact h1 h2
    refine cI (fun h1 => ?_) (fun h1 => ?_)
    · rw [if_neg (fn (by omega))]
      simp only [push_cast, Nat.reduceAdd, Nat.reduceSub, Nat.reduceMul, Nat.reduceLT, Nat.reduceLeDiff, Nat.reduceEqDiff, Int.reduceToNat, ↓reduceIte]
    · refine cI (fun h2 => ?_) (fun h2 => ?_)
      · rw [if_neg (fn (by omega))]
        simp only [push_cast, Nat.reduceAdd, Nat.reduceSub, Nat.reduceMul, Nat.reduceLT, Nat.reduceLeDiff, Nat.reduceEqDiff, Int.reduceToNat, ↓reduceIte]
      · have hfu : fitsP u = true := by unfold fitsP; rw [Bool.and_eq_true, decide_eq_true_eq, decide_eq_true_eq]; omega
        rw [if_pos hfu]
        have hus := hsub.sizes.1
        have hub := (show TmB (rhsP rs t s) from ⟨by omega, hnm⟩).bulk
        apply AW_drawE [some 50, some 51, some 52, some 53, some 54, some 55, some 56, some 57, some 58, some 59, some 60, some 61, none, some 7] [([false], _), ([true], _)] [none, none, none, none, none, none, none, none, none, none, none, none, some 0, none] 1 [(0, [false], [4]), (1, [false], [5]), (2, [false], [51]), (3, [false], [8]), (4, [false], [0]), (5, [false], [5]), (6, [false], [55]), (7, [false], [54, 1]), (8, [false], [57]), (9, [false], [58]), (10, [false], [53, 5]), (11, [false], [50, 1, 7]), (12, [false], [6, 54]), (13, [true], [])] [_, _, _, _, _, _, _, _, _, _, _, _, _, _]
        case' hm => exact dr
        case' hn => rfl
        case' hok => rfl
        case' hlen => rfl
        case' hd => rfl
        case' h0 => rfl
        case' hstep =>
         simp only [DAllG, push_cast, Option.isSome_some, Option.isSome_none]
         repeat' apply And.intro
         all_goals (apply DOne_V; simp only [push_cast, Nat.reduceAdd, Nat.reduceSub, Nat.reduceMul, Nat.reduceLT, Nat.reduceLeDiff, Nat.reduceEqDiff, Int.reduceToNat, ↓reduceIte] <;> first | exact rfl | omega | exact ⟨rfl, rfl⟩ | exact trivial | exact ⟨by omega, rfl⟩ | exact ⟨by omega, by omega, rfl⟩ | exact ⟨by omega, rfl, rfl⟩ | exact ⟨by omega, by omega, rfl, rfl⟩ | exact ⟨hf.lo, hf.hi, rfl⟩ | (rw [← hrn]; refine (applyR_ac (findE rs t s).1 (by omega) (ruleN rs s.1).2 (by omega) _).to ?_; exact ⟨rfl, rfl⟩) | (refine (putR_ac (rhsP rs t s) (by omega) s.2 t x (by omega) hs hf.at' _).to ?_; exact ⟨rfl, rfl⟩))
        case' hQ => skip
        rw [← hu]
        simp only [push_cast, Nat.reduceAdd, Nat.reduceSub, Nat.reduceMul, Nat.reduceLT, Nat.reduceLeDiff, Nat.reduceEqDiff, Int.reduceToNat, ↓reduceIte]
  · rw [if_pos h]
    simp only [push_cast, Nat.reduceAdd, Nat.reduceSub, Nat.reduceMul, Nat.reduceLT, Nat.reduceLeDiff, Nat.reduceEqDiff, Int.reduceToNat, ↓reduceIte]
def runF (rs : List (Term × Term)) : List Term → Term → List (Int × List Int) → List Term × Int
  | acc, _, [] => (acc, 0)
  | acc, t, s :: r => if (doE rs t s).2 ≠ 0 then ([], (doE rs t s).2) else runF rs (acc ++ [(doE rs t s).1]) (doE rs t s).1 r
def termsE (rs : List (Term × Term)) (c : Term × List (Int × List Int)) : List Term × Int :=
  if 4096 < c.2.length then ([], 3) else if checkP c.1 ≠ 0 then ([], checkP c.1) else runF rs [c.1] c.1 c.2
def encTE (q : List Term × Int) : AV := .tup [.sl .none (encTs q.1), .int .i64 q.2]
theorem check_TmB {t : Term} (h : checkP t = 0) : TmB t := ⟨(check_small h).1, nm_of _ _ (by have := (check_small h).2; omega)⟩
theorem gSl_tk (k : Nat) (xs : List AV) : ∃ tk, gSl k xs = .sl tk xs := by cases xs <;> exact ⟨_, rfl⟩
@[reducible] def encCh (c : Term × List (Int × List Int)) : AV := .agg [.str c.1.name, .bool c.1.var, .sl .none (encTs c.1.args), .sl .none (encL encSt c.2)]
set_option maxHeartbeats 2000000 in
theorem termsR_ac (rs : List (Term × Term)) (hr : RuB rs) (c : Term × List (Int × List Int)) (hc1 : c.1.bulk ≤ 1099511627775) (hc2 : c.2.length < 1099511627776) (hc3 : ∀ x, x ∈ c.2 → x.2.length < 1099511627776) (H : List AObj) :
    ACall Tryz.prog 15 [.sl .none (encL encRu rs), encCh c] H (fun r H' => r = encTE (termsE rs c) ∧ H' = H) := by
  refine ACall_VA (H.length) 51 [.tmp 4, .tmp 5] Tryz.func15 rfl rfl rfl ?_
  refine AW_reserve 1 ?_
  refine AW_seq (AW_of_W ?_)
  simp only [push_cast, Nat.reduceAdd, Nat.reduceSub, Nat.reduceMul, Nat.reduceLT, Nat.reduceLeDiff, Nat.reduceEqDiff, Int.reduceToNat, ↓reduceIte]
  refine AW_seq (AW_of_W ?_)
  simp only [push_cast, Nat.reduceAdd, Nat.reduceSub, Nat.reduceMul, Nat.reduceLT, Nat.reduceLeDiff, Nat.reduceEqDiff, Int.reduceToNat, ↓reduceIte]
  refine cI (fun h => ?_) (fun h => ?_)
  · have e : termsE rs c = ([], 3) := if_pos (by omega)
    rw [e]
    simp only [push_cast, Nat.reduceAdd, Nat.reduceSub, Nat.reduceMul, Nat.reduceLT, Nat.reduceLeDiff, Nat.reduceEqDiff, Int.reduceToNat, ↓reduceIte, encTE, encTs_nil]
  · have e0 : termsE rs c = if checkP c.1 ≠ 0 then ([], checkP c.1) else runF rs [c.1] c.1 c.2 := if_neg (by omega)
    refine AW_seq (AW_of_W ?_)
    simp only [push_cast, Nat.reduceAdd, Nat.reduceSub, Nat.reduceMul, Nat.reduceLT, Nat.reduceLeDiff, Nat.reduceEqDiff, Int.reduceToNat, ↓reduceIte]
    refine (checkR_ac c.1 hc1 _).to ?_
    simp only [push_cast, Nat.reduceAdd, Nat.reduceSub, Nat.reduceMul, Nat.reduceLT, Nat.reduceLeDiff, Nat.reduceEqDiff, Int.reduceToNat, ↓reduceIte]
    refine cI (fun h2 => ?_) (fun h2 => ?_)
    · refine AW_seq ?_
      refine AW_regionAt _ [_, _] _ _ rfl rfl ?_
      simp only [push_cast, Nat.reduceAdd, Nat.reduceSub, Nat.reduceMul, Nat.reduceLT, Nat.reduceLeDiff, Nat.reduceEqDiff, Int.reduceToNat, ↓reduceIte]
      refine bsliceG_sound H.length ?_
      simp only [push_cast, Nat.reduceAdd, Nat.reduceSub, Nat.reduceMul, Nat.reduceLT, Nat.reduceLeDiff, Nat.reduceEqDiff, Int.reduceToNat, ↓reduceIte, bsliceG]
      refine AW_of_W ?_
      simp only [push_cast, Nat.reduceAdd, Nat.reduceSub, Nat.reduceMul, Nat.reduceLT, Nat.reduceLeDiff, Nat.reduceEqDiff, Int.reduceToNat, ↓reduceIte]
      have e1 : termsE rs c = runF rs [c.1] c.1 c.2 := e0.trans (if_neg (by simpa using h2))
      obtain ⟨l, hl⟩ : ∃ l, l = c.2 := ⟨_, rfl⟩
      have hll : l.length ≤ 4096 := by rw [hl]; omega
      refine AW_loopW (maskG 53 [0, 6, 18, 0, 0]) (fun (q : Nat × List Term × Term) => [(28, .int .i64 q.1), (7, gSl H.length (encTs (q.2.1 ++ [q.2.2])))]) (fun q => H ++ [gTok 25 3 (encTs (q.2.1 ++ [q.2.2])), .cells [.str c.1.name, .bool c.1.var, .sl .none (encTs c.1.args), .sl .none (encL encSt c.2)]]) (fun q => q.1 ≤ c.2.length ∧ q.2.1.length = q.1 ∧ TmB q.2.2 ∧ termsE rs c = runF rs (q.2.1 ++ [q.2.2]) q.2.2 (c.2.drop q.1)) (fun q => c.2.length - q.1) (0, [], c.1) ⟨Nat.zero_le _, rfl, check_TmB (by simpa using h2), by rw [e1]; rfl⟩ (by simp only [push_cast, Nat.reduceAdd, Nat.reduceSub, Nat.reduceMul, Nat.reduceLT, Nat.reduceLeDiff, Nat.reduceEqDiff, Int.reduceToNat, ↓reduceIte, List.nil_append, encTs_one, gSl_cons, gTok_cons]) (fun q hq => ?_)
      obtain ⟨i, pre, u⟩ := q
      obtain ⟨q1, q2, q3, q4⟩ := hq
      simp only at q1 q2 q3 q4
      obtain ⟨acc, hacc⟩ : ∃ acc, acc = pre ++ [u] := ⟨_, rfl⟩
      have hal : acc.length = pre.length + 1 := by rw [hacc]; simp
      have hget : ∀ h, acc[pre.length]'h = u := by intro h; simp only [hacc]; simp
      have hm : (acc.length : Int) - 1 = ((pre.length : Nat) : Int) := by omega
      rw [← hacc] at q4 ⊢
      simp only [push_cast, Nat.reduceAdd, Nat.reduceSub, Nat.reduceMul, Nat.reduceLT, Nat.reduceLeDiff, Nat.reduceEqDiff, Int.reduceToNat, ↓reduceIte]
      refine cI (fun h => ?_) (fun h => ?_)
      · have hil : i < c.2.length := by omega
        refine ⟨hil, ?_⟩
        obtain ⟨s, hs⟩ : ∃ s, s = c.2[i]'hil := ⟨_, rfl⟩
        have hsb : s.2.length < 1099511627776 := by rw [hs]; exact hc3 _ (List.getElem_mem hil)
        rw [List.drop_eq_getElem_cons hil, ← hs] at q4
        rw [← hs]
        have hst := fun X => stepRX_ac rs hr u q3 s hsb X
        obtain ⟨tk, htk⟩ := gSl_tk H.length (encTs acc)
        rw [htk]
        apply AW_drawE [some 33, some 34, some 35, some 36, some 37, some 38, some 39, some 40, some 41, some 32, some 42, some 43, some 10, none, some 11] [([false, false], _), ([true, false], _), ([true, true], _)] [none, none, none, none, none, none, none, none, none, none, none, none, some 0, some 1, none] 2 [(0, [false, false], [0]), (1, [false, false], [7]), (2, [false, false], [7]), (3, [false, false], [35]), (4, [false, false], [36]), (5, [false, false], [34, 2]), (6, [false, false], [38]), (7, [false, false], [9]), (8, [false, false], [33, 5, 0]), (9, [false, false], [41]), (10, [false, false], [32]), (11, [false, false], [32]), (12, [false, false], []), (13, [true, false], [10, 31]), (14, [true, true], [43]), (0, [true, false], [0]), (1, [true, false], [7]), (2, [true, false], [7]), (3, [true, false], [35]), (4, [true, false], [36]), (5, [true, false], [34, 2]), (6, [true, false], [38]), (7, [true, false], [9]), (8, [true, false], [33, 5, 0]), (9, [true, false], [41]), (10, [true, false], [32]), (11, [true, false], [32]), (11, [true, true], [32])] [_, _, _, _, _, _, _, _, _, _, _, _, _, _, _]
        case' hm => exact dr
        case' hn => rfl
        case' hok => rfl
        case' hlen => rfl
        case' hd => rfl
        case' h0 => rfl
        case' hstep =>
         simp only [DAllG, push_cast, Option.isSome_some, Option.isSome_none]
         repeat' apply And.intro
         all_goals (apply DOne_V; simp only [push_cast, Nat.reduceAdd, Nat.reduceSub, Nat.reduceMul, Nat.reduceLT, Nat.reduceLeDiff, Nat.reduceEqDiff, Int.reduceToNat, ↓reduceIte, hm, hget] <;> first | exact rfl | omega | exact ⟨rfl, rfl⟩ | exact trivial | exact ⟨by omega, rfl⟩ | exact ⟨by omega, by omega, rfl⟩ | exact ⟨by omega, rfl, rfl⟩ | exact ⟨by omega, by omega, rfl, rfl⟩ | exact ⟨by omega, by omega, trivial⟩ | exact ⟨by omega, trivial⟩ | (refine (hst _).to ?_; exact ⟨rfl, rfl⟩))
        case' hQ => skip
        simp only [push_cast, Nat.reduceAdd, Nat.reduceSub, Nat.reduceMul, Nat.reduceLT, Nat.reduceLeDiff, Nat.reduceEqDiff, Int.reduceToNat, ↓reduceIte]
        have hd := do_TmB hr q3 (s := s)
        have hapl : acc.length < 1099511627776 := by omega
        refine cI (fun h3 => ?_) (fun h3 => ?_)
        · refine app1_T _ H.length acc (doE rs u s).1 _ (by rw [htk]; rfl) rfl (by exact aget0 _ _ _) sl23 sz25 by25 zr25 rfl (by decide) (by omega) ?_
          simp only [push_cast, Nat.reduceAdd, Nat.reduceSub, Nat.reduceMul, Nat.reduceLT, Nat.reduceLeDiff, Nat.reduceEqDiff, Int.reduceToNat, ↓reduceIte]
          repeat' first | refine ⟨by omega, ?_⟩ | refine cI (fun _ => ?_) (fun _ => ?_)
          refine loopW_n (i + 1, pre ++ [u], (doE rs u s).1) ⟨by simp only; omega, by simp; omega, hd h3, ?_⟩ (by simp only; omega) ?_
          · rw [q4, runF, if_neg (by simpa using h3), hacc]
          · rw [← hacc]
            simp only [push_cast, Nat.reduceAdd, Nat.reduceSub, Nat.reduceMul, Nat.reduceLT, Nat.reduceLeDiff, Nat.reduceEqDiff, Int.reduceToNat, ↓reduceIte]
        · rw [q4, runF, if_pos h3]
          simp only [push_cast, Nat.reduceAdd, Nat.reduceSub, Nat.reduceMul, Nat.reduceLT, Nat.reduceLeDiff, Nat.reduceEqDiff, Int.reduceToNat, ↓reduceIte, encTE, encTs_nil]
      · rw [List.drop_of_length_le (show c.2.length ≤ i by omega)] at q4
        rw [q4]
        simp only [push_cast, Nat.reduceAdd, Nat.reduceSub, Nat.reduceMul, Nat.reduceLT, Nat.reduceLeDiff, Nat.reduceEqDiff, Int.reduceToNat, ↓reduceIte, encTE, runF]
    · have e : termsE rs c = ([], checkP c.1) := e0.trans (if_pos h2)
      rw [e]
      simp only [push_cast, Nat.reduceAdd, Nat.reduceSub, Nat.reduceMul, Nat.reduceLT, Nat.reduceLeDiff, Nat.reduceEqDiff, Int.reduceToNat, ↓reduceIte, encTE, encTs_nil]
end Ab
set_option maxRecDepth 10000
namespace Ab
open Go Go.Proofs
section
variable {P : Program} {ro : Option Nat} {H0 : List AObj} {Q : Exit → ASt → Prop} {st : ASt} {K : AV → List AObj → Prop} {dst : Option Tmp} {ty : TypeId} {pos : String} {after : Array Edge} {guard : Option (Nat × Bool)}
inductive ToA (m : Nat) (h : List AObj) : AV → AV → Prop
  | fgt {r v : AV} (hf : fgtW r v) : ToA m h r v
  | rowA (k e sz : Nat) {xs cs cs' : List AV} {b b' : AV} (hk : h[k]? = some (grO e sz xs)) (hl : (flat xs).length = xs.length * sz) (hm : m ≤ k) (hsc : ScopedL m (flat xs)) (hc : fgtL cs cs') (hb : fgtW b b') : ToA m h (.tup [.agg (grS k xs :: cs), b]) (.tup [.agg (.sl .none xs :: cs'), b'])
def finHH (H : List AObj) (m : Nat) (v : AV) (H1 h : List AObj) (r : AV) : Prop := OutOk H h m ∧ ToA m h r v ∧ Scoped m v ∧ h.take m = H1
def finVH (P : Program) (H : List AObj) (m : Nat) (v : AV) (H1 : List AObj) (rs : List ResultVar) : Exit → ASt → Prop
  | .normal, st => finR P rs st (finHH H m v H1 st.heap)
  | .ret, st => finR P rs st (finHH H m v H1 st.heap)
  | _, _ => False
theorem ACall_VHA {f : Nat} {fn : Func} {c : Code} {args : List AV} {H H1 : List AObj} {v : AV} (m n : Nat) (rs : List ResultVar) (hf : P.funcs[f]? = some fn) (hb : fn.body = some c) (hn : fn.ntmps - args.length = n) (hr : fn.results = rs.toArray)
    (h : AW P none H c (finVH P H m v H1 rs) ⟨args ++ List.replicate n (.lit undef), H⟩) : ACall P f args H (fun r H' => r = v ∧ H' = H1) := by
  subst hn
  intro C vs hg hH hsz hv
  refine ACall_of_AW (P := P) hf hb ?_ C vs hg hH hsz hv (R := fun r H' => r = v ∧ H' = H1)
  refine AW_mono h ?_
  intro e st' hh
  have key : finR P rs st' (finHH H m v H1 st'.heap) → ∃ r, ResOk P fn st' r ∧ finHH H m v H1 st'.heap r := by
    intro hh
    cases rs with
    | nil => exact ⟨.tup [], by unfold ResOk; rw [hr], hh⟩
    | cons x rs =>
      cases rs with
      | nil =>
        refine ⟨_, ?_, hh.2⟩
        have := resPre_spec hh.1
        unfold ResOk; rw [hr]
        cases x with
        | tmp t => rfl
        | cell a t => exact this
      | cons y l =>
        refine ⟨_, ?_, hh.2⟩
        unfold ResOk; rw [hr]
        have h2 := resPres_spec hh.1
        cases x <;> exact ⟨_, rfl, h2⟩
  have fin : (∃ r, ResOk P fn st' r ∧ finHH H m v H1 st'.heap r) → ∀ C1 a, Good C1 → C1.H = st'.heap → SRel C1 st' a → ∃ u r C', (results fn a.tmps).run P C1.w = .ok u C1.w ∧ C'.w = C1.w ∧ Good C' ∧ (∀ C0, Ext C0 C1 → C0.H = H → Good C0 → Ext C0 C') ∧ VRel C' r u ∧ (r = v ∧ C'.H = H1) := by
    rintro ⟨r, hr, ho, hto, hsc, ht⟩ C1 a hg1 hH1 hs1
    obtain ⟨u, hrun, hrel⟩ := results_run hr hg1 hH1 hs1
    have ho' : OutOk C.H C1.H m := by rw [hH, hH1]; exact ho
    have hgt : Good (C1.take m) := Good.take hg hg1 ho'
    have hht : (C1.take m).H = H1 := by show C1.H.take m = H1; rw [hH1]; exact ht
    cases hto with
    | fgt hf => exact ⟨u, v, C1.take m, hrun, rfl, hgt, fun C0 hx h0 _ => hx.take (by rw [h0]; exact ho.2.1), (fgtW_spec _ _ hf _ _ hrel).take hsc, rfl, hht⟩
    | @rowA k e sz xs cs cs' b b' hk hl hm hs2 hcc hbb =>
      cases hrel with
      | tup _ us hsz hrel =>
        have h0 := hrel 0 (by simp)
        have h1 := hrel 1 (by simp)
        obtain ⟨vs, hxx, hvs, hvr⟩ := h0.agg_inv
        have hv0 := hvr 0 (by simp)
        obtain ⟨C', e1, e2, e3, e4, e5⟩ := gr_frz hg1 hv0 (by rw [hH1]; exact hk) hl hm hgt hs2
        have hsb : Scoped m b' := by simp only [Scoped, ScopedL] at hsc; exact hsc.2.1
        have hsc' : ScopedL m cs' := by simp only [Scoped, ScopedL] at hsc; exact hsc.1.2
        obtain ⟨q1, q2⟩ := fgtL_spec _ _ hcc
        refine ⟨_, .tup [.agg (.sl .none xs :: cs'), b'], C', hrun, e1, e3, fun C0 hx h0 _ => (hx.take (by rw [h0]; exact ho.2.1)).trans e4, .tup _ us hsz (fun i hi => ?_), rfl, e2.trans hht⟩
        match i, hi with
        | 0, _ =>
          simp only [List.getElem_cons_zero]
          rw [hxx]
          refine .agg _ vs (by simp only [List.length_cons] at hvs ⊢; omega) (fun j hj => ?_)
          match j, hj with
          | 0, _ => exact e5
          | j + 1, hj =>
            simp only [List.length_cons] at hj
            have hj1 : j < cs.length := by omega
            have hj2 : j < cs'.length := by omega
            have h3 := hvr (j + 1) (by simp only [List.length_cons]; omega)
            exact ((q2 j hj1 hj2 _ _ h3).take (ScopedL_iff.1 hsc' _ (List.getElem_mem hj2))).ext e4
        | 1, _ => exact ((fgtW_spec _ _ hbb _ _ h1).take hsb).ext e4
  cases e <;> first
    | exact fin (key hh)
    | exact hh.elim
end
section rules
variable {P : Program} {st : ASt}
theorem finVH_n {H H1 : List AObj} {m : Nat} {v : AV} {rs : List ResultVar} : finVH P H m v H1 rs .normal st = finR P rs st (finHH H m v H1 st.heap) := (rfl)
theorem finVH_r {H H1 : List AObj} {m : Nat} {v : AV} {rs : List ResultVar} : finVH P H m v H1 rs .ret st = finR P rs st (finHH H m v H1 st.heap) := (rfl)
end rules
attribute [push_cast] finVH_n finVH_r finHH
end Ab
set_option maxRecDepth 10000
namespace Ab
open Go Go.Proofs
theorem run_last {rs : List (Term × Term)} : ∀ (l : List (Int × List Int)) (pre : List Term) (t : Term), (runF rs (pre ++ [t]) t l).2 = 0 → ∃ q u, (runF rs (pre ++ [t]) t l).1 = q ++ [u] ∧ q.length = pre.length + l.length
  | [], pre, t, _ => ⟨pre, t, rfl, rfl⟩
  | s :: l, pre, t, h => by
    rw [runF] at h ⊢
    by_cases hd : (doE rs t s).2 ≠ 0
    · rw [if_pos hd] at h; exact absurd h hd
    · rw [if_neg hd] at h ⊢
      obtain ⟨q, u, e1, e2⟩ := run_last l (pre ++ [t]) (doE rs t s).1 h
      exact ⟨q, u, e1, by rw [e2]; simp; omega⟩
theorem terms_last {rs : List (Term × Term)} {c : Term × List (Int × List Int)} (h : (termsE rs c).2 = 0) : ∃ q u, (termsE rs c).1 = q ++ [u] ∧ q.length = c.2.length ∧ c.2.length ≤ 4096 := by
  unfold termsE at h ⊢
  by_cases h1 : 4096 < c.2.length
  · rw [if_pos h1] at h; cases h
  · rw [if_neg h1] at h ⊢
    by_cases h2 : checkP c.1 ≠ 0
    · rw [if_pos h2] at h; exact absurd h h2
    · rw [if_neg h2] at h ⊢
      obtain ⟨q, u, e1, e2⟩ := run_last c.2 [] c.1 h
      exact ⟨q, u, e1, by simpa using e2, by omega⟩
end Ab
set_option maxRecDepth 10000
namespace Ab
open Go Go.Proofs
section
variable {P : Program} {ro : Option Nat} {st : ASt} {K : AV → List AObj → Prop} {dst : Option Tmp} {ty : TypeId} {pos : String} {after : Array Edge} {guard : Option (Nat × Bool)}
theorem made_one (z : Value) (n : Nat) (c : Array Value) (h : c.toList = [z]) : (madeCells c n).toList = List.replicate n z := by
  have hc : c = #[z] := by
    apply Array.ext'
    exact h
  subst hc
  apply List.ext_getElem
  · simp [madeCells]
  · intro i h1 h2
    simp [madeCells, Nat.mod_one]
theorem AOp_make1 {t e by_ : Nat} {l c : Operand} (n : Nat) (kl kc : IntKind) (z : Value) (hl : st.opd l = .int kl (n : Nat)) (hc : st.opd c = .int kc (n : Nat)) (ht : SliceT P t e) (hsz : SzOf P e 1) (hby : BytesOf P e by_) (hz : ZeroOf P e [z]) (hzc : (ofVal z).isCell = true) (hb : by_ ≤ 100) (hn : n ≤ 1099511627776)
    (k : K (.arr st.heap.length 0 n) (st.heap ++ [.cells (List.replicate n (ofVal z))])) : AOp P ro ⟨dst, .makeSlice t l c, ty, pos, after, guard⟩ K st :=
  AOp_value (fun ρ => semAt_of (fun c => by simp) ro ρ) fun C a hg hH hs => by
    have e1 := hs.opd l
    have e2 := hs.opd c
    rw [hl] at e1
    rw [hc] at e2
    have e1 := e1.int_inv
    have e2 := e2.int_inv
    obtain ⟨i, z', hi, i1, i2, i3, i4⟩ := info_of hsz hby hz
    have hbb : by_ * n ≤ 100 * 1099511627776 := Nat.mul_le_mul hb hn
    have hb2 : (by_ : Int) * (n : Int) ≤ 281474976710656 := by
      have : ((by_ * n : Nat) : Int) ≤ 281474976710656 := by omega
      rwa [Int.natCast_mul] at this
    have hrun := run_make (P := P) C.w t e i z' ht hi i3 kl kc (n : Nat) (n : Nat) (by omega) (Int.le_refl _) (by rw [i2]; exact hb2) (by omega)
    rw [i1, Nat.mul_one, Int.toNat_natCast] at hrun
    obtain ⟨cs, hcs⟩ : ∃ cs, cs = madeCells z'.cells n := ⟨_, rfl⟩
    have hcl : cs.toList = List.replicate n z := by rw [hcs]; exact made_one z n _ i4
    have hcz : cs.size = n := by have := congrArg List.length hcl; simpa using this
    rw [← hcs] at hrun
    have hcg : ∀ j (h : j < cs.size), cs[j] = z := fun j h => by
      have h1 : cs.toList[j]'(by simpa using h) = z := by simp [hcl]
      simpa using h1
    obtain ⟨hg', he⟩ := step_new hg (.cells (List.replicate n (ofVal z))) (.cells cs e) (C.w.alloc (.cells cs e)) rfl ⟨rfl, rfl, rfl⟩ (by simp [AObj.kind]) rfl (fun he => by
      refine ⟨cs, e, ?_, ?_, ?_, ?_⟩
      · simp only [if_true]; exact heap_alloc_new _ _
      · simp [hcz]
      · simp; exact hg.fresh _ (Nat.le_refl _)
      · intro j hj hj'
        rw [hcg j hj']
        have := VRel.ofVal (C := { S := C.S, μ := fun k => if k = C.H.length then C.w.heap.size else C.μ k, H := C.H ++ [AObj.cells (List.replicate n (ofVal z))], w := C.w.alloc (.cells cs e) }) z
        refine ⟨by simpa using this, ?_⟩
        simpa using hzc)
    refine ⟨_, .slice (some ⟨C.w.heap.size, 0, none⟩) n n, .arr st.heap.length 0 n, ?_, hg', he, ?_, ?_⟩
    · simp [execOp, e1, e2, hrun]
    · have := VRel.arr (C := { S := C.S, μ := fun k => if k = C.H.length then C.w.heap.size else C.μ k, H := C.H ++ [AObj.cells (List.replicate n (ofVal z))], w := C.w.alloc (.cells cs e) }) st.heap.length 0 n n ⟨.cells (List.replicate n (ofVal z)), by simp [hH], rfl⟩ (Nat.le_refl _)
      rw [← hH] at this ⊢
      simpa using this
    · rw [← hH] at k ⊢; exact k
end
end Ab
set_option maxRecDepth 10000
namespace Ab
open Go Go.Proofs
def keyP : Term → List UInt8
  | .mk n u xs => n ++ ((if u then 63 else 40) :: ((xs.map keyP).flatten ++ [41]))
theorem keyP_mk (n : List UInt8) (u : Bool) (xs : List Term) : keyP (.mk n u xs) = n ++ ((if u then 63 else 40) :: (xs.flatMap keyP ++ [41])) := by simp [keyP, List.flatMap]
def markB (c : UInt8) : Bool := decide (c = 40) || decide (c = 41) || decide (c = 63)
theorem split_mark : ∀ (n m : List UInt8) (c d : UInt8) (a b : List UInt8), (∀ x, x ∈ n → markB x = false) → (∀ x, x ∈ m → markB x = false) → markB c = true → markB d = true → n ++ c :: a = m ++ d :: b → n = m ∧ c = d ∧ a = b
  | [], [], c, d, a, b, _, _, _, _, h => by simpa using h
  | [], y :: m, c, d, a, b, _, h2, hc, _, h => by
    simp only [List.nil_append, List.cons_append, List.cons.injEq] at h
    have := h2 y (by simp)
    rw [← h.1, hc] at this; cases this
  | x :: n, [], c, d, a, b, h1, _, _, hd, h => by
    simp only [List.nil_append, List.cons_append, List.cons.injEq] at h
    have := h1 x (by simp)
    rw [h.1, hd] at this; cases this
  | x :: n, y :: m, c, d, a, b, h1, h2, hc, hd, h => by
    simp only [List.cons_append, List.cons.injEq] at h
    obtain ⟨e1, e2, e3⟩ := split_mark n m c d a b (fun z hz => h1 z (by simp [hz])) (fun z hz => h2 z (by simp [hz])) hc hd h.2
    exact ⟨by rw [h.1, e1], e2, e3⟩
theorem inName_markF : ∀ i : Fin 256, inNameB (UInt8.ofNat i.1) = true → markB (UInt8.ofNat i.1) = false := by decide +kernel
theorem inName_mark (c : UInt8) (h : inNameB c = true) : markB c = false := by
  have := inName_markF ⟨c.toNat, c.toNat_lt⟩
  simp only [UInt8.ofNat_toNat] at this
  exact this h
theorem name_mark {n : List UInt8} {b : Bool} (h : isNameP n b = true) : n ≠ [] ∧ ∀ c, c ∈ n → markB c = false := by
  unfold isNameP at h
  simp only [Bool.and_eq_true, decide_eq_true_eq, Bool.not_eq_true', List.any_eq_false, Bool.not_eq_true'] at h
  obtain ⟨_, h1, h2⟩ := h
  cases b with
  | false =>
    simp only [Bool.false_eq_true, if_false] at h1 h2
    exact ⟨h1, fun c hc => inName_mark c (by simpa using h2 c hc)⟩
  | true =>
    simp only [if_true] at h1 h2
    unfold trimSuffix at h1 h2
    by_cases hc : ([35] : List UInt8).length ≤ n.length ∧ n.drop (n.length - ([35] : List UInt8).length) = [35]
    · rw [if_pos hc] at h1 h2
      have e := List.take_append_drop (n.length - ([35] : List UInt8).length) n
      rw [hc.2] at e
      refine ⟨fun e0 => by rw [e0] at hc; simp at hc, fun c hcm => ?_⟩
      rw [← e, List.mem_append] at hcm
      rcases hcm with hcm | hcm
      · exact inName_mark c (by simpa using h2 c hcm)
      · rw [List.mem_singleton] at hcm; subst hcm; rfl
    · rw [if_neg hc] at h1 h2
      exact ⟨h1, fun c hc => inName_mark c (by simpa using h2 c hc)⟩
theorem key_inj (t : Term) : ∀ u r r', formedP t = true → formedP u = true → keyP t ++ r = keyP u ++ r' → t = u ∧ r = r' := by
  induction t using Term.ind with | _ n v xs ih
  intro u r r' ht hu h
  obtain ⟨m, w, ys⟩ := u
  have nm : ∀ {n : List UInt8} {v : Bool} {xs : List Term}, formedP (.mk n v xs) = true → (n ≠ [] ∧ ∀ c, c ∈ n → markB c = false) ∧ ∀ x, x ∈ xs → formedP x = true := by
    intro n v xs h
    rw [formedP_mk] at h
    cases v with
    | true =>
      simp only [if_true, Bool.and_eq_true, decide_eq_true_eq] at h
      have := List.eq_nil_of_length_eq_zero h.1
      subst this
      exact ⟨name_mark h.2, fun x hx => by simp at hx⟩
    | false =>
      simp only [Bool.false_eq_true, if_false, Bool.and_eq_true, List.all_eq_true] at h
      exact ⟨name_mark h.1.2, h.2⟩
  obtain ⟨⟨_, a2⟩, a3⟩ := nm ht
  obtain ⟨⟨_, b2⟩, b3⟩ := nm hu
  rw [keyP_mk, keyP_mk, List.append_assoc, List.append_assoc, List.cons_append, List.cons_append] at h
  obtain ⟨e1, e2, e3⟩ := split_mark _ _ _ _ _ _ a2 b2 (by cases v <;> rfl) (by cases w <;> rfl) h
  have hv : v = w := by cases v <;> cases w <;> simp_all
  have key : ∀ xs' ys' : List Term, (∀ x, x ∈ xs' → x ∈ xs) → (∀ y, y ∈ ys' → formedP y = true) → xs'.flatMap keyP ++ (41 :: r) = ys'.flatMap keyP ++ (41 :: r') → xs' = ys' ∧ r = r' := by
    have hd : ∀ (y : Term) (ys' : List Term) (s s' : List UInt8), formedP y = true → ¬ (41 :: s = keyP y ++ s') := by
      intro y ys' s s' hy e
      obtain ⟨k, z, zs⟩ := y
      obtain ⟨⟨c1, c2⟩, _⟩ := nm hy
      cases k with
      | nil => exact c1 rfl
      | cons c k =>
        rw [keyP_mk] at e
        simp only [List.cons_append, List.cons.injEq] at e
        have := c2 c (by simp)
        rw [← e.1] at this
        cases this
    intro xs'
    induction xs' with
    | nil =>
      intro ys' _ hy h
      cases ys' with
      | nil => simpa using h
      | cons y ys' =>
        rw [List.flatMap_cons, List.append_assoc] at h
        exact absurd h (hd y ys' _ _ (hy y (by simp)))
    | cons x xs' ih2 =>
      intro ys' hx hy h
      cases ys' with
      | nil =>
        rw [List.flatMap_cons, List.append_assoc] at h
        exact absurd h.symm (hd x xs' _ _ (a3 x (hx x (by simp))))
      | cons y ys' =>
        rw [List.flatMap_cons, List.append_assoc, List.flatMap_cons, List.append_assoc] at h
        obtain ⟨g1, g2⟩ := ih x (hx x (by simp)) y _ _ (a3 x (hx x (by simp))) (hy y (by simp)) h
        obtain ⟨g3, g4⟩ := ih2 ys' (fun z hz => hx z (by simp [hz])) (fun z hz => hy z (by simp [hz])) g2
        exact ⟨by rw [g1, g3], g4⟩
  have e4 : xs.flatMap keyP ++ (41 :: r) = ys.flatMap keyP ++ (41 :: r') := by simpa using e3
  obtain ⟨f1, f2⟩ := key xs ys (fun x h => h) b3 e4
  exact ⟨by rw [e1, hv, f1], f2⟩
theorem keyP_inj {t u : Term} (ht : formedP t = true) (hu : formedP u = true) (h : keyP t = keyP u) : t = u := (key_inj t u [] [] ht hu (by rw [h])).1
end Ab
set_option maxRecDepth 10000
namespace Ab
open Go Go.Proofs
theorem keyP_len (t : Term) : (keyP t).length ≤ 2 * t.bulk := by
  induction t using Term.ind with | _ n u xs ih
  rw [keyP_mk, Term.bulk_mk]
  have : ∀ ys : List Term, (∀ y, y ∈ ys → y ∈ xs) → (ys.flatMap keyP).length ≤ 2 * (ys.map Term.bulk).sum := by
    intro ys
    induction ys with
    | nil => intro _; simp
    | cons y ys ih2 =>
      intro hy
      have h1 := ih y (hy y (by simp))
      have h2 := ih2 (fun z hz => hy z (by simp [hz]))
      simp only [List.flatMap_cons, List.length_append, List.map_cons, List.sum_cons]
      omega
  have := this xs (fun y h => h)
  simp only [List.length_append, List.length_cons, List.length_nil]
  omega
theorem key_ac (t : Term) : t.bulk ≤ 1099511627775 → ∀ H, ACall Tryz.prog 152 [encT t] H (fun r H' => r = .str (keyP t) ∧ H' = H) := by
  induction t using Term.ind with | _ n u xs ih
  intro hb H
  have hl := Term.len_le (n := n) (v := u) (xs := xs)
  obtain ⟨c, hc⟩ : ∃ c : UInt8, c = if u then 63 else 40 := ⟨_, rfl⟩
  rw [keyP_mk, ← hc]
  refine ACall_V (H.length) 28 [.tmp 2] Tryz.func152 rfl rfl rfl ?_
  simp only [push_cast, Nat.reduceAdd, Nat.reduceSub, Nat.reduceMul, Nat.reduceLT, Nat.reduceLeDiff, Nat.reduceEqDiff, Int.reduceToNat, ↓reduceIte, Term.name, Term.var, Term.args]
  have hfin : ∀ i, i ≤ xs.length → ((xs.take i).flatMap keyP).length ≤ 2 * 1099511627775 := by
    intro i hi
    have h1 := keyP_len (.mk n u (xs.take i))
    rw [keyP_mk] at h1
    simp only [List.length_append, List.length_cons] at h1
    have h2 := take_sum_le Term.bulk xs i
    rw [Term.bulk_mk] at hb
    rw [Term.bulk_mk] at h1
    omega
  refine cI (fun h => ?_) (fun h => ?_)
  refine AOp_convert_str [63] .none (by simp only [push_cast, encB, List.map_cons, List.map_nil]; rfl) (by simp) sl175 (by kernel_rfl) (by kernel_rfl) ?_
  have hc63 : c = 63 := by rw [hc, if_pos h]
  rw [← hc63]
  rotate_left
  refine AOp_convert_str [40] .none (by simp only [push_cast, encB, List.map_cons, List.map_nil]; rfl) (by simp) sl175 (by kernel_rfl) (by kernel_rfl) ?_
  have hc63 : c = 40 := by rw [hc, if_neg h]
  rw [← hc63]
  all_goals (
    clear hc63 hc
    simp only [push_cast, Nat.reduceAdd, Nat.reduceSub, Nat.reduceMul, Nat.reduceLT, Nat.reduceLeDiff, Nat.reduceEqDiff, Int.reduceToNat, ↓reduceIte]
    have hnl := Term.name_le (n := n) (v := u) (xs := xs)
    refine ⟨by omega, ?_⟩
    refine AW_loopW (maskG 29 [4, 11, 0, 0]) (fun (i : Nat) => [(18, .int .i64 i), (4, .str (n ++ [c] ++ (xs.take i).flatMap keyP))]) (fun i => H ++ [.cells [.str n, .bool u, .sl .none (encTs xs)]]) (fun i => i ≤ xs.length) (fun i => xs.length - i) 0 (Nat.zero_le _) (by simp only [push_cast, Nat.reduceAdd, Nat.reduceSub, Nat.reduceMul, Nat.reduceLT, Nat.reduceLeDiff, Nat.reduceEqDiff, Int.reduceToNat, ↓reduceIte, List.take_zero, List.flatMap_nil, List.append_nil]) (fun i hi => ?_)
    simp only [push_cast, Nat.reduceAdd, Nat.reduceSub, Nat.reduceMul, Nat.reduceLT, Nat.reduceLeDiff, Nat.reduceEqDiff, Int.reduceToNat, ↓reduceIte]
    refine cI (fun h2 => ?_) (fun h2 => ?_)
    · have hil : i < xs.length := by omega
      have hbi := Term.arg_le (n := n) (v := u) (List.getElem_mem hil)
      have hf1 := hfin i (by omega)
      have hf2 := keyP_len (xs[i]'hil)
      have e : (xs.take (i + 1)).flatMap keyP = (xs.take i).flatMap keyP ++ keyP (xs[i]'hil) := by rw [List.take_succ_eq_append_getElem hil, List.flatMap_append]; simp
      refine ⟨hil, ?_⟩
      refine (ih _ (List.getElem_mem hil) (by omega) _).to ?_
      simp only [push_cast, Nat.reduceAdd, Nat.reduceSub, Nat.reduceMul, Nat.reduceLT, Nat.reduceLeDiff, Nat.reduceEqDiff, Int.reduceToNat, ↓reduceIte]
      refine ⟨by first | omega | (simp only [List.length_append, List.length_cons, List.length_nil]; omega), ?_⟩
      repeat' first | refine ⟨by omega, ?_⟩ | refine cI (fun _ => ?_) (fun _ => ?_)
      refine loopW_n (i + 1) (by omega) (by omega) ?_
      rw [e]
      simp only [push_cast, Nat.reduceAdd, Nat.reduceSub, Nat.reduceMul, Nat.reduceLT, Nat.reduceLeDiff, Nat.reduceEqDiff, Int.reduceToNat, ↓reduceIte, List.append_assoc]
    · have hf1 := hfin xs.length (Nat.le_refl _)
      rw [List.take_length] at hf1
      rw [List.take_of_length_le (show xs.length ≤ i by omega)]
      refine ⟨by first | omega | (simp only [List.length_append, List.length_cons, List.length_nil]; omega), ?_⟩
      simp)
end Ab
