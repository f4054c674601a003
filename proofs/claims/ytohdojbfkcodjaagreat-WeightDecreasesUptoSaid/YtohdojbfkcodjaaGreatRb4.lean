/- Part 4 of 5 of a proof. The law WeightDecreases holds: for all orders, systems and derivations that are not larger than the statement's bound, the function returns true. -/
import Derived.Test.YtohdojbfkcodjaaGreatRb3
import Derived.Shelf.SlSortCmp.WholeK
import Derived.Shelf.SlSortCmp.NoneTotal
import Derived.Shelf.Small.Strs
import Derived.Test.YtohdojbfkcodjaaGreatProg
set_option linter.unusedVariables false
set_option linter.unusedSimpArgs false
set_option maxRecDepth 10000
namespace Ab
open Go Go.Proofs
theorem imageR_ac (σ : List (List UInt8 × Term)) (v : List UInt8) (hlen : σ.length < 1099511627776) (H : List AObj) : ACall Tryz.prog 94 [.sl .none (encL encBd σ), .str v] H (fun r H' => r = encT (imageP σ v) ∧ H' = H) := by
  refine ACall_V (H.length) 20 [.cell 4 39] Tryz.func94 rfl rfl rfl ?_
  simp only [push_cast, Nat.reduceAdd, Nat.reduceSub, Nat.reduceMul, Nat.reduceLT, Nat.reduceLeDiff, Nat.reduceEqDiff, Int.reduceToNat, ↓reduceIte]
  refine AW_loopW (maskG 22 [1, 2, 2, 0, 0]) (fun (i : Nat) => [(9, .int .i64 i)]) (fun _ => H ++ [.cells [.str [], .bool false, .sl .zero []]]) (fun i => i ≤ σ.length ∧ ∀ x, x ∈ σ.take i → ¬ x.1 = v) (fun i => σ.length - i) 0 ⟨Nat.zero_le _, by simp⟩ (by simp only [push_cast, Nat.reduceAdd, Nat.reduceSub, Nat.reduceMul, Nat.reduceLT, Nat.reduceLeDiff, Nat.reduceEqDiff, Int.reduceToNat, ↓reduceIte]) (fun i hi => ?_)
  simp only [push_cast, Nat.reduceAdd, Nat.reduceSub, Nat.reduceMul, Nat.reduceLT, Nat.reduceLeDiff, Nat.reduceEqDiff, Int.reduceToNat, ↓reduceIte]
  refine cI (fun h => ?_) (fun h => ?_)
  · repeat refine ⟨by omega, ?_⟩
    have hil : i < σ.length := by omega
    refine cI (fun he => ?_) (fun he => ?_)
    · have hn : σ.find? (fun b => decide (b.1 = v)) = some (σ[i]'hil) := by
        rw [List.find?_eq_some_iff_getElem]
        refine ⟨by simpa using he, i, hil, rfl, fun j hj => ?_⟩
        have := hi.2 σ[j] (by rw [List.mem_take_iff_getElem]; exact ⟨j, by omega, rfl⟩)
        simpa using this
      have hI : imageP σ v = (σ[i]'hil).2 := by simp [imageP, hn]
      simp only [push_cast, Nat.reduceAdd, Nat.reduceSub, Nat.reduceMul, Nat.reduceLT, Nat.reduceLeDiff, Nat.reduceEqDiff, Int.reduceToNat, ↓reduceIte, hI]
    · repeat' first | refine ⟨by omega, ?_⟩ | refine cI (fun _ => ?_) (fun _ => ?_)
      refine loopW_n (i + 1) ⟨by omega, fun x hx => ?_⟩ (by omega) (by simp only [push_cast, Nat.reduceAdd, Nat.reduceSub, Nat.reduceMul, Nat.reduceLT, Nat.reduceLeDiff, Nat.reduceEqDiff, Int.reduceToNat, ↓reduceIte])
      rw [List.take_succ_eq_append_getElem hil] at hx
      rcases List.mem_append.1 hx with h | h
      · exact hi.2 x h
      · rw [List.mem_singleton] at h; subst h; exact he
  · have e : σ.take i = σ := List.take_of_length_le (by omega)
    rw [e] at hi
    have hn : σ.find? (fun b => decide (b.1 = v)) = none := by rw [List.find?_eq_none]; intro x hx; simpa using hi.2 x hx
    have hI : imageP σ v = .mk v true [] := by simp [imageP, hn]
    simp only [push_cast, Nat.reduceAdd, Nat.reduceSub, Nat.reduceMul, Nat.reduceLT, Nat.reduceLeDiff, Nat.reduceEqDiff, Int.reduceToNat, ↓reduceIte, hI]
def appL (σ : List (List UInt8 × Term)) (xs : List Term) : List Term := xs.map (applyP σ)
theorem appL_take (σ : List (List UInt8 × Term)) (xs : List Term) (i : Nat) (h : i < xs.length) : appL σ (xs.take (i + 1)) = appL σ (xs.take i) ++ [applyP σ xs[i]] := by
  unfold appL; rw [List.take_succ_eq_append_getElem h, List.map_append]; rfl
theorem appL_nil (σ : List (List UInt8 × Term)) : appL σ [] = [] := (rfl)
theorem appL_len (σ : List (List UInt8 × Term)) (xs : List Term) : (appL σ xs).length = xs.length := by simp [appL]
theorem applyP_t (σ : List (List UInt8 × Term)) (n : List UInt8) (xs : List Term) : applyP σ (.mk n true xs) = imageP σ n := by rw [applyP_mk]; simp
theorem applyP_f (σ : List (List UInt8 × Term)) (n : List UInt8) (xs : List Term) : applyP σ (.mk n false xs) = .mk n false (appL σ xs) := by rw [applyP_mk]; rfl
theorem applyR_ac (σ : List (List UInt8 × Term)) (hlen : σ.length < 1099511627776) (t : Term) : t.bulk ≤ 1099511627775 → ∀ H, ACall Tryz.prog 69 [.sl .none (encL encBd σ), encT t] H (fun r H' => r = encT (applyP σ t) ∧ H' = H) := by
  induction t using Term.ind with | _ n v xs ih
  intro hb H
  have hl := Term.len_le (n := n) (v := v) (xs := xs)
  cases v with
  | true =>
    rw [applyP_t]
    refine ACall_V (H.length) 32 [.cell 4 39] Tryz.func69 rfl rfl rfl ?_
    simp only [push_cast, Nat.reduceAdd, Nat.reduceSub, Nat.reduceMul, Nat.reduceLT, Nat.reduceLeDiff, Nat.reduceEqDiff, Int.reduceToNat, ↓reduceIte]
    refine (imageR_ac σ n hlen _).to ?_
    simp only [push_cast, Nat.reduceAdd, Nat.reduceSub, Nat.reduceMul, Nat.reduceLT, Nat.reduceLeDiff, Nat.reduceEqDiff, Int.reduceToNat, ↓reduceIte]
  | false =>
    rw [applyP_f]
    refine ACall_V (H.length) 32 [.cell 4 39] Tryz.func69 rfl rfl rfl ?_
    simp only [push_cast, Nat.reduceAdd, Nat.reduceSub, Nat.reduceMul, Nat.reduceLT, Nat.reduceLeDiff, Nat.reduceEqDiff, Int.reduceToNat, ↓reduceIte]
    refine AW_reserve 1 ?_
    refine AW_loopW (maskG 34 [0, 3, 0, 12, 0, 0]) (fun (i : Nat) => [(20, .int .i64 i)]) (fun i => H ++ [.cells [.str n, .bool false, .sl .none (encTs xs)], .cells [.str [], .bool false, .sl .zero []], .cells [.str n, .bool false, gSl (H.length + 3) (encTs (appL σ (xs.take i)))], gTok 39 3 (encTs (appL σ (xs.take i)))]) (fun i => i ≤ xs.length) (fun i => xs.length - i) 0 (Nat.zero_le _) (by simp only [push_cast, Nat.reduceAdd, Nat.reduceSub, Nat.reduceMul, Nat.reduceLT, Nat.reduceLeDiff, Nat.reduceEqDiff, Int.reduceToNat, ↓reduceIte, List.take_zero, appL_nil]) (fun i hi => ?_)
    simp only [push_cast, Nat.reduceAdd, Nat.reduceSub, Nat.reduceMul, Nat.reduceLT, Nat.reduceLeDiff, Nat.reduceEqDiff, Int.reduceToNat, ↓reduceIte]
    refine cI (fun h => ?_) (fun h => ?_)
    · have hil : i < xs.length := by omega
      repeat refine ⟨by omega, ?_⟩
      have hal := appL_len σ (xs.take i)
      rw [List.length_take] at hal
      apply AW_drawE [some 24, some 25, some 26, some 27, some 28, some 29, some 30, some 31, none] [([false, false], _), ([true, false], _), ([true, true], _)] [none, none, none, none, none, none, some 0, none, some 1] 2 [(0, [false, false], [5]), (1, [false, false], [24]), (2, [false, false], [0]), (3, [false, false], [7]), (4, [false, false], [26, 0]), (5, [false, false], [28]), (6, [false, false], [25, 3]), (7, [true, false], [5]), (8, [true, false], [30, 0]), (0, [true, false], [5]), (2, [true, false], [0]), (3, [true, false], [7])] [_, _, _, _, _, _, _, _, _]
      case' hm => exact dr
      case' hn => rfl
      case' hok => rfl
      case' hlen => rfl
      case' hd => rfl
      case' h0 => rfl
      case' hstep =>
       simp only [DAllG, push_cast, Option.isSome_some, Option.isSome_none]
       repeat' apply And.intro
       all_goals (apply DOne_V; simp only [push_cast, Nat.reduceAdd, Nat.reduceSub, Nat.reduceMul, Nat.reduceLT, Nat.reduceLeDiff, Nat.reduceEqDiff, Int.reduceToNat, ↓reduceIte] <;> first | exact rfl | omega | exact ⟨rfl, rfl⟩ | exact trivial | exact ⟨by omega, rfl⟩ | exact ⟨by omega, by omega, rfl⟩ | exact ⟨by omega, rfl, rfl⟩ | exact ⟨by omega, by omega, rfl, rfl⟩ | exact (ih _ (List.getElem_mem hil) (arg_bulk hb i hil) _).to ⟨rfl, rfl⟩ | (refine app1_T _ (H.length + 3) (appL σ (xs.take i)) (applyP σ (xs[i]'hil)) _ rfl rfl (by exact (agetN _ _ 3).trans rfl) sl35 sz39 by39 zr39 rfl (by decide) (by omega) ?_; simp only [push_cast, Nat.reduceAdd, Nat.reduceSub, Nat.reduceMul, Nat.reduceLT, Nat.reduceLeDiff, Nat.reduceEqDiff, Int.reduceToNat, ↓reduceIte]; exact ⟨rfl, rfl⟩))
      case' hQ => skip
      simp only [push_cast, Nat.reduceAdd, Nat.reduceSub, Nat.reduceMul, Nat.reduceLT, Nat.reduceLeDiff, Nat.reduceEqDiff, Int.reduceToNat, ↓reduceIte, ← appL_take σ xs i hil]
      repeat' first | refine ⟨by omega, ?_⟩ | refine cI (fun _ => ?_) (fun _ => ?_)
      exact loopW_n (i + 1) (by omega) (by omega) (by simp only [push_cast, Nat.reduceAdd, Nat.reduceSub, Nat.reduceMul, Nat.reduceLT, Nat.reduceLeDiff, Nat.reduceEqDiff, Int.reduceToNat, ↓reduceIte])
    · simp only [push_cast, Nat.reduceAdd, Nat.reduceSub, Nat.reduceMul, Nat.reduceLT, Nat.reduceLeDiff, Nat.reduceEqDiff, Int.reduceToNat, ↓reduceIte, List.take_of_length_le (show xs.length ≤ i by omega)]
end Ab
set_option maxRecDepth 10000
namespace Ab
open Go Go.Proofs
theorem image_bulk (σ : List (List UInt8 × Term)) (B : Nat) (hb : ∀ b, b ∈ σ → b.2.bulk ≤ B) (n : List UInt8) (hn : n.length < B) : (imageP σ n).bulk ≤ B := by
  rw [image_look]
  rcases look_cases (σ := σ) n with ⟨b, hbm, _, e⟩ | e
  · rw [e]; exact hb b hbm
  · rw [e]
    show (Term.mk n true []).bulk ≤ B
    rw [Term.bulk_mk]; simp; omega
theorem sizes_take (σ : List (List UInt8 × Term)) (xs : List Term) (i : Nat) (h : i < xs.length) : ((appL σ (xs.take (i + 1))).map Term.size).sum = ((appL σ (xs.take i)).map Term.size).sum + (applyP σ xs[i]).size ∧ ((appL σ (xs.take (i + 1))).map Term.depth).foldl max 0 = max (((appL σ (xs.take i)).map Term.depth).foldl max 0) (applyP σ xs[i]).depth := by
  rw [appL_take σ xs i h, List.map_append, List.map_append, List.sum_append, List.foldl_append]
  exact ⟨by simp, by simp⟩
theorem sizes_le (σ : List (List UInt8 × Term)) (xs : List Term) (i : Nat) : ((appL σ (xs.take i)).map Term.size).sum ≤ ((appL σ xs).map Term.size).sum ∧ ((appL σ (xs.take i)).map Term.depth).foldl max 0 ≤ ((appL σ xs).map Term.size).sum := by
  have h1 : appL σ (xs.take i) = (appL σ xs).take i := by simp [appL, List.map_take]
  have h2 := take_sum_le Term.size (appL σ xs) i
  have h3 := foldl_max_le Term.depth ((appL σ xs).take i) 0
  have h4 : (((appL σ xs).take i).map Term.depth).sum ≤ (((appL σ xs).take i).map Term.size).sum := by
    generalize (appL σ xs).take i = l
    induction l with
    | nil => simp
    | cons a r ih => have := a.depth_le; simp only [List.map_cons, List.sum_cons]; omega
  rw [h1]; omega
end Ab
namespace Ab
open Go
def subLe (σ τ : List (List UInt8 × Term)) : Prop := ∀ v x, look σ v = some x → look τ v = some x
theorem subLe.refl (σ : List (List UInt8 × Term)) : subLe σ σ := fun _ _ h => h
theorem subLe.trans {a b c : List (List UInt8 × Term)} (h1 : subLe a b) (h2 : subLe b c) : subLe a c := fun v x h => h2 v x (h1 v x h)
theorem subLe.image {σ τ : List (List UInt8 × Term)} (h : subLe σ τ) {v : List UInt8} {x : Term} (hx : look σ v = some x) : imageP τ v = x := by rw [image_look, h v x hx]; rfl
def insB (σ : List (List UInt8 × Term)) (v : List UInt8) (t : Term) : List (List UInt8 × Term) := σ.take (insAt (σ.map (·.1)) v) ++ [(v, t)] ++ σ.drop (insAt (σ.map (·.1)) v)
theorem insB_length (σ : List (List UInt8 × Term)) (v : List UInt8) (t : Term) : (insB σ v t).length = σ.length + 1 := by
  unfold insB
  rw [List.length_append, List.length_append, List.length_take, List.length_drop, List.length_singleton]
  omega
theorem mem_insB {σ : List (List UInt8 × Term)} {v : List UInt8} {t : Term} (b : List UInt8 × Term) : b ∈ insB σ v t ↔ b ∈ σ ∨ b = (v, t) := by
  unfold insB
  rw [List.mem_append, List.mem_append, List.mem_singleton]
  have e := List.take_append_drop (insAt (σ.map (·.1)) v) σ
  constructor
  · rintro ((h | h) | h)
    · exact .inl (List.mem_of_mem_take h)
    · exact .inr h
    · exact .inl (List.mem_of_mem_drop h)
  · rintro (h | h)
    · rw [← e, List.mem_append] at h
      rcases h with h | h
      · exact .inl (.inl h)
      · exact .inr h
    · exact .inl (.inr h)
theorem insB_names {σ : List (List UInt8 × Term)} {v : List UInt8} {t : Term} (h : look σ v = none) : (insB σ v t).map (·.1) = insertP (σ.map (·.1)) v := by
  unfold insB insertP
  have hn := look_isNone (σ := σ) (v := v) |>.1 (by rw [h]; rfl)
  split
  · rename_i he
    obtain ⟨b, hb, rfl⟩ := List.mem_map.1 (List.mem_of_getElem? he)
    exact absurd rfl (hn b hb)
  · simp [List.map_take, List.map_drop]
theorem insB_sorted {σ : List (List UInt8 × Term)} {v : List UInt8} {t : Term} (hs : SortedN (σ.map (·.1))) (h : look σ v = none) : SortedN ((insB σ v t).map (·.1)) := by
  rw [insB_names h]; exact insertP_sorted _ _ hs
theorem look_iff {σ : List (List UInt8 × Term)} (hs : SortedN (σ.map (·.1))) (v : List UInt8) (x : Term) : look σ v = some x ↔ (v, x) ∈ σ := ⟨look_some_mem, fun h => look_mem hs h⟩
theorem insB_look {σ : List (List UInt8 × Term)} {v : List UInt8} {t : Term} (hs : SortedN (σ.map (·.1))) (h : look σ v = none) (u : List UInt8) (x : Term) : look (insB σ v t) u = some x ↔ look σ u = some x ∨ (u = v ∧ x = t) := by
  rw [look_iff (insB_sorted hs h), mem_insB, look_iff hs, Prod.mk.injEq]
theorem insB_le {σ : List (List UInt8 × Term)} {v : List UInt8} {t : Term} (hs : SortedN (σ.map (·.1))) (h : look σ v = none) : subLe σ (insB σ v t) := fun u x hx => (insB_look hs h u x).2 (.inl hx)
def leafM (σ : List (List UInt8 × Term)) (n : List UInt8) (y : Term) : List (List UInt8 × Term) × Bool := match look σ n with
  | some x => (σ, decide (x = y))
  | none => (insB σ n y, true)
def clash (n : List UInt8) (k : Nat) (y : Term) : Bool := y.var || decide (n ≠ y.name) || decide (k ≠ y.args.length)
def matchTs : List Term → List Term → List (List UInt8 × Term) → List (List UInt8 × Term) × Bool
  | .mk n v xs :: r, y :: r', σ =>
    if v then (if (leafM σ n y).2 then matchTs r r' (leafM σ n y).1 else ((leafM σ n y).1, false))
    else if clash n xs.length y then (σ, false)
    else if (matchTs xs y.args σ).2 then matchTs r r' (matchTs xs y.args σ).1 else ((matchTs xs y.args σ).1, false)
  | _, _, σ => (σ, true)
def matchP (p t : Term) (σ : List (List UInt8 × Term)) : List (List UInt8 × Term) × Bool :=
  if p.var then leafM σ p.name t else if clash p.name p.args.length t then (σ, false) else matchTs p.args t.args σ
theorem matchTs_cons (p y : Term) (r r' : List Term) (σ : List (List UInt8 × Term)) : matchTs (p :: r) (y :: r') σ = if (matchP p y σ).2 then matchTs r r' (matchP p y σ).1 else ((matchP p y σ).1, false) := by
  cases p with
  | mk n v xs =>
    rw [matchTs]
    unfold matchP
    simp only [Term.name_mk, Term.var_mk, Term.args_mk]
    cases v with
    | true => simp
    | false =>
      by_cases hc : clash n xs.length y = true
      · simp [hc]
      · simp [hc]
theorem matchTs_nil (ys : List Term) (σ : List (List UInt8 × Term)) : matchTs [] ys σ = (σ, true) := by cases ys <;> simp [matchTs]
theorem matchTs_nil2 (xs : List Term) (σ : List (List UInt8 × Term)) : matchTs xs [] σ = (σ, true) := by
  cases xs with
  | nil => simp [matchTs]
  | cons a r => cases a; simp [matchTs]
theorem clash_false {n : List UInt8} {k : Nat} {y : Term} : clash n k y = false ↔ y.var = false ∧ n = y.name ∧ k = y.args.length := by
  unfold clash
  simp [and_assoc]
theorem matchP_v (n : List UInt8) (xs : List Term) (y : Term) (σ : List (List UInt8 × Term)) : matchP (.mk n true xs) y σ = leafM σ n y := by unfold matchP; exact if_pos rfl
theorem matchP_c {n : List UInt8} {xs : List Term} {y : Term} (σ : List (List UInt8 × Term)) (h : clash n xs.length y = true) : matchP (.mk n false xs) y σ = (σ, false) := by
  unfold matchP
  exact (if_neg (by simp [Term.var_mk])).trans (if_pos h)
theorem matchP_g {n : List UInt8} {xs : List Term} {y : Term} (σ : List (List UInt8 × Term)) (h : clash n xs.length y = false) : matchP (.mk n false xs) y σ = matchTs xs y.args σ := by
  unfold matchP
  exact (if_neg (by simp [Term.var_mk])).trans (if_neg (fun e => by rw [show clash (Term.mk n false xs).name (Term.mk n false xs).args.length y = clash n xs.length y from rfl, h] at e; cases e))
structure MatchOk (σ σ' : List (List UInt8 × Term)) (S : Term → Prop) : Prop where
  sorted : SortedN (σ'.map (·.1))
  le : subLe σ σ'
  new : ∀ b, b ∈ σ' → b ∈ σ ∨ S b.2
  len : σ.length ≤ σ'.length
theorem MatchOk.refl {σ : List (List UInt8 × Term)} {S : Term → Prop} (hs : SortedN (σ.map (·.1))) : MatchOk σ σ S := ⟨hs, subLe.refl σ, fun _ h => .inl h, Nat.le_refl _⟩
theorem MatchOk.trans {a b c : List (List UInt8 × Term)} {S : Term → Prop} (h1 : MatchOk a b S) (h2 : MatchOk b c S) : MatchOk a c S :=
  ⟨h2.sorted, h1.le.trans h2.le, fun x hx => by
    rcases h2.new x hx with h | h
    · exact h1.new x h
    · exact .inr h, Nat.le_trans h1.len h2.len⟩
theorem MatchOk.mono {a b : List (List UInt8 × Term)} {S S' : Term → Prop} (h : MatchOk a b S) (hS : ∀ x, S x → S' x) : MatchOk a b S' := ⟨h.sorted, h.le, fun x hx => (h.new x hx).imp id (hS _), h.len⟩
theorem SubT.self : ∀ t : Term, SubT t t := fun t => at_sub [] t t (by cases t; rfl)
theorem leaf_ok {σ : List (List UInt8 × Term)} (hs : SortedN (σ.map (·.1))) (n : List UInt8) (y : Term) : MatchOk σ (leafM σ n y).1 (fun x => x = y) ∧ (leafM σ n y).1.length ≤ σ.length + 1 := by
  unfold leafM
  split
  · exact ⟨MatchOk.refl hs, by simp⟩
  · rename_i h
    exact ⟨⟨insB_sorted hs h, insB_le hs h, fun b hb => by
      rcases (mem_insB b).1 hb with h | h
      · exact .inl h
      · exact .inr (by rw [h]), by simp [insB_length]⟩, by simp [insB_length]⟩
theorem leaf_true {σ : List (List UInt8 × Term)} (hs : SortedN (σ.map (·.1))) {n : List UInt8} {y : Term} (h : (leafM σ n y).2 = true) : look (leafM σ n y).1 n = some y ∧ ∀ v, (look (leafM σ n y).1 v).isSome = true ↔ (look σ v).isSome = true ∨ v = n := by
  unfold leafM at h ⊢
  split at h
  · rename_i x hx
    have e : x = y := by simpa using h
    subst e
    simp only [hx, true_and]
    intro v
    constructor
    · exact .inl
    · rintro (h | rfl)
      · exact h
      · rw [hx]; rfl
  · rename_i hn
    simp only [hn]
    refine ⟨(insB_look hs hn n y).2 (.inr ⟨rfl, rfl⟩), fun v => ?_⟩
    rw [Option.isSome_iff_exists, Option.isSome_iff_exists]
    constructor
    · rintro ⟨x, hx⟩
      rcases (insB_look hs hn v x).1 hx with h | ⟨h, _⟩
      · exact .inl ⟨x, h⟩
      · exact .inr h
    · rintro (⟨x, hx⟩ | rfl)
      · exact ⟨x, (insB_look hs hn v x).2 (.inl hx)⟩
      · exact ⟨y, (insB_look hs hn v y).2 (.inr ⟨rfl, rfl⟩)⟩
theorem SubT.arg_of {y x a : Term} (ha : a ∈ y.args) (h : SubT a x) : SubT y x := by
  cases y with
  | mk n v xs => exact .arg ha h
theorem matchTs_ok : ∀ (xs ys : List Term) (σ : List (List UInt8 × Term)), SortedN (σ.map (·.1)) →
    MatchOk σ (matchTs xs ys σ).1 (fun x => ∃ y, y ∈ ys ∧ SubT y x) ∧ (matchTs xs ys σ).1.length ≤ σ.length + (xs.map Term.size).sum
  | [], ys, σ, hs => by rw [matchTs_nil]; exact ⟨MatchOk.refl hs, by simp⟩
  | .mk n u xs :: r, [], σ, hs => by rw [matchTs_nil2]; exact ⟨MatchOk.refl hs, by simp⟩
  | .mk n u xs :: r, y :: r', σ, hs => by
    have one : MatchOk σ (matchP (.mk n u xs) y σ).1 (fun x => SubT y x) ∧ (matchP (.mk n u xs) y σ).1.length ≤ σ.length + (Term.mk n u xs).size := by
      cases u with
      | true =>
        obtain ⟨h1, h2⟩ := leaf_ok hs n y
        rw [matchP_v]
        exact ⟨h1.mono fun x hx => by rw [hx]; exact SubT.self y, by rw [Term.size_mk]; omega⟩
      | false =>
        cases hc : clash n xs.length y with
        | true => rw [matchP_c σ hc]; exact ⟨MatchOk.refl hs, by simp⟩
        | false =>
          rw [matchP_g σ hc]
          obtain ⟨h1, h2⟩ := matchTs_ok xs y.args σ hs
          exact ⟨h1.mono fun x ⟨a, ha, hx⟩ => SubT.arg_of ha hx, by rw [Term.size_mk]; omega⟩
    obtain ⟨h1, h2⟩ := one
    have h1' : MatchOk σ (matchP (.mk n u xs) y σ).1 (fun x => ∃ z, z ∈ y :: r' ∧ SubT z x) := h1.mono fun x hx => ⟨y, by simp, hx⟩
    rw [matchTs_cons]
    cases (matchP (.mk n u xs) y σ).2 with
    | false => simp only [Bool.false_eq_true, if_false, List.map_cons, List.sum_cons]; exact ⟨h1', by omega⟩
    | true =>
      obtain ⟨g1, g2⟩ := matchTs_ok r r' (matchP (.mk n u xs) y σ).1 h1.sorted
      simp only [if_true, List.map_cons, List.sum_cons]
      exact ⟨h1'.trans (g1.mono fun x ⟨z, hz, hx⟩ => ⟨z, by simp [hz], hx⟩), by omega⟩
theorem matchP_ok (p t : Term) (σ : List (List UInt8 × Term)) (hs : SortedN (σ.map (·.1))) : MatchOk σ (matchP p t σ).1 (fun x => SubT t x) ∧ (matchP p t σ).1.length ≤ σ.length + p.size := by
  obtain ⟨h1, h2⟩ := matchTs_ok [p] [t] σ hs
  have e : (matchTs [p] [t] σ).1 = (matchP p t σ).1 := by
    rw [matchTs_cons, matchTs_nil]
    cases h : (matchP p t σ).2 <;> simp
  rw [e] at h1 h2
  exact ⟨h1.mono fun x ⟨z, hz, hx⟩ => by rw [List.mem_singleton] at hz; rw [← hz]; exact hx, by simpa using h2⟩
theorem matchTs_true : ∀ (xs ys : List Term) (σ τ : List (List UInt8 × Term)), SortedN (σ.map (·.1)) → xs.length = ys.length → (matchTs xs ys σ).2 = true → subLe (matchTs xs ys σ).1 τ → xs.map (applyP τ) = ys
  | [], [], _, _, _, _, _, _ => rfl
  | [], _ :: _, _, _, _, h, _, _ => by simp at h
  | _ :: _, [], _, _, _, h, _, _ => by simp at h
  | .mk n u xs :: r, y :: r', σ, τ, hs, hl, hm, ht => by
    rw [matchTs_cons] at hm ht
    obtain ⟨o1, _⟩ := matchP_ok (.mk n u xs) y σ hs
    cases hq : (matchP (.mk n u xs) y σ).2 with
    | false => rw [hq] at hm; simp at hm
    | true =>
      rw [hq] at hm ht
      simp only [if_true] at hm ht
      have h1 := matchTs_true r r' _ τ o1.sorted (by simpa using hl) hm ht
      obtain ⟨o2, _⟩ := matchTs_ok r r' (matchP (.mk n u xs) y σ).1 o1.sorted
      have ht1 := o2.le.trans ht
      rw [List.map_cons, h1]
      congr 1
      cases u with
      | true =>
        rw [matchP_v] at hq ht1
        rw [applyP_mk]
        simp only [if_true]
        exact ht1.image (leaf_true hs hq).1
      | false =>
        cases hc : clash n xs.length y with
        | true => rw [matchP_c σ hc] at hq; simp at hq
        | false =>
          rw [matchP_g σ hc] at hq ht1
          obtain ⟨c1, c2, c3⟩ := clash_false.1 hc
          have h2 := matchTs_true xs y.args σ τ hs c3 hq ht1
          rw [applyP_mk]
          simp only [Bool.false_eq_true, if_false]
          rw [h2]
          cases y with
          | mk m w ys =>
            simp only [Term.name_mk, Term.var_mk, Term.args_mk] at c1 c2 ⊢
            rw [c1, c2]
theorem matchP_true {p t : Term} {σ τ : List (List UInt8 × Term)} (hs : SortedN (σ.map (·.1))) (h : (matchP p t σ).2 = true) (ht : subLe (matchP p t σ).1 τ) : applyP τ p = t := by
  have e : matchTs [p] [t] σ = ((matchP p t σ).1, true) := by rw [matchTs_cons, matchTs_nil, h]; simp
  have := matchTs_true [p] [t] σ τ hs rfl (by rw [e]) (by rw [e]; exact ht)
  simpa using this
end Ab
set_option maxRecDepth 10000
namespace Ab
open Go Go.Proofs
def mH (G : List AObj) (m k : Nat) (σ : List (List UInt8 × Term)) : List AObj := (G.set m (.cells [grS k (encL encBd σ)])).set k (grO 157 4 (encL encBd σ))
theorem mH_len (G : List AObj) (m k : Nat) (σ : List (List UInt8 × Term)) : (mH G m k σ).length = G.length := by simp [mH]
theorem mH_g0 (G : List AObj) (m k : Nat) (σ : List (List UInt8 × Term)) (x : AObj) (L : List AObj) : (mH G m k σ ++ x :: L)[G.length]? = some x := by
  have := aget0 (mH G m k σ) L x
  rwa [mH_len] at this
theorem mH_gN (G : List AObj) (m k : Nat) (σ : List (List UInt8 × Term)) (L : List AObj) (i : Nat) : (mH G m k σ ++ L)[G.length + i]? = L[i]? := by
  have := agetN (mH G m k σ) L i
  rwa [mH_len] at this
theorem mH_sN (G : List AObj) (m k : Nat) (σ : List (List UInt8 × Term)) (L : List AObj) (i : Nat) (o : AObj) : (mH G m k σ ++ L).set (G.length + i) o = mH G m k σ ++ L.set i o := by
  rw [List.set_append_right _ _ (by rw [mH_len]; omega), mH_len, Nat.add_sub_cancel_left]
theorem mH_tk (G : List AObj) (m k : Nat) (σ : List (List UInt8 × Term)) (L : List AObj) (i : Nat) : (mH G m k σ ++ L).take (G.length + i) = mH G m k σ ++ L.take i := by
  have := takeAN' (mH G m k σ) L i
  rwa [mH_len] at this
theorem mH_t0 (G : List AObj) (m k : Nat) (σ : List (List UInt8 × Term)) (L : List AObj) : (mH G m k σ ++ L).take G.length = mH G m k σ := by
  have := takeA0' (mH G m k σ) L
  rwa [mH_len] at this
theorem mH_0 (G : List AObj) (m k : Nat) (σ : List (List UInt8 × Term)) : (mH G m k σ).take G.length = mH G m k σ := List.take_of_length_le (by rw [mH_len]; exact Nat.le_refl _)
attribute [push_cast] mH_len mH_g0 mH_gN mH_sN mH_tk mH_t0 mH_0
theorem SubT.bulk {s t : Term} (h : SubT s t) : t.bulk ≤ s.bulk := by
  induction h with
  | refl => exact Nat.le_refl _
  | arg ha _ ih => exact Nat.le_trans ih (Nat.le_of_lt (Term.arg_le ha))
theorem matchTs_one (x y : Term) (σ : List (List UInt8 × Term)) : matchTs [x] [y] σ = matchP x y σ := by
  rw [matchTs_cons, matchTs_nil]
  cases h : (matchP x y σ).2 with
  | true => simp only [if_true]; rw [← h]
  | false => simp only [Bool.false_eq_true, if_false]; rw [← h]
end Ab
set_option maxRecDepth 10000
namespace Ab
open Go Go.Proofs
theorem atR_ac (t : Term) (p : List Int) (hb : t.bulk ≤ 1099511627775) (hlen : p.length < 1099511627776) (H : List AObj) :
    ACall Tryz.prog 92 [encT t, .sl .none (encP p)] H (fun r H' => r = (match atP t p with | some x => .tup [encT x, .bool true] | none => .tup [encT (.mk [] false []), .bool false]) ∧ H' = H) := by
  refine ACall_V (H.length) 29 [.cell 4 39, .tmp 5] Tryz.func92 rfl rfl rfl ?_
  simp only [push_cast, Nat.reduceAdd, Nat.reduceSub, Nat.reduceMul, Nat.reduceLT, Nat.reduceLeDiff, Nat.reduceEqDiff, Int.reduceToNat, ↓reduceIte]
  refine AW_loopW (maskG 31 [2, 1, 3, 0, 0]) (fun (q : Nat × Term) => [(10, .int .i64 q.1)]) (fun q => H ++ [.cells [.str q.2.name, .bool q.2.var, .sl .none (encTs q.2.args)], .cells [.str [], .bool false, .sl .zero []]]) (fun q => q.1 ≤ p.length ∧ atP t (p.take q.1) = some q.2) (fun q => p.length - q.1) (0, t) ⟨Nat.zero_le _, by cases t; rfl⟩ (by simp only [push_cast, Nat.reduceAdd, Nat.reduceSub, Nat.reduceMul, Nat.reduceLT, Nat.reduceLeDiff, Nat.reduceEqDiff, Int.reduceToNat, ↓reduceIte]) (fun ⟨i, x⟩ hi => ?_)
  obtain ⟨hi, hx⟩ := hi
  simp only at hi hx
  have hbx := at_bulk _ _ _ hx
  have hlx : x.args.length < x.bulk := by cases x; exact Term.len_le
  simp only [push_cast, Nat.reduceAdd, Nat.reduceSub, Nat.reduceMul, Nat.reduceLT, Nat.reduceLeDiff, Nat.reduceEqDiff, Int.reduceToNat, ↓reduceIte]
  refine cI (fun h => ⟨by omega, ?_⟩) (fun h => ?_)
  · have hs := at_step x p[i] (p.drop (i + 1))
    have hap := at_app (p.take i) (p.drop i) t
    rw [List.take_append_drop, hx, List.drop_eq_getElem_cons (by omega)] at hap
    simp only [Option.bind_some] at hap
    have hap2 := at_app (p.take i) [p[i]] t
    rw [hx, ← List.take_succ_eq_append_getElem (by omega)] at hap2
    simp only [Option.bind_some] at hap2
    refine cI (fun h1 => ?_) (fun h1 => cI (fun h2 => ?_) (fun h2 => ?_))
    · simp only [push_cast, Nat.reduceAdd, Nat.reduceSub, Nat.reduceMul, Nat.reduceLT, Nat.reduceLeDiff, Nat.reduceEqDiff, Int.reduceToNat, ↓reduceIte, hap, hs.2 (fun hh => by omega)]
    · simp only [push_cast, Nat.reduceAdd, Nat.reduceSub, Nat.reduceMul, Nat.reduceLT, Nat.reduceLeDiff, Nat.reduceEqDiff, Int.reduceToNat, ↓reduceIte, hap, hs.2 (fun hh => by omega)]
    · have hk : 0 ≤ p[i] ∧ p[i].toNat < x.args.length := ⟨by omega, by omega⟩
      have hs2 := (at_step x p[i] []).1 hk
      refine ⟨by omega, by omega, by omega, loopW_n (i + 1, x.args[p[i].toNat]) ⟨by simp only; omega, ?_⟩ (by simp only; omega) (by simp only [push_cast, Nat.reduceAdd, Nat.reduceSub, Nat.reduceMul, Nat.reduceLT, Nat.reduceLeDiff, Nat.reduceEqDiff, Int.reduceToNat, ↓reduceIte])⟩
      simp only
      rw [hap2, hs2]
      cases x.args[p[i].toNat]; rfl
  · rw [List.take_of_length_le (by omega)] at hx
    simp only [push_cast, Nat.reduceAdd, Nat.reduceSub, Nat.reduceMul, Nat.reduceLT, Nat.reduceLeDiff, Nat.reduceEqDiff, Int.reduceToNat, ↓reduceIte, hx]
theorem gSl_cons (k : Nat) (x : AV) (xs : List AV) : gSl k (x :: xs) = .sl (.own k) (x :: xs) := (rfl)
theorem gTok_cons (e sz : Nat) (x : AV) (xs : List AV) : gTok e sz (x :: xs) = .tok e sz (xs.length + 1) := (rfl)
end Ab
set_option maxRecDepth 10000
namespace Ab
open Go Go.Proofs
theorem marked_suffix (s : List UInt8) : decide (([35] : List UInt8).length ≤ s.length ∧ s.drop (s.length - ([35] : List UInt8).length) = [35]) = markedP s := by
  unfold markedP
  rw [Bool.eq_iff_iff, decide_eq_true_eq, decide_eq_true_eq]
  rcases List.eq_nil_or_concat s with rfl | ⟨l, a, rfl⟩
  · simp
  · simp
theorem stringsHasSuffix_ac (s suf : List UInt8) (H : List AObj) (h1 : s.length < 1099511627776) (h2 : suf.length < 1099511627776) :
    ACall Tryz.prog 103 [.str s, .str suf] H (fun r H' => r = .bool (decide (suf.length ≤ s.length ∧ s.drop (s.length - suf.length) = suf)) ∧ H' = H) := by
  refine ACall_V (H.length) 6 [.tmp 4] Tryz.func103 rfl rfl rfl ?_
  simp only [push_cast, Nat.reduceAdd, Nat.reduceSub, Nat.reduceMul, Nat.reduceLT, Nat.reduceLeDiff, Nat.reduceEqDiff, Int.reduceToNat, ↓reduceIte]
  refine (hasSuffix_ac s suf _ h1 h2).to ?_
  simp only [push_cast, Nat.reduceAdd, Nat.reduceSub, Nat.reduceMul, Nat.reduceLT, Nat.reduceLeDiff, Nat.reduceEqDiff, Int.reduceToNat, ↓reduceIte]
theorem markedT_ac (s : List UInt8) (h1 : s.length < 1099511627776) (H : List AObj) : ACall Tryz.prog 75 [.str s] H (fun r H' => r = .bool (markedP s) ∧ H' = H) := by
  rw [← marked_suffix]
  refine ACall_V (H.length) 4 [.tmp 2] Tryz.func75 rfl rfl rfl ?_
  simp only [push_cast, Nat.reduceAdd, Nat.reduceSub, Nat.reduceMul, Nat.reduceLT, Nat.reduceLeDiff, Nat.reduceEqDiff, Int.reduceToNat, ↓reduceIte]
  refine (stringsHasSuffix_ac s [35] _ h1 (by decide)).to ?_
  simp only [push_cast, Nat.reduceAdd, Nat.reduceSub, Nat.reduceMul, Nat.reduceLT, Nat.reduceLeDiff, Nat.reduceEqDiff, Int.reduceToNat, ↓reduceIte]
theorem indexS_ac (l : List (List UInt8)) (v : List UInt8) (hlen : l.length < 1099511627776) (H : List AObj) :
    ACall Tryz.prog 131 [.sl .none (encN l), .str v] H (fun r H' => ∃ n : Int, r = .int .i64 n ∧ (0 ≤ n ↔ v ∈ l) ∧ H' = H) := by
  refine ACall_W (H.length) 17 [.tmp 4] Tryz.func131 rfl rfl rfl ?_
  simp only [push_cast, Nat.reduceAdd, Nat.reduceSub, Nat.reduceMul, Nat.reduceLT, Nat.reduceLeDiff, Nat.reduceEqDiff, Int.reduceToNat, ↓reduceIte]
  refine AW_loopW (maskG 19 [0, 0, 5, 0]) (fun (i : Nat) => [(8, .int .i64 i)]) (fun _ => H) (fun i => i ≤ l.length ∧ ¬ v ∈ l.take i) (fun i => l.length - i) 0 ⟨Nat.zero_le _, by simp⟩ (by simp only [push_cast, Nat.reduceAdd, Nat.reduceSub, Nat.reduceMul, Nat.reduceLT, Nat.reduceLeDiff, Nat.reduceEqDiff, Int.reduceToNat, ↓reduceIte]) (fun i hi => ?_)
  simp only [push_cast, Nat.reduceAdd, Nat.reduceSub, Nat.reduceMul, Nat.reduceLT, Nat.reduceLeDiff, Nat.reduceEqDiff, Int.reduceToNat, ↓reduceIte]
  refine cI (fun h => ?_) (fun h => ?_)
  · repeat refine ⟨by omega, ?_⟩
    have hil : i < l.length := by omega
    refine cI (fun hp => ?_) (fun hp => ?_)
    · exact ⟨i, rfl, ⟨fun _ => by rw [hp]; exact List.getElem_mem hil, fun _ => by omega⟩⟩
    · repeat refine ⟨by omega, ?_⟩
      refine loopW_n (i + 1) ⟨by omega, ?_⟩ (by omega) (by simp only [push_cast, Nat.reduceAdd, Nat.reduceSub, Nat.reduceMul, Nat.reduceLT, Nat.reduceLeDiff, Nat.reduceEqDiff, Int.reduceToNat, ↓reduceIte])
      rw [List.take_succ_eq_append_getElem hil, List.mem_append, List.mem_singleton]
      rintro (h1 | h1)
      · exact hi.2 h1
      · exact hp h1
  · have hs : l.take i = l := List.take_of_length_le (by omega)
    rw [hs] at hi
    exact ⟨-1, rfl, ⟨by omega, fun h => absurd h hi.2⟩⟩
theorem containsS_ac (l : List (List UInt8)) (v : List UInt8) (hlen : l.length < 1099511627776) (H : List AObj) :
    ACall Tryz.prog 108 [.sl .none (encN l), .str v] H (fun r H' => r = .bool (decide (v ∈ l)) ∧ H' = H) := by
  refine ACall_V (H.length) 7 [.tmp 4] Tryz.func108 rfl rfl rfl ?_
  simp only [push_cast, Nat.reduceAdd, Nat.reduceSub, Nat.reduceMul, Nat.reduceLT, Nat.reduceLeDiff, Nat.reduceEqDiff, Int.reduceToNat, ↓reduceIte]
  refine (indexS_ac l v hlen _).mono ?_
  rintro r H' ⟨n, rfl, hn, rfl⟩
  simp only [push_cast, Nat.reduceAdd, Nat.reduceSub, Nat.reduceMul, Nat.reduceLT, Nat.reduceLeDiff, Nat.reduceEqDiff, Int.reduceToNat, ↓reduceIte, hn]
theorem extraC_ac (v : List UInt8) (L : List (List UInt8)) (hlen : L.length < 1099511627776) (H : List AObj) (o : AObj) :
    ACall Tryz.prog 107 [.str v, .ptr (H.length + 1) 0] (H ++ [o, .cells [.sl .none (encN L)]]) (fun r H' => r = .bool (!decide (v ∈ L)) ∧ H' = H ++ [o, .cells [.sl .none (encN L)]]) := by
  refine ACall_V (H.length + 2) 6 [.tmp 3] Tryz.func107 rfl rfl rfl ?_
  simp only [push_cast, Nat.reduceAdd, Nat.reduceSub, Nat.reduceMul, Nat.reduceLT, Nat.reduceLeDiff, Nat.reduceEqDiff, Int.reduceToNat, ↓reduceIte]
  refine (containsS_ac L v hlen _).to ?_
  simp only [push_cast, Nat.reduceAdd, Nat.reduceSub, Nat.reduceMul, Nat.reduceLT, Nat.reduceLeDiff, Nat.reduceEqDiff, Int.reduceToNat, ↓reduceIte]
  rw [show H.length + 2 = (H ++ [o, .cells [.sl .none (encN L)]]).length from by simp]
  exact outok_self
theorem indexN_ac (l : List (List UInt8)) (g : Nat) (caps : List AV) (p : List UInt8 → Bool) (H : List AObj) (hlen : l.length < 1099511627776) (hg : callOk Tryz.prog g = true) (hsc : ScopedL H.length caps)
    (hf : ∀ i (h : i < l.length), ACall Tryz.prog g (.str l[i] :: caps) H (fun r H' => r = .bool (p l[i]) ∧ H' = H)) :
    ACall Tryz.prog 130 [.sl .none (encN l), .fn g caps] H (fun r H' => ∃ n : Int, r = .int .i64 n ∧ (0 ≤ n ↔ l.any p = true) ∧ H' = H) := by
  refine ACall_W (H.length) 17 [.tmp 4] Tryz.func130 rfl rfl rfl ?_
  simp only [push_cast, Nat.reduceAdd, Nat.reduceSub, Nat.reduceMul, Nat.reduceLT, Nat.reduceLeDiff, Nat.reduceEqDiff, Int.reduceToNat, ↓reduceIte]
  refine AW_loopW (maskG 19 [0, 0, 5, 0]) (fun (i : Nat) => [(8, .int .i64 i)]) (fun _ => H) (fun i => i ≤ l.length ∧ (l.take i).any p = false) (fun i => l.length - i) 0 ⟨Nat.zero_le _, by simp⟩ (by simp only [push_cast, Nat.reduceAdd, Nat.reduceSub, Nat.reduceMul, Nat.reduceLT, Nat.reduceLeDiff, Nat.reduceEqDiff, Int.reduceToNat, ↓reduceIte, hsc]) (fun i hi => ?_)
  simp only [push_cast, Nat.reduceAdd, Nat.reduceSub, Nat.reduceMul, Nat.reduceLT, Nat.reduceLeDiff, Nat.reduceEqDiff, Int.reduceToNat, ↓reduceIte, hg]
  refine cI (fun h => ⟨by omega, (hf i (by omega)).to ?_⟩) (fun h => ?_)
  · simp only [push_cast, Nat.reduceAdd, Nat.reduceSub, Nat.reduceMul, Nat.reduceLT, Nat.reduceLeDiff, Nat.reduceEqDiff, Int.reduceToNat, ↓reduceIte]
    refine cI (fun hp => ?_) (fun hp => ⟨by omega, loopW_n (i + 1) ⟨by omega, any_take_false hi.2 (by omega) (by simpa using hp)⟩ (by omega) (by simp only [push_cast, Nat.reduceAdd, Nat.reduceSub, Nat.reduceMul, Nat.reduceLT, Nat.reduceLeDiff, Nat.reduceEqDiff, Int.reduceToNat, ↓reduceIte, hsc])⟩)
    exact ⟨i, rfl, ⟨fun _ => any_get (by omega) hp, fun _ => by omega⟩⟩
  · have hs : l.take i = l := List.take_of_length_le (by omega)
    rw [hs] at hi
    exact ⟨-1, rfl, ⟨by omega, fun h => by rw [hi.2] at h; cases h⟩⟩
theorem containsN_ac (l : List (List UInt8)) (g : Nat) (caps : List AV) (p : List UInt8 → Bool) (H : List AObj) (hlen : l.length < 1099511627776) (hg : callOk Tryz.prog g = true) (hsc : ScopedL H.length caps)
    (hf : ∀ i (h : i < l.length), ACall Tryz.prog g (.str l[i] :: caps) H (fun r H' => r = .bool (p l[i]) ∧ H' = H)) :
    ACall Tryz.prog 106 [.sl .none (encN l), .fn g caps] H (fun r H' => r = .bool (l.any p) ∧ H' = H) := by
  refine ACall_W (H.length) 7 [.tmp 4] Tryz.func106 rfl rfl rfl ?_
  simp only [push_cast, Nat.reduceAdd, Nat.reduceSub, Nat.reduceMul, Nat.reduceLT, Nat.reduceLeDiff, Nat.reduceEqDiff, Int.reduceToNat, ↓reduceIte]
  refine (indexN_ac _ g caps p _ hlen hg hsc hf).mono ?_
  rintro r H ⟨n, rfl, hn, rfl⟩
  simp only [push_cast, Nat.reduceAdd, Nat.reduceSub, Nat.reduceMul, Nat.reduceLT, Nat.reduceLeDiff, Nat.reduceEqDiff, Int.reduceToNat, ↓reduceIte, hn]
  cases l.any p <;> simp
theorem vars1_len (t : Term) : (varsP [t]).length ≤ t.size := by
  have := foldC_length [t] []
  simpa [foldC, varsP] using this
def extraP (x : Term × Term) : Bool := x.1.var || (varsP [x.2]).any fun v => !decide (v ∈ varsP [x.1])
theorem extra_ac (x : Term × Term) (h1 : x.1.bulk ≤ 1099511627770) (h2 : x.2.bulk ≤ 1099511627770) (H : List AObj) : ACall Tryz.prog 77 [encRu x] H (fun r H' => r = .bool (extraP x) ∧ H' = H) := by
  have hs1 := x.1.size_le
  have hs2 := x.2.size_le
  have hl1 := vars1_len x.1
  have hl2 := vars1_len x.2
  refine ACall_V (H.length) 18 [.tmp 2] Tryz.func77 rfl rfl rfl ?_
  simp only [push_cast, Nat.reduceAdd, Nat.reduceSub, Nat.reduceMul, Nat.reduceLT, Nat.reduceLeDiff, Nat.reduceEqDiff, Int.reduceToNat, ↓reduceIte]
  refine (vars1_ac x.1 h1 _).to ?_
  simp only [push_cast, Nat.reduceAdd, Nat.reduceSub, Nat.reduceMul, Nat.reduceLT, Nat.reduceLeDiff, Nat.reduceEqDiff, Int.reduceToNat, ↓reduceIte]
  refine cI (fun hv => ?_) (fun hv => ?_)
  · have e : extraP x = true := by unfold extraP; rw [hv]; rfl
    simp only [push_cast, Nat.reduceAdd, Nat.reduceSub, Nat.reduceMul, Nat.reduceLT, Nat.reduceLeDiff, Nat.reduceEqDiff, Int.reduceToNat, ↓reduceIte, e]
  · have e : extraP x = (varsP [x.2]).any fun v => !decide (v ∈ varsP [x.1]) := by unfold extraP; rw [show x.1.var = false by simpa using hv]; rfl
    refine (vars1_ac x.2 h2 _).to ?_
    simp only [push_cast, Nat.reduceAdd, Nat.reduceSub, Nat.reduceMul, Nat.reduceLT, Nat.reduceLeDiff, Nat.reduceEqDiff, Int.reduceToNat, ↓reduceIte]
    refine (containsN_ac (varsP [x.2]) 107 [.ptr (H.length + 1) 0] (fun v => !decide (v ∈ varsP [x.1])) _ (by omega) ok107 (by simp only [push_cast, Nat.reduceAdd, Nat.reduceSub, Nat.reduceMul, Nat.reduceLT, Nat.reduceLeDiff, Nat.reduceEqDiff, Int.reduceToNat, ↓reduceIte]) (fun i h => extraC_ac _ _ (by omega) H _)).to ?_
    simp only [push_cast, Nat.reduceAdd, Nat.reduceSub, Nat.reduceMul, Nat.reduceLT, Nat.reduceLeDiff, Nat.reduceEqDiff, Int.reduceToNat, ↓reduceIte, e]
theorem indexRu_ac (rs : List (Term × Term)) (g : Nat) (caps : List AV) (p : (Term × Term) → Bool) (H : List AObj) (hlen : rs.length < 1099511627776) (hg : callOk Tryz.prog g = true) (hsc : ScopedL H.length caps)
    (hf : ∀ i (h : i < rs.length), ACall Tryz.prog g (encRu rs[i] :: caps) H (fun r H' => r = .bool (p rs[i]) ∧ H' = H)) :
    ACall Tryz.prog 104 [.sl .none (encL encRu rs), .fn g caps] H (fun r H' => ∃ n : Int, r = .int .i64 n ∧ (0 ≤ n ↔ rs.any p = true) ∧ H' = H) := by
  refine ACall_W (H.length) 17 [.tmp 4] Tryz.func104 rfl rfl rfl ?_
  simp only [push_cast, Nat.reduceAdd, Nat.reduceSub, Nat.reduceMul, Nat.reduceLT, Nat.reduceLeDiff, Nat.reduceEqDiff, Int.reduceToNat, ↓reduceIte]
  refine AW_loopW (maskG 19 [0, 0, 5, 0]) (fun (i : Nat) => [(8, .int .i64 i)]) (fun _ => H) (fun i => i ≤ rs.length ∧ (rs.take i).any p = false) (fun i => rs.length - i) 0 ⟨Nat.zero_le _, by simp⟩ (by simp only [push_cast, Nat.reduceAdd, Nat.reduceSub, Nat.reduceMul, Nat.reduceLT, Nat.reduceLeDiff, Nat.reduceEqDiff, Int.reduceToNat, ↓reduceIte, hsc]) (fun i hi => ?_)
  simp only [push_cast, Nat.reduceAdd, Nat.reduceSub, Nat.reduceMul, Nat.reduceLT, Nat.reduceLeDiff, Nat.reduceEqDiff, Int.reduceToNat, ↓reduceIte, hg]
  refine cI (fun h => ⟨by omega, (hf i (by omega)).to ?_⟩) (fun h => ?_)
  · simp only [push_cast, Nat.reduceAdd, Nat.reduceSub, Nat.reduceMul, Nat.reduceLT, Nat.reduceLeDiff, Nat.reduceEqDiff, Int.reduceToNat, ↓reduceIte]
    refine cI (fun hp => ?_) (fun hp => ⟨by omega, loopW_n (i + 1) ⟨by omega, any_take_false hi.2 (by omega) (by simpa using hp)⟩ (by omega) (by simp only [push_cast, Nat.reduceAdd, Nat.reduceSub, Nat.reduceMul, Nat.reduceLT, Nat.reduceLeDiff, Nat.reduceEqDiff, Int.reduceToNat, ↓reduceIte, hsc])⟩)
    exact ⟨i, rfl, ⟨fun _ => any_get (by omega) hp, fun _ => by omega⟩⟩
  · have hs : rs.take i = rs := List.take_of_length_le (by omega)
    rw [hs] at hi
    exact ⟨-1, rfl, ⟨by omega, fun h => by rw [hi.2] at h; cases h⟩⟩
theorem containsRu_ac (rs : List (Term × Term)) (g : Nat) (caps : List AV) (p : (Term × Term) → Bool) (H : List AObj) (hlen : rs.length < 1099511627776) (hg : callOk Tryz.prog g = true) (hsc : ScopedL H.length caps)
    (hf : ∀ i (h : i < rs.length), ACall Tryz.prog g (encRu rs[i] :: caps) H (fun r H' => r = .bool (p rs[i]) ∧ H' = H)) :
    ACall Tryz.prog 76 [.sl .none (encL encRu rs), .fn g caps] H (fun r H' => r = .bool (rs.any p) ∧ H' = H) := by
  refine ACall_W (H.length) 7 [.tmp 4] Tryz.func76 rfl rfl rfl ?_
  simp only [push_cast, Nat.reduceAdd, Nat.reduceSub, Nat.reduceMul, Nat.reduceLT, Nat.reduceLeDiff, Nat.reduceEqDiff, Int.reduceToNat, ↓reduceIte]
  refine (indexRu_ac _ g caps p _ hlen hg hsc hf).mono ?_
  rintro r H ⟨n, rfl, hn, rfl⟩
  simp only [push_cast, Nat.reduceAdd, Nat.reduceSub, Nat.reduceMul, Nat.reduceLT, Nat.reduceLeDiff, Nat.reduceEqDiff, Int.reduceToNat, ↓reduceIte, hn]
  cases rs.any p <;> simp
end Ab
set_option maxRecDepth 10000
namespace Ab
open Go Go.Proofs
def avN (n : Nat) : AV := .int .i64 n
def sA (m : List (List UInt8 × Nat)) : List (AV × AV) := amap AV.str avN m
def lN (o : Option (List UInt8 × Nat)) : Option (AV × AV) := o.map fun s => (AV.str s.1, avN s.2)
theorem sA_nil : sA [] = [] := (rfl)
theorem sA_len (m : List (List UInt8 × Nat)) : (sA m).length = m.length := by simp [sA, amap]
theorem osc_sA (n ver : Nat) (m : List (List UInt8 × Nat)) : OScoped n (.map ver (sA m)) = True := by
  refine eq_true ?_
  intro e he
  simp only [sA, amap, List.mem_map] at he
  obtain ⟨k, _, rfl⟩ := he
  exact ⟨trivial, trivial⟩
theorem osc_itA (n m ver : Nat) (l : List (List UInt8 × Nat)) (o : Option (List UInt8 × Nat)) (h : m < n) : OScoped n (.iter m ver (sA l) (lN o)) = True := by
  refine eq_true ⟨h, ?_⟩
  rintro e (he | he)
  · simp only [sA, amap, List.mem_map] at he
    obtain ⟨k, _, rfl⟩ := he
    exact ⟨trivial, trivial⟩
  · cases o with
    | none => cases he
    | some k => simp only [lN, Option.map_some, Option.some.injEq] at he; subst he; exact ⟨trivial, trivial⟩
theorem osc_itAn (n m ver : Nat) (l : List (List UInt8 × Nat)) (h : m < n) : OScoped n (.iter m ver (sA l) none) = True := osc_itA n m ver l none h
theorem osc_itAs (n m ver : Nat) (l : List (List UInt8 × Nat)) (a : List UInt8) (b : Nat) (h : m < n) : OScoped n (.iter m ver (sA l) (some (.str a, avN b))) = True := osc_itA n m ver l (some (a, b)) h
theorem lN_n : lN none = none := (rfl)
theorem lN_s (s : List UInt8 × Nat) : lN (some s) = some (AV.str s.1, avN s.2) := (rfl)
theorem osc_m00 (n ver : Nat) : OScoped n (.map ver []) = True := eq_true (fun e he => by cases he)
attribute [push_cast] osc_sA osc_itA osc_itAn osc_itAs osc_m00
def arE (rs : List (Term × Term)) : Nat × List (List UInt8 × Nat) := arF (0, []) (nodesL (rT rs))
def arB (rs : List (Term × Term)) : Bool := arBad (0, []) (nodesL (rT rs))
theorem nodesL_nil : nodesL [] = [] := by simp [nodesL]
theorem arB_nil : arB [] = false := by simp [arB, rT, nodesL, arBad]
theorem arE_nil : arE [] = (0, []) := by simp [arE, rT, nodesL, arF]
def arNx (q : Nat × List (List UInt8 × Nat)) (pre : List (List Int × Term)) (x : List Int × Term) : Option Code := if x.2.var then none else if arC (arF q (nodesI pre)) (x.2.name, x.2.args.length) then some .ret else none
theorem nd_var {x : Term} (h : x.var = true) : ndT x = [] := by simp [ndT, h]
theorem nd_sym {x : Term} (h : ¬ x.var = true) : ndT x = [(x.name, x.args.length)] := by simp [ndT, h]
theorem arF_snoc (q : Nat × List (List UInt8 × Nat)) (L : List (List UInt8 × Nat)) (s : List UInt8 × Nat) : arF q (L ++ [s]) = arStep (arF q L) s := by rw [arF_app]; rfl
theorem arBad_one (q : Nat × List (List UInt8 × Nat)) (s : List UInt8 × Nat) : arBad q [s] = arC q s := by simp [arBad]
theorem arNx_ok (q : Nat × List (List UInt8 × Nat)) : ∀ (n : Nat) (items : List (List Int × Term)), items.length = n → AllNone (arNx q) items → arBad q (nodesI items) = false := by
  intro n
  induction n with
  | zero => intro items h _; rw [List.eq_nil_of_length_eq_zero h]; rfl
  | succ n ih =>
    intro items h hN
    rcases List.eq_nil_or_concat items with rfl | ⟨pre, x, rfl⟩
    · rfl
    · rw [List.concat_eq_append] at *
      have h1 := ih pre (by simpa using h) (fun p y s e => hN p y (s ++ [x]) (by rw [e]; simp))
      have h2 := hN pre x [] rfl
      rw [nodesI_snoc, arBad_app, h1, Bool.false_or]
      unfold arNx at h2
      by_cases hv : x.2.var = true
      · rw [nd_var hv]; rfl
      · rw [if_neg hv] at h2
        rw [nd_sym hv, arBad_one]
        split at h2
        · cases h2
        · rename_i h3; simpa using h3
theorem arNx_bad (q : Nat × List (List UInt8 × Nat)) (pre suf : List (List Int × Term)) (x : List Int × Term) (c : Code) (h : arNx q pre x = some c) : c = .ret ∧ arBad q (nodesI (pre ++ x :: suf)) = true := by
  unfold arNx at h
  by_cases hv : x.2.var = true
  · rw [if_pos hv] at h; cases h
  · rw [if_neg hv] at h
    split at h
    · rename_i h3
      injection h with h
      refine ⟨h.symm, ?_⟩
      have e : nodesI (pre ++ x :: suf) = nodesI pre ++ (ndT x.2 ++ nodesI suf) := by simp [nodesI]
      rw [e, arBad_app, nd_sym hv, arBad_app, arBad_one, h3]; simp
    · cases h
set_option maxHeartbeats 1600000 in
theorem arities_ac (rs : List (Term × Term)) (hlen : rs.length < 1099511627776) (hb : ∀ r, r ∈ rs → r.1.bulk ≤ 1099511627775 ∧ r.2.bulk ≤ 1099511627775) (H : List AObj) :
    ACall Tryz.prog 44 [.sl .none (encL encRu rs)] H (fun r H' => r = .tup [if arB rs then .lit (.map none) else .map (H.length + 2), .bool (!arB rs)] ∧ ∃ v es, H' = H ++ [.cells [if arB rs then .lit (.map none) else .map (H.length + 2)], .cells [.bool (!arB rs)], .map v es] ∧ (arB rs = false → v = (arE rs).1 ∧ es = sA (arE rs).2)) := by
  refine ACall_W (H.length + 3) 57 [.cell 2 83, .cell 3 4] Tryz.func44 rfl rfl rfl ?_
  simp only [push_cast, Nat.reduceAdd, Nat.reduceSub, Nat.reduceMul, Nat.reduceLT, Nat.reduceLeDiff, Nat.reduceEqDiff, Int.reduceToNat, ↓reduceIte]
  refine AW_loopW (maskG 58 [2, 0, 0, 9, 0, 0, 14]) (fun (i : Nat) => [(16, .int .i64 i)]) (fun i => H ++ [.cells [.lit (.map none)], .cells [.bool false], .map (arE (rs.take i)).1 (sA (arE (rs.take i)).2), .cells [.map (H.length + 2)]]) (fun i => i ≤ rs.length ∧ arB (rs.take i) = false) (fun i => rs.length - i) 0 ⟨Nat.zero_le _, by rw [List.take_zero]; exact arB_nil⟩ (by simp only [push_cast, Nat.reduceAdd, Nat.reduceSub, Nat.reduceMul, Nat.reduceLT, Nat.reduceLeDiff, Nat.reduceEqDiff, Int.reduceToNat, ↓reduceIte, List.take_zero, arE_nil, sA_nil]) (fun i hi => ?_)
  simp only [push_cast, Nat.reduceAdd, Nat.reduceSub, Nat.reduceMul, Nat.reduceLT, Nat.reduceLeDiff, Nat.reduceEqDiff, Int.reduceToNat, ↓reduceIte]
  refine cI (fun h => ?_) (fun h => ?_)
  · repeat refine ⟨by omega, ?_⟩
    have hil : i < rs.length := by omega
    obtain ⟨l, r, hlr⟩ : ∃ l r, rs[i]'hil = (l, r) := ⟨_, _, rfl⟩
    have hbi := hb _ (List.getElem_mem hil)
    rw [hlr] at hbi
    obtain ⟨hbl, hbr⟩ := hbi
    simp only at hbl hbr
    simp only [push_cast, Nat.reduceAdd, Nat.reduceSub, Nat.reduceMul, Nat.reduceLT, Nat.reduceLeDiff, Nat.reduceEqDiff, Int.reduceToNat, ↓reduceIte, hlr]
    refine AW_loopW (maskG 58 [2, 0, 0, 9, 0, 0, 7, 0, 5]) (fun (j : Nat) => [(25, .int .i64 j)]) (fun j => H ++ [.cells [.lit (.map none)], .cells [.bool false], .map (arF (arE (rs.take i)) (nodesL ([l, r].take j))).1 (sA (arF (arE (rs.take i)) (nodesL ([l, r].take j))).2), .cells [.map (H.length + 2)], .cells [.str l.name, .bool l.var, .sl .none (encTs l.args), .str r.name, .bool r.var, .sl .none (encTs r.args)]]) (fun j => j ≤ 2 ∧ arBad (arE (rs.take i)) (nodesL ([l, r].take j)) = false) (fun j => 2 - j) 0 ⟨by omega, by simp [nodesL, arBad]⟩ (by simp only [push_cast, Nat.reduceAdd, Nat.reduceSub, Nat.reduceMul, Nat.reduceLT, Nat.reduceLeDiff, Nat.reduceEqDiff, Int.reduceToNat, ↓reduceIte, List.take_zero, nodesL_nil, arF_nil]) (fun j hj => ?_)
    simp only [push_cast, Nat.reduceAdd, Nat.reduceSub, Nat.reduceMul, Nat.reduceLT, Nat.reduceLeDiff, Nat.reduceEqDiff, Int.reduceToNat, ↓reduceIte]
    refine cI (fun h2 => ?_) (fun h2 => ?_)
    · obtain ⟨t, hat, hbt, htk⟩ : ∃ t, (List.take 3 (List.drop (j * 3) [AV.str l.name, .bool l.var, .sl .none (encTs l.args), .str r.name, .bool r.var, .sl .none (encTs r.args)]) = [AV.str t.name, .bool t.var, .sl .none (encTs t.args)]) ∧ t.bulk ≤ 1099511627775 ∧ [l, r].take (j + 1) = [l, r].take j ++ [t] := by
        have hj01 : j = 0 ∨ j = 1 := by omega
        rcases hj01 with rfl | rfl
        · exact ⟨l, rfl, hbl, rfl⟩
        · exact ⟨r, rfl, hbr, rfl⟩
      repeat refine ⟨by omega, ?_⟩
      rw [hat]
      simp only [push_cast, Nat.reduceAdd, Nat.reduceSub, Nat.reduceMul, Nat.reduceLT, Nat.reduceLeDiff, Nat.reduceEqDiff, Int.reduceToNat, ↓reduceIte]
      refine (walkF_ac t _).to ?_
      simp only [push_cast, Nat.reduceAdd, Nat.reduceSub, Nat.reduceMul, Nat.reduceLT, Nat.reduceLeDiff, Nat.reduceEqDiff, Int.reduceToNat, ↓reduceIte]
      obtain ⟨q0, hq0⟩ : ∃ q0, q0 = arF (arE (rs.take i)) (nodesL ([l, r].take j)) := ⟨_, rfl⟩
      have hE2 : arF (arE (rs.take i)) (nodesL ([l, r].take (j + 1))) = arF q0 (nodesI (walkT t [])) := by rw [htk, nodesL_app, arF_app, ← hq0, nodes_walkT]
      have hB2 : arBad (arE (rs.take i)) (nodesL ([l, r].take (j + 1))) = arBad q0 (nodesI (walkT t [])) := by rw [htk, nodesL_app, arBad_app, hj.2, Bool.false_or, ← hq0, nodes_walkT]
      rw [← hq0]
      refine AW_iterW _ _ (walk_iter t hbt _) H (fun pre => [.cells [.lit (.map none)], .cells [.bool false], .map (arF q0 (nodesI pre)).1 (sA (arF q0 (nodesI pre)).2), .cells [.map (H.length + 2)], .cells [.str l.name, .bool l.var, .sl .none (encTs l.args), .str r.name, .bool r.var, .sl .none (encTs r.args)], .cells [.str t.name, .bool t.var, .sl .none (encTs t.args)], .cells [.str t.name, .bool t.var, .sl .none (encTs t.args)]]) 7 (arNx q0) rfl ok109 (by simp only [push_cast, Nat.reduceAdd, Nat.reduceSub, Nat.reduceMul, Nat.reduceLT, Nat.reduceLeDiff, Nat.reduceEqDiff, Int.reduceToNat, ↓reduceIte, nodesI_nil, arF_nil]) (fun _ => rfl) (fun lp => by simp only [push_cast, Nat.reduceAdd, Nat.reduceSub, Nat.reduceMul, Nat.reduceLT, Nat.reduceLeDiff, Nat.reduceEqDiff, Int.reduceToNat, ↓reduceIte]) (fun p => by simp only [push_cast, Nat.reduceAdd, Nat.reduceSub, Nat.reduceMul, Nat.reduceLT, Nat.reduceLeDiff, Nat.reduceEqDiff, Int.reduceToNat, ↓reduceIte]) (fun _ => rfl) (fun pre x suf X lid lp lp' he hn => ?_) (fun hN lp => ?_) (fun pre x suf c lp he hn hc => ?_)
      · simp only [push_cast, Nat.reduceAdd, Nat.reduceSub, Nat.reduceMul, Nat.reduceLT, Nat.reduceLeDiff, Nat.reduceEqDiff, Int.reduceToNat, ↓reduceIte, List.drop_length]
        refine cI (fun hv => ?_) (fun hv => ?_)
        · have e1 : arNx q0 pre x = none := by unfold arNx; rw [if_pos hv]
          have e2 : nodesI (pre ++ [x]) = nodesI pre := by rw [nodesI_snoc, nd_var hv, List.append_nil]
          simp only [push_cast, Nat.reduceAdd, Nat.reduceSub, Nat.reduceMul, Nat.reduceLT, Nat.reduceLeDiff, Nat.reduceEqDiff, Int.reduceToNat, ↓reduceIte, e1, e2]
        · have hsn : nodesI (pre ++ [x]) = nodesI pre ++ [(x.2.name, x.2.args.length)] := by rw [nodesI_snoc, nd_sym hv]
          obtain ⟨q, hq⟩ : ∃ q, q = arF q0 (nodesI pre) := ⟨_, rfl⟩
          have hst : arF q0 (nodesI (pre ++ [x])) = arStep q (x.2.name, x.2.args.length) := by rw [hsn, arF_snoc, ← hq]
          have hnx : arNx q0 pre x = if arC q (x.2.name, x.2.args.length) then some .ret else none := by unfold arNx; rw [if_neg hv, ← hq]
          rw [← hq, hst, hnx]
          refine AOp_lookupOk (strKey un9) avN q.2 (H.length + 2) q.1 x.2.name (.int .i64 0) rfl (by exact (agetN _ _ 2).trans rfl) rfl un83 (ZeroV_of (.int .i64 0) (by kernel_rfl)) ?_
          cases hg : aget q.2 x.2.name with
          | none =>
            have hc : arC q (x.2.name, x.2.args.length) = false := by simp [arC, hg]
            have hs : arStep q (x.2.name, x.2.args.length) = (q.1 + 1, aset q.2 x.2.name x.2.args.length) := by simp [arStep, hc]
            simp only [push_cast, Nat.reduceAdd, Nat.reduceSub, Nat.reduceMul, Nat.reduceLT, Nat.reduceLeDiff, Nat.reduceEqDiff, Int.reduceToNat, ↓reduceIte, hc, hs, Option.map_none, Option.getD_none, Option.isSome_none, Bool.false_eq_true, if_false]
            refine AOp_mapUpdate (strKey un9) avN q.2 (H.length + 2) q.1 x.2.name x.2.args.length rfl (by exact (agetN _ _ 2).trans rfl) rfl rfl un83 ?_
            simp only [push_cast, Nat.reduceAdd, Nat.reduceSub, Nat.reduceMul, Nat.reduceLT, Nat.reduceLeDiff, Nat.reduceEqDiff, Int.reduceToNat, ↓reduceIte, sA]
          | some k =>
            have hc : arC q (x.2.name, x.2.args.length) = !decide (k = x.2.args.length) := by simp [arC, hg]
            by_cases hk : k = x.2.args.length
            · have hc : arC q (x.2.name, x.2.args.length) = false := by rw [hc]; simpa using hk
              have hs : arStep q (x.2.name, x.2.args.length) = (q.1 + 1, aset q.2 x.2.name x.2.args.length) := by simp [arStep, hc]
              subst hk
              simp only [push_cast, Nat.reduceAdd, Nat.reduceSub, Nat.reduceMul, Nat.reduceLT, Nat.reduceLeDiff, Nat.reduceEqDiff, Int.reduceToNat, ↓reduceIte, hc, hs, avN, Option.getD_some, Option.isSome_some, Bool.false_eq_true, if_false]
              refine AOp_mapUpdate (strKey un9) avN q.2 (H.length + 2) q.1 x.2.name x.2.args.length rfl (by exact (agetN _ _ 2).trans rfl) rfl rfl un83 ?_
              simp only [push_cast, Nat.reduceAdd, Nat.reduceSub, Nat.reduceMul, Nat.reduceLT, Nat.reduceLeDiff, Nat.reduceEqDiff, Int.reduceToNat, ↓reduceIte, sA]
            · have hc : arC q (x.2.name, x.2.args.length) = true := by rw [hc]; simpa using hk
              have hs : arStep q (x.2.name, x.2.args.length) = q := by simp [arStep, hc]
              have hkz : decide ((k : Int) = (x.2.args.length : Int)) = false := by rw [decide_eq_false_iff_not]; omega
              simp only [push_cast, Nat.reduceAdd, Nat.reduceSub, Nat.reduceMul, Nat.reduceLT, Nat.reduceLeDiff, Nat.reduceEqDiff, Int.reduceToNat, ↓reduceIte, hc, hs, avN, Option.getD_some, Option.isSome_some, if_true, hkz]
      · have hbad := arNx_ok q0 _ _ rfl hN
        rw [← hB2] at hbad
        simp only [push_cast, Nat.reduceAdd, Nat.reduceSub, Nat.reduceMul, Nat.reduceLT, Nat.reduceLeDiff, Nat.reduceEqDiff, Int.reduceToNat, ↓reduceIte]
        repeat' first | refine ⟨by omega, ?_⟩ | refine cI (fun _ => ?_) (fun _ => ?_)
        refine loopW_n (j + 1) ⟨by omega, hbad⟩ (by omega) ?_
        rw [hE2]
        simp only [push_cast, Nat.reduceAdd, Nat.reduceSub, Nat.reduceMul, Nat.reduceLT, Nat.reduceLeDiff, Nat.reduceEqDiff, Int.reduceToNat, ↓reduceIte]
      · obtain ⟨rfl, hbad⟩ := arNx_bad q0 pre suf x c hc
        rw [← he, ← hB2] at hbad
        have hB : arB rs = true := by
          have e0 := rT_split rs i hil
          have h5 := hi.2
          unfold arB at h5 ⊢
          rw [e0, hlr, nodesL_app, arBad_app, h5, Bool.false_or, nodesL_app, arBad_app]
          have e6 : arBad (arE (rs.take i)) (nodesL [l, r]) = true := by
            have hj01 : j = 0 ∨ j = 1 := by omega
            rcases hj01 with rfl | rfl
            · have : [l, r] = [l, r].take 1 ++ [r] := rfl
              rw [this, nodesL_app, arBad_app, hbad]; rfl
            · exact hbad
          show (arBad (arE (rs.take i)) (nodesL [l, r]) || _) = true
          rw [e6]; rfl
        simp only [push_cast, Nat.reduceAdd, Nat.reduceSub, Nat.reduceMul, Nat.reduceLT, Nat.reduceLeDiff, Nat.reduceEqDiff, Int.reduceToNat, ↓reduceIte, hB]
        exact ⟨_, _, rfl, fun h => h.elim⟩
    · have hj2 : j = 2 := by omega
      subst hj2
      have e1 : rT (rs.take (i + 1)) = rT (rs.take i) ++ [l, r] := by rw [rT_take rs i hil, hlr]
      have e2 : arE (rs.take (i + 1)) = arF (arE (rs.take i)) (nodesL [l, r]) := by unfold arE; rw [e1, nodesL_app, arF_app]
      have e3 : arB (rs.take (i + 1)) = false := by
        have h5 := hi.2
        unfold arB at h5 ⊢
        rw [e1, nodesL_app, arBad_app, h5, Bool.false_or]; exact hj.2
      repeat' first | refine ⟨by omega, ?_⟩ | refine cI (fun _ => ?_) (fun _ => ?_)
      refine loopW_n (i + 1) ⟨by omega, e3⟩ (by omega) ?_
      rw [e2]
      simp only [push_cast, Nat.reduceAdd, Nat.reduceSub, Nat.reduceMul, Nat.reduceLT, Nat.reduceLeDiff, Nat.reduceEqDiff, Int.reduceToNat, ↓reduceIte, List.take_succ_cons, List.take_zero]
  · rw [List.take_of_length_le (show rs.length ≤ i by omega)] at hi ⊢
    simp only [push_cast, Nat.reduceAdd, Nat.reduceSub, Nat.reduceMul, Nat.reduceLT, Nat.reduceLeDiff, Nat.reduceEqDiff, Int.reduceToNat, ↓reduceIte, hi.2]
    exact ⟨_, _, rfl, fun _ => ⟨rfl, rfl⟩⟩
end Ab
set_option maxRecDepth 10000
namespace Ab
open Go Go.Proofs
theorem putRow_heapG {α : Type} [Inhabited α] (enc : α → Value) (w : World) (b off : Nat) (d : Array α) (cur : Array Value) (e : TypeId) (fr : Nat × Nat) (hb : w.heap[b]? = some (.cells cur e fr)) :
    (Go.Sort.putRow enc w b off d).heap = w.heap.setIfInBounds b (.cells (Go.Sort.putCells enc off d cur) e fr) := by
  have hlt := (Array.getElem?_eq_some_iff.1 hb).1
  unfold Go.Sort.putRow Go.Sort.mapBlock
  apply Array.ext_getElem?
  intro k
  simp only [Array.getElem?_modify, Array.getElem?_setIfInBounds]
  by_cases hk : b = k
  · subst hk
    rw [if_pos rfl, if_pos rfl, if_pos hlt, hb]; rfl
  · rw [if_neg hk, if_neg hk]
theorem putCells_getG {α : Type} [Inhabited α] (enc : α → Value) (d : Array α) (cur : Array Value) (j : Nat) (hj : j < d.size) (hj' : j < (Go.Sort.putCells enc 0 d cur).size) : (Go.Sort.putCells enc 0 d cur)[j] = enc d[j] := by
  unfold Go.Sort.putCells
  simp [hj]
theorem sortG {P : Program} {ρ : Go.Shelf.Ren} {α β : Type} [Inhabited α] (L : SlLaysF0.n6 P ρ) (k : Nat) (hk0 : 0 < k) (aE : ∀ w, (isAgg (ρ.t 24)).run P w = .ok true w) (zE : ∀ w, (Go.sizeOf (ρ.t 24)).run P w = .ok k w)
    (encA : β → AV) (hu : ∀ x, (encA x).cells.length = k) (hcell : ∀ x c, c ∈ (encA x).cells → c.isCell = true)
    (enc : α → List Value) (hk : ∀ a, (enc a).length = k) (h1 : ∀ a, ∀ v ∈ enc a, v.oneCell' = true) (abs : α → β)
    (hrep : ∀ (C : Ctx) (x : β) (vs : List Value), vs.length = k → (∀ j (h : j < (encA x).cells.length) (h' : j < vs.length), VRel C (encA x).cells[j] vs[j]) → ∃ a, enc a = vs ∧ abs a = x)
    (cf : β → β → Int) (hO : Go.Sort.SWO (ltOf fun a b : α => cf (abs a) (abs b))) (g : Nat) (eg : ∀ args w, (callFunc g args).run P w = .ok (.enter g args) w)
    (hcalls : ∀ w a b, Calls P g #[.agg (enc a).toArray, .agg (enc b).toArray] w fun e w' => e = .returned (.int .i64 (cf (abs a) (abs b))) ∧ ∃ q os', w' = Go.Sort.grow (w.drewN q) os')
    (id : Nat) (xs : List β) (e : TypeId) (hlen : xs.length < 1099511627776) (H : List AObj) (hkH : H[id]? = some (grO e k (encL encA xs))) :
    ACall P (ρ.f 6) [grS id (encL encA xs), .fn g []] H (fun r H' => ∃ xs', xs.Perm xs' ∧ xs'.Pairwise (fun a b => ¬ cf b a < 0) ∧ r = .tup [] ∧ H' = H.set id (grO e k (encL encA xs'))) := by
  intro C vs hg hH hsz hv
  match vs, hsz, hv with
  | ⟨[v, fv]⟩, _, hv =>
    have h0 := hv 0 (by simp) (by simp)
    have hf := hv 1 (by simp) (by simp)
    simp only [List.getElem_cons_zero, List.getElem_cons_succ] at h0 hf
    have htup : ∀ C' : Ctx, VRel C' (.tup []) (.tuple #[]) := fun C' => .tup [] #[] rfl (fun i h => absurd h (by simp))
    have hfv : fv = .func (.func g) #[] #[] := by
      cases hf with
      | fn _ _ us hs _ =>
        have : us = #[] := Array.eq_empty_of_size_eq_zero hs
        rw [this]
    subst hfv
    cases xs with
    | nil =>
      have h0' : VRel C (.sl .zero []) v := h0
      have hset : H.set id (grO e k (encL encA [])) = H := by
        apply List.ext_getElem?
        intro i
        rw [List.getElem?_set]
        split
        · rename_i h; subst h
          have hl := (List.getElem?_eq_some_iff.1 hkH).1
          simp only [hl, if_true]; exact hkH.symm
        · rfl
      cases h0' with
      | sl _ _ a n c f hn hc hrow hrel htok =>
        subst hn
        refine (show Calls P (ρ.f 6) #[.slice a 0 c, .func (.func g) #[] #[]] C.w (fun e w' => e = .returned (.tuple #[]) ∧ w' = C.w) from AnyF.slices_SortFunc_none L a c _ C.w).mono fun e w' ⟨he, hw⟩ => ?_
        subst hw
        exact ⟨_, .tup [], C, he, rfl, hg, Ext.refl C, htup C, [], List.Perm.refl _, List.Pairwise.nil, rfl, by rw [hset]; exact hH⟩
    | cons s ss' =>
      have hlf : ∀ l : List β, (flat (encL encA l)).length = l.length * k := fun l => by rw [flat_length (uni_encL (enc := encA) (k := k) hu l), encL_length]
      have h0' : VRel C (.gr id (encL encA (s :: ss')).length) v := h0
      have hkC : C.H[id]? = some (.grow e k (flat (encL encA (s :: ss')))) := by rw [hH, hkH]; rfl
      have hne : s :: ss' ≠ [] := by simp
      generalize s :: ss' = xs at *
      have hxl : 0 < xs.length := List.length_pos_iff.2 hne
      cases h0' with
      | gr _ _ ad c hgr =>
        obtain ⟨e', sz', vs', hk2, _, _, hr⟩ := hgr
        rw [hkC] at hk2
        injection hk2 with hk2; injection hk2 with q1 q2 q3
        subst q1 q2 q3
        rw [encL_length] at hr ⊢
        obtain ⟨cur, rfl, hb, hcm, hc1, hcs⟩ := hr (hlf xs).symm
        obtain ⟨cur2, hb2, hfit, hS, hrel⟩ := hg.obj id _ hkC
        rw [hb] at hb2
        injection hb2 with hb2; injection hb2 with hb2 _ _
        subst hb2
        rw [hlf] at hfit
        have hpos : ∀ i j, i < xs.length → j < k → i * k + j < xs.length * k := fun i j hi hj => by
          have := Nat.mul_le_mul_right k (show i + 1 ≤ xs.length from hi)
          rw [Nat.add_mul] at this; omega
        have hlt := hg.lt id _ hkC (by simp [AObj.kind])
        have hcv : ∀ i j (hi : i < xs.length) (hj : j < k), VRel C ((encA xs[i]).cells[j]'(by rw [hu]; exact hj)) (cur[i * k + j]'(by have := hpos i j hi hj; omega)) := by
          intro i j hi hj
          have hp := hpos i j hi hj
          have h2 := (hrel (i * k + j) (by rw [hlf]; exact hp) (by omega)).1
          have h3 := flat_get (uni_encL (enc := encA) (k := k) hu xs) i j (by rw [encL_length]; exact hi) hj
          rw [List.getElem?_eq_getElem (by rw [hlf]; exact hp), encL_get, List.getElem?_eq_getElem (by rw [hu]; exact hj)] at h3
          injection h3 with h3
          rw [h3] at h2
          exact h2
        have hex : ∀ i : Fin xs.length, ∃ a, enc a = ((List.range k).map fun j => cur[i.1 * k + j]!) ∧ abs a = xs[i.1] := fun i => hrep C xs[i.1] _ (by simp) (fun j h h' => by
          have hj : j < k := by rw [hu] at h; exact h
          have := hcv i.1 j i.2 hj
          have hp := hpos i.1 j i.2 hj
          simpa [getElem!_pos cur (i.1 * k + j) (by omega)] using this)
        obtain ⟨fn, hfn⟩ := Classical.axiomOfChoice hex
        obtain ⟨d, hd⟩ : ∃ d : Array α, d = Array.ofFn fn := ⟨_, rfl⟩
        have hds : d.size = xs.length := by rw [hd]; simp
        have hdg : ∀ i (h : i < xs.length), d[i]! = fn ⟨i, h⟩ := fun i h => by rw [hd, getElem!_pos _ i (by simpa using h)]; simp
        have hdx : d.toList.map abs = xs := by
          apply List.ext_getElem
          · simp [hds]
          · intro i h1 h2
            have h3 : i < d.size := by simpa using h1
            simp only [List.getElem_map, Array.getElem_toList]
            rw [← getElem!_pos d i h3, hdg i h2]
            exact (hfn ⟨i, h2⟩).2
        have hHolds : Go.Sort.HoldsK enc k C.w (C.μ id) 0 d := fun t ht => by
          rw [Go.Sort.size_flatK, hds] at ht
          have hki : t / k < xs.length := Nat.div_lt_of_lt_mul (by rw [Nat.mul_comm]; exact ht)
          have hkj : t % k < k := Nat.mod_lt _ hk0
          have hsum : t / k * k + t % k = t := by rw [Nat.mul_comm]; exact Nat.div_add_mod t k
          have htc : t < cur.size := by omega
          refine ⟨?_, by simp [World.frozen?, hb]⟩
          rw [Go.Sort.get_flatK enc k d t (by rw [hds]; exact ht), hdg _ hki, (hfn ⟨t / k, hki⟩).1]
          simp only [Nat.zero_add, _root_.id]
          rw [getElem!_pos _ _ (by simpa using hkj)]
          simp only [List.getElem_map, List.getElem_range, hsum]
          simp [World.cell?, hb, htc]
        have hcmp : CmpLays P g #[] enc k (fun a b => cf (abs a) (abs b)) (C.μ id) 0 d.size C.w := fun m os dk _ x y => by
          rw [Array.append_empty]; exact hcalls _ x y
        have hcall := AnyQ.slices_SortFunc L k aE zE enc hk h1 (fun a b => cf (abs a) (abs b)) hO g #[] (C.μ id) 0 c d C.w eg hcmp hHolds hlt (by omega)
        rw [hds] at hcall
        refine hcall.mono fun e2 w' ⟨he, d', q, os, hperm, hsort, hw⟩ => ?_
        subst hw
        have hd's : d'.size = xs.length := by rw [hperm.1, hds]
        have hpl : d'.toList.Perm d.toList := by
          have h5 := hperm.2.2
          rwa [← hds, ← hperm.1, Array.extract_size, hperm.1, Array.extract_size] at h5
        have hxl' : (d'.toList.map abs).length = xs.length := by simp [hd's]
        have hF : (Go.Sort.flatK enc k d').size = xs.length * k := by rw [Go.Sort.size_flatK, hd's]
        have hputs : (Go.Sort.putCells _root_.id 0 (Go.Sort.flatK enc k d') cur).size = cur.size := by simp [Go.Sort.putCells]
        have hheap := putRow_heapG _root_.id (Go.Sort.ahead C.w q) (C.μ id) 0 (Go.Sort.flatK enc k d') cur e (0, 0) hb
        obtain ⟨hg1, hx1⟩ := step_gr_in hg id (vs' := flat (encL encA (d'.toList.map abs))) hkC hb (w' := Go.Sort.putRowK enc k (Go.Sort.ahead C.w q) (C.μ id) 0 d') hheap ⟨rfl, rfl, rfl⟩ hputs (by rw [hlf, hlf, hxl']; omega) rfl (fun hxx => by
          refine ⟨Go.Sort.putCells _root_.id 0 (Go.Sort.flatK enc k d') cur, by show (Go.Sort.putRow _ _ _ _ _).heap[_]? = _; rw [hheap]; simp [hlt, Go.Sort.ahead], by rw [hlf, hputs, hxl']; omega, hS, fun j hj hj' => ?_⟩
          rw [hlf, hxl'] at hj
          have hi : j / k < xs.length := Nat.div_lt_of_lt_mul (by rw [Nat.mul_comm]; exact hj)
          have hr : j % k < k := Nat.mod_lt _ hk0
          have hsum : j / k * k + j % k = j := by rw [Nat.mul_comm]; exact Nat.div_add_mod j k
          have hi' : j / k < d'.size := by omega
          have h3 := flat_get (uni_encL (enc := encA) (k := k) hu (d'.toList.map abs)) (j / k) (j % k) (by rw [encL_length, hxl']; exact hi) hr
          rw [hsum, List.getElem?_eq_getElem (by rw [hlf, hxl']; exact hj), encL_get, List.getElem?_eq_getElem (by rw [hu]; exact hr)] at h3
          injection h3 with h3
          rw [h3, putCells_getG _root_.id (Go.Sort.flatK enc k d') cur j (by rw [hF]; exact hj) hj']
          refine ⟨?_, hcell _ _ (List.getElem_mem _)⟩
          simp only [List.getElem_map, Array.getElem_toList, _root_.id]
          rw [← getElem!_pos (Go.Sort.flatK enc k d') j (by rw [hF]; exact hj), Go.Sort.get_flatK enc k d' j (by rw [hd's]; exact hj), getElem!_pos d' (j / k) hi']
          have hmem : d'[j / k] ∈ d.toList := hpl.subset (by simp)
          obtain ⟨i0, hi0, he0⟩ := List.getElem_of_mem hmem
          have hi0' : i0 < xs.length := by simpa [hds] using hi0
          have hd0 : d'[j / k] = fn ⟨i0, hi0'⟩ := by
            rw [← he0, Array.getElem_toList, ← getElem!_pos d i0 (by omega), hdg i0 hi0']
          have h7 := hfn ⟨i0, hi0'⟩
          rw [← hd0] at h7
          have h8 := (hcv i0 (j % k) hi0' hr).ext hxx
          have h9 : ((encA (abs d'[j / k])).cells[j % k]'(by rw [hu]; exact hr)) = (encA xs[i0]).cells[j % k]'(by rw [hu]; exact hr) := by simp only [h7.2]
          rw [h9, h7.1, getElem!_pos _ _ (by simpa using hr)]
          simp only [List.getElem_map, List.getElem_range]
          have hp := hpos i0 (j % k) hi0' hr
          rw [getElem!_pos cur _ (by omega)]
          exact h8)
        obtain ⟨hg2, hx2⟩ := step_more hg1 (Go.Sort.grow (Go.Sort.putRowK enc k (Go.Sort.ahead C.w q) (C.μ id) 0 d') os) os rfl ⟨rfl, rfl, rfl⟩
        refine ⟨_, .tup [], _, he, rfl, hg2, hx1.trans hx2, htup _, d'.toList.map abs, ?_, ?_, rfl, ?_⟩
        · rw [← hdx]; exact (hpl.map abs).symm
        · rw [List.pairwise_map, List.pairwise_iff_getElem]
          intro i j hi hj hij
          have := hsort i j (Nat.zero_le _) hij (by simpa [hd's] using hj)
          rw [getElem!_pos d' j (by simpa using hj), getElem!_pos d' i (by simpa using hi)] at this
          simpa [ltOf] using this
        · have hgo : grO e k (encL encA (d'.toList.map abs)) = .grow e k (flat (encL encA (d'.toList.map abs))) := by
            cases hq : d'.toList.map abs with
            | nil => rw [hq] at hxl'; simp at hxl'; omega
            | cons a r => rfl
          rw [hgo, ← hH]
end Ab
namespace Go.Proofs
open Go.Shelf Go.Sort Go.RowKit
def Tryz.lays106_ren : Go.Shelf.Ren := ⟨fun | 106 => 47 | 213 => 81 | 265 => 121 | n => n, fun | 9 => 9 | 3 => 3 | n => n, fun | n => n⟩
theorem Tryz.lays106 : Go.Proofs.Lays.n106 Tryz.prog Tryz.lays106_ren := {
  mixed := by kernel_rfl
  f106 := Tryz.func47.trans (congrArg some (by kernel_rfl))
  f213 := Tryz.func81.trans (congrArg some (by kernel_rfl))
  f265 := Tryz.func121.trans (congrArg some (by kernel_rfl))
  t3 := Tryz.underlying3
  a3 := Tryz.isAgg3
  z3 := Tryz.sizeOf3
  v3 := Tryz.zeroValue3
  t9 := Tryz.underlying9
  a9 := Tryz.isAgg9
  z9 := Tryz.sizeOf9
  v9 := Tryz.zeroValue9 }
theorem Tryz.strings_Compare (a b : ByteArray) (w : World) :
    Calls Tryz.prog 47 #[.string a, .string b] w fun e w' => e = .returned (.int .i64 (Lib.compareBytes a.data.toList b.data.toList)) ∧ w' = w := Any.strings_Compare Tryz.lays106 a b w
def Tryz.sortSy_ren : Go.Shelf.Ren := ⟨fun | 6 => 45 | 15 => 80 | 14 => 79 | 28 => 119 | 29 => 120 | 20 => 111 | 21 => 112 | 22 => 113 | 23 => 114 | 24 => 115 | 25 => 116 | 26 => 117 | 27 => 118 | 46 => 133 | 47 => 134 | 48 => 135 | 49 => 136 | 50 => 137 | 57 => 141 | n => n, fun | 22 => 33 | 24 => 64 | 25 => 88 | 3 => 3 | 39 => 119 | 0 => 0 | 53 => 151 | 55 => 153 | 4 => 4 | 46 => 145 | 45 => 144 | 50 => 116 | 5 => 5 | 9 => 9 | 66 => 165 | 70 => 169 | 76 => 174 | 77 => 104 | n => n, fun | n => n⟩
theorem Tryz.sortSy : Go.Proofs.SlLaysF0.n6 Tryz.prog Tryz.sortSy_ren := {
  mixed := by kernel_rfl
  f6 := ⟨Tryz.f45.name, by decide, Tryz.func45.trans (congrArg some (by kernel_rfl))⟩
  f14 := ⟨Tryz.f79.name, by decide, Tryz.func79.trans (congrArg some (by kernel_rfl))⟩
  f15 := Tryz.func80.trans (congrArg some (by kernel_rfl))
  f20 := ⟨Tryz.f111.name, by decide, Tryz.func111.trans (congrArg some (by kernel_rfl))⟩
  f21 := ⟨Tryz.f112.name, by decide, Tryz.func112.trans (congrArg some (by kernel_rfl))⟩
  f22 := ⟨Tryz.f113.name, by decide, Tryz.func113.trans (congrArg some (by kernel_rfl))⟩
  f23 := ⟨Tryz.f114.name, by decide, Tryz.func114.trans (congrArg some (by kernel_rfl))⟩
  f24 := ⟨Tryz.f115.name, by decide, Tryz.func115.trans (congrArg some (by kernel_rfl))⟩
  f25 := ⟨Tryz.f116.name, by decide, Tryz.func116.trans (congrArg some (by kernel_rfl))⟩
  f26 := ⟨Tryz.f117.name, by decide, Tryz.func117.trans (congrArg some (by kernel_rfl))⟩
  f27 := ⟨Tryz.f118.name, by decide, Tryz.func118.trans (congrArg some (by kernel_rfl))⟩
  f28 := Tryz.func119.trans (congrArg some (by kernel_rfl))
  f29 := Tryz.func120.trans (congrArg some (by kernel_rfl))
  f46 := ⟨Tryz.f133.name, by decide, Tryz.func133.trans (congrArg some (by kernel_rfl))⟩
  f47 := Tryz.func134.trans (congrArg some (by kernel_rfl))
  f48 := Tryz.func135.trans (congrArg some (by kernel_rfl))
  f49 := ⟨Tryz.f136.name, by decide, Tryz.func136.trans (congrArg some (by kernel_rfl))⟩
  f50 := ⟨Tryz.f137.name, by decide, Tryz.func137.trans (congrArg some (by kernel_rfl))⟩
  f57 := ⟨Tryz.f141.name, by decide, Tryz.func141.trans (congrArg some (by kernel_rfl))⟩
  t0 := Tryz.underlying0
  a0 := Tryz.isAgg0
  z0 := Tryz.sizeOf0
  v0 := Tryz.zeroValue0
  t3 := Tryz.underlying3
  a3 := Tryz.isAgg3
  z3 := Tryz.sizeOf3
  v3 := Tryz.zeroValue3
  t4 := Tryz.underlying4
  a4 := Tryz.isAgg4
  z4 := Tryz.sizeOf4
  v4 := Tryz.zeroValue4
  t5 := Tryz.underlying5
  a5 := Tryz.isAgg5
  z5 := Tryz.sizeOf5
  v5 := Tryz.zeroValue5
  t9 := Tryz.underlying9
  a9 := Tryz.isAgg9
  z9 := Tryz.sizeOf9
  v9 := Tryz.zeroValue9
  t22 := Tryz.underlying33
  a22 := Tryz.isAgg33
  z22 := Tryz.sizeOf33
  v22 := Tryz.zeroValue33
  t25 := Tryz.underlying88
  a25 := Tryz.isAgg88
  z25 := Tryz.sizeOf88
  v25 := Tryz.zeroValue88
  t39 := Tryz.underlying119
  a39 := Tryz.isAgg119
  z39 := Tryz.sizeOf119
  v39 := Tryz.zeroValue119
  t45 := Tryz.underlying144
  a45 := Tryz.isAgg144
  z45 := Tryz.sizeOf144
  v45 := Tryz.zeroValue144
  t46 := Tryz.underlying145
  a46 := Tryz.isAgg145
  z46 := Tryz.sizeOf145
  v46 := Tryz.zeroValue145
  t50 := Tryz.underlying116
  a50 := Tryz.isAgg116
  z50 := Tryz.sizeOf116
  v50 := Tryz.zeroValue116
  t53 := Tryz.underlying151
  a53 := Tryz.isAgg151
  z53 := Tryz.sizeOf151
  v53 := Tryz.zeroValue151
  t55 := Tryz.underlying153
  a55 := Tryz.isAgg153
  z55 := Tryz.sizeOf153
  v55 := Tryz.zeroValue153
  t66 := Tryz.underlying165
  a66 := Tryz.isAgg165
  z66 := Tryz.sizeOf165
  v66 := Tryz.zeroValue165
  t70 := Tryz.underlying169
  a70 := Tryz.isAgg169
  z70 := Tryz.sizeOf169
  v70 := Tryz.zeroValue169
  t76 := Tryz.underlying174
  a76 := Tryz.isAgg174
  z76 := Tryz.sizeOf174
  v76 := Tryz.zeroValue174
  t77 := Tryz.underlying104
  a77 := Tryz.isAgg104
  z77 := Tryz.sizeOf104
  v77 := Tryz.zeroValue104 }
end Go.Proofs
set_option maxRecDepth 10000
namespace Go.Proofs
open Go.Shelf Go.RowKit Go.Lib Go.Sort
set_option maxHeartbeats 1000000 in
theorem Tryz.sortSyC (a b : ByteArray) (a1 b1 : Value) (W : World) : Calls Tryz.prog 46 #[.agg #[.string a, a1], .agg #[.string b, b1]] W fun e w' => e = .returned (.int .i64 (Lib.compareBytes a.data.toList b.data.toList)) ∧ ∃ q os', w' = grow (W.drewN q) os' := by
  have hcon := fun W' => Tryz.strings_Compare a b W'
  generalize Lib.compareBytes a.data.toList b.data.toList = r at hcon ⊢
  go_enter Tryz.func46, Tryz.ntmps46
  go_wp2_with (go_at_call 47; refine (hcon _).mono ?_; rintro e w' ⟨rfl, rfl⟩)
  go_ret
  exact ⟨rfl, 0, _, by rw [alloc_eq_grow, alloc_eq_grow, grow_grow]; rfl⟩
end Go.Proofs
namespace Ab
open Go Go.Proofs
@[reducible] def encSy (s : List UInt8 × Nat) : AV := .agg [.str s.1, .int .i64 (s.2 : Nat)]
theorem cellSy : ∀ (x : List UInt8 × Nat) c, c ∈ (encSy x).cells → c.isCell = true := by
  intro x c hc; simp [AV.cells] at hc; rcases hc with rfl | rfl <;> rfl
theorem uniSy (l : List (List UInt8 × Nat)) : Uni (1 + 1) (encL encSy l) = True := eq_true (uni_encL (enc := encSy) (k := 2) (fun _ => rfl) l)
theorem scSy_ (n : Nat) (l : List (List UInt8 × Nat)) : ScopedL n (encL encSy l) = True := eq_true (scoped_encL (fun x => by simp [Scoped, ScopedL]) l)
theorem flat_encSy (l : List (List UInt8 × Nat)) : (flat (encL encSy l)).length = l.length * 2 := by rw [flat_length (uni_encL (enc := encSy) (k := 2) (fun _ => rfl) l), encL_length]
theorem scflSy (n : Nat) (l : List (List UInt8 × Nat)) : ScopedL n (flat (encL encSy l)) = True := by
  refine eq_true ?_
  rw [ScopedL_iff]
  intro v hv
  unfold flat encL at hv
  rw [List.mem_flatMap] at hv
  obtain ⟨a, ha, hv⟩ := hv
  obtain ⟨b, _, rfl⟩ := List.mem_map.1 ha
  simp only [AV.cells, List.mem_cons, List.not_mem_nil, or_false] at hv
  rcases hv with rfl | rfl <;> simp [Scoped]
attribute [push_cast] uniSy scSy_ scflSy
def encSyV (s : List UInt8 × Nat) : List Value := [.string ⟨s.1.toArray⟩, .int .i64 (s.2 : Nat)]
theorem sy_swo : Go.Sort.SWO (ltOf fun a b : List UInt8 × Nat => Lib.compareBytes a.1 b.1) := by
  have hz : ∀ x y : List UInt8 × Nat, ltOf (fun a b : List UInt8 × Nat => Lib.compareBytes a.1 b.1) x y = decide (Lib.compareBytes x.1 y.1 < 0) := fun _ _ => rfl
  refine ⟨fun x => ?_, fun x y z h1 h2 => ?_, fun x y z h1 h2 => ?_⟩
  · rw [hz, (compareBytes_eq x.1 x.1).2 rfl]; rfl
  · rw [hz, decide_eq_true_eq] at *; exact cb_trans _ _ _ h1 h2
  · rw [hz, decide_eq_false_iff_not] at *
    intro h3
    by_cases e : x.1 = y.1
    · rw [e] at h3; exact h2 h3
    · exact h2 (cb_trans _ _ _ (cb_tot _ _ h1 e) h3)
theorem sortSy_ac (k : Nat) (l : List (List UInt8 × Nat)) (hlen : l.length < 1099511627776) (H : List AObj) (hk : H[k]? = some (grO 64 2 (encL encSy l))) :
    ACall Tryz.prog 45 [grS k (encL encSy l), .fn 46 []] H (fun r H' => ∃ l', l.Perm l' ∧ l'.Pairwise (fun a b => ¬ Lib.compareBytes b.1 a.1 < 0) ∧ r = .tup [] ∧ H' = H.set k (grO 64 2 (encL encSy l'))) :=
  sortG (ρ := Tryz.sortSy_ren) Tryz.sortSy 2 (by decide) Tryz.isAgg64 Tryz.sizeOf64 encSy (fun _ => rfl) cellSy encSyV (fun _ => rfl) (fun a v hv => by
      simp only [encSyV, List.mem_cons, List.not_mem_nil, or_false] at hv
      rcases hv with rfl | rfl <;> rfl) _root_.id (fun C x vs hl h => by
      match vs, hl with
      | [a, b], _ =>
        have h0 := h 0 (by simp [AV.cells]) (by simp)
        have h1 := h 1 (by simp [AV.cells]) (by simp)
        have g0 := VRel.str_inv (show VRel C (.str x.1) a from h0)
        have g1 := VRel.int_inv (show VRel C (.int .i64 (x.2 : Nat)) b from h1)
        subst g0 g1
        exact ⟨x, rfl, rfl⟩)
    (fun a b => Lib.compareBytes a.1 b.1) sy_swo 46 (enters_of Tryz.func46 (by kernel_rfl) rfl) (fun w a b => Tryz.sortSyC _ _ _ _ w) k l 64 hlen H hk
def sysP (rs : List (Term × Term)) : Int := if rulesP rs ≠ 0 then rulesP rs else if arB rs then 6 else if (arE rs).2.any (fun s => markedP s.1) then 6 else if rs.any extraP then 7 else 0
theorem rules_ok {rs : List (Term × Term)} (h : rulesP rs = 0) : rs.length ≤ 64 ∧ ∀ r, r ∈ rs → checkP r.1 = 0 ∧ checkP r.2 = 0 := by
  unfold rulesP at h
  split at h
  · cases h
  · rename_i h1
    refine ⟨by omega, fun r hr => ?_⟩
    rw [firstErr_iff] at h
    exact ⟨h _ (mem_rT.2 ⟨r, hr, .inl rfl⟩), h _ (mem_rT.2 ⟨r, hr, .inr rfl⟩)⟩
def BndR (rs : List (Term × Term)) : Prop := ∀ r, r ∈ rs → r.1.bulk ≤ 1099511627770 ∧ r.2.bulk ≤ 1099511627770
theorem nodes_key {L : List (List UInt8 × Nat)} {q : Nat × List (List UInt8 × Nat)} : ∀ x, x ∈ (arF q L).2 → (∃ y, y ∈ q.2 ∧ y.1 = x.1) ∨ ∃ y, y ∈ L ∧ y.1 = x.1 := by
  induction L generalizing q with
  | nil => intro x hx; exact .inl ⟨x, hx, rfl⟩
  | cons s r ih =>
    intro x hx
    rcases ih (q := arStep q s) x hx with ⟨y, hy, e⟩ | ⟨y, hy, e⟩
    · have : (∃ z, z ∈ q.2 ∧ z.1 = y.1) ∨ y.1 = s.1 := by
        unfold arStep at hy
        split at hy
        · exact .inl ⟨y, hy, rfl⟩
        · have : ∀ (m : List (List UInt8 × Nat)), y ∈ aset m s.1 s.2 → (∃ z, z ∈ m ∧ z.1 = y.1) ∨ y.1 = s.1 := by
            intro m
            induction m with
            | nil => intro h; simp [aset] at h; rw [h]; exact .inr rfl
            | cons p m ih2 =>
              intro h
              unfold aset at h
              split at h
              · rcases List.mem_cons.1 h with h | h
                · rw [h]; exact .inr rfl
                · exact .inl ⟨y, by simp [h], rfl⟩
              · rcases List.mem_cons.1 h with h | h
                · exact .inl ⟨y, by simp [h], rfl⟩
                · rcases ih2 h with ⟨z, hz, e2⟩ | h
                  · exact .inl ⟨z, by simp [hz], e2⟩
                  · exact .inr h
          exact this _ hy
      rcases this with ⟨z, hz, e2⟩ | e2
      · exact .inl ⟨z, hz, e2.trans e⟩
      · exact .inr ⟨s, by simp, by rw [← e, e2]⟩
    · exact .inr ⟨y, by simp [hy], e⟩
theorem nodes_name : ∀ (ts : List Term) x, x ∈ nodesL ts → ∃ t, t ∈ ts ∧ x.1.length < t.bulk
  | [], x, h => by simp [nodesL] at h
  | .mk n u xs :: r, x, h => by
    rw [nodesL, List.mem_append, List.mem_append] at h
    rcases h with h | h | h
    · refine ⟨_, List.mem_cons_self, ?_⟩
      unfold ndT at h
      split at h
      · cases h
      · rw [List.mem_singleton] at h; rw [h]; exact Term.name_le
    · obtain ⟨t, ht, hl⟩ := nodes_name xs x h
      have := Term.arg_le (n := n) (v := u) ht
      exact ⟨_, List.mem_cons_self, by omega⟩
    · obtain ⟨t, ht, hl⟩ := nodes_name r x h
      exact ⟨t, List.mem_cons_of_mem _ ht, hl⟩
theorem arE_name {rs : List (Term × Term)} (hb : BndR rs) : ∀ x, x ∈ (arE rs).2 → x.1.length < 1099511627776 := by
  intro x hx
  rcases nodes_key x hx with ⟨y, hy, _⟩ | ⟨y, hy, e⟩
  · cases hy
  · obtain ⟨t, ht, hl⟩ := nodes_name _ y hy
    obtain ⟨r, hr, h⟩ := mem_rT.1 ht
    have := hb r hr
    rw [← e]
    rcases h with rfl | rfl <;> omega
theorem checkSystem_ac (rs : List (Term × Term)) (hlen : rs.length < 1099511627776) (hb : BndR rs) (H : List AObj) : ACall Tryz.prog 43 [.sl .none (encL encRu rs)] H (fun r H' => r = .int .i64 (sysP rs) ∧ H' = H) := by
  have hb' : ∀ r, r ∈ rs → r.1.bulk ≤ 1099511627775 ∧ r.2.bulk ≤ 1099511627775 := fun r hr => by have := hb r hr; omega
  refine ACall_V (H.length) 28 [.tmp 2] Tryz.func43 rfl rfl rfl ?_
  simp only [push_cast, Nat.reduceAdd, Nat.reduceSub, Nat.reduceMul, Nat.reduceLT, Nat.reduceLeDiff, Nat.reduceEqDiff, Int.reduceToNat, ↓reduceIte]
  refine (checkRules_ac rs hlen hb' _).to ?_
  simp only [push_cast, Nat.reduceAdd, Nat.reduceSub, Nat.reduceMul, Nat.reduceLT, Nat.reduceLeDiff, Nat.reduceEqDiff, Int.reduceToNat, ↓reduceIte]
  refine cI (fun h1 => ?_) (fun h1 => ?_)
  · refine (arities_ac rs hlen hb' _).mono ?_
    rintro r H' ⟨rfl, v, es, rfl, hve⟩
    cases hB : arB rs with
    | true =>
      have e : sysP rs = 6 := by simp [sysP, h1, hB]
      simp only [push_cast, Nat.reduceAdd, Nat.reduceSub, Nat.reduceMul, Nat.reduceLT, Nat.reduceLeDiff, Nat.reduceEqDiff, Int.reduceToNat, ↓reduceIte, e, Bool.not_true]
    | false =>
      obtain ⟨rfl, rfl⟩ := hve hB
      simp only [push_cast, Nat.reduceAdd, Nat.reduceSub, Nat.reduceMul, Nat.reduceLT, Nat.reduceLeDiff, Nat.reduceEqDiff, Int.reduceToNat, ↓reduceIte, Bool.not_false, Bool.false_eq_true, if_false]
      have hnm := arE_name hb
      obtain ⟨q, hq⟩ : ∃ q, q = arE rs := ⟨_, rfl⟩
      rw [← hq] at hnm ⊢
      refine AOp_range_map (H.length + 2) q.1 (sA q.2) rfl (by exact (agetN _ _ 2).trans rfl) un83 ?_
      simp only [push_cast, Nat.reduceAdd, Nat.reduceSub, Nat.reduceMul, Nat.reduceLT, Nat.reduceLeDiff, Nat.reduceEqDiff, Int.reduceToNat, ↓reduceIte]
      refine AW_loopW (maskG 29 [0, 19]) (fun (p : List (List UInt8 × Nat) × List (List UInt8 × Nat) × Option (List UInt8 × Nat)) => []) (fun p => H ++ [.cells [.map (H.length + 2)], .cells [.bool true], .map q.1 (sA q.2), .iter (H.length + 2) q.1 (sA p.2.1) (lN p.2.2)]) (fun p => (p.1 ++ p.2.1).Perm q.2 ∧ p.1.any (fun s => markedP s.1) = false) (fun p => p.2.1.length) ([], q.2, none) ⟨List.Perm.refl _, rfl⟩ (by simp only [push_cast, Nat.reduceAdd, Nat.reduceSub, Nat.reduceMul, Nat.reduceLT, Nat.reduceLeDiff, Nat.reduceEqDiff, Int.reduceToNat, ↓reduceIte, lN_n]) (fun p hp => ?_)
      obtain ⟨xs, left, last⟩ := p
      obtain ⟨hp, hall⟩ := hp
      simp only at hp hall
      simp only [push_cast, Nat.reduceAdd, Nat.reduceSub, Nat.reduceMul, Nat.reduceLT, Nat.reduceLeDiff, Nat.reduceEqDiff, Int.reduceToNat, ↓reduceIte]
      refine AOp_next_map (H.length + 3) (H.length + 2) q.1 (sA q.2) (sA left) (lN last) rfl (by exact (agetN _ _ 3).trans rfl) (by exact (agetN _ _ 2).trans rfl) (fun he => ?_) (fun j hj => ?_)
      · have hl0 : left = [] := by cases left with | nil => rfl | cons a l => simp [sA, amap] at he
        subst hl0
        rw [List.append_nil] at hp
        have hm : q.2.any (fun s => markedP s.1) = false := by
          rw [← Bool.not_eq_true, List.any_eq_true] at hall ⊢
          rintro ⟨x, hx, hxm⟩
          exact hall ⟨x, hp.mem_iff.2 hx, hxm⟩
        simp only [push_cast, Nat.reduceAdd, Nat.reduceSub, Nat.reduceMul, Nat.reduceLT, Nat.reduceLeDiff, Nat.reduceEqDiff, Int.reduceToNat, ↓reduceIte]
        refine (containsRu_ac rs 77 [] extraP _ hlen ok77 (by simp [ScopedL]) (fun i h => extra_ac _ (hb _ (List.getElem_mem h)).1 (hb _ (List.getElem_mem h)).2 _)).to ?_
        simp only [push_cast, Nat.reduceAdd, Nat.reduceSub, Nat.reduceMul, Nat.reduceLT, Nat.reduceLeDiff, Nat.reduceEqDiff, Int.reduceToNat, ↓reduceIte]
        refine cI (fun hx => ?_) (fun hx => ?_)
        · have e : sysP rs = 7 := by simp only [sysP, h1, hB, ← hq, hm]; simp [hx]
          simp only [push_cast, Nat.reduceAdd, Nat.reduceSub, Nat.reduceMul, Nat.reduceLT, Nat.reduceLeDiff, Nat.reduceEqDiff, Int.reduceToNat, ↓reduceIte, e]
        · have e : sysP rs = 0 := by simp only [sysP, h1, hB, ← hq, hm]; simp [hx]
          simp only [push_cast, Nat.reduceAdd, Nat.reduceSub, Nat.reduceMul, Nat.reduceLT, Nat.reduceLeDiff, Nat.reduceEqDiff, Int.reduceToNat, ↓reduceIte, e]
      · have hjl : j < left.length := by rw [sA_len] at hj; exact hj
        have e1 : (sA left)[j] = (.str left[j].1, avN left[j].2) := by simp [sA, amap]
        have e2 : (sA left).eraseIdx j = sA (left.eraseIdx j) := by simp only [sA, amap, erase_map]
        have hmm : left[j] ∈ q.2 := hp.mem_iff.1 (by simp)
        rw [e1, e2]
        simp only [push_cast, Nat.reduceAdd, Nat.reduceSub, Nat.reduceMul, Nat.reduceLT, Nat.reduceLeDiff, Nat.reduceEqDiff, Int.reduceToNat, ↓reduceIte]
        refine AOp_entry_map (H.length + 3) (H.length + 2) q.1 (sA q.2) (sA (left.eraseIdx j)) (.str left[j].1, avN left[j].2) rfl (by exact (agetN _ _ 3).trans rfl) (by exact (agetN _ _ 2).trans rfl) ?_
        simp only [push_cast, Nat.reduceAdd, Nat.reduceSub, Nat.reduceMul, Nat.reduceLT, Nat.reduceLeDiff, Nat.reduceEqDiff, Int.reduceToNat, ↓reduceIte]
        refine (markedT_ac left[j].1 (hnm _ hmm) _).to ?_
        simp only [push_cast, Nat.reduceAdd, Nat.reduceSub, Nat.reduceMul, Nat.reduceLT, Nat.reduceLeDiff, Nat.reduceEqDiff, Int.reduceToNat, ↓reduceIte]
        refine cI (fun hx => ?_) (fun hx => ?_)
        · have hm : q.2.any (fun s => markedP s.1) = true := List.any_eq_true.2 ⟨_, hmm, hx⟩
          have e : sysP rs = 6 := by simp only [sysP, h1, hB, ← hq, hm]; simp
          simp only [push_cast, Nat.reduceAdd, Nat.reduceSub, Nat.reduceMul, Nat.reduceLT, Nat.reduceLeDiff, Nat.reduceEqDiff, Int.reduceToNat, ↓reduceIte, e]
        · refine loopW_n (xs ++ [left[j]], left.eraseIdx j, some left[j]) ⟨?_, ?_⟩ (by simp only [List.length_eraseIdx]; split <;> omega) (by simp only [push_cast, Nat.reduceAdd, Nat.reduceSub, Nat.reduceMul, Nat.reduceLT, Nat.reduceLeDiff, Nat.reduceEqDiff, Int.reduceToNat, ↓reduceIte, lN_s])
          · refine List.Perm.trans ?_ hp
            rw [List.append_assoc]
            refine List.Perm.append_left xs ?_
            rw [List.eraseIdx_eq_take_drop_succ]
            refine (List.perm_middle (l₁ := left.take j) (l₂ := left.drop (j + 1)) (a := left[j])).symm.trans ?_
            rw [← List.drop_eq_getElem_cons hjl, List.take_append_drop]
          · rw [List.any_append, hall]; simpa using hx
  · have e : sysP rs = rulesP rs := by simp [sysP, h1]
    simp only [push_cast, Nat.reduceAdd, Nat.reduceSub, Nat.reduceMul, Nat.reduceLT, Nat.reduceLeDiff, Nat.reduceEqDiff, Int.reduceToNat, ↓reduceIte, e]
end Ab
set_option maxRecDepth 10000
namespace Ab
open Go Go.Proofs
@[reducible] def encSt (s : Int × List Int) : AV := .agg [.int .i64 s.1, .sl .none (encP s.2)]
theorem uniSt (l : List (Int × List Int)) : Uni (1 + 1) (encL encSt l) = True := eq_true (uni_encL (enc := encSt) (k := 2) (fun _ => rfl) l)
theorem scSt_ (n : Nat) (l : List (Int × List Int)) : ScopedL n (encL encSt l) = True := eq_true (scoped_encL (fun x => by simp [Scoped, ScopedL, scoped_encP]) l)
attribute [push_cast] uniSt scSt_
def SysB (rs : List (Term × Term)) : Prop := rs.length ≤ 64 ∧ ∀ r, r ∈ rs → r.1.bulk ≤ 1099511627770 ∧ r.2.bulk ≤ 1099511627770
end Ab
set_option maxRecDepth 10000
namespace Ab
open Go Go.Proofs Go.Proofs.YtohdojbfkcodjaaGreat
section
variable {H : Type}
theorem kdStep : kindOf Tryz.prog 74 = .struct [3, 72] := by kernel_rfl
theorem step_form (n : Nat) (d : DataW H) (avs : List AV) (h : toAV Tryz.prog n 74 d = some avs) : ∃ s : Int × List Int, .agg avs = encSt s ∧ s.2.length + 1 ≤ Rows.uptoBulk d := by
  obtain ⟨m, parts, avss, rfl, rfl, hl, hm, rfl⟩ := toAV_struct kdStep h
  match parts, hl, hm with
  | [d1, d2], _, hm =>
    obtain ⟨h1, h2⟩ := mapM_get hm
    match avss, h1, h2 with
    | [a1, a2], _, h2 =>
      obtain ⟨a, _, rfl⟩ := toAV_int kdInt (h2 0 (by simp) (by simp))
      obtain ⟨p, rfl, b2⟩ := pos_form m d2 a2 (h2 1 (by simp) (by simp))
      exact ⟨(a, p), by simp, by have := bulk_pos d1; simp only [Rows.uptoBulk, Rows.uptoBulkAll]; omega⟩
end
end Ab
set_option maxRecDepth 10000
namespace Ab
open Go Go.Proofs
def matchRs : List Term → List Term → List (List UInt8 × Term) → List (List UInt8 × Term) × Bool
  | .mk n v xs :: r, y :: r', σ =>
    if v then (if (leafM σ n y).2 then matchRs r r' (leafM σ n y).1 else ([], false))
    else if clash n xs.length y then ([], false)
    else if (matchRs xs y.args σ).2 then matchRs r r' (matchRs xs y.args σ).1 else ([], false)
  | _, _, σ => (σ, true)
def matchR (p t : Term) (σ : List (List UInt8 × Term)) : List (List UInt8 × Term) × Bool :=
  if p.var then leafM σ p.name t else if clash p.name p.args.length t then ([], false) else matchRs p.args t.args σ
theorem matchR_v (n : List UInt8) (xs : List Term) (y : Term) (σ : List (List UInt8 × Term)) : matchR (.mk n true xs) y σ = leafM σ n y := by unfold matchR; exact if_pos rfl
theorem matchR_c {n : List UInt8} {xs : List Term} {y : Term} (σ : List (List UInt8 × Term)) (h : clash n xs.length y = true) : matchR (.mk n false xs) y σ = ([], false) := by
  unfold matchR
  exact (if_neg (by simp [Term.var_mk])).trans (if_pos h)
theorem matchR_g {n : List UInt8} {xs : List Term} {y : Term} (σ : List (List UInt8 × Term)) (h : clash n xs.length y = false) : matchR (.mk n false xs) y σ = matchRs xs y.args σ := by
  unfold matchR
  exact (if_neg (by simp [Term.var_mk])).trans (if_neg (fun e => by rw [show clash (Term.mk n false xs).name (Term.mk n false xs).args.length y = clash n xs.length y from rfl, h] at e; cases e))
theorem matchRs_cons (p y : Term) (r r' : List Term) (σ : List (List UInt8 × Term)) : matchRs (p :: r) (y :: r') σ = if (matchR p y σ).2 then matchRs r r' (matchR p y σ).1 else ([], false) := by
  cases p with
  | mk n v xs =>
    rw [matchRs]
    cases v with
    | true => rw [matchR_v]; simp
    | false =>
      cases hc : clash n xs.length y with
      | true => rw [matchR_c σ hc]; simp
      | false => rw [matchR_g σ hc]; simp
theorem matchRs_nil (ys : List Term) (σ : List (List UInt8 × Term)) : matchRs [] ys σ = (σ, true) := by cases ys <;> simp [matchRs]
theorem matchRs_eq : ∀ (xs ys : List Term) (σ : List (List UInt8 × Term)), (matchRs xs ys σ).2 = (matchTs xs ys σ).2 ∧ ((matchTs xs ys σ).2 = true → matchRs xs ys σ = matchTs xs ys σ)
  | [], ys, σ => by rw [matchRs_nil, matchTs_nil]; exact ⟨rfl, fun _ => rfl⟩
  | .mk n v xs :: r, [], σ => by simp [matchRs, matchTs]
  | .mk n v xs :: r, y :: r', σ => by
    have one : (matchR (.mk n v xs) y σ).2 = (matchP (.mk n v xs) y σ).2 ∧ ((matchP (.mk n v xs) y σ).2 = true → matchR (.mk n v xs) y σ = matchP (.mk n v xs) y σ) := by
      cases v with
      | true => rw [matchR_v, matchP_v]; exact ⟨rfl, fun _ => rfl⟩
      | false =>
        cases hc : clash n xs.length y with
        | true => rw [matchR_c σ hc, matchP_c σ hc]; exact ⟨rfl, fun h => by cases h⟩
        | false => rw [matchR_g σ hc, matchP_g σ hc]; exact matchRs_eq xs y.args σ
    rw [matchRs_cons, matchTs_cons, one.1]
    cases hq : (matchP (.mk n v xs) y σ).2 with
    | false => simp
    | true =>
      simp only [if_true]
      rw [one.2 hq]
      exact matchRs_eq r r' _
theorem matchRs_one (x y : Term) (σ : List (List UInt8 × Term)) : (matchRs [x] [y] σ).2 = (matchR x y σ).2 ∧ ((matchR x y σ).2 = true → matchRs [x] [y] σ = matchR x y σ) := by
  rw [matchRs_cons, matchRs_nil]
  cases h : (matchR x y σ).2 with
  | true => simp only [if_true]; exact ⟨by simp, fun _ => by rw [← h]⟩
  | false => simp
theorem matchR_eq (p t : Term) (σ : List (List UInt8 × Term)) : (matchR p t σ).2 = (matchP p t σ).2 ∧ ((matchP p t σ).2 = true → matchR p t σ = matchP p t σ) := by
  obtain ⟨h1, h2⟩ := matchRs_eq [p] [t] σ
  obtain ⟨g1, g2⟩ := matchRs_one p t σ
  rw [matchTs_one] at h1 h2
  exact ⟨g1.symm.trans h1, fun h => (g2 (g1.symm.trans (h1.trans h))).symm.trans (h2 h)⟩
theorem matchRs_split : ∀ (a a' b b' : List Term) (σ : List (List UInt8 × Term)), a.length = a'.length → matchRs (a ++ b) (a' ++ b') σ = if (matchRs a a' σ).2 then matchRs b b' (matchRs a a' σ).1 else ([], false)
  | [], [], b, b', σ, _ => by rw [matchRs_nil]; simp
  | [], _ :: _, _, _, _, h => by simp at h
  | _ :: _, [], _, _, _, h => by simp at h
  | x :: r, y :: r', b, b', σ, h => by
    rw [List.cons_append, List.cons_append, matchRs_cons, matchRs_cons]
    cases hq : (matchR x y σ).2 with
    | false => simp
    | true =>
      simp only [if_true]
      exact matchRs_split r r' b b' _ (by simpa using h)
theorem matchRs_step {xs ys : List Term} {σ : List (List UInt8 × Term)} (i : Nat) (h1 : i < xs.length) (h2 : i < ys.length) (h : (matchRs (xs.take i) (ys.take i) σ).2 = true) :
    ((matchR xs[i] ys[i] (matchRs (xs.take i) (ys.take i) σ).1).2 = true → matchRs (xs.take (i + 1)) (ys.take (i + 1)) σ = matchR xs[i] ys[i] (matchRs (xs.take i) (ys.take i) σ).1) ∧
    ((matchR xs[i] ys[i] (matchRs (xs.take i) (ys.take i) σ).1).2 = false → matchRs xs ys σ = ([], false)) := by
  have e : matchRs (xs.take (i + 1)) (ys.take (i + 1)) σ = matchRs [xs[i]] [ys[i]] (matchRs (xs.take i) (ys.take i) σ).1 := by
    rw [List.take_succ_eq_append_getElem h1, List.take_succ_eq_append_getElem h2, matchRs_split _ _ _ _ _ (by rw [List.length_take, List.length_take]; omega), h]
    simp only [if_true]
  obtain ⟨g1, g2⟩ := matchRs_one xs[i] ys[i] (matchRs (xs.take i) (ys.take i) σ).1
  refine ⟨fun hq => e.trans (g2 hq), fun hq => ?_⟩
  have hs := matchRs_split (xs.take (i + 1)) (ys.take (i + 1)) (xs.drop (i + 1)) (ys.drop (i + 1)) σ (by rw [List.length_take, List.length_take]; omega)
  rw [List.take_append_drop, List.take_append_drop, e, g1, hq] at hs
  rw [hs]; simp
theorem bound_ac (σ : List (List UInt8 × Term)) (v : List UInt8) (hlen : σ.length < 1099511627776) (H : List AObj) : ACall Tryz.prog 138 [.sl .none (encL encBd σ), .str v] H (fun r H' => r = .bool (look σ v).isSome ∧ H' = H) := by
  have key : (look σ v).isSome = σ.any fun b => decide (b.1 = v) := by
    unfold look
    rw [Option.isSome_map, Bool.eq_iff_iff, List.find?_isSome, List.any_eq_true]
  refine ACall_V (H.length) 16 [.tmp 4] Tryz.func138 rfl rfl rfl ?_
  simp only [push_cast, Nat.reduceAdd, Nat.reduceSub, Nat.reduceMul, Nat.reduceLT, Nat.reduceLeDiff, Nat.reduceEqDiff, Int.reduceToNat, ↓reduceIte]
  refine AW_loopW (maskG 18 [1, 5, 0, 0]) (fun (i : Nat) => [(9, .int .i64 i)]) (fun _ => H) (fun i => i ≤ σ.length ∧ (σ.take i).any (fun b => decide (b.1 = v)) = false) (fun i => σ.length - i) 0 ⟨Nat.zero_le _, by simp⟩ (by simp only [push_cast, Nat.reduceAdd, Nat.reduceSub, Nat.reduceMul, Nat.reduceLT, Nat.reduceLeDiff, Nat.reduceEqDiff, Int.reduceToNat, ↓reduceIte]) (fun i hi => ?_)
  simp only [push_cast, Nat.reduceAdd, Nat.reduceSub, Nat.reduceMul, Nat.reduceLT, Nat.reduceLeDiff, Nat.reduceEqDiff, Int.reduceToNat, ↓reduceIte]
  refine cI (fun h => ?_) (fun h => ?_)
  · have hil : i < σ.length := by omega
    repeat refine ⟨by omega, ?_⟩
    refine cI (fun he => ?_) (fun he => ?_)
    · rw [key, any_get hil (by simpa using he)]
    · repeat' first | refine ⟨by omega, ?_⟩ | refine cI (fun _ => ?_) (fun _ => ?_)
      exact loopW_n (i + 1) ⟨by omega, any_take_false hi.2 hil (by simpa using he)⟩ (by omega) (by simp only [push_cast, Nat.reduceAdd, Nat.reduceSub, Nat.reduceMul, Nat.reduceLT, Nat.reduceLeDiff, Nat.reduceEqDiff, Int.reduceToNat, ↓reduceIte])
  · have e := hi.2
    rw [List.take_of_length_le (by omega)] at e
    rw [key, e]
theorem with_ac (σ : List (List UInt8 × Term)) (v : List UInt8) (t : Term) (hlen : σ.length < 1099511627775) (hv : v.length < 1099511627776) (hn : ∀ b, b ∈ σ → b.1.length < 1099511627776) (H : List AObj) :
    ACall Tryz.prog 139 [.sl .none (encL encBd σ), .str v, encT t] H (fun r H' => r = .sl .none (encL encBd (insB σ v t)) ∧ H' = H) := by
  refine ACall_VA (H.length) 35 [.tmp 6] Tryz.func139 rfl rfl rfl ?_
  refine AW_reserve 1 ?_
  refine AW_of_W ?_
  simp only [push_cast, Nat.reduceAdd, Nat.reduceSub, Nat.reduceMul, Nat.reduceLT, Nat.reduceLeDiff, Nat.reduceEqDiff, Int.reduceToNat, ↓reduceIte]
  refine AW_loopW (maskG 38 [0, 0, 3, 1]) (fun (i : Nat) => [(7, .int .i64 i)]) (fun _ => H ++ [.dead, .cells [.str t.name, .bool t.var, .sl .none (encTs t.args)]]) (fun i => i ≤ σ.length ∧ ∀ j (h : j < σ.length), j < i → Lib.compareBytes σ[j].1 v < 0) (fun i => σ.length - i) 0 ⟨Nat.zero_le _, fun j h1 h => by omega⟩ (by simp only [push_cast, Nat.reduceAdd, Nat.reduceSub, Nat.reduceMul, Nat.reduceLT, Nat.reduceLeDiff, Nat.reduceEqDiff, Int.reduceToNat, ↓reduceIte]) (fun i hi => ?_)
  simp only [push_cast, Nat.reduceAdd, Nat.reduceSub, Nat.reduceMul, Nat.reduceLT, Nat.reduceLeDiff, Nat.reduceEqDiff, Int.reduceToNat, ↓reduceIte]
  have hdr : List.take (σ.length - i) (List.drop i σ) = σ.drop i := List.take_of_length_le (by simp)
  have hfin : (∀ h : i < σ.length, ¬ Lib.compareBytes σ[i].1 v < 0) → insB σ v t = σ.take i ++ ([(v, t)] ++ σ.drop i) := by
    intro h1
    have hia := insAt_eq (σ.map (·.1)) v i (by rw [List.length_map]; exact hi.1) (fun j hj hji => by rw [List.getElem_map]; exact hi.2 j (by simpa using hj) hji) (fun hj => by rw [List.getElem_map]; exact h1 (by simpa using hj))
    unfold insB
    rw [hia, List.append_assoc]
  refine cI (fun h => ?_) (fun h => ?_)
  · have hil : i < σ.length := by omega
    refine ⟨hil, ?_⟩
    refine (cmpNames_ac (σ[i]'hil).1 v (hn _ (List.getElem_mem hil)) hv _).to ?_
    simp only [push_cast, Nat.reduceAdd, Nat.reduceSub, Nat.reduceMul, Nat.reduceLT, Nat.reduceLeDiff, Nat.reduceEqDiff, Int.reduceToNat, ↓reduceIte]
    refine cI (fun hc => ?_) (fun hc => ?_)
    · repeat' first | refine ⟨by omega, ?_⟩ | refine cI (fun _ => ?_) (fun _ => ?_)
      refine loopW_n (i + 1) ⟨by omega, fun j h1 h => ?_⟩ (by omega) (by simp only [push_cast, Nat.reduceAdd, Nat.reduceSub, Nat.reduceMul, Nat.reduceLT, Nat.reduceLeDiff, Nat.reduceEqDiff, Int.reduceToNat, ↓reduceIte])
      rcases Nat.lt_or_ge j i with hj | hj
      · exact hi.2 j h1 hj
      · have hji : j = i := by omega
        subst hji; exact hc
    · skip
      apply AW_drawE [some 24, some 25, some 26, some 27, some 28, some 29, some 30, some 31, some 32, some 33, some 34, some 35, some 36, some 37, some 6] [([false, false, false], _), ([true, false, false], _), ([true, true, false], _), ([true, true, true], _)] [none, none, none, none, some 0, none, none, none, none, some 1, none, none, none, some 2, none] 3 [(0, [false, false, false], []), (1, [false, false, false], [0]), (2, [false, false, false], [7]), (3, [false, false, false], [25, 0]), (4, [false, false, false], [24, 2]), (5, [true, false, false], [1]), (6, [true, false, false], [5]), (7, [true, false, false], [29, 0]), (8, [true, false, false], [31]), (9, [true, false, false], [28, 3]), (10, [true, true, false], [0]), (11, [true, true, false], [7]), (12, [true, true, false], [34, 0]), (13, [true, true, false], [33, 2]), (14, [true, true, true], [37]), (1, [true, false, false], [0]), (1, [true, true, false], [0]), (1, [true, true, true], [0]), (2, [true, false, false], [7]), (2, [true, true, false], [7]), (2, [true, true, true], [7]), (5, [false, false, false], [1]), (5, [true, true, false], [1]), (5, [true, true, true], [1]), (6, [false, false, false], [5]), (6, [true, true, false], [5]), (6, [true, true, true], [5]), (7, [false, false, false], [29, 0]), (7, [true, true, false], [29, 0]), (7, [true, true, true], [29, 0]), (8, [false, false, false], [31]), (10, [false, false, false], [0]), (10, [true, false, false], [0]), (10, [true, true, true], [0]), (11, [false, false, false], [7]), (11, [true, false, false], [7]), (11, [true, true, true], [7]), (12, [false, false, false], [34, 0]), (12, [true, false, false], [34, 0])] [_, _, _, _, _, _, _, _, _, _, _, _, _, _, _]
      case' hm => exact dr
      case' hn => rfl
      case' hok => rfl
      case' hlen => rfl
      case' hd => rfl
      case' h0 => rfl
      case' hstep =>
       simp only [DAllG, push_cast, Option.isSome_some, Option.isSome_none]
       repeat' apply And.intro
       all_goals (apply DOne_V; simp only [push_cast, Nat.reduceAdd, Nat.reduceSub, Nat.reduceMul, Nat.reduceLT, Nat.reduceLeDiff, Nat.reduceEqDiff, Int.reduceToNat, ↓reduceIte, List.drop_zero, Nat.sub_zero, hdr] <;> first | exact rfl | omega | exact ⟨rfl, rfl⟩ | exact trivial | exact ⟨by omega, rfl⟩ | exact ⟨by omega, by omega, rfl⟩ | exact ⟨by omega, rfl, rfl⟩ | exact ⟨by omega, by omega, rfl, rfl⟩ | (refine app_L encBd (sz := 4) (fun _ => rfl) cellBd _ H.length [] (σ.take i) _ rfl rfl (by exact aget0 _ _ _) sl101 sz157 by157 zr157 rfl (by decide) (by decide) (by simp; omega) ?_; simp only [push_cast, Nat.reduceAdd, Nat.reduceSub, Nat.reduceMul, Nat.reduceLT, Nat.reduceLeDiff, Nat.reduceEqDiff, Int.reduceToNat, ↓reduceIte, List.nil_append]; exact ⟨rfl, rfl⟩) | (refine app1_L encBd (sz := 4) (fun _ => rfl) cellBd _ H.length (σ.take i) (v, t) _ rfl rfl (by exact aget0 _ _ _) sl101 sz157 by157 zr157 rfl (by decide) (by decide) (by simp; omega) ?_; simp only [push_cast, Nat.reduceAdd, Nat.reduceSub, Nat.reduceMul, Nat.reduceLT, Nat.reduceLeDiff, Nat.reduceEqDiff, Int.reduceToNat, ↓reduceIte]; exact ⟨rfl, rfl⟩) | (refine app_L encBd (sz := 4) (fun _ => rfl) cellBd _ H.length (σ.take i ++ [(v, t)]) (σ.drop i) _ rfl rfl (by exact aget0 _ _ _) sl101 sz157 by157 zr157 rfl (by decide) (by decide) (by simp; omega) ?_; simp only [push_cast, Nat.reduceAdd, Nat.reduceSub, Nat.reduceMul, Nat.reduceLT, Nat.reduceLeDiff, Nat.reduceEqDiff, Int.reduceToNat, ↓reduceIte]; exact ⟨rfl, rfl⟩))
      case' hQ => skip
      simp only [push_cast, Nat.reduceAdd, Nat.reduceSub, Nat.reduceMul, Nat.reduceLT, Nat.reduceLeDiff, Nat.reduceEqDiff, Int.reduceToNat, ↓reduceIte, hfin (fun _ => hc)]
  · skip
    apply AW_drawE [some 24, some 25, some 26, some 27, some 28, some 29, some 30, some 31, some 32, some 33, some 34, some 35, some 36, some 37, some 6] [([false, false, false], _), ([true, false, false], _), ([true, true, false], _), ([true, true, true], _)] [none, none, none, none, some 0, none, none, none, none, some 1, none, none, none, some 2, none] 3 [(0, [false, false, false], []), (1, [false, false, false], [0]), (2, [false, false, false], [7]), (3, [false, false, false], [25, 0]), (4, [false, false, false], [24, 2]), (5, [true, false, false], [1]), (6, [true, false, false], [5]), (7, [true, false, false], [29, 0]), (8, [true, false, false], [31]), (9, [true, false, false], [28, 3]), (10, [true, true, false], [0]), (11, [true, true, false], [7]), (12, [true, true, false], [34, 0]), (13, [true, true, false], [33, 2]), (14, [true, true, true], [37]), (1, [true, false, false], [0]), (1, [true, true, false], [0]), (1, [true, true, true], [0]), (2, [true, false, false], [7]), (2, [true, true, false], [7]), (2, [true, true, true], [7]), (5, [false, false, false], [1]), (5, [true, true, false], [1]), (5, [true, true, true], [1]), (6, [false, false, false], [5]), (6, [true, true, false], [5]), (6, [true, true, true], [5]), (7, [false, false, false], [29, 0]), (7, [true, true, false], [29, 0]), (7, [true, true, true], [29, 0]), (8, [false, false, false], [31]), (10, [false, false, false], [0]), (10, [true, false, false], [0]), (10, [true, true, true], [0]), (11, [false, false, false], [7]), (11, [true, false, false], [7]), (11, [true, true, true], [7]), (12, [false, false, false], [34, 0]), (12, [true, false, false], [34, 0])] [_, _, _, _, _, _, _, _, _, _, _, _, _, _, _]
    case' hm => exact dr
    case' hn => rfl
    case' hok => rfl
    case' hlen => rfl
    case' hd => rfl
    case' h0 => rfl
    case' hstep =>
     simp only [DAllG, push_cast, Option.isSome_some, Option.isSome_none]
     repeat' apply And.intro
     all_goals (apply DOne_V; simp only [push_cast, Nat.reduceAdd, Nat.reduceSub, Nat.reduceMul, Nat.reduceLT, Nat.reduceLeDiff, Nat.reduceEqDiff, Int.reduceToNat, ↓reduceIte, List.drop_zero, Nat.sub_zero, hdr] <;> first | exact rfl | omega | exact ⟨rfl, rfl⟩ | exact trivial | exact ⟨by omega, rfl⟩ | exact ⟨by omega, by omega, rfl⟩ | exact ⟨by omega, rfl, rfl⟩ | exact ⟨by omega, by omega, rfl, rfl⟩ | (refine app_L encBd (sz := 4) (fun _ => rfl) cellBd _ H.length [] (σ.take i) _ rfl rfl (by exact aget0 _ _ _) sl101 sz157 by157 zr157 rfl (by decide) (by decide) (by simp; omega) ?_; simp only [push_cast, Nat.reduceAdd, Nat.reduceSub, Nat.reduceMul, Nat.reduceLT, Nat.reduceLeDiff, Nat.reduceEqDiff, Int.reduceToNat, ↓reduceIte, List.nil_append]; exact ⟨rfl, rfl⟩) | (refine app1_L encBd (sz := 4) (fun _ => rfl) cellBd _ H.length (σ.take i) (v, t) _ rfl rfl (by exact aget0 _ _ _) sl101 sz157 by157 zr157 rfl (by decide) (by decide) (by simp; omega) ?_; simp only [push_cast, Nat.reduceAdd, Nat.reduceSub, Nat.reduceMul, Nat.reduceLT, Nat.reduceLeDiff, Nat.reduceEqDiff, Int.reduceToNat, ↓reduceIte]; exact ⟨rfl, rfl⟩) | (refine app_L encBd (sz := 4) (fun _ => rfl) cellBd _ H.length (σ.take i ++ [(v, t)]) (σ.drop i) _ rfl rfl (by exact aget0 _ _ _) sl101 sz157 by157 zr157 rfl (by decide) (by decide) (by simp; omega) ?_; simp only [push_cast, Nat.reduceAdd, Nat.reduceSub, Nat.reduceMul, Nat.reduceLT, Nat.reduceLeDiff, Nat.reduceEqDiff, Int.reduceToNat, ↓reduceIte]; exact ⟨rfl, rfl⟩))
    case' hQ => skip
    simp only [push_cast, Nat.reduceAdd, Nat.reduceSub, Nat.reduceMul, Nat.reduceLT, Nat.reduceLeDiff, Nat.reduceEqDiff, Int.reduceToNat, ↓reduceIte, hfin (fun hh => absurd hh (by omega))]
theorem matchRs_ok : ∀ (xs ys : List Term) (σ : List (List UInt8 × Term)), SortedN (σ.map (·.1)) → (matchRs xs ys σ).2 = true → MatchOk σ (matchRs xs ys σ).1 (fun x => ∃ y, y ∈ ys ∧ SubT y x) ∧ (matchRs xs ys σ).1.length ≤ σ.length + (xs.map Term.size).sum := fun xs ys σ hs h => by
  obtain ⟨h1, h2⟩ := matchRs_eq xs ys σ
  rw [h2 (h1.symm.trans h)]
  exact matchTs_ok xs ys σ hs
theorem match_names : ∀ (xs ys : List Term) (σ : List (List UInt8 × Term)) (B : Nat), (∀ x, x ∈ xs → x.bulk ≤ B) → (∀ b, b ∈ σ → b.1.length ≤ B) → ∀ b, b ∈ (matchTs xs ys σ).1 → b.1.length ≤ B
  | [], ys, σ, B, _, h => by rw [matchTs_nil]; exact h
  | .mk n u xs :: r, [], σ, B, _, h => by rw [matchTs_nil2]; exact h
  | .mk n u xs :: r, y :: r', σ, B, hx, h => by
    have h0 := hx (.mk n u xs) (by simp)
    have hnl := Term.name_le (n := n) (v := u) (xs := xs)
    have one : ∀ b, b ∈ (matchP (.mk n u xs) y σ).1 → b.1.length ≤ B := by
      cases u with
      | true =>
        rw [matchP_v]
        unfold leafM
        split
        · exact h
        · intro b hb
          rcases (mem_insB b).1 hb with hb | rfl
          · exact h b hb
          · show n.length ≤ B; omega
      | false =>
        cases hc : clash n xs.length y with
        | true => rw [matchP_c σ hc]; exact h
        | false =>
          rw [matchP_g σ hc]
          exact match_names xs y.args σ B (fun x hx' => by have := Term.arg_le (n := n) (v := false) hx'; omega) h
    rw [matchTs_cons]
    cases (matchP (.mk n u xs) y σ).2 with
    | false => simpa using one
    | true => simp only [if_true]; exact match_names r r' _ B (fun x hx' => hx x (by simp [hx'])) one
theorem matchR_ac (p : Term) : ∀ (t : Term) (σ : List (List UInt8 × Term)), SortedN (σ.map (·.1)) → p.bulk ≤ 1099511627774 → t.bulk ≤ 1099511627775 → (∀ b, b ∈ σ → b.2.bulk ≤ 1099511627775 ∧ b.1.length ≤ 1099511627774) → σ.length + p.size < 1099511627775 →
    ∀ H, ACall Tryz.prog 124 [.sl .none (encL encBd σ), encT p, encT t] H (fun r H' => r = .tup [.sl .none (encL encBd (matchR p t σ).1), .bool (matchR p t σ).2] ∧ H' = H) := by
  induction p using Term.ind with | _ n u xs ih
  intro t σ hs hb hb2 hb3 hl H
  obtain ⟨n2, u2, ys⟩ := t
  have hlx := Term.len_le (n := n) (v := u) (xs := xs)
  have hnx := Term.name_le (n := n) (v := u) (xs := xs)
  have hly := Term.len_le (n := n2) (v := u2) (xs := ys)
  have hz := Term.size_mk n u xs
  refine ACall_V (H.length) 70 [.tmp 6, .tmp 7] Tryz.func124 rfl rfl rfl ?_
  cases u with
  | true =>
    rw [matchR_v]
    simp only [push_cast, Nat.reduceAdd, Nat.reduceSub, Nat.reduceMul, Nat.reduceLT, Nat.reduceLeDiff, Nat.reduceEqDiff, Int.reduceToNat, ↓reduceIte]
    refine (bound_ac σ n (by omega) _).to ?_
    cases hlk : look σ n with
    | some x =>
      have hx := hb3 (n, x) (look_some_mem hlk)
      have e : leafM σ n (.mk n2 u2 ys) = (σ, decide (x = .mk n2 u2 ys)) := by unfold leafM; rw [hlk]
      have ei : imageP σ n = x := by rw [image_look, hlk]; rfl
      simp only [push_cast, Nat.reduceAdd, Nat.reduceSub, Nat.reduceMul, Nat.reduceLT, Nat.reduceLeDiff, Nat.reduceEqDiff, Int.reduceToNat, ↓reduceIte, Option.isSome_some]
      apply AW_drawE [some 17, some 18, some 19, some 20, some 21, some 22, some 23, some 6, some 7] [([], _)] [none, none, none, none, none, none, none, none, none] 0 [(0, [], [0]), (1, [], [0]), (2, [], [4]), (3, [], [19]), (4, [], [18, 1]), (5, [], [5]), (6, [], [21, 0]), (7, [], [17]), (8, [], [23])] [_, _, _, _, _, _, _, _, _]
      case' hm => exact dr
      case' hn => rfl
      case' hok => rfl
      case' hlen => rfl
      case' hd => rfl
      case' h0 => rfl
      case' hstep =>
       simp only [DAllG, push_cast, Option.isSome_some, Option.isSome_none]
       repeat' apply And.intro
       all_goals (apply DOne_V; simp only [push_cast, Nat.reduceAdd, Nat.reduceSub, Nat.reduceMul, Nat.reduceLT, Nat.reduceLeDiff, Nat.reduceEqDiff, Int.reduceToNat, ↓reduceIte] <;> first | exact rfl | omega | exact ⟨rfl, rfl⟩ | exact trivial | exact ⟨by omega, rfl⟩ | exact ⟨by omega, by omega, rfl⟩ | exact ⟨by omega, rfl, rfl⟩ | exact ⟨by omega, by omega, rfl, rfl⟩ | exact (imageR_ac σ n (by omega) _).to ⟨rfl, rfl⟩ | (rw [ei]; exact (equalR_ac x (.mk n2 u2 ys) hx.1 hb2 _).to ⟨rfl, rfl⟩))
      case' hQ => skip
      simp only [push_cast, Nat.reduceAdd, Nat.reduceSub, Nat.reduceMul, Nat.reduceLT, Nat.reduceLeDiff, Nat.reduceEqDiff, Int.reduceToNat, ↓reduceIte, e]
    | none =>
      have e : leafM σ n (.mk n2 u2 ys) = (insB σ n (.mk n2 u2 ys), true) := by unfold leafM; rw [hlk]
      simp only [push_cast, Nat.reduceAdd, Nat.reduceSub, Nat.reduceMul, Nat.reduceLT, Nat.reduceLeDiff, Nat.reduceEqDiff, Int.reduceToNat, ↓reduceIte, Option.isSome_none]
      refine (with_ac σ n (.mk n2 u2 ys) (by omega) (by omega) (fun b hb' => by have := (hb3 b hb').2; omega) _).to ?_
      simp only [push_cast, Nat.reduceAdd, Nat.reduceSub, Nat.reduceMul, Nat.reduceLT, Nat.reduceLeDiff, Nat.reduceEqDiff, Int.reduceToNat, ↓reduceIte, e]
  | false =>
    simp only [push_cast, Nat.reduceAdd, Nat.reduceSub, Nat.reduceMul, Nat.reduceLT, Nat.reduceLeDiff, Nat.reduceEqDiff, Int.reduceToNat, ↓reduceIte]
    cases u2 with
    | true =>
      have e : matchR (.mk n false xs) (.mk n2 true ys) σ = ([], false) := matchR_c σ (by simp [clash, Term.var_mk])
      refine cI (fun _ => ?_) (fun h => absurd rfl h)
      simp only [push_cast, Nat.reduceAdd, Nat.reduceSub, Nat.reduceMul, Nat.reduceLT, Nat.reduceLeDiff, Nat.reduceEqDiff, Int.reduceToNat, ↓reduceIte, e, encL_nil]
    | false =>
      refine cI (fun h => absurd h (by decide)) (fun _ => ?_)
      refine cI (fun hn => ?_) (fun hn => ?_)
      · subst hn
        refine cI (fun hq => ?_) (fun hq => ?_)
        · have hlen : xs.length = ys.length := by omega
          have hc : clash n2 xs.length (.mk n2 false ys) = false := clash_false.2 ⟨rfl, rfl, hlen⟩
          have eg : matchR (.mk n2 false xs) (.mk n2 false ys) σ = matchRs xs ys σ := matchR_g σ hc
          rw [eg]
          refine AW_loopW (maskG 73 [0, 3, 0, 43, 0]) (fun (i : Nat) => [(50, .int .i64 i), (0, .sl .none (encL encBd (matchRs (xs.take i) (ys.take i) σ).1))]) (fun i => H ++ [.cells [.str n2, .bool false, .sl .none (encTs xs)], .cells [.str n2, .bool false, .sl .none (encTs ys)]]) (fun i => i ≤ xs.length ∧ (matchRs (xs.take i) (ys.take i) σ).2 = true) (fun i => xs.length - i) 0 ⟨Nat.zero_le _, by rw [List.take_zero, matchRs_nil]⟩ (by simp only [push_cast, Nat.reduceAdd, Nat.reduceSub, Nat.reduceMul, Nat.reduceLT, Nat.reduceLeDiff, Nat.reduceEqDiff, Int.reduceToNat, ↓reduceIte, List.take_zero, matchRs_nil]) (fun i hi => ?_)
          simp only [push_cast, Nat.reduceAdd, Nat.reduceSub, Nat.reduceMul, Nat.reduceLT, Nat.reduceLeDiff, Nat.reduceEqDiff, Int.reduceToNat, ↓reduceIte]
          refine cI (fun h => ?_) (fun h => ?_)
          · have hix : i < xs.length := by omega
            have hiy : i < ys.length := by omega
            repeat refine ⟨by omega, ?_⟩
            obtain ⟨o1, o2⟩ := matchRs_ok (xs.take i) (ys.take i) σ hs hi.2
            have onm : ∀ b, b ∈ (matchRs (xs.take i) (ys.take i) σ).1 → b.1.length ≤ 1099511627774 := by
              obtain ⟨z1, z2⟩ := matchRs_eq (xs.take i) (ys.take i) σ
              rw [z2 (z1.symm.trans hi.2)]
              exact match_names _ _ _ _ (fun x hx => by have := Term.arg_le (n := n2) (v := false) (List.mem_of_mem_take hx); omega) (fun b hb' => (hb3 b hb').2)
            have hsum := take_sum_le Term.size xs i
            have hxi := le_sum Term.size (xs.drop i) xs[i] (by rw [List.drop_eq_getElem_cons hix]; exact List.mem_cons_self)
            have hsm : ((xs.take i).map Term.size).sum + ((xs.drop i).map Term.size).sum = (xs.map Term.size).sum := by rw [← List.sum_append, ← List.map_append, List.take_append_drop]
            have hstep := fun X => ih _ (List.getElem_mem hix) ys[i] (matchRs (xs.take i) (ys.take i) σ).1 o1.sorted (arg_bulk hb i hix) (arg_bulk hb2 i hiy) (fun b hb' => ⟨by
              rcases o1.new b hb' with h | ⟨y, hy, h⟩
              · exact (hb3 b h).1
              · have h5 := h.bulk
                have h6 := Term.arg_le (n := n2) (v := false) (List.mem_of_mem_take hy)
                omega, onm b hb'⟩) (by omega) X
            obtain ⟨st1, st2⟩ := matchRs_step i hix hiy hi.2
            apply AW_drawE [some 54, some 55, some 56, some 57, some 58, some 59, some 60, some 61, some 62, some 63, some 64, some 65, some 53, some 66, some 67, some 9, some 10] [([], _)] [none, none, none, none, none, none, none, none, none, none, none, none, none, none, none, none, none] 0 [(0, [], [0]), (1, [], [4]), (2, [], [55]), (3, [], [8]), (4, [], [56, 0]), (5, [], [58]), (6, [], [5]), (7, [], [60]), (8, [], [8]), (9, [], [61, 0]), (10, [], [63]), (11, [], [54, 4, 4]), (12, [], [65]), (13, [], [53]), (14, [], [53]), (15, [], [66]), (16, [], [67])] [_, _, _, _, _, _, _, _, _, _, _, _, _, _, _, _, _]
            case' hm => exact dr
            case' hn => rfl
            case' hok => rfl
            case' hlen => rfl
            case' hd => rfl
            case' h0 => rfl
            case' hstep =>
             simp only [DAllG, push_cast, Option.isSome_some, Option.isSome_none]
             repeat' apply And.intro
             all_goals (apply DOne_V; simp only [push_cast, Nat.reduceAdd, Nat.reduceSub, Nat.reduceMul, Nat.reduceLT, Nat.reduceLeDiff, Nat.reduceEqDiff, Int.reduceToNat, ↓reduceIte] <;> first | exact rfl | omega | exact ⟨rfl, rfl⟩ | exact trivial | exact ⟨by omega, rfl⟩ | exact ⟨by omega, by omega, rfl⟩ | exact ⟨by omega, rfl, rfl⟩ | exact ⟨by omega, by omega, rfl, rfl⟩ | exact ⟨by omega, trivial⟩ | exact (hstep _).to ⟨rfl, rfl⟩)
            case' hQ => skip
            simp only [push_cast, Nat.reduceAdd, Nat.reduceSub, Nat.reduceMul, Nat.reduceLT, Nat.reduceLeDiff, Nat.reduceEqDiff, Int.reduceToNat, ↓reduceIte]
            refine cI (fun hq => ?_) (fun hq => ?_)
            · repeat' first | refine ⟨by omega, ?_⟩ | refine cI (fun _ => ?_) (fun _ => ?_)
              refine loopW_n (i + 1) ⟨by omega, by rw [st1 hq]; exact hq⟩ (by omega) ?_
              rw [st1 hq]
              simp only [push_cast, Nat.reduceAdd, Nat.reduceSub, Nat.reduceMul, Nat.reduceLT, Nat.reduceLeDiff, Nat.reduceEqDiff, Int.reduceToNat, ↓reduceIte]
            · simp only [push_cast, Nat.reduceAdd, Nat.reduceSub, Nat.reduceMul, Nat.reduceLT, Nat.reduceLeDiff, Nat.reduceEqDiff, Int.reduceToNat, ↓reduceIte, st2 (by simpa using hq), encL_nil]
          · have hil : i = xs.length := by omega
            rw [List.take_of_length_le (show xs.length ≤ i by omega), List.take_of_length_le (show ys.length ≤ i by omega)] at hi ⊢
            simp only [push_cast, Nat.reduceAdd, Nat.reduceSub, Nat.reduceMul, Nat.reduceLT, Nat.reduceLeDiff, Nat.reduceEqDiff, Int.reduceToNat, ↓reduceIte, hi.2]
        · have hc : clash n2 xs.length (.mk n2 false ys) = true := by
            cases hcl : clash n2 xs.length (.mk n2 false ys) with
            | true => rfl
            | false => exact absurd (clash_false.1 hcl).2.2 (by show ¬ xs.length = ys.length; omega)
          have e := matchR_c σ hc
          simp only [push_cast, Nat.reduceAdd, Nat.reduceSub, Nat.reduceMul, Nat.reduceLT, Nat.reduceLeDiff, Nat.reduceEqDiff, Int.reduceToNat, ↓reduceIte, e, encL_nil]
      · have hc : clash n xs.length (.mk n2 false ys) = true := by
          cases hcl : clash n xs.length (.mk n2 false ys) with
          | true => rfl
          | false => exact absurd (clash_false.1 hcl).2.1.symm hn
        have e := matchR_c σ hc
        simp only [push_cast, Nat.reduceAdd, Nat.reduceSub, Nat.reduceMul, Nat.reduceLT, Nat.reduceLeDiff, Nat.reduceEqDiff, Int.reduceToNat, ↓reduceIte, e, encL_nil]
theorem matchRef_ac (p t : Term) (hb : p.bulk ≤ 1099511627770) (hb2 : t.bulk ≤ 1099511627775) (H : List AObj) :
    ACall Tryz.prog 93 [encT p, encT t] H (fun r H' => r = .tup [.sl .none (encL encBd (matchR p t []).1), .bool (matchR p t []).2] ∧ H' = H) := by
  have hsz := p.size_le
  refine ACall_V (H.length) 9 [.tmp 4, .tmp 5] Tryz.func93 rfl rfl rfl ?_
  simp only [push_cast, Nat.reduceAdd, Nat.reduceSub, Nat.reduceMul, Nat.reduceLT, Nat.reduceLeDiff, Nat.reduceEqDiff, Int.reduceToNat, ↓reduceIte]
  refine ACall.forget (args' := [.sl .none (encL encBd []), encT p, encT t]) ⟨Forget.tok _ _, Forget.refl _, Forget.refl _, trivial⟩ ((matchR_ac p t [] (by simp [SortedN]) (by omega) hb2 (by simp) (by simp; omega) _).to ?_)
  simp only [push_cast, Nat.reduceAdd, Nat.reduceSub, Nat.reduceMul, Nat.reduceLT, Nat.reduceLeDiff, Nat.reduceEqDiff, Int.reduceToNat, ↓reduceIte]
end Ab
set_option maxRecDepth 10000
namespace Ab
open Go Go.Proofs
theorem grownR_ac (σ : List (List UInt8 × Term)) (hlen : σ.length < 1099511627776) (hbk : ∀ b, b ∈ σ → b.2.bulk ≤ 1099511627775) (t : Term) : t.bulk ≤ 1099511627775 → (applyP σ t).size ≤ 1099511627775 → ∀ H, ACall Tryz.prog 66 [.sl .none (encL encBd σ), encT t] H (fun r H' => r = .tup [.int .i64 (applyP σ t).size, .int .i64 (applyP σ t).depth] ∧ H' = H) := by
  induction t using Term.ind with | _ n u xs ih
  intro hb hb2 H
  have hl := Term.len_le (n := n) (v := u) (xs := xs)
  have hnl := Term.name_le (n := n) (v := u) (xs := xs)
  cases u with
  | true =>
    rw [applyP_t]
    have hib := image_bulk σ 1099511627775 hbk n (by omega)
    refine ACall_V (H.length) 44 [.tmp 4, .tmp 5] Tryz.func66 rfl rfl rfl ?_
    simp only [push_cast, Nat.reduceAdd, Nat.reduceSub, Nat.reduceMul, Nat.reduceLT, Nat.reduceLeDiff, Nat.reduceEqDiff, Int.reduceToNat, ↓reduceIte]
    refine (imageR_ac σ n hlen _).to ?_
    simp only [push_cast, Nat.reduceAdd, Nat.reduceSub, Nat.reduceMul, Nat.reduceLT, Nat.reduceLeDiff, Nat.reduceEqDiff, Int.reduceToNat, ↓reduceIte]
    apply AW_drawE [some 19, some 20, some 21, some 22, some 4, some 5] [([], _)] [none, none, none, none, none, none] 0 [(0, [], [6]), (1, [], [19]), (2, [], [6]), (3, [], [21]), (4, [], [20]), (5, [], [22])] [_, _, _, _, _, _]
    case' hm => exact dr
    case' hn => rfl
    case' hok => rfl
    case' hlen => rfl
    case' hd => rfl
    case' h0 => rfl
    case' hstep =>
     simp only [DAllG, push_cast, Option.isSome_some, Option.isSome_none]
     repeat' apply And.intro
     all_goals (apply DOne_V; simp only [push_cast, Nat.reduceAdd, Nat.reduceSub, Nat.reduceMul, Nat.reduceLT, Nat.reduceLeDiff, Nat.reduceEqDiff, Int.reduceToNat, ↓reduceIte] <;> first | exact rfl | omega | exact ⟨rfl, rfl⟩ | exact trivial | exact ⟨by omega, rfl⟩ | exact ⟨by omega, by omega, rfl⟩ | exact ⟨by omega, rfl, rfl⟩ | exact ⟨by omega, by omega, rfl, rfl⟩ | exact (sizeR_ac (imageP σ n) (by omega) _).to ⟨rfl, rfl⟩ | exact (depthR_ac (imageP σ n) (by omega) _).to ⟨rfl, rfl⟩)
    case' hQ => skip
    simp only [push_cast, Nat.reduceAdd, Nat.reduceSub, Nat.reduceMul, Nat.reduceLT, Nat.reduceLeDiff, Nat.reduceEqDiff, Int.reduceToNat, ↓reduceIte]
  | false =>
    rw [applyP_f] at hb2 ⊢
    have hdp := (Term.mk n false (appL σ xs)).depth_le
    rw [Term.size_mk] at hb2 hdp ⊢
    rw [Term.depth_mk] at hdp ⊢
    refine ACall_V (H.length) 44 [.tmp 4, .tmp 5] Tryz.func66 rfl rfl rfl ?_
    simp only [push_cast, Nat.reduceAdd, Nat.reduceSub, Nat.reduceMul, Nat.reduceLT, Nat.reduceLeDiff, Nat.reduceEqDiff, Int.reduceToNat, ↓reduceIte]
    refine AW_loopW (maskG 46 [0, 6, 0, 15, 0, 0]) (fun (i : Nat) => [(26, .int .i64 i), (7, .int .i64 (1 + ((appL σ (xs.take i)).map Term.size).sum : Nat)), (8, .int .i64 (((appL σ (xs.take i)).map Term.depth).foldl max 0 : Nat))]) (fun i => H ++ [.cells [.str n, .bool false, .sl .none (encTs xs)]]) (fun i => i ≤ xs.length) (fun i => xs.length - i) 0 (Nat.zero_le _) (by simp only [push_cast, Nat.reduceAdd, Nat.reduceSub, Nat.reduceMul, Nat.reduceLT, Nat.reduceLeDiff, Nat.reduceEqDiff, Int.reduceToNat, ↓reduceIte, List.take_zero, appL_nil]; simp) (fun i hi => ?_)
    simp only [push_cast, Nat.reduceAdd, Nat.reduceSub, Nat.reduceMul, Nat.reduceLT, Nat.reduceLeDiff, Nat.reduceEqDiff, Int.reduceToNat, ↓reduceIte]
    refine cI (fun h => ?_) (fun h => ?_)
    · have hil : i < xs.length := by omega
      repeat refine ⟨by omega, ?_⟩
      obtain ⟨hq1, hq2⟩ := sizes_take σ xs i hil
      obtain ⟨hw1, hw2⟩ := sizes_le σ xs (i + 1)
      obtain ⟨hw3, hw4⟩ := sizes_le σ xs i
      refine (ih _ (List.getElem_mem hil) (arg_bulk hb i hil) (by omega) _).to ?_
      simp only [push_cast, Nat.reduceAdd, Nat.reduceSub, Nat.reduceMul, Nat.reduceLT, Nat.reduceLeDiff, Nat.reduceEqDiff, Int.reduceToNat, ↓reduceIte]
      repeat' first | refine ⟨by omega, ?_⟩ | refine cI (fun _ => ?_) (fun _ => ?_)
      exact loopW_n (i + 1) (by omega) (by omega) (by simp only [push_cast, Nat.reduceAdd, Nat.reduceSub, Nat.reduceMul, Nat.reduceLT, Nat.reduceLeDiff, Nat.reduceEqDiff, Int.reduceToNat, ↓reduceIte, hq1, hq2]; omega)
    · obtain ⟨hw3, hw4⟩ := sizes_le σ xs xs.length
      rw [List.take_of_length_le (Nat.le_refl _)] at hw3 hw4
      simp only [push_cast, Nat.reduceAdd, Nat.reduceSub, Nat.reduceMul, Nat.reduceLT, Nat.reduceLeDiff, Nat.reduceEqDiff, Int.reduceToNat, ↓reduceIte, List.take_of_length_le (show xs.length ≤ i by omega)]
      omega
end Ab
set_option maxRecDepth 10000
namespace Ab
open Go Go.Proofs
def ruleN (rs : List (Term × Term)) (i : Int) : Term × Term := rs.getD i.toNat (zeroT, zeroT)
theorem ruleN_get {rs : List (Term × Term)} {i : Int} (h : i.toNat < rs.length) : ruleN rs i = rs[i.toNat] := by unfold ruleN; rw [List.getD_eq_getElem?_getD, List.getElem?_eq_getElem h]; rfl
def findE (rs : List (Term × Term)) (t : Term) (s : Int × List Int) : List (List UInt8 × Term) × Int :=
  if 0 ≤ s.1 ∧ s.1.toNat < rs.length then (match atP t s.2 with
    | some x => if (matchP (ruleN rs s.1).1 x []).2 then ((matchP (ruleN rs s.1).1 x []).1, 0) else ([], 9)
    | none => ([], 8)) else ([], 8)
def encFE (q : List (List UInt8 × Term) × Int) : AV := .tup [.sl .none (encL encBd q.1), .int .i64 q.2]
theorem sys_B {rs : List (Term × Term)} (h : sysP rs = 0) : SysB rs ∧ (∀ r, r ∈ rs → checkP r.1 = 0 ∧ checkP r.2 = 0) ∧ ∀ r, r ∈ rs → extraP r = false := by
  unfold sysP at h
  split at h
  · rename_i h0; exact absurd h h0
  · rename_i h0
    have h0 : rulesP rs = 0 := by simpa using h0
    obtain ⟨h1, h2⟩ := rules_ok h0
    split at h
    · cases h
    · split at h
      · cases h
      · split at h
        · cases h
        · rename_i h3
          refine ⟨⟨h1, fun r hr => ?_⟩, h2, fun r hr => ?_⟩
          · have g1 := check_small (h2 r hr).1
            have g2 := check_small (h2 r hr).2
            omega
          · cases he : extraP r with
            | false => rfl
            | true => exact absurd (List.any_eq_true.2 ⟨r, hr, he⟩) h3
structure FindOk (rs : List (Term × Term)) (t : Term) (s : Int × List Int) (x : Term) (σ : List (List UInt8 × Term)) : Prop where
  lo : 0 ≤ s.1
  hi : s.1.toNat < rs.length
  at' : atP t s.2 = some x
  ok : (matchP (ruleN rs s.1).1 x []).2 = true
  eq : (matchP (ruleN rs s.1).1 x []).1 = σ
  mem : ruleN rs s.1 ∈ rs
theorem find_ok {rs : List (Term × Term)} {t : Term} {s : Int × List Int} (h : (findE rs t s).2 = 0) : ∃ x, FindOk rs t s x (findE rs t s).1 := by
  unfold findE at h ⊢
  by_cases hin : 0 ≤ s.1 ∧ s.1.toNat < rs.length
  · rw [if_pos hin] at h ⊢
    cases ha : atP t s.2 with
    | none => rw [ha] at h; cases h
    | some x =>
      rw [ha] at h
      simp only at h ⊢
      cases hm : (matchP (ruleN rs s.1).1 x []).2 with
      | false => rw [hm] at h; cases h
      | true => exact ⟨x, hin.1, hin.2, ha, hm, rfl, by rw [ruleN_get hin.2]; exact List.getElem_mem hin.2⟩
  · rw [if_neg hin] at h; cases h
structure SubOk (σ : List (List UInt8 × Term)) (x : Term) : Prop where
  sorted : SortedN (σ.map (·.1))
  sub : ∀ b, b ∈ σ → SubT x b.2
theorem FindOk.subOk {rs : List (Term × Term)} {t : Term} {s : Int × List Int} {x : Term} {σ : List (List UInt8 × Term)} (h : FindOk rs t s x σ) : SubOk σ x ∧ σ.length ≤ (ruleN rs s.1).1.size := by
  obtain ⟨h1, h2⟩ := matchP_ok (ruleN rs s.1).1 x [] (by simp [SortedN])
  rw [h.eq] at h1 h2
  exact ⟨⟨h1.sorted, fun b hb => (h1.new b hb).resolve_left (by simp)⟩, by simpa using h2⟩
theorem SubOk.bulk {σ : List (List UInt8 × Term)} {x : Term} (h : SubOk σ x) : ∀ b, b ∈ σ → b.2.bulk ≤ x.bulk ∧ b.2.size ≤ x.size := fun b hb => ⟨(h.sub b hb).bulk, (h.sub b hb).sizes.1⟩
theorem SubOk.apply {σ : List (List UInt8 × Term)} {x : Term} (h : SubOk σ x) (hx : x.size ≤ 4000 ∧ x.bulk ≤ 100000) {r : Term} (hr : r.size ≤ 4000 ∧ r.bulk ≤ 100000) : (applyP σ r).size ≤ 16000000 ∧ (applyP σ r).bulk ≤ 20000000000 := by
  have h1 := apply_size σ 4000 (by decide) (fun b hb => by have := (h.bulk b hb).2; omega) r
  have h2 := apply_bulk σ 100000 (fun b hb => by have := (h.bulk b hb).1; omega) r
  have h3 : r.size * 4000 ≤ 4000 * 4000 := Nat.mul_le_mul hr.1 (Nat.le_refl _)
  have h4 : r.bulk * (100000 + 1) ≤ 100000 * (100000 + 1) := Nat.mul_le_mul hr.2 (Nat.le_refl _)
  omega
def rhsP (rs : List (Term × Term)) (t : Term) (s : Int × List Int) : Term := applyP (findE rs t s).1 (ruleN rs s.1).2
def doE (rs : List (Term × Term)) (t : Term) (s : Int × List Int) : Term × Int :=
  if (findE rs t s).2 ≠ 0 then (zeroT, (findE rs t s).2) else if fitsP (rhsP rs t s) = true ∧ fitsP (putP t s.2 (rhsP rs t s)) = true then (putP t s.2 (rhsP rs t s), 0) else (zeroT, 3)
end Ab
namespace Ab
open Go Go.Proofs
theorem step_some {n : List UInt8} {v : Bool} {xs : List Term} {i : Int} {p : List Int} {y : Term} (h : atP (.mk n v xs) (i :: p) = some y) : ∃ hi : 0 ≤ i ∧ i.toNat < xs.length, atP (xs[i.toNat]'hi.2) p = some y := by
  simp only [atP] at h
  split at h
  · rename_i hi; exact ⟨hi, h⟩
  · cases h
theorem step_put (n : List UInt8) (v : Bool) (xs : List Term) (i : Int) (p : List Int) (x : Term) (h : i.toNat < xs.length) : putP (.mk n v xs) (i :: p) x = .mk n false (xs.set i.toNat (putP (xs[i.toNat]'h) p x)) := by
  simp [putP, List.getD_eq_getElem?_getD, List.getElem?_eq_getElem h]
theorem place_at (n : List UInt8) (v : Bool) (xs : List Term) (i : Int) (p : List Int) (h : 0 ≤ i ∧ i.toNat < xs.length) : atP (.mk n v xs) (i :: p) = atP (xs[i.toNat]'h.2) p := by
  simp only [atP]; exact dif_pos h
theorem put_at : ∀ (p : List Int) (t s : Term), formedP t = true → atP t p = some s → putP t p s = t
  | [], t, s, _, h => by cases t; simp only [atP, Option.some.injEq] at h; subst h; rfl
  | i :: p, .mk n v xs, s, hf, h => by
    have hv := at_var h (by simp) hf
    obtain ⟨hi, ha⟩ := step_some h
    simp only [Term.var_mk] at hv
    subst hv
    rw [step_put _ _ _ _ _ _ hi.2, put_at p _ s (by rw [formedP_mk] at hf; simp at hf; exact hf.2 _ (List.getElem_mem _)) ha]
    simp
theorem at_put : ∀ (p : List Int) (t x y : Term), atP t p = some y → atP (putP t p x) p = some x
  | [], t, x, y, _ => by cases t; rfl
  | i :: p, .mk n v xs, x, y, h => by
    obtain ⟨hi, h⟩ := step_some h
    rw [step_put _ _ _ _ _ _ hi.2, place_at _ _ _ _ _ ⟨hi.1, by simpa using hi.2⟩]
    simp only [List.getElem_set_self]
    exact at_put p _ x y h
theorem put_formed : ∀ (p : List Int) (t x y : Term), atP t p = some y → formedP t = true → formedP x = true → formedP (putP t p x) = true
  | [], t, x, y, _, _, hx => by cases t; exact hx
  | i :: p, .mk n v xs, x, y, h, hf, hx => by
    have hv := at_var h (by simp) hf
    obtain ⟨hi, ha⟩ := step_some h
    simp only [Term.var_mk] at hv
    subst hv
    rw [step_put _ _ _ _ _ _ hi.2]
    rw [formedP_mk] at hf ⊢
    simp only [Bool.false_eq_true, if_false, Bool.and_eq_true, decide_eq_true_eq, List.all_eq_true, List.length_set] at hf ⊢
    refine ⟨hf.1, fun z hz => ?_⟩
    rcases List.mem_or_eq_of_mem_set hz with hz | rfl
    · exact hf.2 _ hz
    · exact put_formed p _ x y ha (hf.2 _ (List.getElem_mem _)) hx
end Ab
set_option maxRecDepth 10000
namespace Ab
open Go Go.Proofs
theorem do_check {rs : List (Term × Term)} {t : Term} {s : Int × List Int} (hr : sysP rs = 0) (ht : checkP t = 0) (h : (doE rs t s).2 = 0) : checkP (doE rs t s).1 = 0 := by
  obtain ⟨_, hck, _⟩ := sys_B hr
  unfold doE at h ⊢
  by_cases hf : (findE rs t s).2 ≠ 0
  · rw [if_pos hf] at h; exact absurd h hf
  · rw [if_neg hf] at h ⊢
    have hf : (findE rs t s).2 = 0 := by simpa using hf
    obtain ⟨x, hfo⟩ := find_ok hf
    by_cases h2 : fitsP (rhsP rs t s) = true ∧ fitsP (putP t s.2 (rhsP rs t s)) = true
    · rw [if_pos h2] at h ⊢
      refine (check_iff _).2 ⟨?_, h2.2⟩
      refine put_formed _ _ _ _ hfo.at' ((check_iff _).1 ht).1 ?_
      refine formed_apply _ (fun b hb => ?_) _ ((check_iff _).1 (hck _ hfo.mem).2).1
      exact (((hfo.subOk).1.sub b hb).formed ((at_sub _ _ _ hfo.at').formed ((check_iff _).1 ht).1))
    · rw [if_neg h2] at h; cases h
end Ab
set_option maxRecDepth 10000
namespace Ab
open Go Go.Proofs
section
variable {P : Program} {ro : Option Nat} {st : ASt} {dst : Option Tmp} {ty : TypeId} {pos : String} {after : Array Edge} {guard : Option (Nat × Bool)} {K : AV → List AObj → Prop}
theorem app1_GS {α : Type} (enc : α → AV) {t e by_ sz : Nat} {s x : Operand} (hu : ∀ x, (enc x).cells.length = sz) (hc : ∀ x c, c ∈ (enc x).cells → c.isCell = true) (zs : List Value) (k : Nat) (xs : List α) (y : α) (tk : Tok) (hs : st.opd s = grS k (encL enc xs)) (hx : st.opd x = .sl tk [enc y]) (hh : st.heap[k]? = some (grO e sz (encL enc xs)))
    (ht : SliceT P t e) (hsz : SzOf P e sz) (hby : BytesOf P e by_) (hz : ZeroOf P e zs) (hz0 : zs.length = sz) (h0 : 0 < sz) (hb : by_ ≤ 100) (hl : xs.length < 1099511627776)
    (k' : K (grS k (encL enc (xs ++ [y]))) (st.heap.set k (grO e sz (encL enc (xs ++ [y]))))) :
    AOp P ro ⟨dst, .call { callee := .builtin .append, args := #[s, x], argTypes := #[t, t] }, ty, pos, after, guard⟩ K st := by
  have e1 : encL enc (xs ++ [y]) = encL enc xs ++ [enc y] := by simp [encL]
  rw [e1] at k'
  refine AOp_append_Gr zs k (encL enc xs) [enc y] tk hs hx hh ht hsz hby hz hz0 h0 (uni_encL hu xs) (by intro x hx; rw [List.mem_singleton] at hx; subst hx; exact hu y) (fun c h => hc y c (by simpa [flat] using h)) ?_ (by rw [encL_length]; simp; omega) k'
  rw [encL_length]
  calc (xs.length + 1) * by_ ≤ 1099511627776 * 100 := Nat.mul_le_mul (by omega) hb
    _ ≤ _ := by decide
end
theorem osc_itAi (n m ver : Nat) (l : List (List UInt8 × Nat)) (a : List UInt8) (b : Nat) (h : m < n) : OScoped n (.iter m ver (sA l) (some (.str a, .int .i64 (b : Nat)))) = True := osc_itA n m ver l (some (a, b)) h
attribute [push_cast] osc_itAi
def symP (rs : List (Term × Term)) : List (List UInt8 × Nat) × Int := if sysP rs = 0 then ((symRs (rT rs) []).1, 0) else ([], sysP rs)
theorem sys_zero {rs : List (Term × Term)} (h : sysP rs = 0) : rulesP rs = 0 ∧ arB rs = false ∧ (arE rs).2.any (fun s => markedP s.1) = false ∧ rs.any extraP = false := by
  unfold sysP at h
  split at h
  · rename_i h1; exact absurd h h1
  · rename_i h1
    split at h
    · cases h
    · rename_i h2
      split at h
      · cases h
      · rename_i h3
        split at h
        · cases h
        · rename_i h4
          exact ⟨by simpa using h1, by simpa using h2, by simpa using h3, by simpa using h4⟩
theorem formed_of_check {t : Term} (h : checkP t = 0) : formedP t = true := by
  unfold checkP at h
  cases hf : formedP t with
  | true => rfl
  | false => rw [hf] at h; simp at h
theorem size_of_check {t : Term} (h : checkP t = 0) : t.size ≤ 4000 := (check_bulk h).2
theorem rules_formed {rs : List (Term × Term)} (h : rulesP rs = 0) : ∀ t, t ∈ rT rs → formedP t = true := by
  intro t ht
  obtain ⟨r, hr, he⟩ := mem_rT.1 ht
  have := (rules_ok h).2 r hr
  rcases he with rfl | rfl
  · exact formed_of_check this.1
  · exact formed_of_check this.2
theorem rules_agree {rs : List (Term × Term)} (h : rulesP rs = 0) : (symRs (rT rs) []).2 = (!arB rs && (arE rs).2.all fun s => !markedP s.1) := sys_agree _ (rules_formed h)
theorem nodes_len : ∀ ts : List Term, (nodesL ts).length ≤ (ts.map Term.size).sum
  | [] => by simp [nodesL]
  | .mk n u xs :: r => by
    have h1 := nodes_len xs
    have h2 := nodes_len r
    rw [nodesL, List.length_append, List.length_append, List.map_cons, List.sum_cons, Term.size_mk]
    have : (ndT (.mk n u xs)).length ≤ 1 := by unfold ndT; split <;> simp
    omega
theorem rules_size {rs : List (Term × Term)} (h : rulesP rs = 0) : ((rT rs).map Term.size).sum ≤ 512000 := by
  obtain ⟨h1, h2⟩ := rules_ok h
  have : ∀ l : List (Term × Term), (∀ r, r ∈ l → checkP r.1 = 0 ∧ checkP r.2 = 0) → ((rT l).map Term.size).sum ≤ l.length * 8000 := by
    intro l
    induction l with
    | nil => intro _; simp [rT]
    | cons r l ih =>
      intro hl
      have h4 := ih (fun x hx => hl x (by simp [hx]))
      have h5 := size_of_check (hl r (by simp)).1
      have h6 := size_of_check (hl r (by simp)).2
      have : rT (r :: l) = r.1 :: r.2 :: rT l := rfl
      rw [this]
      simp only [List.map_cons, List.sum_cons, List.length_cons]
      omega
  have h4 := this rs h2
  omega
theorem rT_size {rs : List (Term × Term)} (h : rulesP rs = 0) : (nodesL (rT rs)).length ≤ 512000 := by
  have h3 := nodes_len (rT rs)
  have h4 := rules_size h
  omega
theorem arF_len : ∀ (L : List (List UInt8 × Nat)) (q : Nat × List (List UInt8 × Nat)), (arF q L).2.length ≤ q.2.length + L.length
  | [], q => by simp [arF]
  | s :: r, q => by
    have h1 := arF_len r (arStep q s)
    have h2 : (arStep q s).2.length ≤ q.2.length + 1 := by
      unfold arStep
      split
      · omega
      · have : ∀ m : List (List UInt8 × Nat), (aset m s.1 s.2).length ≤ m.length + 1 := by
          intro m
          induction m with
          | nil => simp [aset]
          | cons p m ih => unfold aset; split <;> simp <;> omega
        exact this _
    have : arF q (s :: r) = arF (arStep q s) r := rfl
    rw [this, List.length_cons]; omega
theorem symbols_ac (rs : List (Term × Term)) (hlen : rs.length < 1099511627776) (hb : BndR rs) (H : List AObj) : ACall Tryz.prog 19 [.sl .none (encL encRu rs)] H (fun r H' => r = .tup [.sl .none (encL encSy (symP rs).1), .int .i64 (symP rs).2] ∧ H' = H) := by
  have hb' : ∀ r, r ∈ rs → r.1.bulk ≤ 1099511627775 ∧ r.2.bulk ≤ 1099511627775 := fun r hr => by have := hb r hr; omega
  refine ACall_VGA (H.length) 35 [.tmp 2, .tmp 3] Tryz.func19 rfl rfl rfl ?_
  refine AW_reserve 1 ?_
  refine AW_of_W ?_
  simp only [push_cast, Nat.reduceAdd, Nat.reduceSub, Nat.reduceMul, Nat.reduceLT, Nat.reduceLeDiff, Nat.reduceEqDiff, Int.reduceToNat, ↓reduceIte]
  refine (checkSystem_ac rs hlen hb _).to ?_
  simp only [push_cast, Nat.reduceAdd, Nat.reduceSub, Nat.reduceMul, Nat.reduceLT, Nat.reduceLeDiff, Nat.reduceEqDiff, Int.reduceToNat, ↓reduceIte]
  refine cI (fun h1 => ?_) (fun h1 => ?_)
  · obtain ⟨z1, z2, z3, z4⟩ := sys_zero h1
    have e : symP rs = ((symRs (rT rs) []).1, 0) := by simp [symP, h1]
    have hst : (symRs (rT rs) []).2 = true := by
      rw [rules_agree z1, z2]
      rw [← Bool.not_eq_true, List.any_eq_true] at z3
      simp only [Bool.not_false, Bool.true_and, List.all_eq_true]
      intro x hx
      by_cases hm : markedP x.1 = true
      · exact absurd ⟨x, hx, hm⟩ z3
      · simpa using hm
    obtain ⟨s1, s2⟩ := sys_perm _ (rules_formed z1) hst
    have hsz := rT_size z1
    have hql := arF_len (nodesL (rT rs)) (0, [])
    rw [e]
    refine (arities_ac rs hlen hb' _).mono ?_
    rintro r H' ⟨rfl, v, es, rfl, hve⟩
    obtain ⟨rfl, rfl⟩ := hve z2
    simp only [push_cast, Nat.reduceAdd, Nat.reduceSub, Nat.reduceMul, Nat.reduceLT, Nat.reduceLeDiff, Nat.reduceEqDiff, Int.reduceToNat, ↓reduceIte, z2, Bool.not_false, Bool.false_eq_true, if_false]
    have s2' : (symRs (rT rs) []).1.Perm (arE rs).2 := s2
    have hql' : (arE rs).2.length ≤ 512000 := by simp at hql; exact Nat.le_trans hql hsz
    obtain ⟨q, hq⟩ : ∃ q, q = arE rs := ⟨_, rfl⟩
    rw [← hq] at s2' hql' ⊢
    refine AOp_range_map (H.length + 3) q.1 (sA q.2) rfl (by exact (agetN _ _ 3).trans rfl) un83 ?_
    simp only [push_cast, Nat.reduceAdd, Nat.reduceSub, Nat.reduceMul, Nat.reduceLT, Nat.reduceLeDiff, Nat.reduceEqDiff, Int.reduceToNat, ↓reduceIte]
    refine AW_loopW (maskG 36 [7, 13]) (fun (p : List (List UInt8 × Nat) × List (List UInt8 × Nat) × Option (List UInt8 × Nat)) => [(7, grS H.length (encL encSy p.1))]) (fun p => H ++ [grO 64 2 (encL encSy p.1), .cells [.map (H.length + 3)], .cells [.bool true], .map q.1 (sA q.2), .iter (H.length + 3) q.1 (sA p.2.1) (lN p.2.2)]) (fun p => (p.1 ++ p.2.1).Perm q.2) (fun p => p.2.1.length) ([], q.2, none) (List.Perm.refl _) (by simp only [push_cast, Nat.reduceAdd, Nat.reduceSub, Nat.reduceMul, Nat.reduceLT, Nat.reduceLeDiff, Nat.reduceEqDiff, Int.reduceToNat, ↓reduceIte, lN_n, encL_nil]) (fun p hp => ?_)
    obtain ⟨xs, left, last⟩ := p
    simp only at hp
    have hxl := hp.length_eq
    rw [List.length_append] at hxl
    simp only [push_cast, Nat.reduceAdd, Nat.reduceSub, Nat.reduceMul, Nat.reduceLT, Nat.reduceLeDiff, Nat.reduceEqDiff, Int.reduceToNat, ↓reduceIte]
    refine AOp_next_map (H.length + 4) (H.length + 3) q.1 (sA q.2) (sA left) (lN last) rfl (by exact (agetN _ _ 4).trans rfl) (by exact (agetN _ _ 3).trans rfl) (fun he => ?_) (fun j hj => ?_)
    · have hl0 : left = [] := by cases left with | nil => rfl | cons a l => simp [sA, amap] at he
      subst hl0
      rw [List.append_nil] at hp
      simp only [push_cast, Nat.reduceAdd, Nat.reduceSub, Nat.reduceMul, Nat.reduceLT, Nat.reduceLeDiff, Nat.reduceEqDiff, Int.reduceToNat, ↓reduceIte]
      refine (sortSy_ac H.length xs (by simp at hxl; omega) _ (by exact aget0 _ _ _)).mono ?_
      rintro r H' ⟨l', hl', hw, rfl, rfl⟩
      have hl2 : l' = (symRs (rT rs) []).1 := sorted_uniqueK (s2'.trans (hp.symm.trans hl')) s1 hw
      subst hl2
      simp only [push_cast, Nat.reduceAdd, Nat.reduceSub, Nat.reduceMul, Nat.reduceLT, Nat.reduceLeDiff, Nat.reduceEqDiff, Int.reduceToNat, ↓reduceIte]
      rw [grS_len H.length (show (encL encSy xs).length = (encL encSy (symRs (rT rs) []).1).length by rw [encL_length, encL_length, hl'.length_eq])]
      exact .row2 H.length 64 2 (by exact aget0 _ _ _) (by rw [flat_encSy, encL_length]) (by omega) (of_eq_true (scflSy _ _)) (by simp only [push_cast, Nat.reduceAdd, Nat.reduceSub, Nat.reduceMul, Nat.reduceLT, Nat.reduceLeDiff, Nat.reduceEqDiff, Int.reduceToNat, ↓reduceIte])
    · have hjl : j < left.length := by rw [sA_len] at hj; exact hj
      have e1 : (sA left)[j] = (.str left[j].1, avN left[j].2) := by simp [sA, amap]
      have e2 : (sA left).eraseIdx j = sA (left.eraseIdx j) := by simp only [sA, amap, erase_map]
      rw [e1, e2]
      simp only [push_cast, Nat.reduceAdd, Nat.reduceSub, Nat.reduceMul, Nat.reduceLT, Nat.reduceLeDiff, Nat.reduceEqDiff, Int.reduceToNat, ↓reduceIte]
      refine AOp_entry_map (H.length + 4) (H.length + 3) q.1 (sA q.2) (sA (left.eraseIdx j)) (.str left[j].1, avN left[j].2) rfl (by exact (agetN _ _ 4).trans rfl) (by exact (agetN _ _ 3).trans rfl) ?_
      simp only [push_cast, Nat.reduceAdd, Nat.reduceSub, Nat.reduceMul, Nat.reduceLT, Nat.reduceLeDiff, Nat.reduceEqDiff, Int.reduceToNat, ↓reduceIte, avN]
      refine app1_GS encSy (sz := 2) (fun _ => rfl) cellSy _ H.length xs left[j] _ rfl rfl (by exact aget0 _ _ _) sl33 sz64 by64 zr64 rfl (by decide) (by decide) (by omega) ?_
      simp only [push_cast, Nat.reduceAdd, Nat.reduceSub, Nat.reduceMul, Nat.reduceLT, Nat.reduceLeDiff, Nat.reduceEqDiff, Int.reduceToNat, ↓reduceIte]
      refine loopW_n (xs ++ [left[j]], left.eraseIdx j, some left[j]) ?_ (by simp only [List.length_eraseIdx]; split <;> omega) (by simp only [push_cast, Nat.reduceAdd, Nat.reduceSub, Nat.reduceMul, Nat.reduceLT, Nat.reduceLeDiff, Nat.reduceEqDiff, Int.reduceToNat, ↓reduceIte, lN_s, avN])
      refine List.Perm.trans ?_ hp
      rw [List.append_assoc]
      refine List.Perm.append_left xs ?_
      rw [List.eraseIdx_eq_take_drop_succ]
      refine (List.perm_middle (l₁ := left.take j) (l₂ := left.drop (j + 1)) (a := left[j])).symm.trans ?_
      rw [← List.drop_eq_getElem_cons hjl, List.take_append_drop]
  · have e : symP rs = ([], sysP rs) := by simp [symP, h1]
    simp only [push_cast, Nat.reduceAdd, Nat.reduceSub, Nat.reduceMul, Nat.reduceLT, Nat.reduceLeDiff, Nat.reduceEqDiff, Int.reduceToNat, ↓reduceIte, e, encL_nil]
    exact .fgt (by simp only [push_cast, Nat.reduceAdd, Nat.reduceSub, Nat.reduceMul, Nat.reduceLT, Nat.reduceLeDiff, Nat.reduceEqDiff, Int.reduceToNat, ↓reduceIte])
end Ab
set_option maxRecDepth 10000
namespace Ab
open Go Go.Proofs
theorem symRs_nil (l : List (List UInt8 × Nat)) : symRs [] l = (l, true) := by rw [symRs]
theorem insSy_len (l : List (List UInt8 × Nat)) (s : List UInt8 × Nat) : (insSy l s).length ≤ l.length + 1 := by
  unfold insSy
  split
  · omega
  · simp; omega
theorem symRs_len : ∀ (ts : List Term) (l : List (List UInt8 × Nat)), (symRs ts l).1.length ≤ l.length + (ts.map Term.size).sum
  | [], l => by simp [symRs_nil]
  | .mk n u xs :: r, l => by
    rw [symRs, List.map_cons, List.sum_cons, Term.size_mk]
    have h0 := insSy_len l (n, xs.length)
    have h1 := symRs_len xs (insSy l (n, xs.length))
    have h2 := symRs_len r l
    have h3 := symRs_len r (symRs xs (insSy l (n, xs.length))).1
    repeat' split
    all_goals (first | omega | (simp only; omega))
end Ab
set_option maxRecDepth 10000
namespace Ab
open Go Go.Proofs
theorem putR_ac (x : Term) (hx : x.bulk ≤ 1099511627775) : ∀ (p : List Int) (t y : Term), t.bulk ≤ 1099511627775 → p.length < 1099511627776 → atP t p = some y → ∀ H,
    ACall Tryz.prog 68 [encT t, .sl .none (encP p), encT x] H (fun r H' => r = encT (putP t p x) ∧ H' = H) := by
  intro p
  induction p with
  | nil =>
    rintro ⟨n, u, xs⟩ y hb hlen hat H
    refine ACall_V (H.length) 32 [.cell 6 39] Tryz.func68 rfl rfl rfl ?_
    simp only [push_cast, Nat.reduceAdd, Nat.reduceSub, Nat.reduceMul, Nat.reduceLT, Nat.reduceLeDiff, Nat.reduceEqDiff, Int.reduceToNat, ↓reduceIte, putP]
  | cons k q ih =>
    rintro ⟨n, u, xs⟩ y hb hlen hat H
    have hl2 := Term.len_le (n := n) (v := u) (xs := xs)
    obtain ⟨hk, hat2⟩ := step_some hat
    rw [step_put _ _ _ _ _ _ hk.2]
    have hbx := arg_bulk hb k.toNat hk.2
    have hne : encTs xs ≠ [] := fun e => by have := congrArg List.length e; rw [encTs_length] at this; simp at this; rw [this] at hk; simp at hk
    have hrec := fun H => ih (xs[k.toNat]'hk.2) y hbx (by simp at hlen; omega) hat2 H
    have hget := flat_encTs_get xs k.toNat hk.2
    have hset := flat_encTs_set2 xs k.toNat hk.2
    have hfl := flat_encTs_len xs
    refine ACall_VA (H.length) 32 [.cell 6 39] Tryz.func68 rfl rfl rfl ?_
    refine AW_seq (AW_of_W ?_)
    simp only [push_cast, Nat.reduceAdd, Nat.reduceSub, Nat.reduceMul, Nat.reduceLT, Nat.reduceLeDiff, Nat.reduceEqDiff, Int.reduceToNat, ↓reduceIte]
    refine AW_reserve 1 ?_
    refine AW_seq (AW_of_W ?_)
    simp only [push_cast, Nat.reduceAdd, Nat.reduceSub, Nat.reduceMul, Nat.reduceLT, Nat.reduceLeDiff, Nat.reduceEqDiff, Int.reduceToNat, ↓reduceIte]
    refine cI (fun h => by omega) (fun _ => ?_)
    refine AW_seq (AW_of_W ?_)
    simp only [push_cast, Nat.reduceAdd, Nat.reduceSub, Nat.reduceMul, Nat.reduceLT, Nat.reduceLeDiff, Nat.reduceEqDiff, Int.reduceToNat, ↓reduceIte]
    refine AOp_append_arrAt (H.length + 3) (by exact (agetN _ _ 3).trans rfl) _ (encTs xs) _ rfl rfl sl35 sz39 by39 zr39 rfl (by decide) (uni_encTs _) (cell_encTs _) hne (by rw [encTs_length]; omega) (by rw [encTs_length]; omega) ?_
    simp only [push_cast, Nat.reduceAdd, Nat.reduceSub, Nat.reduceMul, Nat.reduceLT, Nat.reduceLeDiff, Nat.reduceEqDiff, Int.reduceToNat, ↓reduceIte]
    refine AW_seq ?_
    apply AW_drawE [some 16, some 17, some 18, some 19, some 20, some 21, some 22, some 23, some 24, some 25, some 26, some 27, some 28, some 29, some 30, none] [([false], _), ([true], _)] [none, none, none, none, none, none, none, none, none, none, none, none, none, none, none, some 0] 1 [(0, [false], [7]), (1, [false], [1]), (2, [false], [17]), (3, [false], [18]), (4, [false], [7]), (5, [false], [1]), (6, [false], [21]), (7, [false], [22]), (8, [false], [20, 2]), (9, [false], [24]), (10, [false], [1]), (11, [false], [26]), (12, [false], [5]), (13, [false], [25, 1, 0]), (14, [false], [16, 2]), (15, [false], [29, 0])] [_, _, _, _, _, _, _, _, _, _, _, _, _, _, _, _]
    case' hm => exact dr
    case' hn => rfl
    case' hok => rfl
    case' hlen => rfl
    case' hd => rfl
    case' h0 => rfl
    case' hstep =>
     simp only [DAllG, push_cast, Option.isSome_some, Option.isSome_none]
     repeat' apply And.intro
     all_goals (apply DOne_V; simp only [push_cast, Nat.reduceAdd, Nat.reduceSub, Nat.reduceMul, Nat.reduceLT, Nat.reduceLeDiff, Nat.reduceEqDiff, Int.reduceToNat, ↓reduceIte] <;> first | exact rfl | omega | exact ⟨rfl, rfl⟩ | exact trivial | exact ⟨by omega, rfl⟩ | exact ⟨by omega, by omega, rfl⟩ | exact ⟨by omega, rfl, rfl⟩ | exact ⟨by omega, by omega, rfl, rfl⟩ | (rw [hget]; exact ⟨leL_of (by rw [hfl]; omega), rfl⟩) | exact (hrec _).to ⟨rfl, rfl⟩ | (rw [hset]; exact ⟨leL_of (by rw [hfl]; omega), rfl, rfl⟩))
    case' hQ => skip
    obtain ⟨zs, hzs⟩ : ∃ zs, zs = xs.set k.toNat (putP (xs[k.toNat]'hk.2) q x) := ⟨_, rfl⟩
    rw [← hzs]
    have hzl : zs.length = xs.length := by rw [hzs, List.length_set]
    have hLl : (H ++ [AObj.cells [.str n, .bool u, .sl .none (encTs xs)], .cells [.str x.name, .bool x.var, .sl .none (encTs x.args)], .cells [.str [], .bool false, .sl .zero []]]).length = H.length + 3 := by simp
    simp only [push_cast, Nat.reduceAdd, Nat.reduceSub, Nat.reduceMul, Nat.reduceLT, Nat.reduceLeDiff, Nat.reduceEqDiff, Int.reduceToNat, ↓reduceIte]
    apply AW_freezeA (H ++ [.cells [.str n, .bool u, .sl .none (encTs xs)], .cells [.str x.name, .bool x.var, .sl .none (encTs x.args)], .cells [.str [], .bool false, .sl .zero []]]) (flat (encTs zs))
    case' hh => simp
    case' hm => rw [hLl]; simp only [push_cast, Nat.reduceAdd, Nat.reduceSub, Nat.reduceMul, Nat.reduceLT, Nat.reduceLeDiff, Nat.reduceEqDiff, Int.reduceToNat, ↓reduceIte]
    case' hvs => exact scoped_flatT _ zs
    case' hsl => (rw [hLl]; repeat (first | exact FrzOk.nil | apply FrzOk.froz | (apply FrzOk.row (xs := encTs zs); (case' hxs => rfl); (case' hn => (rw [encTs_length, hzl]))) | (apply FrzOk.same; (case' hv => (first | (simp [push_cast]; done) | (simp [push_cast, Scoped, ScopedL, scoped_encTs]; done)))) | apply FrzOk.junk))
    refine AW_of_W ?_
    simp only [push_cast, Nat.reduceAdd, Nat.reduceSub, Nat.reduceMul, Nat.reduceLT, Nat.reduceLeDiff, Nat.reduceEqDiff, Int.reduceToNat, ↓reduceIte]
end Ab
set_option maxRecDepth 10000
namespace Ab
open Go Go.Proofs
set_option maxHeartbeats 2000000 in
theorem substRX_ac (rs : List (Term × Term)) (hr2 : ∀ r, r ∈ rs → r.1.bulk ≤ 1099511627770) (t : Term) (hb : t.bulk ≤ 1099511627775) (s : Int × List Int) (hs : s.2.length < 1099511627776) (H : List AObj) :
    ACall Tryz.prog 65 [.sl .none (encL encRu rs), encT t, encSt s] H (fun r H' => r = encFE (findE rs t s) ∧ H' = H) := by
  refine ACall_V (H.length) 43 [.tmp 6, .tmp 7] Tryz.func65 rfl rfl rfl ?_
  simp only [push_cast, Nat.reduceAdd, Nat.reduceSub, Nat.reduceMul, Nat.reduceLT, Nat.reduceLeDiff, Nat.reduceEqDiff, Int.reduceToNat, ↓reduceIte]
  have bad : ¬ (0 ≤ s.1 ∧ s.1.toNat < rs.length) → findE rs t s = ([], 8) := fun h => if_neg h
  refine (atR_ac t s.2 hb hs _).to ?_
  cases ha : atP t s.2 with
  | none =>
    have e : findE rs t s = ([], 8) := by
      unfold findE
      split
      · rw [ha]
      · rfl
    simp only [push_cast, Nat.reduceAdd, Nat.reduceSub, Nat.reduceMul, Nat.reduceLT, Nat.reduceLeDiff, Nat.reduceEqDiff, Int.reduceToNat, ↓reduceIte, e, encFE, encL_nil]
    exact cI (fun _ => trivial) (fun _ => cI (fun _ => trivial) (fun _ => trivial))
  | some x =>
    simp only [push_cast, Nat.reduceAdd, Nat.reduceSub, Nat.reduceMul, Nat.reduceLT, Nat.reduceLeDiff, Nat.reduceEqDiff, Int.reduceToNat, ↓reduceIte]
    refine cI (fun h => ?_) (fun h => ?_)
    · simp only [push_cast, Nat.reduceAdd, Nat.reduceSub, Nat.reduceMul, Nat.reduceLT, Nat.reduceLeDiff, Nat.reduceEqDiff, Int.reduceToNat, ↓reduceIte, bad (by omega), encFE, encL_nil]
    · refine cI (fun h2 => ?_) (fun h2 => ?_)
      · simp only [push_cast, Nat.reduceAdd, Nat.reduceSub, Nat.reduceMul, Nat.reduceLT, Nat.reduceLeDiff, Nat.reduceEqDiff, Int.reduceToNat, ↓reduceIte, bad (by omega), encFE, encL_nil]
      · have hin : 0 ≤ s.1 ∧ s.1.toNat < rs.length := by omega
        have e : findE rs t s = (match atP t s.2 with
          | some x => if (matchP (ruleN rs s.1).1 x []).2 then ((matchP (ruleN rs s.1).1 x []).1, 0) else ([], 9)
          | none => ([], 8)) := if_pos hin
        simp only [ha] at e
        have hxb := at_bulk _ _ _ ha
        have hrn := ruleN_get hin.2
        have hlb := hr2 _ (List.getElem_mem hin.2)
        apply AW_drawE [some 33, some 34, some 35, some 36, some 37, some 38, some 39, some 40, some 32, some 41, some 42, some 10, some 9] [([], _)] [none, none, none, none, none, none, none, none, none, none, none, none, none] 0 [(0, [], [0]), (1, [], [5]), (2, [], [34]), (3, [], [33, 1]), (4, [], [36]), (5, [], [37]), (6, [], [8]), (7, [], [38, 0]), (8, [], [40]), (9, [], [32]), (10, [], [32]), (11, [], [41]), (12, [], [42])] [_, _, _, _, _, _, _, _, _, _, _, _, _]
        case' hm => exact dr
        case' hn => rfl
        case' hok => rfl
        case' hlen => rfl
        case' hd => rfl
        case' h0 => rfl
        case' hstep =>
         simp only [DAllG, push_cast, Option.isSome_some, Option.isSome_none]
         repeat' apply And.intro
         all_goals (apply DOne_V; simp only [push_cast, Nat.reduceAdd, Nat.reduceSub, Nat.reduceMul, Nat.reduceLT, Nat.reduceLeDiff, Nat.reduceEqDiff, Int.reduceToNat, ↓reduceIte] <;> first | exact rfl | omega | exact ⟨rfl, rfl⟩ | exact trivial | exact ⟨by omega, rfl⟩ | exact ⟨by omega, by omega, rfl⟩ | exact ⟨by omega, rfl, rfl⟩ | exact ⟨by omega, by omega, rfl, rfl⟩ | exact ⟨by omega, by omega, trivial⟩ | exact (matchRef_ac (rs[s.1.toNat]'hin.2).1 x hlb (by omega) _).to ⟨rfl, rfl⟩)
        case' hQ => skip
        rw [← hrn]
        have g1 := (matchR_eq (ruleN rs s.1).1 x []).1
        have g2 := (matchR_eq (ruleN rs s.1).1 x []).2
        rcases Bool.eq_false_or_eq_true (matchP (ruleN rs s.1).1 x []).2 with hm | hm
        · have em : matchR (ruleN rs s.1).1 x [] = ((matchP (ruleN rs s.1).1 x []).1, true) := (g2 hm).trans (by rw [← hm])
          rw [if_pos hm] at e
          rw [em, e]
          generalize (matchP (ruleN rs s.1).1 x []).1 = σ
          simp only [push_cast, Nat.reduceAdd, Nat.reduceSub, Nat.reduceMul, Nat.reduceLT, Nat.reduceLeDiff, Nat.reduceEqDiff, Int.reduceToNat, ↓reduceIte, encFE]
        · have em : matchR (ruleN rs s.1).1 x [] = ((matchR (ruleN rs s.1).1 x []).1, false) := by rw [← g1.trans hm]
          rw [if_neg (by rw [hm]; simp)] at e
          rw [em, e]
          generalize (matchR (ruleN rs s.1).1 x []).1 = σ
          simp only [push_cast, Nat.reduceAdd, Nat.reduceSub, Nat.reduceMul, Nat.reduceLT, Nat.reduceLeDiff, Nat.reduceEqDiff, Int.reduceToNat, ↓reduceIte, encFE, encL_nil]
theorem put_size (s : Term) : ∀ (p : List Int) (c x : Term), atP c p = some x → (putP c p s).size ≤ c.size + s.size
  | [], c, x, _ => by cases c; simp [putP]
  | i :: p, .mk n u xs, x, h => by
    obtain ⟨hk, h2⟩ := step_some h
    have ih := put_size s p _ x h2
    rw [step_put n u xs i p s hk.2, Term.size_mk, Term.size_mk]
    have h1 := sum_setN Term.size xs i.toNat hk.2 (putP (xs[i.toNat]'hk.2) p s)
    omega
theorem set_sizes (f : Term → Nat) (xs : List Term) (k : Nat) (z : Term) (i : Nat) (h : i < xs.length) : ((xs.set k z)[i]'(by simpa using h)) = if k = i then z else xs[i] := by
  rw [List.getElem_set]
set_option maxHeartbeats 2000000 in
theorem replacedX_ac (x : Term) (hx : x.size ≤ 100000000000) (hxd : x.depth ≤ 100000000000) : ∀ (p : List Int) (t y : Term), t.bulk ≤ 100000000000 → p.length < 1099511627776 → atP t p = some y → ∀ H,
    ACall Tryz.prog 67 [encT t, .sl .none (encP p), .int .i64 x.size, .int .i64 x.depth] H (fun r H' => r = .tup [.int .i64 (putP t p x).size, .int .i64 (putP t p x).depth] ∧ H' = H) := by
  intro p
  induction p with
  | nil =>
    intro t y hb hp ha H
    have e : putP t [] x = x := by cases t; rfl
    rw [e]
    refine ACall_V (H.length) 53 [.tmp 8, .tmp 9] Tryz.func67 rfl rfl rfl ?_
    simp only [push_cast, Nat.reduceAdd, Nat.reduceSub, Nat.reduceMul, Nat.reduceLT, Nat.reduceLeDiff, Nat.reduceEqDiff, Int.reduceToNat, ↓reduceIte, encP_length]
  | cons k p ih =>
    intro t y hb hp ha H
    obtain ⟨n, u, xs⟩ := t
    obtain ⟨hk, ha2⟩ := step_some ha
    have hlx := Term.len_le (n := n) (v := u) (xs := xs)
    have ep := step_put n u xs k p x hk.2
    obtain ⟨z, hz⟩ : ∃ z, z = putP (xs[k.toNat]'hk.2) p x := ⟨_, rfl⟩
    rw [ep, ← hz]
    have hkb := Term.arg_le (n := n) (v := u) (List.getElem_mem hk.2)
    have hpb := put_size x _ _ _ ha2
    rw [← hz] at hpb
    have hxs0 := (xs[k.toNat]'hk.2).size_le
    have hzd := z.depth_le
    obtain ⟨ys, hys⟩ : ∃ ys, ys = xs.set k.toNat z := ⟨_, rfl⟩
    have hyl : ys.length = xs.length := by rw [hys]; simp
    rw [← hys, Term.size_mk, Term.depth_mk]
    have hget : ∀ i (h : i < xs.length), ys[i]'(by omega) = if k.toNat = i then z else xs[i] := fun i h => by
      simp only [hys]; exact set_sizes Term.size xs k.toNat z i h
    have hys2 : (ys.map Term.size).sum ≤ 300000000000 := by
      have h1 := sum_setN Term.size xs k.toNat hk.2 z
      rw [← hys] at h1
      have h2 := (Term.mk n u xs).size_le
      rw [Term.size_mk] at h2
      omega
    refine ACall_V (H.length) 53 [.tmp 8, .tmp 9] Tryz.func67 rfl rfl rfl ?_
    simp only [push_cast, Nat.reduceAdd, Nat.reduceSub, Nat.reduceMul, Nat.reduceLT, Nat.reduceLeDiff, Nat.reduceEqDiff, Int.reduceToNat, ↓reduceIte, encP_length]
    refine cI (fun h => absurd h (by omega)) (fun _ => ?_)
    refine AW_loopW (maskG 57 [1, 0, 0, 6, 0, 10, 0, 0]) (fun (i : Nat) => [(24, .int .i64 i), (10, .int .i64 (1 + ((ys.take i).map Term.size).sum : Nat)), (11, .int .i64 (((ys.take i).map Term.depth).foldl max 0 : Nat))]) (fun i => H ++ [.cells [.str n, .bool u, .sl .none (encTs xs)]]) (fun i => i ≤ xs.length) (fun i => xs.length - i) 0 (Nat.zero_le _) (by simp only [push_cast, Nat.reduceAdd, Nat.reduceSub, Nat.reduceMul, Nat.reduceLT, Nat.reduceLeDiff, Nat.reduceEqDiff, Int.reduceToNat, ↓reduceIte, List.take_zero]; simp) (fun i hi => ?_)
    simp only [push_cast, Nat.reduceAdd, Nat.reduceSub, Nat.reduceMul, Nat.reduceLT, Nat.reduceLeDiff, Nat.reduceEqDiff, Int.reduceToNat, ↓reduceIte]
    refine cI (fun h => ?_) (fun h => ?_)
    · have hix : i < xs.length := by omega
      have hiy : i < ys.length := by omega
      refine ⟨hix, ?_⟩
      have hib := Term.arg_le (n := n) (v := u) (List.getElem_mem hix)
      have hst1 := take_sum Term.size ys i hiy
      have hst2 := take_depth ys i hiy
      have hg := hget i hix
      have hle := take_sum_le Term.size ys (i + 1)
      have hle0 := take_sum_le Term.size ys i
      have hdl := foldl_max_le Term.depth (ys.take i) 0
      have hdl2 : ((ys.take i).map Term.depth).sum ≤ ((ys.take i).map Term.size).sum := by
        generalize ys.take i = l
        induction l with
        | nil => simp
        | cons a r ih => have := a.depth_le; simp only [List.map_cons, List.sum_cons]; omega
      have hsi := xs[i].size_le
      have hdi := xs[i].depth_le
      apply AW_drawE [some 29, some 30, some 31, some 32, some 14, some 15] [([], _)] [none, none, none, none, none, none] 0 [(0, [], [13]), (1, [], [29]), (2, [], [13]), (3, [], [31]), (4, [], [30]), (5, [], [32])] [_, _, _, _, _, _]
      case' hm => exact dr
      case' hn => rfl
      case' hok => rfl
      case' hlen => rfl
      case' hd => rfl
      case' h0 => rfl
      case' hstep =>
       simp only [DAllG, push_cast, Option.isSome_some, Option.isSome_none]
       repeat' apply And.intro
       all_goals (apply DOne_V; simp only [push_cast, Nat.reduceAdd, Nat.reduceSub, Nat.reduceMul, Nat.reduceLT, Nat.reduceLeDiff, Nat.reduceEqDiff, Int.reduceToNat, ↓reduceIte] <;> first | exact rfl | omega | exact ⟨rfl, rfl⟩ | exact trivial | exact ⟨by omega, rfl⟩ | exact ⟨by omega, by omega, rfl⟩ | exact ⟨by omega, rfl, rfl⟩ | exact ⟨by omega, by omega, rfl, rfl⟩ | exact (sizeR_ac xs[i] (by omega) _).to ⟨rfl, rfl⟩ | exact (depthR_ac xs[i] (by omega) _).to ⟨rfl, rfl⟩)
      case' hQ => skip
      simp only [push_cast, Nat.reduceAdd, Nat.reduceSub, Nat.reduceMul, Nat.reduceLT, Nat.reduceLeDiff, Nat.reduceEqDiff, Int.reduceToNat, ↓reduceIte]
      refine ⟨by omega, by simp, ?_⟩
      refine cI (fun hik => ?_) (fun hik => ?_)
      · have hki : k.toNat = i := by omega
        rw [if_pos hki] at hg
        subst hki
        have hdr : List.drop 1 (encP (k :: p)) = encP p := rfl
        apply AW_drawE [some 39, some 40, some 41, some 42, some 43, some 44, some 38, some 45, some 46, some 14, some 15] [([], _)] [none, none, none, none, none, none, none, none, none, none, none] 0 [(0, [], [13]), (1, [], [1]), (2, [], [40]), (3, [], [2]), (4, [], [3]), (5, [], [39, 1, 0, 0]), (6, [], [44]), (7, [], [38]), (8, [], [38]), (9, [], [45]), (10, [], [46])] [_, _, _, _, _, _, _, _, _, _, _]
        case' hm => exact dr
        case' hn => rfl
        case' hok => rfl
        case' hlen => rfl
        case' hd => rfl
        case' h0 => rfl
        case' hstep =>
         simp only [DAllG, push_cast, Option.isSome_some, Option.isSome_none]
         repeat' apply And.intro
         all_goals (apply DOne_V; simp only [push_cast, Nat.reduceAdd, Nat.reduceSub, Nat.reduceMul, Nat.reduceLT, Nat.reduceLeDiff, Nat.reduceEqDiff, Int.reduceToNat, ↓reduceIte] <;> first | exact rfl | omega | exact ⟨rfl, rfl⟩ | exact trivial | exact ⟨by omega, rfl⟩ | exact ⟨by omega, by omega, rfl⟩ | exact ⟨by omega, rfl, rfl⟩ | exact ⟨by omega, by omega, rfl, rfl⟩ | exact (ih (xs[k.toNat]'hk.2) y (by omega) (by simp at hp; omega) ha2 _).to ⟨rfl, rfl⟩)
        case' hQ => skip
        rw [← hz]
        rw [hg] at hst1 hst2
        simp only [push_cast, Nat.reduceAdd, Nat.reduceSub, Nat.reduceMul, Nat.reduceLT, Nat.reduceLeDiff, Nat.reduceEqDiff, Int.reduceToNat, ↓reduceIte]
        repeat' first | refine ⟨by omega, ?_⟩ | refine cI (fun _ => ?_) (fun _ => ?_)
        refine loopW_n (k.toNat + 1) (by omega) (by omega) ?_
        rw [hst1, hst2]
        simp only [push_cast, Nat.reduceAdd, Nat.reduceSub, Nat.reduceMul, Nat.reduceLT, Nat.reduceLeDiff, Nat.reduceEqDiff, Int.reduceToNat, ↓reduceIte]
        omega
      · have hki : ¬ k.toNat = i := by omega
        rw [if_neg hki] at hg
        rw [hg] at hst1 hst2
        repeat' first | refine ⟨by omega, ?_⟩ | refine cI (fun _ => ?_) (fun _ => ?_)
        refine loopW_n (i + 1) (by omega) (by omega) ?_
        rw [hst1, hst2]
        simp only [push_cast, Nat.reduceAdd, Nat.reduceSub, Nat.reduceMul, Nat.reduceLT, Nat.reduceLeDiff, Nat.reduceEqDiff, Int.reduceToNat, ↓reduceIte]
        omega
    · rw [List.take_of_length_le (show ys.length ≤ i by omega)]
      have hdl := foldl_max_le Term.depth ys 0
      have hdl2 : (ys.map Term.depth).sum ≤ (ys.map Term.size).sum := by
        generalize ys = l
        induction l with
        | nil => simp
        | cons a r ih => have := a.depth_le; simp only [List.map_cons, List.sum_cons]; omega
      simp only [push_cast, Nat.reduceAdd, Nat.reduceSub, Nat.reduceMul, Nat.reduceLT, Nat.reduceLeDiff, Nat.reduceEqDiff, Int.reduceToNat, ↓reduceIte]
      omega
end Ab
set_option maxRecDepth 10000
namespace Ab
open Go Go.Proofs
theorem do_alt {rs : List (Term × Term)} {t : Term} {s : Int × List Int} : doE rs t s = if (findE rs t s).2 ≠ 0 then (zeroT, (findE rs t s).2) else if fitsP (putP t s.2 (rhsP rs t s)) = true then (putP t s.2 (rhsP rs t s), 0) else (zeroT, 3) := by
  unfold doE
  by_cases h : (findE rs t s).2 ≠ 0
  · rw [if_pos h, if_pos h]
  · rw [if_neg h, if_neg h]
    obtain ⟨x, hf⟩ := find_ok (by simpa using h)
    by_cases h2 : fitsP (putP t s.2 (rhsP rs t s)) = true
    · have hs := (at_sub _ _ _ (at_put _ _ (rhsP rs t s) _ hf.at')).sizes
      have h1 : fitsP (rhsP rs t s) = true := by
        unfold fitsP at h2 ⊢
        rw [Bool.and_eq_true, decide_eq_true_eq, decide_eq_true_eq] at h2 ⊢
        omega
      rw [if_pos ⟨h1, h2⟩, if_pos h2]
    · rw [if_neg h2, if_neg (fun h => h2 h.2)]
end Ab
set_option maxRecDepth 10000
namespace Ab
open Go Go.Proofs
def nmB (N : Nat) : Term → Bool
  | .mk n _ xs => decide (n.length ≤ N) && (xs.map (nmB N)).all id
theorem nmB_mk (N : Nat) (n : List UInt8) (u : Bool) (xs : List Term) : nmB N (.mk n u xs) = (decide (n.length ≤ N) && xs.all (nmB N)) := by rw [nmB, List.all_map]; rfl
theorem nmB_iff (N : Nat) (n : List UInt8) (u : Bool) (xs : List Term) : nmB N (.mk n u xs) = true ↔ n.length ≤ N ∧ ∀ x, x ∈ xs → nmB N x = true := by rw [nmB_mk, Bool.and_eq_true, decide_eq_true_eq, List.all_eq_true]
theorem nm_bulk (N : Nat) (t : Term) : nmB N t = true → t.bulk ≤ t.size * (N + 1) := by
  induction t using Term.ind with | _ n u xs ih
  intro h
  obtain ⟨h1, h2⟩ := (nmB_iff N n u xs).1 h
  rw [Term.bulk_mk, Term.size_mk]
  have key : ∀ ys : List Term, (∀ y, y ∈ ys → y ∈ xs) → (ys.map Term.bulk).sum ≤ (ys.map Term.size).sum * (N + 1) := by
    intro ys
    induction ys with
    | nil => intro _; simp
    | cons y ys ih2 =>
      intro hy
      have a := ih y (hy y (by simp)) (h2 y (hy y (by simp)))
      have b := ih2 (fun z hz => hy z (by simp [hz]))
      simp only [List.map_cons, List.sum_cons, Nat.add_mul]
      omega
  have := key xs (fun y h => h)
  rw [Nat.add_mul]
  omega
theorem nm_of (N : Nat) (t : Term) : t.bulk ≤ N → nmB N t = true := by
  induction t using Term.ind with | _ n u xs ih
  intro h
  have h1 := Term.name_le (n := n) (v := u) (xs := xs)
  exact (nmB_iff N n u xs).2 ⟨by omega, fun x hx => ih x hx (by have := Term.arg_le (n := n) (v := u) hx; omega)⟩
theorem nm_sub {N : Nat} {s t : Term} (h : SubT s t) : nmB N s = true → nmB N t = true := by
  induction h with
  | refl => exact id
  | arg hx _ ih => intro hs; exact ih (((nmB_iff _ _ _ _).1 hs).2 _ hx)
theorem nm_image {N : Nat} {σ : List (List UInt8 × Term)} (h : ∀ b, b ∈ σ → nmB N b.2 = true) (v : List UInt8) (hv : v.length ≤ N) : nmB N (imageP σ v) = true := by
  unfold imageP
  cases hf : σ.find? fun b => decide (b.1 = v) with
  | none => exact (nmB_iff _ _ _ _).2 ⟨hv, fun x hx => by simp at hx⟩
  | some b => exact h b (List.mem_of_find?_eq_some hf)
theorem nm_apply {N : Nat} {σ : List (List UInt8 × Term)} (h : ∀ b, b ∈ σ → nmB N b.2 = true) (t : Term) : nmB N t = true → nmB N (applyP σ t) = true := by
  induction t using Term.ind with | _ n u xs ih
  intro ht
  obtain ⟨h1, h2⟩ := (nmB_iff _ _ _ _).1 ht
  rw [applyP_mk]
  split
  · exact nm_image h n h1
  · refine (nmB_iff _ _ _ _).2 ⟨h1, fun x hx => ?_⟩
    obtain ⟨y, hy, rfl⟩ := List.mem_map.1 hx
    exact ih y hy (h2 y hy)
theorem nm_put {N : Nat} {x : Term} (hx : nmB N x = true) : ∀ (p : List Int) (t y : Term), atP t p = some y → nmB N t = true → nmB N (putP t p x) = true
  | [], t, y, _, _ => by cases t; exact hx
  | i :: p, .mk n u xs, y, h, ht => by
    obtain ⟨hk, h2⟩ := step_some h
    obtain ⟨h1, h3⟩ := (nmB_iff _ _ _ _).1 ht
    rw [step_put n u xs i p x hk.2]
    refine (nmB_iff _ _ _ _).2 ⟨h1, fun z hz => ?_⟩
    rcases List.mem_or_eq_of_mem_set hz with hz | rfl
    · exact h3 z hz
    · exact nm_put hx p _ y h2 (h3 _ (List.getElem_mem hk.2))
def TmB (t : Term) : Prop := t.size ≤ 4000 ∧ nmB 1048576 t = true
theorem TmB.bulk {t : Term} (h : TmB t) : t.bulk ≤ 4194308000 := by
  have h1 := nm_bulk 1048576 t h.2
  have h2 : t.size * (1048576 + 1) ≤ 4000 * (1048576 + 1) := Nat.mul_le_mul h.1 (Nat.le_refl _)
  omega
def RuB (rs : List (Term × Term)) : Prop := ∀ r, r ∈ rs → r.1.bulk ≤ 1048576 ∧ r.2.bulk ≤ 1048576
theorem rhs_nm {rs : List (Term × Term)} (hr : RuB rs) {t : Term} (ht : TmB t) {s : Int × List Int} {x : Term} (hf : FindOk rs t s x (findE rs t s).1) : nmB 1048576 (rhsP rs t s) = true := by
  have hxn := nm_sub (at_sub _ _ _ hf.at') ht.2
  exact nm_apply (fun b hb => nm_sub (hf.subOk.1.sub b hb) hxn) _ (nm_of _ _ (hr _ hf.mem).2)
theorem do_TmB {rs : List (Term × Term)} (hr : RuB rs) {t : Term} (ht : TmB t) {s : Int × List Int} (h : (doE rs t s).2 = 0) : TmB (doE rs t s).1 := by
  rw [do_alt] at h ⊢
  split
  · rename_i h1; rw [if_pos h1] at h; exact absurd h h1
  · rename_i h1
    rw [if_neg h1] at h
    obtain ⟨x, hf⟩ := find_ok (by simpa using h1)
    split
    · rename_i h2
      exact ⟨fits_size h2, nm_put (rhs_nm hr ht hf) _ _ _ hf.at' ht.2⟩
    · rename_i h2; rw [if_neg h2] at h; cases h
set_option maxHeartbeats 2000000 in
theorem stepRX_ac (rs : List (Term × Term)) (hr : RuB rs) (t : Term) (ht : TmB t) (s : Int × List Int) (hs : s.2.length < 1099511627776) (H : List AObj) :
    ACall Tryz.prog 34 [.sl .none (encL encRu rs), encT t, encSt s] H (fun r H' => r = encRE (doE rs t s) ∧ H' = H) := by
  have htb := ht.bulk
  rw [do_alt]
  refine ACall_V (H.length) 59 [.cell 6 39, .tmp 7] Tryz.func34 rfl rfl rfl ?_
  simp only [push_cast, Nat.reduceAdd, Nat.reduceSub, Nat.reduceMul, Nat.reduceLT, Nat.reduceLeDiff, Nat.reduceEqDiff, Int.reduceToNat, ↓reduceIte]
  refine (substRX_ac rs (fun r h => by have := hr r h; omega) t (by omega) s hs _).to ?_
  simp only [push_cast, Nat.reduceAdd, Nat.reduceSub, Nat.reduceMul, Nat.reduceLT, Nat.reduceLeDiff, Nat.reduceEqDiff, Int.reduceToNat, ↓reduceIte, encFE]
  refine cI (fun h => ?_) (fun h => ?_)
  · rw [if_neg (by simpa using h)]
    obtain ⟨x, hf⟩ := find_ok h
    obtain ⟨hso, hsl⟩ := hf.subOk
    have hxs := at_sub _ _ _ hf.at'
    have hrb := hr _ hf.mem
    have hlz := (ruleN rs s.1).1.size_le
    have hrz := (ruleN rs s.1).2.size_le
    have hrn := ruleN_get hf.hi
    have hxz := hxs.sizes.1
    have hxb := hxs.bulk
    have ht1 := ht.1
    have hap : (rhsP rs t s).size ≤ (ruleN rs s.1).2.size * 4000 := apply_size _ 4000 (by decide) (fun b hb => by have := (hso.bulk b hb).2; omega) _
    have hap2 : (rhsP rs t s).size ≤ 4194304000 := by omega
    have hapd := (rhsP rs t s).depth_le
    have hnm := rhs_nm hr ht hf
    have hap3 : (applyP (findE rs t s).1 (ruleN rs s.1).2).size ≤ 4194304000 := hap2
    have hsbk : ∀ b, b ∈ (findE rs t s).1 → b.2.bulk ≤ 1099511627775 := fun b hb => by have := (hso.bulk b hb).1; omega
    refine ⟨hf.lo, hf.hi, ?_⟩
    rw [← hrn]
    refine (grownR_ac (findE rs t s).1 (by omega) hsbk (ruleN rs s.1).2 (by omega) (by omega) _).to ?_
    simp only [push_cast, Nat.reduceAdd, Nat.reduceSub, Nat.reduceMul, Nat.reduceLT, Nat.reduceLeDiff, Nat.reduceEqDiff, Int.reduceToNat, ↓reduceIte]
    refine (replacedX_ac (rhsP rs t s) (by omega) (by omega) s.2 t x (by omega) hs hf.at' _).to ?_
    simp only [push_cast, Nat.reduceAdd, Nat.reduceSub, Nat.reduceMul, Nat.reduceLT, Nat.reduceLeDiff, Nat.reduceEqDiff, Int.reduceToNat, ↓reduceIte]
    have hsub := at_sub _ _ _ (at_put _ _ (rhsP rs t s) _ hf.at')
    obtain ⟨u, hu⟩ : ∃ u, u = putP t s.2 (rhsP rs t s) := ⟨_, rfl⟩
    rw [← hu] at hsub ⊢
    have fn : ¬ (u.size ≤ 4000 ∧ u.depth ≤ 200) → ¬ fitsP u = true := fun h1 h2 => by
      unfold fitsP at h2
      rw [Bool.and_eq_true, decide_eq_true_eq, decide_eq_true_eq] at h2
      exact h1 h2
    refine cI (fun h1 => ?_) (fun h1 => ?_)
    · rw [if_neg (fn (by omega))]
      simp only [push_cast, Nat.reduceAdd, Nat.reduceSub, Nat.reduceMul, Nat.reduceLT, Nat.reduceLeDiff, Nat.reduceEqDiff, Int.reduceToNat, ↓reduceIte]
    · refine cI (fun h2 => ?_) (fun h2 => ?_)
      · rw [if_neg (fn (by omega))]
        simp only [push_cast, Nat.reduceAdd, Nat.reduceSub, Nat.reduceMul, Nat.reduceLT, Nat.reduceLeDiff, Nat.reduceEqDiff, Int.reduceToNat, ↓reduceIte]
      · have hfu : fitsP u = true := by unfold fitsP; rw [Bool.and_eq_true, decide_eq_true_eq, decide_eq_true_eq]; omega
        rw [if_pos hfu]
        have hus := hsub.sizes.1
        have hub := (show TmB (rhsP rs t s) from ⟨by omega, hnm⟩).bulk
        apply AW_drawE [some 50, some 51, some 52, some 53, some 54, some 55, some 56, some 57, some 58, some 59, some 60, some 61, none, some 7] [([false], _), ([true], _)] [none, none, none, none, none, none, none, none, none, none, none, none, some 0, none] 1 [(0, [false], [4]), (1, [false], [5]), (2, [false], [51]), (3, [false], [8]), (4, [false], [0]), (5, [false], [5]), (6, [false], [55]), (7, [false], [54, 1]), (8, [false], [57]), (9, [false], [58]), (10, [false], [53, 5]), (11, [false], [50, 1, 7]), (12, [false], [6, 54]), (13, [true], [])] [_, _, _, _, _, _, _, _, _, _, _, _, _, _]
        case' hm => exact dr
        case' hn => rfl
        case' hok => rfl
        case' hlen => rfl
        case' hd => rfl
        case' h0 => rfl
        case' hstep =>
         simp only [DAllG, push_cast, Option.isSome_some, Option.isSome_none]
         repeat' apply And.intro
         all_goals (apply DOne_V; simp only [push_cast, Nat.reduceAdd, Nat.reduceSub, Nat.reduceMul, Nat.reduceLT, Nat.reduceLeDiff, Nat.reduceEqDiff, Int.reduceToNat, ↓reduceIte] <;> first | exact rfl | omega | exact ⟨rfl, rfl⟩ | exact trivial | exact ⟨by omega, rfl⟩ | exact ⟨by omega, by omega, rfl⟩ | exact ⟨by omega, rfl, rfl⟩ | exact ⟨by omega, by omega, rfl, rfl⟩ | exact ⟨hf.lo, hf.hi, rfl⟩ | (rw [← hrn]; refine (applyR_ac (findE rs t s).1 (by omega) (ruleN rs s.1).2 (by omega) _).to ?_; exact ⟨rfl, rfl⟩) | (refine (putR_ac (rhsP rs t s) (by omega) s.2 t x (by omega) hs hf.at' _).to ?_; exact ⟨rfl, rfl⟩))
        case' hQ => skip
        rw [← hu]
        simp only [push_cast, Nat.reduceAdd, Nat.reduceSub, Nat.reduceMul, Nat.reduceLT, Nat.reduceLeDiff, Nat.reduceEqDiff, Int.reduceToNat, ↓reduceIte]
  · rw [if_pos h]
    simp only [push_cast, Nat.reduceAdd, Nat.reduceSub, Nat.reduceMul, Nat.reduceLT, Nat.reduceLeDiff, Nat.reduceEqDiff, Int.reduceToNat, ↓reduceIte]
def runF (rs : List (Term × Term)) : List Term → Term → List (Int × List Int) → List Term × Int
  | acc, _, [] => (acc, 0)
  | acc, t, s :: r => if (doE rs t s).2 ≠ 0 then ([], (doE rs t s).2) else runF rs (acc ++ [(doE rs t s).1]) (doE rs t s).1 r
def termsE (rs : List (Term × Term)) (c : Term × List (Int × List Int)) : List Term × Int :=
  if 4096 < c.2.length then ([], 3) else if checkP c.1 ≠ 0 then ([], checkP c.1) else runF rs [c.1] c.1 c.2
def encTE (q : List Term × Int) : AV := .tup [.sl .none (encTs q.1), .int .i64 q.2]
theorem check_TmB {t : Term} (h : checkP t = 0) : TmB t := ⟨(check_small h).1, nm_of _ _ (by have := (check_small h).2; omega)⟩
theorem gSl_tk (k : Nat) (xs : List AV) : ∃ tk, gSl k xs = .sl tk xs := by cases xs <;> exact ⟨_, rfl⟩
@[reducible] def encCh (c : Term × List (Int × List Int)) : AV := .agg [.str c.1.name, .bool c.1.var, .sl .none (encTs c.1.args), .sl .none (encL encSt c.2)]
set_option maxHeartbeats 2000000 in
theorem termsR_ac (rs : List (Term × Term)) (hr : RuB rs) (c : Term × List (Int × List Int)) (hc1 : c.1.bulk ≤ 1099511627775) (hc2 : c.2.length < 1099511627776) (hc3 : ∀ x, x ∈ c.2 → x.2.length < 1099511627776) (H : List AObj) :
    ACall Tryz.prog 14 [.sl .none (encL encRu rs), encCh c] H (fun r H' => r = encTE (termsE rs c) ∧ H' = H) := by
  refine ACall_VA (H.length) 51 [.tmp 4, .tmp 5] Tryz.func14 rfl rfl rfl ?_
  refine AW_reserve 1 ?_
  refine AW_seq (AW_of_W ?_)
  simp only [push_cast, Nat.reduceAdd, Nat.reduceSub, Nat.reduceMul, Nat.reduceLT, Nat.reduceLeDiff, Nat.reduceEqDiff, Int.reduceToNat, ↓reduceIte]
  refine AW_seq (AW_of_W ?_)
  simp only [push_cast, Nat.reduceAdd, Nat.reduceSub, Nat.reduceMul, Nat.reduceLT, Nat.reduceLeDiff, Nat.reduceEqDiff, Int.reduceToNat, ↓reduceIte]
  refine cI (fun h => ?_) (fun h => ?_)
  · have e : termsE rs c = ([], 3) := if_pos (by omega)
    rw [e]
    simp only [push_cast, Nat.reduceAdd, Nat.reduceSub, Nat.reduceMul, Nat.reduceLT, Nat.reduceLeDiff, Nat.reduceEqDiff, Int.reduceToNat, ↓reduceIte, encTE, encTs_nil]
  · have e0 : termsE rs c = if checkP c.1 ≠ 0 then ([], checkP c.1) else runF rs [c.1] c.1 c.2 := if_neg (by omega)
    refine AW_seq (AW_of_W ?_)
    simp only [push_cast, Nat.reduceAdd, Nat.reduceSub, Nat.reduceMul, Nat.reduceLT, Nat.reduceLeDiff, Nat.reduceEqDiff, Int.reduceToNat, ↓reduceIte]
    refine (checkR_ac c.1 hc1 _).to ?_
    simp only [push_cast, Nat.reduceAdd, Nat.reduceSub, Nat.reduceMul, Nat.reduceLT, Nat.reduceLeDiff, Nat.reduceEqDiff, Int.reduceToNat, ↓reduceIte]
    refine cI (fun h2 => ?_) (fun h2 => ?_)
    · refine AW_seq ?_
      refine AW_regionAt _ [_, _] _ _ rfl rfl ?_
      simp only [push_cast, Nat.reduceAdd, Nat.reduceSub, Nat.reduceMul, Nat.reduceLT, Nat.reduceLeDiff, Nat.reduceEqDiff, Int.reduceToNat, ↓reduceIte]
      refine bsliceG_sound H.length ?_
      simp only [push_cast, Nat.reduceAdd, Nat.reduceSub, Nat.reduceMul, Nat.reduceLT, Nat.reduceLeDiff, Nat.reduceEqDiff, Int.reduceToNat, ↓reduceIte, bsliceG]
      refine AW_of_W ?_
      simp only [push_cast, Nat.reduceAdd, Nat.reduceSub, Nat.reduceMul, Nat.reduceLT, Nat.reduceLeDiff, Nat.reduceEqDiff, Int.reduceToNat, ↓reduceIte]
      have e1 : termsE rs c = runF rs [c.1] c.1 c.2 := e0.trans (if_neg (by simpa using h2))
      obtain ⟨l, hl⟩ : ∃ l, l = c.2 := ⟨_, rfl⟩
      have hll : l.length ≤ 4096 := by rw [hl]; omega
      refine AW_loopW (maskG 53 [0, 6, 18, 0, 0]) (fun (q : Nat × List Term × Term) => [(28, .int .i64 q.1), (7, gSl H.length (encTs (q.2.1 ++ [q.2.2])))]) (fun q => H ++ [gTok 39 3 (encTs (q.2.1 ++ [q.2.2])), .cells [.str c.1.name, .bool c.1.var, .sl .none (encTs c.1.args), .sl .none (encL encSt c.2)]]) (fun q => q.1 ≤ c.2.length ∧ q.2.1.length = q.1 ∧ TmB q.2.2 ∧ termsE rs c = runF rs (q.2.1 ++ [q.2.2]) q.2.2 (c.2.drop q.1)) (fun q => c.2.length - q.1) (0, [], c.1) ⟨Nat.zero_le _, rfl, check_TmB (by simpa using h2), by rw [e1]; rfl⟩ (by simp only [push_cast, Nat.reduceAdd, Nat.reduceSub, Nat.reduceMul, Nat.reduceLT, Nat.reduceLeDiff, Nat.reduceEqDiff, Int.reduceToNat, ↓reduceIte, List.nil_append, encTs_one, gSl_cons, gTok_cons]) (fun q hq => ?_)
      obtain ⟨i, pre, u⟩ := q
      obtain ⟨q1, q2, q3, q4⟩ := hq
      simp only at q1 q2 q3 q4
      obtain ⟨acc, hacc⟩ : ∃ acc, acc = pre ++ [u] := ⟨_, rfl⟩
      have hal : acc.length = pre.length + 1 := by rw [hacc]; simp
      have hget : ∀ h, acc[pre.length]'h = u := by intro h; simp only [hacc]; simp
      have hm : (acc.length : Int) - 1 = ((pre.length : Nat) : Int) := by omega
      rw [← hacc] at q4 ⊢
      simp only [push_cast, Nat.reduceAdd, Nat.reduceSub, Nat.reduceMul, Nat.reduceLT, Nat.reduceLeDiff, Nat.reduceEqDiff, Int.reduceToNat, ↓reduceIte]
      refine cI (fun h => ?_) (fun h => ?_)
      · have hil : i < c.2.length := by omega
        refine ⟨hil, ?_⟩
        obtain ⟨s, hs⟩ : ∃ s, s = c.2[i]'hil := ⟨_, rfl⟩
        have hsb : s.2.length < 1099511627776 := by rw [hs]; exact hc3 _ (List.getElem_mem hil)
        rw [List.drop_eq_getElem_cons hil, ← hs] at q4
        rw [← hs]
        have hst := fun X => stepRX_ac rs hr u q3 s hsb X
        obtain ⟨tk, htk⟩ := gSl_tk H.length (encTs acc)
        rw [htk]
        apply AW_drawE [some 33, some 34, some 35, some 36, some 37, some 38, some 39, some 40, some 41, some 32, some 42, some 43, some 10, none, some 11] [([false, false], _), ([true, false], _), ([true, true], _)] [none, none, none, none, none, none, none, none, none, none, none, none, some 0, some 1, none] 2 [(0, [false, false], [0]), (1, [false, false], [7]), (2, [false, false], [7]), (3, [false, false], [35]), (4, [false, false], [36]), (5, [false, false], [34, 2]), (6, [false, false], [38]), (7, [false, false], [9]), (8, [false, false], [33, 5, 0]), (9, [false, false], [41]), (10, [false, false], [32]), (11, [false, false], [32]), (12, [false, false], []), (13, [true, false], [10, 31]), (14, [true, true], [43]), (0, [true, false], [0]), (1, [true, false], [7]), (2, [true, false], [7]), (3, [true, false], [35]), (4, [true, false], [36]), (5, [true, false], [34, 2]), (6, [true, false], [38]), (7, [true, false], [9]), (8, [true, false], [33, 5, 0]), (9, [true, false], [41]), (10, [true, false], [32]), (11, [true, false], [32]), (11, [true, true], [32])] [_, _, _, _, _, _, _, _, _, _, _, _, _, _, _]
        case' hm => exact dr
        case' hn => rfl
        case' hok => rfl
        case' hlen => rfl
        case' hd => rfl
        case' h0 => rfl
        case' hstep =>
         simp only [DAllG, push_cast, Option.isSome_some, Option.isSome_none]
         repeat' apply And.intro
         all_goals (apply DOne_V; simp only [push_cast, Nat.reduceAdd, Nat.reduceSub, Nat.reduceMul, Nat.reduceLT, Nat.reduceLeDiff, Nat.reduceEqDiff, Int.reduceToNat, ↓reduceIte, hm, hget] <;> first | exact rfl | omega | exact ⟨rfl, rfl⟩ | exact trivial | exact ⟨by omega, rfl⟩ | exact ⟨by omega, by omega, rfl⟩ | exact ⟨by omega, rfl, rfl⟩ | exact ⟨by omega, by omega, rfl, rfl⟩ | exact ⟨by omega, by omega, trivial⟩ | exact ⟨by omega, trivial⟩ | (refine (hst _).to ?_; exact ⟨rfl, rfl⟩))
        case' hQ => skip
        simp only [push_cast, Nat.reduceAdd, Nat.reduceSub, Nat.reduceMul, Nat.reduceLT, Nat.reduceLeDiff, Nat.reduceEqDiff, Int.reduceToNat, ↓reduceIte]
        have hd := do_TmB hr q3 (s := s)
        have hapl : acc.length < 1099511627776 := by omega
        refine cI (fun h3 => ?_) (fun h3 => ?_)
        · refine app1_T _ H.length acc (doE rs u s).1 _ (by rw [htk]; rfl) rfl (by exact aget0 _ _ _) sl35 sz39 by39 zr39 rfl (by decide) (by omega) ?_
          simp only [push_cast, Nat.reduceAdd, Nat.reduceSub, Nat.reduceMul, Nat.reduceLT, Nat.reduceLeDiff, Nat.reduceEqDiff, Int.reduceToNat, ↓reduceIte]
          repeat' first | refine ⟨by omega, ?_⟩ | refine cI (fun _ => ?_) (fun _ => ?_)
          refine loopW_n (i + 1, pre ++ [u], (doE rs u s).1) ⟨by simp only; omega, by simp; omega, hd h3, ?_⟩ (by simp only; omega) ?_
          · rw [q4, runF, if_neg (by simpa using h3), hacc]
          · rw [← hacc]
            simp only [push_cast, Nat.reduceAdd, Nat.reduceSub, Nat.reduceMul, Nat.reduceLT, Nat.reduceLeDiff, Nat.reduceEqDiff, Int.reduceToNat, ↓reduceIte]
        · rw [q4, runF, if_pos h3]
          simp only [push_cast, Nat.reduceAdd, Nat.reduceSub, Nat.reduceMul, Nat.reduceLT, Nat.reduceLeDiff, Nat.reduceEqDiff, Int.reduceToNat, ↓reduceIte, encTE, encTs_nil]
      · rw [List.drop_of_length_le (show c.2.length ≤ i by omega)] at q4
        rw [q4]
        simp only [push_cast, Nat.reduceAdd, Nat.reduceSub, Nat.reduceMul, Nat.reduceLT, Nat.reduceLeDiff, Nat.reduceEqDiff, Int.reduceToNat, ↓reduceIte, encTE, runF]
    · have e : termsE rs c = ([], checkP c.1) := e0.trans (if_pos h2)
      rw [e]
      simp only [push_cast, Nat.reduceAdd, Nat.reduceSub, Nat.reduceMul, Nat.reduceLT, Nat.reduceLeDiff, Nat.reduceEqDiff, Int.reduceToNat, ↓reduceIte, encTE, encTs_nil]
end Ab
set_option maxRecDepth 10000
namespace Ab
open Go Go.Proofs Go.Proofs.YtohdojbfkcodjaaGreat
section
variable {H : Type}
theorem kdStepsC : kindOf Tryz.prog 45 = .slice 74 := by kernel_rfl
theorem agStepC : aggK Tryz.prog 74 = true := by unfold aggK; rw [kdStep]
theorem stepsC_form (n : Nat) (d : DataW H) (avs : List AV) (h : toAV Tryz.prog n 45 d = some avs) : ∃ l : List (Int × List Int), avs = [.sl .none (encL encSt l)] ∧ l.length ≤ Rows.uptoBulk d ∧ ∀ s, s ∈ l → s.2.length ≤ Rows.uptoBulk d := by
  obtain ⟨xs, ds, e3, hw, _, hd⟩ := row_form (fun s : Int × List Int => encSt s) (fun s => s.2.length + 1) Rows.uptoBulk kdStepsC (n := n) (fun k d avs _ he => by
    obtain ⟨t, x1, x2⟩ := step_form k d avs he
    exact ⟨t, by rw [agStepC]; exact x1, x2⟩) h
  have hb := bulk_row hd
  have := len_sum (fun s : Int × List Int => s.2.length) xs (k := Rows.uptoBulk d) (by omega)
  exact ⟨xs, e3, this.1, this.2⟩
theorem kdChain : kindOf Tryz.prog 47 = .struct [39, 45] := by kernel_rfl
theorem chain_form (n : Nat) (d : DataW H) (avs : List AV) (h : toAV Tryz.prog n 47 d = some avs) : ∃ c : Term × List (Int × List Int), AV.agg avs = encCh c ∧ c.1.bulk ≤ Rows.uptoBulk d ∧ c.2.length ≤ Rows.uptoBulk d ∧ ∀ s, s ∈ c.2 → s.2.length ≤ Rows.uptoBulk d := by
  obtain ⟨m, parts, avss, rfl, rfl, hl, hm, rfl⟩ := toAV_struct kdChain h
  match parts, hl, hm with
  | [d1, d2], _, hm =>
    obtain ⟨h1, h2⟩ := mapM_get hm
    match avss, h1, h2 with
    | [a1, a2], _, h2 =>
      obtain ⟨a, e1, b1⟩ := term_form m d1 a1 (h2 0 (by simp) (by simp))
      obtain ⟨l, rfl, b2, c2⟩ := stepsC_form m d2 a2 (h2 1 (by simp) (by simp))
      injection e1 with e1
      subst e1
      refine ⟨(a, l), by simp, ?_⟩
      simp only [Rows.uptoBulk, Rows.uptoBulkAll]
      exact ⟨by omega, by omega, fun s hs => by have := c2 s hs; omega⟩
end
end Ab
set_option maxRecDepth 10000
namespace Ab
open Go Go.Proofs
def countStep (m : List (List UInt8 × Int)) (x : List Int × Term) : List (List UInt8 × Int) :=
  if x.2.var then aset m x.2.name ((aget m x.2.name).getD 0 + 1) else m
def countM (l : List (List Int × Term)) : List (List UInt8 × Int) := l.foldl countStep []
def countV (l : List (List Int × Term)) : Nat := (l.filter fun x => x.2.var).length
theorem countM_snoc (l : List (List Int × Term)) (x : List Int × Term) : countM (l ++ [x]) = countStep (countM l) x := by simp [countM]
theorem countV_snoc (l : List (List Int × Term)) (x : List Int × Term) : countV (l ++ [x]) = countV l + if x.2.var then 1 else 0 := by
  simp only [countV, List.filter_append, List.length_append]
  cases h : x.2.var <;> simp [h]
theorem aget_aset {κ α : Type} [DecidableEq κ] : ∀ (m : List (κ × α)) (k k' : κ) (v : α), aget (aset m k v) k' = if k = k' then some v else aget m k'
  | [], k, k', v => by simp [aset, aget]
  | p :: m, k, k', v => by
    by_cases h : p.1 = k
    · subst h; by_cases h2 : p.1 = k' <;> simp [aset, aget, h2]
    · simp only [aset, h, if_false, aget]
      rw [aget_aset m k k' v]
      by_cases h2 : p.1 = k'
      · subst h2; simp [Ne.symm h]
      · simp [h2]
theorem countM_bound : ∀ (l : List (List Int × Term)) (k : List UInt8), 0 ≤ (aget (countM l) k).getD 0 ∧ (aget (countM l) k).getD 0 ≤ l.length := by
  intro l
  obtain ⟨r, rfl⟩ : ∃ r, l = r.reverse := ⟨l.reverse, by simp⟩
  induction r with
  | nil => intro k; simp [countM, aget]
  | cons x r ih =>
    intro k
    rw [List.reverse_cons, countM_snoc]
    unfold countStep
    have h1 := ih k
    have h2 := ih x.2.name
    split
    · rw [aget_aset]
      split
      · simp; simp at h2; omega
      · simp; simp at h1; omega
    · simp; simp at h1; omega
@[reducible] def encC (m : List (List UInt8 × Int)) : List (AV × AV) := amap AV.str (AV.int .i64) m
theorem scC (n : Nat) (m : List (List UInt8 × Int)) : ∀ v, OScoped n (.map v (encC m)) := fun v => osc_amap _ _ m n v (fun _ => by simp [Scoped]) (fun _ => by simp [Scoped])
theorem counts_ac (t : Term) (hb : t.bulk ≤ 1099511627775) (H : List AObj) : ACall Tryz.prog 51 [encT t] H
    (fun r H' => r = .map (H.length + 1) ∧ ∃ ver, H' = H ++ [.cells [.str t.name, .bool t.var, .sl .none (encTs t.args)], .map ver (encC (countM (walkT t [])))]) := by
  have hsz := t.size_le
  have hwl := walkT_length t []
  refine ACall_W (H.length + 2) 18 [.tmp 2] Tryz.func51 rfl rfl rfl ?_
  simp only [push_cast, Nat.reduceAdd, Nat.reduceSub, Nat.reduceMul, Nat.reduceLT, Nat.reduceLeDiff, Nat.reduceEqDiff, Int.reduceToNat, ↓reduceIte]
  refine (walkF_ac t _).to ?_
  simp only [push_cast, Nat.reduceAdd, Nat.reduceSub, Nat.reduceMul, Nat.reduceLT, Nat.reduceLeDiff, Nat.reduceEqDiff, Int.reduceToNat, ↓reduceIte]
  refine AW_iterW _ _ (walk_iter t hb _) H (fun pre => [.cells [.str t.name, .bool t.var, .sl .none (encTs t.args)], .map (countV pre) (encC (countM pre)), .cells [.map (H.length + 1)], .cells [.str t.name, .bool t.var, .sl .none (encTs t.args)]]) 4 (fun _ _ => none) rfl ok109 (by simp only [push_cast, Nat.reduceAdd, Nat.reduceSub, Nat.reduceMul, Nat.reduceLT, Nat.reduceLeDiff, Nat.reduceEqDiff, Int.reduceToNat, ↓reduceIte]; rfl) (fun _ => rfl) (fun lp => by simp only [push_cast, Nat.reduceAdd, Nat.reduceSub, Nat.reduceMul, Nat.reduceLT, Nat.reduceLeDiff, Nat.reduceEqDiff, Int.reduceToNat, ↓reduceIte]) (fun p => by simp only [push_cast, Nat.reduceAdd, Nat.reduceSub, Nat.reduceMul, Nat.reduceLT, Nat.reduceLeDiff, Nat.reduceEqDiff, Int.reduceToNat, ↓reduceIte]; exact scC _ _ _) (fun _ => rfl) (fun pre x suf X l lp lp' he hn => ?_) (fun _ lp => ?_) (fun pre x suf c lp _ _ h => by cases h)
  · simp only [push_cast, Nat.reduceAdd, Nat.reduceSub, Nat.reduceMul, Nat.reduceLT, Nat.reduceLeDiff, Nat.reduceEqDiff, Int.reduceToNat, ↓reduceIte, List.drop_length]
    have hcb := countM_bound pre x.2.name
    have hpl : pre.length ≤ t.size := by rw [← hwl, he]; simp
    refine cI (fun hv => ?_) (fun hv => ?_)
    · refine AOp_lookup (strKey un9) (AV.int .i64) (countM pre) (H.length + 1) (countV pre) x.2.name (.int .i64 0) rfl (by exact (agetN _ _ 1).trans rfl) rfl un83 (ZeroV_of (.int .i64 0) (by kernel_rfl)) ?_
      rw [show (Option.map (AV.int IntKind.i64) (aget (countM pre) x.2.name)).getD (.int .i64 0) = .int .i64 ((aget (countM pre) x.2.name).getD 0) from by cases aget (countM pre) x.2.name <;> rfl]
      simp only [push_cast, Nat.reduceAdd, Nat.reduceSub, Nat.reduceMul, Nat.reduceLT, Nat.reduceLeDiff, Nat.reduceEqDiff, Int.reduceToNat, ↓reduceIte]
      refine ⟨by omega, ?_⟩
      refine AOp_mapUpdate (strKey un9) (AV.int .i64) (countM pre) (H.length + 1) (countV pre) x.2.name ((aget (countM pre) x.2.name).getD 0 + 1) rfl (by exact (agetN _ _ 1).trans rfl) rfl rfl un83 ?_
      have e1 : countV (pre ++ [x]) = countV pre + 1 := by rw [countV_snoc, if_pos hv]
      have e2 : countM (pre ++ [x]) = aset (countM pre) x.2.name ((aget (countM pre) x.2.name).getD 0 + 1) := by rw [countM_snoc, countStep, if_pos hv]
      rw [← e2]
      simp only [push_cast, Nat.reduceAdd, Nat.reduceSub, Nat.reduceMul, Nat.reduceLT, Nat.reduceLeDiff, Nat.reduceEqDiff, Int.reduceToNat, ↓reduceIte, e1]
    · have e1 : countV (pre ++ [x]) = countV pre := by rw [countV_snoc, if_neg hv]; rfl
      have e2 : countM (pre ++ [x]) = countM pre := by rw [countM_snoc, countStep, if_neg hv]
      simp only [push_cast, Nat.reduceAdd, Nat.reduceSub, Nat.reduceMul, Nat.reduceLT, Nat.reduceLeDiff, Nat.reduceEqDiff, Int.reduceToNat, ↓reduceIte, e1, e2]
  · simp only [push_cast, Nat.reduceAdd, Nat.reduceSub, Nat.reduceMul, Nat.reduceLT, Nat.reduceLeDiff, Nat.reduceEqDiff, Int.reduceToNat, ↓reduceIte]
    refine ⟨outok_app 2 rfl (by simp) (fun o ho => ?_), _, rfl⟩
    simp only [List.take_succ_cons, List.take_zero, List.mem_cons, List.not_mem_nil, or_false] at ho
    rcases ho with rfl | rfl
    · simp [OScoped, ScopedL, Scoped, scoped_encTs]
    · exact scC _ _ _
end Ab
set_option maxRecDepth 10000
namespace Ab
open Go Go.Proofs
structure Rank where
  name : List UInt8
  rank : Int
  weight : Int
  deriving DecidableEq
@[reducible] def encR (x : Rank) : AV := .agg [.str x.name, .int .i64 x.rank, .int .i64 x.weight]
theorem uniR (l : List Rank) : Uni (1 + 1 + 1) (encL encR l) = True := eq_true (uni_encL (enc := encR) (k := 3) (fun _ => rfl) l)
theorem scopedR (n : Nat) (l : List Rank) : ScopedL n (encL encR l) = True := eq_true (scoped_encL (fun x => by simp [Scoped, ScopedL]) l)
attribute [push_cast] uniR scopedR
theorem ofC_ac (x : Rank) (v : List UInt8) (H : List AObj) : ACall Tryz.prog 83 [encR x, .str v] H (fun r H' => r = .int .i64 (Lib.compareBytes x.name v) ∧ H' = H) := by
  refine ACall_V (H.length) 7 [.tmp 4] Tryz.func83 rfl rfl rfl ?_
  simp only [push_cast, Nat.reduceAdd, Nat.reduceSub, Nat.reduceMul, Nat.reduceLT, Nat.reduceLeDiff, Nat.reduceEqDiff, Int.reduceToNat, ↓reduceIte]
  refine (compareStr_ac x.name v _).to ?_
  simp only [push_cast, Nat.reduceAdd, Nat.reduceSub, Nat.reduceMul, Nat.reduceLT, Nat.reduceLeDiff, Nat.reduceEqDiff, Int.reduceToNat, ↓reduceIte]
theorem searchR_ac (xs : List Rank) (v : List UInt8) (g : Nat) (caps : List AV) (c : Rank → Int) (H : List AObj) (hlen : xs.length < 1099511627776) (hg : callOk Tryz.prog g = true) (hsc : ScopedL H.length caps)
    (hmono : ∀ i j (hi : i < xs.length) (hj : j < xs.length), i ≤ j → c xs[j] < 0 → c xs[i] < 0)
    (hf : ∀ i (h : i < xs.length) X, ACall Tryz.prog g (encR xs[i] :: .str v :: caps) X (fun r H' => r = .int .i64 (c xs[i]) ∧ H' = X)) :
    ACall Tryz.prog 82 [.sl .none (encL encR xs), .str v, .fn g caps] H
      (fun r H' => ∃ i : Nat, i ≤ xs.length ∧ (∀ j (hj : j < xs.length), j < i → c xs[j] < 0) ∧ (∀ j (hj : j < xs.length), i ≤ j → ¬ c xs[j] < 0) ∧ r = .tup [.int .i64 i, .bool (decide (∃ h : i < xs.length, c xs[i] = 0))] ∧ H' = H) := by
  refine ACall_W (H.length) 46 [.tmp 6, .tmp 7] Tryz.func82 rfl rfl rfl ?_
  simp only [push_cast, Nat.reduceAdd, Nat.reduceSub, Nat.reduceMul, Nat.reduceLT, Nat.reduceLeDiff, Nat.reduceEqDiff, Int.reduceToNat, ↓reduceIte]
  refine AW_loopW (maskG 49 [0, 0, 0, 5, 0, 0]) (fun (q : Nat × Nat) => [(9, .int .i64 q.1), (10, .int .i64 q.2)]) (fun _ => H) (fun q => q.1 ≤ q.2 ∧ q.2 ≤ xs.length ∧ (∀ j (hj : j < xs.length), j < q.1 → c xs[j] < 0) ∧ (∀ j (hj : j < xs.length), q.2 ≤ j → ¬ c xs[j] < 0)) (fun q => q.2 - q.1) (0, xs.length) ⟨by simp, by simp, fun j hj h => by simp at h, fun j hj h => by simp at h; omega⟩ (by simp only [push_cast, Nat.reduceAdd, Nat.reduceSub, Nat.reduceMul, Nat.reduceLT, Nat.reduceLeDiff, Nat.reduceEqDiff, Int.reduceToNat, ↓reduceIte, hsc]) (fun q hq => ?_)
  obtain ⟨i, j⟩ := q
  obtain ⟨hi1, hi2, hi3, hi4⟩ := hq
  simp only at hi1 hi2 hi3 hi4
  simp only [push_cast, Nat.reduceAdd, Nat.reduceSub, Nat.reduceMul, Nat.reduceLT, Nat.reduceLeDiff, Nat.reduceEqDiff, Int.reduceToNat, ↓reduceIte, hg]
  refine cI (fun h => ?_) (fun h => ?_)
  · have e1 : ((i : Int) + j) / 2 ^ 1 = (((i + j) / 2 : Nat) : Int) := by rw [Int.pow_one]; omega
    have e2 : 1 ≤ IntKind.u64.bits := by decide
    obtain ⟨m, hm⟩ : ∃ m, m = (i + j) / 2 := ⟨_, rfl⟩
    rw [← hm] at e1
    rw [e1]
    repeat refine ⟨by omega, ?_⟩
    have hmx : m < xs.length := by omega
    refine (hf m hmx _).to ?_
    simp only [push_cast, Nat.reduceAdd, Nat.reduceSub, Nat.reduceMul, Nat.reduceLT, Nat.reduceLeDiff, Nat.reduceEqDiff, Int.reduceToNat, ↓reduceIte]
    refine cI (fun hc => ?_) (fun hc => ?_)
    · repeat' first | refine ⟨by omega, ?_⟩ | refine cI (fun _ => ?_) (fun _ => ?_)
      exact loopW_n (m + 1, j) ⟨by simp only; omega, by simp only; omega, fun k hk hkm => hmono k m hk hmx (by simp only at hkm; omega) hc, hi4⟩ (by simp only; omega) (by simp only [push_cast, Nat.reduceAdd, Nat.reduceSub, Nat.reduceMul, Nat.reduceLT, Nat.reduceLeDiff, Nat.reduceEqDiff, Int.reduceToNat, ↓reduceIte, hsc])
    · repeat' first | refine ⟨by omega, ?_⟩ | refine cI (fun _ => ?_) (fun _ => ?_)
      exact loopW_n (i, m) ⟨by simp only; omega, by simp only; omega, hi3, fun k hk hmk hneg => absurd (hmono m k hmx hk hmk hneg) hc⟩ (by simp only; omega) (by simp only [push_cast, Nat.reduceAdd, Nat.reduceSub, Nat.reduceMul, Nat.reduceLT, Nat.reduceLeDiff, Nat.reduceEqDiff, Int.reduceToNat, ↓reduceIte, hsc])
  · have hall : ∀ k (hk : k < xs.length), i ≤ k → ¬ c xs[k] < 0 := fun k hk hik => hi4 k hk (by omega)
    refine cI (fun hl => ?_) (fun hl => ?_)
    · have hil : i < xs.length := by omega
      repeat refine ⟨by omega, ?_⟩
      refine (hf i hil _).to ?_
      simp only [push_cast, Nat.reduceAdd, Nat.reduceSub, Nat.reduceMul, Nat.reduceLT, Nat.reduceLeDiff, Nat.reduceEqDiff, Int.reduceToNat, ↓reduceIte]
      refine ⟨i, by omega, hi3, hall, rfl, ?_⟩
      simp [hil]
    · refine ⟨i, by omega, hi3, hall, rfl, ?_⟩
      have hil : ¬ i < xs.length := by omega
      simp [hil]
def zeroR : Rank := ⟨[], 0, 0⟩
def ofP (l : List Rank) (v : List UInt8) : Rank := (l.find? fun x => decide (x.name = v)).getD zeroR
def SortedR (l : List Rank) : Prop := l.Pairwise fun x y => Lib.compareBytes x.name y.name < 0
theorem find_search (l : List Rank) (hs : SortedR l) (v : List UInt8) (i : Nat) (h1 : ∀ j (hj : j < l.length), j < i → Lib.compareBytes l[j].name v < 0) (h2 : ∀ j (hj : j < l.length), i ≤ j → ¬ Lib.compareBytes l[j].name v < 0) :
    (∀ h : i < l.length, Lib.compareBytes l[i].name v = 0 → ofP l v = l[i]) ∧ ((¬ ∃ h : i < l.length, Lib.compareBytes l[i].name v = 0) → ofP l v = zeroR) := by
  constructor
  · intro h h0
    have hn := (compareBytes_eq _ _).1 h0
    have : l.find? (fun x => decide (x.name = v)) = some l[i] := by
      rw [List.find?_eq_some_iff_getElem]
      refine ⟨by simpa using hn, i, h, rfl, fun j hj => ?_⟩
      have := h1 j (by omega) hj
      simp only [decide_eq_true_eq, Bool.not_eq_true', decide_eq_false_iff_not]
      intro e; rw [(compareBytes_eq _ _).2 e] at this; omega
    simp [ofP, this]
  · intro hno
    have : l.find? (fun x => decide (x.name = v)) = none := by
      rw [List.find?_eq_none]
      intro x hx
      obtain ⟨j, hj, rfl⟩ := List.getElem_of_mem hx
      simp only [decide_eq_true_eq]
      intro e
      have e0 := (compareBytes_eq _ _).2 e
      rcases Nat.lt_or_ge j i with h | h
      · have := h1 j hj h; omega
      · rcases Nat.eq_or_lt_of_le h with h | h
        · subst h; exact hno ⟨hj, e0⟩
        · have hlt := (List.pairwise_iff_getElem.1 hs) i j (by omega) hj h
          rw [e] at hlt
          exact h2 i (by omega) (Nat.le_refl _) hlt
    simp [ofP, this]
theorem of_ac (l : List Rank) (hs : SortedR l) (v : List UInt8) (hlen : l.length < 1099511627776) (H : List AObj) : ACall Tryz.prog 48 [.sl .none (encL encR l), .str v] H (fun r H' => r = encR (ofP l v) ∧ H' = H) := by
  refine ACall_V (H.length) 18 [.cell 4 59] Tryz.func48 rfl rfl rfl ?_
  simp only [push_cast, Nat.reduceAdd, Nat.reduceSub, Nat.reduceMul, Nat.reduceLT, Nat.reduceLeDiff, Nat.reduceEqDiff, Int.reduceToNat, ↓reduceIte]
  refine (searchR_ac l v 83 [] (fun b => Lib.compareBytes b.name v) _ hlen ok83 (by simp [ScopedL]) (fun i j hi hj hij hc => ?_) (fun i h X => ofC_ac _ v _)).mono ?_
  · rcases Nat.lt_or_eq_of_le hij with h | h
    · exact cb_trans _ _ _ ((List.pairwise_iff_getElem.1 hs) i j hi hj h) hc
    · subst h; exact hc
  rintro r H' ⟨i, hi, h1, h2, rfl, rfl⟩
  obtain ⟨hf1, hf2⟩ := find_search l hs v i h1 h2
  by_cases hx : ∃ h : i < l.length, Lib.compareBytes l[i].name v = 0
  · obtain ⟨hil, he⟩ := hx
    have hd : decide (∃ h : i < l.length, Lib.compareBytes l[i].name v = 0) = true := by rw [decide_eq_true_eq]; exact ⟨hil, he⟩
    rw [hf1 hil he]
    simp only [push_cast, Nat.reduceAdd, Nat.reduceSub, Nat.reduceMul, Nat.reduceLT, Nat.reduceLeDiff, Nat.reduceEqDiff, Int.reduceToNat, ↓reduceIte, hd]
    repeat' first | refine ⟨by omega, ?_⟩ | refine cI (fun _ => ?_) (fun _ => ?_)
    simp only [push_cast, Nat.reduceAdd, Nat.reduceSub, Nat.reduceMul, Nat.reduceLT, Nat.reduceLeDiff, Nat.reduceEqDiff, Int.reduceToNat, ↓reduceIte]
  · have hd : decide (∃ h : i < l.length, Lib.compareBytes l[i].name v = 0) = false := by rw [decide_eq_false_iff_not]; exact hx
    rw [hf2 hx]
    simp only [push_cast, Nat.reduceAdd, Nat.reduceSub, Nat.reduceMul, Nat.reduceLT, Nat.reduceLeDiff, Nat.reduceEqDiff, Int.reduceToNat, ↓reduceIte, hd]
    simp [zeroR]
def weightP (l : List Rank) (unit : Int) : Term → Int
  | .mk n v xs => if v then unit else (ofP l n).weight + (xs.map (weightP l unit)).sum
theorem weightP_mk (l : List Rank) (unit : Int) (n : List UInt8) (v : Bool) (xs : List Term) : weightP l unit (.mk n v xs) = if v then unit else (ofP l n).weight + (xs.map (weightP l unit)).sum := by simp [weightP]
theorem take_sumI {α : Type} (f : α → Int) (xs : List α) (i : Nat) (h : i < xs.length) : ((xs.take (i + 1)).map f).sum = ((xs.take i).map f).sum + f xs[i] := by
  rw [List.take_succ_eq_append_getElem h, List.map_append, List.sum_append]; simp
def SmallR (l : List Rank) (unit : Int) : Prop := (∀ x, x ∈ l → 0 ≤ x.rank ∧ x.rank ≤ 1000 ∧ 0 ≤ x.weight ∧ x.weight ≤ 1000) ∧ 1 ≤ unit ∧ unit ≤ 1000
theorem SmallR.of {l : List Rank} {unit : Int} (h : SmallR l unit) (v : List UInt8) : 0 ≤ (ofP l v).rank ∧ (ofP l v).rank ≤ 1000 ∧ 0 ≤ (ofP l v).weight ∧ (ofP l v).weight ≤ 1000 := by
  unfold ofP
  cases hf : l.find? fun x => decide (x.name = v) with
  | none => simp [zeroR]
  | some x => exact h.1 x (List.mem_of_find?_eq_some hf)
theorem weight_bound {l : List Rank} {unit : Int} (h : SmallR l unit) (t : Term) : 0 ≤ weightP l unit t ∧ weightP l unit t ≤ 1000 * t.size := by
  refine Term.ind (p := fun t => 0 ≤ weightP l unit t ∧ weightP l unit t ≤ 1000 * t.size) (fun n v xs ih => ?_) t
  rw [weightP_mk, Term.size_mk]
  have h2 := h.2
  have h3 := h.of n
  have hs : 0 ≤ (xs.map (weightP l unit)).sum ∧ (xs.map (weightP l unit)).sum ≤ 1000 * ((xs.map Term.size).sum : Nat) := by
    induction xs with
    | nil => simp
    | cons a r ih2 =>
      have h4 := ih a (by simp)
      have h5 := ih2 (fun x hx => ih x (by simp [hx]))
      simp only [List.map_cons, List.sum_cons]; omega
  split <;> omega
theorem weights_bound {l : List Rank} {unit : Int} (h : SmallR l unit) : ∀ xs : List Term, 0 ≤ (xs.map (weightP l unit)).sum ∧ (xs.map (weightP l unit)).sum ≤ 1000 * ((xs.map Term.size).sum : Nat)
  | [] => by simp
  | a :: r => by
    have h4 := weight_bound h a
    have h5 := weights_bound h r
    simp only [List.map_cons, List.sum_cons]; omega
theorem sumW_ac (l : List Rank) (unit : Int) (hs : SortedR l) (hr : SmallR l unit) (hlen : l.length < 1099511627776) (t : Term) : t.bulk ≤ 1099511627775 → ∀ H, ACall Tryz.prog 37 [.sl .none (encL encR l), .int .i64 unit, encT t] H (fun r H' => r = .int .i64 (weightP l unit t) ∧ H' = H) := by
  induction t using Term.ind with | _ n v xs ih
  intro hb H
  have hsz := (Term.mk n v xs).size_le
  have hl2 := Term.len_le (n := n) (v := v) (xs := xs)
  have ho := hr.of n
  have hru := hr.2
  rw [Term.size_mk] at hsz
  rw [weightP_mk]
  have hbd : ∀ i, i ≤ xs.length → 0 ≤ ((xs.take i).map (weightP l unit)).sum ∧ ((xs.take i).map (weightP l unit)).sum ≤ 1099511627775000 := by
    intro i hi
    have h1 := weights_bound hr (xs.take i)
    have h2 := take_sum_le Term.size xs i
    omega
  refine ACall_V (H.length) 30 [.tmp 6] Tryz.func37 rfl rfl rfl ?_
  simp only [push_cast, Nat.reduceAdd, Nat.reduceSub, Nat.reduceMul, Nat.reduceLT, Nat.reduceLeDiff, Nat.reduceEqDiff, Int.reduceToNat, ↓reduceIte, Term.name, Term.var, Term.args]
  cases v with
  | true =>
    simp only [push_cast, Nat.reduceAdd, Nat.reduceSub, Nat.reduceMul, Nat.reduceLT, Nat.reduceLeDiff, Nat.reduceEqDiff, Int.reduceToNat, ↓reduceIte, if_true]
  | false =>
    simp only [push_cast, Nat.reduceAdd, Nat.reduceSub, Nat.reduceMul, Nat.reduceLT, Nat.reduceLeDiff, Nat.reduceEqDiff, Int.reduceToNat, ↓reduceIte, Bool.false_eq_true, if_false]
    refine (of_ac l hs n hlen _).to ?_
    simp only [push_cast, Nat.reduceAdd, Nat.reduceSub, Nat.reduceMul, Nat.reduceLT, Nat.reduceLeDiff, Nat.reduceEqDiff, Int.reduceToNat, ↓reduceIte]
    refine AW_loopW (maskG 33 [0, 0, 5, 11, 0, 0]) (fun (i : Nat) => [(21, .int .i64 i), (7, .int .i64 ((ofP l n).weight + ((xs.take i).map (weightP l unit)).sum))]) (fun i => H ++ [.cells [.str n, .bool false, .sl .none (encTs xs)]]) (fun i => i ≤ xs.length) (fun i => xs.length - i) 0 (Nat.zero_le _) (by simp only [push_cast, Nat.reduceAdd, Nat.reduceSub, Nat.reduceMul, Nat.reduceLT, Nat.reduceLeDiff, Nat.reduceEqDiff, Int.reduceToNat, ↓reduceIte, List.take_zero, List.map_nil, List.sum_nil, Int.add_zero]) (fun i hi => ?_)
    simp only [push_cast, Nat.reduceAdd, Nat.reduceSub, Nat.reduceMul, Nat.reduceLT, Nat.reduceLeDiff, Nat.reduceEqDiff, Int.reduceToNat, ↓reduceIte]
    refine cI (fun h => ?_) (fun h => ?_)
    · have hil : i < xs.length := by omega
      repeat refine ⟨by omega, ?_⟩
      have hmem := List.getElem_mem hil
      have hbx := Term.arg_le (n := n) (v := false) hmem
      have e := take_sumI (weightP l unit) xs i hil
      have hb1 := hbd i (by omega)
      have hb2 := hbd (i + 1) (by omega)
      refine (ih _ hmem (by omega) _).to ?_
      simp only [push_cast, Nat.reduceAdd, Nat.reduceSub, Nat.reduceMul, Nat.reduceLT, Nat.reduceLeDiff, Nat.reduceEqDiff, Int.reduceToNat, ↓reduceIte]
      repeat' first | refine ⟨by omega, ?_⟩ | refine cI (fun _ => ?_) (fun _ => ?_)
      exact loopW_n (i + 1) (by omega) (by omega) (by rw [e, ← Int.add_assoc]; simp only [push_cast, Nat.reduceAdd, Nat.reduceSub, Nat.reduceMul, Nat.reduceLT, Nat.reduceLeDiff, Nat.reduceEqDiff, Int.reduceToNat, ↓reduceIte])
    · have e : xs.take i = xs := List.take_of_length_le (by omega)
      rw [e]
end Ab
set_option maxRecDepth 10000
namespace Ab
open Go Go.Proofs Go.Proofs.YtohdojbfkcodjaaGreat
section
variable {H : Type}
theorem kdRank : kindOf Tryz.prog 59 = .struct [9, 3, 3] := by kernel_rfl
theorem kdRanks : kindOf Tryz.prog 22 = .slice 59 := by kernel_rfl
theorem agRank : aggK Tryz.prog 59 = true := by unfold aggK; rw [kdRank]
theorem kdOrder : kindOf Tryz.prog 24 = .struct [22, 3] := by kernel_rfl
theorem rank_form (n : Nat) (d : DataW H) (avs : List AV) (h : toAV Tryz.prog n 59 d = some avs) : ∃ x : Rank, .agg avs = encR x ∧ x.name.length + 1 ≤ Rows.uptoBulk d := by
  obtain ⟨m, parts, avss, rfl, rfl, hl, hm, rfl⟩ := toAV_struct kdRank h
  match parts, hl, hm with
  | [d1, d2, d3], _, hm =>
    obtain ⟨h1, h2⟩ := mapM_get hm
    match avss, h1, h2 with
    | [a1, a2, a3], _, h2 =>
      obtain ⟨bs, rfl, rfl⟩ := toAV_str kdStr (h2 0 (by simp) (by simp))
      obtain ⟨i, rfl, rfl⟩ := toAV_int kdInt (h2 1 (by simp) (by simp))
      obtain ⟨j, rfl, rfl⟩ := toAV_int kdInt (h2 2 (by simp) (by simp))
      exact ⟨⟨bs, i, j⟩, by simp, by simp only [Rows.uptoBulk, Rows.uptoBulkAll]; omega⟩
theorem order_form (n : Nat) (d : DataW H) (avs : List AV) (h : toAV Tryz.prog n 24 d = some avs) :
    ∃ (l : List Rank) (unit : Int), AV.agg avs = .agg [.sl .none (encL encR l), .int .i64 unit] ∧ l.length ≤ Rows.uptoBulk d ∧ ∀ x, x ∈ l → x.name.length ≤ Rows.uptoBulk d := by
  obtain ⟨m, parts, avss, rfl, rfl, hl, hm, rfl⟩ := toAV_struct kdOrder h
  match parts, hl, hm with
  | [d1, d2], _, hm =>
    obtain ⟨h1, h2⟩ := mapM_get hm
    match avss, h1, h2 with
    | [a1, a2], _, h2 =>
      obtain ⟨i, rfl, rfl⟩ := toAV_int kdInt (h2 1 (by simp) (by simp))
      obtain ⟨xs, ds, e3, hw, _, hd⟩ := row_form (fun s : Rank => encR s) (fun x : Rank => x.name.length + 1) Rows.uptoBulk kdRanks (n := m) (fun k d avs _ he => by
        obtain ⟨t, x1, x2⟩ := rank_form k d avs he
        exact ⟨t, by rw [agRank]; exact x1, x2⟩) (h2 0 (by simp) (by simp))
      simp only [List.getElem_cons_zero] at e3 hd
      subst e3
      have hb := bulk_row (d := d1) hd
      have := len_sum (fun x : Rank => x.name.length) xs (k := Rows.uptoBulk d1) (by omega)
      refine ⟨xs, i, rfl, ?_, fun x hx => ?_⟩
      · simp only [Rows.uptoBulk, Rows.uptoBulkAll]; omega
      · have := this.2 x hx; simp only [Rows.uptoBulk, Rows.uptoBulkAll]; omega
end
end Ab
set_option maxRecDepth 10000
namespace Ab
open Go Go.Proofs
theorem amap_eraseIdx {κ α : Type} (ak : κ → AV) (av : α → AV) (m : List (κ × α)) (i : Nat) : (amap ak av m).eraseIdx i = amap ak av (m.eraseIdx i) := by
  unfold amap
  induction m generalizing i with
  | nil => simp
  | cons a r ih => cases i <;> simp [ih]
def encKV (p : List UInt8 × Int) : AV × AV := (.str p.1, .int .i64 p.2)
theorem oscC (n v : Nat) (m : List (List UInt8 × Int)) : OScoped n (.map v (amap AV.str (AV.int .i64) m)) = True := eq_true (scC n m v)
def lK (o : Option (List UInt8 × Int)) : Option (AV × AV) := o.map encKV
theorem osc_ic (n m ver : Nat) (ks : List (List UInt8 × Int)) (o : Option (List UInt8 × Int)) (h : m < n) : OScoped n (.iter m ver (amap AV.str (AV.int .i64) ks) (lK o)) = True := by
  refine eq_true ⟨h, fun e he => ?_⟩
  rcases he with he | he
  · simp only [amap, List.mem_map] at he; obtain ⟨p, _, rfl⟩ := he; simp [Scoped]
  · cases o with
    | none => cases he
    | some p => simp only [lK, Option.map_some, Option.some.injEq] at he; subst he; simp [encKV, Scoped]
theorem osc_icn (n m ver : Nat) (ks : List (List UInt8 × Int)) (h : m < n) : OScoped n (.iter m ver (amap AV.str (AV.int .i64) ks) none) = True := osc_ic n m ver ks none h
theorem osc_ics (n m ver : Nat) (ks : List (List UInt8 × Int)) (p : List UInt8 × Int) (h : m < n) : OScoped n (.iter m ver (amap AV.str (AV.int .i64) ks) (some (.str p.1, .int .i64 p.2))) = True := osc_ic n m ver ks (some p) h
theorem lK_n : lK none = none := (rfl)
theorem lK_s (p : List UInt8 × Int) : lK (some p) = some (AV.str p.1, AV.int .i64 p.2) := (rfl)
attribute [push_cast] oscC osc_ic osc_icn osc_ics
def coversP (s t : Term) : Bool := (countM (walkT t [])).all fun p => decide (p.2 ≤ (aget (countM (walkT s [])) p.1).getD 0)
def kboC (l : List Rank) (unit : Int) (s t : Term) (rest : Bool) : Bool :=
  if coversP s t = false then false
  else if weightP l unit s ≠ weightP l unit t ∨ s.var = true then decide (weightP l unit t < weightP l unit s)
  else if t.var = true then true
  else if s.name ≠ t.name ∨ s.args.length ≠ t.args.length then decide ((ofP l t.name).rank < (ofP l s.name).rank)
  else rest
def kboTs (l : List Rank) (unit : Int) : List Term → List Term → Bool
  | .mk n v xs :: r, t :: r' => if .mk n v xs = t then kboTs l unit r r' else kboC l unit (.mk n v xs) t (kboTs l unit xs t.args)
  | _, _ => false
def aboveP (l : List Rank) (unit : Int) (s t : Term) : Bool := kboC l unit s t (kboTs l unit s.args t.args)
theorem kboTs_cons (l : List Rank) (unit : Int) (x y : Term) (r r' : List Term) : kboTs l unit (x :: r) (y :: r') = if x = y then kboTs l unit r r' else aboveP l unit x y := by
  cases x with | mk n v xs => simp only [kboTs, aboveP, Term.args]
theorem kboTs_nil (l : List Rank) (unit : Int) (ys : List Term) : kboTs l unit [] ys = false := by cases ys <;> simp [kboTs]
theorem kboTs_drop (l : List Rank) (unit : Int) : ∀ (xs ys : List Term) (i : Nat), xs.take i = ys.take i → kboTs l unit xs ys = kboTs l unit (xs.drop i) (ys.drop i)
  | xs, ys, 0, _ => rfl
  | [], [], _ + 1, _ => rfl
  | [], _ :: _, _ + 1, h => by simp at h
  | _ :: _, [], _ + 1, h => by simp at h
  | x :: xs, y :: ys, i + 1, h => by
    simp only [List.take_succ_cons, List.cons.injEq] at h
    rw [kboTs_cons, if_pos h.1, List.drop_succ_cons, List.drop_succ_cons]; exact kboTs_drop l unit xs ys i h.2
set_option maxHeartbeats 4000000 in
theorem above_ac (l : List Rank) (unit : Int) (hs : SortedR l) (hr : SmallR l unit) (hlen : l.length < 1099511627776) (s : Term) : ∀ t : Term, s.bulk ≤ 1099511627775 → t.bulk ≤ 1099511627775 → ∀ H,
    ACall Tryz.prog 21 [.sl .none (encL encR l), .int .i64 unit, encT s, encT t] H (fun r H' => r = .bool (aboveP l unit s t) ∧ H' = H) := by
  induction s using Term.ind with | _ n v xs ih
  intro t hb hb2 H
  obtain ⟨m, u, ys⟩ := t
  have hl1 := Term.len_le (n := n) (v := v) (xs := xs)
  have hl2 := Term.len_le (n := m) (v := u) (xs := ys)
  have hea : aboveP l unit (.mk n v xs) (.mk m u ys) = kboC l unit (.mk n v xs) (.mk m u ys) (kboTs l unit xs ys) := rfl
  have hcv : coversP (.mk n v xs) (.mk m u ys) = (countM (walkT (.mk m u ys) [])).all fun p => decide (p.2 ≤ (aget (countM (walkT (.mk n v xs) [])) p.1).getD 0) := rfl
  obtain ⟨S, hS⟩ : ∃ S, S = countM (walkT (.mk n v xs) []) := ⟨_, rfl⟩
  obtain ⟨T, hT⟩ : ∃ T, T = countM (walkT (.mk m u ys) []) := ⟨_, rfl⟩
  obtain ⟨R, hR⟩ : ∃ R, R = aboveP l unit (.mk n v xs) (.mk m u ys) := ⟨_, rfl⟩
  rw [← hR]
  rw [hea] at hR
  unfold kboC at hR
  refine ACall_V (H.length) 105 [.tmp 8] Tryz.func21 rfl rfl rfl ?_
  simp only [push_cast, Nat.reduceAdd, Nat.reduceSub, Nat.reduceMul, Nat.reduceLT, Nat.reduceLeDiff, Nat.reduceEqDiff, Int.reduceToNat, ↓reduceIte, Term.name, Term.var, Term.args]
  refine (counts_ac (.mk n v xs) hb _).mono ?_
  rintro r H' ⟨rfl, ver1, rfl⟩
  simp only [push_cast, Nat.reduceAdd, Nat.reduceSub, Nat.reduceMul, Nat.reduceLT, Nat.reduceLeDiff, Nat.reduceEqDiff, Int.reduceToNat, ↓reduceIte, Term.name, Term.var, Term.args]
  refine (counts_ac (.mk m u ys) hb2 _).mono ?_
  rintro r H' ⟨rfl, ver2, rfl⟩
  simp only [push_cast, Nat.reduceAdd, Nat.reduceSub, Nat.reduceMul, Nat.reduceLT, Nat.reduceLeDiff, Nat.reduceEqDiff, Int.reduceToNat, ↓reduceIte, Term.name, Term.var, Term.args]
  rw [← hS, ← hT]
  refine AOp_range_map (H.length + 5) ver2 (encC T) rfl (by exact (agetN _ _ 5).trans rfl) un83 ?_
  simp only [push_cast, Nat.reduceAdd, Nat.reduceSub, Nat.reduceMul, Nat.reduceLT, Nat.reduceLeDiff, Nat.reduceEqDiff, Int.reduceToNat, ↓reduceIte]
  refine AW_loopW (maskG 109 [0, 0, 4, 0, 1, 9]) (fun (_ : List (List UInt8 × Int) × Option (List UInt8 × Int)) => []) (fun q => H ++ [.cells [.str n, .bool v, .sl .none (encTs xs)], .cells [.str m, .bool u, .sl .none (encTs ys)], .cells [.str n, .bool v, .sl .none (encTs xs)], .map ver1 (encC S), .cells [.str m, .bool u, .sl .none (encTs ys)], .map ver2 (encC T), .iter (H.length + 5) ver2 (encC q.1) (lK q.2)]) (fun q => (∀ p, p ∈ T → p ∈ q.1 ∨ p.2 ≤ (aget S p.1).getD 0) ∧ ∀ p, p ∈ q.1 → p ∈ T) (fun q => q.1.length) (T, none) ⟨fun p hp => .inl hp, fun p hp => hp⟩ (by simp only [push_cast, Nat.reduceAdd, Nat.reduceSub, Nat.reduceMul, Nat.reduceLT, Nat.reduceLeDiff, Nat.reduceEqDiff, Int.reduceToNat, ↓reduceIte, lK_n]) (fun q hq => ?_)
  obtain ⟨left, last⟩ := q
  obtain ⟨hq1, hq2⟩ := hq
  simp only at hq1 hq2
  simp only [push_cast, Nat.reduceAdd, Nat.reduceSub, Nat.reduceMul, Nat.reduceLT, Nat.reduceLeDiff, Nat.reduceEqDiff, Int.reduceToNat, ↓reduceIte]
  refine AOp_next_map (H.length + 6) (H.length + 5) ver2 (encC T) (encC left) (lK last) rfl (by exact (agetN _ _ 6).trans rfl) (by exact (agetN _ _ 5).trans rfl) (fun he => ?_) (fun j hj => ?_)
  · have hl0 : left = [] := by cases left with | nil => rfl | cons a l => simp [amap] at he
    have hcov : coversP (.mk n v xs) (.mk m u ys) = true := by
      rw [hcv, ← hT, ← hS, List.all_eq_true]
      intro p hp
      rcases hq1 p hp with h | h
      · rw [hl0] at h; cases h
      · simpa using h
    rw [if_neg (by rw [hcov]; simp)] at hR
    have hw1 := fun X => sumW_ac l unit hs hr hlen (.mk n v xs) hb X
    have hw2 := fun X => sumW_ac l unit hs hr hlen (.mk m u ys) hb2 X
    simp only [push_cast, Nat.reduceAdd, Nat.reduceSub, Nat.reduceMul, Nat.reduceLT, Nat.reduceLeDiff, Nat.reduceEqDiff, Int.reduceToNat, ↓reduceIte]
    apply AW_drawE [some 30, some 31, some 32, some 33, some 34, some 35, some 36, some 37, some 12, some 13] [([], _)] [none, none, none, none, none, none, none, none, none, none] 0 [(0, [], [0]), (1, [], [1]), (2, [], [6]), (3, [], [30, 0, 0]), (4, [], [0]), (5, [], [1]), (6, [], [7]), (7, [], [34, 0, 0]), (8, [], [33]), (9, [], [37])] [_, _, _, _, _, _, _, _, _, _]
    case' hm => exact dr
    case' hn => rfl
    case' hok => rfl
    case' hlen => rfl
    case' hd => rfl
    case' h0 => rfl
    case' hstep =>
     simp only [DAllG, push_cast, Option.isSome_some, Option.isSome_none]
     repeat' apply And.intro
     all_goals (apply DOne_V; simp only [push_cast, Nat.reduceAdd, Nat.reduceSub, Nat.reduceMul, Nat.reduceLT, Nat.reduceLeDiff, Nat.reduceEqDiff, Int.reduceToNat, ↓reduceIte] <;> first | exact rfl | omega | exact ⟨rfl, rfl⟩ | exact trivial | exact ⟨by omega, rfl⟩ | exact ⟨by omega, by omega, rfl⟩ | exact ⟨by omega, rfl, rfl⟩ | exact ⟨by omega, by omega, rfl, rfl⟩ | exact (hw1 _).to ⟨rfl, rfl⟩ | exact (hw2 _).to ⟨rfl, rfl⟩)
    case' hQ => skip
    simp only [push_cast, Nat.reduceAdd, Nat.reduceSub, Nat.reduceMul, Nat.reduceLT, Nat.reduceLeDiff, Nat.reduceEqDiff, Int.reduceToNat, ↓reduceIte]
    refine cI (fun hw => ?_) (fun hw => ?_)
    · refine cI (fun hv => ?_) (fun hv => ?_)
      · rw [if_pos (.inr hv)] at hR
        exact hR.symm
      · rw [if_neg (by rintro (h | h); exact h hw; exact hv h)] at hR
        refine cI (fun hu => ?_) (fun hu => ?_)
        · rw [if_pos (show (Term.mk m u ys).var = true from hu)] at hR
          exact hR.symm
        · rw [if_neg (show ¬ (Term.mk m u ys).var = true from hu)] at hR
          have ho1 := hr.of n
          have ho2 := hr.of m
          have hof1 := fun X => of_ac l hs n hlen X
          have hof2 := fun X => of_ac l hs m hlen X
          refine cI (fun hn => ?_) (fun hn => ?_)
          · refine cI (fun hll => ?_) (fun hll => ?_)
            · rw [if_neg (by rintro (h | h); exact h hn; exact h (show xs.length = ys.length by omega))] at hR
              have hll' : xs.length = ys.length := by omega
              refine AW_loopW (maskG 109 [0, 0, 4, 0, 71, 0]) (fun (i : Nat) => [(80, .int .i64 i)]) (fun i => H ++ [.cells [.str n, .bool v, .sl .none (encTs xs)], .cells [.str m, .bool u, .sl .none (encTs ys)], .cells [.str n, .bool v, .sl .none (encTs xs)], .map ver1 (encC S), .cells [.str m, .bool u, .sl .none (encTs ys)], .map ver2 (encC T), .iter (H.length + 5) ver2 (encC left) (lK last)]) (fun i => i ≤ xs.length ∧ xs.take i = ys.take i) (fun i => xs.length - i) 0 ⟨Nat.zero_le _, by simp⟩ (by simp only [push_cast, Nat.reduceAdd, Nat.reduceSub, Nat.reduceMul, Nat.reduceLT, Nat.reduceLeDiff, Nat.reduceEqDiff, Int.reduceToNat, ↓reduceIte]) (fun i hi => ?_)
              obtain ⟨hi1, hi2⟩ := hi
              simp only [push_cast, Nat.reduceAdd, Nat.reduceSub, Nat.reduceMul, Nat.reduceLT, Nat.reduceLeDiff, Nat.reduceEqDiff, Int.reduceToNat, ↓reduceIte]
              refine cI (fun h => ?_) (fun h => ?_)
              · have hil : i < xs.length := by omega
                have hiy : i < ys.length := by omega
                have b1 := Term.arg_le (n := n) (v := v) (List.getElem_mem hil)
                have b2 := Term.arg_le (n := m) (v := u) (List.getElem_mem hiy)
                have heq := fun X => equal_ac (xs[i]'hil) (ys[i]'hiy) (by omega) (by omega) X
                have hab := fun X => ih (xs[i]'hil) (List.getElem_mem hil) (ys[i]'hiy) (by omega) (by omega) X
                have hd := kboTs_drop l unit xs ys i hi2
                rw [List.drop_eq_getElem_cons hil, List.drop_eq_getElem_cons hiy, kboTs_cons] at hd
                apply AW_drawE [some 83, some 84, some 85, some 86, some 87, some 88, some 89, some 90, some 91, some 92, some 93, some 94] [([], _)] [none, none, none, none, none, none, none, none, none, none, none, none] 0 [(0, [], [6]), (1, [], [83]), (2, [], [14]), (3, [], [84, 0]), (4, [], [86]), (5, [], [7]), (6, [], [88]), (7, [], [14]), (8, [], [89, 0]), (9, [], [91]), (10, [], [87, 4]), (11, [], [93])] [_, _, _, _, _, _, _, _, _, _, _, _]
                case' hm => exact dr
                case' hn => rfl
                case' hok => rfl
                case' hlen => rfl
                case' hd => rfl
                case' h0 => rfl
                case' hstep =>
                 simp only [DAllG, push_cast, Option.isSome_some, Option.isSome_none]
                 repeat' apply And.intro
                 all_goals (apply DOne_V; simp only [push_cast, Nat.reduceAdd, Nat.reduceSub, Nat.reduceMul, Nat.reduceLT, Nat.reduceLeDiff, Nat.reduceEqDiff, Int.reduceToNat, ↓reduceIte] <;> first | exact rfl | omega | exact ⟨rfl, rfl⟩ | exact trivial | exact ⟨by omega, rfl⟩ | exact ⟨by omega, by omega, rfl⟩ | exact ⟨by omega, rfl, rfl⟩ | exact ⟨by omega, by omega, rfl, rfl⟩ | exact ⟨by omega, by omega, trivial⟩ | (refine (heq _).to ?_; exact ⟨rfl, rfl⟩))
                case' hQ => skip
                simp only [push_cast, Nat.reduceAdd, Nat.reduceSub, Nat.reduceMul, Nat.reduceLT, Nat.reduceLeDiff, Nat.reduceEqDiff, Int.reduceToNat, ↓reduceIte]
                refine cI (fun he => ?_) (fun he => ?_)
                · repeat' first | refine ⟨by omega, ?_⟩ | refine cI (fun _ => ?_) (fun _ => ?_)
                  exact loopW_n (i + 1) ⟨by omega, by rw [List.take_succ_eq_append_getElem hil, List.take_succ_eq_append_getElem hiy, hi2, he]⟩ (by omega) (by simp only [push_cast, Nat.reduceAdd, Nat.reduceSub, Nat.reduceMul, Nat.reduceLT, Nat.reduceLeDiff, Nat.reduceEqDiff, Int.reduceToNat, ↓reduceIte])
                · rw [if_neg he] at hd
                  apply AW_drawE [some 95, some 96, some 97, some 98, some 99, some 100, some 101, some 102, some 103, some 104, some 105, some 106, some 107, some 8] [([], _)] [none, none, none, none, none, none, none, none, none, none, none, none, none, none] 0 [(0, [], [0]), (1, [], [1]), (2, [], [6]), (3, [], [97]), (4, [], [14]), (5, [], [98, 0]), (6, [], [100]), (7, [], [7]), (8, [], [102]), (9, [], [14]), (10, [], [103, 0]), (11, [], [105]), (12, [], [95, 0, 4, 4]), (13, [], [107])] [_, _, _, _, _, _, _, _, _, _, _, _, _, _]
                  case' hm => exact dr
                  case' hn => rfl
                  case' hok => rfl
                  case' hlen => rfl
                  case' hd => rfl
                  case' h0 => rfl
                  case' hstep =>
                   simp only [DAllG, push_cast, Option.isSome_some, Option.isSome_none]
                   repeat' apply And.intro
                   all_goals (apply DOne_V; simp only [push_cast, Nat.reduceAdd, Nat.reduceSub, Nat.reduceMul, Nat.reduceLT, Nat.reduceLeDiff, Nat.reduceEqDiff, Int.reduceToNat, ↓reduceIte] <;> first | exact rfl | omega | exact ⟨rfl, rfl⟩ | exact trivial | exact ⟨by omega, rfl⟩ | exact ⟨by omega, by omega, rfl⟩ | exact ⟨by omega, rfl, rfl⟩ | exact ⟨by omega, by omega, rfl, rfl⟩ | exact ⟨by omega, by omega, trivial⟩ | (refine (hab _).to ?_; exact ⟨rfl, rfl⟩))
                  case' hQ => skip
                  simp only [push_cast, Nat.reduceAdd, Nat.reduceSub, Nat.reduceMul, Nat.reduceLT, Nat.reduceLeDiff, Nat.reduceEqDiff, Int.reduceToNat, ↓reduceIte]
                  rw [hR, hd]
              · have hd := kboTs_drop l unit xs ys i hi2
                rw [List.drop_of_length_le (show xs.length ≤ i by omega), kboTs_nil] at hd
                rw [hR, hd]
            · rw [if_pos (.inr (show xs.length ≠ ys.length by omega))] at hR
              apply AW_drawE [some 66, some 67, some 68, some 69, some 70, some 71, some 72, some 73, some 74, some 75, some 76, some 8] [([], _)] [none, none, none, none, none, none, none, none, none, none, none, none] 0 [(0, [], [0]), (1, [], [6]), (2, [], [67]), (3, [], [66, 1]), (4, [], [69]), (5, [], [0]), (6, [], [7]), (7, [], [72]), (8, [], [71, 1]), (9, [], [74]), (10, [], [70, 4]), (11, [], [76])] [_, _, _, _, _, _, _, _, _, _, _, _]
              case' hm => exact dr
              case' hn => rfl
              case' hok => rfl
              case' hlen => rfl
              case' hd => rfl
              case' h0 => rfl
              case' hstep =>
               simp only [DAllG, push_cast, Option.isSome_some, Option.isSome_none]
               repeat' apply And.intro
               all_goals (apply DOne_V; simp only [push_cast, Nat.reduceAdd, Nat.reduceSub, Nat.reduceMul, Nat.reduceLT, Nat.reduceLeDiff, Nat.reduceEqDiff, Int.reduceToNat, ↓reduceIte] <;> first | exact rfl | omega | exact ⟨rfl, rfl⟩ | exact trivial | exact ⟨by omega, rfl⟩ | exact ⟨by omega, by omega, rfl⟩ | exact ⟨by omega, rfl, rfl⟩ | exact ⟨by omega, by omega, rfl, rfl⟩ | exact (hof1 _).to ⟨rfl, rfl⟩ | exact (hof2 _).to ⟨rfl, rfl⟩)
              case' hQ => skip
              simp only [push_cast, Nat.reduceAdd, Nat.reduceSub, Nat.reduceMul, Nat.reduceLT, Nat.reduceLeDiff, Nat.reduceEqDiff, Int.reduceToNat, ↓reduceIte]
              exact hR.symm
          · rw [if_pos (.inl hn)] at hR
            apply AW_drawE [some 66, some 67, some 68, some 69, some 70, some 71, some 72, some 73, some 74, some 75, some 76, some 8] [([], _)] [none, none, none, none, none, none, none, none, none, none, none, none] 0 [(0, [], [0]), (1, [], [6]), (2, [], [67]), (3, [], [66, 1]), (4, [], [69]), (5, [], [0]), (6, [], [7]), (7, [], [72]), (8, [], [71, 1]), (9, [], [74]), (10, [], [70, 4]), (11, [], [76])] [_, _, _, _, _, _, _, _, _, _, _, _]
            case' hm => exact dr
            case' hn => rfl
            case' hok => rfl
            case' hlen => rfl
            case' hd => rfl
            case' h0 => rfl
            case' hstep =>
             simp only [DAllG, push_cast, Option.isSome_some, Option.isSome_none]
             repeat' apply And.intro
             all_goals (apply DOne_V; simp only [push_cast, Nat.reduceAdd, Nat.reduceSub, Nat.reduceMul, Nat.reduceLT, Nat.reduceLeDiff, Nat.reduceEqDiff, Int.reduceToNat, ↓reduceIte] <;> first | exact rfl | omega | exact ⟨rfl, rfl⟩ | exact trivial | exact ⟨by omega, rfl⟩ | exact ⟨by omega, by omega, rfl⟩ | exact ⟨by omega, rfl, rfl⟩ | exact ⟨by omega, by omega, rfl, rfl⟩ | exact (hof1 _).to ⟨rfl, rfl⟩ | exact (hof2 _).to ⟨rfl, rfl⟩)
            case' hQ => skip
            simp only [push_cast, Nat.reduceAdd, Nat.reduceSub, Nat.reduceMul, Nat.reduceLT, Nat.reduceLeDiff, Nat.reduceEqDiff, Int.reduceToNat, ↓reduceIte]
            exact hR.symm
    · rw [if_pos (.inl hw)] at hR
      exact hR.symm
  · have hjl : j < left.length := by simpa [amap] using hj
    have e1 : (encC left)[j] = (.str left[j].1, .int .i64 left[j].2) := by simp [amap]
    have e2 : (encC left).eraseIdx j = encC (left.eraseIdx j) := amap_eraseIdx _ _ _ _
    rw [e1, e2]
    simp only [push_cast, Nat.reduceAdd, Nat.reduceSub, Nat.reduceMul, Nat.reduceLT, Nat.reduceLeDiff, Nat.reduceEqDiff, Int.reduceToNat, ↓reduceIte]
    refine AOp_entry_map (H.length + 6) (H.length + 5) ver2 (encC T) (encC (left.eraseIdx j)) (.str left[j].1, .int .i64 left[j].2) rfl (by exact (agetN _ _ 6).trans rfl) (by exact (agetN _ _ 5).trans rfl) ?_
    simp only [push_cast, Nat.reduceAdd, Nat.reduceSub, Nat.reduceMul, Nat.reduceLT, Nat.reduceLeDiff, Nat.reduceEqDiff, Int.reduceToNat, ↓reduceIte]
    refine AOp_lookup (strKey un9) (AV.int .i64) S (H.length + 3) ver1 left[j].1 (.int .i64 0) rfl (by exact (agetN _ _ 3).trans rfl) rfl un83 (ZeroV_of (.int .i64 0) (by kernel_rfl)) ?_
    rw [show (Option.map (AV.int IntKind.i64) (aget S left[j].1)).getD (.int .i64 0) = .int .i64 ((aget S left[j].1).getD 0) from by cases aget S left[j].1 <;> rfl]
    simp only [push_cast, Nat.reduceAdd, Nat.reduceSub, Nat.reduceMul, Nat.reduceLT, Nat.reduceLeDiff, Nat.reduceEqDiff, Int.reduceToNat, ↓reduceIte]
    refine cI (fun hc => ?_) (fun hc => ?_)
    · have hcf : coversP (.mk n v xs) (.mk m u ys) = false := by
        rw [hcv, ← hT, ← hS]
        rw [← Bool.not_eq_true, List.all_eq_true]
        intro hall
        have h1 := hall left[j] (hq2 _ (List.getElem_mem hjl))
        simp at h1
        omega
      rw [if_pos hcf] at hR
      exact hR.symm
    · refine loopW_n (left.eraseIdx j, some left[j]) ⟨fun p hp => ?_, fun p hp => hq2 p (List.mem_of_mem_eraseIdx hp)⟩ (by simp only [List.length_eraseIdx]; split <;> omega) (by simp only [push_cast, Nat.reduceAdd, Nat.reduceSub, Nat.reduceMul, Nat.reduceLT, Nat.reduceLeDiff, Nat.reduceEqDiff, Int.reduceToNat, ↓reduceIte, lK_s])
      rcases hq1 p hp with h | h
      · obtain ⟨k, hk, rfl⟩ := List.getElem_of_mem h
        by_cases hkx : k = j
        · subst hkx; right; omega
        · left
          rw [List.mem_eraseIdx_iff_getElem]
          exact ⟨k, hk, hkx, rfl⟩
      · exact .inr h
end Ab
set_option maxRecDepth 10000
namespace Ab
open Go Go.Proofs
theorem checkName_ac (x : Rank) (H : List AObj) : ACall Tryz.prog 39 [encR x] H (fun r H' => r = .str x.name ∧ H' = H) := by
  refine ACall_V (H.length) 4 [.tmp 2] Tryz.func39 rfl rfl rfl ?_
  simp only [push_cast, Nat.reduceAdd, Nat.reduceSub, Nat.reduceMul, Nat.reduceLT, Nat.reduceLeDiff, Nat.reduceEqDiff, Int.reduceToNat, ↓reduceIte]
def badP (n : Int) : Bool := decide (n < 0) || decide (1000 < n)
theorem checkBad_ac (n : Int) (H : List AObj) : ACall Tryz.prog 40 [.int .i64 n] H (fun r H' => r = .bool (badP n) ∧ H' = H) := by
  refine ACall_V (H.length) 8 [.tmp 2] Tryz.func40 rfl rfl rfl ?_
  simp only [push_cast, Nat.reduceAdd, Nat.reduceSub, Nat.reduceMul, Nat.reduceLT, Nat.reduceLeDiff, Nat.reduceEqDiff, Int.reduceToNat, ↓reduceIte]
  refine cI (fun h => ?_) (fun h => ?_)
  · have e : badP n = true := by unfold badP; rw [decide_eq_true h]; rfl
    simp only [push_cast, Nat.reduceAdd, Nat.reduceSub, Nat.reduceMul, Nat.reduceLT, Nat.reduceLeDiff, Nat.reduceEqDiff, Int.reduceToNat, ↓reduceIte, e]
  · have e : badP n = decide (1000 < n) := by unfold badP; rw [decide_eq_false h]; rfl
    simp only [push_cast, Nat.reduceAdd, Nat.reduceSub, Nat.reduceMul, Nat.reduceLT, Nat.reduceLeDiff, Nat.reduceEqDiff, Int.reduceToNat, ↓reduceIte, e]
theorem checkRank_ac (x : Rank) (b : Nat) (H : List AObj) (hb : H[b]? = some (.cells [.fn 40 []])) : ACall Tryz.prog 42 [encR x, .ptr b 0] H (fun r H' => r = .bool (badP x.rank || badP x.weight) ∧ H' = H) := by
  refine ACall_V (H.length) 12 [.tmp 3] Tryz.func42 rfl rfl rfl ?_
  have hb' : (H ++ [.cells [.str x.name, .int .i64 x.rank, .int .i64 x.weight]])[b]? = some (.cells [.fn 40 []]) := by
    rw [List.getElem?_append_left (List.getElem?_eq_some_iff.1 hb).1]; exact hb
  simp only [push_cast, Nat.reduceAdd, Nat.reduceSub, Nat.reduceMul, Nat.reduceLT, Nat.reduceLeDiff, Nat.reduceEqDiff, Int.reduceToNat, ↓reduceIte, hb']
  refine (checkBad_ac x.rank _).to ?_
  simp only [push_cast, Nat.reduceAdd, Nat.reduceSub, Nat.reduceMul, Nat.reduceLT, Nat.reduceLeDiff, Nat.reduceEqDiff, Int.reduceToNat, ↓reduceIte]
  refine cI (fun h => ?_) (fun h => ?_)
  · rw [h]; rfl
  · simp only [push_cast, Nat.reduceAdd, Nat.reduceSub, Nat.reduceMul, Nat.reduceLT, Nat.reduceLeDiff, Nat.reduceEqDiff, Int.reduceToNat, ↓reduceIte, hb']
    refine (checkBad_ac x.weight _).to ?_
    rw [Bool.eq_false_iff.2 h]
    simp only [push_cast, Nat.reduceAdd, Nat.reduceSub, Nat.reduceMul, Nat.reduceLT, Nat.reduceLeDiff, Nat.reduceEqDiff, Int.reduceToNat, ↓reduceIte]
    simp
theorem indexR_ac (l : List Rank) (g : Nat) (caps : List AV) (p : Rank → Bool) (H : List AObj) (hlen : l.length < 1099511627776) (hg : callOk Tryz.prog g = true) (hsc : ScopedL H.length caps)
    (hf : ∀ i (h : i < l.length), ACall Tryz.prog g (encR l[i] :: caps) H (fun r H' => r = .bool (p l[i]) ∧ H' = H)) :
    ACall Tryz.prog 73 [.sl .none (encL encR l), .fn g caps] H (fun r H' => ∃ n : Int, r = .int .i64 n ∧ (0 ≤ n ↔ l.any p = true) ∧ H' = H) := by
  refine ACall_W (H.length) 17 [.tmp 4] Tryz.func73 rfl rfl rfl ?_
  simp only [push_cast, Nat.reduceAdd, Nat.reduceSub, Nat.reduceMul, Nat.reduceLT, Nat.reduceLeDiff, Nat.reduceEqDiff, Int.reduceToNat, ↓reduceIte]
  refine AW_loopW (maskG 19 [0, 0, 5, 0]) (fun (i : Nat) => [(8, .int .i64 i)]) (fun _ => H) (fun i => i ≤ l.length ∧ (l.take i).any p = false) (fun i => l.length - i) 0 ⟨Nat.zero_le _, by simp⟩ (by simp only [push_cast, Nat.reduceAdd, Nat.reduceSub, Nat.reduceMul, Nat.reduceLT, Nat.reduceLeDiff, Nat.reduceEqDiff, Int.reduceToNat, ↓reduceIte, hsc]) (fun i hi => ?_)
  simp only [push_cast, Nat.reduceAdd, Nat.reduceSub, Nat.reduceMul, Nat.reduceLT, Nat.reduceLeDiff, Nat.reduceEqDiff, Int.reduceToNat, ↓reduceIte, hg]
  refine cI (fun h => ⟨by omega, (hf i (by omega)).to ?_⟩) (fun h => ?_)
  · simp only [push_cast, Nat.reduceAdd, Nat.reduceSub, Nat.reduceMul, Nat.reduceLT, Nat.reduceLeDiff, Nat.reduceEqDiff, Int.reduceToNat, ↓reduceIte]
    refine cI (fun hp => ?_) (fun hp => ⟨by omega, loopW_n (i + 1) ⟨by omega, any_take_false hi.2 (by omega) (by simpa using hp)⟩ (by omega) (by simp only [push_cast, Nat.reduceAdd, Nat.reduceSub, Nat.reduceMul, Nat.reduceLT, Nat.reduceLeDiff, Nat.reduceEqDiff, Int.reduceToNat, ↓reduceIte, hsc])⟩)
    exact ⟨i, rfl, ⟨fun _ => any_get (by omega) hp, fun _ => by omega⟩⟩
  · have hs : l.take i = l := List.take_of_length_le (by omega)
    rw [hs] at hi
    exact ⟨-1, rfl, ⟨by omega, fun h => by rw [hi.2] at h; cases h⟩⟩
theorem containsR_ac (l : List Rank) (g : Nat) (caps : List AV) (p : Rank → Bool) (H : List AObj) (hlen : l.length < 1099511627776) (hg : callOk Tryz.prog g = true) (hsc : ScopedL H.length caps)
    (hf : ∀ i (h : i < l.length), ACall Tryz.prog g (encR l[i] :: caps) H (fun r H' => r = .bool (p l[i]) ∧ H' = H)) :
    ACall Tryz.prog 41 [.sl .none (encL encR l), .fn g caps] H (fun r H' => r = .bool (l.any p) ∧ H' = H) := by
  refine ACall_W (H.length) 7 [.tmp 4] Tryz.func41 rfl rfl rfl ?_
  simp only [push_cast, Nat.reduceAdd, Nat.reduceSub, Nat.reduceMul, Nat.reduceLT, Nat.reduceLeDiff, Nat.reduceEqDiff, Int.reduceToNat, ↓reduceIte]
  refine (indexR_ac _ g caps p _ hlen hg hsc hf).mono ?_
  rintro r H ⟨n, rfl, hn, rfl⟩
  simp only [push_cast, Nat.reduceAdd, Nat.reduceSub, Nat.reduceMul, Nat.reduceLT, Nat.reduceLeDiff, Nat.reduceEqDiff, Int.reduceToNat, ↓reduceIte, hn]
  cases l.any p <;> simp
def leB (a b : List UInt8) : Bool := Op.bytesLess a b || decide (a = b)
def goodAt (l : List Rank) (i : Nat) : Bool := isNameP (l.getD i zeroR).name true && (decide (i = 0) || !leB (l.getD i zeroR).name (l.getD (i - 1) zeroR).name)
def namesP (l : List Rank) : Int := if 256 < l.length then 3 else if (List.range l.length).all (goodAt l) then 0 else 4
theorem goodAt_eq (l : List Rank) (i : Nat) (h : i < l.length) : goodAt l i = (isNameP l[i].name true && (decide (i = 0) || !leB l[i].name (l[i - 1]'(by omega)).name)) := by
  unfold goodAt
  rw [show l.getD i zeroR = l[i] from by simp [h], show l.getD (i - 1) zeroR = l[i - 1]'(by omega) from by simp [show i - 1 < l.length by omega]]
set_option maxHeartbeats 1000000 in
theorem pathNames_ac (l : List Rank) (hlen : l.length < 1099511627776) (hnl : ∀ x, x ∈ l → x.name.length < 1099511627776) (H : List AObj) : ACall Tryz.prog 38 [.sl .none (encL encR l), .fn 39 []] H (fun r H' => r = .int .i64 (namesP l) ∧ H' = H) := by
  refine ACall_V (H.length) 38 [.tmp 4] Tryz.func38 rfl rfl rfl ?_
  simp only [push_cast, Nat.reduceAdd, Nat.reduceSub, Nat.reduceMul, Nat.reduceLT, Nat.reduceLeDiff, Nat.reduceEqDiff, Int.reduceToNat, ↓reduceIte]
  unfold namesP
  refine cI (fun h => ?_) (fun h => ?_)
  · rw [if_pos (by omega)]
  · rw [if_neg (by omega)]
    refine AW_loopW (maskG 40 [0, 0, 8, 0, 0]) (fun (i : Nat) => [(12, .int .i64 i)]) (fun _ => H) (fun i => i ≤ l.length ∧ ∀ j, j < i → goodAt l j = true) (fun i => l.length - i) 0 ⟨Nat.zero_le _, fun _ h => absurd h (by omega)⟩ (by simp only [push_cast, Nat.reduceAdd, Nat.reduceSub, Nat.reduceMul, Nat.reduceLT, Nat.reduceLeDiff, Nat.reduceEqDiff, Int.reduceToNat, ↓reduceIte]) (fun i hi => ?_)
    obtain ⟨hi1, hi2⟩ := hi
    simp only [push_cast, Nat.reduceAdd, Nat.reduceSub, Nat.reduceMul, Nat.reduceLT, Nat.reduceLeDiff, Nat.reduceEqDiff, Int.reduceToNat, ↓reduceIte]
    refine cI (fun h1 => ?_) (fun h1 => ?_)
    · have hil : i < l.length := by omega
      refine ⟨hil, ?_⟩
      have hg := goodAt_eq l i hil
      have hbad : goodAt l i = false → (if (List.range l.length).all (goodAt l) then (0 : Int) else 4) = 4 := fun hb => if_neg (by
        rw [List.all_eq_true]
        intro hall
        have := hall i (List.mem_range.2 hil)
        rw [hb] at this; cases this)
      have hnm := hnl _ (List.getElem_mem hil)
      have hcn := fun X => checkName_ac l[i] X
      have his := fun X => isName_ac l[i].name true X hnm
      cases hA : isNameP l[i].name true with
      | false =>
        rw [hA] at hg his
        apply AW_drawE [some 17, some 18, some 19, some 20, some 21, some 22, some 23, some 24, some 25, some 26, some 27, some 28, some 29, some 30, some 31, some 32, some 33, some 34, some 35, some 36, some 37, some 38] [([], _)] [none, none, none, none, none, none, none, none, none, none, none, none, none, none, none, none, none, none, none, none, none, none] 0 [(0, [], [1]), (1, [], [6]), (2, [], [17, 0]), (3, [], [19]), (4, [], [20]), (5, [], [21]), (6, [], [5, 16]), (7, [], [22, 0]), (8, [], [22, 1]), (9, [], [1, 23]), (10, [], [6, 18]), (11, [], [25, 0, 0]), (12, [], [1, 23]), (13, [], [0, 24]), (14, [], [5, 19]), (15, [], [25, 5]), (16, [], [25, 4, 1]), (17, [], [25, 7]), (18, [], [25, 3, 4]), (19, [], [25, 2, 6]), (20, [], [22, 2, 10]), (21, [], [22, 14])] [_, _, _, _, _, _, _, _, _, _, _, _, _, _, _, _, _, _, _, _, _, _]
        case' hm => exact dr
        case' hn => rfl
        case' hok => rfl
        case' hlen => rfl
        case' hd => rfl
        case' h0 => rfl
        case' hstep =>
         simp only [DAllG, push_cast, Option.isSome_some, Option.isSome_none]
         repeat' apply And.intro
         all_goals (apply DOne_V; simp only [push_cast, Nat.reduceAdd, Nat.reduceSub, Nat.reduceMul, Nat.reduceLT, Nat.reduceLeDiff, Nat.reduceEqDiff, Int.reduceToNat, ↓reduceIte] <;> first | exact rfl | omega | exact ⟨rfl, rfl⟩ | exact trivial | exact ⟨by omega, rfl⟩ | exact ⟨by omega, by omega, rfl⟩ | exact ⟨by omega, rfl, rfl⟩ | exact ⟨by omega, by omega, rfl, rfl⟩ | (refine (hcn _).to ?_; exact ⟨rfl, rfl⟩) | (refine (his _).to ?_; exact ⟨rfl, rfl⟩))
        case' hQ => skip
        simp only [push_cast, Nat.reduceAdd, Nat.reduceSub, Nat.reduceMul, Nat.reduceLT, Nat.reduceLeDiff, Nat.reduceEqDiff, Int.reduceToNat, ↓reduceIte]
        rw [hbad hg]
      | true =>
        rw [hA] at hg his
        by_cases h0 : i = 0
        · have hd : decide ((0 : Int) < (i : Int)) = false := by rw [decide_eq_false_iff_not]; omega
          apply AW_drawE [some 17, some 18, some 19, some 20, some 21, some 22, some 23, some 24, some 25, some 26, some 27, some 28, some 29, some 30, some 31, some 32, some 33, some 34, some 35, some 36, some 37, some 38] [([], _)] [none, none, none, none, none, none, none, none, none, none, none, none, none, none, none, none, none, none, none, none, none, none] 0 [(0, [], [1]), (1, [], [6]), (2, [], [17, 0]), (3, [], [19]), (4, [], [20]), (5, [], [21]), (6, [], [5, 16]), (7, [], [22, 0]), (8, [], [22, 1]), (9, [], [1, 23]), (10, [], [6, 18]), (11, [], [25, 0, 0]), (12, [], [1, 23]), (13, [], [0, 24]), (14, [], [5, 19]), (15, [], [25, 5]), (16, [], [25, 4, 1]), (17, [], [25, 7]), (18, [], [25, 3, 4]), (19, [], [25, 2, 6]), (20, [], [22, 2, 10]), (21, [], [22, 14])] [_, _, _, _, _, _, _, _, _, _, _, _, _, _, _, _, _, _, _, _, _, _]
          case' hm => exact dr
          case' hn => rfl
          case' hok => rfl
          case' hlen => rfl
          case' hd => rfl
          case' h0 => rfl
          case' hstep =>
           simp only [DAllG, push_cast, Option.isSome_some, Option.isSome_none]
           repeat' apply And.intro
           all_goals (apply DOne_V; simp only [push_cast, Nat.reduceAdd, Nat.reduceSub, Nat.reduceMul, Nat.reduceLT, Nat.reduceLeDiff, Nat.reduceEqDiff, Int.reduceToNat, ↓reduceIte, hd] <;> first | exact rfl | omega | exact ⟨rfl, rfl⟩ | exact trivial | exact ⟨by omega, rfl⟩ | exact ⟨by omega, by omega, rfl⟩ | exact ⟨by omega, rfl, rfl⟩ | exact ⟨by omega, by omega, rfl, rfl⟩ | (refine (hcn _).to ?_; exact ⟨rfl, rfl⟩) | (refine (his _).to ?_; exact ⟨rfl, rfl⟩))
          case' hQ => skip
          simp only [push_cast, Nat.reduceAdd, Nat.reduceSub, Nat.reduceMul, Nat.reduceLT, Nat.reduceLeDiff, Nat.reduceEqDiff, Int.reduceToNat, ↓reduceIte]
          repeat' first | refine ⟨by omega, ?_⟩ | refine cI (fun _ => ?_) (fun _ => ?_)
          exact loopW_n (i + 1) ⟨by omega, fun j hj => by
            by_cases e : j = i
            · rw [e, hg]; simp [h0]
            · exact hi2 j (by omega)⟩ (by omega) (by simp only [push_cast, Nat.reduceAdd, Nat.reduceSub, Nat.reduceMul, Nat.reduceLT, Nat.reduceLeDiff, Nat.reduceEqDiff, Int.reduceToNat, ↓reduceIte])
        · have hd : decide ((0 : Int) < (i : Int)) = true := by rw [decide_eq_true_eq]; omega
          have hpl : i - 1 < l.length := by omega
          have hcp := fun X => checkName_ac (l[i - 1]'hpl) X
          have hm : (i : Int) - 1 = ((i - 1 : Nat) : Int) := by omega
          have hd0 : decide (i = 0) = false := decide_eq_false h0
          have hg' : goodAt l i = !leB l[i].name (l[i - 1]'hpl).name := by rw [hg, hd0]; simp
          apply AW_drawE [some 17, some 18, some 19, some 20, some 21, some 22, some 23, some 24, some 25, some 26, some 27, some 28, some 29, some 30, some 31, some 32, some 33, some 34, some 35, some 36, some 37, some 38] [([], _)] [none, none, none, none, none, none, none, none, none, none, none, none, none, none, none, none, none, none, none, none, none, none] 0 [(0, [], [1]), (1, [], [6]), (2, [], [17, 0]), (3, [], [19]), (4, [], [20]), (5, [], [21]), (6, [], [5, 16]), (7, [], [22, 0]), (8, [], [22, 1]), (9, [], [1, 23]), (10, [], [6, 18]), (11, [], [25, 0, 0]), (12, [], [1, 23]), (13, [], [0, 24]), (14, [], [5, 19]), (15, [], [25, 5]), (16, [], [25, 4, 1]), (17, [], [25, 7]), (18, [], [25, 3, 4]), (19, [], [25, 2, 6]), (20, [], [22, 2, 10]), (21, [], [22, 14])] [_, _, _, _, _, _, _, _, _, _, _, _, _, _, _, _, _, _, _, _, _, _]
          case' hm => exact dr
          case' hn => rfl
          case' hok => rfl
          case' hlen => rfl
          case' hd => rfl
          case' h0 => rfl
          case' hstep =>
           simp only [DAllG, push_cast, Option.isSome_some, Option.isSome_none]
           repeat' apply And.intro
           all_goals (apply DOne_V; simp only [push_cast, Nat.reduceAdd, Nat.reduceSub, Nat.reduceMul, Nat.reduceLT, Nat.reduceLeDiff, Nat.reduceEqDiff, Int.reduceToNat, ↓reduceIte, hd, hm] <;> first | exact rfl | omega | exact ⟨rfl, rfl⟩ | exact trivial | exact ⟨by omega, rfl⟩ | exact ⟨by omega, by omega, rfl⟩ | exact ⟨by omega, rfl, rfl⟩ | exact ⟨by omega, by omega, rfl, rfl⟩ | (refine (hcn _).to ?_; exact ⟨rfl, rfl⟩) | (refine (his _).to ?_; exact ⟨rfl, rfl⟩) | (refine (hcp _).to ?_; exact ⟨rfl, rfl⟩) | exact ⟨⟨by omega, by omega⟩, trivial⟩ | exact ⟨⟨by omega, by omega⟩, rfl⟩)
          case' hQ => skip
          simp only [push_cast, Nat.reduceAdd, Nat.reduceSub, Nat.reduceMul, Nat.reduceLT, Nat.reduceLeDiff, Nat.reduceEqDiff, Int.reduceToNat, ↓reduceIte]
          refine cI (fun hb => ?_) (fun hb => ?_)
          · rw [hbad (by rw [hg']; unfold leB; rw [hb]; rfl)]
          · repeat' first | refine ⟨by omega, ?_⟩ | refine cI (fun _ => ?_) (fun _ => ?_)
            exact loopW_n (i + 1) ⟨by omega, fun j hj => by
              by_cases e : j = i
              · rw [e, hg']; unfold leB; rw [Bool.eq_false_iff.2 hb]; rfl
              · exact hi2 j (by omega)⟩ (by omega) (by simp only [push_cast, Nat.reduceAdd, Nat.reduceSub, Nat.reduceMul, Nat.reduceLT, Nat.reduceLeDiff, Nat.reduceEqDiff, Int.reduceToNat, ↓reduceIte])
    · rw [if_pos (List.all_eq_true.2 fun j hj => hi2 j (by have := List.mem_range.1 hj; omega))]
def wcheckP (l : List Rank) (unit : Int) : Int := if namesP l ≠ 0 then namesP l else if (l.any fun x => badP x.rank || badP x.weight) || decide (unit < 1) || badP unit then 2 else 0
theorem wcheck_ac (l : List Rank) (unit : Int) (hlen : l.length < 1099511627776) (hnl : ∀ x, x ∈ l → x.name.length < 1099511627776) (H : List AObj) : ACall Tryz.prog 18 [.sl .none (encL encR l), .int .i64 unit] H (fun r H' => r = .int .i64 (wcheckP l unit) ∧ H' = H) := by
  refine ACall_V (H.length) 22 [.tmp 4] Tryz.func18 rfl rfl rfl ?_
  simp only [push_cast, Nat.reduceAdd, Nat.reduceSub, Nat.reduceMul, Nat.reduceLT, Nat.reduceLeDiff, Nat.reduceEqDiff, Int.reduceToNat, ↓reduceIte]
  refine (pathNames_ac l hlen hnl _).to ?_
  simp only [push_cast, Nat.reduceAdd, Nat.reduceSub, Nat.reduceMul, Nat.reduceLT, Nat.reduceLeDiff, Nat.reduceEqDiff, Int.reduceToNat, ↓reduceIte]
  unfold wcheckP
  refine cI (fun h => ?_) (fun h => ?_)
  · rw [if_neg (by simpa using h)]
    refine (containsR_ac l 42 [.ptr H.length 0] (fun x => badP x.rank || badP x.weight) _ hlen ok42 (by simp only [push_cast, Nat.reduceAdd, Nat.reduceSub, Nat.reduceMul, Nat.reduceLT, Nat.reduceLeDiff, Nat.reduceEqDiff, Int.reduceToNat, ↓reduceIte]) (fun i h => checkRank_ac _ _ _ (by exact aget0 _ _ _))).to ?_
    simp only [push_cast, Nat.reduceAdd, Nat.reduceSub, Nat.reduceMul, Nat.reduceLT, Nat.reduceLeDiff, Nat.reduceEqDiff, Int.reduceToNat, ↓reduceIte]
    refine cI (fun h1 => ?_) (fun h1 => ?_)
    · rw [h1]
      rfl
    · rw [Bool.eq_false_iff.2 h1]
      refine cI (fun h2 => ?_) (fun h2 => ?_)
      · rw [decide_eq_true h2]
        rfl
      · rw [decide_eq_false h2]
        refine (checkBad_ac unit _).to ?_
        simp only [push_cast, Nat.reduceAdd, Nat.reduceSub, Nat.reduceMul, Nat.reduceLT, Nat.reduceLeDiff, Nat.reduceEqDiff, Int.reduceToNat, ↓reduceIte]
        refine cI (fun h3 => ?_) (fun h3 => ?_)
        · rw [h3]; rfl
        · rw [Bool.eq_false_iff.2 h3]; rfl
  · rw [if_pos h]
end Ab
set_option maxRecDepth 10000
namespace Ab
open Go Go.Proofs
structure Sym where
  name : List UInt8
  arity : Int
  deriving DecidableEq
@[reducible] def symCells (s : Sym) : List AV := [.str s.name, .int .i64 s.arity]
@[reducible] def encS (s : Sym) : AV := .agg [.str s.name, .int .i64 s.arity]
theorem uniSm (l : List Sym) : Uni (1 + 1) (encL encS l) = True := eq_true (uni_encL (enc := encS) (k := 2) (fun _ => rfl) l)
theorem scopedSm (n : Nat) (l : List Sym) : ScopedL n (encL encS l) = True := eq_true (scoped_encL (fun x => by simp [Scoped, ScopedL]) l)
attribute [push_cast] uniSm scopedSm
theorem sym_inj (a b : Sym) (h : symCells a = symCells b) : a = b := by
  cases a; cases b; simp [symCells] at h; simp [h]
def symEq : EqLaw Tryz.prog 64 (fun s => .agg (symCells s)) := plainEq pl64 symCells (fun s => by simp [KindsOk, PK.ok]) sym_inj
def symKey : KeyLaw Tryz.prog 64 (fun s => .agg (symCells s)) := plainKey pl64 symCells (fun s => by simp [KindsOk, PK.ok]) sym_inj
theorem fits1_ac (l : List Rank) (hs : SortedR l) (hlen : l.length < 1099511627776) (f g : Sym) (x : Rank) (bf bl bx : Nat) (H : List AObj) (h1 : H[bf]? = some (.cells [.str f.name, .int .i64 f.arity])) (h2 : H[bl]? = some (.cells [.sl .none (encL encR l)])) (h3 : H[bx]? = some (.cells [.str x.name, .int .i64 x.rank, .int .i64 x.weight])) :
    ACall Tryz.prog 50 [encS g, .ptr bf 0, .ptr bl 0, .ptr bx 0] H (fun r H' => r = .bool (decide (g ≠ f) && decide (x.rank ≤ (ofP l g.name).rank)) ∧ H' = H) := by
  refine ACall_V (H.length) 15 [.tmp 5] Tryz.func50 rfl rfl rfl ?_
  have ex : ∀ {b : Nat} {o : AObj} {X : List AObj}, H[b]? = some o → (H ++ X)[b]? = some o := fun h => by
    rw [List.getElem?_append_left (List.getElem?_eq_some_iff.1 h).1]; exact h
  have g1 := ex (X := [.cells [.str g.name, .int .i64 g.arity]]) h1
  have g2 := ex (X := [.cells [.str g.name, .int .i64 g.arity]]) h2
  have g3 := ex (X := [.cells [.str g.name, .int .i64 g.arity]]) h3
  have hof := fun X => of_ac l hs g.name hlen X
  simp only [push_cast, Nat.reduceAdd, Nat.reduceSub, Nat.reduceMul, Nat.reduceLT, Nat.reduceLeDiff, Nat.reduceEqDiff, Int.reduceToNat, ↓reduceIte]
  by_cases hgf : g = f
  · have hd : decide (g = f) = true := decide_eq_true hgf
    have hd2 : decide (g ≠ f) = false := by rw [decide_eq_false_iff_not]; exact not_not_intro hgf
    apply AW_drawE [some 6, some 7, some 8, some 9, some 10, some 11, some 12, some 13, some 14, some 15, some 16, some 17, some 18, some 5] [([], _)] [none, none, none, none, none, none, none, none, none, none, none, none, none, none] 0 [(0, [], [4]), (1, [], [1]), (2, [], [6, 0]), (3, [], [8]), (4, [], [2, 6]), (5, [], [4, 4]), (6, [], [9, 1]), (7, [], [9, 0, 1]), (8, [], [9, 3]), (9, [], [3, 5]), (10, [], [9, 5]), (11, [], [9, 4, 1]), (12, [], [9, 7]), (13, [], [18])] [_, _, _, _, _, _, _, _, _, _, _, _, _, _]
    case' hm => exact dr
    case' hn => rfl
    case' hok => rfl
    case' hlen => rfl
    case' hd => rfl
    case' h0 => rfl
    case' hstep =>
     simp only [DAllG, push_cast, Option.isSome_some, Option.isSome_none]
     repeat' apply And.intro
     all_goals (apply DOne_V; simp only [push_cast, Nat.reduceAdd, Nat.reduceSub, Nat.reduceMul, Nat.reduceLT, Nat.reduceLeDiff, Nat.reduceEqDiff, Int.reduceToNat, ↓reduceIte, g1, g2, g3] <;> first | exact rfl | omega | exact ⟨rfl, rfl⟩ | exact trivial | exact ⟨by omega, rfl⟩ | exact ⟨by omega, by omega, rfl⟩ | exact ⟨by omega, rfl, rfl⟩ | exact ⟨by omega, by omega, rfl, rfl⟩ | (refine AOp_neq_law symEq g f rfl rfl ?_; simp only [push_cast, Nat.reduceAdd, Nat.reduceSub, Nat.reduceMul, Nat.reduceLT, Nat.reduceLeDiff, Nat.reduceEqDiff, Int.reduceToNat, ↓reduceIte, hd] <;> first | exact ⟨rfl, rfl⟩ | exact rfl))
    case' hQ => skip
    simp only [push_cast, Nat.reduceAdd, Nat.reduceSub, Nat.reduceMul, Nat.reduceLT, Nat.reduceLeDiff, Nat.reduceEqDiff, Int.reduceToNat, ↓reduceIte, hd2]
    rfl
  · have hd : decide (g = f) = false := decide_eq_false hgf
    have hd2 : decide (g ≠ f) = true := decide_eq_true hgf
    apply AW_drawE [some 6, some 7, some 8, some 9, some 10, some 11, some 12, some 13, some 14, some 15, some 16, some 17, some 18, some 5] [([], _)] [none, none, none, none, none, none, none, none, none, none, none, none, none, none] 0 [(0, [], [4]), (1, [], [1]), (2, [], [6, 0]), (3, [], [8]), (4, [], [2, 6]), (5, [], [4, 4]), (6, [], [9, 1]), (7, [], [9, 0, 1]), (8, [], [9, 3]), (9, [], [3, 5]), (10, [], [9, 5]), (11, [], [9, 4, 1]), (12, [], [9, 7]), (13, [], [18])] [_, _, _, _, _, _, _, _, _, _, _, _, _, _]
    case' hm => exact dr
    case' hn => rfl
    case' hok => rfl
    case' hlen => rfl
    case' hd => rfl
    case' h0 => rfl
    case' hstep =>
     simp only [DAllG, push_cast, Option.isSome_some, Option.isSome_none]
     repeat' apply And.intro
     all_goals (apply DOne_V; simp only [push_cast, Nat.reduceAdd, Nat.reduceSub, Nat.reduceMul, Nat.reduceLT, Nat.reduceLeDiff, Nat.reduceEqDiff, Int.reduceToNat, ↓reduceIte, g1, g2, g3] <;> first | exact rfl | omega | exact ⟨rfl, rfl⟩ | exact trivial | exact ⟨by omega, rfl⟩ | exact ⟨by omega, by omega, rfl⟩ | exact ⟨by omega, rfl, rfl⟩ | exact ⟨by omega, by omega, rfl, rfl⟩ | (refine AOp_neq_law symEq g f rfl rfl ?_; simp only [push_cast, Nat.reduceAdd, Nat.reduceSub, Nat.reduceMul, Nat.reduceLT, Nat.reduceLeDiff, Nat.reduceEqDiff, Int.reduceToNat, ↓reduceIte, hd] <;> first | exact ⟨rfl, rfl⟩ | exact rfl) | (refine (hof _).to ?_; exact ⟨rfl, rfl⟩))
    case' hQ => skip
    simp only [push_cast, Nat.reduceAdd, Nat.reduceSub, Nat.reduceMul, Nat.reduceLT, Nat.reduceLeDiff, Nat.reduceEqDiff, Int.reduceToNat, ↓reduceIte, hd2]
    rw [Bool.true_and]
theorem indexSm_ac (ss : List Sym) (g : Nat) (caps : List AV) (p : Sym → Bool) (H : List AObj) (hlen : ss.length < 1099511627776) (hg : callOk Tryz.prog g = true) (hsc : ScopedL H.length caps)
    (hf : ∀ i (h : i < ss.length), ACall Tryz.prog g (encS ss[i] :: caps) H (fun r H' => r = .bool (p ss[i]) ∧ H' = H)) :
    ACall Tryz.prog 84 [.sl .none (encL encS ss), .fn g caps] H (fun r H' => ∃ n : Int, r = .int .i64 n ∧ (0 ≤ n ↔ ss.any p = true) ∧ H' = H) := by
  refine ACall_W (H.length) 17 [.tmp 4] Tryz.func84 rfl rfl rfl ?_
  simp only [push_cast, Nat.reduceAdd, Nat.reduceSub, Nat.reduceMul, Nat.reduceLT, Nat.reduceLeDiff, Nat.reduceEqDiff, Int.reduceToNat, ↓reduceIte]
  refine AW_loopW (maskG 19 [0, 0, 5, 0]) (fun (i : Nat) => [(8, .int .i64 i)]) (fun _ => H) (fun i => i ≤ ss.length ∧ (ss.take i).any p = false) (fun i => ss.length - i) 0 ⟨Nat.zero_le _, by simp⟩ (by simp only [push_cast, Nat.reduceAdd, Nat.reduceSub, Nat.reduceMul, Nat.reduceLT, Nat.reduceLeDiff, Nat.reduceEqDiff, Int.reduceToNat, ↓reduceIte, hsc]) (fun i hi => ?_)
  simp only [push_cast, Nat.reduceAdd, Nat.reduceSub, Nat.reduceMul, Nat.reduceLT, Nat.reduceLeDiff, Nat.reduceEqDiff, Int.reduceToNat, ↓reduceIte, hg]
  refine cI (fun h => ⟨by omega, (hf i (by omega)).to ?_⟩) (fun h => ?_)
  · simp only [push_cast, Nat.reduceAdd, Nat.reduceSub, Nat.reduceMul, Nat.reduceLT, Nat.reduceLeDiff, Nat.reduceEqDiff, Int.reduceToNat, ↓reduceIte]
    refine cI (fun hp => ?_) (fun hp => ⟨by omega, loopW_n (i + 1) ⟨by omega, any_take_false hi.2 (by omega) (by simpa using hp)⟩ (by omega) (by simp only [push_cast, Nat.reduceAdd, Nat.reduceSub, Nat.reduceMul, Nat.reduceLT, Nat.reduceLeDiff, Nat.reduceEqDiff, Int.reduceToNat, ↓reduceIte, hsc])⟩)
    exact ⟨i, rfl, ⟨fun _ => any_get (by omega) hp, fun _ => by omega⟩⟩
  · have hs : ss.take i = ss := List.take_of_length_le (by omega)
    rw [hs] at hi
    exact ⟨-1, rfl, ⟨by omega, fun h => by rw [hi.2] at h; cases h⟩⟩
theorem containsSm_ac (ss : List Sym) (g : Nat) (caps : List AV) (p : Sym → Bool) (H : List AObj) (hlen : ss.length < 1099511627776) (hg : callOk Tryz.prog g = true) (hsc : ScopedL H.length caps)
    (hf : ∀ i (h : i < ss.length), ACall Tryz.prog g (encS ss[i] :: caps) H (fun r H' => r = .bool (p ss[i]) ∧ H' = H)) :
    ACall Tryz.prog 49 [.sl .none (encL encS ss), .fn g caps] H (fun r H' => r = .bool (ss.any p) ∧ H' = H) := by
  refine ACall_W (H.length) 7 [.tmp 4] Tryz.func49 rfl rfl rfl ?_
  simp only [push_cast, Nat.reduceAdd, Nat.reduceSub, Nat.reduceMul, Nat.reduceLT, Nat.reduceLeDiff, Nat.reduceEqDiff, Int.reduceToNat, ↓reduceIte]
  refine (indexSm_ac _ g caps p _ hlen hg hsc hf).mono ?_
  rintro r H ⟨n, rfl, hn, rfl⟩
  simp only [push_cast, Nat.reduceAdd, Nat.reduceSub, Nat.reduceMul, Nat.reduceLT, Nat.reduceLeDiff, Nat.reduceEqDiff, Int.reduceToNat, ↓reduceIte, hn]
  cases ss.any p <;> simp
def fitsAt (l : List Rank) (unit : Int) (ss : List Sym) (f : Sym) : Bool :=
  !(decide (f.arity = 0) && decide ((ofP l f.name).weight < unit)) &&
  (!decide (f.arity = 1) || decide (0 < (ofP l f.name).weight) || !ss.any fun g => decide (g ≠ f) && decide ((ofP l f.name).rank ≤ (ofP l g.name).rank))
def fitsW (l : List Rank) (unit : Int) (ss : List Sym) : Bool := ss.all (fitsAt l unit ss)
set_option maxHeartbeats 1600000 in
theorem fitsW_ac (l : List Rank) (hs : SortedR l) (hlen : l.length < 1099511627776) (unit : Int) (ss : List Sym) (hlen2 : ss.length < 1099511627776) (H : List AObj) :
    ACall Tryz.prog 20 [.sl .none (encL encR l), .int .i64 unit, .sl .none (encL encS ss)] H (fun r H' => r = .bool (fitsW l unit ss) ∧ H' = H) := by
  refine ACall_V (H.length) 38 [.tmp 6] Tryz.func20 rfl rfl rfl ?_
  simp only [push_cast, Nat.reduceAdd, Nat.reduceSub, Nat.reduceMul, Nat.reduceLT, Nat.reduceLeDiff, Nat.reduceEqDiff, Int.reduceToNat, ↓reduceIte]
  refine AW_loopW (maskG 41 [1, 0, 0, 6, 0, 0]) (fun (i : Nat) => [(12, .int .i64 i)]) (fun _ => H ++ [.cells [.sl .none (encL encR l)]]) (fun i => i ≤ ss.length ∧ (ss.take i).all (fitsAt l unit ss) = true) (fun i => ss.length - i) 0 ⟨Nat.zero_le _, by simp⟩ (by simp only [push_cast, Nat.reduceAdd, Nat.reduceSub, Nat.reduceMul, Nat.reduceLT, Nat.reduceLeDiff, Nat.reduceEqDiff, Int.reduceToNat, ↓reduceIte]) (fun i hi => ?_)
  obtain ⟨hi1, hi2⟩ := hi
  simp only [push_cast, Nat.reduceAdd, Nat.reduceSub, Nat.reduceMul, Nat.reduceLT, Nat.reduceLeDiff, Nat.reduceEqDiff, Int.reduceToNat, ↓reduceIte]
  refine cI (fun h => ?_) (fun h => ?_)
  · have hil : i < ss.length := by omega
    refine ⟨hil, ?_⟩
    refine (of_ac l hs (ss[i]'hil).name hlen _).to ?_
    obtain ⟨x, hx⟩ : ∃ x, x = ofP l (ss[i]'hil).name := ⟨_, rfl⟩
    have hbad : fitsAt l unit ss (ss[i]'hil) = false → fitsW l unit ss = false := fun hf => by
      unfold fitsW
      rw [← Bool.not_eq_true, List.all_eq_true]
      intro hall
      have := hall _ (List.getElem_mem hil)
      rw [hf] at this; cases this
    have hnext : fitsAt l unit ss (ss[i]'hil) = true → i + 1 ≤ ss.length ∧ (ss.take (i + 1)).all (fitsAt l unit ss) = true := fun hf => ⟨by omega, by rw [List.take_succ_eq_append_getElem hil, List.all_append, hi2]; simp [hf]⟩
    unfold fitsAt at hbad hnext
    rw [← hx] at hbad hnext ⊢
    simp only [push_cast, Nat.reduceAdd, Nat.reduceSub, Nat.reduceMul, Nat.reduceLT, Nat.reduceLeDiff, Nat.reduceEqDiff, Int.reduceToNat, ↓reduceIte]
    refine cI (fun ha => ?_) (fun ha => ?_)
    · refine cI (fun hw => ?_) (fun hw => ?_)
      · rw [hbad (by rw [decide_eq_true ha, decide_eq_true hw]; rfl)]
      · refine cI (fun h1 => absurd h1 (by omega)) (fun h1 => ?_)
        repeat' first | refine ⟨by omega, ?_⟩ | refine cI (fun _ => ?_) (fun _ => ?_)
        exact loopW_n (i + 1) (hnext (by rw [decide_eq_false hw, decide_eq_false h1]; simp)) (by omega) (by simp only [push_cast, Nat.reduceAdd, Nat.reduceSub, Nat.reduceMul, Nat.reduceLT, Nat.reduceLeDiff, Nat.reduceEqDiff, Int.reduceToNat, ↓reduceIte])
    · refine cI (fun h1 => ?_) (fun h1 => ?_)
      · refine cI (fun hw => ?_) (fun hw => ?_)
        · repeat' first | refine ⟨by omega, ?_⟩ | refine cI (fun _ => ?_) (fun _ => ?_)
          exact loopW_n (i + 1) (hnext (by rw [decide_eq_false ha, decide_eq_true hw]; simp)) (by omega) (by simp only [push_cast, Nat.reduceAdd, Nat.reduceSub, Nat.reduceMul, Nat.reduceLT, Nat.reduceLeDiff, Nat.reduceEqDiff, Int.reduceToNat, ↓reduceIte])
        · refine (containsSm_ac ss 50 [.ptr (H.length + 1) 0, .ptr H.length 0, .ptr (H.length + 2) 0] (fun g => decide (g ≠ ss[i]'hil) && decide (x.rank ≤ (ofP l g.name).rank)) _ hlen2 ok50 (by simp only [push_cast, Nat.reduceAdd, Nat.reduceSub, Nat.reduceMul, Nat.reduceLT, Nat.reduceLeDiff, Nat.reduceEqDiff, Int.reduceToNat, ↓reduceIte]) (fun k h => fits1_ac l hs hlen (ss[i]'hil) _ x _ _ _ _ (by exact (agetN _ _ 1).trans rfl) (by exact aget0 _ _ _) (by exact (agetN _ _ 2).trans rfl))).to ?_
          simp only [push_cast, Nat.reduceAdd, Nat.reduceSub, Nat.reduceMul, Nat.reduceLT, Nat.reduceLeDiff, Nat.reduceEqDiff, Int.reduceToNat, ↓reduceIte]
          refine cI (fun hc => ?_) (fun hc => ?_)
          · rw [hbad (by rw [decide_eq_false ha, decide_eq_true h1, decide_eq_false hw, hc]; rfl)]
          · repeat' first | refine ⟨by omega, ?_⟩ | refine cI (fun _ => ?_) (fun _ => ?_)
            exact loopW_n (i + 1) (hnext (by rw [decide_eq_false ha, Bool.eq_false_iff.2 hc]; simp)) (by omega) (by simp only [push_cast, Nat.reduceAdd, Nat.reduceSub, Nat.reduceMul, Nat.reduceLT, Nat.reduceLeDiff, Nat.reduceEqDiff, Int.reduceToNat, ↓reduceIte])
      · repeat' first | refine ⟨by omega, ?_⟩ | refine cI (fun _ => ?_) (fun _ => ?_)
        exact loopW_n (i + 1) (hnext (by rw [decide_eq_false ha, decide_eq_false h1]; simp)) (by omega) (by simp only [push_cast, Nat.reduceAdd, Nat.reduceSub, Nat.reduceMul, Nat.reduceLT, Nat.reduceLeDiff, Nat.reduceEqDiff, Int.reduceToNat, ↓reduceIte])
  · have hall : ss.take i = ss := List.take_of_length_le (by omega)
    rw [hall] at hi2
    unfold fitsW
    rw [hi2]
end Ab
set_option maxRecDepth 10000
namespace Ab
open Go Go.Proofs
theorem oneP_bound (v n : List UInt8) (u : Bool) : 0 ≤ oneP v n u ∧ oneP v n u ≤ 1 := by unfold oneP; split <;> omega
def occOf (v : List UInt8) (x : List Int × Term) : Int := oneP v x.2.name x.2.var
theorem walkL_occ : ∀ (v : List UInt8) (xs : List Term) (i : Int) (p : List Int), ((walkL xs i p).map (occOf v)).sum = (xs.map (countP v)).sum
  | v, [], _, _ => by simp [walkL]
  | v, .mk n u ys :: r, i, p => by
    have h1 := walkL_occ v ys 0 (p ++ [i])
    have h2 := walkL_occ v r (i + 1) p
    simp only [walkL, List.map_cons, List.map_append, List.sum_cons, List.sum_append, h1, h2, countP_mk]
    simp only [occOf, Term.var_mk, Term.name_mk]; omega
theorem walkT_occ (v : List UInt8) (t : Term) (p : List Int) : ((walkT t p).map (occOf v)).sum = countP v t := by
  cases t with
  | mk n u xs => simp [walkT, walkL_occ, Term.args_mk, countP_mk, occOf, Term.var_mk, Term.name_mk]
theorem aset_keys {κ α : Type} [DecidableEq κ] : ∀ (m : List (κ × α)) (k : κ) (v : α), (aset m k v).map (·.1) = if k ∈ m.map (·.1) then m.map (·.1) else m.map (·.1) ++ [k]
  | [], k, v => by simp [aset]
  | p :: m, k, v => by
    have ih := aset_keys m k v
    by_cases h : p.1 = k
    · simp [aset, h]
    · have h' : ¬ k = p.1 := fun e => h e.symm
      simp only [aset, h, if_false, List.map_cons, List.mem_cons, h', false_or, ih]
      split <;> simp
theorem aset_nodup {κ α : Type} [DecidableEq κ] {m : List (κ × α)} (h : (m.map (·.1)).Nodup) (k : κ) (v : α) : ((aset m k v).map (·.1)).Nodup := by
  rw [aset_keys]
  split
  · exact h
  · rename_i hk
    rw [List.nodup_append]
    exact ⟨h, by simp, fun a ha b hb => by simp at hb; subst hb; exact fun e => hk (e ▸ ha)⟩
theorem aget_of_mem {κ α : Type} [DecidableEq κ] : ∀ {m : List (κ × α)}, (m.map (·.1)).Nodup → ∀ p, p ∈ m → aget m p.1 = some p.2
  | q :: m, h, p, hp => by
    rw [List.map_cons, List.nodup_cons] at h
    unfold aget
    rcases List.mem_cons.1 hp with rfl | hp
    · simp
    · have : ¬ q.1 = p.1 := fun e => h.1 (e ▸ List.mem_map_of_mem hp)
      rw [if_neg this]; exact aget_of_mem h.2 p hp
theorem countM_nodup (l : List (List Int × Term)) : ((countM l).map (·.1)).Nodup := by
  obtain ⟨r, rfl⟩ : ∃ r, l = r.reverse := ⟨l.reverse, by simp⟩
  induction r with
  | nil => simp [countM]
  | cons x r ih =>
    rw [List.reverse_cons, countM_snoc]
    unfold countStep
    split
    · exact aset_nodup ih _ _
    · exact ih
theorem countM_get (v : List UInt8) (l : List (List Int × Term)) : (aget (countM l) v).getD 0 = (l.map (occOf v)).sum := by
  obtain ⟨r, rfl⟩ : ∃ r, l = r.reverse := ⟨l.reverse, by simp⟩
  induction r with
  | nil => simp [countM, aget]
  | cons x r ih =>
    rw [List.reverse_cons, countM_snoc, List.map_append, List.sum_append, ← ih]
    unfold countStep
    cases hv : x.2.var with
    | false => simp [occOf, oneP, hv]
    | true =>
      simp only [if_true, List.map_cons, List.map_nil, List.sum_cons, List.sum_nil, occOf, oneP, hv, true_and]
      rw [aget_aset]
      by_cases hn : x.2.name = v
      · simp [hn]
      · simp [hn]
theorem coversP_iff (s t : Term) : coversP s t = true ↔ ∀ v, countP v t ≤ countP v s := by
  have hg : ∀ (v : List UInt8) (t : Term), (aget (countM (walkT t [])) v).getD 0 = countP v t := fun v t => by rw [countM_get, walkT_occ]
  unfold coversP
  rw [List.all_eq_true]
  constructor
  · intro h v
    cases ha : aget (countM (walkT t [])) v with
    | none =>
      have := hg v t
      rw [ha] at this; simp at this
      have := countP_bound v s
      omega
    | some n =>
      have h1 := h _ (aget_mem ha)
      have := hg v t
      rw [ha] at this; simp at this
      rw [hg] at h1; simp at h1; omega
  · intro h p hp
    have h1 := aget_of_mem (countM_nodup _) p hp
    have h2 := hg p.1 t
    rw [h1] at h2; simp at h2
    rw [hg, h2]; simpa using h p.1
def symOf (t : Term) : Sym := ⟨t.name, t.args.length⟩
theorem symOf_mk (n : List UInt8) (v : Bool) (xs : List Term) : symOf (.mk n v xs) = ⟨n, xs.length⟩ := rfl
def ofT : Term → List Sym
  | .mk n u xs => (xs.map ofT).flatten ++ if u then [] else [⟨n, xs.length⟩]
theorem ofT_mk (n : List UInt8) (u : Bool) (xs : List Term) : ofT (.mk n u xs) = xs.flatMap ofT ++ if u then [] else [⟨n, xs.length⟩] := by simp [ofT, List.flatMap]
theorem sum_le_sum {α : Type} {f g : α → Nat} : ∀ {xs : List α}, (∀ x, x ∈ xs → f x ≤ g x) → (xs.map f).sum ≤ (xs.map g).sum
  | [], _ => by simp
  | y :: ys, h => by
    have h1 := h y (by simp)
    have h2 := sum_le_sum (xs := ys) (fun z hz => h z (by simp [hz]))
    simp only [List.map_cons, List.sum_cons]; omega
theorem ofT_length (t : Term) : (ofT t).length ≤ t.size := by
  refine Term.ind (p := fun t => (ofT t).length ≤ t.size) (fun n u xs ih => ?_) t
  rw [ofT_mk, Term.size_mk, List.length_append, List.length_flatMap]
  have := sum_le_sum (f := fun t => (ofT t).length) (g := Term.size) ih
  split <;> simp only [List.length_nil, List.length_cons] <;> omega
theorem mem_walkL (f : Sym) : ∀ (xs : List Term) (i : Int) (p : List Int), (∃ x, x ∈ walkL xs i p ∧ x.2.var = false ∧ symOf x.2 = f) ↔ f ∈ xs.flatMap ofT
  | [], _, _ => by simp [walkL]
  | .mk n v ys :: r, i, p => by
    have h1 := mem_walkL f ys 0 (p ++ [i])
    have h2 := mem_walkL f r (i + 1) p
    simp only [walkL, List.mem_cons, List.mem_append, or_and_right, exists_or, exists_eq_left, h1, h2, List.flatMap_cons, ofT_mk, Term.var_mk, symOf_mk]
    cases v
    · simp only [true_and, Bool.false_eq_true, if_false, List.mem_singleton, eq_comm (a := f)]
      constructor
      · rintro (h | h | h)
        · exact .inl (.inr h)
        · exact .inl (.inl h)
        · exact .inr h
      · rintro ((h | h) | h)
        · exact .inr (.inl h)
        · exact .inl h
        · exact .inr (.inr h)
    · simp only [Bool.true_eq_false, false_and, false_or, if_true, List.not_mem_nil, or_false]
theorem mem_ofT (f : Sym) (t : Term) (p : List Int) : (∃ x, x ∈ walkT t p ∧ x.2.var = false ∧ symOf x.2 = f) ↔ f ∈ ofT t := by
  cases t with
  | mk n v ys =>
    have h := mem_walkL f [.mk n v ys] 0 p
    simp only [walkT, Term.args_mk, List.mem_cons, or_and_right, exists_or, exists_eq_left]
    have h1 := mem_walkL f ys 0 p
    rw [h1, ofT_mk, List.mem_append]
    simp only [Term.var_mk, symOf_mk]
    cases v
    · simp only [true_and, Bool.false_eq_true, if_false, List.mem_singleton, eq_comm (a := f)]
      exact or_comm
    · simp
def symStep (out : List Sym) (x : List Int × Term) : List Sym := if x.2.var = false ∧ symOf x.2 ∉ out then out ++ [symOf x.2] else out
def symsT (out : List Sym) (t : Term) : List Sym := (walkT t []).foldl symStep out
def symsP (ts : List Term) : List Sym := ts.foldl symsT []
theorem mem_symFold (f : Sym) : ∀ (l : List (List Int × Term)) (out : List Sym), f ∈ l.foldl symStep out ↔ f ∈ out ∨ ∃ x, x ∈ l ∧ x.2.var = false ∧ symOf x.2 = f
  | [], out => by simp
  | x :: l, out => by
    rw [List.foldl_cons, mem_symFold f l]
    have h : f ∈ symStep out x ↔ f ∈ out ∨ (x.2.var = false ∧ symOf x.2 = f) := by
      unfold symStep
      split
      · rename_i h; rw [List.mem_append, List.mem_singleton]; simp only [h.1, true_and, eq_comm (a := f)]
      · rename_i h
        constructor
        · exact .inl
        · rintro (h1 | ⟨h1, h2⟩)
          · exact h1
          · by_cases h3 : symOf x.2 ∈ out
            · exact h2 ▸ h3
            · exact absurd ⟨h1, h3⟩ h
    rw [h]
    simp only [List.mem_cons, or_and_right, exists_or, exists_eq_left, or_assoc]
theorem mem_symsFold (f : Sym) : ∀ (ts : List Term) (out : List Sym), f ∈ ts.foldl symsT out ↔ f ∈ out ∨ f ∈ ts.flatMap ofT
  | [], out => by simp
  | t :: ts, out => by
    rw [List.foldl_cons, mem_symsFold f ts, List.flatMap_cons, List.mem_append, ← or_assoc]
    unfold symsT
    rw [mem_symFold, mem_ofT]
theorem mem_symsP (f : Sym) (ts : List Term) : f ∈ symsP ts ↔ f ∈ ts.flatMap ofT := by simp [symsP, mem_symsFold]
def fitsRy (l : List Rank) (x y : Sym) : Bool := !(decide (x.arity = 1) && decide ((ofP l x.name).weight = 0) && decide (x ≠ y) && !decide ((ofP l y.name).rank < (ofP l x.name).rank))
def fitsRx (l : List Rank) (unit : Int) (ss : List Sym) (x : Sym) : Bool := !(decide (x.arity = 0) && decide ((ofP l x.name).weight < unit)) && ss.all (fitsRy l x)
def fitsR (l : List Rank) (unit : Int) (ss : List Sym) : Bool := ss.all (fitsRx l unit ss)
theorem fitsR_eq (l : List Rank) (unit : Int) (hr : SmallR l unit) (s1 s2 : List Sym) (h : ∀ f, f ∈ s1 ↔ f ∈ s2) : fitsR l unit s1 = fitsW l unit s2 := by
  have hall : ∀ p : Sym → Bool, s1.all p = s2.all p := fun p => by
    rw [Bool.eq_iff_iff, List.all_eq_true, List.all_eq_true]; simp only [h]
  unfold fitsR fitsW
  rw [hall]
  congr 1
  funext x
  unfold fitsRx
  rw [hall]
  unfold fitsAt
  congr 1
  have hw := hr.of x.name
  rw [Bool.eq_iff_iff, List.all_eq_true]
  unfold fitsRy
  by_cases ha : x.arity = 1
  · by_cases hw0 : 0 < (ofP l x.name).weight
    · have : ¬ (ofP l x.name).weight = 0 := by omega
      simp [ha, hw0, this]
    · have : (ofP l x.name).weight = 0 := by omega
      simp only [ha, this, decide_true, Bool.true_and, Bool.not_true, Bool.false_or, Int.lt_irrefl, decide_false, Bool.not_eq_true', List.any_eq_false]
      constructor
      · intro h1 y hy h2
        have := h1 y hy
        simp only [Bool.and_eq_true, decide_eq_true_eq, ne_eq] at h2
        have hne : ¬ x = y := fun e => h2.1 e.symm
        simp [hne] at this; omega
      · intro h1 y hy
        have := h1 y hy
        by_cases hne : x = y
        · simp [hne]
        · have hne' : ¬ y = x := fun e => hne e.symm
          simp [hne, hne'] at this ⊢; omega
  · simp [ha]
end Ab
