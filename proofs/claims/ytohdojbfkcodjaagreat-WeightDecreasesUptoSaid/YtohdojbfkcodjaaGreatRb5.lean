/- Part 5 of 5 of a proof. The law WeightDecreases holds: for all orders, systems and derivations that are not larger than the statement's bound, the function returns true. -/
import Derived.Test.YtohdojbfkcodjaaGreatRb4
set_option linter.unusedVariables false
set_option linter.unusedSimpArgs false
set_option maxRecDepth 10000
namespace Ab
open Go Go.Proofs
theorem leB_cmp (a b : List UInt8) : leB a b = true ↔ 0 ≤ Lib.compareBytes b a := by
  have h1 := bytesLess_cmp a b
  have h3 := bytesLess_cmp b a
  have h2 := compareBytes_eq b a
  unfold leB
  rw [Bool.or_eq_true, decide_eq_true_eq, h1.1]
  constructor
  · rintro (h | h)
    · have := h3.2.1 h; omega
    · have := h2.2 h.symm; omega
  · intro h
    rcases Int.lt_or_eq_of_le h with h4 | h4
    · exact .inl (h3.2.2 h4)
    · exact .inr (h2.1 h4.symm).symm
theorem sorted_of_names {l : List Rank} (h : namesP l = 0) : SortedR l ∧ l.length ≤ 256 := by
  unfold namesP at h
  split at h
  · cases h
  rename_i h1
  split at h
  · rename_i h2
    rw [List.all_eq_true] at h2
    have hstep : ∀ i (hi : i + 1 < l.length), Lib.compareBytes l[i].name l[i + 1].name < 0 := by
      intro i hi
      have h3 := h2 (i + 1) (by simpa using hi)
      unfold goodAt at h3
      rw [show l.getD (i + 1) zeroR = l[i + 1] from by simp [hi], show i + 1 - 1 = i from rfl, show l.getD i zeroR = l[i] from by simp [show i < l.length by omega]] at h3
      simp only [Bool.and_eq_true, Bool.or_eq_true, decide_eq_true_eq, Bool.not_eq_true'] at h3
      have h4 : leB l[i + 1].name l[i].name = false := by
        rcases h3.2 with h5 | h5
        · omega
        · exact h5
      have h6 := (leB_cmp l[i + 1].name l[i].name)
      rw [h4] at h6
      have : ¬ 0 ≤ Lib.compareBytes l[i].name l[i + 1].name := fun e => by cases h6.2 e
      omega
    refine ⟨?_, by omega⟩
    unfold SortedR
    rw [List.pairwise_iff_getElem]
    intro i j hi hj hij
    obtain ⟨d, rfl⟩ : ∃ d, j = i + 1 + d := ⟨j - i - 1, by omega⟩
    induction d with
    | zero => exact hstep i (by omega)
    | succ d ih => exact cb_trans _ _ _ (ih (by omega) (by omega)) (hstep (i + 1 + d) (by omega))
  · cases h
theorem good_of_check {l : List Rank} {unit : Int} (h : wcheckP l unit = 0) : SortedR l ∧ SmallR l unit := by
  unfold wcheckP at h
  split at h
  · rename_i h1; exact absurd h h1
  rename_i h1
  split at h
  · cases h
  rename_i h2
  refine ⟨(sorted_of_names (by omega)).1, ?_⟩
  rw [Bool.not_eq_true, Bool.or_eq_false_iff, Bool.or_eq_false_iff] at h2
  obtain ⟨⟨h3, h4⟩, h5⟩ := h2
  rw [List.any_eq_false] at h3
  simp only [badP, Bool.or_eq_false_iff, decide_eq_false_iff_not] at h4 h5
  refine ⟨fun x hx => ?_, by omega, by omega⟩
  have := h3 x hx
  simp only [badP, Bool.or_eq_true, decide_eq_true_eq, not_or] at this
  omega
end Ab
set_option maxRecDepth 10000
namespace Ab
open Go Go.Proofs
def seenM (out : List Sym) : List (Sym × Bool) := out.map fun s => (s, true)
theorem seen_get (out : List Sym) (f : Sym) : aget (seenM out) f = if f ∈ out then some true else none := by
  induction out with
  | nil => simp [seenM, aget]
  | cons x r ih =>
    have h : seenM (x :: r) = (x, true) :: seenM r := rfl
    rw [h, aget, ih]
    by_cases hx : x = f
    · simp [hx]
    · have : ¬ f = x := fun e => hx e.symm
      simp [hx, this]
theorem seen_set (out : List Sym) (f : Sym) (h : f ∉ out) : aset (seenM out) f true = seenM (out ++ [f]) := by
  have := (aget_none (k := f) (m := seenM out) (fun p hp => by simp [seenM] at hp; obtain ⟨a, ha, rfl⟩ := hp; exact fun e => h (e ▸ ha))).2 true
  rw [this]; simp [seenM]
theorem symStep_length (out : List Sym) (x : List Int × Term) : (symStep out x).length ≤ out.length + 1 := by unfold symStep; split <;> simp
theorem symFold_length : ∀ (l : List (List Int × Term)) (out : List Sym), (l.foldl symStep out).length ≤ out.length + l.length
  | [], out => by simp
  | x :: l, out => by
    have h1 := symFold_length l (symStep out x)
    have h2 := symStep_length out x
    simp only [List.foldl_cons, List.length_cons]; omega
theorem symsFold_length : ∀ (ts : List Term) (out : List Sym), (ts.foldl symsT out).length ≤ out.length + (ts.map Term.size).sum
  | [], out => by simp
  | t :: ts, out => by
    have h1 := symsFold_length ts (symsT out t)
    have h2 := symFold_length (walkT t []) out
    rw [walkT_length] at h2
    have h3 : symsT out t = (walkT t []).foldl symStep out := rfl
    rw [← h3] at h2
    simp only [List.foldl_cons, List.map_cons, List.sum_cons]; omega
theorem cellSm : ∀ (x : Sym) c, c ∈ (encS x).cells → c.isCell = true := by
  intro x c hc; simp [AV.cells] at hc; rcases hc with rfl | rfl <;> rfl
@[reducible] def symMap (out : List Sym) : List (AV × AV) := amap (fun s : Sym => AV.agg (symCells s)) AV.bool (seenM out)
theorem oscSm (n ver : Nat) (out : List Sym) : OScoped n (.map ver (amap (fun s : Sym => AV.agg (symCells s)) AV.bool (seenM out))) = True := eq_true (oscoped_amap (by simp [Scoped, ScopedL, symCells]) (by simp [Scoped]))
attribute [push_cast] oscSm
theorem symStep_y {out : List Sym} {x : List Int × Term} {F : Sym} (hF : F = symOf x.2) (hv : x.2.var = false) (h : F ∉ out) : symStep out x = out ++ [F] := by unfold symStep; rw [← hF, if_pos ⟨hv, h⟩]
theorem symStep_n {out : List Sym} {x : List Int × Term} {F : Sym} (hF : F = symOf x.2) (h : x.2.var = true ∨ F ∈ out) : symStep out x = out := by
  unfold symStep; rw [← hF, if_neg]
  rintro ⟨h1, h2⟩
  rcases h with h | h
  · rw [h] at h1; cases h1
  · exact h2 h
theorem syms_take (ts : List Term) (i : Nat) (h : i < ts.length) : (ts.take (i + 1)).foldl symsT [] = (walkT ts[i] []).foldl symStep ((ts.take i).foldl symsT []) := by
  rw [List.take_succ_eq_append_getElem h, List.foldl_append]; rfl
set_option maxHeartbeats 2000000 in
theorem symsW_ac (ts : List Term) (hlen : ts.length < 1099511627776) (hb : ∀ x, x ∈ ts → x.bulk ≤ 1099511627775) (hsz : (ts.map Term.size).sum ≤ 1099511627775) (H : List AObj) :
    ACall Tryz.prog 59 [.sl .none (encTs ts)] H (fun r H' => r = .sl .none (encL encS (symsP ts)) ∧ H' = H) := by
  refine ACall_VA (H.length) 43 [.tmp 2] Tryz.func59 rfl rfl rfl ?_
  refine AW_reserve 1 ?_
  refine AW_of_W ?_
  simp only [push_cast, Nat.reduceAdd, Nat.reduceSub, Nat.reduceMul, Nat.reduceLT, Nat.reduceLeDiff, Nat.reduceEqDiff, Int.reduceToNat, ↓reduceIte]
  refine AW_loopW (maskG 44 [3, 0, 6, 0, 0, 6]) (fun (i : Nat) => [(13, .int .i64 i)]) (fun i => H ++ [gTok 64 2 (encL encS ((ts.take i).foldl symsT [])), .map ((ts.take i).foldl symsT []).length (symMap ((ts.take i).foldl symsT [])), .cells [.map (H.length + 1)], .cells [gSl H.length (encL encS ((ts.take i).foldl symsT []))]]) (fun i => i ≤ ts.length) (fun i => ts.length - i) 0 (Nat.zero_le _) (by simp only [push_cast, Nat.reduceAdd, Nat.reduceSub, Nat.reduceMul, Nat.reduceLT, Nat.reduceLeDiff, Nat.reduceEqDiff, Int.reduceToNat, ↓reduceIte, List.take_zero, List.foldl_nil, encL_nil]; rfl) (fun i hi => ?_)
  simp only [push_cast, Nat.reduceAdd, Nat.reduceSub, Nat.reduceMul, Nat.reduceLT, Nat.reduceLeDiff, Nat.reduceEqDiff, Int.reduceToNat, ↓reduceIte]
  refine cI (fun h => ?_) (fun h => ?_)
  · have hil : i < ts.length := by omega
    repeat refine ⟨by omega, ?_⟩
    refine (walkF_ac (ts[i]'hil) _).to ?_
    simp only [push_cast, Nat.reduceAdd, Nat.reduceSub, Nat.reduceMul, Nat.reduceLT, Nat.reduceLeDiff, Nat.reduceEqDiff, Int.reduceToNat, ↓reduceIte]
    obtain ⟨O, hO⟩ : ∃ O, O = (ts.take i).foldl symsT [] := ⟨_, rfl⟩
    have hst := syms_take ts i hil
    have hO2 := symsFold_length (ts.take i) []
    rw [List.length_nil, Nat.zero_add] at hO2
    rw [← hO] at hst hO2 ⊢
    obtain ⟨T, hT⟩ : ∃ T, T = ts[i]'hil := ⟨_, rfl⟩
    have hbt : T.bulk ≤ 1099511627775 := by rw [hT]; exact hb _ (List.getElem_mem hil)
    have h4 := take_sum Term.size ts i hil
    have h5 := take_sum_le Term.size ts (i + 1)
    rw [← hT] at hst h4 ⊢
    refine AW_iterW _ _ (walk_iter T hbt _) H (fun pre => [gTok 64 2 (encL encS (pre.foldl symStep O)), .map (pre.foldl symStep O).length (symMap (pre.foldl symStep O)), .cells [.map (H.length + 1)], .cells [gSl H.length (encL encS (pre.foldl symStep O))], .cells [.str T.name, .bool T.var, .sl .none (encTs T.args)], .cells [.str T.name, .bool T.var, .sl .none (encTs T.args)]]) 6 (fun _ _ => none) rfl ok109 (by simp only [push_cast, Nat.reduceAdd, Nat.reduceSub, Nat.reduceMul, Nat.reduceLT, Nat.reduceLeDiff, Nat.reduceEqDiff, Int.reduceToNat, ↓reduceIte, List.foldl_nil]) (fun _ => rfl) (fun lp => by simp only [push_cast, Nat.reduceAdd, Nat.reduceSub, Nat.reduceMul, Nat.reduceLT, Nat.reduceLeDiff, Nat.reduceEqDiff, Int.reduceToNat, ↓reduceIte]) (fun p => by simp only [push_cast, Nat.reduceAdd, Nat.reduceSub, Nat.reduceMul, Nat.reduceLT, Nat.reduceLeDiff, Nat.reduceEqDiff, Int.reduceToNat, ↓reduceIte]) (fun _ => rfl) (fun pre x suf X l lp lp' he hn => ?_) (fun _ lp => ?_) (fun pre x suf c lp _ _ h => by cases h)
    · obtain ⟨S, hS⟩ : ∃ S, S = pre.foldl symStep O := ⟨_, rfl⟩
      have hS1 : (pre ++ [x]).foldl symStep O = symStep S x := by rw [List.foldl_append, hS]; rfl
      have hSl : S.length + 1 ≤ 1099511627775 := by
        have h1 := symFold_length pre O
        have h3 := walkT_length T []
        have h6 : pre.length + 1 ≤ (walkT T []).length := by rw [he]; simp
        rw [← hS] at h1
        omega
      obtain ⟨F, hF⟩ : ∃ F, F = symOf x.2 := ⟨_, rfl⟩
      have hF1 : AV.agg [AV.str x.2.name, AV.int .i64 x.2.args.length] = AV.agg (symCells F) := by rw [hF]; rfl
      rw [hS1, ← hS]
      simp only [push_cast, Nat.reduceAdd, Nat.reduceSub, Nat.reduceMul, Nat.reduceLT, Nat.reduceLeDiff, Nat.reduceEqDiff, Int.reduceToNat, ↓reduceIte, List.drop_length]
      refine cI (fun hv => ?_) (fun hv => ?_)
      · rw [symStep_n hF (.inl hv)]
        exact ⟨rfl, rfl, rfl⟩
      · have hv' : x.2.var = false := by simpa using hv
        refine AOp_lookup symKey AV.bool (seenM S) (H.length + 1) S.length F (.bool false) rfl (by exact (agetN _ _ 1).trans rfl) (by exact hF1) un126 (ZeroV_of (.bool false) (by kernel_rfl)) ?_
        rw [show (Option.map AV.bool (aget (seenM S) F)).getD (.bool false) = .bool (decide (F ∈ S)) from by rw [seen_get]; by_cases hm : F ∈ S <;> simp [hm]]
        simp only [push_cast, Nat.reduceAdd, Nat.reduceSub, Nat.reduceMul, Nat.reduceLT, Nat.reduceLeDiff, Nat.reduceEqDiff, Int.reduceToNat, ↓reduceIte]
        refine cI (fun hm => ?_) (fun hm => ?_)
        · rw [symStep_n hF (.inr hm)]
          exact ⟨rfl, rfl, rfl⟩
        · refine AOp_mapUpdate symKey AV.bool (seenM S) (H.length + 1) S.length F true rfl (by exact (agetN _ _ 1).trans rfl) (by exact hF1) rfl un126 ?_
          rw [seen_set S F hm]
          simp only [push_cast, Nat.reduceAdd, Nat.reduceSub, Nat.reduceMul, Nat.reduceLT, Nat.reduceLeDiff, Nat.reduceEqDiff, Int.reduceToNat, ↓reduceIte]
          refine app1_L encS (sz := 2) (fun _ => rfl) cellSm _ H.length S F _ rfl (by exact congrArg (fun a => AV.sl _ [a]) hF1) (by exact aget0 _ _ _) sl33 sz64 by64 zr64 rfl (by decide) (by decide) (by omega) ?_
          rw [symStep_y hF hv' hm, List.length_append]
          simp only [push_cast, Nat.reduceAdd, Nat.reduceSub, Nat.reduceMul, Nat.reduceLT, Nat.reduceLeDiff, Nat.reduceEqDiff, Int.reduceToNat, ↓reduceIte]
    · simp only [push_cast, Nat.reduceAdd, Nat.reduceSub, Nat.reduceMul, Nat.reduceLT, Nat.reduceLeDiff, Nat.reduceEqDiff, Int.reduceToNat, ↓reduceIte]
      repeat' first | refine ⟨by omega, ?_⟩ | refine cI (fun _ => ?_) (fun _ => ?_)
      refine loopW_n (i + 1) (by omega) (by omega) ?_
      rw [hst]
      simp only [push_cast, Nat.reduceAdd, Nat.reduceSub, Nat.reduceMul, Nat.reduceLT, Nat.reduceLeDiff, Nat.reduceEqDiff, Int.reduceToNat, ↓reduceIte]
  · rw [List.take_of_length_le (show ts.length ≤ i by omega)]
    rfl
end Ab
set_option maxRecDepth 10000
namespace Ab
open Go Go.Proofs
theorem symsC1_ac (f : Sym) (hn : f.name.length < 1099511627776) (H : List AObj) : ACall Tryz.prog 90 [encS f] H (fun r H' => r = .bool (!isNameP f.name true) ∧ H' = H) := by
  refine ACall_V (H.length) 6 [.tmp 2] Tryz.func90 rfl rfl rfl ?_
  simp only [push_cast, Nat.reduceAdd, Nat.reduceSub, Nat.reduceMul, Nat.reduceLT, Nat.reduceLeDiff, Nat.reduceEqDiff, Int.reduceToNat, ↓reduceIte]
  refine (isName_ac f.name true _ hn).to ?_
  simp only [push_cast, Nat.reduceAdd, Nat.reduceSub, Nat.reduceMul, Nat.reduceLT, Nat.reduceLeDiff, Nat.reduceEqDiff, Int.reduceToNat, ↓reduceIte]
theorem symsC2_ac (f : Sym) (H : List AObj) : ACall Tryz.prog 91 [encS f] H (fun r H' => r = .bool (decide (f.arity < 0) || decide (8 < f.arity)) ∧ H' = H) := by
  refine ACall_V (H.length) 10 [.tmp 2] Tryz.func91 rfl rfl rfl ?_
  simp only [push_cast, Nat.reduceAdd, Nat.reduceSub, Nat.reduceMul, Nat.reduceLT, Nat.reduceLeDiff, Nat.reduceEqDiff, Int.reduceToNat, ↓reduceIte]
  refine cI (fun h => ?_) (fun h => ?_)
  · rw [decide_eq_true h]; rfl
  · rw [decide_eq_false h]; rfl
def symsCheck (ss : List Sym) : Int := if ss.any (fun f => !isNameP f.name true) then 4 else if ss.any (fun f => decide (f.arity < 0) || decide (8 < f.arity)) then 2 else 0
theorem pathSymbols_ac (ss : List Sym) (hlen : ss.length < 1099511627776) (hn : ∀ f, f ∈ ss → f.name.length < 1099511627776) (H : List AObj) : ACall Tryz.prog 60 [.sl .none (encL encS ss)] H (fun r H' => r = .int .i64 (symsCheck ss) ∧ H' = H) := by
  refine ACall_V (H.length) 8 [.tmp 2] Tryz.func60 rfl rfl rfl ?_
  simp only [push_cast, Nat.reduceAdd, Nat.reduceSub, Nat.reduceMul, Nat.reduceLT, Nat.reduceLeDiff, Nat.reduceEqDiff, Int.reduceToNat, ↓reduceIte]
  refine (containsSm_ac ss 90 [] (fun f => !isNameP f.name true) _ hlen ok90 (by simp [ScopedL]) (fun i h => symsC1_ac _ (hn _ (List.getElem_mem h)) _)).to ?_
  simp only [push_cast, Nat.reduceAdd, Nat.reduceSub, Nat.reduceMul, Nat.reduceLT, Nat.reduceLeDiff, Nat.reduceEqDiff, Int.reduceToNat, ↓reduceIte]
  unfold symsCheck
  refine cI (fun h => ?_) (fun h => ?_)
  · rw [if_pos h]
  · rw [if_neg h]
    refine (containsSm_ac ss 91 [] (fun f => decide (f.arity < 0) || decide (8 < f.arity)) _ hlen ok91 (by simp [ScopedL]) (fun i h => symsC2_ac _ _)).to ?_
    simp only [push_cast, Nat.reduceAdd, Nat.reduceSub, Nat.reduceMul, Nat.reduceLT, Nat.reduceLeDiff, Nat.reduceEqDiff, Int.reduceToNat, ↓reduceIte]
    refine cI (fun h2 => ?_) (fun h2 => ?_)
    · rw [if_pos h2]
    · rw [if_neg h2]
def admP (l : List Rank) (unit : Int) (ss : List Sym) : Bool × Int := if wcheckP l unit ≠ 0 then (false, wcheckP l unit) else if symsCheck ss ≠ 0 then (false, symsCheck ss) else (fitsW l unit ss, 0)
theorem admissible_ac (l : List Rank) (unit : Int) (ss : List Sym) (hlen : l.length < 1099511627776) (hnl : ∀ x, x ∈ l → x.name.length < 1099511627776) (hlen2 : ss.length < 1099511627776) (hn : ∀ f, f ∈ ss → f.name.length < 1099511627776) (H : List AObj) :
    ACall Tryz.prog 29 [.sl .none (encL encR l), .int .i64 unit, .sl .none (encL encS ss)] H (fun r H' => r = .tup [.bool (admP l unit ss).1, .int .i64 (admP l unit ss).2] ∧ H' = H) := by
  refine ACall_V (H.length) 22 [.tmp 6, .tmp 7] Tryz.func29 rfl rfl rfl ?_
  simp only [push_cast, Nat.reduceAdd, Nat.reduceSub, Nat.reduceMul, Nat.reduceLT, Nat.reduceLeDiff, Nat.reduceEqDiff, Int.reduceToNat, ↓reduceIte]
  refine (wcheck_ac l unit hlen hnl _).to ?_
  simp only [push_cast, Nat.reduceAdd, Nat.reduceSub, Nat.reduceMul, Nat.reduceLT, Nat.reduceLeDiff, Nat.reduceEqDiff, Int.reduceToNat, ↓reduceIte]
  refine cI (fun h => ?_) (fun h => ?_)
  · obtain ⟨hs, hr⟩ := good_of_check h
    refine (pathSymbols_ac ss hlen2 hn _).to ?_
    simp only [push_cast, Nat.reduceAdd, Nat.reduceSub, Nat.reduceMul, Nat.reduceLT, Nat.reduceLeDiff, Nat.reduceEqDiff, Int.reduceToNat, ↓reduceIte]
    refine cI (fun h2 => ?_) (fun h2 => ?_)
    · have e : admP l unit ss = (fitsW l unit ss, 0) := (if_neg (by simpa using h)).trans (if_neg (by simpa using h2))
      refine (fitsW_ac l hs hlen unit ss hlen2 _).to ?_
      simp only [push_cast, Nat.reduceAdd, Nat.reduceSub, Nat.reduceMul, Nat.reduceLT, Nat.reduceLeDiff, Nat.reduceEqDiff, Int.reduceToNat, ↓reduceIte, e]
    · have e : admP l unit ss = (false, symsCheck ss) := (if_neg (by simpa using h)).trans (if_pos h2)
      simp only [push_cast, Nat.reduceAdd, Nat.reduceSub, Nat.reduceMul, Nat.reduceLT, Nat.reduceLeDiff, Nat.reduceEqDiff, Int.reduceToNat, ↓reduceIte, e]
  · have e : admP l unit ss = (false, wcheckP l unit) := if_pos h
    simp only [push_cast, Nat.reduceAdd, Nat.reduceSub, Nat.reduceMul, Nat.reduceLT, Nat.reduceLeDiff, Nat.reduceEqDiff, Int.reduceToNat, ↓reduceIte, e]
def weighP (l : List Rank) (unit : Int) (t : Term) : Int × Int := if wcheckP l unit ≠ 0 then (0, wcheckP l unit) else if checkP t ≠ 0 then (0, checkP t) else (weightP l unit t, 0)
theorem weigh_ac (l : List Rank) (unit : Int) (t : Term) (hlen : l.length < 1099511627776) (hnl : ∀ x, x ∈ l → x.name.length < 1099511627776) (hb : t.bulk ≤ 1099511627775) (H : List AObj) :
    ACall Tryz.prog 16 [.sl .none (encL encR l), .int .i64 unit, encT t] H (fun r H' => r = .tup [.int .i64 (weighP l unit t).1, .int .i64 (weighP l unit t).2] ∧ H' = H) := by
  refine ACall_V (H.length) 22 [.tmp 6, .tmp 7] Tryz.func16 rfl rfl rfl ?_
  simp only [push_cast, Nat.reduceAdd, Nat.reduceSub, Nat.reduceMul, Nat.reduceLT, Nat.reduceLeDiff, Nat.reduceEqDiff, Int.reduceToNat, ↓reduceIte]
  refine (wcheck_ac l unit hlen hnl _).to ?_
  simp only [push_cast, Nat.reduceAdd, Nat.reduceSub, Nat.reduceMul, Nat.reduceLT, Nat.reduceLeDiff, Nat.reduceEqDiff, Int.reduceToNat, ↓reduceIte]
  refine cI (fun h => ?_) (fun h => ?_)
  · obtain ⟨hs, hr⟩ := good_of_check h
    refine (check_ac t hb _).to ?_
    simp only [push_cast, Nat.reduceAdd, Nat.reduceSub, Nat.reduceMul, Nat.reduceLT, Nat.reduceLeDiff, Nat.reduceEqDiff, Int.reduceToNat, ↓reduceIte]
    refine cI (fun h2 => ?_) (fun h2 => ?_)
    · have e : weighP l unit t = (weightP l unit t, 0) := (if_neg (by simpa using h)).trans (if_neg (by simpa using h2))
      refine (sumW_ac l unit hs hr hlen t hb _).to ?_
      simp only [push_cast, Nat.reduceAdd, Nat.reduceSub, Nat.reduceMul, Nat.reduceLT, Nat.reduceLeDiff, Nat.reduceEqDiff, Int.reduceToNat, ↓reduceIte, e]
    · have e : weighP l unit t = (0, checkP t) := (if_neg (by simpa using h)).trans (if_pos h2)
      simp only [push_cast, Nat.reduceAdd, Nat.reduceSub, Nat.reduceMul, Nat.reduceLT, Nat.reduceLeDiff, Nat.reduceEqDiff, Int.reduceToNat, ↓reduceIte, e]
  · have e : weighP l unit t = (0, wcheckP l unit) := if_pos h
    simp only [push_cast, Nat.reduceAdd, Nat.reduceSub, Nat.reduceMul, Nat.reduceLT, Nat.reduceLeDiff, Nat.reduceEqDiff, Int.reduceToNat, ↓reduceIte, e]
end Ab
set_option maxRecDepth 10000
namespace Ab
open Go Go.Proofs
def greaterP (l : List Rank) (unit : Int) (s t : Term) : Bool × Int :=
  if wcheckP l unit ≠ 0 then (false, wcheckP l unit) else if firstErr [s, t] ≠ 0 then (false, firstErr [s, t]) else if fitsW l unit (symsP [s, t]) = false then (false, 10) else (aboveP l unit s t, 0)
theorem encTs_2 (s t : Term) : encTs [s, t] = [AV.agg [.str s.name, .bool s.var, .sl .none (encTs s.args)], AV.agg [.str t.name, .bool t.var, .sl .none (encTs t.args)]] := by rw [encTs_cons, encTs_cons]; simp [encTs]
theorem greater_ac (l : List Rank) (unit : Int) (s t : Term) (hlen : l.length < 1099511627776) (hnl : ∀ x, x ∈ l → x.name.length < 1099511627776) (hb : s.bulk + t.bulk ≤ 1099511627775) (H : List AObj) :
    ACall Tryz.prog 28 [.sl .none (encL encR l), .int .i64 unit, encT s, encT t] H (fun r H' => r = .tup [.bool (greaterP l unit s t).1, .int .i64 (greaterP l unit s t).2] ∧ H' = H) := by
  have hs1 := s.size_le
  have hs2 := t.size_le
  have hall := fun X => all_ac [s, t] (by simp) (by intro x hx; simp at hx; rcases hx with rfl | rfl <;> omega) X
  rw [encTs_2] at hall
  refine ACall_V (H.length) 34 [.tmp 8, .tmp 9] Tryz.func28 rfl rfl rfl ?_
  simp only [push_cast, Nat.reduceAdd, Nat.reduceSub, Nat.reduceMul, Nat.reduceLT, Nat.reduceLeDiff, Nat.reduceEqDiff, Int.reduceToNat, ↓reduceIte]
  refine (wcheck_ac l unit hlen hnl _).to ?_
  simp only [push_cast, Nat.reduceAdd, Nat.reduceSub, Nat.reduceMul, Nat.reduceLT, Nat.reduceLeDiff, Nat.reduceEqDiff, Int.reduceToNat, ↓reduceIte]
  refine cI (fun h => ?_) (fun h => ?_)
  · obtain ⟨hs, hr⟩ := good_of_check h
    refine (hall _).to ?_
    simp only [push_cast, Nat.reduceAdd, Nat.reduceSub, Nat.reduceMul, Nat.reduceLT, Nat.reduceLeDiff, Nat.reduceEqDiff, Int.reduceToNat, ↓reduceIte]
    refine cI (fun h2 => ?_) (fun h2 => ?_)
    · have e0 : greaterP l unit s t = if fitsW l unit (symsP [s, t]) = false then (false, 10) else (aboveP l unit s t, 0) := (if_neg (by simpa using h)).trans (if_neg (by simpa using h2))
      have hsy := fun X => symsW_ac [s, t] (by simp) (by intro x hx; simp at hx; rcases hx with rfl | rfl <;> omega) (by simp; omega) X
      rw [encTs_2] at hsy
      refine (hsy _).to ?_
      simp only [push_cast, Nat.reduceAdd, Nat.reduceSub, Nat.reduceMul, Nat.reduceLT, Nat.reduceLeDiff, Nat.reduceEqDiff, Int.reduceToNat, ↓reduceIte]
      have hl := symsFold_length [s, t] []
      have hle : (symsP [s, t]).length < 1099511627776 := by
        show (List.foldl symsT [] [s, t]).length < _
        have e3 : ([s, t].map Term.size).sum = s.size + t.size := by simp
        rw [e3, List.length_nil] at hl
        omega
      refine (fitsW_ac l hs hlen unit (symsP [s, t]) hle _).to ?_
      simp only [push_cast, Nat.reduceAdd, Nat.reduceSub, Nat.reduceMul, Nat.reduceLT, Nat.reduceLeDiff, Nat.reduceEqDiff, Int.reduceToNat, ↓reduceIte]
      cases hf : fitsW l unit (symsP [s, t]) with
      | false =>
        have e : greaterP l unit s t = (false, 10) := e0.trans (if_pos hf)
        simp only [push_cast, Nat.reduceAdd, Nat.reduceSub, Nat.reduceMul, Nat.reduceLT, Nat.reduceLeDiff, Nat.reduceEqDiff, Int.reduceToNat, ↓reduceIte, e]
      | true =>
        have e : greaterP l unit s t = (aboveP l unit s t, 0) := e0.trans (if_neg (by rw [hf]; simp))
        simp only [push_cast, Nat.reduceAdd, Nat.reduceSub, Nat.reduceMul, Nat.reduceLT, Nat.reduceLeDiff, Nat.reduceEqDiff, Int.reduceToNat, ↓reduceIte]
        refine (above_ac l unit hs hr hlen s t (by omega) (by omega) _).to ?_
        simp only [push_cast, Nat.reduceAdd, Nat.reduceSub, Nat.reduceMul, Nat.reduceLT, Nat.reduceLeDiff, Nat.reduceEqDiff, Int.reduceToNat, ↓reduceIte, e]
    · have e : greaterP l unit s t = (false, firstErr [s, t]) := (if_neg (by simpa using h)).trans (if_pos h2)
      simp only [push_cast, Nat.reduceAdd, Nat.reduceSub, Nat.reduceMul, Nat.reduceLT, Nat.reduceLeDiff, Nat.reduceEqDiff, Int.reduceToNat, ↓reduceIte, e]
  · have e : greaterP l unit s t = (false, wcheckP l unit) := if_pos h
    simp only [push_cast, Nat.reduceAdd, Nat.reduceSub, Nat.reduceMul, Nat.reduceLT, Nat.reduceLeDiff, Nat.reduceEqDiff, Int.reduceToNat, ↓reduceIte, e]
def symS (rs : List (Term × Term)) : List Sym := (symRs (rT rs) []).1.map fun p => ⟨p.1, (p.2 : Nat)⟩
theorem encSy_S (l : List (List UInt8 × Nat)) : encL encSy l = encL encS (l.map fun p => ⟨p.1, (p.2 : Nat)⟩) := by simp [encL, List.map_map]
def orientsP (l : List Rank) (unit : Int) (rs : List (Term × Term)) : List Bool × Int :=
  if wcheckP l unit ≠ 0 then ([], wcheckP l unit) else if sysP rs ≠ 0 then ([], sysP rs) else if fitsW l unit (symS rs) = false then ([], 10) else (rs.map fun r => aboveP l unit r.1 r.2, 0)
theorem scBoolL (n : Nat) (l : List Bool) : ScopedL n (encL AV.bool l) = True := eq_true (scoped_encL (fun x => by simp [Scoped]) l)
attribute [push_cast] scBoolL
theorem cellBool : ∀ (x : Bool) c, c ∈ (AV.bool x).cells → c.isCell = true := by intro x c hc; simp [AV.cells] at hc; subst hc; rfl
theorem orients_ac (l : List Rank) (unit : Int) (rs : List (Term × Term)) (hlen : l.length < 1099511627776) (hnl : ∀ x, x ∈ l → x.name.length < 1099511627776) (hlr : rs.length < 1099511627776) (hb : BndR rs) (H : List AObj) :
    ACall Tryz.prog 5 [.sl .none (encL encR l), .int .i64 unit, .sl .none (encL encRu rs)] H (fun r H' => r = .tup [.sl .none (encL AV.bool (orientsP l unit rs).1), .int .i64 (orientsP l unit rs).2] ∧ H' = H) := by
  refine ACall_VA (H.length) 48 [.tmp 6, .tmp 7] Tryz.func5 rfl rfl rfl ?_
  refine AW_reserve 1 ?_
  refine AW_of_W ?_
  simp only [push_cast, Nat.reduceAdd, Nat.reduceSub, Nat.reduceMul, Nat.reduceLT, Nat.reduceLeDiff, Nat.reduceEqDiff, Int.reduceToNat, ↓reduceIte]
  refine (wcheck_ac l unit hlen hnl _).to ?_
  simp only [push_cast, Nat.reduceAdd, Nat.reduceSub, Nat.reduceMul, Nat.reduceLT, Nat.reduceLeDiff, Nat.reduceEqDiff, Int.reduceToNat, ↓reduceIte]
  refine cI (fun h => ?_) (fun h => ?_)
  · obtain ⟨hs, hr⟩ := good_of_check h
    refine (symbols_ac rs hlr hb _).to ?_
    simp only [push_cast, Nat.reduceAdd, Nat.reduceSub, Nat.reduceMul, Nat.reduceLT, Nat.reduceLeDiff, Nat.reduceEqDiff, Int.reduceToNat, ↓reduceIte]
    unfold symP
    by_cases h2 : sysP rs = 0
    · rw [if_pos h2]
      obtain ⟨hB, hck, _⟩ := sys_B h2
      have e0 : orientsP l unit rs = if fitsW l unit (symS rs) = false then ([], 10) else (rs.map fun r => aboveP l unit r.1 r.2, 0) := (if_neg (by simpa using h)).trans (if_neg (by simpa using h2))
      have hrs := rules_size (sys_zero h2).1
      have hsl : (symS rs).length < 1099511627776 := by
        have := symRs_len (rT rs) []
        unfold symS
        rw [List.length_map]
        simp at this
        omega
      have hfit := fun X => fitsW_ac l hs hlen unit (symS rs) hsl X
      simp only [push_cast, Nat.reduceAdd, Nat.reduceSub, Nat.reduceMul, Nat.reduceLT, Nat.reduceLeDiff, Nat.reduceEqDiff, Int.reduceToNat, ↓reduceIte]
      rw [encSy_S]
      refine (hfit _).to ?_
      simp only [push_cast, Nat.reduceAdd, Nat.reduceSub, Nat.reduceMul, Nat.reduceLT, Nat.reduceLeDiff, Nat.reduceEqDiff, Int.reduceToNat, ↓reduceIte]
      cases hf : fitsW l unit (symS rs) with
      | false =>
        have e : orientsP l unit rs = ([], 10) := e0.trans (if_pos hf)
        simp only [push_cast, Nat.reduceAdd, Nat.reduceSub, Nat.reduceMul, Nat.reduceLT, Nat.reduceLeDiff, Nat.reduceEqDiff, Int.reduceToNat, ↓reduceIte, e, encL_nil]
      | true =>
        have e : orientsP l unit rs = (rs.map fun r => aboveP l unit r.1 r.2, 0) := e0.trans (if_neg (by rw [hf]; simp))
        simp only [push_cast, Nat.reduceAdd, Nat.reduceSub, Nat.reduceMul, Nat.reduceLT, Nat.reduceLeDiff, Nat.reduceEqDiff, Int.reduceToNat, ↓reduceIte, e]
        obtain ⟨A, hA⟩ : ∃ A : (Term × Term) → Bool, A = fun r => aboveP l unit r.1 r.2 := ⟨_, rfl⟩
        rw [← hA]
        refine AW_loopW (maskG 51 [0, 0, 9, 21, 0, 0]) (fun (i : Nat) => [(35, .int .i64 i), (11, gSl H.length (encL AV.bool ((rs.take i).map A)))]) (fun i => H ++ [gTok 4 1 (encL AV.bool ((rs.take i).map A))]) (fun i => i ≤ rs.length) (fun i => rs.length - i) 0 (Nat.zero_le _) (by simp only [push_cast, Nat.reduceAdd, Nat.reduceSub, Nat.reduceMul, Nat.reduceLT, Nat.reduceLeDiff, Nat.reduceEqDiff, Int.reduceToNat, ↓reduceIte, List.take_zero, List.map_nil, encL_nil]) (fun i hi => ?_)
        simp only [push_cast, Nat.reduceAdd, Nat.reduceSub, Nat.reduceMul, Nat.reduceLT, Nat.reduceLeDiff, Nat.reduceEqDiff, Int.reduceToNat, ↓reduceIte]
        refine cI (fun h => ?_) (fun h => ?_)
        · have hil : i < rs.length := by omega
          have hbr := hb _ (List.getElem_mem hil)
          have hst : (rs.take i).map A ++ [A (rs[i]'hil)] = (rs.take (i + 1)).map A := by rw [List.take_succ_eq_append_getElem hil, List.map_append]; rfl
          have hca := fun X => above_ac l unit hs hr hlen (rs[i]'hil).1 (rs[i]'hil).2 (by omega) (by omega) X
          rw [show aboveP l unit (rs[i]'hil).1 (rs[i]'hil).2 = A (rs[i]'hil) by rw [hA]] at hca
          refine ⟨hil, ?_⟩
          refine (hca _).to ?_
          simp only [push_cast, Nat.reduceAdd, Nat.reduceSub, Nat.reduceMul, Nat.reduceLT, Nat.reduceLeDiff, Nat.reduceEqDiff, Int.reduceToNat, ↓reduceIte]
          refine app1_L AV.bool (sz := 1) (fun _ => rfl) cellBool _ H.length ((rs.take i).map A) (A (rs[i]'hil)) _ rfl rfl (by exact aget0 _ _ _) sl26 sz4 by4 zr4 rfl (by decide) (by decide) (by rw [List.length_map, List.length_take]; omega) ?_
          rw [hst]
          simp only [push_cast, Nat.reduceAdd, Nat.reduceSub, Nat.reduceMul, Nat.reduceLT, Nat.reduceLeDiff, Nat.reduceEqDiff, Int.reduceToNat, ↓reduceIte]
          repeat' first | refine ⟨by omega, ?_⟩ | refine cI (fun _ => ?_) (fun _ => ?_)
          exact loopW_n (i + 1) (by omega) (by omega) (by simp only [push_cast, Nat.reduceAdd, Nat.reduceSub, Nat.reduceMul, Nat.reduceLT, Nat.reduceLeDiff, Nat.reduceEqDiff, Int.reduceToNat, ↓reduceIte])
        · rw [List.take_of_length_le (show rs.length ≤ i by omega)]
    · rw [if_neg h2]
      have e : orientsP l unit rs = ([], sysP rs) := (if_neg (by simpa using h)).trans (if_pos h2)
      simp only [push_cast, Nat.reduceAdd, Nat.reduceSub, Nat.reduceMul, Nat.reduceLT, Nat.reduceLeDiff, Nat.reduceEqDiff, Int.reduceToNat, ↓reduceIte]
      refine cI (fun h => absurd h h2) (fun _ => ?_)
      simp only [push_cast, Nat.reduceAdd, Nat.reduceSub, Nat.reduceMul, Nat.reduceLT, Nat.reduceLeDiff, Nat.reduceEqDiff, Int.reduceToNat, ↓reduceIte, e, encL_nil]
  · have e : orientsP l unit rs = ([], wcheckP l unit) := if_pos h
    simp only [push_cast, Nat.reduceAdd, Nat.reduceSub, Nat.reduceMul, Nat.reduceLT, Nat.reduceLeDiff, Nat.reduceEqDiff, Int.reduceToNat, ↓reduceIte, e, encL_nil]
end Ab
set_option maxRecDepth 10000
namespace Ab
open Go Go.Proofs
theorem kboTs_self (l : List Rank) (unit : Int) (xs : List Term) : kboTs l unit xs xs = false := by
  have := kboTs_drop l unit xs xs xs.length rfl
  rw [this, List.drop_length]; exact kboTs_nil _ _ _
theorem above_self (l : List Rank) (unit : Int) (t : Term) : aboveP l unit t t = false := by
  unfold aboveP; rw [kboTs_self]; simp [kboC]
theorem above_iff (l : List Rank) (unit : Int) (s t : Term) : aboveP l unit s t = true ↔ coversP s t = true ∧
    (weightP l unit t < weightP l unit s ∨ (weightP l unit s = weightP l unit t ∧ s.var = false ∧ (t.var = true ∨
      (t.var = false ∧ (((s.name ≠ t.name ∨ s.args.length ≠ t.args.length) ∧ (ofP l t.name).rank < (ofP l s.name).rank) ∨ (s.name = t.name ∧ s.args.length = t.args.length ∧ kboTs l unit s.args t.args = true)))))) := by
  unfold aboveP kboC
  cases hc : coversP s t with
  | false => simp
  | true =>
    simp only [Bool.true_eq_false, if_false, true_and]
    by_cases hw : weightP l unit s = weightP l unit t
    · cases hv : s.var with
      | true => simp [hw]
      | false =>
        cases hu : t.var with
        | true => simp [hw]
        | false =>
          by_cases hn : s.name = t.name
          · by_cases hl : s.args.length = t.args.length
            · simp [hw, hn, hl]
            · simp [hw, hn, hl]
          · simp [hw, hn]
    · simp [hw]
theorem kboTs_trans (l : List Rank) (unit : Int) : ∀ (xs : List Term), (∀ x, x ∈ xs → ∀ y z, aboveP l unit x y = true → aboveP l unit y z = true → aboveP l unit x z = true) →
    ∀ ys zs, kboTs l unit xs ys = true → kboTs l unit ys zs = true → kboTs l unit xs zs = true
  | [], _, ys, zs, h1, _ => by rw [kboTs_nil] at h1; cases h1
  | x :: xs, ih, ys, zs, h1, h2 => by
    cases ys with
    | nil => rw [kboTs_nil] at h2; cases h2
    | cons y ys =>
      cases zs with
      | nil => cases y with | mk n v us => simp [kboTs] at h2
      | cons z zs =>
        rw [kboTs_cons] at h1 h2 ⊢
        by_cases hxy : x = y
        · subst hxy
          rw [if_pos rfl] at h1
          by_cases hyz : x = z
          · subst hyz
            rw [if_pos rfl] at h2 ⊢
            exact kboTs_trans l unit xs (fun a ha => ih a (by simp [ha])) ys zs h1 h2
          · rw [if_neg hyz] at h2 ⊢; exact h2
        · rw [if_neg hxy] at h1
          by_cases hyz : y = z
          · subst hyz; rw [if_neg hxy]; exact h1
          · rw [if_neg hyz] at h2
            have h3 := ih x (by simp) y z h1 h2
            by_cases hxz : x = z
            · subst hxz; rw [above_self] at h3; cases h3
            · rw [if_neg hxz]; exact h3
theorem above_trans (l : List Rank) (unit : Int) (s : Term) : ∀ t u, aboveP l unit s t = true → aboveP l unit t u = true → aboveP l unit s u = true := by
  refine Term.ind (p := fun s => ∀ t u, aboveP l unit s t = true → aboveP l unit t u = true → aboveP l unit s u = true) (fun n v xs ih => ?_) s
  intro t u h1 h2
  rw [above_iff] at h1 h2 ⊢
  obtain ⟨c1, h1⟩ := h1
  obtain ⟨c2, h2⟩ := h2
  refine ⟨(coversP_iff _ _).2 fun x => Int.le_trans ((coversP_iff _ _).1 c2 x) ((coversP_iff _ _).1 c1 x), ?_⟩
  rcases h1 with h1 | ⟨w1, v1, h1⟩
  · left
    rcases h2 with h2 | ⟨w2, _⟩ <;> omega
  · rcases h2 with h2 | ⟨w2, v2, h2⟩
    · left; omega
    · right
      refine ⟨by omega, v1, ?_⟩
      rcases h1 with h1 | ⟨_, h1⟩
      · rw [v2] at h1; cases h1
      · rcases h2 with h2 | ⟨u2, h2⟩
        · exact .inl h2
        · refine .inr ⟨u2, ?_⟩
          rcases h1 with ⟨d1, r1⟩ | ⟨e1, e1', k1⟩
          · rcases h2 with ⟨d2, r2⟩ | ⟨e2, e2', k2⟩
            · left
              refine ⟨?_, by omega⟩
              left
              intro e
              have e' : (Term.mk n v xs).name = u.name := e
              rw [e'] at r1; omega
            · left
              rw [← e2, ← e2']; exact ⟨d1, r1⟩
          · rcases h2 with ⟨d2, r2⟩ | ⟨e2, e2', k2⟩
            · left
              rw [e1, e1']; exact ⟨d2, r2⟩
            · right
              exact ⟨e1.trans e2, e1'.trans e2', kboTs_trans l unit xs ih t.args u.args k1 k2⟩
def gtP (l : List Rank) (unit : Int) (s t : Term) : Bool := decide ((greaterP l unit s t).2 = 0) && (greaterP l unit s t).1
def okP (l : List Rank) (unit : Int) (ts : List Term) : Bool := decide (wcheckP l unit = 0) && (decide (firstErr ts = 0) && fitsW l unit (symsP ts))
theorem fitsW_mono (l : List Rank) (unit : Int) {s1 s2 : List Sym} (h : ∀ f, f ∈ s1 → f ∈ s2) (hf : fitsW l unit s2 = true) : fitsW l unit s1 = true := by
  unfold fitsW at hf ⊢
  rw [List.all_eq_true] at hf ⊢
  intro f hf1
  have h2 := hf f (h f hf1)
  unfold fitsAt at h2 ⊢
  rw [Bool.and_eq_true] at h2 ⊢
  refine ⟨h2.1, ?_⟩
  have h3 := h2.2
  rw [Bool.or_eq_true] at h3 ⊢
  rcases h3 with h3 | h3
  · exact .inl h3
  · right
    rw [Bool.not_eq_true', List.any_eq_false] at h3 ⊢
    exact fun g hg => h3 g (h g hg)
theorem mem_syms_sub {ts us : List Term} (h : ∀ t, t ∈ ts → t ∈ us) : ∀ f, f ∈ symsP ts → f ∈ symsP us := by
  intro f hf
  rw [mem_symsP, List.mem_flatMap] at hf ⊢
  obtain ⟨t, ht, hf⟩ := hf
  exact ⟨t, h t ht, hf⟩
theorem okP_iff (l : List Rank) (unit : Int) (ts : List Term) : okP l unit ts = true ↔ wcheckP l unit = 0 ∧ (∀ t, t ∈ ts → checkP t = 0) ∧ fitsW l unit (symsP ts) = true := by
  unfold okP; rw [Bool.and_eq_true, Bool.and_eq_true, decide_eq_true_eq, decide_eq_true_eq, firstErr_iff]
theorem okP_sub (l : List Rank) (unit : Int) {ts us : List Term} (h : ∀ t, t ∈ ts → t ∈ us) (hk : okP l unit us = true) : okP l unit ts = true := by
  rw [okP_iff] at hk ⊢
  exact ⟨hk.1, fun t ht => hk.2.1 t (h t ht), fitsW_mono l unit (mem_syms_sub h) hk.2.2⟩
theorem gtP_iff (l : List Rank) (unit : Int) (s t : Term) : gtP l unit s t = true ↔ okP l unit [s, t] = true ∧ aboveP l unit s t = true := by
  rw [okP_iff]
  unfold gtP greaterP
  rw [← firstErr_iff]
  by_cases h1 : wcheckP l unit = 0
  · by_cases h2 : firstErr [s, t] = 0
    · cases h3 : fitsW l unit (symsP [s, t]) <;> simp [h1, h2]
    · simp [h1, h2]
  · simp [h1]
end Ab
set_option maxRecDepth 10000
namespace Ab
open Go Go.Proofs
def entryP (l : List Rank) (v : List UInt8) : Rank := (l.find? fun x => decide (x.name = v)).getD ⟨v, 0, 0⟩
theorem entry_rank (l : List Rank) (v : List UInt8) : (entryP l v).rank = (ofP l v).rank ∧ (entryP l v).weight = (ofP l v).weight := by
  unfold entryP ofP
  cases l.find? fun x => decide (x.name = v) <;> simp [zeroR]
theorem entry_ac (l : List Rank) (v : List UInt8) (hlen : l.length < 1099511627776) (H : List AObj) : ACall Tryz.prog 26 [.sl .none (encL encR l), .str v] H (fun r H' => r = encR (entryP l v) ∧ H' = H) := by
  refine ACall_V (H.length) 19 [.cell 4 59] Tryz.func26 rfl rfl rfl ?_
  simp only [push_cast, Nat.reduceAdd, Nat.reduceSub, Nat.reduceMul, Nat.reduceLT, Nat.reduceLeDiff, Nat.reduceEqDiff, Int.reduceToNat, ↓reduceIte]
  refine AW_loopW (maskG 21 [1, 2, 2, 0, 0]) (fun (i : Nat) => [(9, .int .i64 i)]) (fun _ => H ++ [.cells [.str [], .int .i64 0, .int .i64 0]]) (fun i => i ≤ l.length ∧ ∀ x, x ∈ l.take i → ¬ x.name = v) (fun i => l.length - i) 0 ⟨Nat.zero_le _, by simp⟩ (by simp only [push_cast, Nat.reduceAdd, Nat.reduceSub, Nat.reduceMul, Nat.reduceLT, Nat.reduceLeDiff, Nat.reduceEqDiff, Int.reduceToNat, ↓reduceIte]) (fun i hi => ?_)
  obtain ⟨hi1, hi2⟩ := hi
  simp only [push_cast, Nat.reduceAdd, Nat.reduceSub, Nat.reduceMul, Nat.reduceLT, Nat.reduceLeDiff, Nat.reduceEqDiff, Int.reduceToNat, ↓reduceIte]
  refine cI (fun h => ?_) (fun h => ?_)
  · have hil : i < l.length := by omega
    refine ⟨hil, ?_⟩
    refine cI (fun hn => ?_) (fun hn => ?_)
    · have hf : l.find? (fun x => decide (x.name = v)) = some l[i] := by
        rw [List.find?_eq_some_iff_getElem]
        refine ⟨by simpa using hn, i, hil, rfl, fun j hj => ?_⟩
        have := hi2 l[j] (by rw [List.mem_take_iff_getElem]; exact ⟨j, by omega, rfl⟩)
        simpa using this
      have he : entryP l v = l[i] := by simp [entryP, hf]
      rw [he]
      simp only [push_cast, Nat.reduceAdd, Nat.reduceSub, Nat.reduceMul, Nat.reduceLT, Nat.reduceLeDiff, Nat.reduceEqDiff, Int.reduceToNat, ↓reduceIte]
    · repeat' first | refine ⟨by omega, ?_⟩ | refine cI (fun _ => ?_) (fun _ => ?_)
      refine loopW_n (i + 1) ⟨by omega, fun x hx => ?_⟩ (by omega) (by simp only [push_cast, Nat.reduceAdd, Nat.reduceSub, Nat.reduceMul, Nat.reduceLT, Nat.reduceLeDiff, Nat.reduceEqDiff, Int.reduceToNat, ↓reduceIte])
      rw [List.take_succ_eq_append_getElem hil] at hx
      rcases List.mem_append.1 hx with h | h
      · exact hi2 x h
      · simp at h; subst h; exact hn
  · have e : l.take i = l := List.take_of_length_le (by omega)
    rw [e] at hi2
    have hf : l.find? (fun x => decide (x.name = v)) = none := by rw [List.find?_eq_none]; intro x hx; simpa using hi2 x hx
    have he : entryP l v = ⟨v, 0, 0⟩ := by simp [entryP, hf]
    rw [he]
    simp only [push_cast, Nat.reduceAdd, Nat.reduceSub, Nat.reduceMul, Nat.reduceLT, Nat.reduceLeDiff, Nat.reduceEqDiff, Int.reduceToNat, ↓reduceIte]
theorem aboveE_ac (l : List Rank) (v u : List UInt8) (hlen : l.length < 1099511627776) (H : List AObj) : ACall Tryz.prog 27 [.sl .none (encL encR l), .str v, .str u] H (fun r H' => r = .bool (decide ((ofP l u).rank < (ofP l v).rank)) ∧ H' = H) := by
  refine ACall_V (H.length) 13 [.tmp 6] Tryz.func27 rfl rfl rfl ?_
  simp only [push_cast, Nat.reduceAdd, Nat.reduceSub, Nat.reduceMul, Nat.reduceLT, Nat.reduceLeDiff, Nat.reduceEqDiff, Int.reduceToNat, ↓reduceIte]
  refine (entry_ac l v hlen _).to ?_
  simp only [push_cast, Nat.reduceAdd, Nat.reduceSub, Nat.reduceMul, Nat.reduceLT, Nat.reduceLeDiff, Nat.reduceEqDiff, Int.reduceToNat, ↓reduceIte]
  refine (entry_ac l u hlen _).to ?_
  simp only [push_cast, Nat.reduceAdd, Nat.reduceSub, Nat.reduceMul, Nat.reduceLT, Nat.reduceLeDiff, Nat.reduceEqDiff, Int.reduceToNat, ↓reduceIte, (entry_rank l v).1, (entry_rank l u).1]
end Ab
set_option maxRecDepth 10000
namespace Ab
open Go Go.Proofs
set_option maxHeartbeats 1000000 in
theorem listed_ac (l : List Rank) (hlen : l.length < 1099511627776) (hnl : ∀ x, x ∈ l → x.name.length < 1099511627776) (H : List AObj) : ACall Tryz.prog 22 [.sl .none (encL encR l)] H (fun r H' => r = .int .i64 (namesP l) ∧ H' = H) := by
  refine ACall_V (H.length) 35 [.tmp 2] Tryz.func22 rfl rfl rfl ?_
  simp only [push_cast, Nat.reduceAdd, Nat.reduceSub, Nat.reduceMul, Nat.reduceLT, Nat.reduceLeDiff, Nat.reduceEqDiff, Int.reduceToNat, ↓reduceIte]
  unfold namesP
  refine cI (fun h => ?_) (fun h => ?_)
  · rw [if_pos (by omega)]
  · rw [if_neg (by omega)]
    refine AW_loopW (maskG 36 [0, 7, 0, 0]) (fun (i : Nat) => [(10, .int .i64 i)]) (fun _ => H) (fun i => i ≤ l.length ∧ ∀ j, j < i → goodAt l j = true) (fun i => l.length - i) 0 ⟨Nat.zero_le _, fun _ h => absurd h (by omega)⟩ (by simp only [push_cast, Nat.reduceAdd, Nat.reduceSub, Nat.reduceMul, Nat.reduceLT, Nat.reduceLeDiff, Nat.reduceEqDiff, Int.reduceToNat, ↓reduceIte]) (fun i hi => ?_)
    obtain ⟨hi1, hi2⟩ := hi
    simp only [push_cast, Nat.reduceAdd, Nat.reduceSub, Nat.reduceMul, Nat.reduceLT, Nat.reduceLeDiff, Nat.reduceEqDiff, Int.reduceToNat, ↓reduceIte]
    refine cI (fun h1 => ?_) (fun h1 => ?_)
    · have hil : i < l.length := by omega
      refine ⟨hil, ?_⟩
      have hg := goodAt_eq l i hil
      have hbad : goodAt l i = false → (if (List.range l.length).all (goodAt l) then (0 : Int) else 4) = 4 := fun hb => if_neg (by
        rw [List.all_eq_true]
        intro hall
        have := hall i (List.mem_range.2 hil)
        rw [hb] at this; cases this)
      have hnm := hnl _ (List.getElem_mem hil)
      have his := fun X => isNameR_ac l[i].name true hnm X
      cases hA : isNameP l[i].name true with
      | false =>
        rw [hA] at hg his
        apply AW_drawE [some 15, some 16, some 17, some 18, some 19, some 20, some 21, some 22, some 23, some 24, some 25, some 26, some 27, some 28, some 29, some 30, some 31, some 32, some 33, some 34] [([], _)] [none, none, none, none, none, none, none, none, none, none, none, none, none, none, none, none, none, none, none, none] 0 [(0, [], [4]), (1, [], [15]), (2, [], [16]), (3, [], [17]), (4, [], [18]), (5, [], [3, 15]), (6, [], [19, 0]), (7, [], [19, 1]), (8, [], [0, 21]), (9, [], [3, 18]), (10, [], [22, 1]), (11, [], [22, 0, 1]), (12, [], [22, 3]), (13, [], [22, 4]), (14, [], [4, 17]), (15, [], [22, 6]), (16, [], [22, 5, 1]), (17, [], [22, 8]), (18, [], [19, 2, 9]), (19, [], [19, 13])] [_, _, _, _, _, _, _, _, _, _, _, _, _, _, _, _, _, _, _, _]
        case' hm => exact dr
        case' hn => rfl
        case' hok => rfl
        case' hlen => rfl
        case' hd => rfl
        case' h0 => rfl
        case' hstep =>
         simp only [DAllG, push_cast, Option.isSome_some, Option.isSome_none]
         repeat' apply And.intro
         all_goals (apply DOne_V; simp only [push_cast, Nat.reduceAdd, Nat.reduceSub, Nat.reduceMul, Nat.reduceLT, Nat.reduceLeDiff, Nat.reduceEqDiff, Int.reduceToNat, ↓reduceIte] <;> first | exact rfl | omega | exact ⟨rfl, rfl⟩ | exact trivial | exact ⟨by omega, rfl⟩ | exact ⟨by omega, by omega, rfl⟩ | exact ⟨by omega, rfl, rfl⟩ | exact ⟨by omega, by omega, rfl, rfl⟩ | (refine (his _).to ?_; exact ⟨rfl, rfl⟩))
        case' hQ => skip
        simp only [push_cast, Nat.reduceAdd, Nat.reduceSub, Nat.reduceMul, Nat.reduceLT, Nat.reduceLeDiff, Nat.reduceEqDiff, Int.reduceToNat, ↓reduceIte]
        rw [hbad hg]
      | true =>
        rw [hA] at hg his
        by_cases h0 : i = 0
        · have hd : decide ((0 : Int) < (i : Int)) = false := by rw [decide_eq_false_iff_not]; omega
          apply AW_drawE [some 15, some 16, some 17, some 18, some 19, some 20, some 21, some 22, some 23, some 24, some 25, some 26, some 27, some 28, some 29, some 30, some 31, some 32, some 33, some 34] [([], _)] [none, none, none, none, none, none, none, none, none, none, none, none, none, none, none, none, none, none, none, none] 0 [(0, [], [4]), (1, [], [15]), (2, [], [16]), (3, [], [17]), (4, [], [18]), (5, [], [3, 15]), (6, [], [19, 0]), (7, [], [19, 1]), (8, [], [0, 21]), (9, [], [3, 18]), (10, [], [22, 1]), (11, [], [22, 0, 1]), (12, [], [22, 3]), (13, [], [22, 4]), (14, [], [4, 17]), (15, [], [22, 6]), (16, [], [22, 5, 1]), (17, [], [22, 8]), (18, [], [19, 2, 9]), (19, [], [19, 13])] [_, _, _, _, _, _, _, _, _, _, _, _, _, _, _, _, _, _, _, _]
          case' hm => exact dr
          case' hn => rfl
          case' hok => rfl
          case' hlen => rfl
          case' hd => rfl
          case' h0 => rfl
          case' hstep =>
           simp only [DAllG, push_cast, Option.isSome_some, Option.isSome_none]
           repeat' apply And.intro
           all_goals (apply DOne_V; simp only [push_cast, Nat.reduceAdd, Nat.reduceSub, Nat.reduceMul, Nat.reduceLT, Nat.reduceLeDiff, Nat.reduceEqDiff, Int.reduceToNat, ↓reduceIte, hd] <;> first | exact rfl | omega | exact ⟨rfl, rfl⟩ | exact trivial | exact ⟨by omega, rfl⟩ | exact ⟨by omega, by omega, rfl⟩ | exact ⟨by omega, rfl, rfl⟩ | exact ⟨by omega, by omega, rfl, rfl⟩ | (refine (his _).to ?_; exact ⟨rfl, rfl⟩))
          case' hQ => skip
          simp only [push_cast, Nat.reduceAdd, Nat.reduceSub, Nat.reduceMul, Nat.reduceLT, Nat.reduceLeDiff, Nat.reduceEqDiff, Int.reduceToNat, ↓reduceIte]
          repeat' first | refine ⟨by omega, ?_⟩ | refine cI (fun _ => ?_) (fun _ => ?_)
          exact loopW_n (i + 1) ⟨by omega, fun j hj => by
            by_cases e : j = i
            · rw [e, hg]; simp [h0]
            · exact hi2 j (by omega)⟩ (by omega) (by simp only [push_cast, Nat.reduceAdd, Nat.reduceSub, Nat.reduceMul, Nat.reduceLT, Nat.reduceLeDiff, Nat.reduceEqDiff, Int.reduceToNat, ↓reduceIte])
        · have hd : decide ((0 : Int) < (i : Int)) = true := by rw [decide_eq_true_eq]; omega
          have hpl : i - 1 < l.length := by omega
          have hcp := fun X => cmpNames_ac (l[i - 1]'hpl).name l[i].name (hnl _ (List.getElem_mem hpl)) hnm X
          have hm : (i : Int) - 1 = ((i - 1 : Nat) : Int) := by omega
          have hd0 : decide (i = 0) = false := decide_eq_false h0
          have hg' : goodAt l i = !leB l[i].name (l[i - 1]'hpl).name := by rw [hg, hd0]; simp
          apply AW_drawE [some 15, some 16, some 17, some 18, some 19, some 20, some 21, some 22, some 23, some 24, some 25, some 26, some 27, some 28, some 29, some 30, some 31, some 32, some 33, some 34] [([], _)] [none, none, none, none, none, none, none, none, none, none, none, none, none, none, none, none, none, none, none, none] 0 [(0, [], [4]), (1, [], [15]), (2, [], [16]), (3, [], [17]), (4, [], [18]), (5, [], [3, 15]), (6, [], [19, 0]), (7, [], [19, 1]), (8, [], [0, 21]), (9, [], [3, 18]), (10, [], [22, 1]), (11, [], [22, 0, 1]), (12, [], [22, 3]), (13, [], [22, 4]), (14, [], [4, 17]), (15, [], [22, 6]), (16, [], [22, 5, 1]), (17, [], [22, 8]), (18, [], [19, 2, 9]), (19, [], [19, 13])] [_, _, _, _, _, _, _, _, _, _, _, _, _, _, _, _, _, _, _, _]
          case' hm => exact dr
          case' hn => rfl
          case' hok => rfl
          case' hlen => rfl
          case' hd => rfl
          case' h0 => rfl
          case' hstep =>
           simp only [DAllG, push_cast, Option.isSome_some, Option.isSome_none]
           repeat' apply And.intro
           all_goals (apply DOne_V; simp only [push_cast, Nat.reduceAdd, Nat.reduceSub, Nat.reduceMul, Nat.reduceLT, Nat.reduceLeDiff, Nat.reduceEqDiff, Int.reduceToNat, ↓reduceIte, hd, hm] <;> first | exact rfl | omega | exact ⟨rfl, rfl⟩ | exact trivial | exact ⟨by omega, rfl⟩ | exact ⟨by omega, by omega, rfl⟩ | exact ⟨by omega, rfl, rfl⟩ | exact ⟨by omega, by omega, rfl, rfl⟩ | (refine (his _).to ?_; exact ⟨rfl, rfl⟩) | (refine (hcp _).to ?_; exact ⟨rfl, rfl⟩) | exact ⟨⟨by omega, by omega⟩, trivial⟩ | exact ⟨⟨by omega, by omega⟩, rfl⟩)
          case' hQ => skip
          simp only [push_cast, Nat.reduceAdd, Nat.reduceSub, Nat.reduceMul, Nat.reduceLT, Nat.reduceLeDiff, Nat.reduceEqDiff, Int.reduceToNat, ↓reduceIte]
          refine cI (fun hb => ?_) (fun hb => ?_)
          · rw [hbad (by rw [hg', (leB_cmp _ _).2 (by omega)]; rfl)]
          · repeat' first | refine ⟨by omega, ?_⟩ | refine cI (fun _ => ?_) (fun _ => ?_)
            exact loopW_n (i + 1) ⟨by omega, fun j hj => by
              by_cases e : j = i
              · have hq : leB l[i].name (l[i - 1]'hpl).name = false := by
                  rw [Bool.eq_false_iff]; intro h
                  have := (leB_cmp _ _).1 h
                  omega
                rw [e, hg', hq]; rfl
              · exact hi2 j (by omega)⟩ (by omega) (by simp only [push_cast, Nat.reduceAdd, Nat.reduceSub, Nat.reduceMul, Nat.reduceLT, Nat.reduceLeDiff, Nat.reduceEqDiff, Int.reduceToNat, ↓reduceIte])
    · rw [if_pos (List.all_eq_true.2 fun j hj => hi2 j (by have := List.mem_range.1 hj; omega))]
theorem checkR7_ac (l : List Rank) (unit : Int) (hlen : l.length < 1099511627776) (hnl : ∀ x, x ∈ l → x.name.length < 1099511627776) (H : List AObj) : ACall Tryz.prog 6 [.sl .none (encL encR l), .int .i64 unit] H (fun r H' => r = .int .i64 (wcheckP l unit) ∧ H' = H) := by
  refine ACall_V (H.length) 42 [.tmp 4] Tryz.func6 rfl rfl rfl ?_
  simp only [push_cast, Nat.reduceAdd, Nat.reduceSub, Nat.reduceMul, Nat.reduceLT, Nat.reduceLeDiff, Nat.reduceEqDiff, Int.reduceToNat, ↓reduceIte]
  refine (listed_ac l hlen hnl _).to ?_
  simp only [push_cast, Nat.reduceAdd, Nat.reduceSub, Nat.reduceMul, Nat.reduceLT, Nat.reduceLeDiff, Nat.reduceEqDiff, Int.reduceToNat, ↓reduceIte]
  unfold wcheckP
  refine cI (fun h => ?_) (fun h => ?_)
  · rw [if_neg (by simpa using h)]
    refine AW_loopW (maskG 44 [1, 11, 0, 0]) (fun (i : Nat) => [(15, .int .i64 i)]) (fun _ => H) (fun i => i ≤ l.length ∧ (l.take i).any (fun x => badP x.rank || badP x.weight) = false) (fun i => l.length - i) 0 ⟨Nat.zero_le _, by simp⟩ (by simp only [push_cast, Nat.reduceAdd, Nat.reduceSub, Nat.reduceMul, Nat.reduceLT, Nat.reduceLeDiff, Nat.reduceEqDiff, Int.reduceToNat, ↓reduceIte]) (fun i hi => ?_)
    obtain ⟨hi1, hi2⟩ := hi
    simp only [push_cast, Nat.reduceAdd, Nat.reduceSub, Nat.reduceMul, Nat.reduceLT, Nat.reduceLeDiff, Nat.reduceEqDiff, Int.reduceToNat, ↓reduceIte]
    refine cI (fun h1 => ?_) (fun h1 => ?_)
    · have hil : i < l.length := by omega
      refine ⟨hil, ?_⟩
      have hx : (badP l[i].rank || badP l[i].weight) = (decide (l[i].rank < 0) || (decide (1000 < l[i].rank) || (decide (l[i].weight < 0) || decide (1000 < l[i].weight)))) := by unfold badP; rw [Bool.or_assoc]
      have hbad : (badP l[i].rank || badP l[i].weight) = true → (if ((l.any fun x => badP x.rank || badP x.weight) || decide (unit < 1) || badP unit) = true then (2 : Int) else 0) = 2 := fun hb => if_pos (by rw [any_get (i := i) hil hb]; rfl)
      have hgo : (badP l[i].rank || badP l[i].weight) = false → (l.take (i + 1)).any (fun x => badP x.rank || badP x.weight) = false := fun hb => any_take_false hi2 hil hb
      refine cI (fun h2 => ?_) (fun h2 => ?_)
      · rw [hbad (by rw [hx, decide_eq_true h2]; rfl)]
      · refine cI (fun h3 => ?_) (fun h3 => ?_)
        · rw [hbad (by rw [hx, decide_eq_true h3]; simp)]
        · refine cI (fun h4 => ?_) (fun h4 => ?_)
          · rw [hbad (by rw [hx, decide_eq_true h4]; simp)]
          · refine cI (fun h5 => ?_) (fun h5 => ?_)
            · rw [hbad (by rw [hx, decide_eq_true h5]; simp)]
            · repeat' first | refine ⟨by omega, ?_⟩ | refine cI (fun _ => ?_) (fun _ => ?_)
              exact loopW_n (i + 1) ⟨by omega, hgo (by rw [hx, decide_eq_false h2, decide_eq_false h3, decide_eq_false h4, decide_eq_false h5]; rfl)⟩ (by omega) (by simp only [push_cast, Nat.reduceAdd, Nat.reduceSub, Nat.reduceMul, Nat.reduceLT, Nat.reduceLeDiff, Nat.reduceEqDiff, Int.reduceToNat, ↓reduceIte])
    · rw [List.take_of_length_le (show l.length ≤ i by omega)] at hi2
      rw [hi2]
      unfold badP
      refine cI (fun h2 => ?_) (fun h2 => ?_)
      · rw [decide_eq_true h2]; simp
      · refine cI (fun h3 => ?_) (fun h3 => ?_)
        · rw [decide_eq_true h3]; simp
        · rw [decide_eq_false h2, decide_eq_false h3, decide_eq_false (show ¬ unit < 0 by omega)]; simp
  · rw [if_pos h]
def ofL (ts : List Term) : List Sym := ts.flatMap ofT
theorem ofL_take (ts : List Term) (i : Nat) (h : i < ts.length) : ofL (ts.take (i + 1)) = ofL (ts.take i) ++ ofT ts[i] := by
  unfold ofL; rw [List.take_succ_eq_append_getElem h, List.flatMap_append]; simp
theorem ofT_args (t : Term) : ofT t = ofL t.args ++ if t.var then [] else [⟨t.name, t.args.length⟩] := by cases t; rw [ofT_mk]; rfl
theorem ofL_length (ts : List Term) : (ofL ts).length ≤ (ts.map Term.size).sum := by
  unfold ofL
  rw [List.length_flatMap]
  exact sum_le_sum fun x _ => ofT_length x
theorem ofR_step (ts : List Term) (hlen : ts.length < 1099511627776) (hsz : (ts.map Term.size).sum ≤ 1099511627775) (ih : ∀ x, x ∈ ts → ∀ H, ACall Tryz.prog 9 [.sl .none (encTs x.args)] H (fun r H' => r = .sl .none (encL encS (ofL x.args)) ∧ H' = H)) (H : List AObj) :
    ACall Tryz.prog 9 [.sl .none (encTs ts)] H (fun r H' => r = .sl .none (encL encS (ofL ts)) ∧ H' = H) := by
  have hbd : ∀ i (h : i < ts.length), (ofL (ts.take i)).length + (ofL ts[i].args).length + (if ts[i].var then 0 else 1) ≤ 1099511627775 := by
    intro i h
    have h1 := ofL_length (ts.take (i + 1))
    have h2 := take_sum_le Term.size ts (i + 1)
    rw [ofL_take ts i h, List.length_append, ofT_args, List.length_append] at h1
    cases hv : ts[i].var <;> simp only [hv, if_true, if_false, Bool.false_eq_true, List.length_cons, List.length_nil] at h1 ⊢ <;> omega
  refine ACall_VA (H.length) 30 [.tmp 2] Tryz.func9 rfl rfl rfl ?_
  refine AW_reserve 1 ?_
  refine AW_of_W ?_
  simp only [push_cast, Nat.reduceAdd, Nat.reduceSub, Nat.reduceMul, Nat.reduceLT, Nat.reduceLeDiff, Nat.reduceEqDiff, Int.reduceToNat, ↓reduceIte]
  refine AW_loopW (maskG 31 [3, 2, 0, 0]) (fun (i : Nat) => [(8, .int .i64 i), (3, gSl H.length (encL encS (ofL (ts.take i))))]) (fun i => H ++ [gTok 64 2 (encL encS (ofL (ts.take i)))]) (fun i => i ≤ ts.length) (fun i => ts.length - i) 0 (Nat.zero_le _) (by simp only [push_cast, Nat.reduceAdd, Nat.reduceSub, Nat.reduceMul, Nat.reduceLT, Nat.reduceLeDiff, Nat.reduceEqDiff, Int.reduceToNat, ↓reduceIte, List.take_zero, show ofL [] = [] from rfl, encL_nil]) (fun i hi => ?_)
  simp only [push_cast, Nat.reduceAdd, Nat.reduceSub, Nat.reduceMul, Nat.reduceLT, Nat.reduceLeDiff, Nat.reduceEqDiff, Int.reduceToNat, ↓reduceIte]
  refine cI (fun h => ?_) (fun h => ?_)
  · have hil : i < ts.length := by omega
    have hb := hbd i hil
    have e := ofL_take ts i hil
    have e2 := ofT_args (ts[i]'hil)
    refine ⟨hil, ?_⟩
    refine (ih _ (List.getElem_mem hil) _).to ?_
    simp only [push_cast, Nat.reduceAdd, Nat.reduceSub, Nat.reduceMul, Nat.reduceLT, Nat.reduceLeDiff, Nat.reduceEqDiff, Int.reduceToNat, ↓reduceIte]
    refine app_L encS (sz := 2) (fun _ => rfl) cellSm _ H.length (ofL (ts.take i)) (ofL (ts[i]'hil).args) _ rfl rfl (by exact aget0 _ _ _) sl33 sz64 by64 zr64 rfl (by decide) (by decide) (by omega) ?_
    simp only [push_cast, Nat.reduceAdd, Nat.reduceSub, Nat.reduceMul, Nat.reduceLT, Nat.reduceLeDiff, Nat.reduceEqDiff, Int.reduceToNat, ↓reduceIte]
    refine cI (fun hv => ?_) (fun hv => ?_)
    · rw [hv, if_pos rfl, List.append_nil] at e2
      rw [← e2, ← e]
      repeat' first | refine ⟨by omega, ?_⟩ | refine cI (fun _ => ?_) (fun _ => ?_)
      exact loopW_n (i + 1) (by omega) (by omega) (by simp only [push_cast, Nat.reduceAdd, Nat.reduceSub, Nat.reduceMul, Nat.reduceLT, Nat.reduceLeDiff, Nat.reduceEqDiff, Int.reduceToNat, ↓reduceIte])
    · have hv : (ts[i]'hil).var = false := by simpa using hv
      rw [hv] at e2 hb
      simp only [Bool.false_eq_true, if_false] at hb e2
      refine app1_L encS (sz := 2) (fun _ => rfl) cellSm _ H.length (ofL (ts.take i) ++ ofL (ts[i]'hil).args) ⟨(ts[i]'hil).name, (ts[i]'hil).args.length⟩ _ rfl rfl (by exact aget0 _ _ _) sl33 sz64 by64 zr64 rfl (by decide) (by decide) (by rw [List.length_append]; omega) ?_
      rw [List.append_assoc, ← e2, ← e]
      simp only [push_cast, Nat.reduceAdd, Nat.reduceSub, Nat.reduceMul, Nat.reduceLT, Nat.reduceLeDiff, Nat.reduceEqDiff, Int.reduceToNat, ↓reduceIte]
      repeat' first | refine ⟨by omega, ?_⟩ | refine cI (fun _ => ?_) (fun _ => ?_)
      exact loopW_n (i + 1) (by omega) (by omega) (by simp only [push_cast, Nat.reduceAdd, Nat.reduceSub, Nat.reduceMul, Nat.reduceLT, Nat.reduceLeDiff, Nat.reduceEqDiff, Int.reduceToNat, ↓reduceIte])
  · rw [List.take_of_length_le (show ts.length ≤ i by omega)]
theorem ofR_args (t : Term) : t.bulk ≤ 1099511627775 → ∀ H, ACall Tryz.prog 9 [.sl .none (encTs t.args)] H (fun r H' => r = .sl .none (encL encS (ofL t.args)) ∧ H' = H) := by
  refine Term.ind (p := fun t => t.bulk ≤ 1099511627775 → ∀ H, ACall Tryz.prog 9 [.sl .none (encTs t.args)] H (fun r H' => r = .sl .none (encL encS (ofL t.args)) ∧ H' = H)) (fun n v xs ih => ?_) t
  intro hb H
  have h1 := (Term.mk n v xs).size_le
  have h2 := Term.len_le (n := n) (v := v) (xs := xs)
  rw [Term.size_mk] at h1
  exact ofR_step xs (by omega) (by omega) (fun x hx => ih x hx (by have := Term.arg_le (n := n) (v := v) hx; omega)) H
theorem ofR_ac (ts : List Term) (hlen : ts.length < 1099511627776) (hb : ∀ x, x ∈ ts → x.bulk ≤ 1099511627775) (hsz : (ts.map Term.size).sum ≤ 1099511627775) (H : List AObj) :
    ACall Tryz.prog 9 [.sl .none (encTs ts)] H (fun r H' => r = .sl .none (encL encS (ofL ts)) ∧ H' = H) := ofR_step ts hlen hsz (fun x hx => ofR_args x (hb x hx)) H
end Ab
set_option maxRecDepth 10000
namespace Ab
open Go Go.Proofs
theorem sum_mono_count {α : Type} [BEq α] [LawfulBEq α] (g : α → Int) (hg : ∀ x, 0 ≤ g x) : ∀ (l m : List α), (∀ x, l.count x ≤ m.count x) → (l.map g).sum ≤ (m.map g).sum
  | [], m, _ => by
    induction m with
    | nil => simp
    | cons a r ih => have h1 := hg a; have h2 := ih (fun x => by simp); simp only [List.map_nil, List.sum_nil, List.map_cons, List.sum_cons] at h2 ⊢; omega
  | a :: l, m, h => by
    have ha : a ∈ m := by
      have := h a
      rw [List.count_cons_self] at this
      exact List.count_pos_iff.1 (by omega)
    have hs : ∀ m : List α, a ∈ m → (m.map g).sum = g a + ((m.erase a).map g).sum := by
      intro m
      induction m with
      | nil => intro h; cases h
      | cons b r ih =>
        intro hm
        by_cases hb : b = a
        · subst hb; simp
        · have ha' : a ∈ r := by
            rcases List.mem_cons.1 hm with e | e
            · exact absurd e.symm hb
            · exact e
          rw [List.erase_cons_tail (by simpa using hb)]
          have := ih ha'
          simp only [List.map_cons, List.sum_cons]; omega
    have ih := sum_mono_count g hg l (m.erase a) (fun x => by
      have h1 := h x
      rw [List.count_cons] at h1
      rw [List.count_erase]
      by_cases hx : a = x
      · subst hx; simp at h1 ⊢; omega
      · have : ¬ (a == x) = true := by simpa using hx
        simp [hx] at h1 ⊢; omega)
    rw [hs m ha]
    simp only [List.map_cons, List.sum_cons]; omega
def vlist : Term → List (List UInt8)
  | .mk n u xs => (if u then [n] else []) ++ (xs.map vlist).flatten
theorem vlist_mk (n : List UInt8) (u : Bool) (xs : List Term) : vlist (.mk n u xs) = (if u then [n] else []) ++ xs.flatMap vlist := by simp [vlist, List.flatMap]
theorem sum_flat (f : Term → List (List UInt8)) (v : List UInt8) : ∀ xs : List Term, ((xs.flatMap f).count v : Int) = (xs.map fun t => ((f t).count v : Int)).sum
  | [] => by simp
  | x :: xs => by
    have := sum_flat f v xs
    simp only [List.flatMap_cons, List.count_append, List.map_cons, List.sum_cons]; omega
theorem count_vlist (v : List UInt8) (t : Term) : ((vlist t).count v : Int) = countP v t := by
  refine Term.ind (p := fun t => ((vlist t).count v : Int) = countP v t) (fun n u xs ih => ?_) t
  rw [vlist_mk, countP_mk, List.count_append]
  have h1 := sum_flat vlist v xs
  have h2 : (xs.map fun t => ((vlist t).count v : Int)) = xs.map (countP v) := List.map_congr_left ih
  rw [h2] at h1
  have h3 : ((if u then [n] else ([] : List (List UInt8))).count v : Int) = oneP v n u := by
    cases u with
    | false => simp [oneP]
    | true => by_cases hn : n = v <;> simp [oneP, hn]
  push_cast
  omega
def plainV : Term → Bool
  | .mk _ u xs => (!u || decide (xs.length = 0)) && (xs.map plainV).all id
theorem plainV_mk (n : List UInt8) (u : Bool) (xs : List Term) : plainV (.mk n u xs) = ((!u || decide (xs.length = 0)) && xs.all plainV) := by rw [plainV, List.all_map]; rfl
theorem plain_of_formed (t : Term) : formedP t = true → plainV t = true := by
  refine Term.ind (p := fun t => formedP t = true → plainV t = true) (fun n u xs ih => ?_) t
  intro h
  rw [formedP_mk] at h
  rw [plainV_mk]
  cases u with
  | true =>
    simp only [if_true, Bool.and_eq_true, decide_eq_true_eq] at h
    have := List.eq_nil_of_length_eq_zero h.1
    simp [this]
  | false =>
    simp only [Bool.false_eq_true, if_false, Bool.and_eq_true, List.all_eq_true] at h
    simp only [Bool.not_false, Bool.true_or, Bool.true_and, List.all_eq_true]
    exact fun x hx => ih x hx (h.2 x hx)
theorem apply_sum (σ : List (List UInt8 × Term)) (w w0 : Term → Int) (c : List UInt8 → Int) (d : Int) (hw : ∀ n xs, w (.mk n false xs) = c n + (xs.map w).sum) (hw0 : ∀ n xs, w0 (.mk n false xs) = c n + (xs.map w0).sum) (hv : ∀ n, w0 (.mk n true []) = d) (t : Term) :
    plainV t = true → w (applyP σ t) = w0 t + ((vlist t).map fun v => w (imageP σ v) - d).sum := by
  refine Term.ind (p := fun t => plainV t = true → w (applyP σ t) = w0 t + ((vlist t).map fun v => w (imageP σ v) - d).sum) (fun n u xs ih => ?_) t
  intro h
  rw [plainV_mk, Bool.and_eq_true, List.all_eq_true] at h
  rw [applyP_mk, vlist_mk]
  cases u with
  | true =>
    have hx : xs = [] := List.eq_nil_of_length_eq_zero (by simpa using h.1)
    subst hx
    simp [hv]; omega
  | false =>
    simp only [Bool.false_eq_true, if_false, List.nil_append, hw, hw0]
    have : ∀ ys : List Term, (∀ y, y ∈ ys → y ∈ xs) → ((ys.map (applyP σ)).map w).sum = (ys.map w0).sum + ((ys.flatMap vlist).map fun v => w (imageP σ v) - d).sum := by
      intro ys
      induction ys with
      | nil => intro _; simp
      | cons y ys ih2 =>
        intro hy
        have h1 := ih y (hy y (by simp)) (h.2 y (hy y (by simp)))
        have h2 := ih2 (fun z hz => hy z (by simp [hz]))
        simp only [List.map_cons, List.sum_cons, List.flatMap_cons, List.map_append, List.sum_append, h1, h2]
        omega
    rw [this xs (fun y hy => hy)]; omega
theorem apply_count (σ : List (List UInt8 × Term)) (v : List UInt8) (t : Term) (h : plainV t = true) : countP v (applyP σ t) = ((vlist t).map fun x => countP v (imageP σ x)).sum := by
  have hz : ∀ xs : List Term, (xs.map fun _ => (0 : Int)).sum = 0 := by
    intro xs; induction xs with
    | nil => rfl
    | cons x xs ih => simp only [List.map_cons, List.sum_cons, ih]; rfl
  have := apply_sum σ (countP v) (fun _ => 0) (fun _ => 0) 0 (fun n xs => by rw [countP_mk]; simp [oneP]) (fun n xs => by rw [hz]; rfl) (fun _ => rfl) t h
  simpa using this
theorem apply_weight (σ : List (List UInt8 × Term)) (l : List Rank) (unit : Int) (t : Term) (h : plainV t = true) : weightP l unit (applyP σ t) = weightP l unit t + ((vlist t).map fun x => weightP l unit (imageP σ x) - unit).sum :=
  apply_sum σ (weightP l unit) (weightP l unit) (fun n => (ofP l n).weight) unit (fun n xs => by rw [weightP_mk]; simp) (fun n xs => by rw [weightP_mk]; simp) (fun n => by rw [weightP_mk]; simp) t h
structure AdmU (l : List Rank) (unit : Int) (U : List Sym) : Prop where
  small : SmallR l unit
  const : ∀ f, f ∈ U → f.arity = 0 → unit ≤ (ofP l f.name).weight
  unary : ∀ f, f ∈ U → f.arity = 1 → (ofP l f.name).weight = 0 → ∀ g, g ∈ U → g ≠ f → (ofP l g.name).rank < (ofP l f.name).rank
theorem adm_of {l : List Rank} {unit : Int} {U : List Sym} (hs : SmallR l unit) (h : fitsW l unit U = true) : AdmU l unit U := by
  unfold fitsW at h
  rw [List.all_eq_true] at h
  refine ⟨hs, fun f hf h0 => ?_, fun f hf h1 h2 g hg hne => ?_⟩
  · have := h f hf
    unfold fitsAt at this
    rw [Bool.and_eq_true] at this
    have h3 := this.1
    simp only [h0, decide_true, Bool.true_and, Bool.not_eq_true', decide_eq_false_iff_not] at h3
    omega
  · have := h f hf
    unfold fitsAt at this
    rw [Bool.and_eq_true] at this
    have h3 := this.2
    simp only [h1, h2, decide_true, Bool.not_true, Bool.false_or, Int.lt_irrefl, decide_false, Bool.not_eq_true', List.any_eq_false] at h3
    have h4 := h3 g hg
    simp only [hne, ne_eq, not_false_eq_true, decide_true, Bool.true_and, decide_eq_true_eq] at h4
    omega
def symsIn (U : List Sym) (t : Term) : Prop := ∀ f, f ∈ ofT t → f ∈ U
theorem symsIn_mk {U : List Sym} {n : List UInt8} {u : Bool} {xs : List Term} (h : symsIn U (.mk n u xs)) : (∀ x, x ∈ xs → symsIn U x) ∧ (u = false → (⟨n, xs.length⟩ : Sym) ∈ U) := by
  unfold symsIn at h
  rw [ofT_mk] at h
  refine ⟨fun x hx f hf => h f (List.mem_append_left _ (List.mem_flatMap.2 ⟨x, hx, hf⟩)), fun hu => h _ (List.mem_append_right _ (by simp [hu]))⟩
theorem le_sumI (w : Term → Int) : ∀ (xs : List Term), (∀ x, x ∈ xs → 0 ≤ w x) → 0 ≤ (xs.map w).sum ∧ ∀ x, x ∈ xs → w x ≤ (xs.map w).sum
  | [], _ => by simp
  | y :: ys, h => by
    obtain ⟨h1, h2⟩ := le_sumI w ys (fun x hx => h x (by simp [hx]))
    have h3 := h y (by simp)
    refine ⟨by simp only [List.map_cons, List.sum_cons]; omega, fun x hx => ?_⟩
    simp only [List.map_cons, List.sum_cons]
    rcases List.mem_cons.1 hx with rfl | hx
    · omega
    · have := h2 x hx; omega
theorem weight_unit {l : List Rank} {unit : Int} {U : List Sym} (hU : AdmU l unit U) (t : Term) : plainV t = true → symsIn U t → unit ≤ weightP l unit t := by
  refine Term.ind (p := fun t => plainV t = true → symsIn U t → unit ≤ weightP l unit t) (fun n u xs ih => ?_) t
  intro hp hs
  rw [plainV_mk, Bool.and_eq_true, List.all_eq_true] at hp
  rw [weightP_mk]
  obtain ⟨s1, s2⟩ := symsIn_mk hs
  cases u with
  | true => simp
  | false =>
    simp only [Bool.false_eq_true, if_false]
    have hr := hU.small.of n
    cases xs with
    | nil => have := hU.const _ (s2 rfl) (by simp); simp at this ⊢; exact this
    | cons x xs =>
      have h1 := ih x (by simp) (hp.2 x (by simp)) (s1 x (by simp))
      have h2 := (le_sumI (weightP l unit) (x :: xs) (fun y hy => (weight_bound hU.small y).1)).2 x (by simp)
      omega
theorem count_arg (v n : List UInt8) (u : Bool) (xs : List Term) (x : Term) (hx : x ∈ xs) : countP v x ≤ countP v (.mk n u xs) := by
  rw [countP_mk]
  have h1 := (le_sumI (countP v) xs (fun y _ => (countP_bound v y).1)).2 x hx
  have h2 := oneP_bound v n u
  omega
theorem arg_above {l : List Rank} {unit : Int} {U : List Sym} (hU : AdmU l unit U) (t : Term) : plainV t = true → symsIn U t → ∀ x, x ∈ t.args → aboveP l unit t x = true := by
  refine Term.ind (p := fun t => plainV t = true → symsIn U t → ∀ x, x ∈ t.args → aboveP l unit t x = true) (fun n u xs ih => ?_) t
  intro hp hs x hx
  simp only [Term.args_mk] at hx
  have hp0 := hp
  rw [plainV_mk, Bool.and_eq_true, List.all_eq_true] at hp
  obtain ⟨s1, s2⟩ := symsIn_mk hs
  cases u with
  | true =>
    have hx0 : xs = [] := List.eq_nil_of_length_eq_zero (by simpa using hp.1)
    subst hx0; cases hx
  | false =>
    rw [above_iff]
    refine ⟨(coversP_iff _ _).2 fun v => count_arg v n false xs x hx, ?_⟩
    rw [weightP_mk]
    simp only [Bool.false_eq_true, if_false, Term.var_mk, Term.name_mk, Term.args_mk]
    have hr := hU.small.of n
    have hpos : ∀ y, y ∈ xs → unit ≤ weightP l unit y := fun y hy => weight_unit hU y (hp.2 y hy) (s1 y hy)
    have hun := hU.small.2.1
    have hle := (le_sumI (weightP l unit) xs (fun y hy => (weight_bound hU.small y).1)).2 x hx
    by_cases hw : weightP l unit x < (ofP l n).weight + (xs.map (weightP l unit)).sum
    · exact .inl hw
    · right
      have hone : xs = [x] := by
        obtain ⟨a, b, rfl⟩ := List.append_of_mem hx
        simp only [List.map_append, List.map_cons, List.sum_append, List.sum_cons] at hw hle
        have ha : 0 ≤ (a.map (weightP l unit)).sum := (le_sumI (weightP l unit) a (fun y hy => (weight_bound hU.small y).1)).1
        have hb : 0 ≤ (b.map (weightP l unit)).sum := (le_sumI (weightP l unit) b (fun y hy => (weight_bound hU.small y).1)).1
        have ha2 : a = [] := by
          cases a with
          | nil => rfl
          | cons y a =>
            have h1 := hpos y (by simp)
            have h2 := (le_sumI (weightP l unit) (y :: a) (fun y hy => (weight_bound hU.small y).1)).2 y (by simp)
            omega
        have hb2 : b = [] := by
          cases b with
          | nil => rfl
          | cons y b =>
            have h1 := hpos y (by simp)
            have h2 := (le_sumI (weightP l unit) (y :: b) (fun y hy => (weight_bound hU.small y).1)).2 y (by simp)
            omega
        subst ha2; subst hb2; rfl
      subst hone
      simp only [List.map_cons, List.map_nil, List.sum_cons, List.sum_nil] at hw ⊢
      have hw0 : (ofP l n).weight = 0 := by omega
      refine ⟨by omega, by first | trivial | rfl, ?_⟩
      cases x with
      | mk m v ys =>
        cases v with
        | true => exact .inl rfl
        | false =>
          right
          refine ⟨rfl, ?_⟩
          simp only [Term.name_mk, Term.args_mk]
          have hf := s2 rfl
          obtain ⟨s3, s4⟩ := symsIn_mk (s1 _ hx)
          by_cases he : (⟨m, ys.length⟩ : Sym) = ⟨n, ([Term.mk m false ys] : List Term).length⟩
          · injection he with e1 e2
            subst e1
            have e3 : ys.length = 1 := by have h3 : (ys.length : Int) = 1 := (by simpa using e2); omega
            refine .inr ⟨rfl, by simp [e3], ?_⟩
            match ys, e3 with
            | [y], _ =>
              rw [kboTs_cons]
              have h1 := ih _ hx (hp.2 _ hx) (s1 _ hx) y (by simp [Term.args_mk])
              by_cases hxy : Term.mk m false [y] = y
              · exfalso
                have := congrArg Term.size hxy
                rw [Term.size_mk] at this
                simp at this
              · rw [if_neg hxy]; exact h1
          · left
            refine ⟨?_, hU.unary _ hf (by simp) hw0 _ (s4 rfl) he⟩
            by_cases hn : n = m
            · right
              intro e
              apply he
              rw [hn]
              have e' : ys.length = 1 := by simpa using e.symm
              simp [e']
            · exact .inl hn
theorem SubT.plain {s t : Term} (h : SubT s t) : plainV s = true → plainV t = true := by
  induction h with
  | refl => exact id
  | arg hx _ ih => intro hp; rw [plainV_mk, Bool.and_eq_true, List.all_eq_true] at hp; exact ih (hp.2 _ hx)
theorem SubT.syms {s t : Term} (h : SubT s t) {U : List Sym} : symsIn U s → symsIn U t := by
  induction h with
  | refl => exact id
  | arg hx _ ih => intro hs; exact ih ((symsIn_mk hs).1 _ hx)
theorem sub_above {l : List Rank} {unit : Int} {U : List Sym} (hU : AdmU l unit U) {s t : Term} (h : SubT s t) : plainV s = true → symsIn U s → s = t ∨ aboveP l unit s t = true := by
  induction h with
  | refl => intro _ _; exact .inl rfl
  | @arg n u xs x t hx _ ih =>
    intro hp hs
    right
    have h1 := arg_above hU _ hp hs x (by simpa [Term.args_mk] using hx)
    rw [plainV_mk, Bool.and_eq_true, List.all_eq_true] at hp
    rcases ih (hp.2 x hx) ((symsIn_mk hs).1 x hx) with rfl | h2
    · exact h1
    · exact above_trans l unit _ _ _ h1 h2
theorem sub_image (σ : List (List UInt8 × Term)) (v : List UInt8) (t : Term) : plainV t = true → v ∈ vlist t → SubT (applyP σ t) (imageP σ v) := by
  refine Term.ind (p := fun t => plainV t = true → v ∈ vlist t → SubT (applyP σ t) (imageP σ v)) (fun n u xs ih => ?_) t
  intro hp h
  rw [plainV_mk, Bool.and_eq_true, List.all_eq_true] at hp
  rw [vlist_mk] at h
  rw [applyP_mk]
  cases u with
  | true =>
    have hx : xs = [] := List.eq_nil_of_length_eq_zero (by simpa using hp.1)
    subst hx
    simp at h
    subst h
    exact .refl _
  | false =>
    simp only [Bool.false_eq_true, if_false, List.nil_append, List.mem_flatMap] at h
    obtain ⟨x, hx, hv⟩ := h
    exact .arg (List.mem_map_of_mem hx) (ih x hx (hp.2 x hx) hv)
theorem kboTs_map (l : List Rank) (unit : Int) (f : Term → Term) : ∀ xs ys : List Term, (∀ x, x ∈ xs → ∀ y, y ∈ ys → aboveP l unit x y = true → aboveP l unit (f x) (f y) = true) → kboTs l unit xs ys = true → kboTs l unit (xs.map f) (ys.map f) = true
  | [], ys, _, h => by rw [kboTs_nil] at h; cases h
  | x :: xs, [], _, h => by cases x with | mk n v us => simp [kboTs] at h
  | x :: xs, y :: ys, hf, h => by
    rw [kboTs_cons] at h
    rw [List.map_cons, List.map_cons, kboTs_cons]
    by_cases hxy : x = y
    · subst hxy
      rw [if_pos rfl] at h ⊢
      exact kboTs_map l unit f xs ys (fun a ha b hb => hf a (by simp [ha]) b (by simp [hb])) h
    · rw [if_neg hxy] at h
      have h1 := hf x (by simp) y (by simp) h
      by_cases he : f x = f y
      · rw [he, above_self] at h1; cases h1
      · rw [if_neg he]; exact h1
theorem above_subst {l : List Rank} {unit : Int} {U : List Sym} (hU : AdmU l unit U) (σ : List (List UInt8 × Term)) (s : Term) : ∀ t, plainV s = true → plainV t = true → plainV (applyP σ s) = true → symsIn U (applyP σ s) → symsIn U (applyP σ t) →
    aboveP l unit s t = true → aboveP l unit (applyP σ s) (applyP σ t) = true := by
  refine Term.ind (p := fun s => ∀ t, plainV s = true → plainV t = true → plainV (applyP σ s) = true → symsIn U (applyP σ s) → symsIn U (applyP σ t) → aboveP l unit s t = true → aboveP l unit (applyP σ s) (applyP σ t) = true) (fun n v xs ih => ?_) s
  intro t hps hpt hpa hsa hsb h
  obtain ⟨S, hS⟩ : ∃ S, S = Term.mk n v xs := ⟨_, rfl⟩
  rw [← hS] at hps hpa hsa h ⊢
  rw [above_iff] at h
  obtain ⟨hc, h⟩ := h
  have hcnt : ∀ x, (vlist t).count x ≤ (vlist S).count x := fun x => by
    have h1 := (coversP_iff _ _).1 hc x
    rw [← count_vlist, ← count_vlist] at h1; omega
  have hcov : coversP (applyP σ S) (applyP σ t) = true := (coversP_iff _ _).2 fun x => by
    rw [apply_count σ x S hps, apply_count σ x t hpt]
    exact sum_mono_count (fun y => countP x (imageP σ y)) (fun y => (countP_bound x _).1) _ _ hcnt
  have himg : ∀ x, x ∈ vlist S → unit ≤ weightP l unit (imageP σ x) := fun x hx => by
    have hsub := sub_image σ x S hps hx
    exact weight_unit hU _ (hsub.plain hpa) (hsub.syms hsa)
  have hw1 := apply_weight σ l unit S hps
  have hw2 := apply_weight σ l unit t hpt
  have hG : ((vlist t).map fun x => weightP l unit (imageP σ x) - unit).sum ≤ ((vlist S).map fun x => weightP l unit (imageP σ x) - unit).sum := by
    have hm := sum_mono_count (fun x => max 0 (weightP l unit (imageP σ x) - unit)) (fun x => by omega) _ _ hcnt
    have e1 : ((vlist S).map fun x => max 0 (weightP l unit (imageP σ x) - unit)) = (vlist S).map fun x => weightP l unit (imageP σ x) - unit := List.map_congr_left fun x hx => by have := himg x hx; omega
    have e2 : ((vlist t).map fun x => max 0 (weightP l unit (imageP σ x) - unit)) = (vlist t).map fun x => weightP l unit (imageP σ x) - unit := List.map_congr_left fun x hx => by
      have h1 := hcnt x
      have h2 : 0 < (vlist t).count x := List.count_pos_iff.2 hx
      have := himg x (List.count_pos_iff.1 (by omega)); omega
    rw [e1, e2] at hm; exact hm
  rcases h with h | ⟨hw, hv, h⟩
  · exact (above_iff _ _ _ _).2 ⟨hcov, .inl (by omega)⟩
  · have hv' : v = false := by rw [hS] at hv; exact hv
    subst hv'
    have haS : applyP σ S = .mk n false (xs.map (applyP σ)) := by rw [hS, applyP_mk]; simp
    have hpx : ∀ x, x ∈ xs → plainV x = true := fun x hx => by rw [hS, plainV_mk, Bool.and_eq_true, List.all_eq_true] at hps; exact hps.2 x hx
    cases t with
    | mk m u ys =>
      cases u with
      | true =>
        have hy : ys = [] := by rw [plainV_mk, Bool.and_eq_true] at hpt; exact List.eq_nil_of_length_eq_zero (by simpa using hpt.1)
        subst hy
        have hm : m ∈ vlist S := by
          have h1 : (vlist (.mk m true [])).count m = 1 := by rw [vlist_mk]; simp
          have := hcnt m
          exact List.count_pos_iff.1 (by omega)
        rw [hS, vlist_mk] at hm
        simp only [Bool.false_eq_true, if_false, List.nil_append, List.mem_flatMap] at hm
        obtain ⟨x, hx, hmx⟩ := hm
        have ht : applyP σ (.mk m true []) = imageP σ m := by rw [applyP_mk]; simp
        rw [ht]
        have hxa : applyP σ x ∈ (applyP σ S).args := by rw [haS]; exact List.mem_map_of_mem hx
        have h1 := arg_above hU (applyP σ S) hpa hsa _ hxa
        have hp1 : plainV (applyP σ x) = true := by rw [haS, plainV_mk, Bool.and_eq_true, List.all_eq_true] at hpa; exact hpa.2 _ (List.mem_map_of_mem hx)
        have hs1 : symsIn U (applyP σ x) := by rw [haS] at hsa; exact (symsIn_mk hsa).1 _ (List.mem_map_of_mem hx)
        rcases sub_above hU (sub_image σ m x (hpx x hx) hmx) hp1 hs1 with e | h2
        · rw [← e]; exact h1
        · exact above_trans l unit _ _ _ h1 h2
      | false =>
        have hat : applyP σ (.mk m false ys) = .mk m false (ys.map (applyP σ)) := by rw [applyP_mk]; simp
        have hpy : ∀ y, y ∈ ys → plainV y = true := fun y hy => by rw [plainV_mk, Bool.and_eq_true, List.all_eq_true] at hpt; exact hpt.2 y hy
        by_cases hlt : weightP l unit (applyP σ (.mk m false ys)) < weightP l unit (applyP σ S)
        · exact (above_iff _ _ _ _).2 ⟨hcov, .inl hlt⟩
        · refine (above_iff _ _ _ _).2 ⟨hcov, .inr ⟨by omega, by rw [haS]; rfl, .inr ⟨by rw [hat]; rfl, ?_⟩⟩⟩
          rw [hS] at h
          simp only [Term.var_mk, Term.name_mk, Term.args_mk, Bool.false_eq_true, false_or, true_and] at h
          rw [haS, hat]
          simp only [Term.name_mk, Term.args_mk, List.length_map]
          rcases h with h | ⟨e1, e2, h⟩
          · exact .inl h
          · refine .inr ⟨e1, e2, kboTs_map l unit (applyP σ) xs ys (fun x hx y hy hab => ?_) h⟩
            refine ih x hx y (hpx x hx) (hpy y hy) ?_ ?_ ?_ hab
            · rw [haS, plainV_mk, Bool.and_eq_true, List.all_eq_true] at hpa; exact hpa.2 _ (List.mem_map_of_mem hx)
            · rw [haS] at hsa; exact (symsIn_mk hsa).1 _ (List.mem_map_of_mem hx)
            · rw [hat] at hsb; exact (symsIn_mk hsb).1 _ (List.mem_map_of_mem hy)
theorem sum_set (f : Term → Int) : ∀ (xs : List Term) (j : Nat) (h : j < xs.length) (a : Term), ((xs.set j a).map f).sum = (xs.map f).sum - f xs[j] + f a
  | x :: xs, 0, h, a => by simp; omega
  | x :: xs, j + 1, h, a => by
    have := sum_set f xs j (by simpa using h) a
    simp only [List.set_cons_succ, List.map_cons, List.sum_cons, this, List.getElem_cons_succ]; omega
theorem kboTs_set (l : List Rank) (unit : Int) (a b : Term) (hne : a ≠ b) (hab : aboveP l unit a b = true) : ∀ (xs : List Term) (j : Nat), j < xs.length → kboTs l unit (xs.set j a) (xs.set j b) = true
  | x :: xs, 0, h => by rw [List.set_cons_zero, List.set_cons_zero, kboTs_cons, if_neg hne]; exact hab
  | x :: xs, j + 1, h => by
    rw [List.set_cons_succ, List.set_cons_succ, kboTs_cons, if_pos rfl]
    exact kboTs_set l unit a b hne hab xs j (by simpa using h)
theorem above_set (l : List Rank) (unit : Int) (n : List UInt8) (xs : List Term) (j : Nat) (hj : j < xs.length) (a b : Term) (hab : aboveP l unit a b = true) : aboveP l unit (.mk n false (xs.set j a)) (.mk n false (xs.set j b)) = true := by
  have hne : a ≠ b := fun e => by rw [e, above_self] at hab; cases hab
  have hk := kboTs_set l unit a b hne hab xs j hj
  rw [above_iff] at hab ⊢
  have hc := (coversP_iff _ _).1 hab.1
  refine ⟨(coversP_iff _ _).2 fun v => ?_, ?_⟩
  · rw [countP_mk, countP_mk, sum_set _ xs j hj, sum_set _ xs j hj]; have := hc v; omega
  · rw [weightP_mk, weightP_mk, sum_set _ xs j hj, sum_set _ xs j hj]
    simp only [Bool.false_eq_true, if_false, Term.var_mk, Term.name_mk, Term.args_mk, List.length_set]
    have hle : weightP l unit b ≤ weightP l unit a := by rcases hab.2 with h | h <;> omega
    by_cases hlt : weightP l unit b < weightP l unit a
    · left; omega
    · right
      exact ⟨by omega, trivial, .inr ⟨trivial, .inr ⟨trivial, trivial, hk⟩⟩⟩
theorem above_put (l : List Rank) (unit : Int) (s t : Term) (hab : aboveP l unit s t = true) : ∀ (p : List Int) (c x : Term), atP c p = some x → aboveP l unit (putP c p s) (putP c p t) = true
  | [], c, x, _ => by cases c; simp [putP, hab]
  | i :: p, .mk n u xs, x, h => by
    simp only [atP] at h
    split at h
    · rename_i hi
      have ih := above_put l unit s t hab p xs[i.toNat] x h
      have hg : xs.getD i.toNat (.mk [] false []) = xs[i.toNat] := by simp [hi.2]
      simp only [putP, hg]
      exact above_set l unit n xs i.toNat hi.2 _ _ ih
    · cases h
theorem adm_ok {l : List Rank} {unit : Int} {ts : List Term} (h : okP l unit ts = true) : AdmU l unit (symsP ts) ∧ ∀ t, t ∈ ts → plainV t = true ∧ symsIn (symsP ts) t := by
  rw [okP_iff] at h
  refine ⟨adm_of (good_of_check h.1).2 h.2.2, fun t ht => ⟨plain_of_formed t ((checkP_iff t).1 (h.2.1 t ht)).1, fun f hf => ?_⟩⟩
  rw [mem_symsP, List.mem_flatMap]; exact ⟨t, ht, hf⟩
end Ab
set_option maxRecDepth 10000
namespace Ab
open Go Go.Proofs
theorem firstErr_sys {rs : List (Term × Term)} (h : sysP rs = 0) : ∀ t, t ∈ rT rs → checkP t = 0 := by
  intro t ht
  obtain ⟨r, hr, he⟩ := mem_rT.1 ht
  have := (rules_ok (sys_zero h).1).2 r hr
  rcases he with rfl | rfl
  · exact this.1
  · exact this.2
theorem putP_sub (p : List Int) (t x y : Term) (h : atP t p = some y) : SubT (putP t p x) x := at_sub p _ _ (at_put p t x y h)
theorem weight_le {l : List Rank} {unit : Int} {s t : Term} (h : aboveP l unit s t = true) : weightP l unit t ≤ weightP l unit s := by
  rw [above_iff] at h
  rcases h.2 with h | h
  · omega
  · exact Int.le_of_eq h.1.symm
theorem step_above {l : List Rank} {unit : Int} {rs : List (Term × Term)} {ts : List Term} (hok : okP l unit (rT rs ++ ts) = true) (hall : ∀ r, r ∈ rs → aboveP l unit r.1 r.2 = true) {t u : Term} {s : Int × List Int} (ht : t ∈ ts) (hu : u ∈ ts) (hd : doE rs t s = (u, 0)) : gtP l unit t u = true ∧ weightP l unit u ≤ weightP l unit t := by
  obtain ⟨hU, hc⟩ := adm_ok hok
  have key : aboveP l unit t u = true := by
    unfold doE at hd
    split at hd
    · rename_i h; injection hd with h1 h2; exact absurd h2 h
    · rename_i h
      split at hd
      · injection hd with h1 h2
        obtain ⟨x, hf⟩ := find_ok (by simpa using h)
        have hap : applyP (findE rs t s).1 (ruleN rs s.1).1 = x := matchP_true (by simp [SortedN]) hf.ok (by rw [hf.eq]; exact subLe.refl _)
        have hmt : t ∈ rT rs ++ ts := List.mem_append_right _ ht
        have hmu : u ∈ rT rs ++ ts := List.mem_append_right _ hu
        have hml : (ruleN rs s.1).1 ∈ rT rs ++ ts := List.mem_append_left _ (mem_rT.2 ⟨_, hf.mem, .inl rfl⟩)
        have hmr : (ruleN rs s.1).2 ∈ rT rs ++ ts := List.mem_append_left _ (mem_rT.2 ⟨_, hf.mem, .inr rfl⟩)
        have hst := at_sub _ _ _ hf.at'
        have hsu : SubT u (rhsP rs t s) := by rw [← h1]; exact putP_sub _ _ _ _ hf.at'
        have hb := above_subst hU (findE rs t s).1 (ruleN rs s.1).1 (ruleN rs s.1).2 (hc _ hml).1 (hc _ hmr).1 (by rw [hap]; exact hst.plain (hc _ hmt).1) (by rw [hap]; exact hst.syms (hc _ hmt).2) (hsu.syms (hc _ hmu).2) (hall _ hf.mem)
        have hp := above_put l unit _ _ hb s.2 t x hf.at'
        rw [hap, put_at s.2 t x ((check_iff t).1 (((okP_iff l unit _).1 hok).2.1 t hmt)).1 hf.at'] at hp
        rw [← h1]
        exact hp
      · cases hd
  exact ⟨(gtP_iff l unit t u).2 ⟨okP_sub l unit (by intro y hy; simp at hy; rcases hy with rfl | rfl; exact List.mem_append_right _ ht; exact List.mem_append_right _ hu) hok, key⟩, weight_le key⟩
end Ab
set_option maxRecDepth 10000
namespace Ab
open Go Go.Proofs
theorem uniBl (l : List Bool) : Uni 1 (encL AV.bool l) = True := eq_true (uni_encL (enc := AV.bool) (k := 1) (fun _ => rfl) l)
attribute [push_cast] uniBl
set_option maxHeartbeats 1000000 in
theorem admissibleR_ac (l : List Rank) (unit : Int) (ss : List Sym) (hlen : l.length < 1099511627776) (hlen2 : ss.length < 1099511627776) (H : List AObj) :
    ACall Tryz.prog 8 [.sl .none (encL encR l), .int .i64 unit, .sl .none (encL encS ss)] H (fun r H' => r = .bool (fitsR l unit ss) ∧ H' = H) := by
  unfold fitsR
  obtain ⟨X, hX⟩ : ∃ X, X = fitsRx l unit ss := ⟨_, rfl⟩
  rw [← hX]
  refine ACall_V (H.length) 57 [.tmp 6] Tryz.func8 rfl rfl rfl ?_
  simp only [push_cast, Nat.reduceAdd, Nat.reduceSub, Nat.reduceMul, Nat.reduceLT, Nat.reduceLeDiff, Nat.reduceEqDiff, Int.reduceToNat, ↓reduceIte]
  refine AW_loopW (maskG 60 [0, 0, 0, 9, 0, 0]) (fun (i : Nat) => [(14, .int .i64 i)]) (fun _ => H) (fun i => i ≤ ss.length ∧ (ss.take i).all X = true) (fun i => ss.length - i) 0 ⟨Nat.zero_le _, by simp⟩ (by simp only [push_cast, Nat.reduceAdd, Nat.reduceSub, Nat.reduceMul, Nat.reduceLT, Nat.reduceLeDiff, Nat.reduceEqDiff, Int.reduceToNat, ↓reduceIte]) (fun i hi => ?_)
  obtain ⟨hi1, hi2⟩ := hi
  simp only [push_cast, Nat.reduceAdd, Nat.reduceSub, Nat.reduceMul, Nat.reduceLT, Nat.reduceLeDiff, Nat.reduceEqDiff, Int.reduceToNat, ↓reduceIte]
  refine cI (fun h => ?_) (fun h => ?_)
  · have hil : i < ss.length := by omega
    obtain ⟨x, hx⟩ : ∃ x, x = ss[i]'hil := ⟨_, rfl⟩
    have hxf : X x = (!(decide (x.arity = 0) && decide ((ofP l x.name).weight < unit)) && ss.all (fitsRy l x)) := by rw [hX]; rfl
    have hbad : X x = false → ss.all X = false := fun hb => all_get (i := i) hil (by rw [← hx]; exact hb)
    refine ⟨hil, ?_⟩
    rw [← hx]
    refine (entry_ac l x.name hlen _).to ?_
    simp only [push_cast, Nat.reduceAdd, Nat.reduceSub, Nat.reduceMul, Nat.reduceLT, Nat.reduceLeDiff, Nat.reduceEqDiff, Int.reduceToNat, ↓reduceIte, (entry_rank l x.name).2]
    have inner : ∀ (hz : (decide (x.arity = 0) && decide ((ofP l x.name).weight < unit)) = false), (ss.all (fitsRy l x) = true → X x = true) ∧ (ss.all (fitsRy l x) = false → X x = false) := fun hz => ⟨fun h => by rw [hxf, hz, h]; rfl, fun h => by rw [hxf, hz, h]; rfl⟩
    refine cI (fun ha => ?_) (fun ha => ?_)
    refine cI (fun hw => ?_) (fun hw => ?_)
    rw [hbad (by rw [hxf, decide_eq_true ha, decide_eq_true hw]; rfl)]
    have hin := inner (by rw [decide_eq_false hw, Bool.and_false])
    rotate_left
    have hin := inner (by rw [decide_eq_false ha, Bool.false_and])
    all_goals (
      clear inner
      refine AW_loopW (maskG 60 [0, 0, 0, 5, 0, 2, 0, 0, 16, 0, 0]) (fun (j : Nat) => [(33, .int .i64 j)]) (fun _ => H ++ [.cells [.str x.name, .int .i64 x.arity]]) (fun j => j ≤ ss.length ∧ (ss.take j).all (fitsRy l x) = true) (fun j => ss.length - j) 0 ⟨Nat.zero_le _, by simp⟩ (by simp only [push_cast, Nat.reduceAdd, Nat.reduceSub, Nat.reduceMul, Nat.reduceLT, Nat.reduceLeDiff, Nat.reduceEqDiff, Int.reduceToNat, ↓reduceIte]) (fun j hj => ?_)
      obtain ⟨hj1, hj2⟩ := hj
      simp only [push_cast, Nat.reduceAdd, Nat.reduceSub, Nat.reduceMul, Nat.reduceLT, Nat.reduceLeDiff, Nat.reduceEqDiff, Int.reduceToNat, ↓reduceIte]
      refine cI (fun h5 => ?_) (fun h5 => ?_)
      · have hjl : j < ss.length := by omega
        obtain ⟨y, hy⟩ : ∃ y, y = ss[j]'hjl := ⟨_, rfl⟩
        have hyf : fitsRy l x y = !(decide (x.arity = 1) && decide ((ofP l x.name).weight = 0) && decide (x ≠ y) && !decide ((ofP l y.name).rank < (ofP l x.name).rank)) := rfl
        have hyb : fitsRy l x y = false → ss.all X = false := fun hb => hbad (hin.2 (all_get (i := j) hjl (by rw [← hy]; exact hb)))
        have hyg : fitsRy l x y = true → (ss.take (j + 1)).all (fitsRy l x) = true := fun hb => all_take_true hj2 hjl (by rw [← hy]; exact hb)
        refine ⟨hjl, ?_⟩
        rw [← hy]
        have hab := fun Z => aboveE_ac l x.name y.name hlen Z
        refine cI (fun h1 => ?_) (fun h1 => ?_)
        · refine cI (fun h2 => ?_) (fun h2 => ?_)
          · refine AOp_neq_law symEq x y rfl rfl ?_
            simp only [push_cast, Nat.reduceAdd, Nat.reduceSub, Nat.reduceMul, Nat.reduceLT, Nat.reduceLeDiff, Nat.reduceEqDiff, Int.reduceToNat, ↓reduceIte]
            refine cI (fun h3 => ?_) (fun h3 => ?_)
            · have e := hyg (by rw [hyf, decide_eq_false (not_not_intro h3)]; simp)
              repeat' first | refine ⟨by omega, ?_⟩ | refine cI (fun _ => ?_) (fun _ => ?_)
              exact loopW_n (j + 1) ⟨by omega, e⟩ (by omega) (by simp only [push_cast, Nat.reduceAdd, Nat.reduceSub, Nat.reduceMul, Nat.reduceLT, Nat.reduceLeDiff, Nat.reduceEqDiff, Int.reduceToNat, ↓reduceIte])
            · refine (hab _).to ?_
              simp only [push_cast, Nat.reduceAdd, Nat.reduceSub, Nat.reduceMul, Nat.reduceLT, Nat.reduceLeDiff, Nat.reduceEqDiff, Int.reduceToNat, ↓reduceIte]
              refine cI (fun h4 => ?_) (fun h4 => ?_)
              · have e := hyg (by rw [hyf, decide_eq_true h4]; simp)
                repeat' first | refine ⟨by omega, ?_⟩ | refine cI (fun _ => ?_) (fun _ => ?_)
                exact loopW_n (j + 1) ⟨by omega, e⟩ (by omega) (by simp only [push_cast, Nat.reduceAdd, Nat.reduceSub, Nat.reduceMul, Nat.reduceLT, Nat.reduceLeDiff, Nat.reduceEqDiff, Int.reduceToNat, ↓reduceIte])
              · rw [hyb (by rw [hyf, decide_eq_true h1, decide_eq_true h2, decide_eq_true (show x ≠ y from h3), decide_eq_false h4]; rfl)]
          · have e := hyg (by rw [hyf, decide_eq_false h2]; simp)
            repeat' first | refine ⟨by omega, ?_⟩ | refine cI (fun _ => ?_) (fun _ => ?_)
            exact loopW_n (j + 1) ⟨by omega, e⟩ (by omega) (by simp only [push_cast, Nat.reduceAdd, Nat.reduceSub, Nat.reduceMul, Nat.reduceLT, Nat.reduceLeDiff, Nat.reduceEqDiff, Int.reduceToNat, ↓reduceIte])
        · have e := hyg (by rw [hyf, decide_eq_false h1]; simp)
          repeat' first | refine ⟨by omega, ?_⟩ | refine cI (fun _ => ?_) (fun _ => ?_)
          exact loopW_n (j + 1) ⟨by omega, e⟩ (by omega) (by simp only [push_cast, Nat.reduceAdd, Nat.reduceSub, Nat.reduceMul, Nat.reduceLT, Nat.reduceLeDiff, Nat.reduceEqDiff, Int.reduceToNat, ↓reduceIte])
      · rw [List.take_of_length_le (show ss.length ≤ j by omega)] at hj2
        have e := hin.1 hj2
        repeat' first | refine ⟨by omega, ?_⟩ | refine cI (fun _ => ?_) (fun _ => ?_)
        exact loopW_n (i + 1) ⟨by omega, all_take_true hi2 hil (by rw [← hx]; exact e)⟩ (by omega) (by simp only [push_cast, Nat.reduceAdd, Nat.reduceSub, Nat.reduceMul, Nat.reduceLT, Nat.reduceLeDiff, Nat.reduceEqDiff, Int.reduceToNat, ↓reduceIte]))
  · rw [List.take_of_length_le (show ss.length ≤ i by omega)] at hi2
    rw [hi2]
theorem rT_len (rs : List (Term × Term)) : (rT rs).length = 2 * rs.length := by
  unfold rT
  induction rs with
  | nil => rfl
  | cons r rs ih => rw [List.flatMap_cons, List.length_append, ih]; simp; omega
theorem sidesO_ac (rs : List (Term × Term)) (hlen : rs.length ≤ 1099511627) (H : List AObj) :
    ACall Tryz.prog 10 [.sl .none (encL encRu rs)] H (fun r H' => r = gSl H.length (encTs (rT rs)) ∧ H' = H ++ [gTok 39 3 (encTs (rT rs))]) := by
  refine ACall_VA (H.length + 1) 20 [.tmp 2] Tryz.func10 rfl rfl rfl ?_
  refine AW_reserve 1 ?_
  refine AW_of_W ?_
  simp only [push_cast, Nat.reduceAdd, Nat.reduceSub, Nat.reduceMul, Nat.reduceLT, Nat.reduceLeDiff, Nat.reduceEqDiff, Int.reduceToNat, ↓reduceIte]
  refine AW_loopW (maskG 21 [3, 2, 0, 0]) (fun (i : Nat) => [(8, .int .i64 i), (3, gSl H.length (encTs (rT (rs.take i))))]) (fun i => H ++ [gTok 39 3 (encTs (rT (rs.take i)))]) (fun i => i ≤ rs.length) (fun i => rs.length - i) 0 (Nat.zero_le _) (by simp only [push_cast, Nat.reduceAdd, Nat.reduceSub, Nat.reduceMul, Nat.reduceLT, Nat.reduceLeDiff, Nat.reduceEqDiff, Int.reduceToNat, ↓reduceIte, List.take_zero, show rT [] = [] from rfl, encTs_nil]) (fun i hi => ?_)
  simp only [push_cast, Nat.reduceAdd, Nat.reduceSub, Nat.reduceMul, Nat.reduceLT, Nat.reduceLeDiff, Nat.reduceEqDiff, Int.reduceToNat, ↓reduceIte]
  refine cI (fun h => ?_) (fun h => ?_)
  · have hil : i < rs.length := by omega
    have hst := rT_take rs i hil
    have hrl : (rT (rs.take i)).length ≤ 2 * rs.length := by
      have h1 := rT_len (rs.take i)
      rw [h1, List.length_take]
      omega
    refine ⟨hil, ?_⟩
    refine app_T _ H.length (rT (rs.take i)) [(rs[i]'hil).1, (rs[i]'hil).2] _ rfl (by rw [encTs_2]; exact rfl) (by exact aget0 _ _ _) sl35 sz39 by39 zr39 rfl (by decide) (by simp; omega) ?_
    rw [← hst]
    simp only [push_cast, Nat.reduceAdd, Nat.reduceSub, Nat.reduceMul, Nat.reduceLT, Nat.reduceLeDiff, Nat.reduceEqDiff, Int.reduceToNat, ↓reduceIte]
    repeat' first | refine ⟨by omega, ?_⟩ | refine cI (fun _ => ?_) (fun _ => ?_)
    exact loopW_n (i + 1) (by omega) (by omega) (by simp only [push_cast, Nat.reduceAdd, Nat.reduceSub, Nat.reduceMul, Nat.reduceLT, Nat.reduceLeDiff, Nat.reduceEqDiff, Int.reduceToNat, ↓reduceIte])
  · rw [List.take_of_length_le (show rs.length ≤ i by omega)]
    exact ⟨rfl, rfl⟩
end Ab
set_option maxRecDepth 10000
namespace Ab
open Go Go.Proofs
def exA : Term := .mk [97] false []
def exF : Term := .mk [102] false [exA]
def exL1 : List Rank := [⟨[97], 0, 1⟩, ⟨[102], 1, 0⟩]
def exL2 : List Rank := [⟨[97], 1, 1⟩, ⟨[102], 1, 0⟩]
def exS : List Sym := [⟨[97], 0⟩, ⟨[102], 1⟩]
theorem ex_adm : admP exL2 1 exS = (false, 0) := by kernel_rfl
theorem ex_check : wcheckP exL1 1 = 0 := by kernel_rfl
theorem ex_name : isNameP [97] true = true ∧ isNameP [102] true = true := ⟨by kernel_rfl, by kernel_rfl⟩
theorem ex_checkA : checkP exA = 0 := by simp [checkP, exA, formedP_mk, ex_name.1, fitsP, Term.size_mk, Term.depth_mk]
theorem ex_checkF : checkP exF = 0 := by simp [checkP, exF, exA, formedP_mk, ex_name.1, ex_name.2, fitsP, Term.size_mk, Term.depth_mk]
theorem ex_walkA : walkT exA [] = [([], exA)] := by simp [walkT, walkL, exA, Term.args]
theorem ex_walkF : walkT exF [] = [([], exF), ([0], exA)] := by simp [walkT, walkL, exF, exA, Term.args]
theorem ex_syms : symsP [exF, exA] = [⟨[102], 1⟩, ⟨[97], 0⟩] := by
  simp only [symsP, List.foldl_cons, List.foldl_nil, symsT, ex_walkF, ex_walkA]; kernel_rfl
theorem ex_fits : fitsW exL1 1 (symsP [exF, exA]) = true := by rw [ex_syms]; kernel_rfl
theorem ex_above : aboveP exL1 1 exF exA = true := by
  have h1 : coversP exF exA = true := by unfold coversP; rw [ex_walkA, ex_walkF]; kernel_rfl
  have h2 : weightP exL1 1 exA = 1 := by rw [exA, weightP_mk]; kernel_rfl
  have h3 : weightP exL1 1 exF = 1 := by rw [exF, weightP_mk]; simp only [List.map_cons, List.map_nil, h2]; kernel_rfl
  have h4 : (ofP exL1 exF.name).rank = 1 := by kernel_rfl
  have h5 : (ofP exL1 exA.name).rank = 0 := by kernel_rfl
  have h6 : exF.var = false := rfl
  have h7 : exA.var = false := rfl
  have h8 : ¬ exF.name = exA.name := by decide
  simp [aboveP, kboC, h1, h2, h3, h4, h5, h6, h7, h8]
theorem ex_greater : greaterP exL1 1 exF exA = (true, 0) := by
  simp [greaterP, ex_check, firstErr, ex_checkA, ex_checkF, ex_fits, ex_above]
@[reducible] def avA : AV := .agg [.str [97], .bool false, .sl .zero []]
theorem enc_A : encT exA = .agg [.str [97], .bool false, .sl .none []] := by
  have h : encTs exA.args = [] := encTs_nil
  simp only [encT, h]; rfl
theorem enc_F : encT exF = .agg [.str [102], .bool false, .sl .none [.agg [.str [97], .bool false, .sl .none []]]] := by
  have h : encTs exF.args = [encT exA] := encTs_one exA
  simp only [encT, h]; rw [← enc_A]; rfl
theorem fgA : Forget avA (encT exA) := by rw [enc_A]; exact fgtW_spec _ _ (by simp only [push_cast, Nat.reduceAdd, Nat.reduceSub, Nat.reduceMul, Nat.reduceLT, Nat.reduceLeDiff, Nat.reduceEqDiff, Int.reduceToNat, ↓reduceIte])
theorem fgF : Forget (.agg [.str [102], .bool false, .sl .none [avA]]) (encT exF) := by
  rw [enc_F]
  exact Forget.agg3 (Forget.row _ rfl ⟨Forget.refl _, Forget.refl _, Forget.tok _ _, trivial⟩)
theorem exGr_ac (H : List AObj) : ACall Tryz.prog 28 [.sl .none [.agg [.str [97], .int .i64 0, .int .i64 1], .agg [.str [102], .int .i64 1, .int .i64 0]], .int .i64 1, .agg [.str [102], .bool false, .sl .none [avA]], avA] H (fun r H' => r = .tup [.bool true, .int .i64 0] ∧ H' = H) := by
  refine ACall.forget (args' := [.sl .none (encL encR exL1), .int .i64 1, encT exF, encT exA]) ⟨Forget.refl _, Forget.refl _, fgF, fgA, trivial⟩ ?_
  have h := greater_ac exL1 1 exF exA (by decide) (by intro x hx; simp [exL1] at hx; rcases hx with rfl | rfl <;> simp) (by simp [exF, exA, Term.bulk_mk]) H
  rw [ex_greater] at h
  exact h
theorem exAd_ac (H : List AObj) : ACall Tryz.prog 29 [.sl .none [.agg [.str [97], .int .i64 1, .int .i64 1], .agg [.str [102], .int .i64 1, .int .i64 0]], .int .i64 1, .sl .none [.agg [.str [97], .int .i64 0], .agg [.str [102], .int .i64 1]]] H (fun r H' => r = .tup [.bool false, .int .i64 0] ∧ H' = H) := by
  have h := admissible_ac exL2 1 exS (by decide) (by intro x hx; simp [exL2] at hx; rcases hx with rfl | rfl <;> simp) (by decide) (by intro x hx; simp [exS] at hx; rcases hx with rfl | rfl <;> simp) H
  rw [ex_adm] at h
  exact h
theorem alive7_ac (H : List AObj) : ACall Tryz.prog 11 [] H (fun r H' => r = .bool true ∧ H' = H) := by
  refine ACall_V (H.length) 43 [.tmp 0] Tryz.func11 rfl rfl rfl ?_
  simp only [push_cast, Nat.reduceAdd, Nat.reduceSub, Nat.reduceMul, Nat.reduceLT, Nat.reduceLeDiff, Nat.reduceEqDiff, Int.reduceToNat, ↓reduceIte]
  refine (exGr_ac _).to ?_
  simp only [push_cast, Nat.reduceAdd, Nat.reduceSub, Nat.reduceMul, Nat.reduceLT, Nat.reduceLeDiff, Nat.reduceEqDiff, Int.reduceToNat, ↓reduceIte]
  refine (exAd_ac _).to ?_
  simp only [push_cast, Nat.reduceAdd, Nat.reduceSub, Nat.reduceMul, Nat.reduceLT, Nat.reduceLeDiff, Nat.reduceEqDiff, Int.reduceToNat, ↓reduceIte]
  trace_state
theorem firstErr_skip (ts : List Term) : ∀ (i : Nat), (∀ x, x ∈ ts.take i → checkP x = 0) → firstErr ts = firstErr (ts.drop i) := by
  induction ts with
  | nil => intro i _; simp
  | cons t r ih =>
    intro i h
    cases i with
    | zero => rfl
    | succ i =>
      rw [List.drop_succ_cons, firstErr, if_pos (h t (by simp))]
      exact ih i (fun x hx => h x (by simp [hx]))
theorem checkAllR_ac (ts : List Term) (hlen : ts.length < 1099511627776) (hb : ∀ x, x ∈ ts → x.bulk ≤ 1099511627775) (H : List AObj) :
    ACall Tryz.prog 35 [.sl .none (encTs ts)] H (fun r H' => r = .int .i64 (firstErr ts) ∧ H' = H) := by
  refine ACall_V (H.length) 17 [.tmp 2] Tryz.func35 rfl rfl rfl ?_
  simp only [push_cast, Nat.reduceAdd, Nat.reduceSub, Nat.reduceMul, Nat.reduceLT, Nat.reduceLeDiff, Nat.reduceEqDiff, Int.reduceToNat, ↓reduceIte]
  refine AW_loopW (maskG 18 [6, 0, 0]) (fun (i : Nat) => [(8, .int .i64 i)]) (fun _ => H) (fun i => i ≤ ts.length ∧ ∀ x, x ∈ ts.take i → checkP x = 0) (fun i => ts.length - i) 0 ⟨Nat.zero_le _, by simp⟩ (by simp only [push_cast, Nat.reduceAdd, Nat.reduceSub, Nat.reduceMul, Nat.reduceLT, Nat.reduceLeDiff, Nat.reduceEqDiff, Int.reduceToNat, ↓reduceIte]) (fun i hi => ?_)
  obtain ⟨hi1, hi2⟩ := hi
  have he := firstErr_skip ts i hi2
  simp only [push_cast, Nat.reduceAdd, Nat.reduceSub, Nat.reduceMul, Nat.reduceLT, Nat.reduceLeDiff, Nat.reduceEqDiff, Int.reduceToNat, ↓reduceIte]
  refine cI (fun h => ?_) (fun h => ?_)
  · have hil : i < ts.length := by omega
    rw [List.drop_eq_getElem_cons hil, firstErr] at he
    refine ⟨hil, ?_⟩
    refine (checkR_ac (ts[i]'hil) (hb _ (List.getElem_mem hil)) _).to ?_
    simp only [push_cast, Nat.reduceAdd, Nat.reduceSub, Nat.reduceMul, Nat.reduceLT, Nat.reduceLeDiff, Nat.reduceEqDiff, Int.reduceToNat, ↓reduceIte]
    refine cI (fun h2 => ?_) (fun h2 => ?_)
    · repeat' first | refine ⟨by omega, ?_⟩ | refine cI (fun _ => ?_) (fun _ => ?_)
      refine loopW_n (i + 1) ⟨by omega, fun x hx => ?_⟩ (by omega) (by simp only [push_cast, Nat.reduceAdd, Nat.reduceSub, Nat.reduceMul, Nat.reduceLT, Nat.reduceLeDiff, Nat.reduceEqDiff, Int.reduceToNat, ↓reduceIte])
      rw [List.take_succ_eq_append_getElem hil] at hx
      rcases List.mem_append.1 hx with hx | hx
      · exact hi2 x hx
      · simp at hx; subst hx; exact h2
    · rw [he, if_neg h2]
  · rw [he, List.drop_of_length_le (show ts.length ≤ i by omega)]
    rfl
theorem lawGreater_ac (l : List Rank) (unit : Int) (s t : Term) (hlen : l.length < 1099511627776) (hnl : ∀ x, x ∈ l → x.name.length < 1099511627776) (hb : s.bulk + t.bulk ≤ 1099511627775) (H : List AObj) :
    ACall Tryz.prog 17 [.agg [.sl .none (encL encR l), .int .i64 unit], encT s, encT t] H (fun r H' => r = .bool (gtP l unit s t) ∧ H' = H) := by
  refine ACall_V (H.length) 21 [.tmp 6] Tryz.func17 rfl rfl rfl ?_
  simp only [push_cast, Nat.reduceAdd, Nat.reduceSub, Nat.reduceMul, Nat.reduceLT, Nat.reduceLeDiff, Nat.reduceEqDiff, Int.reduceToNat, ↓reduceIte]
  refine (greater_ac l unit s t hlen hnl hb _).to ?_
  simp only [push_cast, Nat.reduceAdd, Nat.reduceSub, Nat.reduceMul, Nat.reduceLT, Nat.reduceLeDiff, Nat.reduceEqDiff, Int.reduceToNat, ↓reduceIte]
  unfold gtP
  refine cI (fun h => ?_) (fun h => ?_)
  · rw [decide_eq_true h, Bool.true_and]
  · rw [decide_eq_false h, Bool.false_and]
theorem mem_ofL2 (f : Sym) (ts : List Term) : f ∈ ofL ts ↔ f ∈ symsP ts := by rw [mem_symsP]; rfl
theorem lawFits_ac (l : List Rank) (unit : Int) (ts : List Term) (hlen : l.length < 1099511627776) (hnl : ∀ x, x ∈ l → x.name.length < 1099511627776) (hlen2 : ts.length < 1099511627776) (hb : (ts.map Term.bulk).sum ≤ 1099511627775) (H : List AObj) :
    ACall Tryz.prog 15 [.agg [.sl .none (encL encR l), .int .i64 unit], .sl .none (encTs ts)] H (fun r H' => r = .bool (okP l unit ts) ∧ H' = H) := by
  have hbl : ∀ x, x ∈ ts → x.bulk ≤ 1099511627775 := fun x hx => by have := le_sum Term.bulk ts x hx; omega
  have hsz : (ts.map Term.size).sum ≤ 1099511627775 := by have := sum_le_sum (f := Term.size) (g := Term.bulk) (xs := ts) (fun x _ => x.size_le); omega
  have hsy : (ofL ts).length < 1099511627776 := by have := ofL_length ts; omega
  have hfo : wcheckP l unit = 0 → fitsR l unit (ofL ts) = fitsW l unit (symsP ts) := fun h => fitsR_eq l unit (good_of_check h).2 _ _ (fun f => mem_ofL2 f ts)
  have c1 := fun X => checkR7_ac l unit hlen hnl X
  have c2 := fun X => checkAllR_ac ts hlen2 hbl X
  have c3 := fun X => ofR_ac ts hlen2 hbl hsz X
  have c4 := fun X => admissibleR_ac l unit (ofL ts) hlen hsy X
  refine ACall_V (H.length) 23 [.tmp 4] Tryz.func15 rfl rfl rfl ?_
  simp only [push_cast, Nat.reduceAdd, Nat.reduceSub, Nat.reduceMul, Nat.reduceLT, Nat.reduceLeDiff, Nat.reduceEqDiff, Int.reduceToNat, ↓reduceIte]
  unfold okP
  by_cases h1 : wcheckP l unit = 0
  · have d1 : decide (wcheckP l unit = 0) = true := decide_eq_true h1
    by_cases h2 : firstErr ts = 0
    · have d2 : decide (firstErr ts = 0) = true := decide_eq_true h2
      apply AW_drawE [some 5, some 6, some 7, some 8, some 9, some 10, some 11, some 12, some 13, some 14, some 15, some 16, some 17, some 18, some 19, some 20, some 21, some 22, some 23, some 24, some 4] [([], _)] [none, none, none, none, none, none, none, none, none, none, none, none, none, none, none, none, none, none, none, none, none] 0 [(0, [], [2]), (1, [], [5]), (2, [], [2]), (3, [], [7]), (4, [], [6, 1]), (5, [], [9]), (6, [], [10]), (7, [], [1, 9]), (8, [], [11, 0]), (9, [], [11, 1]), (10, [], [11, 2]), (11, [], [15]), (12, [], [2, 13]), (13, [], [16, 0]), (14, [], [2, 13]), (15, [], [16, 2]), (16, [], [1, 14]), (17, [], [16, 4]), (18, [], [16, 1, 1, 1]), (19, [], [16, 6]), (20, [], [24])] [_, _, _, _, _, _, _, _, _, _, _, _, _, _, _, _, _, _, _, _, _]
      case' hm => exact dr
      case' hn => rfl
      case' hok => rfl
      case' hlen => rfl
      case' hd => rfl
      case' h0 => rfl
      case' hstep =>
       simp only [DAllG, push_cast, Option.isSome_some, Option.isSome_none]
       repeat' apply And.intro
       all_goals (apply DOne_V; simp only [push_cast, Nat.reduceAdd, Nat.reduceSub, Nat.reduceMul, Nat.reduceLT, Nat.reduceLeDiff, Nat.reduceEqDiff, Int.reduceToNat, ↓reduceIte, d1, d2] <;> first | exact rfl | omega | exact ⟨rfl, rfl⟩ | exact trivial | exact ⟨by omega, rfl⟩ | exact ⟨by omega, by omega, rfl⟩ | exact ⟨by omega, rfl, rfl⟩ | exact ⟨by omega, by omega, rfl, rfl⟩ | (refine (c1 _).to ?_; exact ⟨rfl, rfl⟩) | (refine (c2 _).to ?_; exact ⟨rfl, rfl⟩) | (refine (c3 _).to ?_; exact ⟨rfl, rfl⟩) | (refine (c4 _).to ?_; exact ⟨rfl, rfl⟩))
      case' hQ => skip
      rw [d1, d2, hfo h1]
      simp only [push_cast, Nat.reduceAdd, Nat.reduceSub, Nat.reduceMul, Nat.reduceLT, Nat.reduceLeDiff, Nat.reduceEqDiff, Int.reduceToNat, ↓reduceIte]
      rfl
    · have d2 : decide (firstErr ts = 0) = false := decide_eq_false h2
      apply AW_drawE [some 5, some 6, some 7, some 8, some 9, some 10, some 11, some 12, some 13, some 14, some 15, some 16, some 17, some 18, some 19, some 20, some 21, some 22, some 23, some 24, some 4] [([], _)] [none, none, none, none, none, none, none, none, none, none, none, none, none, none, none, none, none, none, none, none, none] 0 [(0, [], [2]), (1, [], [5]), (2, [], [2]), (3, [], [7]), (4, [], [6, 1]), (5, [], [9]), (6, [], [10]), (7, [], [1, 9]), (8, [], [11, 0]), (9, [], [11, 1]), (10, [], [11, 2]), (11, [], [15]), (12, [], [2, 13]), (13, [], [16, 0]), (14, [], [2, 13]), (15, [], [16, 2]), (16, [], [1, 14]), (17, [], [16, 4]), (18, [], [16, 1, 1, 1]), (19, [], [16, 6]), (20, [], [24])] [_, _, _, _, _, _, _, _, _, _, _, _, _, _, _, _, _, _, _, _, _]
      case' hm => exact dr
      case' hn => rfl
      case' hok => rfl
      case' hlen => rfl
      case' hd => rfl
      case' h0 => rfl
      case' hstep =>
       simp only [DAllG, push_cast, Option.isSome_some, Option.isSome_none]
       repeat' apply And.intro
       all_goals (apply DOne_V; simp only [push_cast, Nat.reduceAdd, Nat.reduceSub, Nat.reduceMul, Nat.reduceLT, Nat.reduceLeDiff, Nat.reduceEqDiff, Int.reduceToNat, ↓reduceIte, d1, d2] <;> first | exact rfl | omega | exact ⟨rfl, rfl⟩ | exact trivial | exact ⟨by omega, rfl⟩ | exact ⟨by omega, by omega, rfl⟩ | exact ⟨by omega, rfl, rfl⟩ | exact ⟨by omega, by omega, rfl, rfl⟩ | (refine (c1 _).to ?_; exact ⟨rfl, rfl⟩) | (refine (c2 _).to ?_; exact ⟨rfl, rfl⟩))
      case' hQ => skip
      rw [d1, d2]
      first | (simp only [push_cast, Nat.reduceAdd, Nat.reduceSub, Nat.reduceMul, Nat.reduceLT, Nat.reduceLeDiff, Nat.reduceEqDiff, Int.reduceToNat, ↓reduceIte]; done) | rfl | (simp only [push_cast, Nat.reduceAdd, Nat.reduceSub, Nat.reduceMul, Nat.reduceLT, Nat.reduceLeDiff, Nat.reduceEqDiff, Int.reduceToNat, ↓reduceIte]; rfl)
  · have d1 : decide (wcheckP l unit = 0) = false := decide_eq_false h1
    apply AW_drawE [some 5, some 6, some 7, some 8, some 9, some 10, some 11, some 12, some 13, some 14, some 15, some 16, some 17, some 18, some 19, some 20, some 21, some 22, some 23, some 24, some 4] [([], _)] [none, none, none, none, none, none, none, none, none, none, none, none, none, none, none, none, none, none, none, none, none] 0 [(0, [], [2]), (1, [], [5]), (2, [], [2]), (3, [], [7]), (4, [], [6, 1]), (5, [], [9]), (6, [], [10]), (7, [], [1, 9]), (8, [], [11, 0]), (9, [], [11, 1]), (10, [], [11, 2]), (11, [], [15]), (12, [], [2, 13]), (13, [], [16, 0]), (14, [], [2, 13]), (15, [], [16, 2]), (16, [], [1, 14]), (17, [], [16, 4]), (18, [], [16, 1, 1, 1]), (19, [], [16, 6]), (20, [], [24])] [_, _, _, _, _, _, _, _, _, _, _, _, _, _, _, _, _, _, _, _, _]
    case' hm => exact dr
    case' hn => rfl
    case' hok => rfl
    case' hlen => rfl
    case' hd => rfl
    case' h0 => rfl
    case' hstep =>
     simp only [DAllG, push_cast, Option.isSome_some, Option.isSome_none]
     repeat' apply And.intro
     all_goals (apply DOne_V; simp only [push_cast, Nat.reduceAdd, Nat.reduceSub, Nat.reduceMul, Nat.reduceLT, Nat.reduceLeDiff, Nat.reduceEqDiff, Int.reduceToNat, ↓reduceIte, d1] <;> first | exact rfl | omega | exact ⟨rfl, rfl⟩ | exact trivial | exact ⟨by omega, rfl⟩ | exact ⟨by omega, by omega, rfl⟩ | exact ⟨by omega, rfl, rfl⟩ | exact ⟨by omega, by omega, rfl, rfl⟩ | (refine (c1 _).to ?_; exact ⟨rfl, rfl⟩))
    case' hQ => skip
    rw [d1]
    first | (simp only [push_cast, Nat.reduceAdd, Nat.reduceSub, Nat.reduceMul, Nat.reduceLT, Nat.reduceLeDiff, Nat.reduceEqDiff, Int.reduceToNat, ↓reduceIte]; done) | rfl | (simp only [push_cast, Nat.reduceAdd, Nat.reduceSub, Nat.reduceMul, Nat.reduceLT, Nat.reduceLeDiff, Nat.reduceEqDiff, Int.reduceToNat, ↓reduceIte]; rfl)
end Ab
set_option maxRecDepth 10000
namespace Ab
open Go Go.Proofs
def chainOk (rs : List (Term × Term)) (T : List Term) : Prop := ∀ i (h : i + 1 < T.length), ∃ s, doE rs (T[i]'(by omega)) s = (T[i + 1], 0)
theorem chain_snoc {rs : List (Term × Term)} {pre : List Term} {t u : Term} {s : Int × List Int} (h : chainOk rs (pre ++ [t])) (hd : doE rs t s = (u, 0)) : chainOk rs (pre ++ [t] ++ [u]) := by
  intro i hi
  by_cases hl : i + 1 < (pre ++ [t]).length
  · obtain ⟨s, hs⟩ := h i hl
    refine ⟨s, ?_⟩
    rw [List.getElem_append_left (by omega), List.getElem_append_left hl]
    exact hs
  · have hl2 : i = pre.length := by simp at hi hl; omega
    subst hl2
    refine ⟨s, ?_⟩
    have e1 : (pre ++ [t] ++ [u])[pre.length]'(by omega) = t := by simp
    have e2 : (pre ++ [t] ++ [u])[pre.length + 1]'hi = u := by simp
    rw [e1, e2]; exact hd
theorem run_chain {rs : List (Term × Term)} (hr : sysP rs = 0) : ∀ (l : List (Int × List Int)) (pre : List Term) (t : Term), (runF rs (pre ++ [t]) t l).2 = 0 → chainOk rs (pre ++ [t]) → (∀ x, x ∈ pre ++ [t] → checkP x = 0) →
    chainOk rs (runF rs (pre ++ [t]) t l).1 ∧ (∀ x, x ∈ (runF rs (pre ++ [t]) t l).1 → checkP x = 0) ∧ (runF rs (pre ++ [t]) t l).1.length = pre.length + 1 + l.length
  | [], pre, t, _, h1, h2 => ⟨h1, h2, by simp [runF]⟩
  | s :: l, pre, t, h0, h1, h2 => by
    rw [runF] at h0 ⊢
    by_cases hd : (doE rs t s).2 ≠ 0
    · rw [if_pos hd] at h0; exact absurd h0 hd
    · rw [if_neg hd] at h0 ⊢
      have hd' : (doE rs t s).2 = 0 := by simpa using hd
      have hck := do_check (s := s) hr (h2 t (by simp)) hd'
      obtain ⟨a, b, c⟩ := run_chain hr l (pre ++ [t]) (doE rs t s).1 h0 (chain_snoc h1 (Prod.ext rfl hd')) (fun x hx => by
        rcases List.mem_append.1 hx with hx | hx
        · exact h2 x hx
        · rw [List.mem_singleton] at hx; rw [hx]; exact hck)
      refine ⟨a, b, ?_⟩
      rw [c]; simp; omega
theorem terms_chain {rs : List (Term × Term)} (hr : sysP rs = 0) {c : Term × List (Int × List Int)} (h : (termsE rs c).2 = 0) :
    chainOk rs (termsE rs c).1 ∧ (∀ x, x ∈ (termsE rs c).1 → checkP x = 0) ∧ (termsE rs c).1.length = 1 + c.2.length ∧ c.2.length ≤ 4096 := by
  unfold termsE at h ⊢
  by_cases h1 : 4096 < c.2.length
  · rw [if_pos h1] at h; cases h
  · rw [if_neg h1] at h ⊢
    by_cases h2 : checkP c.1 ≠ 0
    · rw [if_pos h2] at h; exact absurd h h2
    · rw [if_neg h2] at h ⊢
      have h2' : checkP c.1 = 0 := by simpa using h2
      obtain ⟨a, b, d⟩ := run_chain hr c.2 [] c.1 h (fun i hi => by simp at hi) (fun x hx => by simp at hx; rw [hx]; exact h2')
      exact ⟨a, b, by simpa using d, by omega⟩
theorem orients_zero {l : List Rank} {unit : Int} {rs : List (Term × Term)} (h : (orientsP l unit rs).2 = 0) : wcheckP l unit = 0 ∧ sysP rs = 0 ∧ (orientsP l unit rs).1 = rs.map fun r => aboveP l unit r.1 r.2 := by
  unfold orientsP at h ⊢
  by_cases h1 : wcheckP l unit ≠ 0
  · rw [if_pos h1] at h; exact absurd h h1
  · rw [if_neg h1] at h ⊢
    by_cases h2 : sysP rs ≠ 0
    · rw [if_pos h2] at h; exact absurd h h2
    · rw [if_neg h2] at h ⊢
      by_cases h3 : fitsW l unit (symS rs) = false
      · rw [if_pos h3] at h; cases h
      · rw [if_neg h3]
        exact ⟨by simpa using h1, by simpa using h2, rfl⟩
theorem checks_bulk {T : List Term} (h : ∀ x, x ∈ T → checkP x = 0) : (T.map Term.bulk).sum ≤ T.length * 100000 := by
  induction T with
  | nil => simp
  | cons t T ih =>
    have h1 := (check_small (h t (by simp))).2
    have h2 := ih (fun x hx => h x (by simp [hx]))
    simp only [List.map_cons, List.sum_cons, List.length_cons, Nat.add_mul]
    omega
set_option maxHeartbeats 4000000 in
theorem decreasesLaw_ac (l : List Rank) (unit : Int) (rs : List (Term × Term)) (c : Term × List (Int × List Int)) (hlen : l.length < 1099511627776) (hnl : ∀ x, x ∈ l → x.name.length < 1099511627776) (hlr : rs.length ≤ 1048576) (hru : RuB rs)
    (hc1 : c.1.bulk ≤ 1099511627775) (hc2 : c.2.length < 1099511627776) (hc3 : ∀ x, x ∈ c.2 → x.2.length < 1099511627776) (H : List AObj) :
    ACall Tryz.prog 4 [.agg [.sl .none (encL encR l), .int .i64 unit], .sl .none (encL encRu rs), encCh c] H (fun r H' => r = .bool true ∧ H' = H) := by
  have hb : BndR rs := fun r hr => by have := hru r hr; omega
  refine ACall_V (H.length) 113 [.tmp 6] Tryz.func4 rfl rfl rfl ?_
  simp only [push_cast, Nat.reduceAdd, Nat.reduceSub, Nat.reduceMul, Nat.reduceLT, Nat.reduceLeDiff, Nat.reduceEqDiff, Int.reduceToNat, ↓reduceIte]
  refine (orients_ac l unit rs hlen hnl (by omega) hb _).to ?_
  simp only [push_cast, Nat.reduceAdd, Nat.reduceSub, Nat.reduceMul, Nat.reduceLT, Nat.reduceLeDiff, Nat.reduceEqDiff, Int.reduceToNat, ↓reduceIte]
  refine (termsR_ac rs hru c hc1 hc2 hc3 _).to ?_
  simp only [push_cast, Nat.reduceAdd, Nat.reduceSub, Nat.reduceMul, Nat.reduceLT, Nat.reduceLeDiff, Nat.reduceEqDiff, Int.reduceToNat, ↓reduceIte, encTE]
  by_cases h1 : (orientsP l unit rs).2 = 0
  · have d1 : decide ((orientsP l unit rs).2 = 0) = true := decide_eq_true h1
    by_cases h2 : (termsE rs c).2 = 0
    · have d2 : decide ((termsE rs c).2 = 0) = true := decide_eq_true h2
      obtain ⟨z1, z2, z3⟩ := orients_zero h1
      obtain ⟨hch, hck, hTl, hcl⟩ := terms_chain z2 h2
      obtain ⟨T, hT⟩ : ∃ T, T = (termsE rs c).1 := ⟨_, rfl⟩
      rw [← hT] at hch hck hTl ⊢
      have hfs := firstErr_sys z2
      have hro := (rules_ok (sys_zero z2).1).1
      have hrl := rT_len rs
      have hs1 := checks_bulk hfs
      have hs2 := checks_bulk hck
      have c1 := fun X => sidesO_ac rs (by omega) X
      have c2 := fun X => lawFits_ac l unit (rT rs ++ T) hlen hnl (by rw [List.length_append]; omega) (by rw [List.map_append, List.sum_append]; omega) X
      obtain ⟨ok, hok⟩ : ∃ ok, ok = okP l unit (rT rs ++ T) := ⟨_, rfl⟩
      rw [← hok] at c2
      apply AW_drawE [some 33, some 34, some 35, some 36, some 37, some 38, some 39, some 40, some 41, some 42, some 43, some 44, some 45, some 46, some 47] [([false, false], _), ([true, false], _), ([true, true], _)] [none, none, none, none, none, none, none, none, none, some 0, none, some 1, none, none, none] 2 [(0, [false, false], [8]), (1, [false, false], [33]), (2, [false, false], [34]), (3, [false, false], [10, 24]), (4, [false, false], [35, 0]), (5, [false, false], [35, 1]), (6, [false, false], [38]), (7, [false, false], [3, 35]), (8, [false, false], [1, 37]), (9, [false, false], [39, 1]), (10, [true, false], [9, 29]), (11, [true, false], [39, 2, 0]), (12, [true, true], [39, 0, 3]), (13, [true, true], [39, 5]), (14, [true, true], [39, 6]), (0, [true, false], [8]), (0, [true, true], [8]), (1, [true, false], [33]), (1, [true, true], [33]), (2, [true, false], [34]), (2, [true, true], [34]), (3, [true, false], [10, 24]), (3, [true, true], [10, 24]), (4, [true, false], [35, 0]), (4, [true, true], [35, 0]), (5, [true, false], [35, 1]), (5, [true, true], [35, 1]), (7, [true, false], [3, 35]), (7, [true, true], [3, 35]), (10, [false, false], [9, 29]), (13, [false, false], [39, 5]), (13, [true, false], [39, 5]), (14, [false, false], [39, 6]), (14, [true, false], [39, 6])] [_, _, _, _, _, _, _, _, _, _, _, _, _, _, _]
      case' hm => exact dr
      case' hn => rfl
      case' hok => rfl
      case' hlen => rfl
      case' hd => rfl
      case' h0 => rfl
      case' hstep =>
       simp only [DAllG, push_cast, Option.isSome_some, Option.isSome_none]
       repeat' apply And.intro
       all_goals (apply DOne_V; simp only [push_cast, Nat.reduceAdd, Nat.reduceSub, Nat.reduceMul, Nat.reduceLT, Nat.reduceLeDiff, Nat.reduceEqDiff, Int.reduceToNat, ↓reduceIte, d1, d2, Bool.not_true] <;> first | exact rfl | omega | exact ⟨rfl, rfl⟩ | exact trivial | exact ⟨by omega, rfl⟩ | exact ⟨by omega, by omega, rfl⟩ | exact ⟨by omega, rfl, rfl⟩ | exact ⟨by omega, by omega, rfl, rfl⟩ | (refine (c1 _).to ?_; exact ⟨rfl, rfl⟩) | (refine AOp.weakV (gSl_forget (H.length + 2) _) (app_T _ (H.length + 2) (rT rs) T _ rfl rfl (by exact (agetN _ _ 2).trans rfl) sl35 sz39 by39 zr39 rfl (by decide) (by omega) ⟨rfl, rfl⟩) ?_; exact ⟨rfl, rfl⟩) | (refine (c2 _).to ?_; exact ⟨rfl, rfl⟩))
      case' hQ => skip
      simp only [push_cast, Nat.reduceAdd, Nat.reduceSub, Nat.reduceMul, Nat.reduceLT, Nat.reduceLeDiff, Nat.reduceEqDiff, Int.reduceToNat, ↓reduceIte]
      cases ok with
      | false =>
        simp only [push_cast, Nat.reduceAdd, Nat.reduceSub, Nat.reduceMul, Nat.reduceLT, Nat.reduceLeDiff, Nat.reduceEqDiff, Int.reduceToNat, ↓reduceIte]
        refine (alive7_ac _).to ?_
        simp only [push_cast, Nat.reduceAdd, Nat.reduceSub, Nat.reduceMul, Nat.reduceLT, Nat.reduceLeDiff, Nat.reduceEqDiff, Int.reduceToNat, ↓reduceIte]
      | true =>
        obtain ⟨A, hA⟩ : ∃ A : (Term × Term) → Bool, A = fun r => aboveP l unit r.1 r.2 := ⟨_, rfl⟩
        rw [← hA] at z3
        simp only [push_cast, Nat.reduceAdd, Nat.reduceSub, Nat.reduceMul, Nat.reduceLT, Nat.reduceLeDiff, Nat.reduceEqDiff, Int.reduceToNat, ↓reduceIte, z3]
        refine AW_loopW (maskG 116 [3, 5, 39, 0, 0]) (fun (i : Nat) => [(51, .int .i64 i)]) (fun _ => H ++ [.cells [.sl .none (encL encR l), .int .i64 unit], .cells [.str c.1.name, .bool c.1.var, .sl .none (encTs c.1.args), .sl .none (encL encSt c.2)], gTok 39 3 (encTs (rT rs ++ T))]) (fun i => i ≤ rs.length ∧ ∀ x, x ∈ rs.take i → A x = true) (fun i => rs.length - i) 0 ⟨Nat.zero_le _, by simp⟩ (by simp only [push_cast, Nat.reduceAdd, Nat.reduceSub, Nat.reduceMul, Nat.reduceLT, Nat.reduceLeDiff, Nat.reduceEqDiff, Int.reduceToNat, ↓reduceIte]) (fun i hi => ?_)
        obtain ⟨hi1, hi2⟩ := hi
        simp only [push_cast, Nat.reduceAdd, Nat.reduceSub, Nat.reduceMul, Nat.reduceLT, Nat.reduceLeDiff, Nat.reduceEqDiff, Int.reduceToNat, ↓reduceIte]
        refine cI (fun h => ?_) (fun h => ?_)
        · have hil : i < rs.length := by simp at h; omega
          refine ⟨by simp; omega, ?_⟩
          simp only [push_cast, Nat.reduceAdd, Nat.reduceSub, Nat.reduceMul, Nat.reduceLT, Nat.reduceLeDiff, Nat.reduceEqDiff, Int.reduceToNat, ↓reduceIte, List.getElem_map]
          refine cI (fun h3 => ?_) (fun h3 => ?_)
          · repeat' first | refine ⟨by omega, ?_⟩ | refine cI (fun _ => ?_) (fun _ => ?_)
            refine loopW_n (i + 1) ⟨by omega, fun x hx => ?_⟩ (by omega) (by simp only [push_cast, Nat.reduceAdd, Nat.reduceSub, Nat.reduceMul, Nat.reduceLT, Nat.reduceLeDiff, Nat.reduceEqDiff, Int.reduceToNat, ↓reduceIte])
            rw [List.take_succ_eq_append_getElem hil] at hx
            rcases List.mem_append.1 hx with hx | hx
            · exact hi2 x hx
            · rw [List.mem_singleton] at hx; rw [hx]; exact h3
          · refine (alive7_ac _).to ?_
            simp only [push_cast, Nat.reduceAdd, Nat.reduceSub, Nat.reduceMul, Nat.reduceLT, Nat.reduceLeDiff, Nat.reduceEqDiff, Int.reduceToNat, ↓reduceIte]
        · rw [List.take_of_length_le (show rs.length ≤ i by simp at h; omega)] at hi2
          refine AW_loopW (maskG 116 [3, 5, 3]) (fun (i : Nat) => [(13, .int .i64 i)]) (fun _ => H ++ [.cells [.sl .none (encL encR l), .int .i64 unit], .cells [.str c.1.name, .bool c.1.var, .sl .none (encTs c.1.args), .sl .none (encL encSt c.2)], gTok 39 3 (encTs (rT rs ++ T))]) (fun i => 1 ≤ i ∧ i ≤ T.length) (fun i => T.length - i) 1 ⟨Nat.le_refl _, by omega⟩ (by first | (simp only [push_cast, Nat.reduceAdd, Nat.reduceSub, Nat.reduceMul, Nat.reduceLT, Nat.reduceLeDiff, Nat.reduceEqDiff, Int.reduceToNat, ↓reduceIte]; done) | (simp only [push_cast, Nat.reduceAdd, Nat.reduceSub, Nat.reduceMul, Nat.reduceLT, Nat.reduceLeDiff, Nat.reduceEqDiff, Int.reduceToNat, ↓reduceIte]; rfl)) (fun k hk => ?_)
          obtain ⟨hk1, hk2⟩ := hk
          simp only [push_cast, Nat.reduceAdd, Nat.reduceSub, Nat.reduceMul, Nat.reduceLT, Nat.reduceLeDiff, Nat.reduceEqDiff, Int.reduceToNat, ↓reduceIte]
          refine cI (fun h4 => ?_) (fun h4 => ?_)
          · have hkl : k < T.length := by omega
            have hkp : k - 1 < T.length := by omega
            obtain ⟨s, hs⟩ := hch (k - 1) (by omega)
            simp only [show k - 1 + 1 = k by omega] at hs
            obtain ⟨g1, g2⟩ := step_above hok.symm (fun r hr => by have := hi2 r hr; rw [hA] at this; exact this) (List.getElem_mem hkp) (List.getElem_mem hkl) hs
            have hm : (k : Int) - 1 = ((k - 1 : Nat) : Int) := by omega
            have k1 := hck _ (List.getElem_mem hkp)
            have k2 := hck _ (List.getElem_mem hkl)
            have b1 := (check_small k1).2
            have b2 := (check_small k2).2
            have e1 : weighP l unit (T[k - 1]'hkp) = (weightP l unit (T[k - 1]'hkp), 0) := (if_neg (by simpa using z1)).trans (if_neg (by simpa using k1))
            have e2 : weighP l unit (T[k]'hkl) = (weightP l unit (T[k]'hkl), 0) := (if_neg (by simpa using z1)).trans (if_neg (by simpa using k2))
            have w1 := fun X => weigh_ac l unit (T[k - 1]'hkp) hlen hnl (by omega) X
            have w2 := fun X => weigh_ac l unit (T[k]'hkl) hlen hnl (by omega) X
            have w3 := fun X => lawGreater_ac l unit (T[k - 1]'hkp) (T[k]'hkl) hlen hnl (by omega) X
            rw [e1] at w1
            rw [e2] at w2
            rw [g1] at w3
            have d3 : decide (weightP l unit (T[k - 1]'hkp) < weightP l unit (T[k]'hkl)) = false := decide_eq_false (by omega)
            apply AW_drawE [some 66, some 67, some 68, some 69, some 70, some 71, some 72, some 73, some 74, some 75, some 65, some 76, some 77, some 14, some 15] [([], _)] [none, none, none, none, none, none, none, none, none, none, none, none, none, none, none] 0 [(0, [], [3]), (1, [], [66]), (2, [], [3]), (3, [], [68]), (4, [], [9]), (5, [], [13]), (6, [], [71]), (7, [], [70, 1]), (8, [], [73]), (9, [], [67, 1, 4]), (10, [], [75]), (11, [], [65]), (12, [], [65]), (13, [], [76]), (14, [], [77])] [_, _, _, _, _, _, _, _, _, _, _, _, _, _, _]
            case' hm => exact dr
            case' hn => rfl
            case' hok => rfl
            case' hlen => rfl
            case' hd => rfl
            case' h0 => rfl
            case' hstep =>
             simp only [DAllG, push_cast, Option.isSome_some, Option.isSome_none]
             repeat' apply And.intro
             all_goals (apply DOne_V; simp only [push_cast, Nat.reduceAdd, Nat.reduceSub, Nat.reduceMul, Nat.reduceLT, Nat.reduceLeDiff, Nat.reduceEqDiff, Int.reduceToNat, ↓reduceIte, hm] <;> first | exact rfl | omega | exact ⟨rfl, rfl⟩ | exact trivial | exact ⟨by omega, rfl⟩ | exact ⟨by omega, by omega, rfl⟩ | exact ⟨by omega, rfl, rfl⟩ | exact ⟨by omega, by omega, rfl, rfl⟩ | exact ⟨⟨by omega, by omega⟩, trivial⟩ | exact ⟨⟨by omega, by omega⟩, rfl⟩ | exact ⟨by omega, trivial⟩ | exact ⟨by omega, rfl⟩ | (refine (w1 _).to ?_; exact ⟨rfl, rfl⟩))
            case' hQ => skip
            simp only [push_cast, Nat.reduceAdd, Nat.reduceSub, Nat.reduceMul, Nat.reduceLT, Nat.reduceLeDiff, Nat.reduceEqDiff, Int.reduceToNat, ↓reduceIte]
            apply AW_drawE [some 79, some 80, some 81, some 82, some 83, some 84, some 85, some 86, some 87, some 78, some 88, some 89, some 16, some 17] [([], _)] [none, none, none, none, none, none, none, none, none, none, none, none, none, none] 0 [(0, [], [3]), (1, [], [79]), (2, [], [3]), (3, [], [81]), (4, [], [9]), (5, [], [13]), (6, [], [83, 0]), (7, [], [85]), (8, [], [80, 1, 3]), (9, [], [87]), (10, [], [78]), (11, [], [78]), (12, [], [88]), (13, [], [89])] [_, _, _, _, _, _, _, _, _, _, _, _, _, _]
            case' hm => exact dr
            case' hn => rfl
            case' hok => rfl
            case' hlen => rfl
            case' hd => rfl
            case' h0 => rfl
            case' hstep =>
             simp only [DAllG, push_cast, Option.isSome_some, Option.isSome_none]
             repeat' apply And.intro
             all_goals (apply DOne_V; simp only [push_cast, Nat.reduceAdd, Nat.reduceSub, Nat.reduceMul, Nat.reduceLT, Nat.reduceLeDiff, Nat.reduceEqDiff, Int.reduceToNat, ↓reduceIte] <;> first | exact rfl | omega | exact ⟨rfl, rfl⟩ | exact trivial | exact ⟨by omega, rfl⟩ | exact ⟨by omega, by omega, rfl⟩ | exact ⟨by omega, rfl, rfl⟩ | exact ⟨by omega, by omega, rfl, rfl⟩ | exact ⟨by omega, trivial⟩ | exact ⟨by omega, rfl⟩ | (refine (w2 _).to ?_; exact ⟨rfl, rfl⟩))
            case' hQ => skip
            simp only [push_cast, Nat.reduceAdd, Nat.reduceSub, Nat.reduceMul, Nat.reduceLT, Nat.reduceLeDiff, Nat.reduceEqDiff, Int.reduceToNat, ↓reduceIte]
            apply AW_drawE [some 90, some 91, some 92, some 93, some 94, some 95, some 96, some 97, some 98, some 99, some 100, some 101, some 102, some 103, some 104, some 105, some 106, some 107, some 108, some 109, some 110, some 111, some 112, some 113, some 114] [([], _)] [none, none, none, none, none, none, none, none, none, none, none, none, none, none, none, none, none, none, none, none, none, none, none, none, none] 0 [(0, [], [15]), (1, [], [90]), (2, [], [91]), (3, [], [17, 74]), (4, [], [92, 0]), (5, [], [92, 1]), (6, [], [95]), (7, [], [16, 79]), (8, [], [14, 81]), (9, [], [96, 0, 0]), (10, [], [96, 2]), (11, [], [100]), (12, [], [3, 97]), (13, [], [9, 91]), (14, [], [13, 87]), (15, [], [101, 2]), (16, [], [101, 1, 1]), (17, [], [101, 4]), (18, [], [9, 91]), (19, [], [13, 87]), (20, [], [101, 6, 0]), (21, [], [101, 8]), (22, [], [101, 0, 4, 3]), (23, [], [101, 10]), (24, [], [101, 11])] [_, _, _, _, _, _, _, _, _, _, _, _, _, _, _, _, _, _, _, _, _, _, _, _, _]
            case' hm => exact dr
            case' hn => rfl
            case' hok => rfl
            case' hlen => rfl
            case' hd => rfl
            case' h0 => rfl
            case' hstep =>
             simp only [DAllG, push_cast, Option.isSome_some, Option.isSome_none]
             repeat' apply And.intro
             all_goals (apply DOne_V; simp only [push_cast, Nat.reduceAdd, Nat.reduceSub, Nat.reduceMul, Nat.reduceLT, Nat.reduceLeDiff, Nat.reduceEqDiff, Int.reduceToNat, ↓reduceIte, hm, d3, decide_true, Bool.not_true] <;> first | exact rfl | omega | exact ⟨rfl, rfl⟩ | exact trivial | exact ⟨by omega, rfl⟩ | exact ⟨by omega, by omega, rfl⟩ | exact ⟨by omega, rfl, rfl⟩ | exact ⟨by omega, by omega, rfl, rfl⟩ | exact ⟨⟨by omega, by omega⟩, trivial⟩ | exact ⟨⟨by omega, by omega⟩, rfl⟩ | exact ⟨by omega, trivial⟩ | exact ⟨by omega, rfl⟩ | (refine (w3 _).to ?_; exact ⟨rfl, rfl⟩))
            case' hQ => skip
            simp only [push_cast, Nat.reduceAdd, Nat.reduceSub, Nat.reduceMul, Nat.reduceLT, Nat.reduceLeDiff, Nat.reduceEqDiff, Int.reduceToNat, ↓reduceIte]
            repeat' first | refine ⟨by omega, ?_⟩ | refine cI (fun _ => ?_) (fun _ => ?_)
            exact loopW_n (k + 1) ⟨by omega, by omega⟩ (by omega) (by simp only [push_cast, Nat.reduceAdd, Nat.reduceSub, Nat.reduceMul, Nat.reduceLT, Nat.reduceLeDiff, Nat.reduceEqDiff, Int.reduceToNat, ↓reduceIte])
          · refine (alive7_ac _).to ?_
            simp only [push_cast, Nat.reduceAdd, Nat.reduceSub, Nat.reduceMul, Nat.reduceLT, Nat.reduceLeDiff, Nat.reduceEqDiff, Int.reduceToNat, ↓reduceIte]
    · have d2 : decide ((termsE rs c).2 = 0) = false := decide_eq_false h2
      apply AW_drawE [some 33, some 34, some 35, some 36, some 37, some 38, some 39, some 40, some 41, some 42, some 43, some 44, some 45, some 46, some 47] [([], _)] [none, none, none, none, none, none, none, none, none, none, none, none, none, none, none] 0 [(0, [], [8]), (1, [], [33]), (2, [], [34]), (3, [], [10, 24]), (4, [], [35, 0]), (5, [], [35, 1]), (6, [], [38]), (7, [], [3, 35]), (8, [], [1, 37]), (9, [], [39, 1]), (10, [], [9, 29]), (11, [], [39, 2, 0]), (12, [], [39, 0, 3]), (13, [], [39, 5]), (14, [], [39, 6])] [_, _, _, _, _, _, _, _, _, _, _, _, _, _, _]
      case' hm => exact dr
      case' hn => rfl
      case' hok => rfl
      case' hlen => rfl
      case' hd => rfl
      case' h0 => rfl
      case' hstep =>
       simp only [DAllG, push_cast, Option.isSome_some, Option.isSome_none]
       repeat' apply And.intro
       all_goals (apply DOne_V; simp only [push_cast, Nat.reduceAdd, Nat.reduceSub, Nat.reduceMul, Nat.reduceLT, Nat.reduceLeDiff, Nat.reduceEqDiff, Int.reduceToNat, ↓reduceIte, d1, d2, Bool.not_true, Bool.not_false] <;> first | exact rfl | omega | exact ⟨rfl, rfl⟩ | exact trivial | exact ⟨by omega, rfl⟩ | exact ⟨by omega, by omega, rfl⟩ | exact ⟨by omega, rfl, rfl⟩ | exact ⟨by omega, by omega, rfl, rfl⟩ | skip)
      case' hQ => skip
      simp only [push_cast, Nat.reduceAdd, Nat.reduceSub, Nat.reduceMul, Nat.reduceLT, Nat.reduceLeDiff, Nat.reduceEqDiff, Int.reduceToNat, ↓reduceIte]
      refine (alive7_ac _).to ?_
      simp only [push_cast, Nat.reduceAdd, Nat.reduceSub, Nat.reduceMul, Nat.reduceLT, Nat.reduceLeDiff, Nat.reduceEqDiff, Int.reduceToNat, ↓reduceIte]
  · have d1 : decide ((orientsP l unit rs).2 = 0) = false := decide_eq_false h1
    apply AW_drawE [some 33, some 34, some 35, some 36, some 37, some 38, some 39, some 40, some 41, some 42, some 43, some 44, some 45, some 46, some 47] [([], _)] [none, none, none, none, none, none, none, none, none, none, none, none, none, none, none] 0 [(0, [], [8]), (1, [], [33]), (2, [], [34]), (3, [], [10, 24]), (4, [], [35, 0]), (5, [], [35, 1]), (6, [], [38]), (7, [], [3, 35]), (8, [], [1, 37]), (9, [], [39, 1]), (10, [], [9, 29]), (11, [], [39, 2, 0]), (12, [], [39, 0, 3]), (13, [], [39, 5]), (14, [], [39, 6])] [_, _, _, _, _, _, _, _, _, _, _, _, _, _, _]
    case' hm => exact dr
    case' hn => rfl
    case' hok => rfl
    case' hlen => rfl
    case' hd => rfl
    case' h0 => rfl
    case' hstep =>
     simp only [DAllG, push_cast, Option.isSome_some, Option.isSome_none]
     repeat' apply And.intro
     all_goals (apply DOne_V; simp only [push_cast, Nat.reduceAdd, Nat.reduceSub, Nat.reduceMul, Nat.reduceLT, Nat.reduceLeDiff, Nat.reduceEqDiff, Int.reduceToNat, ↓reduceIte, d1, Bool.not_false] <;> first | exact rfl | omega | exact ⟨rfl, rfl⟩ | exact trivial | exact ⟨by omega, rfl⟩ | exact ⟨by omega, by omega, rfl⟩ | exact ⟨by omega, rfl, rfl⟩ | exact ⟨by omega, by omega, rfl, rfl⟩ | skip)
    case' hQ => skip
    simp only [push_cast, Nat.reduceAdd, Nat.reduceSub, Nat.reduceMul, Nat.reduceLT, Nat.reduceLeDiff, Nat.reduceEqDiff, Int.reduceToNat, ↓reduceIte]
    refine (alive7_ac _).to ?_
    simp only [push_cast, Nat.reduceAdd, Nat.reduceSub, Nat.reduceMul, Nat.reduceLT, Nat.reduceLeDiff, Nat.reduceEqDiff, Int.reduceToNat, ↓reduceIte]
end Ab
set_option maxRecDepth 10000
namespace Go.Proofs.YtohdojbfkcodjaaGreat
open Go Ab
namespace wde
theorem own : ownKnob Tryz.prog.godebug = none := by kernel_rfl
theorem laid : laidOutB Tryz.prog = true := by kernel_rfl
theorem readable : ∀ t, t ∈ Tryz.f4.params.toList → Tryz.prog.readableRec t = true ∧ t < Tryz.prog.types.size := by
  rw [Tryz.params4]; intro t ht
  simp only [List.mem_cons, List.not_mem_nil, or_false] at ht
  rcases ht with rfl | rfl | rfl <;> exact ⟨by kernel_rfl, of_decide_eq_true (by kernel_rfl)⟩
theorem closed : closedK Tryz.prog [24, 22, 59, 9, 3, 25, 41, 39, 4, 35, 47, 45, 74, 72] = true := by kernel_rfl
theorem contract (H : Type) (enc : TypeId × Value → H) (W : World) (base : Nat) (args : Array Value) (ds gs : List (DataW H)) (before : List MemPlace)
    (hval : ∀ (j : Nat) t v, Tryz.f4.params[j]? = some t → args[j]? = some v → Value.okWide Tryz.prog W .any base t v)
    (hW : DataW.Whole enc Tryz.prog Tryz.f4.params.toList Rows.weightDecreasesSpec.vars false W args.toList ds gs before) (hk : Rows.uptoSmall H (ds ++ gs) = true) :
    Calls Tryz.prog 4 args W fun e W' => ∃ v, e = .returned v ∧ Rows.weightDecreasesSpec.post enc Tryz.prog Tryz.f4 false true false false W args v W' := by
  have hW' := hW
  obtain ⟨p, q, hA0, hV, rfl, hfz, hnd⟩ := hW
  have hA : DataW.TrodAll enc Tryz.prog W 0 (fun _ => true) true Tryz.f4.params.toList args.toList ds p := hA0
  rw [Tryz.params4] at hA hval
  obtain ⟨v0, vs0, d0, ds0, p0, q0, hargs, rfl, rfl, h0, r0⟩ := ChangeShapes.trodAll_cons hA
  obtain ⟨v1, vs1, d1, ds1, p1, q1, rfl, rfl, rfl, h1, r1⟩ := ChangeShapes.trodAll_cons r0
  obtain ⟨v2, vs2, d2, ds2, p2, q2, rfl, rfl, rfl, h2, r2⟩ := ChangeShapes.trodAll_cons r1
  obtain ⟨rfl, rfl, rfl⟩ := ChangeShapes.trodAll_nil r2
  obtain rfl : args = #[v0, v1, v2] := by cases args; simp_all
  have hg : gs = [] := by cases gs with | nil => rfl | cons _ _ => exact hV.elim
  subst hg
  have hb : Rows.uptoBulk d0 + Rows.uptoBulk d1 + Rows.uptoBulk d2 ≤ 1048576 := by
    have := of_decide_eq_true hk
    simp only [List.cons_append, List.nil_append, List.append_nil, Rows.uptoBulkAll] at this
    omega
  obtain ⟨n0, a0, e0, x0⟩ := arg_struct closed (by decide) Tryz.underlying24 (hval 0 _ v0 rfl rfl) h0
  obtain ⟨n1, a1, e1, x1⟩ := arg_slice closed (by decide) Tryz.underlying25 (hval 1 _ v1 rfl rfl) h1
  obtain ⟨n2, a2, e2, x2⟩ := arg_struct closed (by decide) Tryz.underlying47 (hval 2 _ v2 rfl rfl) h2
  obtain ⟨l, unit, f0, b0, c0⟩ := order_form n0 d0 a0 e0
  obtain ⟨rs, f1, b1, c1⟩ := rules_form n1 d1 [a1] e1
  obtain ⟨c, f2, b2, l2, c2⟩ := chain_form n2 d2 a2 e2
  try simp only [List.cons.injEq, and_true] at f1
  rw [f0] at x0; rw [f1] at x1; rw [f2] at x2
  have hc := law_calls (args := #[v0, v1, v2]) (avs := [.agg [.sl .none (encL encR l), .int .i64 unit], .sl .none (encL encRu rs), encCh c]) (W := W) (decreasesLaw_ac l unit rs c (by omega) (fun x hx => by have := c0 x hx; omega) (by omega) (fun r hr => by have := c1 r hr; omega) (by omega) (by omega) (fun x hx => by have := c2 x hx; omega) []) (fun h => by simp [tabOn] at h) rfl (fun i hi hi' => by
    match i, hi with
    | 0, _ => exact x0
    | 1, _ => exact x1
    | 2, _ => exact x2)
  refine hc.mono fun e W' ⟨he, hbl⟩ => ?_
  subst he
  exact ⟨_, rfl, post_law rfl ⟨rfl, rfl, rfl⟩ hW' hbl rfl Tryz.underlying4 laid readable⟩
set_option maxRecDepth 100000 in
theorem lifted (os : Os) (started : os.Started) (H : Type) (enc : TypeId × Value → H) (F : Stop.Interp) :
    ReturnsInHanded {} Tryz.checked os 4 .any ((Rows.OpenSpec.upto Rows.weightDecreasesSpec).pre6 enc Tryz.prog Tryz.f4 Rows.weightDecreasesUptoRow.domain false) (((Rows.OpenSpec.upto Rows.weightDecreasesSpec).at F).post enc Tryz.prog Tryz.f4 false true false false) := by
  refine returnsInHanded_of_cond (C := Tryz.checked) (s := Rows.OpenSpec.upto Rows.weightDecreasesSpec) (k := Rows.uptoSmall) rfl own started (by kernel_rfl) Tryz.func4
    (OpenSpec.witness (enc := enc) (C := Tryz.checked) (s := Rows.OpenSpec.upto Rows.weightDecreasesSpec) (k := Rows.uptoSmall) rfl false
      ⟨#[], #[.agg #[.slice none 0 0, .int .i64 0], .slice none 0 0, .agg #[.string ⟨#[]⟩, .bool false, .slice none 0 0, .slice none 0 0]], []⟩ 8 (by kernel_rfl) (by kernel_rfl) (by kernel_rfl)
      (x := ([.agg [.nil, .lit (.int .i64 0)], .nil, .agg [.agg [.lit (.string []), .lit (.bool false), .nil], .nil]], [], [])) (by kernel_rfl) rfl (by kernel_rfl)) ?_
  intro W base args ds gs before hval hW _ hk _
  exact contract H enc W base args ds gs before hval hW hk
theorem over : Rows.weightDecreasesUptoRow.holds Tryz.pinned (Rows.OpenSpec.upto Rows.weightDecreasesSpec) :=
  OpenClaim.holds_of_cond 4 Tryz.f4 rfl rfl rfl rfl rfl rfl rfl ⟨rfl, rfl, rfl, rfl, rfl⟩ rfl rfl rfl rfl rfl (by kernel_rfl) Tryz.func4 (by kernel_rfl)
    (of_decide_eq_true (by kernel_rfl)) (by unfold Func.isWrapper; first | (rw [if_pos (by decide +kernel)]; kernel_rfl) | (rw [if_neg (by decide +kernel)]; exact ⟨rfl, rfl⟩))
    (fun os started H enc _ F => lifted os started H enc F)
end wde
theorem weightDecreases_upto : Rows.WeightDecreasesUptoSaid := wde.over
end Go.Proofs.YtohdojbfkcodjaaGreat
