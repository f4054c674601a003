/- Part 5 of 5 of a proof. The law WeightOrients holds: for all orders and systems that are not larger than the statement's bound, the function returns true. -/
import Derived.Test.YtohdojbfkcodjaaGreatRa4
set_option linter.unusedVariables false
set_option linter.unusedSimpArgs false
set_option maxRecDepth 10000
namespace Ab
open Go Go.Proofs
def occOf (v : List UInt8) (x : List Int × Term) : Int := oneP v x.2.name x.2.var
theorem walkL_occ : ∀ (v : List UInt8) (xs : List Term) (i : Int) (p : List Int), ((walkL xs i p).map (occOf v)).sum = (xs.map (countP v)).sum
  | v, [], _, _ => by simp [walkL]
  | v, .mk n u ys :: r, i, p => by
    have h1 := walkL_occ v ys 0 (p ++ [i])
    have h2 := walkL_occ v r (i + 1) p
    simp only [walkL, List.map_cons, List.map_append, List.sum_cons, List.sum_append, h1, h2, countP_mk]
    simp only [occOf, Term.var_mk, Term.name_mk]; omega
theorem walkT_occ (v : List UInt8) (t : Term) (p : List Int) : ((walkT t p).map (occOf v)).sum = countP v t := by
  cases t with
  | mk n u xs => simp [walkT, walkL_occ, Term.args_mk, countP_mk, occOf, Term.var_mk, Term.name_mk]
theorem aset_keys {κ α : Type} [DecidableEq κ] : ∀ (m : List (κ × α)) (k : κ) (v : α), (aset m k v).map (·.1) = if k ∈ m.map (·.1) then m.map (·.1) else m.map (·.1) ++ [k]
  | [], k, v => by simp [aset]
  | p :: m, k, v => by
    have ih := aset_keys m k v
    by_cases h : p.1 = k
    · simp [aset, h]
    · have h' : ¬ k = p.1 := fun e => h e.symm
      simp only [aset, h, if_false, List.map_cons, List.mem_cons, h', false_or, ih]
      split <;> simp
theorem aset_nodup {κ α : Type} [DecidableEq κ] {m : List (κ × α)} (h : (m.map (·.1)).Nodup) (k : κ) (v : α) : ((aset m k v).map (·.1)).Nodup := by
  rw [aset_keys]
  split
  · exact h
  · rename_i hk
    rw [List.nodup_append]
    exact ⟨h, by simp, fun a ha b hb => by simp at hb; subst hb; exact fun e => hk (e ▸ ha)⟩
theorem aget_of_mem {κ α : Type} [DecidableEq κ] : ∀ {m : List (κ × α)}, (m.map (·.1)).Nodup → ∀ p, p ∈ m → aget m p.1 = some p.2
  | q :: m, h, p, hp => by
    rw [List.map_cons, List.nodup_cons] at h
    unfold aget
    rcases List.mem_cons.1 hp with rfl | hp
    · simp
    · have : ¬ q.1 = p.1 := fun e => h.1 (e ▸ List.mem_map_of_mem hp)
      rw [if_neg this]; exact aget_of_mem h.2 p hp
theorem countM_nodup (l : List (List Int × Term)) : ((countM l).map (·.1)).Nodup := by
  obtain ⟨r, rfl⟩ : ∃ r, l = r.reverse := ⟨l.reverse, by simp⟩
  induction r with
  | nil => simp [countM]
  | cons x r ih =>
    rw [List.reverse_cons, countM_snoc]
    unfold countStep
    split
    · exact aset_nodup ih _ _
    · exact ih
theorem countM_get (v : List UInt8) (l : List (List Int × Term)) : (aget (countM l) v).getD 0 = (l.map (occOf v)).sum := by
  obtain ⟨r, rfl⟩ : ∃ r, l = r.reverse := ⟨l.reverse, by simp⟩
  induction r with
  | nil => simp [countM, aget]
  | cons x r ih =>
    rw [List.reverse_cons, countM_snoc, List.map_append, List.sum_append, ← ih]
    unfold countStep
    cases hv : x.2.var with
    | false => simp [occOf, oneP, hv]
    | true =>
      simp only [if_true, List.map_cons, List.map_nil, List.sum_cons, List.sum_nil, occOf, oneP, hv, true_and]
      rw [aget_aset]
      by_cases hn : x.2.name = v
      · simp [hn]
      · simp [hn]
theorem coversP_iff (s t : Term) : coversP s t = true ↔ ∀ v, countP v t ≤ countP v s := by
  have hg : ∀ (v : List UInt8) (t : Term), (aget (countM (walkT t [])) v).getD 0 = countP v t := fun v t => by rw [countM_get, walkT_occ]
  unfold coversP
  rw [List.all_eq_true]
  constructor
  · intro h v
    cases ha : aget (countM (walkT t [])) v with
    | none =>
      have := hg v t
      rw [ha] at this; simp at this
      have := countP_bound v s
      omega
    | some n =>
      have h1 := h _ (aget_mem ha)
      have := hg v t
      rw [ha] at this; simp at this
      rw [hg] at h1; simp at h1; omega
  · intro h p hp
    have h1 := aget_of_mem (countM_nodup _) p hp
    have h2 := hg p.1 t
    rw [h1] at h2; simp at h2
    rw [hg, h2]; simpa using h p.1
theorem mem_varsP (v : List UInt8) (t : Term) : v ∈ varsP [t] ↔ 0 < countP v t := by simp [varsP, mem_collectP]
theorem coversP_vars (s t : Term) : coversP s t = (varsP [t]).all fun v => decide (countP v t ≤ countP v s) := by
  rw [Bool.eq_iff_iff, coversP_iff, List.all_eq_true]
  constructor
  · intro h v _; simpa using h v
  · intro h v
    by_cases hv : 0 < countP v t
    · simpa using h v ((mem_varsP v t).2 hv)
    · have := countP_bound v s; omega
def symOf (t : Term) : Sym := ⟨t.name, t.args.length⟩
def ofT : Term → List Sym
  | .mk n u xs => (xs.map ofT).flatten ++ if u then [] else [⟨n, xs.length⟩]
theorem ofT_mk (n : List UInt8) (u : Bool) (xs : List Term) : ofT (.mk n u xs) = xs.flatMap ofT ++ if u then [] else [⟨n, xs.length⟩] := by simp [ofT, List.flatMap]
theorem sum_le_sum {α : Type} {f g : α → Nat} : ∀ {xs : List α}, (∀ x, x ∈ xs → f x ≤ g x) → (xs.map f).sum ≤ (xs.map g).sum
  | [], _ => by simp
  | y :: ys, h => by
    have h1 := h y (by simp)
    have h2 := sum_le_sum (xs := ys) (fun z hz => h z (by simp [hz]))
    simp only [List.map_cons, List.sum_cons]; omega
theorem ofT_length (t : Term) : (ofT t).length ≤ t.size := by
  refine Term.ind (p := fun t => (ofT t).length ≤ t.size) (fun n u xs ih => ?_) t
  rw [ofT_mk, Term.size_mk, List.length_append, List.length_flatMap]
  have := sum_le_sum (f := fun t => (ofT t).length) (g := Term.size) ih
  split <;> simp only [List.length_nil, List.length_cons] <;> omega
def symStep (out : List Sym) (x : List Int × Term) : List Sym := if x.2.var = false ∧ symOf x.2 ∉ out then out ++ [symOf x.2] else out
def symsT (out : List Sym) (t : Term) : List Sym := (walkT t []).foldl symStep out
def symsP (ts : List Term) : List Sym := ts.foldl symsT []
def fitsRy (l : List Rank) (x y : Sym) : Bool := !(decide (x.arity = 1) && decide ((ofP l x.name).weight = 0) && decide (x ≠ y) && !decide ((ofP l y.name).rank < (ofP l x.name).rank))
def fitsRx (l : List Rank) (unit : Int) (ss : List Sym) (x : Sym) : Bool := !(decide (x.arity = 0) && decide ((ofP l x.name).weight < unit)) && ss.all (fitsRy l x)
def fitsR (l : List Rank) (unit : Int) (ss : List Sym) : Bool := ss.all (fitsRx l unit ss)
theorem fitsR_eq (l : List Rank) (unit : Int) (hr : SmallR l unit) (s1 s2 : List Sym) (h : ∀ f, f ∈ s1 ↔ f ∈ s2) : fitsR l unit s1 = fitsW l unit s2 := by
  have hall : ∀ p : Sym → Bool, s1.all p = s2.all p := fun p => by
    rw [Bool.eq_iff_iff, List.all_eq_true, List.all_eq_true]; simp only [h]
  unfold fitsR fitsW
  rw [hall]
  congr 1
  funext x
  unfold fitsRx
  rw [hall]
  unfold fitsAt
  congr 1
  have hw := hr.of x.name
  rw [Bool.eq_iff_iff, List.all_eq_true]
  unfold fitsRy
  by_cases ha : x.arity = 1
  · by_cases hw0 : 0 < (ofP l x.name).weight
    · have : ¬ (ofP l x.name).weight = 0 := by omega
      simp [ha, hw0, this]
    · have : (ofP l x.name).weight = 0 := by omega
      simp only [ha, this, decide_true, Bool.true_and, Bool.not_true, Bool.false_or, Int.lt_irrefl, decide_false, Bool.not_eq_true', List.any_eq_false]
      constructor
      · intro h1 y hy h2
        have := h1 y hy
        simp only [Bool.and_eq_true, decide_eq_true_eq, ne_eq] at h2
        have hne : ¬ x = y := fun e => h2.1 e.symm
        simp [hne] at this; omega
      · intro h1 y hy
        have := h1 y hy
        by_cases hne : x = y
        · simp [hne]
        · have hne' : ¬ y = x := fun e => hne e.symm
          simp [hne, hne'] at this ⊢; omega
  · simp [ha]
end Ab
set_option maxRecDepth 10000
namespace Ab
open Go Go.Proofs
theorem leB_cmp (a b : List UInt8) : leB a b = true ↔ 0 ≤ Lib.compareBytes b a := by
  have h1 := bytesLess_cmp a b
  have h3 := bytesLess_cmp b a
  have h2 := compareBytes_eq b a
  unfold leB
  rw [Bool.or_eq_true, decide_eq_true_eq, h1.1]
  constructor
  · rintro (h | h)
    · have := h3.2.1 h; omega
    · have := h2.2 h.symm; omega
  · intro h
    rcases Int.lt_or_eq_of_le h with h4 | h4
    · exact .inl (h3.2.2 h4)
    · exact .inr (h2.1 h4.symm).symm
theorem sorted_of_names {l : List Rank} (h : namesP l = 0) : SortedR l ∧ l.length ≤ 256 := by
  unfold namesP at h
  split at h
  · cases h
  rename_i h1
  split at h
  · rename_i h2
    rw [List.all_eq_true] at h2
    have hstep : ∀ i (hi : i + 1 < l.length), Lib.compareBytes l[i].name l[i + 1].name < 0 := by
      intro i hi
      have h3 := h2 (i + 1) (by simpa using hi)
      unfold goodAt at h3
      rw [show l.getD (i + 1) zeroR = l[i + 1] from by simp [hi], show i + 1 - 1 = i from rfl, show l.getD i zeroR = l[i] from by simp [show i < l.length by omega]] at h3
      simp only [Bool.and_eq_true, Bool.or_eq_true, decide_eq_true_eq, Bool.not_eq_true'] at h3
      have h4 : leB l[i + 1].name l[i].name = false := by
        rcases h3.2 with h5 | h5
        · omega
        · exact h5
      have h6 := (leB_cmp l[i + 1].name l[i].name)
      rw [h4] at h6
      have : ¬ 0 ≤ Lib.compareBytes l[i].name l[i + 1].name := fun e => by cases h6.2 e
      omega
    refine ⟨?_, by omega⟩
    unfold SortedR
    rw [List.pairwise_iff_getElem]
    intro i j hi hj hij
    obtain ⟨d, rfl⟩ : ∃ d, j = i + 1 + d := ⟨j - i - 1, by omega⟩
    induction d with
    | zero => exact hstep i (by omega)
    | succ d ih => exact cb_trans _ _ _ (ih (by omega) (by omega)) (hstep (i + 1 + d) (by omega))
  · cases h
theorem good_of_check {l : List Rank} {unit : Int} (h : wcheckP l unit = 0) : SortedR l ∧ SmallR l unit := by
  unfold wcheckP at h
  split at h
  · rename_i h1; exact absurd h h1
  rename_i h1
  split at h
  · cases h
  rename_i h2
  refine ⟨(sorted_of_names (by omega)).1, ?_⟩
  rw [Bool.not_eq_true, Bool.or_eq_false_iff, Bool.or_eq_false_iff] at h2
  obtain ⟨⟨h3, h4⟩, h5⟩ := h2
  rw [List.any_eq_false] at h3
  simp only [badP, Bool.or_eq_false_iff, decide_eq_false_iff_not] at h4 h5
  refine ⟨fun x hx => ?_, by omega, by omega⟩
  have := h3 x hx
  simp only [badP, Bool.or_eq_true, decide_eq_true_eq, not_or] at this
  omega
end Ab
set_option maxRecDepth 10000
namespace Ab
open Go Go.Proofs
def seenM (out : List Sym) : List (Sym × Bool) := out.map fun s => (s, true)
theorem seen_get (out : List Sym) (f : Sym) : aget (seenM out) f = if f ∈ out then some true else none := by
  induction out with
  | nil => simp [seenM, aget]
  | cons x r ih =>
    have h : seenM (x :: r) = (x, true) :: seenM r := rfl
    rw [h, aget, ih]
    by_cases hx : x = f
    · simp [hx]
    · have : ¬ f = x := fun e => hx e.symm
      simp [hx, this]
theorem seen_set (out : List Sym) (f : Sym) (h : f ∉ out) : aset (seenM out) f true = seenM (out ++ [f]) := by
  have := (aget_none (k := f) (m := seenM out) (fun p hp => by simp [seenM] at hp; obtain ⟨a, ha, rfl⟩ := hp; exact fun e => h (e ▸ ha))).2 true
  rw [this]; simp [seenM]
theorem symStep_length (out : List Sym) (x : List Int × Term) : (symStep out x).length ≤ out.length + 1 := by unfold symStep; split <;> simp
theorem symFold_length : ∀ (l : List (List Int × Term)) (out : List Sym), (l.foldl symStep out).length ≤ out.length + l.length
  | [], out => by simp
  | x :: l, out => by
    have h1 := symFold_length l (symStep out x)
    have h2 := symStep_length out x
    simp only [List.foldl_cons, List.length_cons]; omega
theorem symsFold_length : ∀ (ts : List Term) (out : List Sym), (ts.foldl symsT out).length ≤ out.length + (ts.map Term.size).sum
  | [], out => by simp
  | t :: ts, out => by
    have h1 := symsFold_length ts (symsT out t)
    have h2 := symFold_length (walkT t []) out
    rw [walkT_length] at h2
    have h3 : symsT out t = (walkT t []).foldl symStep out := rfl
    rw [← h3] at h2
    simp only [List.foldl_cons, List.map_cons, List.sum_cons]; omega
theorem cellSm : ∀ (x : Sym) c, c ∈ (encS x).cells → c.isCell = true := by
  intro x c hc; simp [AV.cells] at hc; rcases hc with rfl | rfl <;> rfl
@[reducible] def symMap (out : List Sym) : List (AV × AV) := amap (fun s : Sym => AV.agg (symCells s)) AV.bool (seenM out)
theorem oscSm (n ver : Nat) (out : List Sym) : OScoped n (.map ver (amap (fun s : Sym => AV.agg (symCells s)) AV.bool (seenM out))) = True := eq_true (oscoped_amap (by simp [Scoped, ScopedL, symCells]) (by simp [Scoped]))
attribute [push_cast] oscSm
theorem symStep_y {out : List Sym} {x : List Int × Term} {F : Sym} (hF : F = symOf x.2) (hv : x.2.var = false) (h : F ∉ out) : symStep out x = out ++ [F] := by unfold symStep; rw [← hF, if_pos ⟨hv, h⟩]
theorem symStep_n {out : List Sym} {x : List Int × Term} {F : Sym} (hF : F = symOf x.2) (h : x.2.var = true ∨ F ∈ out) : symStep out x = out := by
  unfold symStep; rw [← hF, if_neg]
  rintro ⟨h1, h2⟩
  rcases h with h | h
  · rw [h] at h1; cases h1
  · exact h2 h
theorem syms_take (ts : List Term) (i : Nat) (h : i < ts.length) : (ts.take (i + 1)).foldl symsT [] = (walkT ts[i] []).foldl symStep ((ts.take i).foldl symsT []) := by
  rw [List.take_succ_eq_append_getElem h, List.foldl_append]; rfl
set_option maxHeartbeats 2000000 in
theorem symsW_ac (ts : List Term) (hlen : ts.length < 1099511627776) (hb : ∀ x, x ∈ ts → x.bulk ≤ 1099511627775) (hsz : (ts.map Term.size).sum ≤ 1099511627775) (H : List AObj) :
    ACall Tryz.prog 59 [.sl .none (encTs ts)] H (fun r H' => r = .sl .none (encL encS (symsP ts)) ∧ H' = H) := by
  refine ACall_VA (H.length) 43 [.tmp 2] Tryz.func59 rfl rfl rfl ?_
  refine AW_reserve 1 ?_
  refine AW_of_W ?_
  simp only [push_cast, Nat.reduceAdd, Nat.reduceSub, Nat.reduceMul, Nat.reduceLT, Nat.reduceLeDiff, Nat.reduceEqDiff, Int.reduceToNat, ↓reduceIte]
  refine AW_loopW (maskG 44 [3, 0, 6, 0, 0, 6]) (fun (i : Nat) => [(13, .int .i64 i)]) (fun i => H ++ [gTok 64 2 (encL encS ((ts.take i).foldl symsT [])), .map ((ts.take i).foldl symsT []).length (symMap ((ts.take i).foldl symsT [])), .cells [.map (H.length + 1)], .cells [gSl H.length (encL encS ((ts.take i).foldl symsT []))]]) (fun i => i ≤ ts.length) (fun i => ts.length - i) 0 (Nat.zero_le _) (by simp only [push_cast, Nat.reduceAdd, Nat.reduceSub, Nat.reduceMul, Nat.reduceLT, Nat.reduceLeDiff, Nat.reduceEqDiff, Int.reduceToNat, ↓reduceIte, List.take_zero, List.foldl_nil, encL_nil]; rfl) (fun i hi => ?_)
  simp only [push_cast, Nat.reduceAdd, Nat.reduceSub, Nat.reduceMul, Nat.reduceLT, Nat.reduceLeDiff, Nat.reduceEqDiff, Int.reduceToNat, ↓reduceIte]
  refine cI (fun h => ?_) (fun h => ?_)
  · have hil : i < ts.length := by omega
    repeat refine ⟨by omega, ?_⟩
    refine (walkF_ac (ts[i]'hil) _).to ?_
    simp only [push_cast, Nat.reduceAdd, Nat.reduceSub, Nat.reduceMul, Nat.reduceLT, Nat.reduceLeDiff, Nat.reduceEqDiff, Int.reduceToNat, ↓reduceIte]
    obtain ⟨O, hO⟩ : ∃ O, O = (ts.take i).foldl symsT [] := ⟨_, rfl⟩
    have hst := syms_take ts i hil
    have hO2 := symsFold_length (ts.take i) []
    rw [List.length_nil, Nat.zero_add] at hO2
    rw [← hO] at hst hO2 ⊢
    obtain ⟨T, hT⟩ : ∃ T, T = ts[i]'hil := ⟨_, rfl⟩
    have hbt : T.bulk ≤ 1099511627775 := by rw [hT]; exact hb _ (List.getElem_mem hil)
    have h4 := take_sum Term.size ts i hil
    have h5 := take_sum_le Term.size ts (i + 1)
    rw [← hT] at hst h4 ⊢
    refine AW_iterW _ _ (walk_iter T hbt _) H (fun pre => [gTok 64 2 (encL encS (pre.foldl symStep O)), .map (pre.foldl symStep O).length (symMap (pre.foldl symStep O)), .cells [.map (H.length + 1)], .cells [gSl H.length (encL encS (pre.foldl symStep O))], .cells [.str T.name, .bool T.var, .sl .none (encTs T.args)], .cells [.str T.name, .bool T.var, .sl .none (encTs T.args)]]) 6 (fun _ _ => none) rfl ok109 (by simp only [push_cast, Nat.reduceAdd, Nat.reduceSub, Nat.reduceMul, Nat.reduceLT, Nat.reduceLeDiff, Nat.reduceEqDiff, Int.reduceToNat, ↓reduceIte, List.foldl_nil]) (fun _ => rfl) (fun lp => by simp only [push_cast, Nat.reduceAdd, Nat.reduceSub, Nat.reduceMul, Nat.reduceLT, Nat.reduceLeDiff, Nat.reduceEqDiff, Int.reduceToNat, ↓reduceIte]) (fun p => by simp only [push_cast, Nat.reduceAdd, Nat.reduceSub, Nat.reduceMul, Nat.reduceLT, Nat.reduceLeDiff, Nat.reduceEqDiff, Int.reduceToNat, ↓reduceIte]) (fun _ => rfl) (fun pre x suf X l lp lp' he hn => ?_) (fun _ lp => ?_) (fun pre x suf c lp _ _ h => by cases h)
    · obtain ⟨S, hS⟩ : ∃ S, S = pre.foldl symStep O := ⟨_, rfl⟩
      have hS1 : (pre ++ [x]).foldl symStep O = symStep S x := by rw [List.foldl_append, hS]; rfl
      have hSl : S.length + 1 ≤ 1099511627775 := by
        have h1 := symFold_length pre O
        have h3 := walkT_length T []
        have h6 : pre.length + 1 ≤ (walkT T []).length := by rw [he]; simp
        rw [← hS] at h1
        omega
      obtain ⟨F, hF⟩ : ∃ F, F = symOf x.2 := ⟨_, rfl⟩
      have hF1 : AV.agg [AV.str x.2.name, AV.int .i64 x.2.args.length] = AV.agg (symCells F) := by rw [hF]; rfl
      rw [hS1, ← hS]
      simp only [push_cast, Nat.reduceAdd, Nat.reduceSub, Nat.reduceMul, Nat.reduceLT, Nat.reduceLeDiff, Nat.reduceEqDiff, Int.reduceToNat, ↓reduceIte, List.drop_length]
      refine cI (fun hv => ?_) (fun hv => ?_)
      · rw [symStep_n hF (.inl hv)]
        exact ⟨rfl, rfl, rfl⟩
      · have hv' : x.2.var = false := by simpa using hv
        refine AOp_lookup symKey AV.bool (seenM S) (H.length + 1) S.length F (.bool false) rfl (by exact (agetN _ _ 1).trans rfl) (by exact hF1) un126 (ZeroV_of (.bool false) (by kernel_rfl)) ?_
        rw [show (Option.map AV.bool (aget (seenM S) F)).getD (.bool false) = .bool (decide (F ∈ S)) from by rw [seen_get]; by_cases hm : F ∈ S <;> simp [hm]]
        simp only [push_cast, Nat.reduceAdd, Nat.reduceSub, Nat.reduceMul, Nat.reduceLT, Nat.reduceLeDiff, Nat.reduceEqDiff, Int.reduceToNat, ↓reduceIte]
        refine cI (fun hm => ?_) (fun hm => ?_)
        · rw [symStep_n hF (.inr hm)]
          exact ⟨rfl, rfl, rfl⟩
        · refine AOp_mapUpdate symKey AV.bool (seenM S) (H.length + 1) S.length F true rfl (by exact (agetN _ _ 1).trans rfl) (by exact hF1) rfl un126 ?_
          rw [seen_set S F hm]
          simp only [push_cast, Nat.reduceAdd, Nat.reduceSub, Nat.reduceMul, Nat.reduceLT, Nat.reduceLeDiff, Nat.reduceEqDiff, Int.reduceToNat, ↓reduceIte]
          refine app1_L encS (sz := 2) (fun _ => rfl) cellSm _ H.length S F _ rfl (by exact congrArg (fun a => AV.sl _ [a]) hF1) (by exact aget0 _ _ _) sl33 sz64 by64 zr64 rfl (by decide) (by decide) (by omega) ?_
          rw [symStep_y hF hv' hm, List.length_append]
          simp only [push_cast, Nat.reduceAdd, Nat.reduceSub, Nat.reduceMul, Nat.reduceLT, Nat.reduceLeDiff, Nat.reduceEqDiff, Int.reduceToNat, ↓reduceIte]
    · simp only [push_cast, Nat.reduceAdd, Nat.reduceSub, Nat.reduceMul, Nat.reduceLT, Nat.reduceLeDiff, Nat.reduceEqDiff, Int.reduceToNat, ↓reduceIte]
      repeat' first | refine ⟨by omega, ?_⟩ | refine cI (fun _ => ?_) (fun _ => ?_)
      refine loopW_n (i + 1) (by omega) (by omega) ?_
      rw [hst]
      simp only [push_cast, Nat.reduceAdd, Nat.reduceSub, Nat.reduceMul, Nat.reduceLT, Nat.reduceLeDiff, Nat.reduceEqDiff, Int.reduceToNat, ↓reduceIte]
  · rw [List.take_of_length_le (show ts.length ≤ i by omega)]
    rfl
end Ab
set_option maxRecDepth 10000
namespace Ab
open Go Go.Proofs
theorem symsC1_ac (f : Sym) (hn : f.name.length < 1099511627776) (H : List AObj) : ACall Tryz.prog 90 [encS f] H (fun r H' => r = .bool (!isNameP f.name true) ∧ H' = H) := by
  refine ACall_V (H.length) 6 [.tmp 2] Tryz.func90 rfl rfl rfl ?_
  simp only [push_cast, Nat.reduceAdd, Nat.reduceSub, Nat.reduceMul, Nat.reduceLT, Nat.reduceLeDiff, Nat.reduceEqDiff, Int.reduceToNat, ↓reduceIte]
  refine (isName_ac f.name true _ hn).to ?_
  simp only [push_cast, Nat.reduceAdd, Nat.reduceSub, Nat.reduceMul, Nat.reduceLT, Nat.reduceLeDiff, Nat.reduceEqDiff, Int.reduceToNat, ↓reduceIte]
theorem symsC2_ac (f : Sym) (H : List AObj) : ACall Tryz.prog 91 [encS f] H (fun r H' => r = .bool (decide (f.arity < 0) || decide (8 < f.arity)) ∧ H' = H) := by
  refine ACall_V (H.length) 10 [.tmp 2] Tryz.func91 rfl rfl rfl ?_
  simp only [push_cast, Nat.reduceAdd, Nat.reduceSub, Nat.reduceMul, Nat.reduceLT, Nat.reduceLeDiff, Nat.reduceEqDiff, Int.reduceToNat, ↓reduceIte]
  refine cI (fun h => ?_) (fun h => ?_)
  · rw [decide_eq_true h]; rfl
  · rw [decide_eq_false h]; rfl
def symsCheck (ss : List Sym) : Int := if ss.any (fun f => !isNameP f.name true) then 4 else if ss.any (fun f => decide (f.arity < 0) || decide (8 < f.arity)) then 2 else 0
theorem pathSymbols_ac (ss : List Sym) (hlen : ss.length < 1099511627776) (hn : ∀ f, f ∈ ss → f.name.length < 1099511627776) (H : List AObj) : ACall Tryz.prog 60 [.sl .none (encL encS ss)] H (fun r H' => r = .int .i64 (symsCheck ss) ∧ H' = H) := by
  refine ACall_V (H.length) 8 [.tmp 2] Tryz.func60 rfl rfl rfl ?_
  simp only [push_cast, Nat.reduceAdd, Nat.reduceSub, Nat.reduceMul, Nat.reduceLT, Nat.reduceLeDiff, Nat.reduceEqDiff, Int.reduceToNat, ↓reduceIte]
  refine (containsSm_ac ss 90 [] (fun f => !isNameP f.name true) _ hlen ok90 (by simp [ScopedL]) (fun i h => symsC1_ac _ (hn _ (List.getElem_mem h)) _)).to ?_
  simp only [push_cast, Nat.reduceAdd, Nat.reduceSub, Nat.reduceMul, Nat.reduceLT, Nat.reduceLeDiff, Nat.reduceEqDiff, Int.reduceToNat, ↓reduceIte]
  unfold symsCheck
  refine cI (fun h => ?_) (fun h => ?_)
  · rw [if_pos h]
  · rw [if_neg h]
    refine (containsSm_ac ss 91 [] (fun f => decide (f.arity < 0) || decide (8 < f.arity)) _ hlen ok91 (by simp [ScopedL]) (fun i h => symsC2_ac _ _)).to ?_
    simp only [push_cast, Nat.reduceAdd, Nat.reduceSub, Nat.reduceMul, Nat.reduceLT, Nat.reduceLeDiff, Nat.reduceEqDiff, Int.reduceToNat, ↓reduceIte]
    refine cI (fun h2 => ?_) (fun h2 => ?_)
    · rw [if_pos h2]
    · rw [if_neg h2]
def admP (l : List Rank) (unit : Int) (ss : List Sym) : Bool × Int := if wcheckP l unit ≠ 0 then (false, wcheckP l unit) else if symsCheck ss ≠ 0 then (false, symsCheck ss) else (fitsW l unit ss, 0)
theorem admissible_ac (l : List Rank) (unit : Int) (ss : List Sym) (hlen : l.length < 1099511627776) (hnl : ∀ x, x ∈ l → x.name.length < 1099511627776) (hlen2 : ss.length < 1099511627776) (hn : ∀ f, f ∈ ss → f.name.length < 1099511627776) (H : List AObj) :
    ACall Tryz.prog 29 [.sl .none (encL encR l), .int .i64 unit, .sl .none (encL encS ss)] H (fun r H' => r = .tup [.bool (admP l unit ss).1, .int .i64 (admP l unit ss).2] ∧ H' = H) := by
  refine ACall_V (H.length) 22 [.tmp 6, .tmp 7] Tryz.func29 rfl rfl rfl ?_
  simp only [push_cast, Nat.reduceAdd, Nat.reduceSub, Nat.reduceMul, Nat.reduceLT, Nat.reduceLeDiff, Nat.reduceEqDiff, Int.reduceToNat, ↓reduceIte]
  refine (wcheck_ac l unit hlen hnl _).to ?_
  simp only [push_cast, Nat.reduceAdd, Nat.reduceSub, Nat.reduceMul, Nat.reduceLT, Nat.reduceLeDiff, Nat.reduceEqDiff, Int.reduceToNat, ↓reduceIte]
  refine cI (fun h => ?_) (fun h => ?_)
  · obtain ⟨hs, hr⟩ := good_of_check h
    refine (pathSymbols_ac ss hlen2 hn _).to ?_
    simp only [push_cast, Nat.reduceAdd, Nat.reduceSub, Nat.reduceMul, Nat.reduceLT, Nat.reduceLeDiff, Nat.reduceEqDiff, Int.reduceToNat, ↓reduceIte]
    refine cI (fun h2 => ?_) (fun h2 => ?_)
    · have e : admP l unit ss = (fitsW l unit ss, 0) := (if_neg (by simpa using h)).trans (if_neg (by simpa using h2))
      refine (fitsW_ac l hs hlen unit ss hlen2 _).to ?_
      simp only [push_cast, Nat.reduceAdd, Nat.reduceSub, Nat.reduceMul, Nat.reduceLT, Nat.reduceLeDiff, Nat.reduceEqDiff, Int.reduceToNat, ↓reduceIte, e]
    · have e : admP l unit ss = (false, symsCheck ss) := (if_neg (by simpa using h)).trans (if_pos h2)
      simp only [push_cast, Nat.reduceAdd, Nat.reduceSub, Nat.reduceMul, Nat.reduceLT, Nat.reduceLeDiff, Nat.reduceEqDiff, Int.reduceToNat, ↓reduceIte, e]
  · have e : admP l unit ss = (false, wcheckP l unit) := if_pos h
    simp only [push_cast, Nat.reduceAdd, Nat.reduceSub, Nat.reduceMul, Nat.reduceLT, Nat.reduceLeDiff, Nat.reduceEqDiff, Int.reduceToNat, ↓reduceIte, e]
end Ab
set_option maxRecDepth 10000
namespace Ab
open Go Go.Proofs
def greaterP (l : List Rank) (unit : Int) (s t : Term) : Bool × Int :=
  if wcheckP l unit ≠ 0 then (false, wcheckP l unit) else if firstErr [s, t] ≠ 0 then (false, firstErr [s, t]) else if fitsW l unit (symsP [s, t]) = false then (false, 10) else (aboveP l unit s t, 0)
theorem encTs_2 (s t : Term) : encTs [s, t] = [AV.agg [.str s.name, .bool s.var, .sl .none (encTs s.args)], AV.agg [.str t.name, .bool t.var, .sl .none (encTs t.args)]] := by rw [encTs_cons, encTs_cons]; simp [encTs]
theorem greater_ac (l : List Rank) (unit : Int) (s t : Term) (hlen : l.length < 1099511627776) (hnl : ∀ x, x ∈ l → x.name.length < 1099511627776) (hb : s.bulk + t.bulk ≤ 1099511627775) (H : List AObj) :
    ACall Tryz.prog 28 [.sl .none (encL encR l), .int .i64 unit, encT s, encT t] H (fun r H' => r = .tup [.bool (greaterP l unit s t).1, .int .i64 (greaterP l unit s t).2] ∧ H' = H) := by
  have hs1 := s.size_le
  have hs2 := t.size_le
  have hall := fun X => all_ac [s, t] (by simp) (by intro x hx; simp at hx; rcases hx with rfl | rfl <;> omega) X
  rw [encTs_2] at hall
  refine ACall_V (H.length) 34 [.tmp 8, .tmp 9] Tryz.func28 rfl rfl rfl ?_
  simp only [push_cast, Nat.reduceAdd, Nat.reduceSub, Nat.reduceMul, Nat.reduceLT, Nat.reduceLeDiff, Nat.reduceEqDiff, Int.reduceToNat, ↓reduceIte]
  refine (wcheck_ac l unit hlen hnl _).to ?_
  simp only [push_cast, Nat.reduceAdd, Nat.reduceSub, Nat.reduceMul, Nat.reduceLT, Nat.reduceLeDiff, Nat.reduceEqDiff, Int.reduceToNat, ↓reduceIte]
  refine cI (fun h => ?_) (fun h => ?_)
  · obtain ⟨hs, hr⟩ := good_of_check h
    refine (hall _).to ?_
    simp only [push_cast, Nat.reduceAdd, Nat.reduceSub, Nat.reduceMul, Nat.reduceLT, Nat.reduceLeDiff, Nat.reduceEqDiff, Int.reduceToNat, ↓reduceIte]
    refine cI (fun h2 => ?_) (fun h2 => ?_)
    · have e0 : greaterP l unit s t = if fitsW l unit (symsP [s, t]) = false then (false, 10) else (aboveP l unit s t, 0) := (if_neg (by simpa using h)).trans (if_neg (by simpa using h2))
      have hsy := fun X => symsW_ac [s, t] (by simp) (by intro x hx; simp at hx; rcases hx with rfl | rfl <;> omega) (by simp; omega) X
      rw [encTs_2] at hsy
      refine (hsy _).to ?_
      simp only [push_cast, Nat.reduceAdd, Nat.reduceSub, Nat.reduceMul, Nat.reduceLT, Nat.reduceLeDiff, Nat.reduceEqDiff, Int.reduceToNat, ↓reduceIte]
      have hl := symsFold_length [s, t] []
      have hle : (symsP [s, t]).length < 1099511627776 := by
        show (List.foldl symsT [] [s, t]).length < _
        have e3 : ([s, t].map Term.size).sum = s.size + t.size := by simp
        rw [e3, List.length_nil] at hl
        omega
      refine (fitsW_ac l hs hlen unit (symsP [s, t]) hle _).to ?_
      simp only [push_cast, Nat.reduceAdd, Nat.reduceSub, Nat.reduceMul, Nat.reduceLT, Nat.reduceLeDiff, Nat.reduceEqDiff, Int.reduceToNat, ↓reduceIte]
      cases hf : fitsW l unit (symsP [s, t]) with
      | false =>
        have e : greaterP l unit s t = (false, 10) := e0.trans (if_pos hf)
        simp only [push_cast, Nat.reduceAdd, Nat.reduceSub, Nat.reduceMul, Nat.reduceLT, Nat.reduceLeDiff, Nat.reduceEqDiff, Int.reduceToNat, ↓reduceIte, e]
      | true =>
        have e : greaterP l unit s t = (aboveP l unit s t, 0) := e0.trans (if_neg (by rw [hf]; simp))
        simp only [push_cast, Nat.reduceAdd, Nat.reduceSub, Nat.reduceMul, Nat.reduceLT, Nat.reduceLeDiff, Nat.reduceEqDiff, Int.reduceToNat, ↓reduceIte]
        refine (above_ac l unit hs hr hlen s t (by omega) (by omega) _).to ?_
        simp only [push_cast, Nat.reduceAdd, Nat.reduceSub, Nat.reduceMul, Nat.reduceLT, Nat.reduceLeDiff, Nat.reduceEqDiff, Int.reduceToNat, ↓reduceIte, e]
    · have e : greaterP l unit s t = (false, firstErr [s, t]) := (if_neg (by simpa using h)).trans (if_pos h2)
      simp only [push_cast, Nat.reduceAdd, Nat.reduceSub, Nat.reduceMul, Nat.reduceLT, Nat.reduceLeDiff, Nat.reduceEqDiff, Int.reduceToNat, ↓reduceIte, e]
  · have e : greaterP l unit s t = (false, wcheckP l unit) := if_pos h
    simp only [push_cast, Nat.reduceAdd, Nat.reduceSub, Nat.reduceMul, Nat.reduceLT, Nat.reduceLeDiff, Nat.reduceEqDiff, Int.reduceToNat, ↓reduceIte, e]
def symS (rs : List (Term × Term)) : List Sym := (symRs (rT rs) []).1.map fun p => ⟨p.1, (p.2 : Nat)⟩
theorem encSy_S (l : List (List UInt8 × Nat)) : encL encSy l = encL encS (l.map fun p => ⟨p.1, (p.2 : Nat)⟩) := by simp [encL, List.map_map]
def orientsP (l : List Rank) (unit : Int) (rs : List (Term × Term)) : List Bool × Int :=
  if wcheckP l unit ≠ 0 then ([], wcheckP l unit) else if sysP rs ≠ 0 then ([], sysP rs) else if fitsW l unit (symS rs) = false then ([], 10) else (rs.map fun r => aboveP l unit r.1 r.2, 0)
theorem scBoolL (n : Nat) (l : List Bool) : ScopedL n (encL AV.bool l) = True := eq_true (scoped_encL (fun x => by simp [Scoped]) l)
attribute [push_cast] scBoolL
theorem cellBool : ∀ (x : Bool) c, c ∈ (AV.bool x).cells → c.isCell = true := by intro x c hc; simp [AV.cells] at hc; subst hc; rfl
theorem orients_ac (l : List Rank) (unit : Int) (rs : List (Term × Term)) (hlen : l.length < 1099511627776) (hnl : ∀ x, x ∈ l → x.name.length < 1099511627776) (hlr : rs.length < 1099511627776) (hb : BndR rs) (H : List AObj) :
    ACall Tryz.prog 5 [.sl .none (encL encR l), .int .i64 unit, .sl .none (encL encRu rs)] H (fun r H' => r = .tup [.sl .none (encL AV.bool (orientsP l unit rs).1), .int .i64 (orientsP l unit rs).2] ∧ H' = H) := by
  refine ACall_VA (H.length) 48 [.tmp 6, .tmp 7] Tryz.func5 rfl rfl rfl ?_
  refine AW_reserve 1 ?_
  refine AW_of_W ?_
  simp only [push_cast, Nat.reduceAdd, Nat.reduceSub, Nat.reduceMul, Nat.reduceLT, Nat.reduceLeDiff, Nat.reduceEqDiff, Int.reduceToNat, ↓reduceIte]
  refine (wcheck_ac l unit hlen hnl _).to ?_
  simp only [push_cast, Nat.reduceAdd, Nat.reduceSub, Nat.reduceMul, Nat.reduceLT, Nat.reduceLeDiff, Nat.reduceEqDiff, Int.reduceToNat, ↓reduceIte]
  refine cI (fun h => ?_) (fun h => ?_)
  · obtain ⟨hs, hr⟩ := good_of_check h
    refine (symbols_ac rs hlr hb _).to ?_
    simp only [push_cast, Nat.reduceAdd, Nat.reduceSub, Nat.reduceMul, Nat.reduceLT, Nat.reduceLeDiff, Nat.reduceEqDiff, Int.reduceToNat, ↓reduceIte]
    unfold symP
    by_cases h2 : sysP rs = 0
    · rw [if_pos h2]
      obtain ⟨hB, hck, _⟩ := sys_B h2
      have e0 : orientsP l unit rs = if fitsW l unit (symS rs) = false then ([], 10) else (rs.map fun r => aboveP l unit r.1 r.2, 0) := (if_neg (by simpa using h)).trans (if_neg (by simpa using h2))
      have hrs := rules_size (sys_zero h2).1
      have hsl : (symS rs).length < 1099511627776 := by
        have := symRs_len (rT rs) []
        unfold symS
        rw [List.length_map]
        simp at this
        omega
      have hfit := fun X => fitsW_ac l hs hlen unit (symS rs) hsl X
      simp only [push_cast, Nat.reduceAdd, Nat.reduceSub, Nat.reduceMul, Nat.reduceLT, Nat.reduceLeDiff, Nat.reduceEqDiff, Int.reduceToNat, ↓reduceIte]
      rw [encSy_S]
      refine (hfit _).to ?_
      simp only [push_cast, Nat.reduceAdd, Nat.reduceSub, Nat.reduceMul, Nat.reduceLT, Nat.reduceLeDiff, Nat.reduceEqDiff, Int.reduceToNat, ↓reduceIte]
      cases hf : fitsW l unit (symS rs) with
      | false =>
        have e : orientsP l unit rs = ([], 10) := e0.trans (if_pos hf)
        simp only [push_cast, Nat.reduceAdd, Nat.reduceSub, Nat.reduceMul, Nat.reduceLT, Nat.reduceLeDiff, Nat.reduceEqDiff, Int.reduceToNat, ↓reduceIte, e, encL_nil]
      | true =>
        have e : orientsP l unit rs = (rs.map fun r => aboveP l unit r.1 r.2, 0) := e0.trans (if_neg (by rw [hf]; simp))
        simp only [push_cast, Nat.reduceAdd, Nat.reduceSub, Nat.reduceMul, Nat.reduceLT, Nat.reduceLeDiff, Nat.reduceEqDiff, Int.reduceToNat, ↓reduceIte, e]
        obtain ⟨A, hA⟩ : ∃ A : (Term × Term) → Bool, A = fun r => aboveP l unit r.1 r.2 := ⟨_, rfl⟩
        rw [← hA]
        refine AW_loopW (maskG 51 [0, 0, 9, 21, 0, 0]) (fun (i : Nat) => [(35, .int .i64 i), (11, gSl H.length (encL AV.bool ((rs.take i).map A)))]) (fun i => H ++ [gTok 4 1 (encL AV.bool ((rs.take i).map A))]) (fun i => i ≤ rs.length) (fun i => rs.length - i) 0 (Nat.zero_le _) (by simp only [push_cast, Nat.reduceAdd, Nat.reduceSub, Nat.reduceMul, Nat.reduceLT, Nat.reduceLeDiff, Nat.reduceEqDiff, Int.reduceToNat, ↓reduceIte, List.take_zero, List.map_nil, encL_nil]) (fun i hi => ?_)
        simp only [push_cast, Nat.reduceAdd, Nat.reduceSub, Nat.reduceMul, Nat.reduceLT, Nat.reduceLeDiff, Nat.reduceEqDiff, Int.reduceToNat, ↓reduceIte]
        refine cI (fun h => ?_) (fun h => ?_)
        · have hil : i < rs.length := by omega
          have hbr := hb _ (List.getElem_mem hil)
          have hst : (rs.take i).map A ++ [A (rs[i]'hil)] = (rs.take (i + 1)).map A := by rw [List.take_succ_eq_append_getElem hil, List.map_append]; rfl
          have hca := fun X => above_ac l unit hs hr hlen (rs[i]'hil).1 (rs[i]'hil).2 (by omega) (by omega) X
          rw [show aboveP l unit (rs[i]'hil).1 (rs[i]'hil).2 = A (rs[i]'hil) by rw [hA]] at hca
          refine ⟨hil, ?_⟩
          refine (hca _).to ?_
          simp only [push_cast, Nat.reduceAdd, Nat.reduceSub, Nat.reduceMul, Nat.reduceLT, Nat.reduceLeDiff, Nat.reduceEqDiff, Int.reduceToNat, ↓reduceIte]
          refine app1_L AV.bool (sz := 1) (fun _ => rfl) cellBool _ H.length ((rs.take i).map A) (A (rs[i]'hil)) _ rfl rfl (by exact aget0 _ _ _) sl26 sz4 by4 zr4 rfl (by decide) (by decide) (by rw [List.length_map, List.length_take]; omega) ?_
          rw [hst]
          simp only [push_cast, Nat.reduceAdd, Nat.reduceSub, Nat.reduceMul, Nat.reduceLT, Nat.reduceLeDiff, Nat.reduceEqDiff, Int.reduceToNat, ↓reduceIte]
          repeat' first | refine ⟨by omega, ?_⟩ | refine cI (fun _ => ?_) (fun _ => ?_)
          exact loopW_n (i + 1) (by omega) (by omega) (by simp only [push_cast, Nat.reduceAdd, Nat.reduceSub, Nat.reduceMul, Nat.reduceLT, Nat.reduceLeDiff, Nat.reduceEqDiff, Int.reduceToNat, ↓reduceIte])
        · rw [List.take_of_length_le (show rs.length ≤ i by omega)]
    · rw [if_neg h2]
      have e : orientsP l unit rs = ([], sysP rs) := (if_neg (by simpa using h)).trans (if_pos h2)
      simp only [push_cast, Nat.reduceAdd, Nat.reduceSub, Nat.reduceMul, Nat.reduceLT, Nat.reduceLeDiff, Nat.reduceEqDiff, Int.reduceToNat, ↓reduceIte]
      refine cI (fun h => absurd h h2) (fun _ => ?_)
      simp only [push_cast, Nat.reduceAdd, Nat.reduceSub, Nat.reduceMul, Nat.reduceLT, Nat.reduceLeDiff, Nat.reduceEqDiff, Int.reduceToNat, ↓reduceIte, e, encL_nil]
  · have e : orientsP l unit rs = ([], wcheckP l unit) := if_pos h
    simp only [push_cast, Nat.reduceAdd, Nat.reduceSub, Nat.reduceMul, Nat.reduceLT, Nat.reduceLeDiff, Nat.reduceEqDiff, Int.reduceToNat, ↓reduceIte, e, encL_nil]
end Ab
set_option maxRecDepth 10000
namespace Ab
open Go Go.Proofs
theorem kboTs_self (l : List Rank) (unit : Int) (xs : List Term) : kboTs l unit xs xs = false := by
  have := kboTs_drop l unit xs xs xs.length rfl
  rw [this, List.drop_length]; exact kboTs_nil _ _ _
theorem above_self (l : List Rank) (unit : Int) (t : Term) : aboveP l unit t t = false := by
  unfold aboveP; rw [kboTs_self]; simp [kboC]
end Ab
set_option maxRecDepth 10000
namespace Ab
open Go Go.Proofs
def entryP (l : List Rank) (v : List UInt8) : Rank := (l.find? fun x => decide (x.name = v)).getD ⟨v, 0, 0⟩
theorem entry_rank (l : List Rank) (v : List UInt8) : (entryP l v).rank = (ofP l v).rank ∧ (entryP l v).weight = (ofP l v).weight := by
  unfold entryP ofP
  cases l.find? fun x => decide (x.name = v) <;> simp [zeroR]
theorem entry_ac (l : List Rank) (v : List UInt8) (hlen : l.length < 1099511627776) (H : List AObj) : ACall Tryz.prog 26 [.sl .none (encL encR l), .str v] H (fun r H' => r = encR (entryP l v) ∧ H' = H) := by
  refine ACall_V (H.length) 19 [.cell 4 59] Tryz.func26 rfl rfl rfl ?_
  simp only [push_cast, Nat.reduceAdd, Nat.reduceSub, Nat.reduceMul, Nat.reduceLT, Nat.reduceLeDiff, Nat.reduceEqDiff, Int.reduceToNat, ↓reduceIte]
  refine AW_loopW (maskG 21 [1, 2, 2, 0, 0]) (fun (i : Nat) => [(9, .int .i64 i)]) (fun _ => H ++ [.cells [.str [], .int .i64 0, .int .i64 0]]) (fun i => i ≤ l.length ∧ ∀ x, x ∈ l.take i → ¬ x.name = v) (fun i => l.length - i) 0 ⟨Nat.zero_le _, by simp⟩ (by simp only [push_cast, Nat.reduceAdd, Nat.reduceSub, Nat.reduceMul, Nat.reduceLT, Nat.reduceLeDiff, Nat.reduceEqDiff, Int.reduceToNat, ↓reduceIte]) (fun i hi => ?_)
  obtain ⟨hi1, hi2⟩ := hi
  simp only [push_cast, Nat.reduceAdd, Nat.reduceSub, Nat.reduceMul, Nat.reduceLT, Nat.reduceLeDiff, Nat.reduceEqDiff, Int.reduceToNat, ↓reduceIte]
  refine cI (fun h => ?_) (fun h => ?_)
  · have hil : i < l.length := by omega
    refine ⟨hil, ?_⟩
    refine cI (fun hn => ?_) (fun hn => ?_)
    · have hf : l.find? (fun x => decide (x.name = v)) = some l[i] := by
        rw [List.find?_eq_some_iff_getElem]
        refine ⟨by simpa using hn, i, hil, rfl, fun j hj => ?_⟩
        have := hi2 l[j] (by rw [List.mem_take_iff_getElem]; exact ⟨j, by omega, rfl⟩)
        simpa using this
      have he : entryP l v = l[i] := by simp [entryP, hf]
      rw [he]
      simp only [push_cast, Nat.reduceAdd, Nat.reduceSub, Nat.reduceMul, Nat.reduceLT, Nat.reduceLeDiff, Nat.reduceEqDiff, Int.reduceToNat, ↓reduceIte]
    · repeat' first | refine ⟨by omega, ?_⟩ | refine cI (fun _ => ?_) (fun _ => ?_)
      refine loopW_n (i + 1) ⟨by omega, fun x hx => ?_⟩ (by omega) (by simp only [push_cast, Nat.reduceAdd, Nat.reduceSub, Nat.reduceMul, Nat.reduceLT, Nat.reduceLeDiff, Nat.reduceEqDiff, Int.reduceToNat, ↓reduceIte])
      rw [List.take_succ_eq_append_getElem hil] at hx
      rcases List.mem_append.1 hx with h | h
      · exact hi2 x h
      · simp at h; subst h; exact hn
  · have e : l.take i = l := List.take_of_length_le (by omega)
    rw [e] at hi2
    have hf : l.find? (fun x => decide (x.name = v)) = none := by rw [List.find?_eq_none]; intro x hx; simpa using hi2 x hx
    have he : entryP l v = ⟨v, 0, 0⟩ := by simp [entryP, hf]
    rw [he]
    simp only [push_cast, Nat.reduceAdd, Nat.reduceSub, Nat.reduceMul, Nat.reduceLT, Nat.reduceLeDiff, Nat.reduceEqDiff, Int.reduceToNat, ↓reduceIte]
theorem aboveE_ac (l : List Rank) (v u : List UInt8) (hlen : l.length < 1099511627776) (H : List AObj) : ACall Tryz.prog 27 [.sl .none (encL encR l), .str v, .str u] H (fun r H' => r = .bool (decide ((ofP l u).rank < (ofP l v).rank)) ∧ H' = H) := by
  refine ACall_V (H.length) 13 [.tmp 6] Tryz.func27 rfl rfl rfl ?_
  simp only [push_cast, Nat.reduceAdd, Nat.reduceSub, Nat.reduceMul, Nat.reduceLT, Nat.reduceLeDiff, Nat.reduceEqDiff, Int.reduceToNat, ↓reduceIte]
  refine (entry_ac l v hlen _).to ?_
  simp only [push_cast, Nat.reduceAdd, Nat.reduceSub, Nat.reduceMul, Nat.reduceLT, Nat.reduceLeDiff, Nat.reduceEqDiff, Int.reduceToNat, ↓reduceIte]
  refine (entry_ac l u hlen _).to ?_
  simp only [push_cast, Nat.reduceAdd, Nat.reduceSub, Nat.reduceMul, Nat.reduceLT, Nat.reduceLeDiff, Nat.reduceEqDiff, Int.reduceToNat, ↓reduceIte, (entry_rank l v).1, (entry_rank l u).1]
theorem weightR_ac (l : List Rank) (unit : Int) (hr : SmallR l unit) (hlen : l.length < 1099511627776) (t : Term) : t.bulk ≤ 1099511627775 → ∀ H, ACall Tryz.prog 31 [.sl .none (encL encR l), .int .i64 unit, encT t] H (fun r H' => r = .int .i64 (weightP l unit t) ∧ H' = H) := by
  induction t using Term.ind with | _ n v xs ih
  intro hb H
  have hsz := (Term.mk n v xs).size_le
  have hl2 := Term.len_le (n := n) (v := v) (xs := xs)
  have ho := hr.of n
  have hru := hr.2
  rw [Term.size_mk] at hsz
  rw [weightP_mk]
  have hbd : ∀ i, i ≤ xs.length → 0 ≤ ((xs.take i).map (weightP l unit)).sum ∧ ((xs.take i).map (weightP l unit)).sum ≤ 1099511627775000 := by
    intro i hi
    have h1 := weights_bound hr (xs.take i)
    have h2 := take_sum_le Term.size xs i
    omega
  have hew := (entry_rank l n).2
  refine ACall_V (H.length) 30 [.tmp 6] Tryz.func31 rfl rfl rfl ?_
  simp only [push_cast, Nat.reduceAdd, Nat.reduceSub, Nat.reduceMul, Nat.reduceLT, Nat.reduceLeDiff, Nat.reduceEqDiff, Int.reduceToNat, ↓reduceIte, Term.name, Term.var, Term.args]
  cases v with
  | true =>
    simp only [push_cast, Nat.reduceAdd, Nat.reduceSub, Nat.reduceMul, Nat.reduceLT, Nat.reduceLeDiff, Nat.reduceEqDiff, Int.reduceToNat, ↓reduceIte, if_true]
  | false =>
    simp only [push_cast, Nat.reduceAdd, Nat.reduceSub, Nat.reduceMul, Nat.reduceLT, Nat.reduceLeDiff, Nat.reduceEqDiff, Int.reduceToNat, ↓reduceIte, Bool.false_eq_true, if_false]
    refine (entry_ac l n hlen _).to ?_
    simp only [push_cast, Nat.reduceAdd, Nat.reduceSub, Nat.reduceMul, Nat.reduceLT, Nat.reduceLeDiff, Nat.reduceEqDiff, Int.reduceToNat, ↓reduceIte, hew]
    refine AW_loopW (maskG 33 [0, 0, 5, 11, 0, 0]) (fun (i : Nat) => [(21, .int .i64 i), (7, .int .i64 ((ofP l n).weight + ((xs.take i).map (weightP l unit)).sum))]) (fun i => H ++ [.cells [.str n, .bool false, .sl .none (encTs xs)]]) (fun i => i ≤ xs.length) (fun i => xs.length - i) 0 (Nat.zero_le _) (by simp only [push_cast, Nat.reduceAdd, Nat.reduceSub, Nat.reduceMul, Nat.reduceLT, Nat.reduceLeDiff, Nat.reduceEqDiff, Int.reduceToNat, ↓reduceIte, List.take_zero, List.map_nil, List.sum_nil, Int.add_zero]) (fun i hi => ?_)
    simp only [push_cast, Nat.reduceAdd, Nat.reduceSub, Nat.reduceMul, Nat.reduceLT, Nat.reduceLeDiff, Nat.reduceEqDiff, Int.reduceToNat, ↓reduceIte]
    refine cI (fun h => ?_) (fun h => ?_)
    · have hil : i < xs.length := by omega
      repeat refine ⟨by omega, ?_⟩
      have hmem := List.getElem_mem hil
      have hbx := Term.arg_le (n := n) (v := false) hmem
      have e := take_sumI (weightP l unit) xs i hil
      have hb1 := hbd i (by omega)
      have hb2 := hbd (i + 1) (by omega)
      refine (ih _ hmem (by omega) _).to ?_
      simp only [push_cast, Nat.reduceAdd, Nat.reduceSub, Nat.reduceMul, Nat.reduceLT, Nat.reduceLeDiff, Nat.reduceEqDiff, Int.reduceToNat, ↓reduceIte]
      repeat' first | refine ⟨by omega, ?_⟩ | refine cI (fun _ => ?_) (fun _ => ?_)
      exact loopW_n (i + 1) (by omega) (by omega) (by rw [e, ← Int.add_assoc]; simp only [push_cast, Nat.reduceAdd, Nat.reduceSub, Nat.reduceMul, Nat.reduceLT, Nat.reduceLeDiff, Nat.reduceEqDiff, Int.reduceToNat, ↓reduceIte])
    · have e : xs.take i = xs := List.take_of_length_le (by omega)
      rw [e]
theorem coversR_ac (s t : Term) (h1 : s.bulk ≤ 1099511627775) (h2 : t.bulk ≤ 1099511627770) (H : List AObj) : ACall Tryz.prog 30 [encT s, encT t] H (fun r H' => r = .bool (coversP s t) ∧ H' = H) := by
  have hs2 := t.size_le
  have hvr := fun X => varsR_ac [t] (by simp) (by intro x hx; simp at hx; subst hx; omega) (by simp; omega) X
  rw [encTs_one] at hvr
  have hvl := vars1_len t
  have hcs := coversP_vars s t
  obtain ⟨V, hV⟩ : ∃ V, V = varsP [t] := ⟨_, rfl⟩
  rw [← hV] at hvr hvl hcs
  refine ACall_V (H.length) 21 [.tmp 4] Tryz.func30 rfl rfl rfl ?_
  simp only [push_cast, Nat.reduceAdd, Nat.reduceSub, Nat.reduceMul, Nat.reduceLT, Nat.reduceLeDiff, Nat.reduceEqDiff, Int.reduceToNat, ↓reduceIte]
  refine (hvr _).to ?_
  simp only [push_cast, Nat.reduceAdd, Nat.reduceSub, Nat.reduceMul, Nat.reduceLT, Nat.reduceLeDiff, Nat.reduceEqDiff, Int.reduceToNat, ↓reduceIte]
  refine AW_loopW (maskG 23 [2, 0, 5, 0, 0]) (fun (i : Nat) => [(11, .int .i64 i)]) (fun i => H ++ [.cells [.str s.name, .bool s.var, .sl .none (encTs s.args)], .cells [.str t.name, .bool t.var, .sl .none (encTs t.args)]]) (fun i => i ≤ V.length ∧ (V.take i).all (fun v => decide (countP v t ≤ countP v s)) = true) (fun i => V.length - i) 0 ⟨Nat.zero_le _, by simp⟩ (by simp only [push_cast, Nat.reduceAdd, Nat.reduceSub, Nat.reduceMul, Nat.reduceLT, Nat.reduceLeDiff, Nat.reduceEqDiff, Int.reduceToNat, ↓reduceIte]) (fun i hi => ?_)
  obtain ⟨hi1, hi2⟩ := hi
  simp only [push_cast, Nat.reduceAdd, Nat.reduceSub, Nat.reduceMul, Nat.reduceLT, Nat.reduceLeDiff, Nat.reduceEqDiff, Int.reduceToNat, ↓reduceIte]
  refine cI (fun h => ?_) (fun h => ?_)
  · have hil : i < V.length := by omega
    refine ⟨hil, ?_⟩
    have hct := fun X => countR_ac t (V[i]'hil) (by omega) X
    have hcs2 := fun X => countR_ac s (V[i]'hil) (by omega) X
    apply AW_drawE [some 15, some 16, some 17, some 18, some 19, some 20, some 21] [([], _)] [none, none, none, none, none, none, none] 0 [(0, [], [3]), (1, [], [6]), (2, [], [15, 0]), (3, [], [2]), (4, [], [6]), (5, [], [18, 0]), (6, [], [17, 2])] [_, _, _, _, _, _, _]
    case' hm => exact dr
    case' hn => rfl
    case' hok => rfl
    case' hlen => rfl
    case' hd => rfl
    case' h0 => rfl
    case' hstep =>
     simp only [DAllG, push_cast, Option.isSome_some, Option.isSome_none]
     repeat' apply And.intro
     all_goals (apply DOne_V; simp only [push_cast, Nat.reduceAdd, Nat.reduceSub, Nat.reduceMul, Nat.reduceLT, Nat.reduceLeDiff, Nat.reduceEqDiff, Int.reduceToNat, ↓reduceIte] <;> first | exact rfl | omega | exact ⟨rfl, rfl⟩ | exact trivial | exact ⟨by omega, rfl⟩ | exact ⟨by omega, by omega, rfl⟩ | exact ⟨by omega, rfl, rfl⟩ | exact ⟨by omega, by omega, rfl, rfl⟩ | (refine (hct _).to ?_; exact ⟨rfl, rfl⟩) | (refine (hcs2 _).to ?_; exact ⟨rfl, rfl⟩))
    case' hQ => skip
    simp only [push_cast, Nat.reduceAdd, Nat.reduceSub, Nat.reduceMul, Nat.reduceLT, Nat.reduceLeDiff, Nat.reduceEqDiff, Int.reduceToNat, ↓reduceIte]
    refine cI (fun hc => ?_) (fun hc => ?_)
    · rw [hcs, all_get (i := i) hil (by simpa using hc)]
    · repeat' first | refine ⟨by omega, ?_⟩ | refine cI (fun _ => ?_) (fun _ => ?_)
      exact loopW_n (i + 1) ⟨by omega, all_take_true hi2 hil (by simpa using hc)⟩ (by omega) (by simp only [push_cast, Nat.reduceAdd, Nat.reduceSub, Nat.reduceMul, Nat.reduceLT, Nat.reduceLeDiff, Nat.reduceEqDiff, Int.reduceToNat, ↓reduceIte])
  · rw [List.take_of_length_le (show V.length ≤ i by omega)] at hi2
    rw [hcs, hi2]
end Ab
set_option maxRecDepth 10000
namespace Ab
open Go Go.Proofs
set_option maxHeartbeats 4000000 in
theorem greaterR_ac (l : List Rank) (unit : Int) (hr : SmallR l unit) (hlen : l.length < 1099511627776) (s : Term) : ∀ t : Term, s.bulk ≤ 1099511627770 → t.bulk ≤ 1099511627770 → ∀ H,
    ACall Tryz.prog 12 [.sl .none (encL encR l), .int .i64 unit, encT s, encT t] H (fun r H' => r = .bool (aboveP l unit s t) ∧ H' = H) := by
  induction s using Term.ind with | _ n v xs ih
  intro t hb hb2 H
  obtain ⟨m, u, ys⟩ := t
  have hl1 := Term.len_le (n := n) (v := v) (xs := xs)
  have hl2 := Term.len_le (n := m) (v := u) (xs := ys)
  have hea : aboveP l unit (.mk n v xs) (.mk m u ys) = kboC l unit (.mk n v xs) (.mk m u ys) (kboTs l unit xs ys) := rfl
  have hcv := fun X => coversR_ac (.mk n v xs) (.mk m u ys) (by omega) hb2 X
  have hw1 := fun X => weightR_ac l unit hr hlen (.mk n v xs) (by omega) X
  have hw2 := fun X => weightR_ac l unit hr hlen (.mk m u ys) (by omega) X
  have heq0 := fun X => equalR_ac (.mk n v xs) (.mk m u ys) (by omega) (by omega) X
  obtain ⟨R, hR⟩ : ∃ R, R = aboveP l unit (.mk n v xs) (.mk m u ys) := ⟨_, rfl⟩
  have hR0 := hR
  rw [← hR]
  rw [hea] at hR
  unfold kboC at hR
  refine ACall_V (H.length) 92 [.tmp 8] Tryz.func12 rfl rfl rfl ?_
  simp only [push_cast, Nat.reduceAdd, Nat.reduceSub, Nat.reduceMul, Nat.reduceLT, Nat.reduceLeDiff, Nat.reduceEqDiff, Int.reduceToNat, ↓reduceIte, Term.name, Term.var, Term.args]
  refine (hcv _).to ?_
  simp only [push_cast, Nat.reduceAdd, Nat.reduceSub, Nat.reduceMul, Nat.reduceLT, Nat.reduceLeDiff, Nat.reduceEqDiff, Int.reduceToNat, ↓reduceIte, Term.name, Term.var, Term.args]
  cases hcov : coversP (.mk n v xs) (.mk m u ys) with
  | false =>
    rw [if_pos hcov] at hR
    simp only [push_cast, Nat.reduceAdd, Nat.reduceSub, Nat.reduceMul, Nat.reduceLT, Nat.reduceLeDiff, Nat.reduceEqDiff, Int.reduceToNat, ↓reduceIte]
    exact hR.symm
  | true =>
    rw [if_neg (by rw [hcov]; simp)] at hR
    simp only [push_cast, Nat.reduceAdd, Nat.reduceSub, Nat.reduceMul, Nat.reduceLT, Nat.reduceLeDiff, Nat.reduceEqDiff, Int.reduceToNat, ↓reduceIte]
    apply AW_drawE [some 16, some 17, some 18, some 19, some 20, some 21, some 22, some 23, some 9, some 10] [([], _)] [none, none, none, none, none, none, none, none, none, none] 0 [(0, [], [0]), (1, [], [1]), (2, [], [6]), (3, [], [16, 0, 0]), (4, [], [0]), (5, [], [1]), (6, [], [7]), (7, [], [20, 0, 0]), (8, [], [19]), (9, [], [23])] [_, _, _, _, _, _, _, _, _, _]
    case' hm => exact dr
    case' hn => rfl
    case' hok => rfl
    case' hlen => rfl
    case' hd => rfl
    case' h0 => rfl
    case' hstep =>
     simp only [DAllG, push_cast, Option.isSome_some, Option.isSome_none]
     repeat' apply And.intro
     all_goals (apply DOne_V; simp only [push_cast, Nat.reduceAdd, Nat.reduceSub, Nat.reduceMul, Nat.reduceLT, Nat.reduceLeDiff, Nat.reduceEqDiff, Int.reduceToNat, ↓reduceIte] <;> first | exact rfl | omega | exact ⟨rfl, rfl⟩ | exact trivial | exact ⟨by omega, rfl⟩ | exact ⟨by omega, by omega, rfl⟩ | exact ⟨by omega, rfl, rfl⟩ | exact ⟨by omega, by omega, rfl, rfl⟩ | (refine (hw1 _).to ?_; exact ⟨rfl, rfl⟩) | (refine (hw2 _).to ?_; exact ⟨rfl, rfl⟩))
    case' hQ => skip
    simp only [push_cast, Nat.reduceAdd, Nat.reduceSub, Nat.reduceMul, Nat.reduceLT, Nat.reduceLeDiff, Nat.reduceEqDiff, Int.reduceToNat, ↓reduceIte]
    refine cI (fun hw => ?_) (fun hw => ?_)
    · refine cI (fun hv => ?_) (fun hv => ?_)
      · rw [if_pos (.inr hv), decide_eq_false (by omega)] at hR
        exact hR.symm
      · rw [if_neg (by rintro (h | h); exact h hw; exact hv h)] at hR
        refine (heq0 _).to ?_
        simp only [push_cast, Nat.reduceAdd, Nat.reduceSub, Nat.reduceMul, Nat.reduceLT, Nat.reduceLeDiff, Nat.reduceEqDiff, Int.reduceToNat, ↓reduceIte, Term.name, Term.var, Term.args]
        refine cI (fun he => ?_) (fun he => ?_)
        · rw [he, above_self] at hR0
          exact hR0.symm
        · refine cI (fun hu => ?_) (fun hu => ?_)
          · rw [if_pos (show (Term.mk m u ys).var = true from hu)] at hR
            exact hR.symm
          · rw [if_neg (show ¬ (Term.mk m u ys).var = true from hu)] at hR
            refine (aboveE_ac l n m hlen _).to ?_
            simp only [push_cast, Nat.reduceAdd, Nat.reduceSub, Nat.reduceMul, Nat.reduceLT, Nat.reduceLeDiff, Nat.reduceEqDiff, Int.reduceToNat, ↓reduceIte]
            refine cI (fun hk => ?_) (fun hk => ?_)
            · rw [if_pos (.inl (fun e => by rw [show n = m from e] at hk; omega))] at hR
              rw [show decide ((ofP l (Term.mk m u ys).name).rank < (ofP l (Term.mk n v xs).name).rank) = true from decide_eq_true hk] at hR
              exact hR.symm
            · have hkf : decide ((ofP l (Term.mk m u ys).name).rank < (ofP l (Term.mk n v xs).name).rank) = false := decide_eq_false hk
              refine cI (fun hn => ?_) (fun hn => ?_)
              · refine cI (fun hll => ?_) (fun hll => ?_)
                · rw [if_neg (by rintro (h | h); exact h hn; exact h (show xs.length = ys.length by omega))] at hR
                  have hll' : xs.length = ys.length := by omega
                  refine AW_loopW (maskG 96 [0, 0, 4, 0, 58, 0]) (fun (i : Nat) => [(67, .int .i64 i)]) (fun i => H ++ [.cells [.str n, .bool v, .sl .none (encTs xs)], .cells [.str m, .bool u, .sl .none (encTs ys)]]) (fun i => i ≤ xs.length ∧ xs.take i = ys.take i) (fun i => xs.length - i) 0 ⟨Nat.zero_le _, by simp⟩ (by simp only [push_cast, Nat.reduceAdd, Nat.reduceSub, Nat.reduceMul, Nat.reduceLT, Nat.reduceLeDiff, Nat.reduceEqDiff, Int.reduceToNat, ↓reduceIte]) (fun i hi => ?_)
                  obtain ⟨hi1, hi2⟩ := hi
                  simp only [push_cast, Nat.reduceAdd, Nat.reduceSub, Nat.reduceMul, Nat.reduceLT, Nat.reduceLeDiff, Nat.reduceEqDiff, Int.reduceToNat, ↓reduceIte]
                  refine cI (fun h => ?_) (fun h => ?_)
                  · have hil : i < xs.length := by omega
                    have hiy : i < ys.length := by omega
                    have b1 := Term.arg_le (n := n) (v := v) (List.getElem_mem hil)
                    have b2 := Term.arg_le (n := m) (v := u) (List.getElem_mem hiy)
                    have heq := fun X => equalR_ac (xs[i]'hil) (ys[i]'hiy) (by omega) (by omega) X
                    have hab := fun X => ih (xs[i]'hil) (List.getElem_mem hil) (ys[i]'hiy) (by omega) (by omega) X
                    have hd := kboTs_drop l unit xs ys i hi2
                    rw [List.drop_eq_getElem_cons hil, List.drop_eq_getElem_cons hiy, kboTs_cons] at hd
                    apply AW_drawE [some 70, some 71, some 72, some 73, some 74, some 75, some 76, some 77, some 78, some 79, some 80, some 81] [([], _)] [none, none, none, none, none, none, none, none, none, none, none, none] 0 [(0, [], [6]), (1, [], [70]), (2, [], [11]), (3, [], [71, 0]), (4, [], [73]), (5, [], [7]), (6, [], [75]), (7, [], [11]), (8, [], [76, 0]), (9, [], [78]), (10, [], [74, 4]), (11, [], [80])] [_, _, _, _, _, _, _, _, _, _, _, _]
                    case' hm => exact dr
                    case' hn => rfl
                    case' hok => rfl
                    case' hlen => rfl
                    case' hd => rfl
                    case' h0 => rfl
                    case' hstep =>
                     simp only [DAllG, push_cast, Option.isSome_some, Option.isSome_none]
                     repeat' apply And.intro
                     all_goals (apply DOne_V; simp only [push_cast, Nat.reduceAdd, Nat.reduceSub, Nat.reduceMul, Nat.reduceLT, Nat.reduceLeDiff, Nat.reduceEqDiff, Int.reduceToNat, ↓reduceIte] <;> first | exact rfl | omega | exact ⟨rfl, rfl⟩ | exact trivial | exact ⟨by omega, rfl⟩ | exact ⟨by omega, by omega, rfl⟩ | exact ⟨by omega, rfl, rfl⟩ | exact ⟨by omega, by omega, rfl, rfl⟩ | exact ⟨by omega, by omega, trivial⟩ | (refine (heq _).to ?_; exact ⟨rfl, rfl⟩))
                    case' hQ => skip
                    simp only [push_cast, Nat.reduceAdd, Nat.reduceSub, Nat.reduceMul, Nat.reduceLT, Nat.reduceLeDiff, Nat.reduceEqDiff, Int.reduceToNat, ↓reduceIte]
                    refine cI (fun he => ?_) (fun he => ?_)
                    · repeat' first | refine ⟨by omega, ?_⟩ | refine cI (fun _ => ?_) (fun _ => ?_)
                      exact loopW_n (i + 1) ⟨by omega, by rw [List.take_succ_eq_append_getElem hil, List.take_succ_eq_append_getElem hiy, hi2, he]⟩ (by omega) (by simp only [push_cast, Nat.reduceAdd, Nat.reduceSub, Nat.reduceMul, Nat.reduceLT, Nat.reduceLeDiff, Nat.reduceEqDiff, Int.reduceToNat, ↓reduceIte])
                    · rw [if_neg he] at hd
                      apply AW_drawE [some 82, some 83, some 84, some 85, some 86, some 87, some 88, some 89, some 90, some 91, some 92, some 93, some 94, some 8] [([], _)] [none, none, none, none, none, none, none, none, none, none, none, none, none, none] 0 [(0, [], [0]), (1, [], [1]), (2, [], [6]), (3, [], [84]), (4, [], [11]), (5, [], [85, 0]), (6, [], [87]), (7, [], [7]), (8, [], [89]), (9, [], [11]), (10, [], [90, 0]), (11, [], [92]), (12, [], [82, 0, 4, 4]), (13, [], [94])] [_, _, _, _, _, _, _, _, _, _, _, _, _, _]
                      case' hm => exact dr
                      case' hn => rfl
                      case' hok => rfl
                      case' hlen => rfl
                      case' hd => rfl
                      case' h0 => rfl
                      case' hstep =>
                       simp only [DAllG, push_cast, Option.isSome_some, Option.isSome_none]
                       repeat' apply And.intro
                       all_goals (apply DOne_V; simp only [push_cast, Nat.reduceAdd, Nat.reduceSub, Nat.reduceMul, Nat.reduceLT, Nat.reduceLeDiff, Nat.reduceEqDiff, Int.reduceToNat, ↓reduceIte] <;> first | exact rfl | omega | exact ⟨rfl, rfl⟩ | exact trivial | exact ⟨by omega, rfl⟩ | exact ⟨by omega, by omega, rfl⟩ | exact ⟨by omega, rfl, rfl⟩ | exact ⟨by omega, by omega, rfl, rfl⟩ | exact ⟨by omega, by omega, trivial⟩ | (refine (hab _).to ?_; exact ⟨rfl, rfl⟩))
                      case' hQ => skip
                      simp only [push_cast, Nat.reduceAdd, Nat.reduceSub, Nat.reduceMul, Nat.reduceLT, Nat.reduceLeDiff, Nat.reduceEqDiff, Int.reduceToNat, ↓reduceIte]
                      rw [hR, hd]
                  · have hd := kboTs_drop l unit xs ys i hi2
                    rw [List.drop_of_length_le (show xs.length ≤ i by omega), kboTs_nil] at hd
                    rw [hR, hd]
                · rw [if_pos (.inr (show xs.length ≠ ys.length by omega)), hkf] at hR
                  exact hR.symm
              · rw [if_pos (.inl hn), hkf] at hR
                exact hR.symm
    · rw [if_pos (.inl hw)] at hR
      exact hR.symm
end Ab
set_option maxRecDepth 10000
namespace Ab
open Go Go.Proofs
set_option maxHeartbeats 1000000 in
theorem listed_ac (l : List Rank) (hlen : l.length < 1099511627776) (hnl : ∀ x, x ∈ l → x.name.length < 1099511627776) (H : List AObj) : ACall Tryz.prog 22 [.sl .none (encL encR l)] H (fun r H' => r = .int .i64 (namesP l) ∧ H' = H) := by
  refine ACall_V (H.length) 35 [.tmp 2] Tryz.func22 rfl rfl rfl ?_
  simp only [push_cast, Nat.reduceAdd, Nat.reduceSub, Nat.reduceMul, Nat.reduceLT, Nat.reduceLeDiff, Nat.reduceEqDiff, Int.reduceToNat, ↓reduceIte]
  unfold namesP
  refine cI (fun h => ?_) (fun h => ?_)
  · rw [if_pos (by omega)]
  · rw [if_neg (by omega)]
    refine AW_loopW (maskG 36 [0, 7, 0, 0]) (fun (i : Nat) => [(10, .int .i64 i)]) (fun _ => H) (fun i => i ≤ l.length ∧ ∀ j, j < i → goodAt l j = true) (fun i => l.length - i) 0 ⟨Nat.zero_le _, fun _ h => absurd h (by omega)⟩ (by simp only [push_cast, Nat.reduceAdd, Nat.reduceSub, Nat.reduceMul, Nat.reduceLT, Nat.reduceLeDiff, Nat.reduceEqDiff, Int.reduceToNat, ↓reduceIte]) (fun i hi => ?_)
    obtain ⟨hi1, hi2⟩ := hi
    simp only [push_cast, Nat.reduceAdd, Nat.reduceSub, Nat.reduceMul, Nat.reduceLT, Nat.reduceLeDiff, Nat.reduceEqDiff, Int.reduceToNat, ↓reduceIte]
    refine cI (fun h1 => ?_) (fun h1 => ?_)
    · have hil : i < l.length := by omega
      refine ⟨hil, ?_⟩
      have hg := goodAt_eq l i hil
      have hbad : goodAt l i = false → (if (List.range l.length).all (goodAt l) then (0 : Int) else 4) = 4 := fun hb => if_neg (by
        rw [List.all_eq_true]
        intro hall
        have := hall i (List.mem_range.2 hil)
        rw [hb] at this; cases this)
      have hnm := hnl _ (List.getElem_mem hil)
      have his := fun X => isNameR_ac l[i].name true hnm X
      cases hA : isNameP l[i].name true with
      | false =>
        rw [hA] at hg his
        apply AW_drawE [some 15, some 16, some 17, some 18, some 19, some 20, some 21, some 22, some 23, some 24, some 25, some 26, some 27, some 28, some 29, some 30, some 31, some 32, some 33, some 34] [([], _)] [none, none, none, none, none, none, none, none, none, none, none, none, none, none, none, none, none, none, none, none] 0 [(0, [], [4]), (1, [], [15]), (2, [], [16]), (3, [], [17]), (4, [], [18]), (5, [], [3, 15]), (6, [], [19, 0]), (7, [], [19, 1]), (8, [], [0, 21]), (9, [], [3, 18]), (10, [], [22, 1]), (11, [], [22, 0, 1]), (12, [], [22, 3]), (13, [], [22, 4]), (14, [], [4, 17]), (15, [], [22, 6]), (16, [], [22, 5, 1]), (17, [], [22, 8]), (18, [], [19, 2, 9]), (19, [], [19, 13])] [_, _, _, _, _, _, _, _, _, _, _, _, _, _, _, _, _, _, _, _]
        case' hm => exact dr
        case' hn => rfl
        case' hok => rfl
        case' hlen => rfl
        case' hd => rfl
        case' h0 => rfl
        case' hstep =>
         simp only [DAllG, push_cast, Option.isSome_some, Option.isSome_none]
         repeat' apply And.intro
         all_goals (apply DOne_V; simp only [push_cast, Nat.reduceAdd, Nat.reduceSub, Nat.reduceMul, Nat.reduceLT, Nat.reduceLeDiff, Nat.reduceEqDiff, Int.reduceToNat, ↓reduceIte] <;> first | exact rfl | omega | exact ⟨rfl, rfl⟩ | exact trivial | exact ⟨by omega, rfl⟩ | exact ⟨by omega, by omega, rfl⟩ | exact ⟨by omega, rfl, rfl⟩ | exact ⟨by omega, by omega, rfl, rfl⟩ | (refine (his _).to ?_; exact ⟨rfl, rfl⟩))
        case' hQ => skip
        simp only [push_cast, Nat.reduceAdd, Nat.reduceSub, Nat.reduceMul, Nat.reduceLT, Nat.reduceLeDiff, Nat.reduceEqDiff, Int.reduceToNat, ↓reduceIte]
        rw [hbad hg]
      | true =>
        rw [hA] at hg his
        by_cases h0 : i = 0
        · have hd : decide ((0 : Int) < (i : Int)) = false := by rw [decide_eq_false_iff_not]; omega
          apply AW_drawE [some 15, some 16, some 17, some 18, some 19, some 20, some 21, some 22, some 23, some 24, some 25, some 26, some 27, some 28, some 29, some 30, some 31, some 32, some 33, some 34] [([], _)] [none, none, none, none, none, none, none, none, none, none, none, none, none, none, none, none, none, none, none, none] 0 [(0, [], [4]), (1, [], [15]), (2, [], [16]), (3, [], [17]), (4, [], [18]), (5, [], [3, 15]), (6, [], [19, 0]), (7, [], [19, 1]), (8, [], [0, 21]), (9, [], [3, 18]), (10, [], [22, 1]), (11, [], [22, 0, 1]), (12, [], [22, 3]), (13, [], [22, 4]), (14, [], [4, 17]), (15, [], [22, 6]), (16, [], [22, 5, 1]), (17, [], [22, 8]), (18, [], [19, 2, 9]), (19, [], [19, 13])] [_, _, _, _, _, _, _, _, _, _, _, _, _, _, _, _, _, _, _, _]
          case' hm => exact dr
          case' hn => rfl
          case' hok => rfl
          case' hlen => rfl
          case' hd => rfl
          case' h0 => rfl
          case' hstep =>
           simp only [DAllG, push_cast, Option.isSome_some, Option.isSome_none]
           repeat' apply And.intro
           all_goals (apply DOne_V; simp only [push_cast, Nat.reduceAdd, Nat.reduceSub, Nat.reduceMul, Nat.reduceLT, Nat.reduceLeDiff, Nat.reduceEqDiff, Int.reduceToNat, ↓reduceIte, hd] <;> first | exact rfl | omega | exact ⟨rfl, rfl⟩ | exact trivial | exact ⟨by omega, rfl⟩ | exact ⟨by omega, by omega, rfl⟩ | exact ⟨by omega, rfl, rfl⟩ | exact ⟨by omega, by omega, rfl, rfl⟩ | (refine (his _).to ?_; exact ⟨rfl, rfl⟩))
          case' hQ => skip
          simp only [push_cast, Nat.reduceAdd, Nat.reduceSub, Nat.reduceMul, Nat.reduceLT, Nat.reduceLeDiff, Nat.reduceEqDiff, Int.reduceToNat, ↓reduceIte]
          repeat' first | refine ⟨by omega, ?_⟩ | refine cI (fun _ => ?_) (fun _ => ?_)
          exact loopW_n (i + 1) ⟨by omega, fun j hj => by
            by_cases e : j = i
            · rw [e, hg]; simp [h0]
            · exact hi2 j (by omega)⟩ (by omega) (by simp only [push_cast, Nat.reduceAdd, Nat.reduceSub, Nat.reduceMul, Nat.reduceLT, Nat.reduceLeDiff, Nat.reduceEqDiff, Int.reduceToNat, ↓reduceIte])
        · have hd : decide ((0 : Int) < (i : Int)) = true := by rw [decide_eq_true_eq]; omega
          have hpl : i - 1 < l.length := by omega
          have hcp := fun X => cmpNames_ac (l[i - 1]'hpl).name l[i].name (hnl _ (List.getElem_mem hpl)) hnm X
          have hm : (i : Int) - 1 = ((i - 1 : Nat) : Int) := by omega
          have hd0 : decide (i = 0) = false := decide_eq_false h0
          have hg' : goodAt l i = !leB l[i].name (l[i - 1]'hpl).name := by rw [hg, hd0]; simp
          apply AW_drawE [some 15, some 16, some 17, some 18, some 19, some 20, some 21, some 22, some 23, some 24, some 25, some 26, some 27, some 28, some 29, some 30, some 31, some 32, some 33, some 34] [([], _)] [none, none, none, none, none, none, none, none, none, none, none, none, none, none, none, none, none, none, none, none] 0 [(0, [], [4]), (1, [], [15]), (2, [], [16]), (3, [], [17]), (4, [], [18]), (5, [], [3, 15]), (6, [], [19, 0]), (7, [], [19, 1]), (8, [], [0, 21]), (9, [], [3, 18]), (10, [], [22, 1]), (11, [], [22, 0, 1]), (12, [], [22, 3]), (13, [], [22, 4]), (14, [], [4, 17]), (15, [], [22, 6]), (16, [], [22, 5, 1]), (17, [], [22, 8]), (18, [], [19, 2, 9]), (19, [], [19, 13])] [_, _, _, _, _, _, _, _, _, _, _, _, _, _, _, _, _, _, _, _]
          case' hm => exact dr
          case' hn => rfl
          case' hok => rfl
          case' hlen => rfl
          case' hd => rfl
          case' h0 => rfl
          case' hstep =>
           simp only [DAllG, push_cast, Option.isSome_some, Option.isSome_none]
           repeat' apply And.intro
           all_goals (apply DOne_V; simp only [push_cast, Nat.reduceAdd, Nat.reduceSub, Nat.reduceMul, Nat.reduceLT, Nat.reduceLeDiff, Nat.reduceEqDiff, Int.reduceToNat, ↓reduceIte, hd, hm] <;> first | exact rfl | omega | exact ⟨rfl, rfl⟩ | exact trivial | exact ⟨by omega, rfl⟩ | exact ⟨by omega, by omega, rfl⟩ | exact ⟨by omega, rfl, rfl⟩ | exact ⟨by omega, by omega, rfl, rfl⟩ | (refine (his _).to ?_; exact ⟨rfl, rfl⟩) | (refine (hcp _).to ?_; exact ⟨rfl, rfl⟩) | exact ⟨⟨by omega, by omega⟩, trivial⟩ | exact ⟨⟨by omega, by omega⟩, rfl⟩)
          case' hQ => skip
          simp only [push_cast, Nat.reduceAdd, Nat.reduceSub, Nat.reduceMul, Nat.reduceLT, Nat.reduceLeDiff, Nat.reduceEqDiff, Int.reduceToNat, ↓reduceIte]
          refine cI (fun hb => ?_) (fun hb => ?_)
          · rw [hbad (by rw [hg', (leB_cmp _ _).2 (by omega)]; rfl)]
          · repeat' first | refine ⟨by omega, ?_⟩ | refine cI (fun _ => ?_) (fun _ => ?_)
            exact loopW_n (i + 1) ⟨by omega, fun j hj => by
              by_cases e : j = i
              · have hq : leB l[i].name (l[i - 1]'hpl).name = false := by
                  rw [Bool.eq_false_iff]; intro h
                  have := (leB_cmp _ _).1 h
                  omega
                rw [e, hg', hq]; rfl
              · exact hi2 j (by omega)⟩ (by omega) (by simp only [push_cast, Nat.reduceAdd, Nat.reduceSub, Nat.reduceMul, Nat.reduceLT, Nat.reduceLeDiff, Nat.reduceEqDiff, Int.reduceToNat, ↓reduceIte])
    · rw [if_pos (List.all_eq_true.2 fun j hj => hi2 j (by have := List.mem_range.1 hj; omega))]
theorem checkR7_ac (l : List Rank) (unit : Int) (hlen : l.length < 1099511627776) (hnl : ∀ x, x ∈ l → x.name.length < 1099511627776) (H : List AObj) : ACall Tryz.prog 6 [.sl .none (encL encR l), .int .i64 unit] H (fun r H' => r = .int .i64 (wcheckP l unit) ∧ H' = H) := by
  refine ACall_V (H.length) 42 [.tmp 4] Tryz.func6 rfl rfl rfl ?_
  simp only [push_cast, Nat.reduceAdd, Nat.reduceSub, Nat.reduceMul, Nat.reduceLT, Nat.reduceLeDiff, Nat.reduceEqDiff, Int.reduceToNat, ↓reduceIte]
  refine (listed_ac l hlen hnl _).to ?_
  simp only [push_cast, Nat.reduceAdd, Nat.reduceSub, Nat.reduceMul, Nat.reduceLT, Nat.reduceLeDiff, Nat.reduceEqDiff, Int.reduceToNat, ↓reduceIte]
  unfold wcheckP
  refine cI (fun h => ?_) (fun h => ?_)
  · rw [if_neg (by simpa using h)]
    refine AW_loopW (maskG 44 [1, 11, 0, 0]) (fun (i : Nat) => [(15, .int .i64 i)]) (fun _ => H) (fun i => i ≤ l.length ∧ (l.take i).any (fun x => badP x.rank || badP x.weight) = false) (fun i => l.length - i) 0 ⟨Nat.zero_le _, by simp⟩ (by simp only [push_cast, Nat.reduceAdd, Nat.reduceSub, Nat.reduceMul, Nat.reduceLT, Nat.reduceLeDiff, Nat.reduceEqDiff, Int.reduceToNat, ↓reduceIte]) (fun i hi => ?_)
    obtain ⟨hi1, hi2⟩ := hi
    simp only [push_cast, Nat.reduceAdd, Nat.reduceSub, Nat.reduceMul, Nat.reduceLT, Nat.reduceLeDiff, Nat.reduceEqDiff, Int.reduceToNat, ↓reduceIte]
    refine cI (fun h1 => ?_) (fun h1 => ?_)
    · have hil : i < l.length := by omega
      refine ⟨hil, ?_⟩
      have hx : (badP l[i].rank || badP l[i].weight) = (decide (l[i].rank < 0) || (decide (1000 < l[i].rank) || (decide (l[i].weight < 0) || decide (1000 < l[i].weight)))) := by unfold badP; rw [Bool.or_assoc]
      have hbad : (badP l[i].rank || badP l[i].weight) = true → (if ((l.any fun x => badP x.rank || badP x.weight) || decide (unit < 1) || badP unit) = true then (2 : Int) else 0) = 2 := fun hb => if_pos (by rw [any_get (i := i) hil hb]; rfl)
      have hgo : (badP l[i].rank || badP l[i].weight) = false → (l.take (i + 1)).any (fun x => badP x.rank || badP x.weight) = false := fun hb => any_take_false hi2 hil hb
      refine cI (fun h2 => ?_) (fun h2 => ?_)
      · rw [hbad (by rw [hx, decide_eq_true h2]; rfl)]
      · refine cI (fun h3 => ?_) (fun h3 => ?_)
        · rw [hbad (by rw [hx, decide_eq_true h3]; simp)]
        · refine cI (fun h4 => ?_) (fun h4 => ?_)
          · rw [hbad (by rw [hx, decide_eq_true h4]; simp)]
          · refine cI (fun h5 => ?_) (fun h5 => ?_)
            · rw [hbad (by rw [hx, decide_eq_true h5]; simp)]
            · repeat' first | refine ⟨by omega, ?_⟩ | refine cI (fun _ => ?_) (fun _ => ?_)
              exact loopW_n (i + 1) ⟨by omega, hgo (by rw [hx, decide_eq_false h2, decide_eq_false h3, decide_eq_false h4, decide_eq_false h5]; rfl)⟩ (by omega) (by simp only [push_cast, Nat.reduceAdd, Nat.reduceSub, Nat.reduceMul, Nat.reduceLT, Nat.reduceLeDiff, Nat.reduceEqDiff, Int.reduceToNat, ↓reduceIte])
    · rw [List.take_of_length_le (show l.length ≤ i by omega)] at hi2
      rw [hi2]
      unfold badP
      refine cI (fun h2 => ?_) (fun h2 => ?_)
      · rw [decide_eq_true h2]; simp
      · refine cI (fun h3 => ?_) (fun h3 => ?_)
        · rw [decide_eq_true h3]; simp
        · rw [decide_eq_false h2, decide_eq_false h3, decide_eq_false (show ¬ unit < 0 by omega)]; simp
  · rw [if_pos h]
def ofL (ts : List Term) : List Sym := ts.flatMap ofT
theorem ofL_take (ts : List Term) (i : Nat) (h : i < ts.length) : ofL (ts.take (i + 1)) = ofL (ts.take i) ++ ofT ts[i] := by
  unfold ofL; rw [List.take_succ_eq_append_getElem h, List.flatMap_append]; simp
theorem ofT_args (t : Term) : ofT t = ofL t.args ++ if t.var then [] else [⟨t.name, t.args.length⟩] := by cases t; rw [ofT_mk]; rfl
theorem ofL_length (ts : List Term) : (ofL ts).length ≤ (ts.map Term.size).sum := by
  unfold ofL
  rw [List.length_flatMap]
  exact sum_le_sum fun x _ => ofT_length x
theorem ofR_step (ts : List Term) (hlen : ts.length < 1099511627776) (hsz : (ts.map Term.size).sum ≤ 1099511627775) (ih : ∀ x, x ∈ ts → ∀ H, ACall Tryz.prog 9 [.sl .none (encTs x.args)] H (fun r H' => r = .sl .none (encL encS (ofL x.args)) ∧ H' = H)) (H : List AObj) :
    ACall Tryz.prog 9 [.sl .none (encTs ts)] H (fun r H' => r = .sl .none (encL encS (ofL ts)) ∧ H' = H) := by
  have hbd : ∀ i (h : i < ts.length), (ofL (ts.take i)).length + (ofL ts[i].args).length + (if ts[i].var then 0 else 1) ≤ 1099511627775 := by
    intro i h
    have h1 := ofL_length (ts.take (i + 1))
    have h2 := take_sum_le Term.size ts (i + 1)
    rw [ofL_take ts i h, List.length_append, ofT_args, List.length_append] at h1
    cases hv : ts[i].var <;> simp only [hv, if_true, if_false, Bool.false_eq_true, List.length_cons, List.length_nil] at h1 ⊢ <;> omega
  refine ACall_VA (H.length) 30 [.tmp 2] Tryz.func9 rfl rfl rfl ?_
  refine AW_reserve 1 ?_
  refine AW_of_W ?_
  simp only [push_cast, Nat.reduceAdd, Nat.reduceSub, Nat.reduceMul, Nat.reduceLT, Nat.reduceLeDiff, Nat.reduceEqDiff, Int.reduceToNat, ↓reduceIte]
  refine AW_loopW (maskG 31 [3, 2, 0, 0]) (fun (i : Nat) => [(8, .int .i64 i), (3, gSl H.length (encL encS (ofL (ts.take i))))]) (fun i => H ++ [gTok 64 2 (encL encS (ofL (ts.take i)))]) (fun i => i ≤ ts.length) (fun i => ts.length - i) 0 (Nat.zero_le _) (by simp only [push_cast, Nat.reduceAdd, Nat.reduceSub, Nat.reduceMul, Nat.reduceLT, Nat.reduceLeDiff, Nat.reduceEqDiff, Int.reduceToNat, ↓reduceIte, List.take_zero, show ofL [] = [] from rfl, encL_nil]) (fun i hi => ?_)
  simp only [push_cast, Nat.reduceAdd, Nat.reduceSub, Nat.reduceMul, Nat.reduceLT, Nat.reduceLeDiff, Nat.reduceEqDiff, Int.reduceToNat, ↓reduceIte]
  refine cI (fun h => ?_) (fun h => ?_)
  · have hil : i < ts.length := by omega
    have hb := hbd i hil
    have e := ofL_take ts i hil
    have e2 := ofT_args (ts[i]'hil)
    refine ⟨hil, ?_⟩
    refine (ih _ (List.getElem_mem hil) _).to ?_
    simp only [push_cast, Nat.reduceAdd, Nat.reduceSub, Nat.reduceMul, Nat.reduceLT, Nat.reduceLeDiff, Nat.reduceEqDiff, Int.reduceToNat, ↓reduceIte]
    refine app_L encS (sz := 2) (fun _ => rfl) cellSm _ H.length (ofL (ts.take i)) (ofL (ts[i]'hil).args) _ rfl rfl (by exact aget0 _ _ _) sl33 sz64 by64 zr64 rfl (by decide) (by decide) (by omega) ?_
    simp only [push_cast, Nat.reduceAdd, Nat.reduceSub, Nat.reduceMul, Nat.reduceLT, Nat.reduceLeDiff, Nat.reduceEqDiff, Int.reduceToNat, ↓reduceIte]
    refine cI (fun hv => ?_) (fun hv => ?_)
    · rw [hv, if_pos rfl, List.append_nil] at e2
      rw [← e2, ← e]
      repeat' first | refine ⟨by omega, ?_⟩ | refine cI (fun _ => ?_) (fun _ => ?_)
      exact loopW_n (i + 1) (by omega) (by omega) (by simp only [push_cast, Nat.reduceAdd, Nat.reduceSub, Nat.reduceMul, Nat.reduceLT, Nat.reduceLeDiff, Nat.reduceEqDiff, Int.reduceToNat, ↓reduceIte])
    · have hv : (ts[i]'hil).var = false := by simpa using hv
      rw [hv] at e2 hb
      simp only [Bool.false_eq_true, if_false] at hb e2
      refine app1_L encS (sz := 2) (fun _ => rfl) cellSm _ H.length (ofL (ts.take i) ++ ofL (ts[i]'hil).args) ⟨(ts[i]'hil).name, (ts[i]'hil).args.length⟩ _ rfl rfl (by exact aget0 _ _ _) sl33 sz64 by64 zr64 rfl (by decide) (by decide) (by rw [List.length_append]; omega) ?_
      rw [List.append_assoc, ← e2, ← e]
      simp only [push_cast, Nat.reduceAdd, Nat.reduceSub, Nat.reduceMul, Nat.reduceLT, Nat.reduceLeDiff, Nat.reduceEqDiff, Int.reduceToNat, ↓reduceIte]
      repeat' first | refine ⟨by omega, ?_⟩ | refine cI (fun _ => ?_) (fun _ => ?_)
      exact loopW_n (i + 1) (by omega) (by omega) (by simp only [push_cast, Nat.reduceAdd, Nat.reduceSub, Nat.reduceMul, Nat.reduceLT, Nat.reduceLeDiff, Nat.reduceEqDiff, Int.reduceToNat, ↓reduceIte])
  · rw [List.take_of_length_le (show ts.length ≤ i by omega)]
theorem ofR_args (t : Term) : t.bulk ≤ 1099511627775 → ∀ H, ACall Tryz.prog 9 [.sl .none (encTs t.args)] H (fun r H' => r = .sl .none (encL encS (ofL t.args)) ∧ H' = H) := by
  refine Term.ind (p := fun t => t.bulk ≤ 1099511627775 → ∀ H, ACall Tryz.prog 9 [.sl .none (encTs t.args)] H (fun r H' => r = .sl .none (encL encS (ofL t.args)) ∧ H' = H)) (fun n v xs ih => ?_) t
  intro hb H
  have h1 := (Term.mk n v xs).size_le
  have h2 := Term.len_le (n := n) (v := v) (xs := xs)
  rw [Term.size_mk] at h1
  exact ofR_step xs (by omega) (by omega) (fun x hx => ih x hx (by have := Term.arg_le (n := n) (v := v) hx; omega)) H
theorem ofR_ac (ts : List Term) (hlen : ts.length < 1099511627776) (hb : ∀ x, x ∈ ts → x.bulk ≤ 1099511627775) (hsz : (ts.map Term.size).sum ≤ 1099511627775) (H : List AObj) :
    ACall Tryz.prog 9 [.sl .none (encTs ts)] H (fun r H' => r = .sl .none (encL encS (ofL ts)) ∧ H' = H) := ofR_step ts hlen hsz (fun x hx => ofR_args x (hb x hx)) H
end Ab
set_option maxRecDepth 10000
namespace Ab
open Go Go.Proofs
theorem mem_nodes (f : Sym) : ∀ ts : List Term, f ∈ (nodesL ts).map (fun p => (⟨p.1, (p.2 : Nat)⟩ : Sym)) ↔ f ∈ ts.flatMap ofT
  | [] => by simp [nodesL]
  | .mk n u xs :: r => by
    have h1 := mem_nodes f xs
    have h2 := mem_nodes f r
    have h3 : f ∈ (ndT (.mk n u xs)).map (fun p => (⟨p.1, (p.2 : Nat)⟩ : Sym)) ↔ f ∈ (if u then [] else [(⟨n, xs.length⟩ : Sym)]) := by
      cases u
      · simp [ndT, Term.mk_var, Term.mk_name, Term.mk_args, eq_comm]
      · simp [ndT, Term.mk_var]
    rw [List.flatMap_cons, ofT_mk]
    simp only [nodesL, List.map_append, List.mem_append, h1, h2, h3]
    constructor
    · intro h
      rcases h with h | h
      · exact .inl (.inr h)
      · rcases h with h | h
        · exact .inl (.inl h)
        · exact .inr h
    · intro h
      rcases h with h | h
      · rcases h with h | h
        · exact .inr (.inl h)
        · exact .inl h
      · exact .inr (.inr h)
theorem mem_symS {rs : List (Term × Term)} (h : sysP rs = 0) (f : Sym) : f ∈ symS rs ↔ f ∈ (rT rs).flatMap ofT := by
  obtain ⟨h1, h2, h3, _⟩ := sys_zero h
  have ha : (symRs (rT rs) []).2 = true := by
    rw [rules_agree h1, h2, Bool.not_false, Bool.true_and, List.all_eq_true]
    rw [List.any_eq_false] at h3
    intro s hs
    simpa using h3 s hs
  have hm := ((symRs_spec (rT rs) [] (rules_formed h1) List.Pairwise.nil).2 ha).2
  rw [← mem_nodes]
  unfold symS
  simp only [List.mem_map, hm, List.not_mem_nil, false_or]
theorem firstErr_sys {rs : List (Term × Term)} (h : sysP rs = 0) : ∀ t, t ∈ rT rs → checkP t = 0 := by
  intro t ht
  obtain ⟨r, hr, he⟩ := mem_rT.1 ht
  have := (rules_ok (sys_zero h).1).2 r hr
  rcases he with rfl | rfl
  · exact this.1
  · exact this.2
end Ab
set_option maxRecDepth 10000
namespace Ab
open Go Go.Proofs
theorem uniBl (l : List Bool) : Uni 1 (encL AV.bool l) = True := eq_true (uni_encL (enc := AV.bool) (k := 1) (fun _ => rfl) l)
attribute [push_cast] uniBl
set_option maxHeartbeats 1000000 in
theorem admissibleR_ac (l : List Rank) (unit : Int) (ss : List Sym) (hlen : l.length < 1099511627776) (hlen2 : ss.length < 1099511627776) (H : List AObj) :
    ACall Tryz.prog 8 [.sl .none (encL encR l), .int .i64 unit, .sl .none (encL encS ss)] H (fun r H' => r = .bool (fitsR l unit ss) ∧ H' = H) := by
  unfold fitsR
  obtain ⟨X, hX⟩ : ∃ X, X = fitsRx l unit ss := ⟨_, rfl⟩
  rw [← hX]
  refine ACall_V (H.length) 57 [.tmp 6] Tryz.func8 rfl rfl rfl ?_
  simp only [push_cast, Nat.reduceAdd, Nat.reduceSub, Nat.reduceMul, Nat.reduceLT, Nat.reduceLeDiff, Nat.reduceEqDiff, Int.reduceToNat, ↓reduceIte]
  refine AW_loopW (maskG 60 [0, 0, 0, 9, 0, 0]) (fun (i : Nat) => [(14, .int .i64 i)]) (fun _ => H) (fun i => i ≤ ss.length ∧ (ss.take i).all X = true) (fun i => ss.length - i) 0 ⟨Nat.zero_le _, by simp⟩ (by simp only [push_cast, Nat.reduceAdd, Nat.reduceSub, Nat.reduceMul, Nat.reduceLT, Nat.reduceLeDiff, Nat.reduceEqDiff, Int.reduceToNat, ↓reduceIte]) (fun i hi => ?_)
  obtain ⟨hi1, hi2⟩ := hi
  simp only [push_cast, Nat.reduceAdd, Nat.reduceSub, Nat.reduceMul, Nat.reduceLT, Nat.reduceLeDiff, Nat.reduceEqDiff, Int.reduceToNat, ↓reduceIte]
  refine cI (fun h => ?_) (fun h => ?_)
  · have hil : i < ss.length := by omega
    obtain ⟨x, hx⟩ : ∃ x, x = ss[i]'hil := ⟨_, rfl⟩
    have hxf : X x = (!(decide (x.arity = 0) && decide ((ofP l x.name).weight < unit)) && ss.all (fitsRy l x)) := by rw [hX]; rfl
    have hbad : X x = false → ss.all X = false := fun hb => all_get (i := i) hil (by rw [← hx]; exact hb)
    refine ⟨hil, ?_⟩
    rw [← hx]
    refine (entry_ac l x.name hlen _).to ?_
    simp only [push_cast, Nat.reduceAdd, Nat.reduceSub, Nat.reduceMul, Nat.reduceLT, Nat.reduceLeDiff, Nat.reduceEqDiff, Int.reduceToNat, ↓reduceIte, (entry_rank l x.name).2]
    have inner : ∀ (hz : (decide (x.arity = 0) && decide ((ofP l x.name).weight < unit)) = false), (ss.all (fitsRy l x) = true → X x = true) ∧ (ss.all (fitsRy l x) = false → X x = false) := fun hz => ⟨fun h => by rw [hxf, hz, h]; rfl, fun h => by rw [hxf, hz, h]; rfl⟩
    refine cI (fun ha => ?_) (fun ha => ?_)
    refine cI (fun hw => ?_) (fun hw => ?_)
    rw [hbad (by rw [hxf, decide_eq_true ha, decide_eq_true hw]; rfl)]
    have hin := inner (by rw [decide_eq_false hw, Bool.and_false])
    rotate_left
    have hin := inner (by rw [decide_eq_false ha, Bool.false_and])
    all_goals (
      clear inner
      refine AW_loopW (maskG 60 [0, 0, 0, 5, 0, 2, 0, 0, 16, 0, 0]) (fun (j : Nat) => [(33, .int .i64 j)]) (fun _ => H ++ [.cells [.str x.name, .int .i64 x.arity]]) (fun j => j ≤ ss.length ∧ (ss.take j).all (fitsRy l x) = true) (fun j => ss.length - j) 0 ⟨Nat.zero_le _, by simp⟩ (by simp only [push_cast, Nat.reduceAdd, Nat.reduceSub, Nat.reduceMul, Nat.reduceLT, Nat.reduceLeDiff, Nat.reduceEqDiff, Int.reduceToNat, ↓reduceIte]) (fun j hj => ?_)
      obtain ⟨hj1, hj2⟩ := hj
      simp only [push_cast, Nat.reduceAdd, Nat.reduceSub, Nat.reduceMul, Nat.reduceLT, Nat.reduceLeDiff, Nat.reduceEqDiff, Int.reduceToNat, ↓reduceIte]
      refine cI (fun h5 => ?_) (fun h5 => ?_)
      · have hjl : j < ss.length := by omega
        obtain ⟨y, hy⟩ : ∃ y, y = ss[j]'hjl := ⟨_, rfl⟩
        have hyf : fitsRy l x y = !(decide (x.arity = 1) && decide ((ofP l x.name).weight = 0) && decide (x ≠ y) && !decide ((ofP l y.name).rank < (ofP l x.name).rank)) := rfl
        have hyb : fitsRy l x y = false → ss.all X = false := fun hb => hbad (hin.2 (all_get (i := j) hjl (by rw [← hy]; exact hb)))
        have hyg : fitsRy l x y = true → (ss.take (j + 1)).all (fitsRy l x) = true := fun hb => all_take_true hj2 hjl (by rw [← hy]; exact hb)
        refine ⟨hjl, ?_⟩
        rw [← hy]
        have hab := fun Z => aboveE_ac l x.name y.name hlen Z
        refine cI (fun h1 => ?_) (fun h1 => ?_)
        · refine cI (fun h2 => ?_) (fun h2 => ?_)
          · refine AOp_neq_law symEq x y rfl rfl ?_
            simp only [push_cast, Nat.reduceAdd, Nat.reduceSub, Nat.reduceMul, Nat.reduceLT, Nat.reduceLeDiff, Nat.reduceEqDiff, Int.reduceToNat, ↓reduceIte]
            refine cI (fun h3 => ?_) (fun h3 => ?_)
            · have e := hyg (by rw [hyf, decide_eq_false (not_not_intro h3)]; simp)
              repeat' first | refine ⟨by omega, ?_⟩ | refine cI (fun _ => ?_) (fun _ => ?_)
              exact loopW_n (j + 1) ⟨by omega, e⟩ (by omega) (by simp only [push_cast, Nat.reduceAdd, Nat.reduceSub, Nat.reduceMul, Nat.reduceLT, Nat.reduceLeDiff, Nat.reduceEqDiff, Int.reduceToNat, ↓reduceIte])
            · refine (hab _).to ?_
              simp only [push_cast, Nat.reduceAdd, Nat.reduceSub, Nat.reduceMul, Nat.reduceLT, Nat.reduceLeDiff, Nat.reduceEqDiff, Int.reduceToNat, ↓reduceIte]
              refine cI (fun h4 => ?_) (fun h4 => ?_)
              · have e := hyg (by rw [hyf, decide_eq_true h4]; simp)
                repeat' first | refine ⟨by omega, ?_⟩ | refine cI (fun _ => ?_) (fun _ => ?_)
                exact loopW_n (j + 1) ⟨by omega, e⟩ (by omega) (by simp only [push_cast, Nat.reduceAdd, Nat.reduceSub, Nat.reduceMul, Nat.reduceLT, Nat.reduceLeDiff, Nat.reduceEqDiff, Int.reduceToNat, ↓reduceIte])
              · rw [hyb (by rw [hyf, decide_eq_true h1, decide_eq_true h2, decide_eq_true (show x ≠ y from h3), decide_eq_false h4]; rfl)]
          · have e := hyg (by rw [hyf, decide_eq_false h2]; simp)
            repeat' first | refine ⟨by omega, ?_⟩ | refine cI (fun _ => ?_) (fun _ => ?_)
            exact loopW_n (j + 1) ⟨by omega, e⟩ (by omega) (by simp only [push_cast, Nat.reduceAdd, Nat.reduceSub, Nat.reduceMul, Nat.reduceLT, Nat.reduceLeDiff, Nat.reduceEqDiff, Int.reduceToNat, ↓reduceIte])
        · have e := hyg (by rw [hyf, decide_eq_false h1]; simp)
          repeat' first | refine ⟨by omega, ?_⟩ | refine cI (fun _ => ?_) (fun _ => ?_)
          exact loopW_n (j + 1) ⟨by omega, e⟩ (by omega) (by simp only [push_cast, Nat.reduceAdd, Nat.reduceSub, Nat.reduceMul, Nat.reduceLT, Nat.reduceLeDiff, Nat.reduceEqDiff, Int.reduceToNat, ↓reduceIte])
      · rw [List.take_of_length_le (show ss.length ≤ j by omega)] at hj2
        have e := hin.1 hj2
        repeat' first | refine ⟨by omega, ?_⟩ | refine cI (fun _ => ?_) (fun _ => ?_)
        exact loopW_n (i + 1) ⟨by omega, all_take_true hi2 hil (by rw [← hx]; exact e)⟩ (by omega) (by simp only [push_cast, Nat.reduceAdd, Nat.reduceSub, Nat.reduceMul, Nat.reduceLT, Nat.reduceLeDiff, Nat.reduceEqDiff, Int.reduceToNat, ↓reduceIte]))
  · rw [List.take_of_length_le (show ss.length ≤ i by omega)] at hi2
    rw [hi2]
theorem rT_len (rs : List (Term × Term)) : (rT rs).length = 2 * rs.length := by
  unfold rT
  induction rs with
  | nil => rfl
  | cons r rs ih => rw [List.flatMap_cons, List.length_append, ih]; simp; omega
theorem sides_ac (rs : List (Term × Term)) (hlen : rs.length ≤ 1099511627) (H : List AObj) :
    ACall Tryz.prog 10 [.sl .none (encL encRu rs)] H (fun r H' => r = .sl .none (encTs (rT rs)) ∧ H' = H) := by
  refine ACall_VA (H.length) 20 [.tmp 2] Tryz.func10 rfl rfl rfl ?_
  refine AW_reserve 1 ?_
  refine AW_of_W ?_
  simp only [push_cast, Nat.reduceAdd, Nat.reduceSub, Nat.reduceMul, Nat.reduceLT, Nat.reduceLeDiff, Nat.reduceEqDiff, Int.reduceToNat, ↓reduceIte]
  refine AW_loopW (maskG 21 [3, 2, 0, 0]) (fun (i : Nat) => [(8, .int .i64 i), (3, gSl H.length (encTs (rT (rs.take i))))]) (fun i => H ++ [gTok 39 3 (encTs (rT (rs.take i)))]) (fun i => i ≤ rs.length) (fun i => rs.length - i) 0 (Nat.zero_le _) (by simp only [push_cast, Nat.reduceAdd, Nat.reduceSub, Nat.reduceMul, Nat.reduceLT, Nat.reduceLeDiff, Nat.reduceEqDiff, Int.reduceToNat, ↓reduceIte, List.take_zero, show rT [] = [] from rfl, encTs_nil]) (fun i hi => ?_)
  simp only [push_cast, Nat.reduceAdd, Nat.reduceSub, Nat.reduceMul, Nat.reduceLT, Nat.reduceLeDiff, Nat.reduceEqDiff, Int.reduceToNat, ↓reduceIte]
  refine cI (fun h => ?_) (fun h => ?_)
  · have hil : i < rs.length := by omega
    have hst := rT_take rs i hil
    have hrl : (rT (rs.take i)).length ≤ 2 * rs.length := by
      have h1 := rT_len (rs.take i)
      rw [h1, List.length_take]
      omega
    refine ⟨hil, ?_⟩
    refine app_T _ H.length (rT (rs.take i)) [(rs[i]'hil).1, (rs[i]'hil).2] _ rfl (by rw [encTs_2]; exact rfl) (by exact aget0 _ _ _) sl35 sz39 by39 zr39 rfl (by decide) (by simp; omega) ?_
    rw [← hst]
    simp only [push_cast, Nat.reduceAdd, Nat.reduceSub, Nat.reduceMul, Nat.reduceLT, Nat.reduceLeDiff, Nat.reduceEqDiff, Int.reduceToNat, ↓reduceIte]
    repeat' first | refine ⟨by omega, ?_⟩ | refine cI (fun _ => ?_) (fun _ => ?_)
    exact loopW_n (i + 1) (by omega) (by omega) (by simp only [push_cast, Nat.reduceAdd, Nat.reduceSub, Nat.reduceMul, Nat.reduceLT, Nat.reduceLeDiff, Nat.reduceEqDiff, Int.reduceToNat, ↓reduceIte])
  · rw [List.take_of_length_le (show rs.length ≤ i by omega)]
theorem sameBools_ac (a b : List Bool) (h1 : a.length < 1099511627776) (h2 : b.length < 1099511627776) (H : List AObj) :
    ACall Tryz.prog 13 [.sl .none (encL AV.bool a), .sl .none (encL AV.bool b)] H (fun r H' => r = .bool (decide (a = b)) ∧ H' = H) := by
  refine ACall_V (H.length) 24 [.tmp 4] Tryz.func13 rfl rfl rfl ?_
  simp only [push_cast, Nat.reduceAdd, Nat.reduceSub, Nat.reduceMul, Nat.reduceLT, Nat.reduceLeDiff, Nat.reduceEqDiff, Int.reduceToNat, ↓reduceIte]
  refine cI (fun hl => ?_) (fun hl => ?_)
  · have hl : a.length = b.length := by omega
    refine AW_loopW (maskG 26 [0, 0, 10, 0]) (fun (i : Nat) => [(13, .int .i64 i)]) (fun _ => H) (fun i => i ≤ a.length ∧ a.take i = b.take i) (fun i => a.length - i) 0 ⟨Nat.zero_le _, rfl⟩ (by simp only [push_cast, Nat.reduceAdd, Nat.reduceSub, Nat.reduceMul, Nat.reduceLT, Nat.reduceLeDiff, Nat.reduceEqDiff, Int.reduceToNat, ↓reduceIte]) (fun i hi => ?_)
    simp only [push_cast, Nat.reduceAdd, Nat.reduceSub, Nat.reduceMul, Nat.reduceLT, Nat.reduceLeDiff, Nat.reduceEqDiff, Int.reduceToNat, ↓reduceIte]
    refine cI (fun h => ?_) (fun h => ?_)
    · repeat refine ⟨by omega, ?_⟩
      have hia : i < a.length := by omega
      have hib : i < b.length := by omega
      apply AW_drawE [some 16, some 17, some 18, some 19, some 20, some 21, some 22, some 23, some 24] [([], _)] [none, none, none, none, none, none, none, none, none] 0 [(0, [], [0]), (1, [], [5]), (2, [], [16, 0]), (3, [], [18]), (4, [], [1]), (5, [], [5]), (6, [], [20, 0]), (7, [], [22]), (8, [], [19, 3])] [_, _, _, _, _, _, _, _, _]
      case' hm => exact dr
      case' hn => rfl
      case' hok => rfl
      case' hlen => rfl
      case' hd => rfl
      case' h0 => rfl
      case' hstep =>
       simp only [DAllG, push_cast, Option.isSome_some, Option.isSome_none]
       repeat' apply And.intro
       all_goals (apply DOne_V; simp only [push_cast, Nat.reduceAdd, Nat.reduceSub, Nat.reduceMul, Nat.reduceLT, Nat.reduceLeDiff, Nat.reduceEqDiff, Int.reduceToNat, ↓reduceIte] <;> first | exact rfl | omega | exact ⟨rfl, rfl⟩ | exact trivial | exact ⟨by omega, rfl⟩ | exact ⟨by omega, by omega, rfl⟩ | exact ⟨by omega, rfl, rfl⟩ | exact ⟨by omega, by omega, rfl, rfl⟩ | exact ⟨by omega, rfl⟩ | exact ⟨by omega, trivial⟩ | exact rfl)
      case' hQ => skip
      simp only [push_cast, Nat.reduceAdd, Nat.reduceSub, Nat.reduceMul, Nat.reduceLT, Nat.reduceLeDiff, Nat.reduceEqDiff, Int.reduceToNat, ↓reduceIte]
      refine cI (fun he => ?_) (fun he => ?_)
      · repeat' first | refine ⟨by omega, ?_⟩ | refine cI (fun _ => ?_) (fun _ => ?_)
        refine loopW_n (i + 1) ⟨by omega, ?_⟩ (by omega) (by simp only [push_cast, Nat.reduceAdd, Nat.reduceSub, Nat.reduceMul, Nat.reduceLT, Nat.reduceLeDiff, Nat.reduceEqDiff, Int.reduceToNat, ↓reduceIte])
        have he : a[i] = b[i] := by simpa using he
        rw [List.take_succ_eq_append_getElem hia, List.take_succ_eq_append_getElem hib, hi.2, he]
      · have hne : a ≠ b := fun e => he (by subst e; simp)
        simp [hne]
    · have e := hi.2
      rw [List.take_of_length_le (by omega), List.take_of_length_le (by omega)] at e
      simp [e]
  · have hne : a ≠ b := fun e => hl (by rw [e])
    simp [hne]
end Ab
set_option maxRecDepth 10000
namespace Ab
open Go Go.Proofs
def exA : Term := .mk [97] false []
def exF : Term := .mk [102] false [exA]
def exL1 : List Rank := [⟨[97], 0, 1⟩, ⟨[102], 1, 0⟩]
def exL2 : List Rank := [⟨[97], 1, 1⟩, ⟨[102], 1, 0⟩]
def exS : List Sym := [⟨[97], 0⟩, ⟨[102], 1⟩]
theorem ex_adm : admP exL2 1 exS = (false, 0) := by kernel_rfl
theorem ex_check : wcheckP exL1 1 = 0 := by kernel_rfl
theorem ex_name : isNameP [97] true = true ∧ isNameP [102] true = true := ⟨by kernel_rfl, by kernel_rfl⟩
theorem ex_checkA : checkP exA = 0 := by simp [checkP, exA, formedP_mk, ex_name.1, fitsP, Term.size_mk, Term.depth_mk]
theorem ex_checkF : checkP exF = 0 := by simp [checkP, exF, exA, formedP_mk, ex_name.1, ex_name.2, fitsP, Term.size_mk, Term.depth_mk]
theorem ex_walkA : walkT exA [] = [([], exA)] := by simp [walkT, walkL, exA, Term.args]
theorem ex_walkF : walkT exF [] = [([], exF), ([0], exA)] := by simp [walkT, walkL, exF, exA, Term.args]
theorem ex_syms : symsP [exF, exA] = [⟨[102], 1⟩, ⟨[97], 0⟩] := by
  simp only [symsP, List.foldl_cons, List.foldl_nil, symsT, ex_walkF, ex_walkA]; kernel_rfl
theorem ex_fits : fitsW exL1 1 (symsP [exF, exA]) = true := by rw [ex_syms]; kernel_rfl
theorem ex_above : aboveP exL1 1 exF exA = true := by
  have h1 : coversP exF exA = true := by unfold coversP; rw [ex_walkA, ex_walkF]; kernel_rfl
  have h2 : weightP exL1 1 exA = 1 := by rw [exA, weightP_mk]; kernel_rfl
  have h3 : weightP exL1 1 exF = 1 := by rw [exF, weightP_mk]; simp only [List.map_cons, List.map_nil, h2]; kernel_rfl
  have h4 : (ofP exL1 exF.name).rank = 1 := by kernel_rfl
  have h5 : (ofP exL1 exA.name).rank = 0 := by kernel_rfl
  have h6 : exF.var = false := rfl
  have h7 : exA.var = false := rfl
  have h8 : ¬ exF.name = exA.name := by decide
  simp [aboveP, kboC, h1, h2, h3, h4, h5, h6, h7, h8]
theorem ex_greater : greaterP exL1 1 exF exA = (true, 0) := by
  simp [greaterP, ex_check, firstErr, ex_checkA, ex_checkF, ex_fits, ex_above]
@[reducible] def avA : AV := .agg [.str [97], .bool false, .sl .zero []]
theorem enc_A : encT exA = .agg [.str [97], .bool false, .sl .none []] := by
  have h : encTs exA.args = [] := encTs_nil
  simp only [encT, h]; rfl
theorem enc_F : encT exF = .agg [.str [102], .bool false, .sl .none [.agg [.str [97], .bool false, .sl .none []]]] := by
  have h : encTs exF.args = [encT exA] := encTs_one exA
  simp only [encT, h]; rw [← enc_A]; rfl
theorem fgA : Forget avA (encT exA) := by rw [enc_A]; exact fgtW_spec _ _ (by simp only [push_cast, Nat.reduceAdd, Nat.reduceSub, Nat.reduceMul, Nat.reduceLT, Nat.reduceLeDiff, Nat.reduceEqDiff, Int.reduceToNat, ↓reduceIte])
theorem fgF : Forget (.agg [.str [102], .bool false, .sl .none [avA]]) (encT exF) := by
  rw [enc_F]
  exact Forget.agg3 (Forget.row _ rfl ⟨Forget.refl _, Forget.refl _, Forget.tok _ _, trivial⟩)
theorem exGr_ac (H : List AObj) : ACall Tryz.prog 28 [.sl .none [.agg [.str [97], .int .i64 0, .int .i64 1], .agg [.str [102], .int .i64 1, .int .i64 0]], .int .i64 1, .agg [.str [102], .bool false, .sl .none [avA]], avA] H (fun r H' => r = .tup [.bool true, .int .i64 0] ∧ H' = H) := by
  refine ACall.forget (args' := [.sl .none (encL encR exL1), .int .i64 1, encT exF, encT exA]) ⟨Forget.refl _, Forget.refl _, fgF, fgA, trivial⟩ ?_
  have h := greater_ac exL1 1 exF exA (by decide) (by intro x hx; simp [exL1] at hx; rcases hx with rfl | rfl <;> simp) (by simp [exF, exA, Term.bulk_mk]) H
  rw [ex_greater] at h
  exact h
theorem exAd_ac (H : List AObj) : ACall Tryz.prog 29 [.sl .none [.agg [.str [97], .int .i64 1, .int .i64 1], .agg [.str [102], .int .i64 1, .int .i64 0]], .int .i64 1, .sl .none [.agg [.str [97], .int .i64 0], .agg [.str [102], .int .i64 1]]] H (fun r H' => r = .tup [.bool false, .int .i64 0] ∧ H' = H) := by
  have h := admissible_ac exL2 1 exS (by decide) (by intro x hx; simp [exL2] at hx; rcases hx with rfl | rfl <;> simp) (by decide) (by intro x hx; simp [exS] at hx; rcases hx with rfl | rfl <;> simp) H
  rw [ex_adm] at h
  exact h
theorem alive7_ac (H : List AObj) : ACall Tryz.prog 11 [] H (fun r H' => r = .bool true ∧ H' = H) := by
  refine ACall_V (H.length) 43 [.tmp 0] Tryz.func11 rfl rfl rfl ?_
  simp only [push_cast, Nat.reduceAdd, Nat.reduceSub, Nat.reduceMul, Nat.reduceLT, Nat.reduceLeDiff, Nat.reduceEqDiff, Int.reduceToNat, ↓reduceIte]
  refine (exGr_ac _).to ?_
  simp only [push_cast, Nat.reduceAdd, Nat.reduceSub, Nat.reduceMul, Nat.reduceLT, Nat.reduceLeDiff, Nat.reduceEqDiff, Int.reduceToNat, ↓reduceIte]
  refine (exAd_ac _).to ?_
  simp only [push_cast, Nat.reduceAdd, Nat.reduceSub, Nat.reduceMul, Nat.reduceLT, Nat.reduceLeDiff, Nat.reduceEqDiff, Int.reduceToNat, ↓reduceIte]
  trace_state
end Ab
set_option maxRecDepth 10000
namespace Ab
open Go Go.Proofs
def nmB (N : Nat) : Term → Bool
  | .mk n _ xs => decide (n.length ≤ N) && (xs.map (nmB N)).all id
theorem nmB_mk (N : Nat) (n : List UInt8) (u : Bool) (xs : List Term) : nmB N (.mk n u xs) = (decide (n.length ≤ N) && xs.all (nmB N)) := by rw [nmB, List.all_map]; rfl
theorem nmB_iff (N : Nat) (n : List UInt8) (u : Bool) (xs : List Term) : nmB N (.mk n u xs) = true ↔ n.length ≤ N ∧ ∀ x, x ∈ xs → nmB N x = true := by rw [nmB_mk, Bool.and_eq_true, decide_eq_true_eq, List.all_eq_true]
theorem nm_bulk (N : Nat) (t : Term) : nmB N t = true → t.bulk ≤ t.size * (N + 1) := by
  induction t using Term.ind with | _ n u xs ih
  intro h
  obtain ⟨h1, h2⟩ := (nmB_iff N n u xs).1 h
  rw [Term.bulk_mk, Term.size_mk]
  have key : ∀ ys : List Term, (∀ y, y ∈ ys → y ∈ xs) → (ys.map Term.bulk).sum ≤ (ys.map Term.size).sum * (N + 1) := by
    intro ys
    induction ys with
    | nil => intro _; simp
    | cons y ys ih2 =>
      intro hy
      have a := ih y (hy y (by simp)) (h2 y (hy y (by simp)))
      have b := ih2 (fun z hz => hy z (by simp [hz]))
      simp only [List.map_cons, List.sum_cons, Nat.add_mul]
      omega
  have := key xs (fun y h => h)
  rw [Nat.add_mul]
  omega
def TmB (t : Term) : Prop := t.size ≤ 4000 ∧ nmB 1048576 t = true
theorem TmB.bulk {t : Term} (h : TmB t) : t.bulk ≤ 4194308000 := by
  have h1 := nm_bulk 1048576 t h.2
  have h2 : t.size * (1048576 + 1) ≤ 4000 * (1048576 + 1) := Nat.mul_le_mul h.1 (Nat.le_refl _)
  omega
end Ab
set_option maxRecDepth 10000
namespace Ab
open Go Go.Proofs
theorem fits_sides {l : List Rank} {unit : Int} {rs : List (Term × Term)} (h1 : wcheckP l unit = 0) (h2 : sysP rs = 0) : fitsR l unit (ofL (rT rs)) = fitsW l unit (symS rs) :=
  fitsR_eq l unit (good_of_check h1).2 _ _ (fun f => (mem_symS h2 f).symm)
set_option maxHeartbeats 2000000 in
theorem orientsLaw_ac (l : List Rank) (unit : Int) (rs : List (Term × Term)) (hlen : l.length < 1099511627776) (hnl : ∀ x, x ∈ l → x.name.length < 1099511627776) (hlr : rs.length ≤ 1048576) (hb : BndR rs) (H : List AObj) :
    ACall Tryz.prog 3 [.agg [.sl .none (encL encR l), .int .i64 unit], .sl .none (encL encRu rs)] H (fun r H' => r = .bool true ∧ H' = H) := by
  refine ACall_VA (H.length) 82 [.tmp 4] Tryz.func3 rfl rfl rfl ?_
  refine AW_reserve 1 ?_
  refine AW_of_W ?_
  simp only [push_cast, Nat.reduceAdd, Nat.reduceSub, Nat.reduceMul, Nat.reduceLT, Nat.reduceLeDiff, Nat.reduceEqDiff, Int.reduceToNat, ↓reduceIte]
  refine (orients_ac l unit rs hlen hnl (by omega) hb _).to ?_
  simp only [push_cast, Nat.reduceAdd, Nat.reduceSub, Nat.reduceMul, Nat.reduceLT, Nat.reduceLeDiff, Nat.reduceEqDiff, Int.reduceToNat, ↓reduceIte]
  refine (checkR7_ac l unit hlen hnl _).to ?_
  simp only [push_cast, Nat.reduceAdd, Nat.reduceSub, Nat.reduceMul, Nat.reduceLT, Nat.reduceLeDiff, Nat.reduceEqDiff, Int.reduceToNat, ↓reduceIte]
  refine cI (fun h1 => ?_) (fun h1 => ?_)
  · obtain ⟨hs, hr⟩ := good_of_check h1
    refine (checkSystemR_ac rs (by omega) hb _).to ?_
    simp only [push_cast, Nat.reduceAdd, Nat.reduceSub, Nat.reduceMul, Nat.reduceLT, Nat.reduceLeDiff, Nat.reduceEqDiff, Int.reduceToNat, ↓reduceIte]
    by_cases h2 : sysP rs = 0
    · have d2 : decide (sysP rs = 0) = true := decide_eq_true h2
      have hrz := rules_size (sys_zero h2).1
      have hck := firstErr_sys h2
      have e0 : orientsP l unit rs = if fitsW l unit (symS rs) = false then ([], 10) else (rs.map fun r => aboveP l unit r.1 r.2, 0) := (if_neg (by simpa using h1)).trans (if_neg (by simpa using h2))
      have hsz : ((rT rs).map Term.size).sum ≤ 1099511627775 := by omega
      have hos := ofL_length (rT rs)
      have c1 := fun X => sides_ac rs (by omega) X
      have c2 := fun X => ofR_ac (rT rs) (by rw [rT_len]; omega) (fun x hx => by have := (check_small (hck x hx)).2; omega) hsz X
      have c3 := fun X => admissibleR_ac l unit (ofL (rT rs)) hlen (by omega) X
      rw [fits_sides h1 h2] at c3
      cases hf : fitsW l unit (symS rs) with
      | false =>
        rw [hf] at c3
        have e : orientsP l unit rs = ([], 10) := e0.trans (if_pos hf)
        apply AW_drawE [some 29, some 30, some 31, some 32, some 33, some 34, some 35, some 36, some 37, some 38, some 39, some 40, some 41] [([], _)] [none, none, none, none, none, none, none, none, none, none, none, none, none] 0 [(0, [], [7]), (1, [], [29]), (2, [], [30]), (3, [], [2, 28]), (4, [], [31, 0]), (5, [], [2, 28]), (6, [], [31, 2]), (7, [], [1, 29]), (8, [], [31, 4]), (9, [], [31, 5]), (10, [], [31, 1, 1, 2]), (11, [], [31, 7]), (12, [], [31, 8])] [_, _, _, _, _, _, _, _, _, _, _, _, _]
        case' hm => exact dr
        case' hn => rfl
        case' hok => rfl
        case' hlen => rfl
        case' hd => rfl
        case' h0 => rfl
        case' hstep =>
         simp only [DAllG, push_cast, Option.isSome_some, Option.isSome_none]
         repeat' apply And.intro
         all_goals (apply DOne_V; simp only [push_cast, Nat.reduceAdd, Nat.reduceSub, Nat.reduceMul, Nat.reduceLT, Nat.reduceLeDiff, Nat.reduceEqDiff, Int.reduceToNat, ↓reduceIte, d2] <;> first | exact rfl | omega | exact ⟨rfl, rfl⟩ | exact trivial | exact ⟨by omega, rfl⟩ | exact ⟨by omega, by omega, rfl⟩ | exact ⟨by omega, rfl, rfl⟩ | exact ⟨by omega, by omega, rfl, rfl⟩ | (refine (c1 _).to ?_; exact ⟨rfl, rfl⟩) | (refine (c2 _).to ?_; exact ⟨rfl, rfl⟩) | (refine (c3 _).to ?_; exact ⟨rfl, rfl⟩))
        case' hQ => skip
        simp only [push_cast, Nat.reduceAdd, Nat.reduceSub, Nat.reduceMul, Nat.reduceLT, Nat.reduceLeDiff, Nat.reduceEqDiff, Int.reduceToNat, ↓reduceIte, e, encL_nil]
        refine cI (fun h => absurd h (by decide)) (fun _ => ?_)
        refine (alive7_ac _).to ?_
        simp only [push_cast, Nat.reduceAdd, Nat.reduceSub, Nat.reduceMul, Nat.reduceLT, Nat.reduceLeDiff, Nat.reduceEqDiff, Int.reduceToNat, ↓reduceIte]
      | true =>
        rw [hf] at c3
        have e : orientsP l unit rs = (rs.map fun r => aboveP l unit r.1 r.2, 0) := e0.trans (if_neg (by rw [hf]; simp))
        apply AW_drawE [some 29, some 30, some 31, some 32, some 33, some 34, some 35, some 36, some 37, some 38, some 39, some 40, some 41] [([], _)] [none, none, none, none, none, none, none, none, none, none, none, none, none] 0 [(0, [], [7]), (1, [], [29]), (2, [], [30]), (3, [], [2, 28]), (4, [], [31, 0]), (5, [], [2, 28]), (6, [], [31, 2]), (7, [], [1, 29]), (8, [], [31, 4]), (9, [], [31, 5]), (10, [], [31, 1, 1, 2]), (11, [], [31, 7]), (12, [], [31, 8])] [_, _, _, _, _, _, _, _, _, _, _, _, _]
        case' hm => exact dr
        case' hn => rfl
        case' hok => rfl
        case' hlen => rfl
        case' hd => rfl
        case' h0 => rfl
        case' hstep =>
         simp only [DAllG, push_cast, Option.isSome_some, Option.isSome_none]
         repeat' apply And.intro
         all_goals (apply DOne_V; simp only [push_cast, Nat.reduceAdd, Nat.reduceSub, Nat.reduceMul, Nat.reduceLT, Nat.reduceLeDiff, Nat.reduceEqDiff, Int.reduceToNat, ↓reduceIte, d2] <;> first | exact rfl | omega | exact ⟨rfl, rfl⟩ | exact trivial | exact ⟨by omega, rfl⟩ | exact ⟨by omega, by omega, rfl⟩ | exact ⟨by omega, rfl, rfl⟩ | exact ⟨by omega, by omega, rfl, rfl⟩ | (refine (c1 _).to ?_; exact ⟨rfl, rfl⟩) | (refine (c2 _).to ?_; exact ⟨rfl, rfl⟩) | (refine (c3 _).to ?_; exact ⟨rfl, rfl⟩))
        case' hQ => skip
        obtain ⟨A, hA⟩ : ∃ A : (Term × Term) → Bool, A = fun r => aboveP l unit r.1 r.2 := ⟨_, rfl⟩
        rw [← hA] at e
        simp only [push_cast, Nat.reduceAdd, Nat.reduceSub, Nat.reduceMul, Nat.reduceLT, Nat.reduceLeDiff, Nat.reduceEqDiff, Int.reduceToNat, ↓reduceIte, e, h2]
        refine AW_loopW (maskG 84 [2, 2, 0, 1, 46, 0, 0]) (fun (i : Nat) => [(57, .int .i64 i), (8, gSl H.length (encL AV.bool ((rs.take i).map A)))]) (fun i => H ++ [gTok 4 1 (encL AV.bool ((rs.take i).map A)), .cells [.sl .none (encL encR l), .int .i64 unit]]) (fun i => i ≤ rs.length) (fun i => rs.length - i) 0 (Nat.zero_le _) (by simp only [push_cast, Nat.reduceAdd, Nat.reduceSub, Nat.reduceMul, Nat.reduceLT, Nat.reduceLeDiff, Nat.reduceEqDiff, Int.reduceToNat, ↓reduceIte, List.take_zero, List.map_nil, encL_nil]) (fun i hi => ?_)
        simp only [push_cast, Nat.reduceAdd, Nat.reduceSub, Nat.reduceMul, Nat.reduceLT, Nat.reduceLeDiff, Nat.reduceEqDiff, Int.reduceToNat, ↓reduceIte]
        refine cI (fun h => ?_) (fun h => ?_)
        · have hil : i < rs.length := by omega
          have hbr := hb _ (List.getElem_mem hil)
          have hst : (rs.take i).map A ++ [A (rs[i]'hil)] = (rs.take (i + 1)).map A := by rw [List.take_succ_eq_append_getElem hil, List.map_append]; rfl
          have hca := fun X => greaterR_ac l unit hr hlen (rs[i]'hil).1 (rs[i]'hil).2 hbr.1 hbr.2 X
          rw [show aboveP l unit (rs[i]'hil).1 (rs[i]'hil).2 = A (rs[i]'hil) by rw [hA]] at hca
          refine ⟨hil, ?_⟩
          refine (hca _).to ?_
          simp only [push_cast, Nat.reduceAdd, Nat.reduceSub, Nat.reduceMul, Nat.reduceLT, Nat.reduceLeDiff, Nat.reduceEqDiff, Int.reduceToNat, ↓reduceIte]
          refine app1_L AV.bool (sz := 1) (fun _ => rfl) cellBool _ H.length ((rs.take i).map A) (A (rs[i]'hil)) _ rfl rfl (by exact aget0 _ _ _) sl26 sz4 by4 zr4 rfl (by decide) (by decide) (by rw [List.length_map, List.length_take]; omega) ?_
          rw [hst]
          simp only [push_cast, Nat.reduceAdd, Nat.reduceSub, Nat.reduceMul, Nat.reduceLT, Nat.reduceLeDiff, Nat.reduceEqDiff, Int.reduceToNat, ↓reduceIte]
          repeat' first | refine ⟨by omega, ?_⟩ | refine cI (fun _ => ?_) (fun _ => ?_)
          exact loopW_n (i + 1) (by omega) (by omega) (by simp only [push_cast, Nat.reduceAdd, Nat.reduceSub, Nat.reduceMul, Nat.reduceLT, Nat.reduceLeDiff, Nat.reduceEqDiff, Int.reduceToNat, ↓reduceIte])
        · rw [List.take_of_length_le (show rs.length ≤ i by omega)]
          have hsb := fun X k => ACall.forget (args' := [.sl .none (encL AV.bool (rs.map A)), .sl .none (encL AV.bool (rs.map A))]) (args := [.sl .none (encL AV.bool (rs.map A)), gSl k (encL AV.bool (rs.map A))]) ⟨Forget.refl _, gSl_forget _ _, trivial⟩ (sameBools_ac (rs.map A) (rs.map A) (by rw [List.length_map]; omega) (by rw [List.length_map]; omega) X)
          refine (hsb _ _).to ?_
          simp only [push_cast, Nat.reduceAdd, Nat.reduceSub, Nat.reduceMul, Nat.reduceLT, Nat.reduceLeDiff, Nat.reduceEqDiff, Int.reduceToNat, ↓reduceIte, decide_true]
          refine (alive7_ac _).to ?_
          simp only [push_cast, Nat.reduceAdd, Nat.reduceSub, Nat.reduceMul, Nat.reduceLT, Nat.reduceLeDiff, Nat.reduceEqDiff, Int.reduceToNat, ↓reduceIte]
    · have d2 : decide (sysP rs = 0) = false := decide_eq_false h2
      have e : orientsP l unit rs = ([], sysP rs) := (if_neg (by simpa using h1)).trans (if_pos h2)
      apply AW_drawE [some 29, some 30, some 31, some 32, some 33, some 34, some 35, some 36, some 37, some 38, some 39, some 40, some 41] [([], _)] [none, none, none, none, none, none, none, none, none, none, none, none, none] 0 [(0, [], [7]), (1, [], [29]), (2, [], [30]), (3, [], [2, 28]), (4, [], [31, 0]), (5, [], [2, 28]), (6, [], [31, 2]), (7, [], [1, 29]), (8, [], [31, 4]), (9, [], [31, 5]), (10, [], [31, 1, 1, 2]), (11, [], [31, 7]), (12, [], [31, 8])] [_, _, _, _, _, _, _, _, _, _, _, _, _]
      case' hm => exact dr
      case' hn => rfl
      case' hok => rfl
      case' hlen => rfl
      case' hd => rfl
      case' h0 => rfl
      case' hstep =>
       simp only [DAllG, push_cast, Option.isSome_some, Option.isSome_none]
       repeat' apply And.intro
       all_goals (apply DOne_V; simp only [push_cast, Nat.reduceAdd, Nat.reduceSub, Nat.reduceMul, Nat.reduceLT, Nat.reduceLeDiff, Nat.reduceEqDiff, Int.reduceToNat, ↓reduceIte, d2] <;> first | exact rfl | omega | exact ⟨rfl, rfl⟩ | exact trivial | exact ⟨by omega, rfl⟩ | exact ⟨by omega, by omega, rfl⟩ | exact ⟨by omega, rfl, rfl⟩ | exact ⟨by omega, by omega, rfl, rfl⟩ | skip)
      case' hQ => skip
      simp only [push_cast, Nat.reduceAdd, Nat.reduceSub, Nat.reduceMul, Nat.reduceLT, Nat.reduceLeDiff, Nat.reduceEqDiff, Int.reduceToNat, ↓reduceIte, e, encL_nil, d2]
      refine (alive7_ac _).to ?_
      simp only [push_cast, Nat.reduceAdd, Nat.reduceSub, Nat.reduceMul, Nat.reduceLT, Nat.reduceLeDiff, Nat.reduceEqDiff, Int.reduceToNat, ↓reduceIte]
  · have d1 : decide (wcheckP l unit = 0) = false := decide_eq_false h1
    have e : orientsP l unit rs = ([], wcheckP l unit) := if_pos h1
    apply AW_drawE [some 29, some 30, some 31, some 32, some 33, some 34, some 35, some 36, some 37, some 38, some 39, some 40, some 41] [([], _)] [none, none, none, none, none, none, none, none, none, none, none, none, none] 0 [(0, [], [7]), (1, [], [29]), (2, [], [30]), (3, [], [2, 28]), (4, [], [31, 0]), (5, [], [2, 28]), (6, [], [31, 2]), (7, [], [1, 29]), (8, [], [31, 4]), (9, [], [31, 5]), (10, [], [31, 1, 1, 2]), (11, [], [31, 7]), (12, [], [31, 8])] [_, _, _, _, _, _, _, _, _, _, _, _, _]
    case' hm => exact dr
    case' hn => rfl
    case' hok => rfl
    case' hlen => rfl
    case' hd => rfl
    case' h0 => rfl
    case' hstep =>
     simp only [DAllG, push_cast, Option.isSome_some, Option.isSome_none]
     repeat' apply And.intro
     all_goals (apply DOne_V; simp only [push_cast, Nat.reduceAdd, Nat.reduceSub, Nat.reduceMul, Nat.reduceLT, Nat.reduceLeDiff, Nat.reduceEqDiff, Int.reduceToNat, ↓reduceIte, d1] <;> first | exact rfl | omega | exact ⟨rfl, rfl⟩ | exact trivial | exact ⟨by omega, rfl⟩ | exact ⟨by omega, by omega, rfl⟩ | exact ⟨by omega, rfl, rfl⟩ | exact ⟨by omega, by omega, rfl, rfl⟩ | skip)
    case' hQ => skip
    simp only [push_cast, Nat.reduceAdd, Nat.reduceSub, Nat.reduceMul, Nat.reduceLT, Nat.reduceLeDiff, Nat.reduceEqDiff, Int.reduceToNat, ↓reduceIte, e, encL_nil, d1]
    refine (alive7_ac _).to ?_
    simp only [push_cast, Nat.reduceAdd, Nat.reduceSub, Nat.reduceMul, Nat.reduceLT, Nat.reduceLeDiff, Nat.reduceEqDiff, Int.reduceToNat, ↓reduceIte]
end Ab
set_option maxRecDepth 10000
namespace Go.Proofs.YtohdojbfkcodjaaGreat
open Go Ab
namespace wor
theorem own : ownKnob Tryz.prog.godebug = none := by kernel_rfl
theorem laid : laidOutB Tryz.prog = true := by kernel_rfl
theorem readable : ∀ t, t ∈ Tryz.f3.params.toList → Tryz.prog.readableRec t = true ∧ t < Tryz.prog.types.size := by
  rw [Tryz.params3]; intro t ht
  simp only [List.mem_cons, List.not_mem_nil, or_false] at ht
  rcases ht with rfl | rfl <;> exact ⟨by kernel_rfl, of_decide_eq_true (by kernel_rfl)⟩
theorem closed : closedK Tryz.prog [24, 22, 59, 9, 3, 25, 41, 39, 4, 35] = true := by kernel_rfl
theorem contract (H : Type) (enc : TypeId × Value → H) (W : World) (base : Nat) (args : Array Value) (ds gs : List (DataW H)) (before : List MemPlace)
    (hval : ∀ (j : Nat) t v, Tryz.f3.params[j]? = some t → args[j]? = some v → Value.okWide Tryz.prog W .any base t v)
    (hW : DataW.Whole enc Tryz.prog Tryz.f3.params.toList Rows.weightOrientsSpec.vars false W args.toList ds gs before) (hk : Rows.uptoSmall H (ds ++ gs) = true) :
    Calls Tryz.prog 3 args W fun e W' => ∃ v, e = .returned v ∧ Rows.weightOrientsSpec.post enc Tryz.prog Tryz.f3 false true false false W args v W' := by
  have hW' := hW
  obtain ⟨p, q, hA0, hV, rfl, hfz, hnd⟩ := hW
  have hA : DataW.TrodAll enc Tryz.prog W 0 (fun _ => true) true Tryz.f3.params.toList args.toList ds p := hA0
  rw [Tryz.params3] at hA hval
  obtain ⟨v0, vs0, d0, ds0, p0, q0, hargs, rfl, rfl, h0, r0⟩ := ChangeShapes.trodAll_cons hA
  obtain ⟨v1, vs1, d1, ds1, p1, q1, rfl, rfl, rfl, h1, r1⟩ := ChangeShapes.trodAll_cons r0
  obtain ⟨rfl, rfl, rfl⟩ := ChangeShapes.trodAll_nil r1
  obtain rfl : args = #[v0, v1] := by cases args; simp_all
  have hg : gs = [] := by cases gs with | nil => rfl | cons _ _ => exact hV.elim
  subst hg
  have hb : Rows.uptoBulk d0 + Rows.uptoBulk d1 ≤ 1048576 := by
    have := of_decide_eq_true hk
    simp only [List.cons_append, List.nil_append, List.append_nil, Rows.uptoBulkAll] at this
    omega
  obtain ⟨n0, a0, e0, x0⟩ := arg_struct closed (by decide) Tryz.underlying24 (hval 0 _ v0 rfl rfl) h0
  obtain ⟨n1, a1, e1, x1⟩ := arg_slice closed (by decide) Tryz.underlying25 (hval 1 _ v1 rfl rfl) h1
  obtain ⟨l, unit, f0, b0, c0⟩ := order_form n0 d0 a0 e0
  obtain ⟨rs, f1, b1, c1⟩ := rules_form n1 d1 [a1] e1
  try simp only [List.cons.injEq, and_true] at f1
  rw [f0] at x0; rw [f1] at x1
  have hc := law_calls (args := #[v0, v1]) (avs := [.agg [.sl .none (encL encR l), .int .i64 unit], .sl .none (encL encRu rs)]) (W := W) (orientsLaw_ac l unit rs (by omega) (fun x hx => by have := c0 x hx; omega) (by omega) (fun r hr => by have := c1 r hr; omega) []) (fun h => by simp [tabOn] at h) rfl (fun i hi hi' => by
    match i, hi with
    | 0, _ => exact x0
    | 1, _ => exact x1)
  refine hc.mono fun e W' ⟨he, hbl⟩ => ?_
  subst he
  exact ⟨_, rfl, post_law rfl ⟨rfl, rfl, rfl⟩ hW' hbl rfl Tryz.underlying4 laid readable⟩
set_option maxRecDepth 100000 in
theorem lifted (os : Os) (started : os.Started) (H : Type) (enc : TypeId × Value → H) (F : Stop.Interp) :
    ReturnsInHanded {} Tryz.checked os 3 .any ((Rows.OpenSpec.upto Rows.weightOrientsSpec).pre6 enc Tryz.prog Tryz.f3 Rows.weightOrientsUptoRow.domain false) (((Rows.OpenSpec.upto Rows.weightOrientsSpec).at F).post enc Tryz.prog Tryz.f3 false true false false) := by
  refine returnsInHanded_of_cond (C := Tryz.checked) (s := Rows.OpenSpec.upto Rows.weightOrientsSpec) (k := Rows.uptoSmall) rfl own started (by kernel_rfl) Tryz.func3
    (OpenSpec.witness (enc := enc) (C := Tryz.checked) (s := Rows.OpenSpec.upto Rows.weightOrientsSpec) (k := Rows.uptoSmall) rfl false
      ⟨#[], #[.agg #[.slice none 0 0, .int .i64 0], .slice none 0 0], []⟩ 8 (by kernel_rfl) (by kernel_rfl) (by kernel_rfl)
      (x := ([.agg [.nil, .lit (.int .i64 0)], .nil], [], [])) (by kernel_rfl) rfl (by kernel_rfl)) ?_
  intro W base args ds gs before hval hW _ hk _
  exact contract H enc W base args ds gs before hval hW hk
theorem over : Rows.weightOrientsUptoRow.holds Tryz.pinned (Rows.OpenSpec.upto Rows.weightOrientsSpec) :=
  OpenClaim.holds_of_cond 3 Tryz.f3 rfl rfl rfl rfl rfl rfl rfl ⟨rfl, rfl, rfl, rfl, rfl⟩ rfl rfl rfl rfl rfl (by kernel_rfl) Tryz.func3 (by kernel_rfl)
    (of_decide_eq_true (by kernel_rfl)) (by unfold Func.isWrapper; first | (rw [if_pos (by decide +kernel)]; kernel_rfl) | (rw [if_neg (by decide +kernel)]; exact ⟨rfl, rfl⟩))
    (fun os started H enc _ F => lifted os started H enc F)
end wor
theorem weightOrients_upto : Rows.WeightOrientsUptoSaid := wor.over
end Go.Proofs.YtohdojbfkcodjaaGreat
