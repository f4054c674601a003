/- Part 4 of 4 of a proof. The law TermSystems, walked region by region and joined to the card. -/
import Derived.Test.YtakpnikkcinckaaGreatDoorGs3
import Derived.Shelf.SlSortCmp.WholeK
import Derived.Shelf.SlSortCmp.NoneTotal
import Derived.Shelf.Small.Strs
import Derived.Test.YtakpnikkcinckaaGreatDoorProg
import Derived.Test.YtakpnikkcinckaaGreatDoorCards
import Derived.Test.YtakpnikkcinckaaGreatDoorTie
import Derived.Deep.DeepHandedRow
import Derived.Lib.LaidTab
set_option linter.unusedVariables false
set_option linter.unusedSimpArgs false
set_option maxRecDepth 10000
namespace Ab
open Go Go.Proofs
def addV (q : Nat × List (List UInt8)) (s : Term) : Nat × List (List UInt8) := if s.var then (q.1 + 1, if s.name ∈ q.2 then q.2 else q.2 ++ [s.name]) else q
def seenI (q : Nat × List (List UInt8)) (items : List (List Int × Term)) : Nat × List (List UInt8) := items.foldl (fun q x => addV q x.2) q
def seenT (q : Nat × List (List UInt8)) (ts : List Term) : Nat × List (List UInt8) := ts.foldl (fun q t => seenI q (walkT t [])) q
theorem seenI_nil (q : Nat × List (List UInt8)) : seenI q [] = q := (rfl)
theorem seenI_snoc (q : Nat × List (List UInt8)) (pre : List (List Int × Term)) (x : List Int × Term) : seenI q (pre ++ [x]) = addV (seenI q pre) x.2 := by simp [seenI]
theorem seenT_nil (q : Nat × List (List UInt8)) : seenT q [] = q := (rfl)
theorem seenT_take (q : Nat × List (List UInt8)) (ts : List Term) (i : Nat) (h : i < ts.length) : seenT q (ts.take (i + 1)) = seenI (seenT q (ts.take i)) (walkT ts[i] []) := by
  unfold seenT; rw [List.take_succ_eq_append_getElem h, List.foldl_append]; rfl
theorem addV_t (q : Nat × List (List UInt8)) (s : Term) (h : s.var = true) : addV q s = (q.1 + 1, if s.name ∈ q.2 then q.2 else q.2 ++ [s.name]) := if_pos h
theorem addV_f (q : Nat × List (List UInt8)) (s : Term) (h : ¬ s.var = true) : addV q s = q := if_neg h
def tm (ks : List (List UInt8)) : List (List UInt8 × Bool) := ks.map fun k => (k, true)
def tA (ks : List (List UInt8)) : List (AV × AV) := ks.map fun k => (AV.str k, AV.bool true)
theorem tA_eq (ks : List (List UInt8)) : amap AV.str AV.bool (tm ks) = tA ks := by simp [amap, tm, tA]
theorem tA_nil : tA [] = [] := (rfl)
theorem tA_len (ks : List (List UInt8)) : (tA ks).length = ks.length := by simp [tA]
theorem tm_set (v : List UInt8) : ∀ ks, aset (tm ks) v true = tm (if v ∈ ks then ks else ks ++ [v])
  | [] => by simp [tm, aset]
  | k :: ks => by
    have ih := tm_set v ks
    have e : tm (k :: ks) = (k, true) :: tm ks := rfl
    rw [e, aset]
    by_cases h : k = v
    · subst h; simp [tm]
    · have h' : ¬ v = k := fun e => h e.symm
      simp only [h, if_false, List.mem_cons, h', false_or]
      rw [ih]
      split <;> simp [tm]
def lA (o : Option (List UInt8)) : Option (AV × AV) := o.map fun k => (AV.str k, AV.bool true)
theorem osc_tA (n ver : Nat) (ks : List (List UInt8)) : OScoped n (.map ver (tA ks)) = True := by
  refine eq_true ?_
  intro e he
  simp only [tA, List.mem_map] at he
  obtain ⟨k, _, rfl⟩ := he
  exact ⟨trivial, trivial⟩
theorem osc_it (n m ver : Nat) (ks : List (List UInt8)) (o : Option (List UInt8)) (h : m < n) : OScoped n (.iter m ver (tA ks) (lA o)) = True := by
  refine eq_true ⟨h, ?_⟩
  rintro e (he | he)
  · simp only [tA, List.mem_map] at he
    obtain ⟨k, _, rfl⟩ := he
    exact ⟨trivial, trivial⟩
  · cases o with
    | none => cases he
    | some k => simp only [lA, Option.map_some, Option.some.injEq] at he; subst he; exact ⟨trivial, trivial⟩
theorem osc_m0 (n ver : Nat) : OScoped n (.map ver []) = True := eq_true (fun e he => by cases he)
theorem osc_itn (n m ver : Nat) (ks : List (List UInt8)) (h : m < n) : OScoped n (.iter m ver (tA ks) none) = True := osc_it n m ver ks none h
theorem lA_n : lA none = none := (rfl)
theorem lA_s (k : List UInt8) : lA (some k) = some (AV.str k, AV.bool true) := (rfl)
theorem osc_its (n m ver : Nat) (ks : List (List UInt8)) (k : List UInt8) (h : m < n) : OScoped n (.iter m ver (tA ks) (some (.str k, .bool true))) = True := osc_it n m ver ks (some k) h
theorem scflN (n : Nat) (l : List (List UInt8)) : ScopedL n (flat (encL AV.str l)) = True := by rw [show flat (encL AV.str l) = encN l from flat_encN l]; exact scN_ n l
attribute [push_cast] osc_tA osc_it osc_itn osc_its osc_m0 scflN
theorem erase_map {α β : Type} (f : α → β) : ∀ (l : List α) (j : Nat), (l.map f).eraseIdx j = (l.eraseIdx j).map f
  | [], _ => by simp
  | a :: l, 0 => by simp
  | a :: l, j + 1 => by simp [erase_map f l j]
theorem grS_len (k : Nat) {xs ys : List AV} (h : xs.length = ys.length) : grS k xs = grS k ys := by
  cases xs <;> cases ys <;> simp [grS] at h ⊢ <;> omega
theorem varsOf_ac (ts : List Term) (hlen : ts.length < 1099511627776) (hb : ∀ t, t ∈ ts → t.bulk ≤ 1099511627775) (hk : (seenT (0, []) ts).2.length < 1099511627775) (H : List AObj) :
    ACall Tryz.prog 39 [.sl .none (encTs ts)] H (fun r H' => r = .sl .none (encN (sortS (seenT (0, []) ts).2)) ∧ H' = H) := by
  refine ACall_VGA (H.length) 39 [.tmp 2] Tryz.func39 rfl rfl rfl ?_
  refine AW_seq (AW_of_W ?_)
  simp only [push_cast, Nat.reduceAdd, Nat.reduceSub, Nat.reduceMul, Nat.reduceLT, Nat.reduceLeDiff, Nat.reduceEqDiff, Int.reduceToNat, ↓reduceIte]
  refine AW_seq (AW_of_W ?_)
  simp only [push_cast, Nat.reduceAdd, Nat.reduceSub, Nat.reduceMul, Nat.reduceLT, Nat.reduceLeDiff, Nat.reduceEqDiff, Int.reduceToNat, ↓reduceIte]
  refine AW_reserve 1 ?_
  refine AW_of_W ?_
  simp only [push_cast, Nat.reduceAdd, Nat.reduceSub, Nat.reduceMul, Nat.reduceLT, Nat.reduceLeDiff, Nat.reduceEqDiff, Int.reduceToNat, ↓reduceIte]
  refine AW_loopW (maskG 40 [3, 7, 0, 0, 6]) (fun (i : Nat) => [(13, .int .i64 i)]) (fun i => H ++ [.map (seenT (0, []) (ts.take i)).1 (tA (seenT (0, []) (ts.take i)).2), .cells [.map H.length], .dead]) (fun i => i ≤ ts.length) (fun i => ts.length - i) 0 (Nat.zero_le _) (by simp only [push_cast, Nat.reduceAdd, Nat.reduceSub, Nat.reduceMul, Nat.reduceLT, Nat.reduceLeDiff, Nat.reduceEqDiff, Int.reduceToNat, ↓reduceIte, List.take_zero, seenT_nil, tA_nil]) (fun i hi => ?_)
  simp only [push_cast, Nat.reduceAdd, Nat.reduceSub, Nat.reduceMul, Nat.reduceLT, Nat.reduceLeDiff, Nat.reduceEqDiff, Int.reduceToNat, ↓reduceIte]
  refine cI (fun h => ?_) (fun h => ?_)
  · repeat refine ⟨by omega, ?_⟩
    have hil : i < ts.length := by omega
    refine (walkF_ac (ts[i]'hil) _).to ?_
    simp only [push_cast, Nat.reduceAdd, Nat.reduceSub, Nat.reduceMul, Nat.reduceLT, Nat.reduceLeDiff, Nat.reduceEqDiff, Int.reduceToNat, ↓reduceIte]
    obtain ⟨q0, hq0⟩ : ∃ q0, q0 = seenT (0, []) (ts.take i) := ⟨_, rfl⟩
    have hst := seenT_take (0, []) ts i hil
    rw [← hq0] at hst ⊢
    obtain ⟨t, ht⟩ : ∃ t, t = ts[i]'hil := ⟨_, rfl⟩
    have hbt : t.bulk ≤ 1099511627775 := by rw [ht]; exact hb _ (List.getElem_mem hil)
    rw [← ht] at hst ⊢
    refine AW_iterW _ _ (walk_iter t hbt _) H (fun pre => [.map (seenI q0 pre).1 (tA (seenI q0 pre).2), .cells [.map H.length], .dead, .cells [.str t.name, .bool t.var, .sl .none (encTs t.args)], .cells [.str t.name, .bool t.var, .sl .none (encTs t.args)]]) 5 (fun _ _ => none) rfl ok53 (by simp only [push_cast, Nat.reduceAdd, Nat.reduceSub, Nat.reduceMul, Nat.reduceLT, Nat.reduceLeDiff, Nat.reduceEqDiff, Int.reduceToNat, ↓reduceIte, seenI_nil]) (fun _ => rfl) (fun lp => by simp only [push_cast, Nat.reduceAdd, Nat.reduceSub, Nat.reduceMul, Nat.reduceLT, Nat.reduceLeDiff, Nat.reduceEqDiff, Int.reduceToNat, ↓reduceIte]) (fun p => by simp only [push_cast, Nat.reduceAdd, Nat.reduceSub, Nat.reduceMul, Nat.reduceLT, Nat.reduceLeDiff, Nat.reduceEqDiff, Int.reduceToNat, ↓reduceIte]) (fun _ => rfl) (fun pre x suf X l lp lp' he hn => ?_) (fun _ lp => ?_) (fun pre x suf c lp _ _ h => by cases h)
    · simp only [push_cast, Nat.reduceAdd, Nat.reduceSub, Nat.reduceMul, Nat.reduceLT, Nat.reduceLeDiff, Nat.reduceEqDiff, Int.reduceToNat, ↓reduceIte, List.drop_length]
      refine cI (fun hv => ?_) (fun hv => ?_)
      · refine AOp_mapUpdate (strKey un9) AV.bool (tm (seenI q0 pre).2) H.length (seenI q0 pre).1 x.2.name true rfl (by rw [tA_eq]; exact aget0 _ _ _) rfl rfl un96 ?_
        rw [tm_set, tA_eq]
        simp only [push_cast, Nat.reduceAdd, Nat.reduceSub, Nat.reduceMul, Nat.reduceLT, Nat.reduceLeDiff, Nat.reduceEqDiff, Int.reduceToNat, ↓reduceIte, seenI_snoc, addV_t _ _ hv]
      · simp only [push_cast, Nat.reduceAdd, Nat.reduceSub, Nat.reduceMul, Nat.reduceLT, Nat.reduceLeDiff, Nat.reduceEqDiff, Int.reduceToNat, ↓reduceIte, seenI_snoc, addV_f _ _ hv]
    · simp only [push_cast, Nat.reduceAdd, Nat.reduceSub, Nat.reduceMul, Nat.reduceLT, Nat.reduceLeDiff, Nat.reduceEqDiff, Int.reduceToNat, ↓reduceIte]
      repeat' first | refine ⟨by omega, ?_⟩ | refine cI (fun _ => ?_) (fun _ => ?_)
      refine loopW_n (i + 1) (by omega) (by omega) ?_
      rw [hst]
      simp only [push_cast, Nat.reduceAdd, Nat.reduceSub, Nat.reduceMul, Nat.reduceLT, Nat.reduceLeDiff, Nat.reduceEqDiff, Int.reduceToNat, ↓reduceIte]
  · obtain ⟨q, hq⟩ : ∃ q, q = seenT (0, []) ts := ⟨_, rfl⟩
    rw [List.take_of_length_le (show ts.length ≤ i by omega), ← hq]
    rw [← hq] at hk
    refine AOp_range_map H.length q.1 (tA q.2) rfl (by exact aget0 _ _ _) un96 ?_
    simp only [push_cast, Nat.reduceAdd, Nat.reduceSub, Nat.reduceMul, Nat.reduceLT, Nat.reduceLeDiff, Nat.reduceEqDiff, Int.reduceToNat, ↓reduceIte]
    refine AW_loopW (maskG 40 [8, 19]) (fun (p : List (List UInt8) × List (List UInt8) × Option (List UInt8)) => [(8, grS (H.length + 2) (encN p.1))]) (fun p => H ++ [.map q.1 (tA q.2), .cells [.map H.length], grO 9 1 (encN p.1), .iter H.length q.1 (tA p.2.1) (lA p.2.2)]) (fun p => (p.1 ++ p.2.1).Perm q.2) (fun p => p.2.1.length) ([], q.2, none) (List.Perm.refl _) (by simp only [push_cast, Nat.reduceAdd, Nat.reduceSub, Nat.reduceMul, Nat.reduceLT, Nat.reduceLeDiff, Nat.reduceEqDiff, Int.reduceToNat, ↓reduceIte, lA_n, encL_nil]) (fun p hp => ?_)
    obtain ⟨xs, left, last⟩ := p
    simp only at hp
    have hxl := hp.length_eq
    rw [List.length_append] at hxl
    simp only [push_cast, Nat.reduceAdd, Nat.reduceSub, Nat.reduceMul, Nat.reduceLT, Nat.reduceLeDiff, Nat.reduceEqDiff, Int.reduceToNat, ↓reduceIte]
    refine AOp_next_map (H.length + 3) H.length q.1 (tA q.2) (tA left) (lA last) rfl (by exact (agetN _ _ 3).trans rfl) (by exact aget0 _ _ _) (fun he => ?_) (fun j hj => ?_)
    · have hl0 : left = [] := by cases left with | nil => rfl | cons a l => simp [tA] at he
      subst hl0
      rw [List.append_nil] at hp
      simp only [push_cast, Nat.reduceAdd, Nat.reduceSub, Nat.reduceMul, Nat.reduceLT, Nat.reduceLeDiff, Nat.reduceEqDiff, Int.reduceToNat, ↓reduceIte]
      refine (sort_ac (H.length + 2) xs (by simp at hxl; omega) _ (by exact (agetN _ _ 2).trans rfl)).to ?_
      simp only [push_cast, Nat.reduceAdd, Nat.reduceSub, Nat.reduceMul, Nat.reduceLT, Nat.reduceLeDiff, Nat.reduceEqDiff, Int.reduceToNat, ↓reduceIte]
      have hls := sortS_len xs
      rw [← sortS_perm hp, grS_len (H.length + 2) (show (encN xs).length = (encN (sortS xs)).length by rw [encL_length, encL_length]; omega)]
      exact .row (H.length + 2) 9 1 (by exact (agetN _ _ 2).trans rfl) (by rw [flat_encN, Nat.mul_one]) (by omega) (by rw [flat_encN]; exact of_eq_true (scN_ _ _))
    · have hjl : j < left.length := by rw [tA_len] at hj; exact hj
      have e1 : (tA left)[j] = (.str left[j], .bool true) := by simp [tA]
      have e2 : (tA left).eraseIdx j = tA (left.eraseIdx j) := by simp only [tA, erase_map]
      rw [e1, e2]
      simp only [push_cast, Nat.reduceAdd, Nat.reduceSub, Nat.reduceMul, Nat.reduceLT, Nat.reduceLeDiff, Nat.reduceEqDiff, Int.reduceToNat, ↓reduceIte]
      refine AOp_entry_map (H.length + 3) H.length q.1 (tA q.2) (tA (left.eraseIdx j)) (.str left[j], .bool true) rfl (by exact (agetN _ _ 3).trans rfl) (by exact aget0 _ _ _) ?_
      simp only [push_cast, Nat.reduceAdd, Nat.reduceSub, Nat.reduceMul, Nat.reduceLT, Nat.reduceLeDiff, Nat.reduceEqDiff, Int.reduceToNat, ↓reduceIte]
      refine AOp_append_Gr _ (H.length + 2) (encN xs) (encN [left[j]]) _ rfl rfl (by exact (agetN _ _ 2).trans rfl) sl62 sz9 by9 zr9 rfl (by decide) (of_eq_true (uniN _)) (of_eq_true (uniN _)) (by rw [flat_encN]; intro c hc; simp [encN, encL] at hc; subst hc; rfl) (by rw [encL_length, encL_length]; simp at hxl ⊢; omega) (by rw [encL_length, encL_length]; simp at hxl ⊢; omega) ?_
      rw [← encL_append]
      simp only [push_cast, Nat.reduceAdd, Nat.reduceSub, Nat.reduceMul, Nat.reduceLT, Nat.reduceLeDiff, Nat.reduceEqDiff, Int.reduceToNat, ↓reduceIte]
      refine loopW_n (xs ++ [left[j]], left.eraseIdx j, some left[j]) ?_ (by simp only [List.length_eraseIdx]; split <;> omega) (by simp only [push_cast, Nat.reduceAdd, Nat.reduceSub, Nat.reduceMul, Nat.reduceLT, Nat.reduceLeDiff, Nat.reduceEqDiff, Int.reduceToNat, ↓reduceIte, lA_s])
      refine List.Perm.trans ?_ hp
      rw [List.append_assoc]
      refine List.Perm.append_left xs ?_
      rw [List.eraseIdx_eq_take_drop_succ]
      refine (List.perm_middle (l₁ := left.take j) (l₂ := left.drop (j + 1)) (a := left[j])).symm.trans ?_
      rw [← List.drop_eq_getElem_cons hjl, List.take_append_drop]
end Ab
namespace Ab
open Go Go.Proofs
def oneP (v n : List UInt8) (u : Bool) : Int := if u = true ∧ n = v then 1 else 0
def countP (v : List UInt8) : Term → Int
  | .mk n u xs => oneP v n u + (xs.map (countP v)).sum
theorem countP_mk (v n : List UInt8) (u : Bool) (xs : List Term) : countP v (.mk n u xs) = oneP v n u + (xs.map (countP v)).sum := by simp [countP]
theorem count_bnd (v : List UInt8) (t : Term) : 0 ≤ countP v t ∧ countP v t ≤ t.size := by
  induction t using Term.ind with | _ n u xs ih
  rw [countP_mk, Term.size_mk]
  have : ∀ ys : List Term, (∀ y, y ∈ ys → y ∈ xs) → 0 ≤ (ys.map (countP v)).sum ∧ (ys.map (countP v)).sum ≤ ((ys.map Term.size).sum : Nat) := by
    intro ys
    induction ys with
    | nil => intro _; simp
    | cons y ys ih2 =>
      intro hy
      have h1 := ih y (hy y (by simp))
      have h2 := ih2 (fun z hz => hy z (by simp [hz]))
      simp only [List.map_cons, List.sum_cons]; omega
  have := this xs (fun y hy => hy)
  unfold oneP
  split <;> omega
theorem countP_bound (v : List UInt8) (t : Term) : 0 ≤ countP v t ∧ countP v t ≤ t.size := count_bnd v t
theorem counts_bound (v : List UInt8) : ∀ xs : List Term, 0 ≤ (xs.map (countP v)).sum ∧ (xs.map (countP v)).sum ≤ ((xs.map Term.size).sum : Nat)
  | [] => by simp
  | x :: l => by
    have h1 := counts_bound v l
    have h2 := countP_bound v x
    simp only [List.map_cons, List.sum_cons]; omega
def collectP : Term → List (List UInt8) → List (List UInt8)
  | .mk n u xs, l => (xs.map collectP).foldl (fun l f => f l) (if u then insertP l n else l)
theorem collectP_mk (n : List UInt8) (u : Bool) (xs : List Term) (l : List (List UInt8)) : collectP (.mk n u xs) l = xs.foldl (fun l t => collectP t l) (if u then insertP l n else l) := by simp [collectP, List.foldl_map]
def varsP (ts : List Term) : List (List UInt8) := ts.foldl (fun l t => collectP t l) []
theorem mem_collectP (v : List UInt8) (t : Term) : ∀ l, v ∈ collectP t l ↔ v ∈ l ∨ 0 < countP v t := by
  refine Term.ind (p := fun t => ∀ l, v ∈ collectP t l ↔ v ∈ l ∨ 0 < countP v t) (fun n u xs ih => ?_) t
  intro l
  rw [collectP_mk, countP_mk]
  have : ∀ (ys : List Term) (m : List (List UInt8)), (∀ y, y ∈ ys → y ∈ xs) → (v ∈ ys.foldl (fun l t => collectP t l) m ↔ v ∈ m ∨ 0 < (ys.map (countP v)).sum) := by
    intro ys
    induction ys with
    | nil => intro m _; simp
    | cons y ys ih2 =>
      intro m hm
      have h1 := countP_bound v y
      have h2 := counts_bound v ys
      simp only [List.foldl_cons, List.map_cons, List.sum_cons]
      rw [ih2 (collectP y m) (fun z hz => hm z (by simp [hz])), ih y (hm y (by simp)) m]
      constructor
      · rintro ((h | h) | h)
        · exact .inl h
        · right; omega
        · right; omega
      · rintro (h | h)
        · exact .inl (.inl h)
        · by_cases h3 : 0 < countP v y
          · exact .inl (.inr h3)
          · right; omega
  rw [this xs _ (fun y hy => hy)]
  have hb := counts_bound v xs
  cases u with
  | false => simp [oneP]
  | true =>
    simp only [if_true, mem_insertP, true_and, oneP]
    by_cases hn : n = v
    · simp [hn]; omega
    · have hn' : ¬ v = n := fun e => hn e.symm
      simp [hn, hn']
theorem collectP_length (t : Term) : ∀ l, (collectP t l).length ≤ l.length + t.size := by
  refine Term.ind (p := fun t => ∀ l, (collectP t l).length ≤ l.length + t.size) (fun n u xs ih => ?_) t
  intro l
  rw [collectP_mk, Term.size_mk]
  have h0 : (if u then insertP l n else l).length ≤ l.length + 1 := by split; exact insertP_length l n; omega
  generalize (if u then insertP l n else l) = m at h0
  have : ∀ (ys : List Term) (m : List (List UInt8)), (∀ y, y ∈ ys → y ∈ xs) → (ys.foldl (fun l t => collectP t l) m).length ≤ m.length + (ys.map Term.size).sum := by
    intro ys
    induction ys with
    | nil => intro m _; simp
    | cons y ys ih2 =>
      intro m hm
      have h1 := ih2 (collectP y m) (fun z hz => hm z (by simp [hz]))
      have h2 := ih y (hm y (by simp)) m
      simp only [List.foldl_cons, List.map_cons, List.sum_cons]; omega
  have := this xs m (fun y hy => hy)
  omega
theorem count_len (v : List UInt8) (t : Term) : 0 < countP v t → v.length ≤ t.bulk := by
  refine Term.ind (p := fun t => 0 < countP v t → v.length ≤ t.bulk) (fun n u xs ih => ?_) t
  intro h
  rw [countP_mk] at h
  by_cases hn : u = true ∧ n = v
  · rw [Term.bulk_mk, hn.2]; omega
  · have h1 : oneP v n u = 0 := by simp [oneP, hn]
    have h2 : ∃ x, x ∈ xs ∧ 0 < countP v x := by
      have : ∀ ys : List Term, 0 < (ys.map (countP v)).sum → ∃ x, x ∈ ys ∧ 0 < countP v x := by
        intro ys
        induction ys with
        | nil => intro h; simp at h
        | cons y ys ih2 =>
          intro h
          by_cases hy : 0 < countP v y
          · exact ⟨y, by simp, hy⟩
          · obtain ⟨x, hx, hx2⟩ := ih2 (by simp at h; omega)
            exact ⟨x, by simp [hx], hx2⟩
      exact this xs (by omega)
    obtain ⟨x, hx, hx2⟩ := h2
    have := ih x hx hx2
    have := Term.arg_le (n := n) (v := u) hx
    omega
theorem collect_names {t : Term} {l : List (List UInt8)} (hb : t.bulk ≤ 1099511627775) (h : ∀ x, x ∈ l → x.length < 1099511627776) : ∀ x, x ∈ collectP t l → x.length < 1099511627776 := by
  intro x hx
  rcases (mem_collectP x t l).1 hx with h1 | h1
  · exact h x h1
  · have := count_len x t h1; omega
def foldC (xs : List Term) (l : List (List UInt8)) : List (List UInt8) := xs.foldl (fun l t => collectP t l) l
theorem foldC_take (xs : List Term) (l : List (List UInt8)) (i : Nat) (h : i < xs.length) : foldC (xs.take (i + 1)) l = collectP xs[i] (foldC (xs.take i) l) := by
  unfold foldC; rw [List.take_succ_eq_append_getElem h, List.foldl_append]; rfl
theorem foldC_names : ∀ (xs : List Term) (l : List (List UInt8)), (∀ x, x ∈ xs → x.bulk ≤ 1099511627775) → (∀ x, x ∈ l → x.length < 1099511627776) → ∀ x, x ∈ foldC xs l → x.length < 1099511627776
  | [], l, _, h => h
  | y :: ys, l, hb, h => foldC_names ys (collectP y l) (fun x hx => hb x (by simp [hx])) (collect_names (hb y (by simp)) h)
theorem foldC_length : ∀ (xs : List Term) (l : List (List UInt8)), (foldC xs l).length ≤ l.length + (xs.map Term.size).sum
  | [], l => by simp [foldC]
  | y :: ys, l => by
    have h1 := foldC_length ys (collectP y l)
    have h2 := collectP_length y l
    have : foldC (y :: ys) l = foldC ys (collectP y l) := rfl
    rw [this]; simp only [List.map_cons, List.sum_cons]; omega
theorem collectP_fold (n : List UInt8) (u : Bool) (xs : List Term) (l : List (List UInt8)) : collectP (.mk n u xs) l = foldC xs (if u then insertP l n else l) := by rw [collectP_mk]; rfl
theorem cb_cons (a b : UInt8) (x y : List UInt8) : Lib.compareBytes (a :: x) (b :: y) = if a < b then -1 else if b < a then 1 else Lib.compareBytes x y := by rw [Lib.compareBytes]
theorem cb_trans : ∀ (x y z : List UInt8), Lib.compareBytes x y < 0 → Lib.compareBytes y z < 0 → Lib.compareBytes x z < 0
  | [], [], _, h, _ => by simp [Lib.compareBytes] at h
  | [], _ :: _, [], _, h => by simp [Lib.compareBytes] at h
  | [], _ :: _, _ :: _, _, _ => by simp [Lib.compareBytes]
  | _ :: _, [], _, h, _ => by simp [Lib.compareBytes] at h
  | _ :: _, _ :: _, [], _, h => by simp [Lib.compareBytes] at h
  | a :: x, b :: y, c :: z, h1, h2 => by
    rw [cb_cons] at h1 h2 ⊢
    simp only [UInt8.lt_iff_toNat_lt] at h1 h2 ⊢
    split at h1
    · split at h2
      · rw [if_pos (by omega)]; decide
      · split at h2
        · exact absurd h2 (by decide)
        · rw [if_pos (by omega)]; decide
    · split at h1
      · exact absurd h1 (by decide)
      · split at h2
        · rw [if_pos (by omega)]; decide
        · split at h2
          · exact absurd h2 (by decide)
          · rw [if_neg (by omega), if_neg (by omega)]; exact cb_trans x y z h1 h2
theorem cb_tot : ∀ (x y : List UInt8), ¬ Lib.compareBytes x y < 0 → x ≠ y → Lib.compareBytes y x < 0
  | [], [], _, h => absurd rfl h
  | [], _ :: _, h, _ => by simp [Lib.compareBytes] at h
  | _ :: _, [], _, _ => by simp [Lib.compareBytes]
  | a :: x, b :: y, h, hne => by
    rw [cb_cons] at h ⊢
    split at h
    · exact absurd (by decide) h
    · rename_i h1
      split at h
      · rename_i h2; rw [if_pos h2]; decide
      · rename_i h2
        rw [if_neg h2, if_neg h1]
        have hab : a = b := by rw [UInt8.lt_iff_toNat_lt] at h1 h2; exact UInt8.toNat_inj.1 (by omega)
        exact cb_tot x y h (fun e => hne (by rw [hab, e]))
theorem cb_le : ∀ (x y : List UInt8), Lib.compareBytes x y < 0 → x ≤ y
  | [], _, _ => List.nil_le _
  | _ :: _, [], h => by simp [Lib.compareBytes] at h
  | a :: x, b :: y, h => by
    rw [cb_cons] at h
    rw [List.cons_le_cons_iff]
    split at h
    · rename_i h1; exact .inl h1
    · rename_i h1
      split at h
      · exact absurd h (by decide)
      · rename_i h2
        have hab : a = b := by rw [UInt8.lt_iff_toNat_lt] at h1 h2; exact UInt8.toNat_inj.1 (by omega)
        exact .inr ⟨hab, cb_le x y h⟩
def SortedN (l : List (List UInt8)) : Prop := l.Pairwise fun a b => Lib.compareBytes a b < 0
theorem takeW_all {α : Type} (p : α → Bool) : ∀ (l : List α) x, x ∈ l.take (l.takeWhile p).length → p x = true
  | [], x, h => by simp at h
  | a :: l, x, h => by
    rw [List.takeWhile_cons] at h
    split at h
    · rename_i ha
      simp only [List.length_cons, List.take_succ_cons, List.mem_cons] at h
      rcases h with rfl | h
      · exact ha
      · exact takeW_all p l x h
    · simp at h
theorem takeW_next {α : Type} (p : α → Bool) : ∀ (l : List α) a r, l.drop (l.takeWhile p).length = a :: r → p a = false
  | [], a, r, h => by simp at h
  | b :: l, a, r, h => by
    rw [List.takeWhile_cons] at h
    split at h
    · simp only [List.length_cons, List.drop_succ_cons] at h; exact takeW_next p l a r h
    · rename_i hb
      simp only [List.length_nil, List.drop_zero, List.cons.injEq] at h
      rw [← h.1]; simpa using hb
theorem insertP_sorted (l : List (List UInt8)) (s : List UInt8) (h : SortedN l) : SortedN (insertP l s) := by
  unfold insertP
  split
  · exact h
  · rename_i hne
    have hl : l.take (insAt l s) ++ l.drop (insAt l s) = l := List.take_append_drop _ _
    have h' : SortedN (l.take (insAt l s) ++ l.drop (insAt l s)) := by rw [hl]; exact h
    unfold SortedN at h' ⊢
    rw [List.pairwise_append] at h'
    obtain ⟨g1, g2, g3⟩ := h'
    have hlt : ∀ x, x ∈ l.take (insAt l s) → Lib.compareBytes x s < 0 := fun x hx => by
      have := takeW_all (fun x => decide (Lib.compareBytes x s < 0)) l x hx
      simpa using this
    have hgt : ∀ x, x ∈ l.drop (insAt l s) → Lib.compareBytes s x < 0 := by
      cases hd : l.drop (insAt l s) with
      | nil => intro x hx; cases hx
      | cons a r =>
        have h1 := takeW_next (fun x => decide (Lib.compareBytes x s < 0)) l a r hd
        have h1 : ¬ Lib.compareBytes a s < 0 := by simpa using h1
        have h0 : l[insAt l s]? = some a := by
          have := congrArg (fun z => z[0]?) hd
          simpa using this
        have ha : Lib.compareBytes s a < 0 := cb_tot a s h1 (fun e => hne (by rw [h0, e]))
        rw [hd] at g2
        intro x hx
        rcases List.mem_cons.1 hx with rfl | hx
        · exact ha
        · exact cb_trans _ _ _ ha ((List.pairwise_cons.1 g2).1 x hx)
    rw [List.append_assoc, List.pairwise_append]
    refine ⟨g1, ?_, ?_⟩
    · rw [List.singleton_append, List.pairwise_cons]
      exact ⟨hgt, g2⟩
    · intro a ha b hb
      rcases List.mem_append.1 hb with hb | hb
      · rw [List.mem_singleton] at hb; subst hb; exact hlt a ha
      · exact g3 a ha b hb
theorem collectP_sorted (t : Term) : ∀ l, SortedN l → SortedN (collectP t l) := by
  induction t using Term.ind with | _ n u xs ih
  intro l h
  rw [collectP_fold]
  have h0 : SortedN (if u then insertP l n else l) := by split; exact insertP_sorted _ _ h; exact h
  have : ∀ (ys : List Term), (∀ y, y ∈ ys → y ∈ xs) → ∀ l, SortedN l → SortedN (foldC ys l) := by
    intro ys
    induction ys with
    | nil => intro _ l h; exact h
    | cons y ys ih2 => intro hy l h; exact ih2 (fun z hz => hy z (by simp [hz])) _ (ih y (hy y (by simp)) l h)
  exact this xs (fun y hy => hy) _ h0
theorem varsP_sorted (ts : List Term) : SortedN (varsP ts) := by
  have : ∀ (ts : List Term) l, SortedN l → SortedN (foldC ts l) := by
    intro ts
    induction ts with
    | nil => intro l h; exact h
    | cons t ts ih => intro l h; exact ih _ (collectP_sorted t l h)
  exact this ts [] List.Pairwise.nil
theorem sortedN_nodup {l : List (List UInt8)} (h : SortedN l) : l.Nodup := List.Pairwise.imp (fun {a b} hab e => by
  subst e
  have := (compareBytes_eq a a).2 rfl
  omega) h
theorem mem_foldC (v : List UInt8) : ∀ (ts : List Term) l, v ∈ foldC ts l ↔ v ∈ l ∨ ∃ t, t ∈ ts ∧ 0 < countP v t
  | [], l => by simp [foldC]
  | t :: ts, l => by
    have h := mem_foldC v ts (collectP t l)
    have e : foldC (t :: ts) l = foldC ts (collectP t l) := rfl
    rw [e, h, mem_collectP]
    simp only [List.mem_cons, exists_eq_or_imp, or_assoc]
theorem walk_count (v : List UInt8) : ∀ (xs : List Term) (i : Int) (p : List Int), (∃ x, x ∈ walkL xs i p ∧ x.2.var = true ∧ x.2.name = v) ↔ ∃ t, t ∈ xs ∧ 0 < countP v t
  | [], i, p => by simp [walkL]
  | .mk n u ys :: r, i, p => by
    have h1 := walk_count v ys 0 (p ++ [i])
    have h2 := walk_count v r (i + 1) p
    have h3 : 0 < countP v (.mk n u ys) ↔ (u = true ∧ n = v) ∨ ∃ t, t ∈ ys ∧ 0 < countP v t := by
      rw [countP_mk]
      have hb := counts_bound v ys
      have hs : 0 < (ys.map (countP v)).sum ↔ ∃ t, t ∈ ys ∧ 0 < countP v t := by
        have : ∀ zs : List Term, 0 < (zs.map (countP v)).sum ↔ ∃ t, t ∈ zs ∧ 0 < countP v t := by
          intro zs
          induction zs with
          | nil => simp
          | cons z zs ih =>
            have b1 := countP_bound v z
            have b2 := counts_bound v zs
            simp only [List.map_cons, List.sum_cons, List.mem_cons, exists_eq_or_imp]
            rw [← ih]; omega
        exact this ys
      rw [← hs]
      unfold oneP
      split
      · rename_i h; constructor
        · intro _; exact .inl h
        · intro _; omega
      · rename_i h; constructor
        · intro hh; right; omega
        · rintro (hh | hh)
          · exact absurd hh h
          · omega
    simp only [walkL, List.mem_cons, List.mem_append, exists_eq_or_imp]
    rw [h3, ← h1, ← h2]
    constructor
    · rintro (h | ⟨x, h | h, hx⟩)
      · exact .inl (.inl h)
      · exact .inl (.inr ⟨x, h, hx⟩)
      · exact .inr ⟨x, h, hx⟩
    · rintro ((h | ⟨x, h, hx⟩) | ⟨x, h, hx⟩)
      · exact .inl h
      · exact .inr ⟨x, .inl h, hx⟩
      · exact .inr ⟨x, .inr h, hx⟩
theorem walkT_count (v : List UInt8) (t : Term) (p : List Int) : (∃ x, x ∈ walkT t p ∧ x.2.var = true ∧ x.2.name = v) ↔ 0 < countP v t := by
  have h := walk_count v [t] 0 p
  rw [walkL_cons] at h
  simp only [walkL, List.append_nil, List.mem_singleton, exists_eq_left] at h
  rw [← h]
  have : ∀ (t : Term) (p q : List Int), (∃ x, x ∈ walkT t p ∧ x.2.var = true ∧ x.2.name = v) → ∃ x, x ∈ walkT t q ∧ x.2.var = true ∧ x.2.name = v := by
    rintro t p q ⟨x, hx, h1⟩
    simp only [walkT, List.mem_cons] at hx
    rcases hx with rfl | hx
    · exact ⟨(q, t), by simp [walkT], h1⟩
    · obtain ⟨y, hy, h2⟩ := (walk_count v t.args 0 q).2 ((walk_count v t.args 0 p).1 ⟨x, hx, h1⟩)
      exact ⟨y, by simp only [walkT, List.mem_cons]; exact .inr hy, h2⟩
  exact ⟨this t _ _, this t _ _⟩
theorem mem_seenI (v : List UInt8) : ∀ (items : List (List Int × Term)) (q : Nat × List (List UInt8)), v ∈ (seenI q items).2 ↔ v ∈ q.2 ∨ ∃ x, x ∈ items ∧ x.2.var = true ∧ x.2.name = v
  | [], q => by simp [seenI]
  | x :: items, q => by
    have h := mem_seenI v items (addV q x.2)
    have e : seenI q (x :: items) = seenI (addV q x.2) items := rfl
    rw [e, h]
    have h1 : v ∈ (addV q x.2).2 ↔ v ∈ q.2 ∨ x.2.var = true ∧ x.2.name = v := by
      unfold addV
      by_cases hv : x.2.var = true
      · rw [if_pos hv]
        simp only [hv, true_and]
        split
        · rename_i hm; constructor
          · exact .inl
          · rintro (h | h); exact h; exact h ▸ hm
        · simp only [List.mem_append, List.mem_singleton]
          constructor
          · rintro (h | h); exact .inl h; exact .inr h.symm
          · rintro (h | h); exact .inl h; exact .inr h.symm
      · rw [if_neg hv]; simp [hv]
    rw [h1]
    simp only [List.mem_cons, exists_eq_or_imp, or_assoc]
theorem mem_seenT (v : List UInt8) : ∀ (ts : List Term) (q : Nat × List (List UInt8)), v ∈ (seenT q ts).2 ↔ v ∈ q.2 ∨ ∃ t, t ∈ ts ∧ 0 < countP v t
  | [], q => by simp [seenT]
  | t :: ts, q => by
    have h := mem_seenT v ts (seenI q (walkT t []))
    have e : seenT q (t :: ts) = seenT (seenI q (walkT t [])) ts := rfl
    rw [e, h, mem_seenI, walkT_count]
    simp only [List.mem_cons, exists_eq_or_imp, or_assoc]
theorem seen_nodup : ∀ (items : List (List Int × Term)) (q : Nat × List (List UInt8)), q.2.Nodup → (seenI q items).2.Nodup
  | [], q, h => h
  | x :: items, q, h => by
    have e : seenI q (x :: items) = seenI (addV q x.2) items := rfl
    rw [e]
    refine seen_nodup items _ ?_
    unfold addV
    split
    · simp only
      split
      · exact h
      · rename_i hm
        rw [List.nodup_append]
        refine ⟨h, by simp, ?_⟩
        intro a ha b hb e
        rw [List.mem_singleton] at hb
        exact hm (hb ▸ e ▸ ha)
    · exact h
theorem seenT_nodup : ∀ (ts : List Term) (q : Nat × List (List UInt8)), q.2.Nodup → (seenT q ts).2.Nodup
  | [], q, h => h
  | t :: ts, q, h => seenT_nodup ts _ (seen_nodup _ q h)
theorem varsOf_eq (ts : List Term) : sortS (seenT (0, []) ts).2 = varsP ts := by
  refine sortS_eq ?_ ?_
  · refine (List.perm_ext_iff_of_nodup (sortedN_nodup (varsP_sorted ts)) (seenT_nodup ts _ List.nodup_nil)).2 (fun v => ?_)
    rw [mem_seenT]
    exact mem_foldC v ts []
  · exact List.Pairwise.imp (fun {a b} h => by simpa using cb_le a b h) (varsP_sorted ts)
theorem seen_len : ∀ (items : List (List Int × Term)) (q : Nat × List (List UInt8)), (seenI q items).2.length ≤ q.2.length + items.length
  | [], q => by simp [seenI]
  | x :: items, q => by
    have h := seen_len items (addV q x.2)
    have e : seenI q (x :: items) = seenI (addV q x.2) items := rfl
    rw [e]
    have : (addV q x.2).2.length ≤ q.2.length + 1 := by unfold addV; split <;> (try simp only) <;> (try split) <;> simp
    simp only [List.length_cons]; omega
theorem seenT_len : ∀ (ts : List Term) (q : Nat × List (List UInt8)), (seenT q ts).2.length ≤ q.2.length + (ts.map Term.size).sum
  | [], q => by simp [seenT]
  | t :: ts, q => by
    have h := seenT_len ts (seenI q (walkT t []))
    have h2 := seen_len (walkT t []) q
    rw [walkT_length] at h2
    have e : seenT q (t :: ts) = seenT (seenI q (walkT t [])) ts := rfl
    rw [e]; simp only [List.map_cons, List.sum_cons]; omega
end Ab
set_option maxRecDepth 10000
namespace Ab
open Go Go.Proofs
def ndT (x : Term) : List (List UInt8 × Nat) := if x.var then [] else [(x.name, x.args.length)]
def nodesI (items : List (List Int × Term)) : List (List UInt8 × Nat) := items.flatMap fun x => ndT x.2
def nodesL : List Term → List (List UInt8 × Nat)
  | [] => []
  | .mk n u xs :: r => ndT (.mk n u xs) ++ (nodesL xs ++ nodesL r)
theorem nodesI_app (a b : List (List Int × Term)) : nodesI (a ++ b) = nodesI a ++ nodesI b := by simp [nodesI]
theorem nodesI_nil : nodesI [] = [] := (rfl)
theorem nodesI_snoc (a : List (List Int × Term)) (x : List Int × Term) : nodesI (a ++ [x]) = nodesI a ++ ndT x.2 := by simp [nodesI]
theorem nodes_walkL : ∀ (xs : List Term) (i : Int) (p : List Int), nodesI (walkL xs i p) = nodesL xs
  | [], _, _ => by simp [walkL, nodesL, nodesI]
  | .mk n u xs :: r, i, p => by
    have h1 := nodes_walkL xs 0 (p ++ [i])
    have h2 := nodes_walkL r (i + 1) p
    rw [walkL, nodesL, ← h1, ← h2, ← nodesI_app]
    simp [nodesI]
theorem nodes_walkT (t : Term) (p : List Int) : nodesI (walkT t p) = nodesL [t] := by
  cases t with
  | mk n u xs =>
    have := nodes_walkL xs 0 p
    unfold walkT
    rw [nodesL, nodesL, List.append_nil, ← this]
    rfl
theorem nodesL_app : ∀ (a b : List Term), nodesL (a ++ b) = nodesL a ++ nodesL b
  | [], b => by simp [nodesL]
  | .mk n u xs :: r, b => by
    have := nodesL_app r b
    rw [List.cons_append, nodesL, nodesL, this]; simp
def arC (q : Nat × List (List UInt8 × Nat)) (s : List UInt8 × Nat) : Bool := match aget q.2 s.1 with
  | some j => !decide (j = s.2)
  | none => false
def arStep (q : Nat × List (List UInt8 × Nat)) (s : List UInt8 × Nat) : Nat × List (List UInt8 × Nat) := if arC q s then q else (q.1 + 1, aset q.2 s.1 s.2)
def arF (q : Nat × List (List UInt8 × Nat)) (L : List (List UInt8 × Nat)) : Nat × List (List UInt8 × Nat) := L.foldl arStep q
def arBad : Nat × List (List UInt8 × Nat) → List (List UInt8 × Nat) → Bool
  | _, [] => false
  | q, s :: r => arC q s || arBad (arStep q s) r
theorem arF_app (q : Nat × List (List UInt8 × Nat)) (a b : List (List UInt8 × Nat)) : arF q (a ++ b) = arF (arF q a) b := by simp [arF]
theorem arF_nil (q : Nat × List (List UInt8 × Nat)) : arF q [] = q := (rfl)
theorem arBad_app : ∀ (a b : List (List UInt8 × Nat)) (q : Nat × List (List UInt8 × Nat)), arBad q (a ++ b) = (arBad q a || arBad (arF q a) b)
  | [], b, q => by simp [arBad, arF]
  | s :: a, b, q => by
    have := arBad_app a b (arStep q s)
    rw [List.cons_append, arBad, arBad, this, Bool.or_assoc]; rfl
def Cons (L : List (List UInt8 × Nat)) : Prop := ∀ a, a ∈ L → ∀ b, b ∈ L → a.1 = b.1 → a = b
theorem Cons.sub {L M : List (List UInt8 × Nat)} (h : Cons L) (hs : ∀ x, x ∈ M → x ∈ L) : Cons M := fun a ha b hb e => h a (hs a ha) b (hs b hb) e
theorem nodup_inj : ∀ {l : List (List UInt8 × Nat)}, (l.map (·.1)).Nodup → Cons l
  | [], _ => fun a ha => by cases ha
  | p :: l, h => by
    rw [List.map_cons, List.nodup_cons] at h
    have ih := nodup_inj h.2
    intro a ha b hb e
    rcases List.mem_cons.1 ha with ha1 | ha1
    · rcases List.mem_cons.1 hb with hb1 | hb1
      · rw [ha1, hb1]
      · exact absurd (List.mem_map.2 ⟨b, hb1, by rw [← e, ha1]⟩) h.1
    · rcases List.mem_cons.1 hb with hb1 | hb1
      · exact absurd (List.mem_map.2 ⟨a, ha1, by rw [e, hb1]⟩) h.1
      · exact ih a ha1 b hb1 e
theorem aget_mem {α : Type} : ∀ {m : List (List UInt8 × α)} {k : List UInt8} {v : α}, aget m k = some v → (k, v) ∈ m
  | [], _, _, h => by cases h
  | p :: m, k, v, h => by
    unfold aget at h
    split at h
    · rename_i e
      injection h with h
      subst e h
      simp
    · exact List.mem_cons_of_mem _ (aget_mem h)
theorem aget_no {α : Type} : ∀ {m : List (List UInt8 × α)} {k : List UInt8}, aget m k = none → ∀ p, p ∈ m → p.1 ≠ k
  | [], _, _, p, hp => by cases hp
  | q :: m, k, h, p, hp => by
    unfold aget at h
    split at h
    · cases h
    · rename_i e
      rcases List.mem_cons.1 hp with rfl | hp
      · exact e
      · exact aget_no h p hp
theorem aset_id {α : Type} : ∀ {m : List (List UInt8 × α)} {k : List UInt8} {v : α}, aget m k = some v → aset m k v = m
  | [], _, _, h => by cases h
  | p :: m, k, v, h => by
    unfold aget at h
    unfold aset
    split at h
    · rename_i e
      injection h with h
      rw [if_pos e, ← e, ← h]
    · rename_i e
      rw [if_neg e, aset_id h]
theorem arStep_spec (q : Nat × List (List UInt8 × Nat)) (s : List UInt8 × Nat) (hi : (q.2.map (·.1)).Nodup) (h : arC q s = false) : ((arStep q s).2.map (·.1)).Nodup ∧ ∀ x, x ∈ (arStep q s).2 ↔ x ∈ q.2 ∨ x = s := by
  unfold arStep
  rw [h]
  simp only [Bool.false_eq_true, if_false]
  unfold arC at h
  cases hg : aget q.2 s.1 with
  | none =>
    have h1 := aget_no hg
    rw [(aget_none h1).2]
    refine ⟨?_, fun x => by simp⟩
    rw [List.map_append, List.nodup_append]
    refine ⟨hi, by simp, ?_⟩
    intro a ha b hb e
    simp at hb
    subst hb
    obtain ⟨p, hp, hpe⟩ := List.mem_map.1 ha
    exact h1 p hp (hpe.trans e)
  | some j =>
    rw [hg] at h
    have hj : j = s.2 := by simpa using h
    subst hj
    rw [aset_id hg]
    refine ⟨hi, fun x => ⟨.inl, ?_⟩⟩
    rintro (hx | rfl)
    · exact hx
    · exact aget_mem hg
theorem ar_spec : ∀ (L : List (List UInt8 × Nat)) (q : Nat × List (List UInt8 × Nat)), (q.2.map (·.1)).Nodup → (arBad q L = false ↔ Cons (q.2 ++ L)) ∧ (arBad q L = false → ((arF q L).2.map (·.1)).Nodup ∧ ∀ x, x ∈ (arF q L).2 ↔ x ∈ q.2 ∨ x ∈ L)
  | [], q, hi => by
    refine ⟨⟨fun _ => ?_, fun _ => rfl⟩, fun _ => ⟨hi, fun x => by simp [arF]⟩⟩
    rw [List.append_nil]
    exact nodup_inj hi
  | s :: r, q, hi => by
    cases hc : arC q s with
    | true =>
      refine ⟨⟨fun h => ?_, fun h => ?_⟩, fun h => ?_⟩
      · rw [arBad, hc] at h; cases h
      · unfold arC at hc
        cases hg : aget q.2 s.1 with
        | none => rw [hg] at hc; cases hc
        | some j =>
          rw [hg] at hc
          have hj : ¬ j = s.2 := by simpa using hc
          have := h (s.1, j) (List.mem_append_left _ (aget_mem hg)) s (by simp) rfl
          exact absurd (congrArg Prod.snd this) hj
      · rw [arBad, hc] at h; cases h
    | false =>
      obtain ⟨g1, g2⟩ := arStep_spec q s hi hc
      obtain ⟨i1, i2⟩ := ar_spec r (arStep q s) g1
      have hb : arBad q (s :: r) = arBad (arStep q s) r := by rw [arBad, hc]; rfl
      have hm : ∀ x, x ∈ (arStep q s).2 ++ r ↔ x ∈ q.2 ++ s :: r := fun x => by
        rw [List.mem_append, List.mem_append, g2, List.mem_cons, or_assoc]
      rw [hb]
      refine ⟨i1.trans ⟨fun h => h.sub fun x hx => (hm x).2 hx, fun h => h.sub fun x hx => (hm x).1 hx⟩, fun h => ?_⟩
      obtain ⟨j1, j2⟩ := i2 h
      have hf : arF q (s :: r) = arF (arStep q s) r := rfl
      rw [hf]
      exact ⟨j1, fun x => by rw [j2, g2, List.mem_cons, or_assoc]⟩
def syAt (l : List (List UInt8 × Nat)) (n : List UInt8) : Nat := insAt (l.map (·.1)) n
def insSy (l : List (List UInt8 × Nat)) (s : List UInt8 × Nat) : List (List UInt8 × Nat) := if (l.map (·.1))[syAt l s.1]? = some s.1 then l else l.take (syAt l s.1) ++ [s] ++ l.drop (syAt l s.1)
def cfSy (l : List (List UInt8 × Nat)) (s : List UInt8 × Nat) : Bool := match (insSy l s)[syAt l s.1]? with
  | some x => !decide (x.2 = s.2)
  | none => false
def symRs : List Term → List (List UInt8 × Nat) → List (List UInt8 × Nat) × Bool
  | [], l => (l, true)
  | .mk n u xs :: r, l => if u then symRs r l else if markedP n then (l, false) else if cfSy l (n, xs.length) then (l, false) else
    if (symRs xs (insSy l (n, xs.length))).2 then symRs r (symRs xs (insSy l (n, xs.length))).1 else (l, false)
def symR (t : Term) (l : List (List UInt8 × Nat)) : List (List UInt8 × Nat) × Bool := if t.var then (l, true) else if markedP t.name then (l, false) else if cfSy l (t.name, t.args.length) then (insSy l (t.name, t.args.length), false) else symRs t.args (insSy l (t.name, t.args.length))
theorem symRs_cons (t : Term) (r : List Term) (l : List (List UInt8 × Nat)) : symRs (t :: r) l = if (symR t l).2 then symRs r (symR t l).1 else (l, false) := by
  cases t with
  | mk n u xs =>
    rw [symRs]
    unfold symR
    simp only [Term.mk_name, Term.mk_var, Term.mk_args]
    cases u <;> simp only [Bool.false_eq_true, if_true, if_false]
    by_cases hm : markedP n = true
    · simp [hm]
    · by_cases hc : cfSy l (n, xs.length) = true
      · simp [hm, hc]
      · simp [hm, hc]
theorem insSy_names (l : List (List UInt8 × Nat)) (s : List UInt8 × Nat) : (insSy l s).map (·.1) = insertP (l.map (·.1)) s.1 := by
  unfold insSy insertP syAt
  split
  · rfl
  · simp [List.map_take, List.map_drop]
theorem sortedS_cons {l : List (List UInt8 × Nat)} (h : SortedN (l.map (·.1))) : Cons l := nodup_inj (sortedN_nodup h)
theorem insSy_mem {l : List (List UInt8 × Nat)} {s : List UInt8 × Nat} (h : cfSy l s = false) (x : List UInt8 × Nat) : x ∈ insSy l s ↔ x ∈ l ∨ x = s := by
  unfold cfSy at h
  unfold insSy at h ⊢
  split
  · rename_i hp
    rw [if_pos hp] at h
    refine ⟨.inl, ?_⟩
    rintro (hx | rfl)
    · exact hx
    · rw [List.getElem?_map] at hp
      cases hg : l[syAt l x.1]? with
      | none => rw [hg] at hp; cases hp
      | some y =>
        rw [hg] at h hp
        injection hp with hp
        have h2 : y.2 = x.2 := by simpa using h
        have : y = x := Prod.ext hp h2
        rw [← this]
        exact List.mem_of_getElem? hg
  · rw [List.mem_append, List.mem_append, List.mem_singleton]
    conv => rhs; rw [← List.take_append_drop (syAt l s.1) l, List.mem_append]
    constructor
    · rintro ((h | h) | h)
      · exact .inl (.inl h)
      · exact .inr h
      · exact .inl (.inr h)
    · rintro ((h | h) | h)
      · exact .inl (.inl h)
      · exact .inr h
      · exact .inl (.inr h)
theorem cfSy_true {l : List (List UInt8 × Nat)} {s : List UInt8 × Nat} (h : cfSy l s = true) : ∃ j, (s.1, j) ∈ l ∧ j ≠ s.2 := by
  unfold cfSy at h
  split at h
  · rename_i x hx
    have hne : ¬ x.2 = s.2 := by simpa using h
    unfold insSy at hx
    split at hx
    · rename_i hp
      rw [List.getElem?_map, hx] at hp
      injection hp with hp
      refine ⟨x.2, ?_, hne⟩
      rw [← hp]
      exact List.mem_of_getElem? hx
    · exfalso
      have hle : syAt l s.1 ≤ l.length := by
        unfold syAt insAt
        have := (List.takeWhile_prefix (fun x => decide (Lib.compareBytes x s.1 < 0)) (l := l.map (·.1))).length_le
        simpa using this
      rw [List.append_assoc, List.getElem?_append_right (by simp; omega)] at hx
      have e : syAt l s.1 - (l.take (syAt l s.1)).length = 0 := by simp; omega
      rw [e] at hx
      simp at hx
      exact hne (by rw [hx])
  · cases h
theorem symRs_spec : ∀ (ts : List Term) (l : List (List UInt8 × Nat)), (∀ t, t ∈ ts → formedP t = true) → SortedN (l.map (·.1)) →
    ((symRs ts l).2 = true ↔ (∀ s, s ∈ nodesL ts → markedP s.1 = false) ∧ Cons (l ++ nodesL ts)) ∧ ((symRs ts l).2 = true → SortedN ((symRs ts l).1.map (·.1)) ∧ ∀ x, x ∈ (symRs ts l).1 ↔ x ∈ l ∨ x ∈ nodesL ts)
  | [], l, _, hl => by
    refine ⟨⟨fun _ => ⟨fun s hs => by simp [nodesL] at hs, by rw [nodesL, List.append_nil]; exact sortedS_cons hl⟩, fun _ => by simp [symRs]⟩, fun _ => ⟨by simpa [symRs] using hl, fun x => by simp [symRs, nodesL]⟩⟩
  | .mk n true xs :: r, l, hf, hl => by
    have h0 := hf (.mk n true xs) (by simp)
    rw [formedP_mk] at h0
    simp only [if_true, Bool.and_eq_true, decide_eq_true_eq] at h0
    have hx := List.eq_nil_of_length_eq_zero h0.1
    subst hx
    have ih := symRs_spec r l (fun t ht => hf t (by simp [ht])) hl
    have hn : nodesL (.mk n true [] :: r) = nodesL r := by simp [nodesL, ndT, Term.mk_var]
    have hs : symRs (.mk n true [] :: r) l = symRs r l := by rw [symRs]; simp
    rw [hn, hs]; exact ih
  | .mk n false xs :: r, l, hf, hl => by
    have h0 := hf (.mk n false xs) (by simp)
    rw [formedP_mk] at h0
    simp only [Bool.false_eq_true, if_false, Bool.and_eq_true, List.all_eq_true] at h0
    have hn : nodesL (.mk n false xs :: r) = (n, xs.length) :: (nodesL xs ++ nodesL r) := by simp [nodesL, ndT, Term.mk_var, Term.mk_name, Term.mk_args]
    rw [hn, symRs]
    simp only [Bool.false_eq_true, if_false]
    cases hm : markedP n with
    | true =>
      simp only [if_true, Bool.false_eq_true, false_iff, false_implies, and_true]
      rintro ⟨h1, _⟩
      have := h1 (n, xs.length) (by simp)
      rw [hm] at this; cases this
    | false =>
      simp only [Bool.false_eq_true, if_false]
      cases hc : cfSy l (n, xs.length) with
      | true =>
        simp only [if_true, Bool.false_eq_true, false_iff, false_implies, and_true]
        rintro ⟨_, h2⟩
        obtain ⟨j, hj, hne⟩ := cfSy_true hc
        have := h2 (n, j) (List.mem_append_left _ hj) (n, xs.length) (by simp) rfl
        exact hne (congrArg Prod.snd this)
      | false =>
        simp only [Bool.false_eq_true, if_false]
        have hmem := insSy_mem hc
        have hl1 : SortedN ((insSy l (n, xs.length)).map (·.1)) := by rw [insSy_names]; exact insertP_sorted _ _ hl
        obtain ⟨l1, hl1e⟩ : ∃ l1, l1 = insSy l (n, xs.length) := ⟨_, rfl⟩
        rw [← hl1e] at hmem hl1 ⊢
        obtain ⟨a1, a2⟩ := symRs_spec xs l1 h0.2 hl1
        cases hq : (symRs xs l1).2 with
        | false =>
          simp only [Bool.false_eq_true, if_false, false_iff, false_implies, and_true]
          rintro ⟨h1, h2⟩
          have := a1.2 ⟨fun s hs => h1 s (by simp [hs]), h2.sub fun x hx => by
            rcases List.mem_append.1 hx with hx | hx
            · rcases (hmem x).1 hx with hx | rfl
              · exact List.mem_append_left _ hx
              · simp
            · simp [hx]⟩
          rw [hq] at this; cases this
        | true =>
          simp only [if_true]
          obtain ⟨b1, b2⟩ := a2 hq
          obtain ⟨c1, c2⟩ := a1.1 hq
          obtain ⟨d1, d2⟩ := symRs_spec r (symRs xs l1).1 (fun t ht => hf t (by simp [ht])) b1
          have hmm : ∀ x, x ∈ (symRs xs l1).1 ++ nodesL r ↔ x ∈ l ++ (n, xs.length) :: (nodesL xs ++ nodesL r) := fun x => by
            rw [List.mem_append, b2, hmem, List.mem_append, List.mem_cons, List.mem_append]
            constructor
            · rintro (((h | h) | h) | h)
              · exact .inl h
              · exact .inr (.inl h)
              · exact .inr (.inr (.inl h))
              · exact .inr (.inr (.inr h))
            · rintro (h | h | h | h)
              · exact .inl (.inl (.inl h))
              · exact .inl (.inl (.inr h))
              · exact .inl (.inr h)
              · exact .inr h
          refine ⟨d1.trans ⟨fun h => ⟨fun s hs => ?_, h.2.sub fun x hx => (hmm x).2 hx⟩, fun h => ⟨fun s hs => h.1 s (by simp [hs]), h.2.sub fun x hx => (hmm x).1 hx⟩⟩, fun h => ?_⟩
          · rcases List.mem_cons.1 hs with rfl | hs
            · exact hm
            · rcases List.mem_append.1 hs with hs | hs
              · exact c1 s hs
              · exact h.1 s hs
          · obtain ⟨e1, e2⟩ := d2 h
            refine ⟨e1, fun x => ?_⟩
            rw [e2, ← List.mem_append, hmm, List.mem_append]
theorem sys_agree (ts : List Term) (hf : ∀ t, t ∈ ts → formedP t = true) : (symRs ts []).2 = (!arBad (0, []) (nodesL ts) && (arF (0, []) (nodesL ts)).2.all fun s => !markedP s.1) := by
  obtain ⟨a1, a2⟩ := symRs_spec ts [] hf List.Pairwise.nil
  obtain ⟨b1, b2⟩ := ar_spec (nodesL ts) (0, []) (by simp)
  rw [Bool.eq_iff_iff, a1, Bool.and_eq_true, Bool.not_eq_true', b1]
  simp only [List.nil_append]
  constructor
  · rintro ⟨h1, h2⟩
    refine ⟨h2, ?_⟩
    rw [List.all_eq_true]
    intro x hx
    have := ((b2 (b1.2 h2)).2 x).1 hx
    simp only [List.not_mem_nil, false_or] at this
    rw [h1 x this]; rfl
  · rintro ⟨h1, h2⟩
    refine ⟨fun s hs => ?_, h1⟩
    rw [List.all_eq_true] at h2
    have := h2 s (((b2 (b1.2 h1)).2 s).2 (.inr hs))
    simpa using this
theorem sorted_uniqueK {γ : Type} {l l' : List (List UInt8 × γ)} (hp : l.Perm l') (h : SortedN (l.map (·.1))) (hs : l'.Pairwise fun a b => ¬ Lib.compareBytes b.1 a.1 < 0) : l' = l := by
  have hn : (l'.map (·.1)).Nodup := (hp.map _).nodup_iff.1 (sortedN_nodup h)
  have h2 : SortedN (l'.map (·.1)) := by
    unfold SortedN
    rw [List.pairwise_map]
    unfold List.Nodup at hn
    rw [List.pairwise_map] at hn
    refine (hs.and hn).imp ?_
    rintro a b ⟨h3, h4⟩
    by_cases h5 : Lib.compareBytes a.1 b.1 < 0
    · exact h5
    · exact absurd (cb_tot _ _ h5 h4) h3
  unfold SortedN at h h2
  rw [List.pairwise_map] at h h2
  exact List.Perm.eq_of_pairwise (fun a b _ _ h1 h3 => by have := cb_trans _ _ _ h1 h3; rw [(compareBytes_eq a.1 a.1).2 rfl] at this; omega) h2 h hp.symm
theorem sys_perm (ts : List Term) (hf : ∀ t, t ∈ ts → formedP t = true) (h : (symRs ts []).2 = true) : SortedN ((symRs ts []).1.map (·.1)) ∧ (symRs ts []).1.Perm (arF (0, []) (nodesL ts)).2 := by
  obtain ⟨a1, a2⟩ := symRs_spec ts [] hf List.Pairwise.nil
  obtain ⟨b1, b2⟩ := ar_spec (nodesL ts) (0, []) (by simp)
  obtain ⟨h1, h2⟩ := a1.1 h
  obtain ⟨c1, c2⟩ := a2 h
  obtain ⟨d1, d2⟩ := b2 (b1.2 h2)
  refine ⟨c1, (List.perm_ext_iff_of_nodup ?_ ?_).2 fun x => by rw [c2, d2]⟩
  · have := sortedN_nodup c1
    unfold List.Nodup at this ⊢
    rw [List.pairwise_map] at this
    exact this.imp fun {a b} hab e => hab (by rw [e])
  · unfold List.Nodup at d1 ⊢
    rw [List.pairwise_map] at d1
    exact d1.imp fun {a b} hab e => hab (by rw [e])
end Ab
set_option maxRecDepth 10000
namespace Ab
open Go Go.Proofs
theorem foldC_nil (l : List (List UInt8)) : foldC [] l = l := (rfl)
theorem collect_ac (t : Term) : ∀ l : List (List UInt8), t.bulk ≤ 1099511627775 → l.length + t.size ≤ 1099511627770 → (∀ x, x ∈ l → x.length < 1099511627776) → ∀ H, ACall Tryz.prog 52 [encT t, .sl .none (encN l)] H (fun r H' => r = .sl .none (encN (collectP t l)) ∧ H' = H) := by
  induction t using Term.ind with | _ n v xs ih
  intro l hb hl hnl H
  have hsz := (Term.mk n v xs).size_le
  have hlen := Term.len_le (n := n) (v := v) (xs := xs)
  have hnm := Term.name_le (n := n) (v := v) (xs := xs)
  rw [Term.size_mk] at hl
  rw [collectP_fold]
  have hi0 := insertP_length l n
  obtain ⟨L0, hL0⟩ : ∃ L0, L0 = if v then insertP l n else l := ⟨_, rfl⟩
  have hL1 : L0.length ≤ l.length + 1 := by rw [hL0]; split <;> omega
  have hL2 : ∀ x, x ∈ L0 → x.length < 1099511627776 := by
    intro x hx
    rw [hL0] at hx
    split at hx
    · rcases (mem_insertP l n x).1 hx with h | h
      · exact hnl x h
      · subst h; omega
    · exact hnl x hx
  have hbk : ∀ x, x ∈ xs → x.bulk ≤ 1099511627775 := fun x hx => by have := Term.arg_le (n := n) (v := v) hx; omega
  rw [← hL0]
  have hround : ∀ i (h : i < xs.length) H, ACall Tryz.prog 52 [encT xs[i], .sl .none (encN (foldC (xs.take i) L0))] H (fun r H' => r = .sl .none (encN (foldC (xs.take (i + 1)) L0)) ∧ H' = H) := fun i h H => by
    have hf1 := foldC_length (xs.take i) L0
    have hf2 := take_sum Term.size xs i h
    have hf3 := take_sum_le Term.size xs (i + 1)
    rw [foldC_take xs L0 i h]
    exact ih _ (List.getElem_mem h) _ (hbk _ (List.getElem_mem h)) (by omega) (foldC_names _ _ (fun x hx => hbk x (List.mem_of_mem_take hx)) hL2) H
  cases v with
  | true =>
    simp only [if_true] at hL0
    refine ACall_V (H.length) 23 [.tmp 4] Tryz.func52 rfl rfl rfl ?_
    simp only [push_cast, Nat.reduceAdd, Nat.reduceSub, Nat.reduceMul, Nat.reduceLT, Nat.reduceLeDiff, Nat.reduceEqDiff, Int.reduceToNat, ↓reduceIte]
    refine (insert_ac l n (by omega) hnl (by omega) _).to ?_
    rw [← hL0]
    simp only [push_cast, Nat.reduceAdd, Nat.reduceSub, Nat.reduceMul, Nat.reduceLT, Nat.reduceLeDiff, Nat.reduceEqDiff, Int.reduceToNat, ↓reduceIte]
    refine AW_loopW (maskG 25 [1, 12, 0, 0]) (fun (i : Nat) => [(1, .sl .none (encN (foldC (xs.take i) L0))), (16, .int .i64 i)]) (fun i => H ++ [.cells [.str n, .bool true, .sl .none (encTs xs)]]) (fun i => i ≤ xs.length) (fun i => xs.length - i) 0 (Nat.zero_le _) (by simp only [push_cast, Nat.reduceAdd, Nat.reduceSub, Nat.reduceMul, Nat.reduceLT, Nat.reduceLeDiff, Nat.reduceEqDiff, Int.reduceToNat, ↓reduceIte, List.take_zero, foldC_nil]) (fun i hi => ?_)
    simp only [push_cast, Nat.reduceAdd, Nat.reduceSub, Nat.reduceMul, Nat.reduceLT, Nat.reduceLeDiff, Nat.reduceEqDiff, Int.reduceToNat, ↓reduceIte]
    refine cI (fun h => ?_) (fun h => ?_)
    · repeat refine ⟨by omega, ?_⟩
      refine (hround i (by omega) _).to ?_
      simp only [push_cast, Nat.reduceAdd, Nat.reduceSub, Nat.reduceMul, Nat.reduceLT, Nat.reduceLeDiff, Nat.reduceEqDiff, Int.reduceToNat, ↓reduceIte]
      repeat' first | refine ⟨by omega, ?_⟩ | refine cI (fun _ => ?_) (fun _ => ?_)
      exact loopW_n (i + 1) (by omega) (by omega) (by simp only [push_cast, Nat.reduceAdd, Nat.reduceSub, Nat.reduceMul, Nat.reduceLT, Nat.reduceLeDiff, Nat.reduceEqDiff, Int.reduceToNat, ↓reduceIte])
    · simp only [push_cast, Nat.reduceAdd, Nat.reduceSub, Nat.reduceMul, Nat.reduceLT, Nat.reduceLeDiff, Nat.reduceEqDiff, Int.reduceToNat, ↓reduceIte, List.take_of_length_le (show xs.length ≤ i by omega)]
  | false =>
    simp only [Bool.false_eq_true, if_false] at hL0
    subst hL0
    refine ACall_V (H.length) 23 [.tmp 4] Tryz.func52 rfl rfl rfl ?_
    simp only [push_cast, Nat.reduceAdd, Nat.reduceSub, Nat.reduceMul, Nat.reduceLT, Nat.reduceLeDiff, Nat.reduceEqDiff, Int.reduceToNat, ↓reduceIte]
    refine AW_loopW (maskG 25 [1, 12, 0, 0]) (fun (i : Nat) => [(1, .sl .none (encN (foldC (xs.take i) L0))), (16, .int .i64 i)]) (fun i => H ++ [.cells [.str n, .bool false, .sl .none (encTs xs)]]) (fun i => i ≤ xs.length) (fun i => xs.length - i) 0 (Nat.zero_le _) (by simp only [push_cast, Nat.reduceAdd, Nat.reduceSub, Nat.reduceMul, Nat.reduceLT, Nat.reduceLeDiff, Nat.reduceEqDiff, Int.reduceToNat, ↓reduceIte, List.take_zero, foldC_nil]) (fun i hi => ?_)
    simp only [push_cast, Nat.reduceAdd, Nat.reduceSub, Nat.reduceMul, Nat.reduceLT, Nat.reduceLeDiff, Nat.reduceEqDiff, Int.reduceToNat, ↓reduceIte]
    refine cI (fun h => ?_) (fun h => ?_)
    · repeat refine ⟨by omega, ?_⟩
      refine (hround i (by omega) _).to ?_
      simp only [push_cast, Nat.reduceAdd, Nat.reduceSub, Nat.reduceMul, Nat.reduceLT, Nat.reduceLeDiff, Nat.reduceEqDiff, Int.reduceToNat, ↓reduceIte]
      repeat' first | refine ⟨by omega, ?_⟩ | refine cI (fun _ => ?_) (fun _ => ?_)
      exact loopW_n (i + 1) (by omega) (by omega) (by simp only [push_cast, Nat.reduceAdd, Nat.reduceSub, Nat.reduceMul, Nat.reduceLT, Nat.reduceLeDiff, Nat.reduceEqDiff, Int.reduceToNat, ↓reduceIte])
    · simp only [push_cast, Nat.reduceAdd, Nat.reduceSub, Nat.reduceMul, Nat.reduceLT, Nat.reduceLeDiff, Nat.reduceEqDiff, Int.reduceToNat, ↓reduceIte, List.take_of_length_le (show xs.length ≤ i by omega)]
theorem varsR_ac (ts : List Term) (hlen : ts.length < 1099511627776) (hb : ∀ x, x ∈ ts → x.bulk ≤ 1099511627775) (hsz : (ts.map Term.size).sum ≤ 1099511627770) (H : List AObj) : ACall Tryz.prog 30 [.sl .none (encTs ts)] H (fun r H' => r = .sl .none (encN (varsP ts)) ∧ H' = H) := by
  have hv : varsP ts = foldC ts [] := rfl
  rw [hv]
  refine ACall_V (H.length) 16 [.tmp 2] Tryz.func30 rfl rfl rfl ?_
  simp only [push_cast, Nat.reduceAdd, Nat.reduceSub, Nat.reduceMul, Nat.reduceLT, Nat.reduceLeDiff, Nat.reduceEqDiff, Int.reduceToNat, ↓reduceIte]
  refine AW_loopW (maskG 17 [3, 2, 0, 0]) (fun (i : Nat) => [(3, .sl .none (encN (foldC (ts.take i) []))), (8, .int .i64 i)]) (fun _ => H) (fun i => i ≤ ts.length) (fun i => ts.length - i) 0 (Nat.zero_le _) (by simp only [push_cast, Nat.reduceAdd, Nat.reduceSub, Nat.reduceMul, Nat.reduceLT, Nat.reduceLeDiff, Nat.reduceEqDiff, Int.reduceToNat, ↓reduceIte, List.take_zero, foldC_nil]) (fun i hi => ?_)
  simp only [push_cast, Nat.reduceAdd, Nat.reduceSub, Nat.reduceMul, Nat.reduceLT, Nat.reduceLeDiff, Nat.reduceEqDiff, Int.reduceToNat, ↓reduceIte]
  refine cI (fun h => ?_) (fun h => ?_)
  · repeat refine ⟨by omega, ?_⟩
    have hil : i < ts.length := by omega
    have hf1 := foldC_length (ts.take i) []
    have hf2 := take_sum Term.size ts i hil
    have hf3 := take_sum_le Term.size ts (i + 1)
    simp only [List.length_nil] at hf1
    refine (collect_ac (ts[i]'hil) (foldC (ts.take i) []) (hb _ (List.getElem_mem hil)) (by omega) (foldC_names _ _ (fun x hx => hb x (List.mem_of_mem_take hx)) (by simp)) _).to ?_
    rw [← foldC_take ts [] i hil]
    simp only [push_cast, Nat.reduceAdd, Nat.reduceSub, Nat.reduceMul, Nat.reduceLT, Nat.reduceLeDiff, Nat.reduceEqDiff, Int.reduceToNat, ↓reduceIte]
    repeat' first | refine ⟨by omega, ?_⟩ | refine cI (fun _ => ?_) (fun _ => ?_)
    exact loopW_n (i + 1) (by omega) (by omega) (by simp only [push_cast, Nat.reduceAdd, Nat.reduceSub, Nat.reduceMul, Nat.reduceLT, Nat.reduceLeDiff, Nat.reduceEqDiff, Int.reduceToNat, ↓reduceIte])
  · simp only [push_cast, Nat.reduceAdd, Nat.reduceSub, Nat.reduceMul, Nat.reduceLT, Nat.reduceLeDiff, Nat.reduceEqDiff, Int.reduceToNat, ↓reduceIte, List.take_of_length_le (show ts.length ≤ i by omega)]
theorem vars1_ac (t : Term) (hb : t.bulk ≤ 1099511627770) (H : List AObj) : ACall Tryz.prog 39 [.sl .none [encT t]] H (fun r H' => r = .sl .none (encN (varsP [t])) ∧ H' = H) := by
  have hs := t.size_le
  have hl := seenT_len [t] (0, [])
  have := varsOf_ac [t] (by simp) (by simp; omega) (by simp at hl ⊢; omega) H
  rw [varsOf_eq, encTs_cons, encTs_nil] at this
  exact this
end Ab
set_option maxRecDepth 10000
namespace Ab
open Go Go.Proofs
theorem countR_ac (t : Term) (v : List UInt8) : t.bulk ≤ 1099511627775 → ∀ H, ACall Tryz.prog 31 [encT t, .str v] H (fun r H' => r = .int .i64 (countP v t) ∧ H' = H) := by
  induction t using Term.ind with | _ n u xs ih
  intro hb H
  have hlen := Term.len_le (n := n) (v := u) (xs := xs)
  have hsz := (Term.mk n u xs).size_le
  rw [Term.size_mk] at hsz
  rw [countP_mk]
  have hround : ∀ i (h : i < xs.length), ((xs.take (i + 1)).map (countP v)).sum = ((xs.take i).map (countP v)).sum + countP v xs[i] := fun i h => by
    rw [List.take_succ_eq_append_getElem h, List.map_append, List.sum_append]; simp
  have hcb : ∀ i, 0 ≤ ((xs.take i).map (countP v)).sum ∧ ((xs.take i).map (countP v)).sum ≤ 1099511627775 := fun i => by
    have h1 := counts_bound v (xs.take i)
    have h2 := take_sum_le Term.size xs i
    omega
  have hone : oneP v n u = if u = true ∧ n = v then 1 else 0 := rfl
  cases u with
  | true =>
    by_cases hn : n = v
    · have h1 : oneP v n true = 1 := by rw [hone]; simp [hn]
      rw [h1]
      refine ACall_V (H.length) 28 [.tmp 4] Tryz.func31 rfl rfl rfl ?_
      simp only [push_cast, Nat.reduceAdd, Nat.reduceSub, Nat.reduceMul, Nat.reduceLT, Nat.reduceLeDiff, Nat.reduceEqDiff, Int.reduceToNat, ↓reduceIte]
      refine cI (fun _ => ?_) (fun h => absurd hn h)
      repeat refine ⟨by omega, ?_⟩
      refine AW_loopW (maskG 30 [1, 3, 11, 0, 0]) (fun (i : Nat) => [(5, .int .i64 (1 + ((xs.take i).map (countP v)).sum)), (19, .int .i64 i)]) (fun i => H ++ [.cells [.str n, .bool true, .sl .none (encTs xs)]]) (fun i => i ≤ xs.length) (fun i => xs.length - i) 0 (Nat.zero_le _) (by simp only [push_cast, Nat.reduceAdd, Nat.reduceSub, Nat.reduceMul, Nat.reduceLT, Nat.reduceLeDiff, Nat.reduceEqDiff, Int.reduceToNat, ↓reduceIte, List.take_zero, List.map_nil, List.sum_nil]; rfl) (fun i hi => ?_)
      simp only [push_cast, Nat.reduceAdd, Nat.reduceSub, Nat.reduceMul, Nat.reduceLT, Nat.reduceLeDiff, Nat.reduceEqDiff, Int.reduceToNat, ↓reduceIte]
      refine cI (fun h => ?_) (fun h => ?_)
      · repeat refine ⟨by omega, ?_⟩
        refine (ih _ (List.getElem_mem (by omega)) (arg_bulk hb i (by omega)) _).to ?_
        simp only [push_cast, Nat.reduceAdd, Nat.reduceSub, Nat.reduceMul, Nat.reduceLT, Nat.reduceLeDiff, Nat.reduceEqDiff, Int.reduceToNat, ↓reduceIte]
        have g1 := hcb i
        have g2 := hcb (i + 1)
        have g3 := hround i (by omega)
        repeat' first | refine ⟨by omega, ?_⟩ | refine cI (fun _ => ?_) (fun _ => ?_)
        exact loopW_n (i + 1) (by omega) (by omega) (by simp only [push_cast, Nat.reduceAdd, Nat.reduceSub, Nat.reduceMul, Nat.reduceLT, Nat.reduceLeDiff, Nat.reduceEqDiff, Int.reduceToNat, ↓reduceIte, g3, Int.add_assoc])
      · simp only [push_cast, Nat.reduceAdd, Nat.reduceSub, Nat.reduceMul, Nat.reduceLT, Nat.reduceLeDiff, Nat.reduceEqDiff, Int.reduceToNat, ↓reduceIte, List.take_of_length_le (show xs.length ≤ i by omega)]
    · have h1 : oneP v n true = 0 := by rw [hone]; simp [hn]
      rw [h1]
      refine ACall_V (H.length) 28 [.tmp 4] Tryz.func31 rfl rfl rfl ?_
      simp only [push_cast, Nat.reduceAdd, Nat.reduceSub, Nat.reduceMul, Nat.reduceLT, Nat.reduceLeDiff, Nat.reduceEqDiff, Int.reduceToNat, ↓reduceIte]
      refine cI (fun h => absurd h hn) (fun _ => ?_)
      refine AW_loopW (maskG 30 [1, 3, 11, 0, 0]) (fun (i : Nat) => [(5, .int .i64 (((xs.take i).map (countP v)).sum)), (19, .int .i64 i)]) (fun i => H ++ [.cells [.str n, .bool true, .sl .none (encTs xs)]]) (fun i => i ≤ xs.length) (fun i => xs.length - i) 0 (Nat.zero_le _) (by simp only [push_cast, Nat.reduceAdd, Nat.reduceSub, Nat.reduceMul, Nat.reduceLT, Nat.reduceLeDiff, Nat.reduceEqDiff, Int.reduceToNat, ↓reduceIte, List.take_zero, List.map_nil, List.sum_nil]) (fun i hi => ?_)
      simp only [push_cast, Nat.reduceAdd, Nat.reduceSub, Nat.reduceMul, Nat.reduceLT, Nat.reduceLeDiff, Nat.reduceEqDiff, Int.reduceToNat, ↓reduceIte]
      refine cI (fun h => ?_) (fun h => ?_)
      · repeat refine ⟨by omega, ?_⟩
        refine (ih _ (List.getElem_mem (by omega)) (arg_bulk hb i (by omega)) _).to ?_
        simp only [push_cast, Nat.reduceAdd, Nat.reduceSub, Nat.reduceMul, Nat.reduceLT, Nat.reduceLeDiff, Nat.reduceEqDiff, Int.reduceToNat, ↓reduceIte]
        have g1 := hcb i
        have g2 := hcb (i + 1)
        have g3 := hround i (by omega)
        repeat' first | refine ⟨by omega, ?_⟩ | refine cI (fun _ => ?_) (fun _ => ?_)
        exact loopW_n (i + 1) (by omega) (by omega) (by simp only [push_cast, Nat.reduceAdd, Nat.reduceSub, Nat.reduceMul, Nat.reduceLT, Nat.reduceLeDiff, Nat.reduceEqDiff, Int.reduceToNat, ↓reduceIte, g3])
      · simp only [push_cast, Nat.reduceAdd, Nat.reduceSub, Nat.reduceMul, Nat.reduceLT, Nat.reduceLeDiff, Nat.reduceEqDiff, Int.reduceToNat, ↓reduceIte, List.take_of_length_le (show xs.length ≤ i by omega), Int.zero_add]
  | false =>
    have h1 : oneP v n false = 0 := by rw [hone]; simp
    rw [h1]
    refine ACall_V (H.length) 28 [.tmp 4] Tryz.func31 rfl rfl rfl ?_
    simp only [push_cast, Nat.reduceAdd, Nat.reduceSub, Nat.reduceMul, Nat.reduceLT, Nat.reduceLeDiff, Nat.reduceEqDiff, Int.reduceToNat, ↓reduceIte]
    refine AW_loopW (maskG 30 [1, 3, 11, 0, 0]) (fun (i : Nat) => [(5, .int .i64 (((xs.take i).map (countP v)).sum)), (19, .int .i64 i)]) (fun i => H ++ [.cells [.str n, .bool false, .sl .none (encTs xs)]]) (fun i => i ≤ xs.length) (fun i => xs.length - i) 0 (Nat.zero_le _) (by simp only [push_cast, Nat.reduceAdd, Nat.reduceSub, Nat.reduceMul, Nat.reduceLT, Nat.reduceLeDiff, Nat.reduceEqDiff, Int.reduceToNat, ↓reduceIte, List.take_zero, List.map_nil, List.sum_nil]) (fun i hi => ?_)
    simp only [push_cast, Nat.reduceAdd, Nat.reduceSub, Nat.reduceMul, Nat.reduceLT, Nat.reduceLeDiff, Nat.reduceEqDiff, Int.reduceToNat, ↓reduceIte]
    refine cI (fun h => ?_) (fun h => ?_)
    · repeat refine ⟨by omega, ?_⟩
      refine (ih _ (List.getElem_mem (by omega)) (arg_bulk hb i (by omega)) _).to ?_
      simp only [push_cast, Nat.reduceAdd, Nat.reduceSub, Nat.reduceMul, Nat.reduceLT, Nat.reduceLeDiff, Nat.reduceEqDiff, Int.reduceToNat, ↓reduceIte]
      have g1 := hcb i
      have g2 := hcb (i + 1)
      have g3 := hround i (by omega)
      repeat' first | refine ⟨by omega, ?_⟩ | refine cI (fun _ => ?_) (fun _ => ?_)
      exact loopW_n (i + 1) (by omega) (by omega) (by simp only [push_cast, Nat.reduceAdd, Nat.reduceSub, Nat.reduceMul, Nat.reduceLT, Nat.reduceLeDiff, Nat.reduceEqDiff, Int.reduceToNat, ↓reduceIte, g3])
    · simp only [push_cast, Nat.reduceAdd, Nat.reduceSub, Nat.reduceMul, Nat.reduceLT, Nat.reduceLeDiff, Nat.reduceEqDiff, Int.reduceToNat, ↓reduceIte, List.take_of_length_le (show xs.length ≤ i by omega), Int.zero_add]
end Ab
set_option maxRecDepth 10000
namespace Ab
open Go Go.Proofs
@[reducible] def encRu (r : Term × Term) : AV := .agg [.str r.1.name, .bool r.1.var, .sl .none (encTs r.1.args), .str r.2.name, .bool r.2.var, .sl .none (encTs r.2.args)]
theorem uniRu (l : List (Term × Term)) : Uni (5 + 1) (encL encRu l) = True := eq_true (uni_encL (enc := encRu) (k := 6) (fun _ => rfl) l)
theorem scRu_ (n : Nat) (l : List (Term × Term)) : ScopedL n (encL encRu l) = True := eq_true (scoped_encL (fun x => by simp [Scoped, ScopedL, scoped_encTs]) l)
attribute [push_cast] uniRu scRu_
theorem firstErr_drop : ∀ (ts : List Term) (i : Nat), firstErr (ts.take i) = 0 → firstErr ts = firstErr (ts.drop i)
  | ts, 0, _ => rfl
  | [], _ + 1, _ => rfl
  | a :: r, i + 1, h => by
    simp only [List.take_succ_cons, firstErr] at h
    by_cases h0 : checkP a = 0
    · simp only [h0, if_true] at h
      simp only [firstErr, h0, if_true, List.drop_succ_cons]
      exact firstErr_drop r i h
    · rw [if_neg h0] at h; exact absurd h h0
theorem firstErr_take : ∀ (ts : List Term) (i : Nat) (hi : i < ts.length), firstErr (ts.take i) = 0 → checkP ts[i] = 0 → firstErr (ts.take (i + 1)) = 0
  | [], _, hi, _, _ => absurd hi (by simp)
  | a :: r, 0, _, _, h => by have h' : checkP a = 0 := h
                             simp [firstErr, h']
  | a :: r, i + 1, hi, h, h2 => by
    simp only [List.take_succ_cons, firstErr] at h ⊢
    by_cases h0 : checkP a = 0
    · simp only [h0, if_true] at h ⊢; exact firstErr_take r i (by simpa using hi) h (by simpa using h2)
    · rw [if_neg h0] at h; exact absurd h h0
theorem firstErr_iff : ∀ ts : List Term, firstErr ts = 0 ↔ ∀ t, t ∈ ts → checkP t = 0
  | [] => by simp [firstErr]
  | t :: r => by
    have ih := firstErr_iff r
    unfold firstErr
    by_cases h : checkP t = 0 <;> simp [h, ih]
theorem firstErr_app : ∀ a b : List Term, firstErr (a ++ b) = if firstErr a = 0 then firstErr b else firstErr a
  | [], b => by simp [firstErr]
  | t :: a, b => by
    have ih := firstErr_app a b
    rw [List.cons_append, firstErr, firstErr, ih]
    by_cases h : checkP t = 0 <;> simp [h]
theorem firstErr_at (ts : List Term) (i : Nat) (h : i < ts.length) (h0 : firstErr (ts.take i) = 0) (he : ¬ checkP ts[i] = 0) : firstErr ts = checkP ts[i] := by
  rw [firstErr_drop _ i h0, List.drop_eq_getElem_cons h]
  simp only [firstErr, he, if_false]
theorem all_ac (ts : List Term) (hlen : ts.length < 1099511627776) (hb : ∀ t, t ∈ ts → t.bulk ≤ 1099511627775) (H : List AObj) : ACall Tryz.prog 36 [.sl .none (encTs ts)] H (fun r H' => r = .int .i64 (firstErr ts) ∧ H' = H) := by
  refine ACall_V (H.length) 17 [.tmp 2] Tryz.func36 rfl rfl rfl ?_
  simp only [push_cast, Nat.reduceAdd, Nat.reduceSub, Nat.reduceMul, Nat.reduceLT, Nat.reduceLeDiff, Nat.reduceEqDiff, Int.reduceToNat, ↓reduceIte]
  refine AW_loopW (maskG 18 [6, 0, 0]) (fun (j : Nat) => [(8, .int .i64 j)]) (fun _ => H) (fun j => j ≤ ts.length ∧ firstErr (ts.take j) = 0) (fun j => ts.length - j) 0 ⟨Nat.zero_le _, rfl⟩ (by simp only [push_cast, Nat.reduceAdd, Nat.reduceSub, Nat.reduceMul, Nat.reduceLT, Nat.reduceLeDiff, Nat.reduceEqDiff, Int.reduceToNat, ↓reduceIte]) (fun j hj => ?_)
  simp only [push_cast, Nat.reduceAdd, Nat.reduceSub, Nat.reduceMul, Nat.reduceLT, Nat.reduceLeDiff, Nat.reduceEqDiff, Int.reduceToNat, ↓reduceIte]
  refine cI (fun h2 => ?_) (fun h2 => ?_)
  · repeat refine ⟨by omega, ?_⟩
    have hjl : j < ts.length := by omega
    refine (check_ac (ts[j]'hjl) (hb _ (List.getElem_mem hjl)) _).to ?_
    simp only [push_cast, Nat.reduceAdd, Nat.reduceSub, Nat.reduceMul, Nat.reduceLT, Nat.reduceLeDiff, Nat.reduceEqDiff, Int.reduceToNat, ↓reduceIte]
    refine cI (fun he => ?_) (fun he => ?_)
    · repeat' first | refine ⟨by omega, ?_⟩ | refine cI (fun _ => ?_) (fun _ => ?_)
      exact loopW_n (j + 1) ⟨by omega, firstErr_take _ j hjl hj.2 he⟩ (by omega) (by simp only [push_cast, Nat.reduceAdd, Nat.reduceSub, Nat.reduceMul, Nat.reduceLT, Nat.reduceLeDiff, Nat.reduceEqDiff, Int.reduceToNat, ↓reduceIte])
    · simp only [push_cast, Nat.reduceAdd, Nat.reduceSub, Nat.reduceMul, Nat.reduceLT, Nat.reduceLeDiff, Nat.reduceEqDiff, Int.reduceToNat, ↓reduceIte, firstErr_at ts j hjl hj.2 he]
  · have e := hj.2
    rw [List.take_of_length_le (by omega)] at e
    simp only [push_cast, Nat.reduceAdd, Nat.reduceSub, Nat.reduceMul, Nat.reduceLT, Nat.reduceLeDiff, Nat.reduceEqDiff, Int.reduceToNat, ↓reduceIte, e]
theorem allR_ac (ts : List Term) (hlen : ts.length < 1099511627776) (hb : ∀ t, t ∈ ts → t.bulk ≤ 1099511627775) (H : List AObj) : ACall Tryz.prog 29 [.sl .none (encTs ts)] H (fun r H' => r = .int .i64 (firstErr ts) ∧ H' = H) := by
  refine ACall_V (H.length) 17 [.tmp 2] Tryz.func29 rfl rfl rfl ?_
  simp only [push_cast, Nat.reduceAdd, Nat.reduceSub, Nat.reduceMul, Nat.reduceLT, Nat.reduceLeDiff, Nat.reduceEqDiff, Int.reduceToNat, ↓reduceIte]
  refine AW_loopW (maskG 18 [6, 0, 0]) (fun (j : Nat) => [(8, .int .i64 j)]) (fun _ => H) (fun j => j ≤ ts.length ∧ firstErr (ts.take j) = 0) (fun j => ts.length - j) 0 ⟨Nat.zero_le _, rfl⟩ (by simp only [push_cast, Nat.reduceAdd, Nat.reduceSub, Nat.reduceMul, Nat.reduceLT, Nat.reduceLeDiff, Nat.reduceEqDiff, Int.reduceToNat, ↓reduceIte]) (fun j hj => ?_)
  simp only [push_cast, Nat.reduceAdd, Nat.reduceSub, Nat.reduceMul, Nat.reduceLT, Nat.reduceLeDiff, Nat.reduceEqDiff, Int.reduceToNat, ↓reduceIte]
  refine cI (fun h2 => ?_) (fun h2 => ?_)
  · repeat refine ⟨by omega, ?_⟩
    have hjl : j < ts.length := by omega
    refine (checkR_ac (ts[j]'hjl) (hb _ (List.getElem_mem hjl)) _).to ?_
    simp only [push_cast, Nat.reduceAdd, Nat.reduceSub, Nat.reduceMul, Nat.reduceLT, Nat.reduceLeDiff, Nat.reduceEqDiff, Int.reduceToNat, ↓reduceIte]
    refine cI (fun he => ?_) (fun he => ?_)
    · repeat' first | refine ⟨by omega, ?_⟩ | refine cI (fun _ => ?_) (fun _ => ?_)
      exact loopW_n (j + 1) ⟨by omega, firstErr_take _ j hjl hj.2 he⟩ (by omega) (by simp only [push_cast, Nat.reduceAdd, Nat.reduceSub, Nat.reduceMul, Nat.reduceLT, Nat.reduceLeDiff, Nat.reduceEqDiff, Int.reduceToNat, ↓reduceIte])
    · simp only [push_cast, Nat.reduceAdd, Nat.reduceSub, Nat.reduceMul, Nat.reduceLT, Nat.reduceLeDiff, Nat.reduceEqDiff, Int.reduceToNat, ↓reduceIte, firstErr_at ts j hjl hj.2 he]
  · have e := hj.2
    rw [List.take_of_length_le (by omega)] at e
    simp only [push_cast, Nat.reduceAdd, Nat.reduceSub, Nat.reduceMul, Nat.reduceLT, Nat.reduceLeDiff, Nat.reduceEqDiff, Int.reduceToNat, ↓reduceIte, e]
def rT (rs : List (Term × Term)) : List Term := rs.flatMap fun r => [r.1, r.2]
theorem rT_take (rs : List (Term × Term)) (i : Nat) (h : i < rs.length) : rT (rs.take (i + 1)) = rT (rs.take i) ++ [rs[i].1, rs[i].2] := by
  unfold rT; rw [List.take_succ_eq_append_getElem h, List.flatMap_append]; simp
theorem rT_split (rs : List (Term × Term)) (i : Nat) (h : i < rs.length) : rT rs = rT (rs.take i) ++ ([rs[i].1, rs[i].2] ++ rT (rs.drop (i + 1))) := by
  have : rs = rs.take i ++ (rs[i] :: rs.drop (i + 1)) := by rw [← List.drop_eq_getElem_cons h, List.take_append_drop]
  have h2 := congrArg rT this
  rw [h2]
  unfold rT; rw [List.flatMap_append, List.flatMap_cons]
theorem rT_nil : rT [] = [] := (rfl)
theorem mem_rT {rs : List (Term × Term)} {t : Term} : t ∈ rT rs ↔ ∃ r, r ∈ rs ∧ (t = r.1 ∨ t = r.2) := by
  unfold rT; rw [List.mem_flatMap]
  constructor
  · rintro ⟨r, hr, h⟩; simp at h; exact ⟨r, hr, h⟩
  · rintro ⟨r, hr, h⟩; exact ⟨r, hr, by simp; exact h⟩
def rulesP (rs : List (Term × Term)) : Int := if rs.length > 64 then 3 else firstErr (rT rs)
theorem checkRules_ac (rs : List (Term × Term)) (hlen : rs.length < 1099511627776) (hb : ∀ r, r ∈ rs → r.1.bulk ≤ 1099511627775 ∧ r.2.bulk ≤ 1099511627775) (H : List AObj) : ACall Tryz.prog 15 [.sl .none (encL encRu rs)] H (fun r H' => r = .int .i64 (rulesP rs) ∧ H' = H) := by
  refine ACall_V (H.length) 24 [.tmp 2] Tryz.func15 rfl rfl rfl ?_
  simp only [push_cast, Nat.reduceAdd, Nat.reduceSub, Nat.reduceMul, Nat.reduceLT, Nat.reduceLeDiff, Nat.reduceEqDiff, Int.reduceToNat, ↓reduceIte]
  refine cI (fun h0 => ?_) (fun h0 => ?_)
  · have e : rulesP rs = 3 := by unfold rulesP; rw [if_pos (by omega)]
    simp only [push_cast, Nat.reduceAdd, Nat.reduceSub, Nat.reduceMul, Nat.reduceLT, Nat.reduceLeDiff, Nat.reduceEqDiff, Int.reduceToNat, ↓reduceIte, e]
  · have hP : rulesP rs = firstErr (rT rs) := by unfold rulesP; rw [if_neg (by omega)]
    refine AW_loopW (maskG 25 [9, 0, 0]) (fun (i : Nat) => [(11, .int .i64 i)]) (fun _ => H) (fun i => i ≤ rs.length ∧ firstErr (rT (rs.take i)) = 0) (fun i => rs.length - i) 0 ⟨Nat.zero_le _, rfl⟩ (by simp only [push_cast, Nat.reduceAdd, Nat.reduceSub, Nat.reduceMul, Nat.reduceLT, Nat.reduceLeDiff, Nat.reduceEqDiff, Int.reduceToNat, ↓reduceIte]) (fun i hi => ?_)
    simp only [push_cast, Nat.reduceAdd, Nat.reduceSub, Nat.reduceMul, Nat.reduceLT, Nat.reduceLeDiff, Nat.reduceEqDiff, Int.reduceToNat, ↓reduceIte]
    refine cI (fun h => ?_) (fun h => ?_)
    · repeat refine ⟨by omega, ?_⟩
      have hil : i < rs.length := by omega
      have hbi := hb _ (List.getElem_mem hil)
      have hal := fun H => all_ac [(rs[i]'hil).1, (rs[i]'hil).2] (by simp) (by intro t ht; simp at ht; rcases ht with rfl | rfl; exact hbi.1; exact hbi.2) H
      rw [encTs_cons, encTs_cons, encTs_nil] at hal
      refine (hal _).to ?_
      simp only [push_cast, Nat.reduceAdd, Nat.reduceSub, Nat.reduceMul, Nat.reduceLT, Nat.reduceLeDiff, Nat.reduceEqDiff, Int.reduceToNat, ↓reduceIte]
      refine cI (fun he => ?_) (fun he => ?_)
      · repeat' first | refine ⟨by omega, ?_⟩ | refine cI (fun _ => ?_) (fun _ => ?_)
        refine loopW_n (i + 1) ⟨by omega, ?_⟩ (by omega) (by simp only [push_cast, Nat.reduceAdd, Nat.reduceSub, Nat.reduceMul, Nat.reduceLT, Nat.reduceLeDiff, Nat.reduceEqDiff, Int.reduceToNat, ↓reduceIte])
        rw [rT_take rs i hil, firstErr_app, if_pos hi.2]; exact he
      · have e : firstErr (rT rs) = firstErr [(rs[i]'hil).1, (rs[i]'hil).2] := by
          rw [rT_split rs i hil, firstErr_app, if_pos hi.2, firstErr_app, if_neg he]
        simp only [push_cast, Nat.reduceAdd, Nat.reduceSub, Nat.reduceMul, Nat.reduceLT, Nat.reduceLeDiff, Nat.reduceEqDiff, Int.reduceToNat, ↓reduceIte, hP, e]
    · have e := hi.2
      rw [List.take_of_length_le (by omega)] at e
      simp only [push_cast, Nat.reduceAdd, Nat.reduceSub, Nat.reduceMul, Nat.reduceLT, Nat.reduceLeDiff, Nat.reduceEqDiff, Int.reduceToNat, ↓reduceIte, hP, e]
theorem rulesR_ac (rs : List (Term × Term)) (hlen : rs.length < 1099511627776) (hb : ∀ r, r ∈ rs → r.1.bulk ≤ 1099511627775 ∧ r.2.bulk ≤ 1099511627775) (H : List AObj) : ACall Tryz.prog 9 [.sl .none (encL encRu rs)] H (fun r H' => r = .int .i64 (rulesP rs) ∧ H' = H) := by
  refine ACall_V (H.length) 24 [.tmp 2] Tryz.func9 rfl rfl rfl ?_
  simp only [push_cast, Nat.reduceAdd, Nat.reduceSub, Nat.reduceMul, Nat.reduceLT, Nat.reduceLeDiff, Nat.reduceEqDiff, Int.reduceToNat, ↓reduceIte]
  refine cI (fun h0 => ?_) (fun h0 => ?_)
  · have e : rulesP rs = 3 := by unfold rulesP; rw [if_pos (by omega)]
    simp only [push_cast, Nat.reduceAdd, Nat.reduceSub, Nat.reduceMul, Nat.reduceLT, Nat.reduceLeDiff, Nat.reduceEqDiff, Int.reduceToNat, ↓reduceIte, e]
  · have hP : rulesP rs = firstErr (rT rs) := by unfold rulesP; rw [if_neg (by omega)]
    refine AW_loopW (maskG 25 [9, 0, 0]) (fun (i : Nat) => [(11, .int .i64 i)]) (fun _ => H) (fun i => i ≤ rs.length ∧ firstErr (rT (rs.take i)) = 0) (fun i => rs.length - i) 0 ⟨Nat.zero_le _, rfl⟩ (by simp only [push_cast, Nat.reduceAdd, Nat.reduceSub, Nat.reduceMul, Nat.reduceLT, Nat.reduceLeDiff, Nat.reduceEqDiff, Int.reduceToNat, ↓reduceIte]) (fun i hi => ?_)
    simp only [push_cast, Nat.reduceAdd, Nat.reduceSub, Nat.reduceMul, Nat.reduceLT, Nat.reduceLeDiff, Nat.reduceEqDiff, Int.reduceToNat, ↓reduceIte]
    refine cI (fun h => ?_) (fun h => ?_)
    · repeat refine ⟨by omega, ?_⟩
      have hil : i < rs.length := by omega
      have hbi := hb _ (List.getElem_mem hil)
      have hal := fun H => allR_ac [(rs[i]'hil).1, (rs[i]'hil).2] (by simp) (by intro t ht; simp at ht; rcases ht with rfl | rfl; exact hbi.1; exact hbi.2) H
      rw [encTs_cons, encTs_cons, encTs_nil] at hal
      refine (hal _).to ?_
      simp only [push_cast, Nat.reduceAdd, Nat.reduceSub, Nat.reduceMul, Nat.reduceLT, Nat.reduceLeDiff, Nat.reduceEqDiff, Int.reduceToNat, ↓reduceIte]
      refine cI (fun he => ?_) (fun he => ?_)
      · repeat' first | refine ⟨by omega, ?_⟩ | refine cI (fun _ => ?_) (fun _ => ?_)
        refine loopW_n (i + 1) ⟨by omega, ?_⟩ (by omega) (by simp only [push_cast, Nat.reduceAdd, Nat.reduceSub, Nat.reduceMul, Nat.reduceLT, Nat.reduceLeDiff, Nat.reduceEqDiff, Int.reduceToNat, ↓reduceIte])
        rw [rT_take rs i hil, firstErr_app, if_pos hi.2]; exact he
      · have e : firstErr (rT rs) = firstErr [(rs[i]'hil).1, (rs[i]'hil).2] := by
          rw [rT_split rs i hil, firstErr_app, if_pos hi.2, firstErr_app, if_neg he]
        simp only [push_cast, Nat.reduceAdd, Nat.reduceSub, Nat.reduceMul, Nat.reduceLT, Nat.reduceLeDiff, Nat.reduceEqDiff, Int.reduceToNat, ↓reduceIte, hP, e]
    · have e := hi.2
      rw [List.take_of_length_le (by omega)] at e
      simp only [push_cast, Nat.reduceAdd, Nat.reduceSub, Nat.reduceMul, Nat.reduceLT, Nat.reduceLeDiff, Nat.reduceEqDiff, Int.reduceToNat, ↓reduceIte, hP, e]
end Ab
set_option maxRecDepth 10000
namespace Ab
open Go Go.Proofs Go.Proofs.YtakpnikkcinckaaGreatDoor
section
variable {H : Type}
theorem kdRule : kindOf Tryz.prog 38 = .struct [36, 36] := by kernel_rfl
theorem kdRules : kindOf Tryz.prog 22 = .slice 38 := by kernel_rfl
theorem agRule : aggK Tryz.prog 38 = true := by unfold aggK; rw [kdRule]
theorem len_sum {α : Type} (f : α → Nat) (xs : List α) {k : Nat} (h : (xs.map fun x => f x + 1).sum ≤ k) : xs.length ≤ k ∧ ∀ x, x ∈ xs → f x ≤ k := by
  induction xs generalizing k with
  | nil => simp
  | cons a r ih =>
    simp only [List.map_cons, List.sum_cons] at h
    obtain ⟨h1, h2⟩ := ih (k := k - (f a + 1)) (by omega)
    refine ⟨by simp; omega, fun x hx => ?_⟩
    rcases List.mem_cons.1 hx with rfl | hx
    · omega
    · have := h2 x hx; omega
theorem rule_form (n : Nat) (d : DataW H) (avs : List AV) (h : toAV Tryz.prog n 38 d = some avs) : ∃ r : Term × Term, .agg avs = encRu r ∧ r.1.bulk + r.2.bulk + 1 ≤ Rows.uptoBulk d := by
  obtain ⟨m, parts, avss, rfl, rfl, hl, hm, rfl⟩ := toAV_struct kdRule h
  match parts, hl, hm with
  | [d1, d2], _, hm =>
    obtain ⟨h1, h2⟩ := mapM_get hm
    match avss, h1, h2 with
    | [a1, a2], _, h2 =>
      obtain ⟨a, e1, b1⟩ := term_form m d1 a1 (h2 0 (by simp) (by simp))
      obtain ⟨b, e2, b2⟩ := term_form m d2 a2 (h2 1 (by simp) (by simp))
      injection e1 with e1; injection e2 with e2
      subst e1; subst e2
      exact ⟨(a, b), by simp, by simp only [Rows.uptoBulk, Rows.uptoBulkAll]; omega⟩
theorem rules_form (n : Nat) (d : DataW H) (avs : List AV) (h : toAV Tryz.prog n 22 d = some avs) : ∃ rs : List (Term × Term), avs = [.sl .none (encL encRu rs)] ∧ rs.length ≤ Rows.uptoBulk d ∧ ∀ r, r ∈ rs → r.1.bulk + r.2.bulk ≤ Rows.uptoBulk d := by
  obtain ⟨xs, ds, e3, hw, _, hd⟩ := row_form (fun r : Term × Term => encRu r) (fun r => r.1.bulk + r.2.bulk + 1) Rows.uptoBulk kdRules (n := n) (fun k d avs _ he => by
    obtain ⟨t, x1, x2⟩ := rule_form k d avs he
    exact ⟨t, by rw [agRule]; exact x1, x2⟩) h
  have hb := bulk_row hd
  have := len_sum (fun r : Term × Term => r.1.bulk + r.2.bulk) xs (k := Rows.uptoBulk d) (by omega)
  exact ⟨xs, e3, this.1, this.2⟩
end
end Ab
set_option maxRecDepth 10000
namespace Ab
open Go Go.Proofs
theorem marked_suffix (s : List UInt8) : decide (([35] : List UInt8).length ≤ s.length ∧ s.drop (s.length - ([35] : List UInt8).length) = [35]) = markedP s := by
  unfold markedP
  rw [Bool.eq_iff_iff, decide_eq_true_eq, decide_eq_true_eq]
  rcases List.eq_nil_or_concat s with rfl | ⟨l, a, rfl⟩
  · simp
  · simp
theorem stringsHasSuffix_ac (s suf : List UInt8) (H : List AObj) (h1 : s.length < 1099511627776) (h2 : suf.length < 1099511627776) :
    ACall Tryz.prog 37 [.str s, .str suf] H (fun r H' => r = .bool (decide (suf.length ≤ s.length ∧ s.drop (s.length - suf.length) = suf)) ∧ H' = H) := by
  refine ACall_V (H.length) 6 [.tmp 4] Tryz.func37 rfl rfl rfl ?_
  simp only [push_cast, Nat.reduceAdd, Nat.reduceSub, Nat.reduceMul, Nat.reduceLT, Nat.reduceLeDiff, Nat.reduceEqDiff, Int.reduceToNat, ↓reduceIte]
  refine (hasSuffix_ac s suf _ h1 h2).to ?_
  simp only [push_cast, Nat.reduceAdd, Nat.reduceSub, Nat.reduceMul, Nat.reduceLT, Nat.reduceLeDiff, Nat.reduceEqDiff, Int.reduceToNat, ↓reduceIte]
theorem markedT_ac (s : List UInt8) (h1 : s.length < 1099511627776) (H : List AObj) : ACall Tryz.prog 16 [.str s] H (fun r H' => r = .bool (markedP s) ∧ H' = H) := by
  rw [← marked_suffix]
  refine ACall_V (H.length) 4 [.tmp 2] Tryz.func16 rfl rfl rfl ?_
  simp only [push_cast, Nat.reduceAdd, Nat.reduceSub, Nat.reduceMul, Nat.reduceLT, Nat.reduceLeDiff, Nat.reduceEqDiff, Int.reduceToNat, ↓reduceIte]
  refine (stringsHasSuffix_ac s [35] _ h1 (by decide)).to ?_
  simp only [push_cast, Nat.reduceAdd, Nat.reduceSub, Nat.reduceMul, Nat.reduceLT, Nat.reduceLeDiff, Nat.reduceEqDiff, Int.reduceToNat, ↓reduceIte]
theorem indexS_ac (l : List (List UInt8)) (v : List UInt8) (hlen : l.length < 1099511627776) (H : List AObj) :
    ACall Tryz.prog 69 [.sl .none (encN l), .str v] H (fun r H' => ∃ n : Int, r = .int .i64 n ∧ (0 ≤ n ↔ v ∈ l) ∧ H' = H) := by
  refine ACall_W (H.length) 17 [.tmp 4] Tryz.func69 rfl rfl rfl ?_
  simp only [push_cast, Nat.reduceAdd, Nat.reduceSub, Nat.reduceMul, Nat.reduceLT, Nat.reduceLeDiff, Nat.reduceEqDiff, Int.reduceToNat, ↓reduceIte]
  refine AW_loopW (maskG 19 [0, 0, 5, 0]) (fun (i : Nat) => [(8, .int .i64 i)]) (fun _ => H) (fun i => i ≤ l.length ∧ ¬ v ∈ l.take i) (fun i => l.length - i) 0 ⟨Nat.zero_le _, by simp⟩ (by simp only [push_cast, Nat.reduceAdd, Nat.reduceSub, Nat.reduceMul, Nat.reduceLT, Nat.reduceLeDiff, Nat.reduceEqDiff, Int.reduceToNat, ↓reduceIte]) (fun i hi => ?_)
  simp only [push_cast, Nat.reduceAdd, Nat.reduceSub, Nat.reduceMul, Nat.reduceLT, Nat.reduceLeDiff, Nat.reduceEqDiff, Int.reduceToNat, ↓reduceIte]
  refine cI (fun h => ?_) (fun h => ?_)
  · repeat refine ⟨by omega, ?_⟩
    have hil : i < l.length := by omega
    refine cI (fun hp => ?_) (fun hp => ?_)
    · exact ⟨i, rfl, ⟨fun _ => by rw [hp]; exact List.getElem_mem hil, fun _ => by omega⟩⟩
    · repeat refine ⟨by omega, ?_⟩
      refine loopW_n (i + 1) ⟨by omega, ?_⟩ (by omega) (by simp only [push_cast, Nat.reduceAdd, Nat.reduceSub, Nat.reduceMul, Nat.reduceLT, Nat.reduceLeDiff, Nat.reduceEqDiff, Int.reduceToNat, ↓reduceIte])
      rw [List.take_succ_eq_append_getElem hil, List.mem_append, List.mem_singleton]
      rintro (h1 | h1)
      · exact hi.2 h1
      · exact hp h1
  · have hs : l.take i = l := List.take_of_length_le (by omega)
    rw [hs] at hi
    exact ⟨-1, rfl, ⟨by omega, fun h => absurd h hi.2⟩⟩
theorem containsS_ac (l : List (List UInt8)) (v : List UInt8) (hlen : l.length < 1099511627776) (H : List AObj) :
    ACall Tryz.prog 42 [.sl .none (encN l), .str v] H (fun r H' => r = .bool (decide (v ∈ l)) ∧ H' = H) := by
  refine ACall_V (H.length) 7 [.tmp 4] Tryz.func42 rfl rfl rfl ?_
  simp only [push_cast, Nat.reduceAdd, Nat.reduceSub, Nat.reduceMul, Nat.reduceLT, Nat.reduceLeDiff, Nat.reduceEqDiff, Int.reduceToNat, ↓reduceIte]
  refine (indexS_ac l v hlen _).mono ?_
  rintro r H' ⟨n, rfl, hn, rfl⟩
  simp only [push_cast, Nat.reduceAdd, Nat.reduceSub, Nat.reduceMul, Nat.reduceLT, Nat.reduceLeDiff, Nat.reduceEqDiff, Int.reduceToNat, ↓reduceIte, hn]
theorem extraC_ac (v : List UInt8) (L : List (List UInt8)) (hlen : L.length < 1099511627776) (H : List AObj) (o : AObj) :
    ACall Tryz.prog 41 [.str v, .ptr (H.length + 1) 0] (H ++ [o, .cells [.sl .none (encN L)]]) (fun r H' => r = .bool (!decide (v ∈ L)) ∧ H' = H ++ [o, .cells [.sl .none (encN L)]]) := by
  refine ACall_V (H.length + 2) 6 [.tmp 3] Tryz.func41 rfl rfl rfl ?_
  simp only [push_cast, Nat.reduceAdd, Nat.reduceSub, Nat.reduceMul, Nat.reduceLT, Nat.reduceLeDiff, Nat.reduceEqDiff, Int.reduceToNat, ↓reduceIte]
  refine (containsS_ac L v hlen _).to ?_
  simp only [push_cast, Nat.reduceAdd, Nat.reduceSub, Nat.reduceMul, Nat.reduceLT, Nat.reduceLeDiff, Nat.reduceEqDiff, Int.reduceToNat, ↓reduceIte]
  rw [show H.length + 2 = (H ++ [o, .cells [.sl .none (encN L)]]).length from by simp]
  exact outok_self
theorem indexN_ac (l : List (List UInt8)) (g : Nat) (caps : List AV) (p : List UInt8 → Bool) (H : List AObj) (hlen : l.length < 1099511627776) (hg : callOk Tryz.prog g = true) (hsc : ScopedL H.length caps)
    (hf : ∀ i (h : i < l.length), ACall Tryz.prog g (.str l[i] :: caps) H (fun r H' => r = .bool (p l[i]) ∧ H' = H)) :
    ACall Tryz.prog 68 [.sl .none (encN l), .fn g caps] H (fun r H' => ∃ n : Int, r = .int .i64 n ∧ (0 ≤ n ↔ l.any p = true) ∧ H' = H) := by
  refine ACall_W (H.length) 17 [.tmp 4] Tryz.func68 rfl rfl rfl ?_
  simp only [push_cast, Nat.reduceAdd, Nat.reduceSub, Nat.reduceMul, Nat.reduceLT, Nat.reduceLeDiff, Nat.reduceEqDiff, Int.reduceToNat, ↓reduceIte]
  refine AW_loopW (maskG 19 [0, 0, 5, 0]) (fun (i : Nat) => [(8, .int .i64 i)]) (fun _ => H) (fun i => i ≤ l.length ∧ (l.take i).any p = false) (fun i => l.length - i) 0 ⟨Nat.zero_le _, by simp⟩ (by simp only [push_cast, Nat.reduceAdd, Nat.reduceSub, Nat.reduceMul, Nat.reduceLT, Nat.reduceLeDiff, Nat.reduceEqDiff, Int.reduceToNat, ↓reduceIte, hsc]) (fun i hi => ?_)
  simp only [push_cast, Nat.reduceAdd, Nat.reduceSub, Nat.reduceMul, Nat.reduceLT, Nat.reduceLeDiff, Nat.reduceEqDiff, Int.reduceToNat, ↓reduceIte, hg]
  refine cI (fun h => ⟨by omega, (hf i (by omega)).to ?_⟩) (fun h => ?_)
  · simp only [push_cast, Nat.reduceAdd, Nat.reduceSub, Nat.reduceMul, Nat.reduceLT, Nat.reduceLeDiff, Nat.reduceEqDiff, Int.reduceToNat, ↓reduceIte]
    refine cI (fun hp => ?_) (fun hp => ⟨by omega, loopW_n (i + 1) ⟨by omega, any_take_false hi.2 (by omega) (by simpa using hp)⟩ (by omega) (by simp only [push_cast, Nat.reduceAdd, Nat.reduceSub, Nat.reduceMul, Nat.reduceLT, Nat.reduceLeDiff, Nat.reduceEqDiff, Int.reduceToNat, ↓reduceIte, hsc])⟩)
    exact ⟨i, rfl, ⟨fun _ => any_get (by omega) hp, fun _ => by omega⟩⟩
  · have hs : l.take i = l := List.take_of_length_le (by omega)
    rw [hs] at hi
    exact ⟨-1, rfl, ⟨by omega, fun h => by rw [hi.2] at h; cases h⟩⟩
theorem containsN_ac (l : List (List UInt8)) (g : Nat) (caps : List AV) (p : List UInt8 → Bool) (H : List AObj) (hlen : l.length < 1099511627776) (hg : callOk Tryz.prog g = true) (hsc : ScopedL H.length caps)
    (hf : ∀ i (h : i < l.length), ACall Tryz.prog g (.str l[i] :: caps) H (fun r H' => r = .bool (p l[i]) ∧ H' = H)) :
    ACall Tryz.prog 40 [.sl .none (encN l), .fn g caps] H (fun r H' => r = .bool (l.any p) ∧ H' = H) := by
  refine ACall_W (H.length) 7 [.tmp 4] Tryz.func40 rfl rfl rfl ?_
  simp only [push_cast, Nat.reduceAdd, Nat.reduceSub, Nat.reduceMul, Nat.reduceLT, Nat.reduceLeDiff, Nat.reduceEqDiff, Int.reduceToNat, ↓reduceIte]
  refine (indexN_ac _ g caps p _ hlen hg hsc hf).mono ?_
  rintro r H ⟨n, rfl, hn, rfl⟩
  simp only [push_cast, Nat.reduceAdd, Nat.reduceSub, Nat.reduceMul, Nat.reduceLT, Nat.reduceLeDiff, Nat.reduceEqDiff, Int.reduceToNat, ↓reduceIte, hn]
  cases l.any p <;> simp
theorem mem_vars1 (v : List UInt8) (t : Term) : v ∈ varsP [t] ↔ 0 < countP v t := by
  have := mem_foldC v [t] []
  simpa [varsP, foldC] using this
theorem vars1_len (t : Term) : (varsP [t]).length ≤ t.size := by
  have := foldC_length [t] []
  simpa [foldC, varsP] using this
def extraP (x : Term × Term) : Bool := x.1.var || (varsP [x.2]).any fun v => !decide (v ∈ varsP [x.1])
theorem extra_ac (x : Term × Term) (h1 : x.1.bulk ≤ 1099511627770) (h2 : x.2.bulk ≤ 1099511627770) (H : List AObj) : ACall Tryz.prog 18 [encRu x] H (fun r H' => r = .bool (extraP x) ∧ H' = H) := by
  have hs1 := x.1.size_le
  have hs2 := x.2.size_le
  have hl1 := vars1_len x.1
  have hl2 := vars1_len x.2
  refine ACall_V (H.length) 18 [.tmp 2] Tryz.func18 rfl rfl rfl ?_
  simp only [push_cast, Nat.reduceAdd, Nat.reduceSub, Nat.reduceMul, Nat.reduceLT, Nat.reduceLeDiff, Nat.reduceEqDiff, Int.reduceToNat, ↓reduceIte]
  refine (vars1_ac x.1 h1 _).to ?_
  simp only [push_cast, Nat.reduceAdd, Nat.reduceSub, Nat.reduceMul, Nat.reduceLT, Nat.reduceLeDiff, Nat.reduceEqDiff, Int.reduceToNat, ↓reduceIte]
  refine cI (fun hv => ?_) (fun hv => ?_)
  · have e : extraP x = true := by unfold extraP; rw [hv]; rfl
    simp only [push_cast, Nat.reduceAdd, Nat.reduceSub, Nat.reduceMul, Nat.reduceLT, Nat.reduceLeDiff, Nat.reduceEqDiff, Int.reduceToNat, ↓reduceIte, e]
  · have e : extraP x = (varsP [x.2]).any fun v => !decide (v ∈ varsP [x.1]) := by unfold extraP; rw [show x.1.var = false by simpa using hv]; rfl
    refine (vars1_ac x.2 h2 _).to ?_
    simp only [push_cast, Nat.reduceAdd, Nat.reduceSub, Nat.reduceMul, Nat.reduceLT, Nat.reduceLeDiff, Nat.reduceEqDiff, Int.reduceToNat, ↓reduceIte]
    refine (containsN_ac (varsP [x.2]) 41 [.ptr (H.length + 1) 0] (fun v => !decide (v ∈ varsP [x.1])) _ (by omega) ok41 (by simp only [push_cast, Nat.reduceAdd, Nat.reduceSub, Nat.reduceMul, Nat.reduceLT, Nat.reduceLeDiff, Nat.reduceEqDiff, Int.reduceToNat, ↓reduceIte]) (fun i h => extraC_ac _ _ (by omega) H _)).to ?_
    simp only [push_cast, Nat.reduceAdd, Nat.reduceSub, Nat.reduceMul, Nat.reduceLT, Nat.reduceLeDiff, Nat.reduceEqDiff, Int.reduceToNat, ↓reduceIte, e]
theorem indexRu_ac (rs : List (Term × Term)) (g : Nat) (caps : List AV) (p : (Term × Term) → Bool) (H : List AObj) (hlen : rs.length < 1099511627776) (hg : callOk Tryz.prog g = true) (hsc : ScopedL H.length caps)
    (hf : ∀ i (h : i < rs.length), ACall Tryz.prog g (encRu rs[i] :: caps) H (fun r H' => r = .bool (p rs[i]) ∧ H' = H)) :
    ACall Tryz.prog 38 [.sl .none (encL encRu rs), .fn g caps] H (fun r H' => ∃ n : Int, r = .int .i64 n ∧ (0 ≤ n ↔ rs.any p = true) ∧ H' = H) := by
  refine ACall_W (H.length) 17 [.tmp 4] Tryz.func38 rfl rfl rfl ?_
  simp only [push_cast, Nat.reduceAdd, Nat.reduceSub, Nat.reduceMul, Nat.reduceLT, Nat.reduceLeDiff, Nat.reduceEqDiff, Int.reduceToNat, ↓reduceIte]
  refine AW_loopW (maskG 19 [0, 0, 5, 0]) (fun (i : Nat) => [(8, .int .i64 i)]) (fun _ => H) (fun i => i ≤ rs.length ∧ (rs.take i).any p = false) (fun i => rs.length - i) 0 ⟨Nat.zero_le _, by simp⟩ (by simp only [push_cast, Nat.reduceAdd, Nat.reduceSub, Nat.reduceMul, Nat.reduceLT, Nat.reduceLeDiff, Nat.reduceEqDiff, Int.reduceToNat, ↓reduceIte, hsc]) (fun i hi => ?_)
  simp only [push_cast, Nat.reduceAdd, Nat.reduceSub, Nat.reduceMul, Nat.reduceLT, Nat.reduceLeDiff, Nat.reduceEqDiff, Int.reduceToNat, ↓reduceIte, hg]
  refine cI (fun h => ⟨by omega, (hf i (by omega)).to ?_⟩) (fun h => ?_)
  · simp only [push_cast, Nat.reduceAdd, Nat.reduceSub, Nat.reduceMul, Nat.reduceLT, Nat.reduceLeDiff, Nat.reduceEqDiff, Int.reduceToNat, ↓reduceIte]
    refine cI (fun hp => ?_) (fun hp => ⟨by omega, loopW_n (i + 1) ⟨by omega, any_take_false hi.2 (by omega) (by simpa using hp)⟩ (by omega) (by simp only [push_cast, Nat.reduceAdd, Nat.reduceSub, Nat.reduceMul, Nat.reduceLT, Nat.reduceLeDiff, Nat.reduceEqDiff, Int.reduceToNat, ↓reduceIte, hsc])⟩)
    exact ⟨i, rfl, ⟨fun _ => any_get (by omega) hp, fun _ => by omega⟩⟩
  · have hs : rs.take i = rs := List.take_of_length_le (by omega)
    rw [hs] at hi
    exact ⟨-1, rfl, ⟨by omega, fun h => by rw [hi.2] at h; cases h⟩⟩
theorem containsRu_ac (rs : List (Term × Term)) (g : Nat) (caps : List AV) (p : (Term × Term) → Bool) (H : List AObj) (hlen : rs.length < 1099511627776) (hg : callOk Tryz.prog g = true) (hsc : ScopedL H.length caps)
    (hf : ∀ i (h : i < rs.length), ACall Tryz.prog g (encRu rs[i] :: caps) H (fun r H' => r = .bool (p rs[i]) ∧ H' = H)) :
    ACall Tryz.prog 17 [.sl .none (encL encRu rs), .fn g caps] H (fun r H' => r = .bool (rs.any p) ∧ H' = H) := by
  refine ACall_W (H.length) 7 [.tmp 4] Tryz.func17 rfl rfl rfl ?_
  simp only [push_cast, Nat.reduceAdd, Nat.reduceSub, Nat.reduceMul, Nat.reduceLT, Nat.reduceLeDiff, Nat.reduceEqDiff, Int.reduceToNat, ↓reduceIte]
  refine (indexRu_ac _ g caps p _ hlen hg hsc hf).mono ?_
  rintro r H ⟨n, rfl, hn, rfl⟩
  simp only [push_cast, Nat.reduceAdd, Nat.reduceSub, Nat.reduceMul, Nat.reduceLT, Nat.reduceLeDiff, Nat.reduceEqDiff, Int.reduceToNat, ↓reduceIte, hn]
  cases rs.any p <;> simp
theorem withinR_ac (a b : Term) (h1 : a.bulk ≤ 1099511627770) (h2 : b.bulk ≤ 1099511627770) (H : List AObj) : ACall Tryz.prog 10 [encT a, encT b] H (fun r H' => r = .bool ((varsP [a]).all fun v => decide (v ∈ varsP [b])) ∧ H' = H) := by
  have hs1 := a.size_le
  have hl1 := vars1_len a
  have hv1 := fun H => varsR_ac [a] (by simp) (by simp; omega) (by simp; omega) H
  rw [encTs_cons, encTs_nil] at hv1
  obtain ⟨L, hL⟩ : ∃ L, L = varsP [a] := ⟨_, rfl⟩
  rw [← hL] at hl1 hv1 ⊢
  refine ACall_V (H.length) 18 [.tmp 4] Tryz.func10 rfl rfl rfl ?_
  simp only [push_cast, Nat.reduceAdd, Nat.reduceSub, Nat.reduceMul, Nat.reduceLT, Nat.reduceLeDiff, Nat.reduceEqDiff, Int.reduceToNat, ↓reduceIte]
  refine (hv1 _).to ?_
  simp only [push_cast, Nat.reduceAdd, Nat.reduceSub, Nat.reduceMul, Nat.reduceLT, Nat.reduceLeDiff, Nat.reduceEqDiff, Int.reduceToNat, ↓reduceIte]
  refine AW_loopW (maskG 20 [3, 5, 0, 0]) (fun (i : Nat) => [(11, .int .i64 i)]) (fun _ => H ++ [.cells [.str a.name, .bool a.var, .sl .none (encTs a.args)], .cells [.str b.name, .bool b.var, .sl .none (encTs b.args)]]) (fun i => i ≤ L.length ∧ (L.take i).all (fun v => decide (v ∈ varsP [b])) = true) (fun i => L.length - i) 0 ⟨Nat.zero_le _, by simp⟩ (by simp only [push_cast, Nat.reduceAdd, Nat.reduceSub, Nat.reduceMul, Nat.reduceLT, Nat.reduceLeDiff, Nat.reduceEqDiff, Int.reduceToNat, ↓reduceIte]) (fun i hi => ?_)
  simp only [push_cast, Nat.reduceAdd, Nat.reduceSub, Nat.reduceMul, Nat.reduceLT, Nat.reduceLeDiff, Nat.reduceEqDiff, Int.reduceToNat, ↓reduceIte]
  refine cI (fun h => ?_) (fun h => ?_)
  · have hil : i < L.length := by omega
    repeat refine ⟨by omega, ?_⟩
    have hcb := countP_bound (L[i]'hil) b
    have hm := mem_vars1 (L[i]'hil) b
    refine (countR_ac b (L[i]'hil) (by omega) _).to ?_
    simp only [push_cast, Nat.reduceAdd, Nat.reduceSub, Nat.reduceMul, Nat.reduceLT, Nat.reduceLeDiff, Nat.reduceEqDiff, Int.reduceToNat, ↓reduceIte]
    refine cI (fun hc => ?_) (fun hc => ?_)
    · have hn : ¬ (L[i]'hil) ∈ varsP [b] := by rw [hm]; omega
      have e := all_get (xs := L) (p := fun v => decide (v ∈ varsP [b])) hil (by simpa using hn)
      simp only [push_cast, Nat.reduceAdd, Nat.reduceSub, Nat.reduceMul, Nat.reduceLT, Nat.reduceLeDiff, Nat.reduceEqDiff, Int.reduceToNat, ↓reduceIte, e]
    · repeat' first | refine ⟨by omega, ?_⟩ | refine cI (fun _ => ?_) (fun _ => ?_)
      have hmm : (L[i]'hil) ∈ varsP [b] := by rw [hm]; omega
      exact loopW_n (i + 1) ⟨by omega, all_take_true hi.2 hil (by simpa using hmm)⟩ (by omega) (by simp only [push_cast, Nat.reduceAdd, Nat.reduceSub, Nat.reduceMul, Nat.reduceLT, Nat.reduceLeDiff, Nat.reduceEqDiff, Int.reduceToNat, ↓reduceIte])
  · have e := hi.2
    rw [List.take_of_length_le (show L.length ≤ i by omega)] at e
    exact e.symm
theorem extra_within (x : Term × Term) : extraP x = (x.1.var || !((varsP [x.2]).all fun v => decide (v ∈ varsP [x.1]))) := by
  unfold extraP
  rw [List.not_all_eq_any_not]
end Ab
set_option maxRecDepth 10000
namespace Ab
open Go Go.Proofs
def avN (n : Nat) : AV := .int .i64 n
def sA (m : List (List UInt8 × Nat)) : List (AV × AV) := amap AV.str avN m
def lN (o : Option (List UInt8 × Nat)) : Option (AV × AV) := o.map fun s => (AV.str s.1, avN s.2)
theorem sA_nil : sA [] = [] := (rfl)
theorem sA_len (m : List (List UInt8 × Nat)) : (sA m).length = m.length := by simp [sA, amap]
theorem osc_sA (n ver : Nat) (m : List (List UInt8 × Nat)) : OScoped n (.map ver (sA m)) = True := by
  refine eq_true ?_
  intro e he
  simp only [sA, amap, List.mem_map] at he
  obtain ⟨k, _, rfl⟩ := he
  exact ⟨trivial, trivial⟩
theorem osc_itA (n m ver : Nat) (l : List (List UInt8 × Nat)) (o : Option (List UInt8 × Nat)) (h : m < n) : OScoped n (.iter m ver (sA l) (lN o)) = True := by
  refine eq_true ⟨h, ?_⟩
  rintro e (he | he)
  · simp only [sA, amap, List.mem_map] at he
    obtain ⟨k, _, rfl⟩ := he
    exact ⟨trivial, trivial⟩
  · cases o with
    | none => cases he
    | some k => simp only [lN, Option.map_some, Option.some.injEq] at he; subst he; exact ⟨trivial, trivial⟩
theorem osc_itAn (n m ver : Nat) (l : List (List UInt8 × Nat)) (h : m < n) : OScoped n (.iter m ver (sA l) none) = True := osc_itA n m ver l none h
theorem osc_itAs (n m ver : Nat) (l : List (List UInt8 × Nat)) (a : List UInt8) (b : Nat) (h : m < n) : OScoped n (.iter m ver (sA l) (some (.str a, avN b))) = True := osc_itA n m ver l (some (a, b)) h
theorem lN_n : lN none = none := (rfl)
theorem lN_s (s : List UInt8 × Nat) : lN (some s) = some (AV.str s.1, avN s.2) := (rfl)
theorem osc_m00 (n ver : Nat) : OScoped n (.map ver []) = True := eq_true (fun e he => by cases he)
attribute [push_cast] osc_sA osc_itA osc_itAn osc_itAs osc_m00
def arE (rs : List (Term × Term)) : Nat × List (List UInt8 × Nat) := arF (0, []) (nodesL (rT rs))
def arB (rs : List (Term × Term)) : Bool := arBad (0, []) (nodesL (rT rs))
theorem nodesL_nil : nodesL [] = [] := by simp [nodesL]
theorem arB_nil : arB [] = false := by simp [arB, rT, nodesL, arBad]
theorem arE_nil : arE [] = (0, []) := by simp [arE, rT, nodesL, arF]
def arNx (q : Nat × List (List UInt8 × Nat)) (pre : List (List Int × Term)) (x : List Int × Term) : Option Code := if x.2.var then none else if arC (arF q (nodesI pre)) (x.2.name, x.2.args.length) then some .ret else none
theorem nd_var {x : Term} (h : x.var = true) : ndT x = [] := by simp [ndT, h]
theorem nd_sym {x : Term} (h : ¬ x.var = true) : ndT x = [(x.name, x.args.length)] := by simp [ndT, h]
theorem arF_snoc (q : Nat × List (List UInt8 × Nat)) (L : List (List UInt8 × Nat)) (s : List UInt8 × Nat) : arF q (L ++ [s]) = arStep (arF q L) s := by rw [arF_app]; rfl
theorem arBad_one (q : Nat × List (List UInt8 × Nat)) (s : List UInt8 × Nat) : arBad q [s] = arC q s := by simp [arBad]
theorem arNx_ok (q : Nat × List (List UInt8 × Nat)) : ∀ (n : Nat) (items : List (List Int × Term)), items.length = n → AllNone (arNx q) items → arBad q (nodesI items) = false := by
  intro n
  induction n with
  | zero => intro items h _; rw [List.eq_nil_of_length_eq_zero h]; rfl
  | succ n ih =>
    intro items h hN
    rcases List.eq_nil_or_concat items with rfl | ⟨pre, x, rfl⟩
    · rfl
    · rw [List.concat_eq_append] at *
      have h1 := ih pre (by simpa using h) (fun p y s e => hN p y (s ++ [x]) (by rw [e]; simp))
      have h2 := hN pre x [] rfl
      rw [nodesI_snoc, arBad_app, h1, Bool.false_or]
      unfold arNx at h2
      by_cases hv : x.2.var = true
      · rw [nd_var hv]; rfl
      · rw [if_neg hv] at h2
        rw [nd_sym hv, arBad_one]
        split at h2
        · cases h2
        · rename_i h3; simpa using h3
theorem arNx_bad (q : Nat × List (List UInt8 × Nat)) (pre suf : List (List Int × Term)) (x : List Int × Term) (c : Code) (h : arNx q pre x = some c) : c = .ret ∧ arBad q (nodesI (pre ++ x :: suf)) = true := by
  unfold arNx at h
  by_cases hv : x.2.var = true
  · rw [if_pos hv] at h; cases h
  · rw [if_neg hv] at h
    split at h
    · rename_i h3
      injection h with h
      refine ⟨h.symm, ?_⟩
      have e : nodesI (pre ++ x :: suf) = nodesI pre ++ (ndT x.2 ++ nodesI suf) := by simp [nodesI]
      rw [e, arBad_app, nd_sym hv, arBad_app, arBad_one, h3]; simp
    · cases h
set_option maxHeartbeats 1600000 in
theorem arities_ac (rs : List (Term × Term)) (hlen : rs.length < 1099511627776) (hb : ∀ r, r ∈ rs → r.1.bulk ≤ 1099511627775 ∧ r.2.bulk ≤ 1099511627775) (H : List AObj) :
    ACall Tryz.prog 11 [.sl .none (encL encRu rs)] H (fun r H' => r = .tup [if arB rs then .lit (.map none) else .map (H.length + 2), .bool (!arB rs)] ∧ ∃ v es, H' = H ++ [.cells [if arB rs then .lit (.map none) else .map (H.length + 2)], .cells [.bool (!arB rs)], .map v es] ∧ (arB rs = false → v = (arE rs).1 ∧ es = sA (arE rs).2)) := by
  refine ACall_W (H.length + 3) 57 [.cell 2 40, .cell 3 4] Tryz.func11 rfl rfl rfl ?_
  simp only [push_cast, Nat.reduceAdd, Nat.reduceSub, Nat.reduceMul, Nat.reduceLT, Nat.reduceLeDiff, Nat.reduceEqDiff, Int.reduceToNat, ↓reduceIte]
  refine AW_loopW (maskG 58 [2, 0, 0, 9, 0, 0, 14]) (fun (i : Nat) => [(16, .int .i64 i)]) (fun i => H ++ [.cells [.lit (.map none)], .cells [.bool false], .map (arE (rs.take i)).1 (sA (arE (rs.take i)).2), .cells [.map (H.length + 2)]]) (fun i => i ≤ rs.length ∧ arB (rs.take i) = false) (fun i => rs.length - i) 0 ⟨Nat.zero_le _, by rw [List.take_zero]; exact arB_nil⟩ (by simp only [push_cast, Nat.reduceAdd, Nat.reduceSub, Nat.reduceMul, Nat.reduceLT, Nat.reduceLeDiff, Nat.reduceEqDiff, Int.reduceToNat, ↓reduceIte, List.take_zero, arE_nil, sA_nil]) (fun i hi => ?_)
  simp only [push_cast, Nat.reduceAdd, Nat.reduceSub, Nat.reduceMul, Nat.reduceLT, Nat.reduceLeDiff, Nat.reduceEqDiff, Int.reduceToNat, ↓reduceIte]
  refine cI (fun h => ?_) (fun h => ?_)
  · repeat refine ⟨by omega, ?_⟩
    have hil : i < rs.length := by omega
    obtain ⟨l, r, hlr⟩ : ∃ l r, rs[i]'hil = (l, r) := ⟨_, _, rfl⟩
    have hbi := hb _ (List.getElem_mem hil)
    rw [hlr] at hbi
    obtain ⟨hbl, hbr⟩ := hbi
    simp only at hbl hbr
    simp only [push_cast, Nat.reduceAdd, Nat.reduceSub, Nat.reduceMul, Nat.reduceLT, Nat.reduceLeDiff, Nat.reduceEqDiff, Int.reduceToNat, ↓reduceIte, hlr]
    refine AW_loopW (maskG 58 [2, 0, 0, 9, 0, 0, 7, 0, 5]) (fun (j : Nat) => [(25, .int .i64 j)]) (fun j => H ++ [.cells [.lit (.map none)], .cells [.bool false], .map (arF (arE (rs.take i)) (nodesL ([l, r].take j))).1 (sA (arF (arE (rs.take i)) (nodesL ([l, r].take j))).2), .cells [.map (H.length + 2)], .cells [.str l.name, .bool l.var, .sl .none (encTs l.args), .str r.name, .bool r.var, .sl .none (encTs r.args)]]) (fun j => j ≤ 2 ∧ arBad (arE (rs.take i)) (nodesL ([l, r].take j)) = false) (fun j => 2 - j) 0 ⟨by omega, by simp [nodesL, arBad]⟩ (by simp only [push_cast, Nat.reduceAdd, Nat.reduceSub, Nat.reduceMul, Nat.reduceLT, Nat.reduceLeDiff, Nat.reduceEqDiff, Int.reduceToNat, ↓reduceIte, List.take_zero, nodesL_nil, arF_nil]) (fun j hj => ?_)
    simp only [push_cast, Nat.reduceAdd, Nat.reduceSub, Nat.reduceMul, Nat.reduceLT, Nat.reduceLeDiff, Nat.reduceEqDiff, Int.reduceToNat, ↓reduceIte]
    refine cI (fun h2 => ?_) (fun h2 => ?_)
    · obtain ⟨t, hat, hbt, htk⟩ : ∃ t, (List.take 3 (List.drop (j * 3) [AV.str l.name, .bool l.var, .sl .none (encTs l.args), .str r.name, .bool r.var, .sl .none (encTs r.args)]) = [AV.str t.name, .bool t.var, .sl .none (encTs t.args)]) ∧ t.bulk ≤ 1099511627775 ∧ [l, r].take (j + 1) = [l, r].take j ++ [t] := by
        have hj01 : j = 0 ∨ j = 1 := by omega
        rcases hj01 with rfl | rfl
        · exact ⟨l, rfl, hbl, rfl⟩
        · exact ⟨r, rfl, hbr, rfl⟩
      repeat refine ⟨by omega, ?_⟩
      rw [hat]
      simp only [push_cast, Nat.reduceAdd, Nat.reduceSub, Nat.reduceMul, Nat.reduceLT, Nat.reduceLeDiff, Nat.reduceEqDiff, Int.reduceToNat, ↓reduceIte]
      refine (walkF_ac t _).to ?_
      simp only [push_cast, Nat.reduceAdd, Nat.reduceSub, Nat.reduceMul, Nat.reduceLT, Nat.reduceLeDiff, Nat.reduceEqDiff, Int.reduceToNat, ↓reduceIte]
      obtain ⟨q0, hq0⟩ : ∃ q0, q0 = arF (arE (rs.take i)) (nodesL ([l, r].take j)) := ⟨_, rfl⟩
      have hE2 : arF (arE (rs.take i)) (nodesL ([l, r].take (j + 1))) = arF q0 (nodesI (walkT t [])) := by rw [htk, nodesL_app, arF_app, ← hq0, nodes_walkT]
      have hB2 : arBad (arE (rs.take i)) (nodesL ([l, r].take (j + 1))) = arBad q0 (nodesI (walkT t [])) := by rw [htk, nodesL_app, arBad_app, hj.2, Bool.false_or, ← hq0, nodes_walkT]
      rw [← hq0]
      refine AW_iterW _ _ (walk_iter t hbt _) H (fun pre => [.cells [.lit (.map none)], .cells [.bool false], .map (arF q0 (nodesI pre)).1 (sA (arF q0 (nodesI pre)).2), .cells [.map (H.length + 2)], .cells [.str l.name, .bool l.var, .sl .none (encTs l.args), .str r.name, .bool r.var, .sl .none (encTs r.args)], .cells [.str t.name, .bool t.var, .sl .none (encTs t.args)], .cells [.str t.name, .bool t.var, .sl .none (encTs t.args)]]) 7 (arNx q0) rfl ok53 (by simp only [push_cast, Nat.reduceAdd, Nat.reduceSub, Nat.reduceMul, Nat.reduceLT, Nat.reduceLeDiff, Nat.reduceEqDiff, Int.reduceToNat, ↓reduceIte, nodesI_nil, arF_nil]) (fun _ => rfl) (fun lp => by simp only [push_cast, Nat.reduceAdd, Nat.reduceSub, Nat.reduceMul, Nat.reduceLT, Nat.reduceLeDiff, Nat.reduceEqDiff, Int.reduceToNat, ↓reduceIte]) (fun p => by simp only [push_cast, Nat.reduceAdd, Nat.reduceSub, Nat.reduceMul, Nat.reduceLT, Nat.reduceLeDiff, Nat.reduceEqDiff, Int.reduceToNat, ↓reduceIte]) (fun _ => rfl) (fun pre x suf X lid lp lp' he hn => ?_) (fun hN lp => ?_) (fun pre x suf c lp he hn hc => ?_)
      · simp only [push_cast, Nat.reduceAdd, Nat.reduceSub, Nat.reduceMul, Nat.reduceLT, Nat.reduceLeDiff, Nat.reduceEqDiff, Int.reduceToNat, ↓reduceIte, List.drop_length]
        refine cI (fun hv => ?_) (fun hv => ?_)
        · have e1 : arNx q0 pre x = none := by unfold arNx; rw [if_pos hv]
          have e2 : nodesI (pre ++ [x]) = nodesI pre := by rw [nodesI_snoc, nd_var hv, List.append_nil]
          simp only [push_cast, Nat.reduceAdd, Nat.reduceSub, Nat.reduceMul, Nat.reduceLT, Nat.reduceLeDiff, Nat.reduceEqDiff, Int.reduceToNat, ↓reduceIte, e1, e2]
        · have hsn : nodesI (pre ++ [x]) = nodesI pre ++ [(x.2.name, x.2.args.length)] := by rw [nodesI_snoc, nd_sym hv]
          obtain ⟨q, hq⟩ : ∃ q, q = arF q0 (nodesI pre) := ⟨_, rfl⟩
          have hst : arF q0 (nodesI (pre ++ [x])) = arStep q (x.2.name, x.2.args.length) := by rw [hsn, arF_snoc, ← hq]
          have hnx : arNx q0 pre x = if arC q (x.2.name, x.2.args.length) then some .ret else none := by unfold arNx; rw [if_neg hv, ← hq]
          rw [← hq, hst, hnx]
          refine AOp_lookupOk (strKey un9) avN q.2 (H.length + 2) q.1 x.2.name (.int .i64 0) rfl (by exact (agetN _ _ 2).trans rfl) rfl un40 (ZeroV_of (.int .i64 0) (by kernel_rfl)) ?_
          cases hg : aget q.2 x.2.name with
          | none =>
            have hc : arC q (x.2.name, x.2.args.length) = false := by simp [arC, hg]
            have hs : arStep q (x.2.name, x.2.args.length) = (q.1 + 1, aset q.2 x.2.name x.2.args.length) := by simp [arStep, hc]
            simp only [push_cast, Nat.reduceAdd, Nat.reduceSub, Nat.reduceMul, Nat.reduceLT, Nat.reduceLeDiff, Nat.reduceEqDiff, Int.reduceToNat, ↓reduceIte, hc, hs, Option.map_none, Option.getD_none, Option.isSome_none, Bool.false_eq_true, if_false]
            refine AOp_mapUpdate (strKey un9) avN q.2 (H.length + 2) q.1 x.2.name x.2.args.length rfl (by exact (agetN _ _ 2).trans rfl) rfl rfl un40 ?_
            simp only [push_cast, Nat.reduceAdd, Nat.reduceSub, Nat.reduceMul, Nat.reduceLT, Nat.reduceLeDiff, Nat.reduceEqDiff, Int.reduceToNat, ↓reduceIte, sA]
          | some k =>
            have hc : arC q (x.2.name, x.2.args.length) = !decide (k = x.2.args.length) := by simp [arC, hg]
            by_cases hk : k = x.2.args.length
            · have hc : arC q (x.2.name, x.2.args.length) = false := by rw [hc]; simpa using hk
              have hs : arStep q (x.2.name, x.2.args.length) = (q.1 + 1, aset q.2 x.2.name x.2.args.length) := by simp [arStep, hc]
              subst hk
              simp only [push_cast, Nat.reduceAdd, Nat.reduceSub, Nat.reduceMul, Nat.reduceLT, Nat.reduceLeDiff, Nat.reduceEqDiff, Int.reduceToNat, ↓reduceIte, hc, hs, avN, Option.getD_some, Option.isSome_some, Bool.false_eq_true, if_false]
              refine AOp_mapUpdate (strKey un9) avN q.2 (H.length + 2) q.1 x.2.name x.2.args.length rfl (by exact (agetN _ _ 2).trans rfl) rfl rfl un40 ?_
              simp only [push_cast, Nat.reduceAdd, Nat.reduceSub, Nat.reduceMul, Nat.reduceLT, Nat.reduceLeDiff, Nat.reduceEqDiff, Int.reduceToNat, ↓reduceIte, sA]
            · have hc : arC q (x.2.name, x.2.args.length) = true := by rw [hc]; simpa using hk
              have hs : arStep q (x.2.name, x.2.args.length) = q := by simp [arStep, hc]
              have hkz : decide ((k : Int) = (x.2.args.length : Int)) = false := by rw [decide_eq_false_iff_not]; omega
              simp only [push_cast, Nat.reduceAdd, Nat.reduceSub, Nat.reduceMul, Nat.reduceLT, Nat.reduceLeDiff, Nat.reduceEqDiff, Int.reduceToNat, ↓reduceIte, hc, hs, avN, Option.getD_some, Option.isSome_some, if_true, hkz]
      · have hbad := arNx_ok q0 _ _ rfl hN
        rw [← hB2] at hbad
        simp only [push_cast, Nat.reduceAdd, Nat.reduceSub, Nat.reduceMul, Nat.reduceLT, Nat.reduceLeDiff, Nat.reduceEqDiff, Int.reduceToNat, ↓reduceIte]
        repeat' first | refine ⟨by omega, ?_⟩ | refine cI (fun _ => ?_) (fun _ => ?_)
        refine loopW_n (j + 1) ⟨by omega, hbad⟩ (by omega) ?_
        rw [hE2]
        simp only [push_cast, Nat.reduceAdd, Nat.reduceSub, Nat.reduceMul, Nat.reduceLT, Nat.reduceLeDiff, Nat.reduceEqDiff, Int.reduceToNat, ↓reduceIte]
      · obtain ⟨rfl, hbad⟩ := arNx_bad q0 pre suf x c hc
        rw [← he, ← hB2] at hbad
        have hB : arB rs = true := by
          have e0 := rT_split rs i hil
          have h5 := hi.2
          unfold arB at h5 ⊢
          rw [e0, hlr, nodesL_app, arBad_app, h5, Bool.false_or, nodesL_app, arBad_app]
          have e6 : arBad (arE (rs.take i)) (nodesL [l, r]) = true := by
            have hj01 : j = 0 ∨ j = 1 := by omega
            rcases hj01 with rfl | rfl
            · have : [l, r] = [l, r].take 1 ++ [r] := rfl
              rw [this, nodesL_app, arBad_app, hbad]; rfl
            · exact hbad
          show (arBad (arE (rs.take i)) (nodesL [l, r]) || _) = true
          rw [e6]; rfl
        simp only [push_cast, Nat.reduceAdd, Nat.reduceSub, Nat.reduceMul, Nat.reduceLT, Nat.reduceLeDiff, Nat.reduceEqDiff, Int.reduceToNat, ↓reduceIte, hB]
        exact ⟨_, _, rfl, fun h => h.elim⟩
    · have hj2 : j = 2 := by omega
      subst hj2
      have e1 : rT (rs.take (i + 1)) = rT (rs.take i) ++ [l, r] := by rw [rT_take rs i hil, hlr]
      have e2 : arE (rs.take (i + 1)) = arF (arE (rs.take i)) (nodesL [l, r]) := by unfold arE; rw [e1, nodesL_app, arF_app]
      have e3 : arB (rs.take (i + 1)) = false := by
        have h5 := hi.2
        unfold arB at h5 ⊢
        rw [e1, nodesL_app, arBad_app, h5, Bool.false_or]; exact hj.2
      repeat' first | refine ⟨by omega, ?_⟩ | refine cI (fun _ => ?_) (fun _ => ?_)
      refine loopW_n (i + 1) ⟨by omega, e3⟩ (by omega) ?_
      rw [e2]
      simp only [push_cast, Nat.reduceAdd, Nat.reduceSub, Nat.reduceMul, Nat.reduceLT, Nat.reduceLeDiff, Nat.reduceEqDiff, Int.reduceToNat, ↓reduceIte, List.take_succ_cons, List.take_zero]
  · rw [List.take_of_length_le (show rs.length ≤ i by omega)] at hi ⊢
    simp only [push_cast, Nat.reduceAdd, Nat.reduceSub, Nat.reduceMul, Nat.reduceLT, Nat.reduceLeDiff, Nat.reduceEqDiff, Int.reduceToNat, ↓reduceIte, hi.2]
    exact ⟨_, _, rfl, fun _ => ⟨rfl, rfl⟩⟩
end Ab
set_option maxRecDepth 10000
namespace Ab
open Go Go.Proofs
theorem putRow_heapG {α : Type} [Inhabited α] (enc : α → Value) (w : World) (b off : Nat) (d : Array α) (cur : Array Value) (e : TypeId) (fr : Nat × Nat) (hb : w.heap[b]? = some (.cells cur e fr)) :
    (Go.Sort.putRow enc w b off d).heap = w.heap.setIfInBounds b (.cells (Go.Sort.putCells enc off d cur) e fr) := by
  have hlt := (Array.getElem?_eq_some_iff.1 hb).1
  unfold Go.Sort.putRow Go.Sort.mapBlock
  apply Array.ext_getElem?
  intro k
  simp only [Array.getElem?_modify, Array.getElem?_setIfInBounds]
  by_cases hk : b = k
  · subst hk
    rw [if_pos rfl, if_pos rfl, if_pos hlt, hb]; rfl
  · rw [if_neg hk, if_neg hk]
theorem putCells_getG {α : Type} [Inhabited α] (enc : α → Value) (d : Array α) (cur : Array Value) (j : Nat) (hj : j < d.size) (hj' : j < (Go.Sort.putCells enc 0 d cur).size) : (Go.Sort.putCells enc 0 d cur)[j] = enc d[j] := by
  unfold Go.Sort.putCells
  simp [hj]
theorem sortG {P : Program} {ρ : Go.Shelf.Ren} {α β : Type} [Inhabited α] (L : SlLaysF0.n6 P ρ) (k : Nat) (hk0 : 0 < k) (aE : ∀ w, (isAgg (ρ.t 24)).run P w = .ok true w) (zE : ∀ w, (Go.sizeOf (ρ.t 24)).run P w = .ok k w)
    (encA : β → AV) (hu : ∀ x, (encA x).cells.length = k) (hcell : ∀ x c, c ∈ (encA x).cells → c.isCell = true)
    (enc : α → List Value) (hk : ∀ a, (enc a).length = k) (h1 : ∀ a, ∀ v ∈ enc a, v.oneCell' = true) (abs : α → β)
    (hrep : ∀ (C : Ctx) (x : β) (vs : List Value), vs.length = k → (∀ j (h : j < (encA x).cells.length) (h' : j < vs.length), VRel C (encA x).cells[j] vs[j]) → ∃ a, enc a = vs ∧ abs a = x)
    (cf : β → β → Int) (hO : Go.Sort.SWO (ltOf fun a b : α => cf (abs a) (abs b))) (g : Nat) (eg : ∀ args w, (callFunc g args).run P w = .ok (.enter g args) w)
    (hcalls : ∀ w a b, Calls P g #[.agg (enc a).toArray, .agg (enc b).toArray] w fun e w' => e = .returned (.int .i64 (cf (abs a) (abs b))) ∧ ∃ q os', w' = Go.Sort.grow (w.drewN q) os')
    (id : Nat) (xs : List β) (e : TypeId) (hlen : xs.length < 1099511627776) (H : List AObj) (hkH : H[id]? = some (grO e k (encL encA xs))) :
    ACall P (ρ.f 6) [grS id (encL encA xs), .fn g []] H (fun r H' => ∃ xs', xs.Perm xs' ∧ xs'.Pairwise (fun a b => ¬ cf b a < 0) ∧ r = .tup [] ∧ H' = H.set id (grO e k (encL encA xs'))) := by
  intro C vs hg hH hsz hv
  match vs, hsz, hv with
  | ⟨[v, fv]⟩, _, hv =>
    have h0 := hv 0 (by simp) (by simp)
    have hf := hv 1 (by simp) (by simp)
    simp only [List.getElem_cons_zero, List.getElem_cons_succ] at h0 hf
    have htup : ∀ C' : Ctx, VRel C' (.tup []) (.tuple #[]) := fun C' => .tup [] #[] rfl (fun i h => absurd h (by simp))
    have hfv : fv = .func (.func g) #[] #[] := by
      cases hf with
      | fn _ _ us hs _ =>
        have : us = #[] := Array.eq_empty_of_size_eq_zero hs
        rw [this]
    subst hfv
    cases xs with
    | nil =>
      have h0' : VRel C (.sl .zero []) v := h0
      have hset : H.set id (grO e k (encL encA [])) = H := by
        apply List.ext_getElem?
        intro i
        rw [List.getElem?_set]
        split
        · rename_i h; subst h
          have hl := (List.getElem?_eq_some_iff.1 hkH).1
          simp only [hl, if_true]; exact hkH.symm
        · rfl
      cases h0' with
      | sl _ _ a n c f hn hc hrow hrel htok =>
        subst hn
        refine (show Calls P (ρ.f 6) #[.slice a 0 c, .func (.func g) #[] #[]] C.w (fun e w' => e = .returned (.tuple #[]) ∧ w' = C.w) from AnyF.slices_SortFunc_none L a c _ C.w).mono fun e w' ⟨he, hw⟩ => ?_
        subst hw
        exact ⟨_, .tup [], C, he, rfl, hg, Ext.refl C, htup C, [], List.Perm.refl _, List.Pairwise.nil, rfl, by rw [hset]; exact hH⟩
    | cons s ss' =>
      have hlf : ∀ l : List β, (flat (encL encA l)).length = l.length * k := fun l => by rw [flat_length (uni_encL (enc := encA) (k := k) hu l), encL_length]
      have h0' : VRel C (.gr id (encL encA (s :: ss')).length) v := h0
      have hkC : C.H[id]? = some (.grow e k (flat (encL encA (s :: ss')))) := by rw [hH, hkH]; rfl
      have hne : s :: ss' ≠ [] := by simp
      generalize s :: ss' = xs at *
      have hxl : 0 < xs.length := List.length_pos_iff.2 hne
      cases h0' with
      | gr _ _ ad c hgr =>
        obtain ⟨e', sz', vs', hk2, _, _, hr⟩ := hgr
        rw [hkC] at hk2
        injection hk2 with hk2; injection hk2 with q1 q2 q3
        subst q1 q2 q3
        rw [encL_length] at hr ⊢
        obtain ⟨cur, rfl, hb, hcm, hc1, hcs⟩ := hr (hlf xs).symm
        obtain ⟨cur2, hb2, hfit, hS, hrel⟩ := hg.obj id _ hkC
        rw [hb] at hb2
        injection hb2 with hb2; injection hb2 with hb2 _ _
        subst hb2
        rw [hlf] at hfit
        have hpos : ∀ i j, i < xs.length → j < k → i * k + j < xs.length * k := fun i j hi hj => by
          have := Nat.mul_le_mul_right k (show i + 1 ≤ xs.length from hi)
          rw [Nat.add_mul] at this; omega
        have hlt := hg.lt id _ hkC (by simp [AObj.kind])
        have hcv : ∀ i j (hi : i < xs.length) (hj : j < k), VRel C ((encA xs[i]).cells[j]'(by rw [hu]; exact hj)) (cur[i * k + j]'(by have := hpos i j hi hj; omega)) := by
          intro i j hi hj
          have hp := hpos i j hi hj
          have h2 := (hrel (i * k + j) (by rw [hlf]; exact hp) (by omega)).1
          have h3 := flat_get (uni_encL (enc := encA) (k := k) hu xs) i j (by rw [encL_length]; exact hi) hj
          rw [List.getElem?_eq_getElem (by rw [hlf]; exact hp), encL_get, List.getElem?_eq_getElem (by rw [hu]; exact hj)] at h3
          injection h3 with h3
          rw [h3] at h2
          exact h2
        have hex : ∀ i : Fin xs.length, ∃ a, enc a = ((List.range k).map fun j => cur[i.1 * k + j]!) ∧ abs a = xs[i.1] := fun i => hrep C xs[i.1] _ (by simp) (fun j h h' => by
          have hj : j < k := by rw [hu] at h; exact h
          have := hcv i.1 j i.2 hj
          have hp := hpos i.1 j i.2 hj
          simpa [getElem!_pos cur (i.1 * k + j) (by omega)] using this)
        obtain ⟨fn, hfn⟩ := Classical.axiomOfChoice hex
        obtain ⟨d, hd⟩ : ∃ d : Array α, d = Array.ofFn fn := ⟨_, rfl⟩
        have hds : d.size = xs.length := by rw [hd]; simp
        have hdg : ∀ i (h : i < xs.length), d[i]! = fn ⟨i, h⟩ := fun i h => by rw [hd, getElem!_pos _ i (by simpa using h)]; simp
        have hdx : d.toList.map abs = xs := by
          apply List.ext_getElem
          · simp [hds]
          · intro i h1 h2
            have h3 : i < d.size := by simpa using h1
            simp only [List.getElem_map, Array.getElem_toList]
            rw [← getElem!_pos d i h3, hdg i h2]
            exact (hfn ⟨i, h2⟩).2
        have hHolds : Go.Sort.HoldsK enc k C.w (C.μ id) 0 d := fun t ht => by
          rw [Go.Sort.size_flatK, hds] at ht
          have hki : t / k < xs.length := Nat.div_lt_of_lt_mul (by rw [Nat.mul_comm]; exact ht)
          have hkj : t % k < k := Nat.mod_lt _ hk0
          have hsum : t / k * k + t % k = t := by rw [Nat.mul_comm]; exact Nat.div_add_mod t k
          have htc : t < cur.size := by omega
          refine ⟨?_, by simp [World.frozen?, hb]⟩
          rw [Go.Sort.get_flatK enc k d t (by rw [hds]; exact ht), hdg _ hki, (hfn ⟨t / k, hki⟩).1]
          simp only [Nat.zero_add, _root_.id]
          rw [getElem!_pos _ _ (by simpa using hkj)]
          simp only [List.getElem_map, List.getElem_range, hsum]
          simp [World.cell?, hb, htc]
        have hcmp : CmpLays P g #[] enc k (fun a b => cf (abs a) (abs b)) (C.μ id) 0 d.size C.w := fun m os dk _ x y => by
          rw [Array.append_empty]; exact hcalls _ x y
        have hcall := AnyQ.slices_SortFunc L k aE zE enc hk h1 (fun a b => cf (abs a) (abs b)) hO g #[] (C.μ id) 0 c d C.w eg hcmp hHolds hlt (by omega)
        rw [hds] at hcall
        refine hcall.mono fun e2 w' ⟨he, d', q, os, hperm, hsort, hw⟩ => ?_
        subst hw
        have hd's : d'.size = xs.length := by rw [hperm.1, hds]
        have hpl : d'.toList.Perm d.toList := by
          have h5 := hperm.2.2
          rwa [← hds, ← hperm.1, Array.extract_size, hperm.1, Array.extract_size] at h5
        have hxl' : (d'.toList.map abs).length = xs.length := by simp [hd's]
        have hF : (Go.Sort.flatK enc k d').size = xs.length * k := by rw [Go.Sort.size_flatK, hd's]
        have hputs : (Go.Sort.putCells _root_.id 0 (Go.Sort.flatK enc k d') cur).size = cur.size := by simp [Go.Sort.putCells]
        have hheap := putRow_heapG _root_.id (Go.Sort.ahead C.w q) (C.μ id) 0 (Go.Sort.flatK enc k d') cur e (0, 0) hb
        obtain ⟨hg1, hx1⟩ := step_gr_in hg id (vs' := flat (encL encA (d'.toList.map abs))) hkC hb (w' := Go.Sort.putRowK enc k (Go.Sort.ahead C.w q) (C.μ id) 0 d') hheap ⟨rfl, rfl, rfl⟩ hputs (by rw [hlf, hlf, hxl']; omega) rfl (fun hxx => by
          refine ⟨Go.Sort.putCells _root_.id 0 (Go.Sort.flatK enc k d') cur, by show (Go.Sort.putRow _ _ _ _ _).heap[_]? = _; rw [hheap]; simp [hlt, Go.Sort.ahead], by rw [hlf, hputs, hxl']; omega, hS, fun j hj hj' => ?_⟩
          rw [hlf, hxl'] at hj
          have hi : j / k < xs.length := Nat.div_lt_of_lt_mul (by rw [Nat.mul_comm]; exact hj)
          have hr : j % k < k := Nat.mod_lt _ hk0
          have hsum : j / k * k + j % k = j := by rw [Nat.mul_comm]; exact Nat.div_add_mod j k
          have hi' : j / k < d'.size := by omega
          have h3 := flat_get (uni_encL (enc := encA) (k := k) hu (d'.toList.map abs)) (j / k) (j % k) (by rw [encL_length, hxl']; exact hi) hr
          rw [hsum, List.getElem?_eq_getElem (by rw [hlf, hxl']; exact hj), encL_get, List.getElem?_eq_getElem (by rw [hu]; exact hr)] at h3
          injection h3 with h3
          rw [h3, putCells_getG _root_.id (Go.Sort.flatK enc k d') cur j (by rw [hF]; exact hj) hj']
          refine ⟨?_, hcell _ _ (List.getElem_mem _)⟩
          simp only [List.getElem_map, Array.getElem_toList, _root_.id]
          rw [← getElem!_pos (Go.Sort.flatK enc k d') j (by rw [hF]; exact hj), Go.Sort.get_flatK enc k d' j (by rw [hd's]; exact hj), getElem!_pos d' (j / k) hi']
          have hmem : d'[j / k] ∈ d.toList := hpl.subset (by simp)
          obtain ⟨i0, hi0, he0⟩ := List.getElem_of_mem hmem
          have hi0' : i0 < xs.length := by simpa [hds] using hi0
          have hd0 : d'[j / k] = fn ⟨i0, hi0'⟩ := by
            rw [← he0, Array.getElem_toList, ← getElem!_pos d i0 (by omega), hdg i0 hi0']
          have h7 := hfn ⟨i0, hi0'⟩
          rw [← hd0] at h7
          have h8 := (hcv i0 (j % k) hi0' hr).ext hxx
          have h9 : ((encA (abs d'[j / k])).cells[j % k]'(by rw [hu]; exact hr)) = (encA xs[i0]).cells[j % k]'(by rw [hu]; exact hr) := by simp only [h7.2]
          rw [h9, h7.1, getElem!_pos _ _ (by simpa using hr)]
          simp only [List.getElem_map, List.getElem_range]
          have hp := hpos i0 (j % k) hi0' hr
          rw [getElem!_pos cur _ (by omega)]
          exact h8)
        obtain ⟨hg2, hx2⟩ := step_more hg1 (Go.Sort.grow (Go.Sort.putRowK enc k (Go.Sort.ahead C.w q) (C.μ id) 0 d') os) os rfl ⟨rfl, rfl, rfl⟩
        refine ⟨_, .tup [], _, he, rfl, hg2, hx1.trans hx2, htup _, d'.toList.map abs, ?_, ?_, rfl, ?_⟩
        · rw [← hdx]; exact (hpl.map abs).symm
        · rw [List.pairwise_map, List.pairwise_iff_getElem]
          intro i j hi hj hij
          have := hsort i j (Nat.zero_le _) hij (by simpa [hd's] using hj)
          rw [getElem!_pos d' j (by simpa using hj), getElem!_pos d' i (by simpa using hi)] at this
          simpa [ltOf] using this
        · have hgo : grO e k (encL encA (d'.toList.map abs)) = .grow e k (flat (encL encA (d'.toList.map abs))) := by
            cases hq : d'.toList.map abs with
            | nil => rw [hq] at hxl'; simp at hxl'; omega
            | cons a r => rfl
          rw [hgo, ← hH]
end Ab
namespace Go.Proofs
open Go.Shelf Go.Sort Go.RowKit
def Tryz.lays106_ren : Go.Shelf.Ren := ⟨fun | 106 => 14 | 213 => 35 | 265 => 65 | n => n, fun | 9 => 9 | 3 => 3 | n => n, fun | n => n⟩
theorem Tryz.lays106 : Go.Proofs.Lays.n106 Tryz.prog Tryz.lays106_ren := {
  mixed := by kernel_rfl
  f106 := Tryz.func14.trans (congrArg some (by kernel_rfl))
  f213 := Tryz.func35.trans (congrArg some (by kernel_rfl))
  f265 := Tryz.func65.trans (congrArg some (by kernel_rfl))
  t3 := Tryz.underlying3
  a3 := Tryz.isAgg3
  z3 := Tryz.sizeOf3
  v3 := Tryz.zeroValue3
  t9 := Tryz.underlying9
  a9 := Tryz.isAgg9
  z9 := Tryz.sizeOf9
  v9 := Tryz.zeroValue9 }
theorem Tryz.strings_Compare (a b : ByteArray) (w : World) :
    Calls Tryz.prog 14 #[.string a, .string b] w fun e w' => e = .returned (.int .i64 (Lib.compareBytes a.data.toList b.data.toList)) ∧ w' = w := Any.strings_Compare Tryz.lays106 a b w
def Tryz.sortSy_ren : Go.Shelf.Ren := ⟨fun | 6 => 12 | 15 => 34 | 14 => 33 | 28 => 63 | 29 => 64 | 20 => 55 | 21 => 56 | 22 => 57 | 23 => 58 | 24 => 59 | 25 => 60 | 26 => 61 | 27 => 62 | 46 => 82 | 47 => 83 | 48 => 84 | 49 => 85 | 50 => 86 | 57 => 95 | n => n, fun | 22 => 25 | 24 => 32 | 25 => 45 | 3 => 3 | 39 => 71 | 0 => 0 | 53 => 93 | 55 => 95 | 4 => 4 | 46 => 87 | 45 => 86 | 50 => 68 | 5 => 5 | 9 => 9 | 66 => 108 | 70 => 112 | 76 => 120 | 77 => 121 | n => n, fun | n => n⟩
theorem Tryz.sortSy : Go.Proofs.SlLaysF0.n6 Tryz.prog Tryz.sortSy_ren := {
  mixed := by kernel_rfl
  f6 := ⟨Tryz.f12.name, by decide, Tryz.func12.trans (congrArg some (by kernel_rfl))⟩
  f14 := ⟨Tryz.f33.name, by decide, Tryz.func33.trans (congrArg some (by kernel_rfl))⟩
  f15 := Tryz.func34.trans (congrArg some (by kernel_rfl))
  f20 := ⟨Tryz.f55.name, by decide, Tryz.func55.trans (congrArg some (by kernel_rfl))⟩
  f21 := ⟨Tryz.f56.name, by decide, Tryz.func56.trans (congrArg some (by kernel_rfl))⟩
  f22 := ⟨Tryz.f57.name, by decide, Tryz.func57.trans (congrArg some (by kernel_rfl))⟩
  f23 := ⟨Tryz.f58.name, by decide, Tryz.func58.trans (congrArg some (by kernel_rfl))⟩
  f24 := ⟨Tryz.f59.name, by decide, Tryz.func59.trans (congrArg some (by kernel_rfl))⟩
  f25 := ⟨Tryz.f60.name, by decide, Tryz.func60.trans (congrArg some (by kernel_rfl))⟩
  f26 := ⟨Tryz.f61.name, by decide, Tryz.func61.trans (congrArg some (by kernel_rfl))⟩
  f27 := ⟨Tryz.f62.name, by decide, Tryz.func62.trans (congrArg some (by kernel_rfl))⟩
  f28 := Tryz.func63.trans (congrArg some (by kernel_rfl))
  f29 := Tryz.func64.trans (congrArg some (by kernel_rfl))
  f46 := ⟨Tryz.f82.name, by decide, Tryz.func82.trans (congrArg some (by kernel_rfl))⟩
  f47 := Tryz.func83.trans (congrArg some (by kernel_rfl))
  f48 := Tryz.func84.trans (congrArg some (by kernel_rfl))
  f49 := ⟨Tryz.f85.name, by decide, Tryz.func85.trans (congrArg some (by kernel_rfl))⟩
  f50 := ⟨Tryz.f86.name, by decide, Tryz.func86.trans (congrArg some (by kernel_rfl))⟩
  f57 := ⟨Tryz.f95.name, by decide, Tryz.func95.trans (congrArg some (by kernel_rfl))⟩
  t0 := Tryz.underlying0
  a0 := Tryz.isAgg0
  z0 := Tryz.sizeOf0
  v0 := Tryz.zeroValue0
  t3 := Tryz.underlying3
  a3 := Tryz.isAgg3
  z3 := Tryz.sizeOf3
  v3 := Tryz.zeroValue3
  t4 := Tryz.underlying4
  a4 := Tryz.isAgg4
  z4 := Tryz.sizeOf4
  v4 := Tryz.zeroValue4
  t5 := Tryz.underlying5
  a5 := Tryz.isAgg5
  z5 := Tryz.sizeOf5
  v5 := Tryz.zeroValue5
  t9 := Tryz.underlying9
  a9 := Tryz.isAgg9
  z9 := Tryz.sizeOf9
  v9 := Tryz.zeroValue9
  t22 := Tryz.underlying25
  a22 := Tryz.isAgg25
  z22 := Tryz.sizeOf25
  v22 := Tryz.zeroValue25
  t25 := Tryz.underlying45
  a25 := Tryz.isAgg45
  z25 := Tryz.sizeOf45
  v25 := Tryz.zeroValue45
  t39 := Tryz.underlying71
  a39 := Tryz.isAgg71
  z39 := Tryz.sizeOf71
  v39 := Tryz.zeroValue71
  t45 := Tryz.underlying86
  a45 := Tryz.isAgg86
  z45 := Tryz.sizeOf86
  v45 := Tryz.zeroValue86
  t46 := Tryz.underlying87
  a46 := Tryz.isAgg87
  z46 := Tryz.sizeOf87
  v46 := Tryz.zeroValue87
  t50 := Tryz.underlying68
  a50 := Tryz.isAgg68
  z50 := Tryz.sizeOf68
  v50 := Tryz.zeroValue68
  t53 := Tryz.underlying93
  a53 := Tryz.isAgg93
  z53 := Tryz.sizeOf93
  v53 := Tryz.zeroValue93
  t55 := Tryz.underlying95
  a55 := Tryz.isAgg95
  z55 := Tryz.sizeOf95
  v55 := Tryz.zeroValue95
  t66 := Tryz.underlying108
  a66 := Tryz.isAgg108
  z66 := Tryz.sizeOf108
  v66 := Tryz.zeroValue108
  t70 := Tryz.underlying112
  a70 := Tryz.isAgg112
  z70 := Tryz.sizeOf112
  v70 := Tryz.zeroValue112
  t76 := Tryz.underlying120
  a76 := Tryz.isAgg120
  z76 := Tryz.sizeOf120
  v76 := Tryz.zeroValue120
  t77 := Tryz.underlying121
  a77 := Tryz.isAgg121
  z77 := Tryz.sizeOf121
  v77 := Tryz.zeroValue121 }
end Go.Proofs
set_option maxRecDepth 10000
namespace Go.Proofs
open Go.Shelf Go.RowKit Go.Lib Go.Sort
set_option maxHeartbeats 1000000 in
theorem Tryz.sortSyC (a b : ByteArray) (a1 b1 : Value) (W : World) : Calls Tryz.prog 13 #[.agg #[.string a, a1], .agg #[.string b, b1]] W fun e w' => e = .returned (.int .i64 (Lib.compareBytes a.data.toList b.data.toList)) ∧ ∃ q os', w' = grow (W.drewN q) os' := by
  have hcon := fun W' => Tryz.strings_Compare a b W'
  generalize Lib.compareBytes a.data.toList b.data.toList = r at hcon ⊢
  go_enter Tryz.func13, Tryz.ntmps13
  go_wp2_with (go_at_call 14; refine (hcon _).mono ?_; rintro e w' ⟨rfl, rfl⟩)
  go_ret
  exact ⟨rfl, 0, _, by rw [alloc_eq_grow, alloc_eq_grow, grow_grow]; rfl⟩
end Go.Proofs
namespace Ab
open Go Go.Proofs
@[reducible] def encSy (s : List UInt8 × Nat) : AV := .agg [.str s.1, .int .i64 (s.2 : Nat)]
theorem cellSy : ∀ (x : List UInt8 × Nat) c, c ∈ (encSy x).cells → c.isCell = true := by
  intro x c hc; simp [AV.cells] at hc; rcases hc with rfl | rfl <;> rfl
theorem uniSy (l : List (List UInt8 × Nat)) : Uni (1 + 1) (encL encSy l) = True := eq_true (uni_encL (enc := encSy) (k := 2) (fun _ => rfl) l)
theorem scSy_ (n : Nat) (l : List (List UInt8 × Nat)) : ScopedL n (encL encSy l) = True := eq_true (scoped_encL (fun x => by simp [Scoped, ScopedL]) l)
theorem flat_encSy (l : List (List UInt8 × Nat)) : (flat (encL encSy l)).length = l.length * 2 := by rw [flat_length (uni_encL (enc := encSy) (k := 2) (fun _ => rfl) l), encL_length]
theorem scflSy (n : Nat) (l : List (List UInt8 × Nat)) : ScopedL n (flat (encL encSy l)) = True := by
  refine eq_true ?_
  rw [ScopedL_iff]
  intro v hv
  unfold flat encL at hv
  rw [List.mem_flatMap] at hv
  obtain ⟨a, ha, hv⟩ := hv
  obtain ⟨b, _, rfl⟩ := List.mem_map.1 ha
  simp only [AV.cells, List.mem_cons, List.not_mem_nil, or_false] at hv
  rcases hv with rfl | rfl <;> simp [Scoped]
attribute [push_cast] uniSy scSy_ scflSy
def encSyV (s : List UInt8 × Nat) : List Value := [.string ⟨s.1.toArray⟩, .int .i64 (s.2 : Nat)]
theorem sy_swo : Go.Sort.SWO (ltOf fun a b : List UInt8 × Nat => Lib.compareBytes a.1 b.1) := by
  have hz : ∀ x y : List UInt8 × Nat, ltOf (fun a b : List UInt8 × Nat => Lib.compareBytes a.1 b.1) x y = decide (Lib.compareBytes x.1 y.1 < 0) := fun _ _ => rfl
  refine ⟨fun x => ?_, fun x y z h1 h2 => ?_, fun x y z h1 h2 => ?_⟩
  · rw [hz, (compareBytes_eq x.1 x.1).2 rfl]; rfl
  · rw [hz, decide_eq_true_eq] at *; exact cb_trans _ _ _ h1 h2
  · rw [hz, decide_eq_false_iff_not] at *
    intro h3
    by_cases e : x.1 = y.1
    · rw [e] at h3; exact h2 h3
    · exact h2 (cb_trans _ _ _ (cb_tot _ _ h1 e) h3)
theorem sortSy_ac (k : Nat) (l : List (List UInt8 × Nat)) (hlen : l.length < 1099511627776) (H : List AObj) (hk : H[k]? = some (grO 32 2 (encL encSy l))) :
    ACall Tryz.prog 12 [grS k (encL encSy l), .fn 13 []] H (fun r H' => ∃ l', l.Perm l' ∧ l'.Pairwise (fun a b => ¬ Lib.compareBytes b.1 a.1 < 0) ∧ r = .tup [] ∧ H' = H.set k (grO 32 2 (encL encSy l'))) :=
  sortG (ρ := Tryz.sortSy_ren) Tryz.sortSy 2 (by decide) Tryz.isAgg32 Tryz.sizeOf32 encSy (fun _ => rfl) cellSy encSyV (fun _ => rfl) (fun a v hv => by
      simp only [encSyV, List.mem_cons, List.not_mem_nil, or_false] at hv
      rcases hv with rfl | rfl <;> rfl) _root_.id (fun C x vs hl h => by
      match vs, hl with
      | [a, b], _ =>
        have h0 := h 0 (by simp [AV.cells]) (by simp)
        have h1 := h 1 (by simp [AV.cells]) (by simp)
        have g0 := VRel.str_inv (show VRel C (.str x.1) a from h0)
        have g1 := VRel.int_inv (show VRel C (.int .i64 (x.2 : Nat)) b from h1)
        subst g0 g1
        exact ⟨x, rfl, rfl⟩)
    (fun a b => Lib.compareBytes a.1 b.1) sy_swo 13 (enters_of Tryz.func13 (by kernel_rfl) rfl) (fun w a b => Tryz.sortSyC _ _ _ _ w) k l 32 hlen H hk
def sysP (rs : List (Term × Term)) : Int := if rulesP rs ≠ 0 then rulesP rs else if arB rs then 6 else if (arE rs).2.any (fun s => markedP s.1) then 6 else if rs.any extraP then 7 else 0
theorem rules_ok {rs : List (Term × Term)} (h : rulesP rs = 0) : rs.length ≤ 64 ∧ ∀ r, r ∈ rs → checkP r.1 = 0 ∧ checkP r.2 = 0 := by
  unfold rulesP at h
  split at h
  · cases h
  · rename_i h1
    refine ⟨by omega, fun r hr => ?_⟩
    rw [firstErr_iff] at h
    exact ⟨h _ (mem_rT.2 ⟨r, hr, .inl rfl⟩), h _ (mem_rT.2 ⟨r, hr, .inr rfl⟩)⟩
def BndR (rs : List (Term × Term)) : Prop := ∀ r, r ∈ rs → r.1.bulk ≤ 1099511627770 ∧ r.2.bulk ≤ 1099511627770
theorem nodes_key {L : List (List UInt8 × Nat)} {q : Nat × List (List UInt8 × Nat)} : ∀ x, x ∈ (arF q L).2 → (∃ y, y ∈ q.2 ∧ y.1 = x.1) ∨ ∃ y, y ∈ L ∧ y.1 = x.1 := by
  induction L generalizing q with
  | nil => intro x hx; exact .inl ⟨x, hx, rfl⟩
  | cons s r ih =>
    intro x hx
    rcases ih (q := arStep q s) x hx with ⟨y, hy, e⟩ | ⟨y, hy, e⟩
    · have : (∃ z, z ∈ q.2 ∧ z.1 = y.1) ∨ y.1 = s.1 := by
        unfold arStep at hy
        split at hy
        · exact .inl ⟨y, hy, rfl⟩
        · have : ∀ (m : List (List UInt8 × Nat)), y ∈ aset m s.1 s.2 → (∃ z, z ∈ m ∧ z.1 = y.1) ∨ y.1 = s.1 := by
            intro m
            induction m with
            | nil => intro h; simp [aset] at h; rw [h]; exact .inr rfl
            | cons p m ih2 =>
              intro h
              unfold aset at h
              split at h
              · rcases List.mem_cons.1 h with h | h
                · rw [h]; exact .inr rfl
                · exact .inl ⟨y, by simp [h], rfl⟩
              · rcases List.mem_cons.1 h with h | h
                · exact .inl ⟨y, by simp [h], rfl⟩
                · rcases ih2 h with ⟨z, hz, e2⟩ | h
                  · exact .inl ⟨z, by simp [hz], e2⟩
                  · exact .inr h
          exact this _ hy
      rcases this with ⟨z, hz, e2⟩ | e2
      · exact .inl ⟨z, hz, e2.trans e⟩
      · exact .inr ⟨s, by simp, by rw [← e, e2]⟩
    · exact .inr ⟨y, by simp [hy], e⟩
theorem nodes_name : ∀ (ts : List Term) x, x ∈ nodesL ts → ∃ t, t ∈ ts ∧ x.1.length < t.bulk
  | [], x, h => by simp [nodesL] at h
  | .mk n u xs :: r, x, h => by
    rw [nodesL, List.mem_append, List.mem_append] at h
    rcases h with h | h | h
    · refine ⟨_, List.mem_cons_self, ?_⟩
      unfold ndT at h
      split at h
      · cases h
      · rw [List.mem_singleton] at h; rw [h]; exact Term.name_le
    · obtain ⟨t, ht, hl⟩ := nodes_name xs x h
      have := Term.arg_le (n := n) (v := u) ht
      exact ⟨_, List.mem_cons_self, by omega⟩
    · obtain ⟨t, ht, hl⟩ := nodes_name r x h
      exact ⟨t, List.mem_cons_of_mem _ ht, hl⟩
theorem arE_name {rs : List (Term × Term)} (hb : BndR rs) : ∀ x, x ∈ (arE rs).2 → x.1.length < 1099511627776 := by
  intro x hx
  rcases nodes_key x hx with ⟨y, hy, _⟩ | ⟨y, hy, e⟩
  · cases hy
  · obtain ⟨t, ht, hl⟩ := nodes_name _ y hy
    obtain ⟨r, hr, h⟩ := mem_rT.1 ht
    have := hb r hr
    rw [← e]
    rcases h with rfl | rfl <;> omega
theorem checkSystem_ac (rs : List (Term × Term)) (hlen : rs.length < 1099511627776) (hb : BndR rs) (H : List AObj) : ACall Tryz.prog 6 [.sl .none (encL encRu rs)] H (fun r H' => r = .int .i64 (sysP rs) ∧ H' = H) := by
  have hb' : ∀ r, r ∈ rs → r.1.bulk ≤ 1099511627775 ∧ r.2.bulk ≤ 1099511627775 := fun r hr => by have := hb r hr; omega
  refine ACall_V (H.length) 28 [.tmp 2] Tryz.func6 rfl rfl rfl ?_
  simp only [push_cast, Nat.reduceAdd, Nat.reduceSub, Nat.reduceMul, Nat.reduceLT, Nat.reduceLeDiff, Nat.reduceEqDiff, Int.reduceToNat, ↓reduceIte]
  refine (checkRules_ac rs hlen hb' _).to ?_
  simp only [push_cast, Nat.reduceAdd, Nat.reduceSub, Nat.reduceMul, Nat.reduceLT, Nat.reduceLeDiff, Nat.reduceEqDiff, Int.reduceToNat, ↓reduceIte]
  refine cI (fun h1 => ?_) (fun h1 => ?_)
  · refine (arities_ac rs hlen hb' _).mono ?_
    rintro r H' ⟨rfl, v, es, rfl, hve⟩
    cases hB : arB rs with
    | true =>
      have e : sysP rs = 6 := by simp [sysP, h1, hB]
      simp only [push_cast, Nat.reduceAdd, Nat.reduceSub, Nat.reduceMul, Nat.reduceLT, Nat.reduceLeDiff, Nat.reduceEqDiff, Int.reduceToNat, ↓reduceIte, e, Bool.not_true]
    | false =>
      obtain ⟨rfl, rfl⟩ := hve hB
      simp only [push_cast, Nat.reduceAdd, Nat.reduceSub, Nat.reduceMul, Nat.reduceLT, Nat.reduceLeDiff, Nat.reduceEqDiff, Int.reduceToNat, ↓reduceIte, Bool.not_false, Bool.false_eq_true, if_false]
      have hnm := arE_name hb
      obtain ⟨q, hq⟩ : ∃ q, q = arE rs := ⟨_, rfl⟩
      rw [← hq] at hnm ⊢
      refine AOp_range_map (H.length + 2) q.1 (sA q.2) rfl (by exact (agetN _ _ 2).trans rfl) un40 ?_
      simp only [push_cast, Nat.reduceAdd, Nat.reduceSub, Nat.reduceMul, Nat.reduceLT, Nat.reduceLeDiff, Nat.reduceEqDiff, Int.reduceToNat, ↓reduceIte]
      refine AW_loopW (maskG 29 [0, 19]) (fun (p : List (List UInt8 × Nat) × List (List UInt8 × Nat) × Option (List UInt8 × Nat)) => []) (fun p => H ++ [.cells [.map (H.length + 2)], .cells [.bool true], .map q.1 (sA q.2), .iter (H.length + 2) q.1 (sA p.2.1) (lN p.2.2)]) (fun p => (p.1 ++ p.2.1).Perm q.2 ∧ p.1.any (fun s => markedP s.1) = false) (fun p => p.2.1.length) ([], q.2, none) ⟨List.Perm.refl _, rfl⟩ (by simp only [push_cast, Nat.reduceAdd, Nat.reduceSub, Nat.reduceMul, Nat.reduceLT, Nat.reduceLeDiff, Nat.reduceEqDiff, Int.reduceToNat, ↓reduceIte, lN_n]) (fun p hp => ?_)
      obtain ⟨xs, left, last⟩ := p
      obtain ⟨hp, hall⟩ := hp
      simp only at hp hall
      simp only [push_cast, Nat.reduceAdd, Nat.reduceSub, Nat.reduceMul, Nat.reduceLT, Nat.reduceLeDiff, Nat.reduceEqDiff, Int.reduceToNat, ↓reduceIte]
      refine AOp_next_map (H.length + 3) (H.length + 2) q.1 (sA q.2) (sA left) (lN last) rfl (by exact (agetN _ _ 3).trans rfl) (by exact (agetN _ _ 2).trans rfl) (fun he => ?_) (fun j hj => ?_)
      · have hl0 : left = [] := by cases left with | nil => rfl | cons a l => simp [sA, amap] at he
        subst hl0
        rw [List.append_nil] at hp
        have hm : q.2.any (fun s => markedP s.1) = false := by
          rw [← Bool.not_eq_true, List.any_eq_true] at hall ⊢
          rintro ⟨x, hx, hxm⟩
          exact hall ⟨x, hp.mem_iff.2 hx, hxm⟩
        simp only [push_cast, Nat.reduceAdd, Nat.reduceSub, Nat.reduceMul, Nat.reduceLT, Nat.reduceLeDiff, Nat.reduceEqDiff, Int.reduceToNat, ↓reduceIte]
        refine (containsRu_ac rs 18 [] extraP _ hlen ok18 (by simp [ScopedL]) (fun i h => extra_ac _ (hb _ (List.getElem_mem h)).1 (hb _ (List.getElem_mem h)).2 _)).to ?_
        simp only [push_cast, Nat.reduceAdd, Nat.reduceSub, Nat.reduceMul, Nat.reduceLT, Nat.reduceLeDiff, Nat.reduceEqDiff, Int.reduceToNat, ↓reduceIte]
        refine cI (fun hx => ?_) (fun hx => ?_)
        · have e : sysP rs = 7 := by simp only [sysP, h1, hB, ← hq, hm]; simp [hx]
          simp only [push_cast, Nat.reduceAdd, Nat.reduceSub, Nat.reduceMul, Nat.reduceLT, Nat.reduceLeDiff, Nat.reduceEqDiff, Int.reduceToNat, ↓reduceIte, e]
        · have e : sysP rs = 0 := by simp only [sysP, h1, hB, ← hq, hm]; simp [hx]
          simp only [push_cast, Nat.reduceAdd, Nat.reduceSub, Nat.reduceMul, Nat.reduceLT, Nat.reduceLeDiff, Nat.reduceEqDiff, Int.reduceToNat, ↓reduceIte, e]
      · have hjl : j < left.length := by rw [sA_len] at hj; exact hj
        have e1 : (sA left)[j] = (.str left[j].1, avN left[j].2) := by simp [sA, amap]
        have e2 : (sA left).eraseIdx j = sA (left.eraseIdx j) := by simp only [sA, amap, erase_map]
        have hmm : left[j] ∈ q.2 := hp.mem_iff.1 (by simp)
        rw [e1, e2]
        simp only [push_cast, Nat.reduceAdd, Nat.reduceSub, Nat.reduceMul, Nat.reduceLT, Nat.reduceLeDiff, Nat.reduceEqDiff, Int.reduceToNat, ↓reduceIte]
        refine AOp_entry_map (H.length + 3) (H.length + 2) q.1 (sA q.2) (sA (left.eraseIdx j)) (.str left[j].1, avN left[j].2) rfl (by exact (agetN _ _ 3).trans rfl) (by exact (agetN _ _ 2).trans rfl) ?_
        simp only [push_cast, Nat.reduceAdd, Nat.reduceSub, Nat.reduceMul, Nat.reduceLT, Nat.reduceLeDiff, Nat.reduceEqDiff, Int.reduceToNat, ↓reduceIte]
        refine (markedT_ac left[j].1 (hnm _ hmm) _).to ?_
        simp only [push_cast, Nat.reduceAdd, Nat.reduceSub, Nat.reduceMul, Nat.reduceLT, Nat.reduceLeDiff, Nat.reduceEqDiff, Int.reduceToNat, ↓reduceIte]
        refine cI (fun hx => ?_) (fun hx => ?_)
        · have hm : q.2.any (fun s => markedP s.1) = true := List.any_eq_true.2 ⟨_, hmm, hx⟩
          have e : sysP rs = 6 := by simp only [sysP, h1, hB, ← hq, hm]; simp
          simp only [push_cast, Nat.reduceAdd, Nat.reduceSub, Nat.reduceMul, Nat.reduceLT, Nat.reduceLeDiff, Nat.reduceEqDiff, Int.reduceToNat, ↓reduceIte, e]
        · refine loopW_n (xs ++ [left[j]], left.eraseIdx j, some left[j]) ⟨?_, ?_⟩ (by simp only [List.length_eraseIdx]; split <;> omega) (by simp only [push_cast, Nat.reduceAdd, Nat.reduceSub, Nat.reduceMul, Nat.reduceLT, Nat.reduceLeDiff, Nat.reduceEqDiff, Int.reduceToNat, ↓reduceIte, lN_s])
          · refine List.Perm.trans ?_ hp
            rw [List.append_assoc]
            refine List.Perm.append_left xs ?_
            rw [List.eraseIdx_eq_take_drop_succ]
            refine (List.perm_middle (l₁ := left.take j) (l₂ := left.drop (j + 1)) (a := left[j])).symm.trans ?_
            rw [← List.drop_eq_getElem_cons hjl, List.take_append_drop]
          · rw [List.any_append, hall]; simpa using hx
  · have e : sysP rs = rulesP rs := by simp [sysP, h1]
    simp only [push_cast, Nat.reduceAdd, Nat.reduceSub, Nat.reduceMul, Nat.reduceLT, Nat.reduceLeDiff, Nat.reduceEqDiff, Int.reduceToNat, ↓reduceIte, e]
end Ab
set_option maxRecDepth 10000
namespace Ab
open Go Go.Proofs
section
variable {P : Program} {ro : Option Nat} {st : ASt} {dst : Option Tmp} {ty : TypeId} {pos : String} {after : Array Edge} {guard : Option (Nat × Bool)} {K : AV → List AObj → Prop}
theorem app1_GS {α : Type} (enc : α → AV) {t e by_ sz : Nat} {s x : Operand} (hu : ∀ x, (enc x).cells.length = sz) (hc : ∀ x c, c ∈ (enc x).cells → c.isCell = true) (zs : List Value) (k : Nat) (xs : List α) (y : α) (tk : Tok) (hs : st.opd s = grS k (encL enc xs)) (hx : st.opd x = .sl tk [enc y]) (hh : st.heap[k]? = some (grO e sz (encL enc xs)))
    (ht : SliceT P t e) (hsz : SzOf P e sz) (hby : BytesOf P e by_) (hz : ZeroOf P e zs) (hz0 : zs.length = sz) (h0 : 0 < sz) (hb : by_ ≤ 100) (hl : xs.length < 1099511627776)
    (k' : K (grS k (encL enc (xs ++ [y]))) (st.heap.set k (grO e sz (encL enc (xs ++ [y]))))) :
    AOp P ro ⟨dst, .call { callee := .builtin .append, args := #[s, x], argTypes := #[t, t] }, ty, pos, after, guard⟩ K st := by
  have e1 : encL enc (xs ++ [y]) = encL enc xs ++ [enc y] := by simp [encL]
  rw [e1] at k'
  refine AOp_append_Gr zs k (encL enc xs) [enc y] tk hs hx hh ht hsz hby hz hz0 h0 (uni_encL hu xs) (by intro x hx; rw [List.mem_singleton] at hx; subst hx; exact hu y) (fun c h => hc y c (by simpa [flat] using h)) ?_ (by rw [encL_length]; simp; omega) k'
  rw [encL_length]
  calc (xs.length + 1) * by_ ≤ 1099511627776 * 100 := Nat.mul_le_mul (by omega) hb
    _ ≤ _ := by decide
end
theorem osc_itAi (n m ver : Nat) (l : List (List UInt8 × Nat)) (a : List UInt8) (b : Nat) (h : m < n) : OScoped n (.iter m ver (sA l) (some (.str a, .int .i64 (b : Nat)))) = True := osc_itA n m ver l (some (a, b)) h
attribute [push_cast] osc_itAi
def symP (rs : List (Term × Term)) : List (List UInt8 × Nat) × Int := if sysP rs = 0 then ((symRs (rT rs) []).1, 0) else ([], sysP rs)
theorem sys_zero {rs : List (Term × Term)} (h : sysP rs = 0) : rulesP rs = 0 ∧ arB rs = false ∧ (arE rs).2.any (fun s => markedP s.1) = false ∧ rs.any extraP = false := by
  unfold sysP at h
  split at h
  · rename_i h1; exact absurd h h1
  · rename_i h1
    split at h
    · cases h
    · rename_i h2
      split at h
      · cases h
      · rename_i h3
        split at h
        · cases h
        · rename_i h4
          exact ⟨by simpa using h1, by simpa using h2, by simpa using h3, by simpa using h4⟩
theorem formed_of_check {t : Term} (h : checkP t = 0) : formedP t = true := by
  unfold checkP at h
  cases hf : formedP t with
  | true => rfl
  | false => rw [hf] at h; simp at h
theorem size_of_check {t : Term} (h : checkP t = 0) : t.size ≤ 4000 := (check_bulk h).2
theorem rules_formed {rs : List (Term × Term)} (h : rulesP rs = 0) : ∀ t, t ∈ rT rs → formedP t = true := by
  intro t ht
  obtain ⟨r, hr, he⟩ := mem_rT.1 ht
  have := (rules_ok h).2 r hr
  rcases he with rfl | rfl
  · exact formed_of_check this.1
  · exact formed_of_check this.2
theorem rules_agree {rs : List (Term × Term)} (h : rulesP rs = 0) : (symRs (rT rs) []).2 = (!arB rs && (arE rs).2.all fun s => !markedP s.1) := sys_agree _ (rules_formed h)
theorem nodes_len : ∀ ts : List Term, (nodesL ts).length ≤ (ts.map Term.size).sum
  | [] => by simp [nodesL]
  | .mk n u xs :: r => by
    have h1 := nodes_len xs
    have h2 := nodes_len r
    rw [nodesL, List.length_append, List.length_append, List.map_cons, List.sum_cons, Term.size_mk]
    have : (ndT (.mk n u xs)).length ≤ 1 := by unfold ndT; split <;> simp
    omega
theorem rules_size {rs : List (Term × Term)} (h : rulesP rs = 0) : ((rT rs).map Term.size).sum ≤ 512000 := by
  obtain ⟨h1, h2⟩ := rules_ok h
  have : ∀ l : List (Term × Term), (∀ r, r ∈ l → checkP r.1 = 0 ∧ checkP r.2 = 0) → ((rT l).map Term.size).sum ≤ l.length * 8000 := by
    intro l
    induction l with
    | nil => intro _; simp [rT]
    | cons r l ih =>
      intro hl
      have h4 := ih (fun x hx => hl x (by simp [hx]))
      have h5 := size_of_check (hl r (by simp)).1
      have h6 := size_of_check (hl r (by simp)).2
      have : rT (r :: l) = r.1 :: r.2 :: rT l := rfl
      rw [this]
      simp only [List.map_cons, List.sum_cons, List.length_cons]
      omega
  have h4 := this rs h2
  omega
theorem rT_size {rs : List (Term × Term)} (h : rulesP rs = 0) : (nodesL (rT rs)).length ≤ 512000 := by
  have h3 := nodes_len (rT rs)
  have h4 := rules_size h
  omega
theorem arF_len : ∀ (L : List (List UInt8 × Nat)) (q : Nat × List (List UInt8 × Nat)), (arF q L).2.length ≤ q.2.length + L.length
  | [], q => by simp [arF]
  | s :: r, q => by
    have h1 := arF_len r (arStep q s)
    have h2 : (arStep q s).2.length ≤ q.2.length + 1 := by
      unfold arStep
      split
      · omega
      · have : ∀ m : List (List UInt8 × Nat), (aset m s.1 s.2).length ≤ m.length + 1 := by
          intro m
          induction m with
          | nil => simp [aset]
          | cons p m ih => unfold aset; split <;> simp <;> omega
        exact this _
    have : arF q (s :: r) = arF (arStep q s) r := rfl
    rw [this, List.length_cons]; omega
theorem symbols_ac (rs : List (Term × Term)) (hlen : rs.length < 1099511627776) (hb : BndR rs) (H : List AObj) : ACall Tryz.prog 5 [.sl .none (encL encRu rs)] H (fun r H' => r = .tup [.sl .none (encL encSy (symP rs).1), .int .i64 (symP rs).2] ∧ H' = H) := by
  have hb' : ∀ r, r ∈ rs → r.1.bulk ≤ 1099511627775 ∧ r.2.bulk ≤ 1099511627775 := fun r hr => by have := hb r hr; omega
  refine ACall_VGA (H.length) 35 [.tmp 2, .tmp 3] Tryz.func5 rfl rfl rfl ?_
  refine AW_reserve 1 ?_
  refine AW_of_W ?_
  simp only [push_cast, Nat.reduceAdd, Nat.reduceSub, Nat.reduceMul, Nat.reduceLT, Nat.reduceLeDiff, Nat.reduceEqDiff, Int.reduceToNat, ↓reduceIte]
  refine (checkSystem_ac rs hlen hb _).to ?_
  simp only [push_cast, Nat.reduceAdd, Nat.reduceSub, Nat.reduceMul, Nat.reduceLT, Nat.reduceLeDiff, Nat.reduceEqDiff, Int.reduceToNat, ↓reduceIte]
  refine cI (fun h1 => ?_) (fun h1 => ?_)
  · obtain ⟨z1, z2, z3, z4⟩ := sys_zero h1
    have e : symP rs = ((symRs (rT rs) []).1, 0) := by simp [symP, h1]
    have hst : (symRs (rT rs) []).2 = true := by
      rw [rules_agree z1, z2]
      rw [← Bool.not_eq_true, List.any_eq_true] at z3
      simp only [Bool.not_false, Bool.true_and, List.all_eq_true]
      intro x hx
      by_cases hm : markedP x.1 = true
      · exact absurd ⟨x, hx, hm⟩ z3
      · simpa using hm
    obtain ⟨s1, s2⟩ := sys_perm _ (rules_formed z1) hst
    have hsz := rT_size z1
    have hql := arF_len (nodesL (rT rs)) (0, [])
    rw [e]
    refine (arities_ac rs hlen hb' _).mono ?_
    rintro r H' ⟨rfl, v, es, rfl, hve⟩
    obtain ⟨rfl, rfl⟩ := hve z2
    simp only [push_cast, Nat.reduceAdd, Nat.reduceSub, Nat.reduceMul, Nat.reduceLT, Nat.reduceLeDiff, Nat.reduceEqDiff, Int.reduceToNat, ↓reduceIte, z2, Bool.not_false, Bool.false_eq_true, if_false]
    have s2' : (symRs (rT rs) []).1.Perm (arE rs).2 := s2
    have hql' : (arE rs).2.length ≤ 512000 := by simp at hql; exact Nat.le_trans hql hsz
    obtain ⟨q, hq⟩ : ∃ q, q = arE rs := ⟨_, rfl⟩
    rw [← hq] at s2' hql' ⊢
    refine AOp_range_map (H.length + 3) q.1 (sA q.2) rfl (by exact (agetN _ _ 3).trans rfl) un40 ?_
    simp only [push_cast, Nat.reduceAdd, Nat.reduceSub, Nat.reduceMul, Nat.reduceLT, Nat.reduceLeDiff, Nat.reduceEqDiff, Int.reduceToNat, ↓reduceIte]
    refine AW_loopW (maskG 36 [7, 13]) (fun (p : List (List UInt8 × Nat) × List (List UInt8 × Nat) × Option (List UInt8 × Nat)) => [(7, grS H.length (encL encSy p.1))]) (fun p => H ++ [grO 32 2 (encL encSy p.1), .cells [.map (H.length + 3)], .cells [.bool true], .map q.1 (sA q.2), .iter (H.length + 3) q.1 (sA p.2.1) (lN p.2.2)]) (fun p => (p.1 ++ p.2.1).Perm q.2) (fun p => p.2.1.length) ([], q.2, none) (List.Perm.refl _) (by simp only [push_cast, Nat.reduceAdd, Nat.reduceSub, Nat.reduceMul, Nat.reduceLT, Nat.reduceLeDiff, Nat.reduceEqDiff, Int.reduceToNat, ↓reduceIte, lN_n, encL_nil]) (fun p hp => ?_)
    obtain ⟨xs, left, last⟩ := p
    simp only at hp
    have hxl := hp.length_eq
    rw [List.length_append] at hxl
    simp only [push_cast, Nat.reduceAdd, Nat.reduceSub, Nat.reduceMul, Nat.reduceLT, Nat.reduceLeDiff, Nat.reduceEqDiff, Int.reduceToNat, ↓reduceIte]
    refine AOp_next_map (H.length + 4) (H.length + 3) q.1 (sA q.2) (sA left) (lN last) rfl (by exact (agetN _ _ 4).trans rfl) (by exact (agetN _ _ 3).trans rfl) (fun he => ?_) (fun j hj => ?_)
    · have hl0 : left = [] := by cases left with | nil => rfl | cons a l => simp [sA, amap] at he
      subst hl0
      rw [List.append_nil] at hp
      simp only [push_cast, Nat.reduceAdd, Nat.reduceSub, Nat.reduceMul, Nat.reduceLT, Nat.reduceLeDiff, Nat.reduceEqDiff, Int.reduceToNat, ↓reduceIte]
      refine (sortSy_ac H.length xs (by simp at hxl; omega) _ (by exact aget0 _ _ _)).mono ?_
      rintro r H' ⟨l', hl', hw, rfl, rfl⟩
      have hl2 : l' = (symRs (rT rs) []).1 := sorted_uniqueK (s2'.trans (hp.symm.trans hl')) s1 hw
      subst hl2
      simp only [push_cast, Nat.reduceAdd, Nat.reduceSub, Nat.reduceMul, Nat.reduceLT, Nat.reduceLeDiff, Nat.reduceEqDiff, Int.reduceToNat, ↓reduceIte]
      rw [grS_len H.length (show (encL encSy xs).length = (encL encSy (symRs (rT rs) []).1).length by rw [encL_length, encL_length, hl'.length_eq])]
      exact .row2 H.length 32 2 (by exact aget0 _ _ _) (by rw [flat_encSy, encL_length]) (by omega) (of_eq_true (scflSy _ _)) (by simp only [push_cast, Nat.reduceAdd, Nat.reduceSub, Nat.reduceMul, Nat.reduceLT, Nat.reduceLeDiff, Nat.reduceEqDiff, Int.reduceToNat, ↓reduceIte])
    · have hjl : j < left.length := by rw [sA_len] at hj; exact hj
      have e1 : (sA left)[j] = (.str left[j].1, avN left[j].2) := by simp [sA, amap]
      have e2 : (sA left).eraseIdx j = sA (left.eraseIdx j) := by simp only [sA, amap, erase_map]
      rw [e1, e2]
      simp only [push_cast, Nat.reduceAdd, Nat.reduceSub, Nat.reduceMul, Nat.reduceLT, Nat.reduceLeDiff, Nat.reduceEqDiff, Int.reduceToNat, ↓reduceIte]
      refine AOp_entry_map (H.length + 4) (H.length + 3) q.1 (sA q.2) (sA (left.eraseIdx j)) (.str left[j].1, avN left[j].2) rfl (by exact (agetN _ _ 4).trans rfl) (by exact (agetN _ _ 3).trans rfl) ?_
      simp only [push_cast, Nat.reduceAdd, Nat.reduceSub, Nat.reduceMul, Nat.reduceLT, Nat.reduceLeDiff, Nat.reduceEqDiff, Int.reduceToNat, ↓reduceIte, avN]
      refine app1_GS encSy (sz := 2) (fun _ => rfl) cellSy _ H.length xs left[j] _ rfl rfl (by exact aget0 _ _ _) sl25 sz32 by32 zr32 rfl (by decide) (by decide) (by omega) ?_
      simp only [push_cast, Nat.reduceAdd, Nat.reduceSub, Nat.reduceMul, Nat.reduceLT, Nat.reduceLeDiff, Nat.reduceEqDiff, Int.reduceToNat, ↓reduceIte]
      refine loopW_n (xs ++ [left[j]], left.eraseIdx j, some left[j]) ?_ (by simp only [List.length_eraseIdx]; split <;> omega) (by simp only [push_cast, Nat.reduceAdd, Nat.reduceSub, Nat.reduceMul, Nat.reduceLT, Nat.reduceLeDiff, Nat.reduceEqDiff, Int.reduceToNat, ↓reduceIte, lN_s, avN])
      refine List.Perm.trans ?_ hp
      rw [List.append_assoc]
      refine List.Perm.append_left xs ?_
      rw [List.eraseIdx_eq_take_drop_succ]
      refine (List.perm_middle (l₁ := left.take j) (l₂ := left.drop (j + 1)) (a := left[j])).symm.trans ?_
      rw [← List.drop_eq_getElem_cons hjl, List.take_append_drop]
  · have e : symP rs = ([], sysP rs) := by simp [symP, h1]
    simp only [push_cast, Nat.reduceAdd, Nat.reduceSub, Nat.reduceMul, Nat.reduceLT, Nat.reduceLeDiff, Nat.reduceEqDiff, Int.reduceToNat, ↓reduceIte, e, encL_nil]
    exact .fgt (by simp only [push_cast, Nat.reduceAdd, Nat.reduceSub, Nat.reduceMul, Nat.reduceLT, Nat.reduceLeDiff, Nat.reduceEqDiff, Int.reduceToNat, ↓reduceIte])
end Ab
set_option maxRecDepth 10000
namespace Ab
open Go Go.Proofs
theorem gSl_sl' (k : Nat) (xs : List AV) : ∃ tk, gSl k xs = .sl tk xs := by cases xs <;> exact ⟨_, rfl⟩
theorem symRs_nil (l : List (List UInt8 × Nat)) : symRs [] l = (l, true) := by rw [symRs]
theorem symRs_app : ∀ (a b : List Term) (l : List (List UInt8 × Nat)), symRs (a ++ b) l = if (symRs a l).2 then symRs b (symRs a l).1 else symRs a l
  | [], b, l => by simp [symRs_nil]
  | t :: a, b, l => by
    rw [List.cons_append, symRs_cons, symRs_cons]
    by_cases h : (symR t l).2 = true
    · rw [if_pos h, if_pos h]; exact symRs_app a b _
    · rw [if_neg h, if_neg h]; simp
theorem symRs_snoc (a : List Term) (l : List (List UInt8 × Nat)) (x : Term) (h : (symRs a l).2 = true) : symRs (a ++ [x]) l = if (symR x (symRs a l).1).2 then ((symR x (symRs a l).1).1, true) else ((symRs a l).1, false) := by
  rw [symRs_app, if_pos h, symRs_cons, symRs_nil]
theorem symRs_fail (a : List Term) (l : List (List UInt8 × Nat)) (x : Term) (r : List Term) (h : (symRs a l).2 = true) (h2 : (symR x (symRs a l).1).2 = false) : symRs (a ++ x :: r) l = ((symRs a l).1, false) := by
  rw [symRs_app, if_pos h, symRs_cons, if_neg (by simp [h2])]
theorem insSy_sub {l : List (List UInt8 × Nat)} {s x : List UInt8 × Nat} (h : x ∈ insSy l s) : x ∈ l ∨ x = s := by
  unfold insSy at h
  split at h
  · exact .inl h
  · rw [List.mem_append, List.mem_append, List.mem_singleton] at h
    rcases h with (h | h) | h
    · exact .inl (List.mem_of_mem_take h)
    · exact .inr h
    · exact .inl (List.mem_of_mem_drop h)
theorem insSy_len (l : List (List UInt8 × Nat)) (s : List UInt8 × Nat) : (insSy l s).length ≤ l.length + 1 := by
  unfold insSy
  split
  · omega
  · simp; omega
theorem symRs_len : ∀ (ts : List Term) (l : List (List UInt8 × Nat)), (symRs ts l).1.length ≤ l.length + (ts.map Term.size).sum
  | [], l => by simp [symRs_nil]
  | .mk n u xs :: r, l => by
    rw [symRs, List.map_cons, List.sum_cons, Term.size_mk]
    have h0 := insSy_len l (n, xs.length)
    have h1 := symRs_len xs (insSy l (n, xs.length))
    have h2 := symRs_len r l
    have h3 := symRs_len r (symRs xs (insSy l (n, xs.length))).1
    repeat' split
    all_goals (first | omega | (simp only; omega))
theorem symRs_names : ∀ (ts : List Term) (l : List (List UInt8 × Nat)), (∀ t, t ∈ ts → t.bulk ≤ 1099511627775) → (∀ x, x ∈ l → x.1.length < 1099511627776) → ∀ x, x ∈ (symRs ts l).1 → x.1.length < 1099511627776
  | [], l, _, h, x, hx => by rw [symRs_nil] at hx; exact h x hx
  | .mk n u xs :: r, l, hb, h, x, hx => by
    have h0 := hb (.mk n u xs) (by simp)
    have hnl := Term.name_le (n := n) (v := u) (xs := xs)
    have hI : ∀ x, x ∈ insSy l (n, xs.length) → x.1.length < 1099511627776 := fun x hx => by
      rcases insSy_sub hx with h1 | h1
      · exact h x h1
      · rw [h1]; show n.length < _; omega
    have hX := symRs_names xs (insSy l (n, xs.length)) (fun t ht => by have := Term.arg_le (n := n) (v := u) ht; omega) hI
    rw [symRs] at hx
    split at hx
    · exact symRs_names r l (fun t ht => hb t (by simp [ht])) h x hx
    · split at hx
      · exact h x hx
      · split at hx
        · exact h x hx
        · split at hx
          · exact symRs_names r _ (fun t ht => hb t (by simp [ht])) hX x hx
          · exact h x hx
theorem syAt_eq (l : List (List UInt8 × Nat)) (n : List UInt8) (i : Nat) (hi : i ≤ l.length) (h1 : ∀ j (h : j < l.length), j < i → Lib.compareBytes l[j].1 n < 0) (h2 : ∀ h : i < l.length, ¬ Lib.compareBytes l[i].1 n < 0) : syAt l n = i := by
  unfold syAt
  exact insAt_eq _ n i (by simpa using hi) (fun j hj hji => by simpa using h1 j (by simpa using hj) hji) (fun hj => by simpa using h2 (by simpa using hj))
set_option maxHeartbeats 1600000 in
theorem symbolsR1_ac (t : Term) : t.bulk ≤ 1099511627775 → ∀ l : List (List UInt8 × Nat), l.length + t.size ≤ 1099511627770 → (∀ x, x ∈ l → x.1.length < 1099511627776) → ∀ H, ACall Tryz.prog 28 [encT t, .sl .none (encL encSy l)] H (fun r H' => r = .tup [.sl .none (encL encSy (symR t l).1), .bool (symR t l).2] ∧ H' = H) := by
  induction t using Term.ind with | _ n u xs ih
  intro hb l hl hn H
  have hxl := Term.len_le (n := n) (v := u) (xs := xs)
  have hnl := Term.name_le (n := n) (v := u) (xs := xs)
  rw [Term.size_mk] at hl
  cases u with
  | true =>
    have hR : symR (.mk n true xs) l = (l, true) := by simp [symR, Term.mk_var]
    rw [hR]
    refine ACall_V (H.length) 93 [.tmp 4, .tmp 5] Tryz.func28 rfl rfl rfl ?_
    simp only [push_cast, Nat.reduceAdd, Nat.reduceSub, Nat.reduceMul, Nat.reduceLT, Nat.reduceLeDiff, Nat.reduceEqDiff, Int.reduceToNat, ↓reduceIte]
  | false =>
    refine ACall_VA (H.length) 93 [.tmp 4, .tmp 5] Tryz.func28 rfl rfl rfl ?_
    refine AW_seq (AW_of_W ?_)
    simp only [push_cast, Nat.reduceAdd, Nat.reduceSub, Nat.reduceMul, Nat.reduceLT, Nat.reduceLeDiff, Nat.reduceEqDiff, Int.reduceToNat, ↓reduceIte]
    refine AW_reserve 1 ?_
    refine AW_of_W ?_
    simp only [push_cast, Nat.reduceAdd, Nat.reduceSub, Nat.reduceMul, Nat.reduceLT, Nat.reduceLeDiff, Nat.reduceEqDiff, Int.reduceToNat, ↓reduceIte]
    refine (markedR_ac n (by omega) _).to ?_
    simp only [push_cast, Nat.reduceAdd, Nat.reduceSub, Nat.reduceMul, Nat.reduceLT, Nat.reduceLeDiff, Nat.reduceEqDiff, Int.reduceToNat, ↓reduceIte]
    refine cI (fun hm => ?_) (fun hm => ?_)
    · have hR : symR (.mk n false xs) l = (l, false) := by simp [symR, Term.mk_var, Term.mk_name, hm]
      simp only [push_cast, Nat.reduceAdd, Nat.reduceSub, Nat.reduceMul, Nat.reduceLT, Nat.reduceLeDiff, Nat.reduceEqDiff, Int.reduceToNat, ↓reduceIte, hR]
    · have hm : markedP n = false := by simpa using hm
      refine AW_loopW (maskG 95 [1, 0, 3]) (fun (i : Nat) => [(6, .int .i64 i)]) (fun _ => H ++ [.cells [.str n, .bool false, .sl .none (encTs xs)], .dead]) (fun i => i ≤ l.length ∧ ∀ j (h : j < l.length), j < i → Lib.compareBytes l[j].1 n < 0) (fun i => l.length - i) 0 ⟨Nat.zero_le _, fun j h1 h => by omega⟩ (by simp only [push_cast, Nat.reduceAdd, Nat.reduceSub, Nat.reduceMul, Nat.reduceLT, Nat.reduceLeDiff, Nat.reduceEqDiff, Int.reduceToNat, ↓reduceIte]) (fun i hi => ?_)
      by_cases hil : i < l.length
      · have hd : decide ((i : Int) < (l.length : Int)) = true := by simp; omega
        have hcm := fun H => cmpNames_ac (l[i]'hil).1 n (hn _ (List.getElem_mem hil)) (by omega) H
        apply AW_drawE [some 18, some 19, some 20, some 21, some 22, some 23, some 24, some 25, some 26, some 27, some 28, some 29, some 30, some 31, some 32] [([], _)] [none, none, none, none, none, none, none, none, none, none, none, none, none, none, none] 0 [(0, [], [6]), (1, [], [1]), (2, [], [19]), (3, [], [18, 1]), (4, [], [21]), (5, [], [1, 20]), (6, [], [6, 15]), (7, [], [22, 0, 0]), (8, [], [22, 2]), (9, [], [22, 3]), (10, [], [2, 19]), (11, [], [22, 5]), (12, [], [22, 4, 1]), (13, [], [22, 7]), (14, [], [22, 8])] [_, _, _, _, _, _, _, _, _, _, _, _, _, _, _]
        case' hm => exact dr
        case' hn => rfl
        case' hok => rfl
        case' hlen => rfl
        case' hd => rfl
        case' h0 => rfl
        case' hstep =>
         simp only [DAllG, push_cast, Option.isSome_some, Option.isSome_none]
         repeat' apply And.intro
         all_goals (apply DOne_V; simp only [push_cast, Nat.reduceAdd, Nat.reduceSub, Nat.reduceMul, Nat.reduceLT, Nat.reduceLeDiff, Nat.reduceEqDiff, Int.reduceToNat, ↓reduceIte, hd] <;> first | exact rfl | omega | exact ⟨rfl, rfl⟩ | exact trivial | exact ⟨by omega, rfl⟩ | exact ⟨by omega, by omega, rfl⟩ | exact ⟨by omega, rfl, rfl⟩ | exact ⟨by omega, by omega, rfl, rfl⟩ | exact (hcm _).to ⟨rfl, rfl⟩)
        case' hQ => skip
        simp only [push_cast, Nat.reduceAdd, Nat.reduceSub, Nat.reduceMul, Nat.reduceLT, Nat.reduceLeDiff, Nat.reduceEqDiff, Int.reduceToNat, ↓reduceIte]
        refine cI (fun hc => ?_) (fun hc => ?_)
        · repeat' first | refine ⟨by omega, ?_⟩ | refine cI (fun _ => ?_) (fun _ => ?_)
          refine loopW_n (i + 1) ⟨by omega, fun j h1 h => ?_⟩ (by omega) (by simp only [push_cast, Nat.reduceAdd, Nat.reduceSub, Nat.reduceMul, Nat.reduceLT, Nat.reduceLeDiff, Nat.reduceEqDiff, Int.reduceToNat, ↓reduceIte])
          rcases Nat.lt_or_ge j i with hj | hj
          · exact hi.2 j h1 hj
          · have hji : j = i := by omega
            subst hji; exact hc
        · have hia : syAt l n = i := syAt_eq l n i hi.1 hi.2 (fun _ => hc)
          have hd2 : decide ((i : Int) = (l.length : Int)) = false := by simp; omega
          by_cases hne : (l[i]'hil).1 = n
          · have hd3 : decide ((l[i]'hil).1 = n) = true := by simpa using hne
            apply AW_drawE [some 35, some 36, some 37, some 38, some 39, some 40, some 41, some 42, some 43, some 44, some 45, some 46, some 47, some 48] [([], _)] [none, none, none, none, none, none, none, none, none, none, none, none, none, none] 0 [(0, [], [6]), (1, [], [1]), (2, [], [36]), (3, [], [35, 1]), (4, [], [38]), (5, [], [1, 37]), (6, [], [6, 32]), (7, [], [39, 0, 0]), (8, [], [39, 2]), (9, [], [39, 3]), (10, [], [2, 36]), (11, [], [39, 5]), (12, [], [39, 4, 1]), (13, [], [39, 7])] [_, _, _, _, _, _, _, _, _, _, _, _, _, _]
            case' hm => exact dr
            case' hn => rfl
            case' hok => rfl
            case' hlen => rfl
            case' hd => rfl
            case' h0 => rfl
            case' hstep =>
             simp only [DAllG, push_cast, Option.isSome_some, Option.isSome_none]
             repeat' apply And.intro
             all_goals (apply DOne_V; simp only [push_cast, Nat.reduceAdd, Nat.reduceSub, Nat.reduceMul, Nat.reduceLT, Nat.reduceLeDiff, Nat.reduceEqDiff, Int.reduceToNat, ↓reduceIte, hd2, hd3] <;> first | exact rfl | omega | exact ⟨rfl, rfl⟩ | exact trivial | exact ⟨by omega, rfl⟩ | exact ⟨by omega, by omega, rfl⟩ | exact ⟨by omega, rfl, rfl⟩ | exact ⟨by omega, by omega, rfl, rfl⟩ | skip)
            case' hQ => skip
            simp only [push_cast, Nat.reduceAdd, Nat.reduceSub, Nat.reduceMul, Nat.reduceLT, Nat.reduceLeDiff, Nat.reduceEqDiff, Int.reduceToNat, ↓reduceIte, hd3]
            have hI : insSy l (n, xs.length) = l := by
              unfold insSy
              rw [hia, if_pos]
              rw [List.getElem?_map, List.getElem?_eq_getElem hil]
              show some (l[i]'hil).1 = some n
              rw [hne]
            have hn1 := hn
            have hlt1 := hil
            have hz1 := List.getElem_mem hlt1
            apply AW_drawE [some 66, some 67, some 68, some 69, some 70, some 71, some 72, some 73, some 74] [([], _)] [none, none, none, none, none, none, none, none, none] 0 [(0, [], [1]), (1, [], [6]), (2, [], [66, 0]), (3, [], [68]), (4, [], [69]), (5, [], [2]), (6, [], [71]), (7, [], [72]), (8, [], [70, 2])] [_, _, _, _, _, _, _, _, _]
            case' hm => exact dr
            case' hn => rfl
            case' hok => rfl
            case' hlen => rfl
            case' hd => rfl
            case' h0 => rfl
            case' hstep =>
             simp only [DAllG, push_cast, Option.isSome_some, Option.isSome_none]
             repeat' apply And.intro
             all_goals (apply DOne_V; simp only [push_cast, Nat.reduceAdd, Nat.reduceSub, Nat.reduceMul, Nat.reduceLT, Nat.reduceLeDiff, Nat.reduceEqDiff, Int.reduceToNat, ↓reduceIte] <;> first | exact rfl | omega | exact ⟨rfl, rfl⟩ | exact trivial | exact ⟨by omega, rfl⟩ | exact ⟨by omega, by omega, rfl⟩ | exact ⟨by omega, rfl, rfl⟩ | exact ⟨by omega, by omega, rfl, rfl⟩ | skip)
            case' hQ => skip
            simp only [push_cast, Nat.reduceAdd, Nat.reduceSub, Nat.reduceMul, Nat.reduceLT, Nat.reduceLeDiff, Nat.reduceEqDiff, Int.reduceToNat, ↓reduceIte]
            refine cI (fun hk => ?_) (fun hk => ?_)
            · have hcf : cfSy l (n, xs.length) = false := by
                unfold cfSy
                rw [hI, hia, List.getElem?_eq_getElem hlt1]
                have : (l[i]'hlt1).2 = xs.length := by omega
                simp [this]
              have hR : symR (.mk n false xs) l = symRs xs l := by
                unfold symR
                simp only [Term.mk_name, Term.mk_var, Term.mk_args, Bool.false_eq_true, if_false, hm, hcf, hI]
              rw [hR]
              refine AW_loopW (maskG 95 [1, 75, 0, 0]) (fun (j : Nat) => [(1, .sl .none (encL encSy (symRs (xs.take j) l).1)), (79, .int .i64 j)]) (fun j => H ++ [.cells [.str n, .bool false, .sl .none (encTs xs)]]) (fun j => j ≤ xs.length ∧ (symRs (xs.take j) l).2 = true) (fun j => xs.length - j) 0 ⟨Nat.zero_le _, by simp [symRs]⟩ (by simp only [push_cast, Nat.reduceAdd, Nat.reduceSub, Nat.reduceMul, Nat.reduceLT, Nat.reduceLeDiff, Nat.reduceEqDiff, Int.reduceToNat, ↓reduceIte, List.take_zero, symRs_nil]) (fun j hj => ?_)
              simp only [push_cast, Nat.reduceAdd, Nat.reduceSub, Nat.reduceMul, Nat.reduceLT, Nat.reduceLeDiff, Nat.reduceEqDiff, Int.reduceToNat, ↓reduceIte]
              refine cI (fun h3 => ?_) (fun h3 => ?_)
              · have hjl : j < xs.length := by omega
                repeat refine ⟨by omega, ?_⟩
                have hq1 := symRs_len (xs.take j) l
                have hq2 := take_sum Term.size xs j hjl
                have hq3 := take_sum_le Term.size xs (j + 1)
                have hq4 := symRs_names (xs.take j) l (fun t ht => by have := Term.arg_le (n := n) (v := false) (List.mem_of_mem_take ht); omega) hn1
                have hsn := symRs_snoc (xs.take j) l (xs[j]'hjl) hj.2
                rw [← List.take_succ_eq_append_getElem hjl] at hsn
                refine (ih _ (List.getElem_mem hjl) (arg_bulk hb j hjl) (symRs (xs.take j) l).1 (by omega) hq4 _).to ?_
                simp only [push_cast, Nat.reduceAdd, Nat.reduceSub, Nat.reduceMul, Nat.reduceLT, Nat.reduceLeDiff, Nat.reduceEqDiff, Int.reduceToNat, ↓reduceIte]
                refine cI (fun h4 => ?_) (fun h4 => ?_)
                · rw [if_pos h4] at hsn
                  repeat' first | refine ⟨by omega, ?_⟩ | refine cI (fun _ => ?_) (fun _ => ?_)
                  refine loopW_n (j + 1) ⟨by omega, by rw [hsn]⟩ (by omega) ?_
                  rw [hsn]
                  simp only [push_cast, Nat.reduceAdd, Nat.reduceSub, Nat.reduceMul, Nat.reduceLT, Nat.reduceLeDiff, Nat.reduceEqDiff, Int.reduceToNat, ↓reduceIte]
                · have h4 : (symR (xs[j]'hjl) (symRs (xs.take j) l).1).2 = false := by simpa using h4
                  have hff := symRs_fail (xs.take j) l (xs[j]'hjl) (xs.drop (j + 1)) hj.2 h4
                  rw [← List.drop_eq_getElem_cons hjl, List.take_append_drop] at hff
                  simp only [push_cast, Nat.reduceAdd, Nat.reduceSub, Nat.reduceMul, Nat.reduceLT, Nat.reduceLeDiff, Nat.reduceEqDiff, Int.reduceToNat, ↓reduceIte, hff]
              · rw [List.take_of_length_le (show xs.length ≤ j by omega)] at hj ⊢
                simp only [push_cast, Nat.reduceAdd, Nat.reduceSub, Nat.reduceMul, Nat.reduceLT, Nat.reduceLeDiff, Nat.reduceEqDiff, Int.reduceToNat, ↓reduceIte, hj.2]
            · have hcf : cfSy l (n, xs.length) = true := by
                unfold cfSy
                rw [hI, hia, List.getElem?_eq_getElem hlt1]
                have : ¬ (l[i]'hlt1).2 = xs.length := by omega
                simp [this]
              have hR : symR (.mk n false xs) l = (l, false) := by
                unfold symR
                simp only [Term.mk_name, Term.mk_var, Term.mk_args, Bool.false_eq_true, if_false, if_true, hm, hcf, hI]
              simp only [push_cast, Nat.reduceAdd, Nat.reduceSub, Nat.reduceMul, Nat.reduceLT, Nat.reduceLeDiff, Nat.reduceEqDiff, Int.reduceToNat, ↓reduceIte, hR]
          · have hd3 : decide ((l[i]'hil).1 = n) = false := by simpa using hne
            apply AW_drawE [some 35, some 36, some 37, some 38, some 39, some 40, some 41, some 42, some 43, some 44, some 45, some 46, some 47, some 48] [([], _)] [none, none, none, none, none, none, none, none, none, none, none, none, none, none] 0 [(0, [], [6]), (1, [], [1]), (2, [], [36]), (3, [], [35, 1]), (4, [], [38]), (5, [], [1, 37]), (6, [], [6, 32]), (7, [], [39, 0, 0]), (8, [], [39, 2]), (9, [], [39, 3]), (10, [], [2, 36]), (11, [], [39, 5]), (12, [], [39, 4, 1]), (13, [], [39, 7])] [_, _, _, _, _, _, _, _, _, _, _, _, _, _]
            case' hm => exact dr
            case' hn => rfl
            case' hok => rfl
            case' hlen => rfl
            case' hd => rfl
            case' h0 => rfl
            case' hstep =>
             simp only [DAllG, push_cast, Option.isSome_some, Option.isSome_none]
             repeat' apply And.intro
             all_goals (apply DOne_V; simp only [push_cast, Nat.reduceAdd, Nat.reduceSub, Nat.reduceMul, Nat.reduceLT, Nat.reduceLeDiff, Nat.reduceEqDiff, Int.reduceToNat, ↓reduceIte, hd2, hd3] <;> first | exact rfl | omega | exact ⟨rfl, rfl⟩ | exact trivial | exact ⟨by omega, rfl⟩ | exact ⟨by omega, by omega, rfl⟩ | exact ⟨by omega, rfl, rfl⟩ | exact ⟨by omega, by omega, rfl, rfl⟩ | skip)
            case' hQ => skip
            simp only [push_cast, Nat.reduceAdd, Nat.reduceSub, Nat.reduceMul, Nat.reduceLT, Nat.reduceLeDiff, Nat.reduceEqDiff, Int.reduceToNat, ↓reduceIte, hd3]
            have hno : ¬ (l.map (·.1))[i]? = some n := by
              rw [List.getElem?_map, List.getElem?_eq_getElem hil]
              intro e
              injection e with e
              exact hne e
            have hdr : List.take (l.length - i) (List.drop i l) = l.drop i := List.take_of_length_le (by simp)
            obtain ⟨l1, hl1⟩ : ∃ l1, l1 = l.take i ++ (n, xs.length) :: l.drop i := ⟨_, rfl⟩
            have hI : insSy l (n, xs.length) = l1 := by
              unfold insSy
              rw [hia, if_neg (by intro e; exact hno e), hl1, List.append_assoc]; rfl
            have hll : l1.length = l.length + 1 := by rw [hl1]; simp; omega
            have hn1 : ∀ x, x ∈ l1 → x.1.length < 1099511627776 := fun x hx => by
              rw [← hI] at hx
              rcases insSy_sub hx with h | h
              · exact hn x h
              · rw [h]; show n.length < _; omega
            have hlt1 : i < l1.length := by omega
            apply AW_drawO [[], [1], [], [], [], [], [], [], [], [], [], [], [], [1], [], [], [], []] [some 49, some 50, some 51, some 52, some 53, some 54, some 55, some 56, some 57, some 58, some 59, some 60, some 61, some 62, some 63, some 64, some 65, some 1] [([false, false, false], _), ([true, false, false], _), ([true, true, false], _), ([true, true, true], _)] [none, none, none, none, some 0, none, none, none, none, none, none, none, some 1, none, none, none, some 2, none] 3 [(0, [false, false, false], []), (1, [false, false, false], [1]), (2, [false, false, false], [6]), (3, [false, false, false], [50, 0]), (4, [false, false, false], [49, 2]), (5, [true, false, false], [2]), (6, [true, false, false], [54]), (7, [true, false, false], [2]), (8, [true, false, false], [56]), (9, [true, false, false], [57]), (10, [true, false, false], [55, 2]), (11, [true, false, false], [59]), (12, [true, false, false], [53, 6]), (13, [true, true, false], [1]), (14, [true, true, false], [6]), (15, [true, true, false], [62, 0]), (16, [true, true, false], [61, 2]), (17, [true, true, true], [65]), (1, [true, false, false], [1]), (1, [true, true, false], [1]), (1, [true, true, true], [1]), (2, [true, false, false], [6]), (2, [true, true, false], [6]), (2, [true, true, true], [6]), (5, [false, false, false], [2]), (5, [true, true, false], [2]), (5, [true, true, true], [2]), (6, [false, false, false], [54]), (6, [true, true, false], [54]), (6, [true, true, true], [54]), (7, [false, false, false], [2]), (7, [true, true, false], [2]), (7, [true, true, true], [2]), (8, [false, false, false], [56]), (8, [true, true, false], [56]), (8, [true, true, true], [56]), (9, [false, false, false], [57]), (9, [true, true, false], [57]), (9, [true, true, true], [57]), (10, [false, false, false], [55, 2]), (10, [true, true, false], [55, 2]), (10, [true, true, true], [55, 2]), (11, [false, false, false], [59]), (13, [false, false, false], [1]), (13, [true, false, false], [1]), (13, [true, true, true], [1]), (14, [false, false, false], [6]), (14, [true, false, false], [6]), (14, [true, true, true], [6]), (15, [false, false, false], [62, 0]), (15, [true, false, false], [62, 0])] [_, _, _, _, _, _, _, _, _, _, _, _, _, _, _, _, _, _]
            case' hm => exact dr
            case' hn => rfl
            case' hok => rfl
            case' hlen => rfl
            case' hd => rfl
            case' h0 => rfl
            case' hstep =>
             simp only [DAllO, push_cast, Option.isSome_some, Option.isSome_none]
             repeat' apply And.intro
             all_goals (apply DOne_V; simp only [push_cast, Nat.reduceAdd, Nat.reduceSub, Nat.reduceMul, Nat.reduceLT, Nat.reduceLeDiff, Nat.reduceEqDiff, Int.reduceToNat, ↓reduceIte, List.drop_zero, Nat.sub_zero, hdr] <;> first | exact rfl | omega | exact ⟨rfl, rfl⟩ | exact trivial | exact ⟨by omega, rfl⟩ | exact ⟨by omega, by omega, rfl⟩ | exact ⟨by omega, rfl, rfl⟩ | exact ⟨by omega, by omega, rfl, rfl⟩ | (refine app_L encSy (sz := 2) (fun _ => rfl) cellSy _ (H.length + 1) [] (l.take i) _ rfl rfl (by exact (agetN _ _ 1).trans rfl) sl25 sz32 by32 zr32 rfl (by decide) (by decide) (by simp; omega) ?_; simp only [push_cast, Nat.reduceAdd, Nat.reduceSub, Nat.reduceMul, Nat.reduceLT, Nat.reduceLeDiff, Nat.reduceEqDiff, Int.reduceToNat, ↓reduceIte, List.nil_append]; exact ⟨rfl, rfl⟩) | (refine app1_L encSy (sz := 2) (fun _ => rfl) cellSy _ (H.length + 1) (l.take i) (n, xs.length) _ rfl rfl (by exact (agetN _ _ 1).trans rfl) sl25 sz32 by32 zr32 rfl (by decide) (by decide) (by simp; omega) ?_; simp only [push_cast, Nat.reduceAdd, Nat.reduceSub, Nat.reduceMul, Nat.reduceLT, Nat.reduceLeDiff, Nat.reduceEqDiff, Int.reduceToNat, ↓reduceIte]; exact ⟨rfl, rfl⟩) | (refine app_L encSy (sz := 2) (fun _ => rfl) cellSy _ (H.length + 1) (l.take i ++ [(n, xs.length)]) (l.drop i) _ rfl rfl (by exact (agetN _ _ 1).trans rfl) sl25 sz32 by32 zr32 rfl (by decide) (by decide) (by simp; omega) ?_; simp only [push_cast, Nat.reduceAdd, Nat.reduceSub, Nat.reduceMul, Nat.reduceLT, Nat.reduceLeDiff, Nat.reduceEqDiff, Int.reduceToNat, ↓reduceIte]; exact ⟨rfl, rfl⟩))
            case' hQ => skip
            simp only [push_cast, Nat.reduceAdd, Nat.reduceSub, Nat.reduceMul, Nat.reduceLT, Nat.reduceLeDiff, Nat.reduceEqDiff, Int.reduceToNat, ↓reduceIte]
            rw [← hl1]
            obtain ⟨tk, htk⟩ := gSl_sl' (H.length + 1) (encL encSy l1)
            rw [htk]
            have hz1 := List.getElem_mem hlt1
            apply AW_drawE [some 66, some 67, some 68, some 69, some 70, some 71, some 72, some 73, some 74] [([], _)] [none, none, none, none, none, none, none, none, none] 0 [(0, [], [1]), (1, [], [6]), (2, [], [66, 0]), (3, [], [68]), (4, [], [69]), (5, [], [2]), (6, [], [71]), (7, [], [72]), (8, [], [70, 2])] [_, _, _, _, _, _, _, _, _]
            case' hm => exact dr
            case' hn => rfl
            case' hok => rfl
            case' hlen => rfl
            case' hd => rfl
            case' h0 => rfl
            case' hstep =>
             simp only [DAllG, push_cast, Option.isSome_some, Option.isSome_none]
             repeat' apply And.intro
             all_goals (apply DOne_V; simp only [push_cast, Nat.reduceAdd, Nat.reduceSub, Nat.reduceMul, Nat.reduceLT, Nat.reduceLeDiff, Nat.reduceEqDiff, Int.reduceToNat, ↓reduceIte] <;> first | exact rfl | omega | exact ⟨rfl, rfl⟩ | exact trivial | exact ⟨by omega, rfl⟩ | exact ⟨by omega, by omega, rfl⟩ | exact ⟨by omega, rfl, rfl⟩ | exact ⟨by omega, by omega, rfl, rfl⟩ | skip)
            case' hQ => skip
            simp only [push_cast, Nat.reduceAdd, Nat.reduceSub, Nat.reduceMul, Nat.reduceLT, Nat.reduceLeDiff, Nat.reduceEqDiff, Int.reduceToNat, ↓reduceIte]
            refine cI (fun hk => ?_) (fun hk => ?_)
            · have hcf : cfSy l (n, xs.length) = false := by
                unfold cfSy
                rw [hI, hia, List.getElem?_eq_getElem hlt1]
                have : (l1[i]'hlt1).2 = xs.length := by omega
                simp [this]
              have hR : symR (.mk n false xs) l = symRs xs l1 := by
                unfold symR
                simp only [Term.mk_name, Term.mk_var, Term.mk_args, Bool.false_eq_true, if_false, hm, hcf, hI]
              rw [hR]
              refine AW_loopW (maskG 95 [1, 75, 0, 0]) (fun (j : Nat) => [(1, .sl .none (encL encSy (symRs (xs.take j) l1).1)), (79, .int .i64 j)]) (fun j => H ++ [.cells [.str n, .bool false, .sl .none (encTs xs)]]) (fun j => j ≤ xs.length ∧ (symRs (xs.take j) l1).2 = true) (fun j => xs.length - j) 0 ⟨Nat.zero_le _, by simp [symRs]⟩ (by simp only [push_cast, Nat.reduceAdd, Nat.reduceSub, Nat.reduceMul, Nat.reduceLT, Nat.reduceLeDiff, Nat.reduceEqDiff, Int.reduceToNat, ↓reduceIte, List.take_zero, symRs_nil]) (fun j hj => ?_)
              simp only [push_cast, Nat.reduceAdd, Nat.reduceSub, Nat.reduceMul, Nat.reduceLT, Nat.reduceLeDiff, Nat.reduceEqDiff, Int.reduceToNat, ↓reduceIte]
              refine cI (fun h3 => ?_) (fun h3 => ?_)
              · have hjl : j < xs.length := by omega
                repeat refine ⟨by omega, ?_⟩
                have hq1 := symRs_len (xs.take j) l1
                have hq2 := take_sum Term.size xs j hjl
                have hq3 := take_sum_le Term.size xs (j + 1)
                have hq4 := symRs_names (xs.take j) l1 (fun t ht => by have := Term.arg_le (n := n) (v := false) (List.mem_of_mem_take ht); omega) hn1
                have hsn := symRs_snoc (xs.take j) l1 (xs[j]'hjl) hj.2
                rw [← List.take_succ_eq_append_getElem hjl] at hsn
                refine (ih _ (List.getElem_mem hjl) (arg_bulk hb j hjl) (symRs (xs.take j) l1).1 (by omega) hq4 _).to ?_
                simp only [push_cast, Nat.reduceAdd, Nat.reduceSub, Nat.reduceMul, Nat.reduceLT, Nat.reduceLeDiff, Nat.reduceEqDiff, Int.reduceToNat, ↓reduceIte]
                refine cI (fun h4 => ?_) (fun h4 => ?_)
                · rw [if_pos h4] at hsn
                  repeat' first | refine ⟨by omega, ?_⟩ | refine cI (fun _ => ?_) (fun _ => ?_)
                  refine loopW_n (j + 1) ⟨by omega, by rw [hsn]⟩ (by omega) ?_
                  rw [hsn]
                  simp only [push_cast, Nat.reduceAdd, Nat.reduceSub, Nat.reduceMul, Nat.reduceLT, Nat.reduceLeDiff, Nat.reduceEqDiff, Int.reduceToNat, ↓reduceIte]
                · have h4 : (symR (xs[j]'hjl) (symRs (xs.take j) l1).1).2 = false := by simpa using h4
                  have hff := symRs_fail (xs.take j) l1 (xs[j]'hjl) (xs.drop (j + 1)) hj.2 h4
                  rw [← List.drop_eq_getElem_cons hjl, List.take_append_drop] at hff
                  simp only [push_cast, Nat.reduceAdd, Nat.reduceSub, Nat.reduceMul, Nat.reduceLT, Nat.reduceLeDiff, Nat.reduceEqDiff, Int.reduceToNat, ↓reduceIte, hff]
              · rw [List.take_of_length_le (show xs.length ≤ j by omega)] at hj ⊢
                simp only [push_cast, Nat.reduceAdd, Nat.reduceSub, Nat.reduceMul, Nat.reduceLT, Nat.reduceLeDiff, Nat.reduceEqDiff, Int.reduceToNat, ↓reduceIte, hj.2]
            · have hcf : cfSy l (n, xs.length) = true := by
                unfold cfSy
                rw [hI, hia, List.getElem?_eq_getElem hlt1]
                have : ¬ (l1[i]'hlt1).2 = xs.length := by omega
                simp [this]
              have hR : symR (.mk n false xs) l = (l1, false) := by
                unfold symR
                simp only [Term.mk_name, Term.mk_var, Term.mk_args, Bool.false_eq_true, if_false, if_true, hm, hcf, hI]
              simp only [push_cast, Nat.reduceAdd, Nat.reduceSub, Nat.reduceMul, Nat.reduceLT, Nat.reduceLeDiff, Nat.reduceEqDiff, Int.reduceToNat, ↓reduceIte, hR]
      · have hd : decide ((i : Int) < (l.length : Int)) = false := by simp; omega
        apply AW_drawE [some 18, some 19, some 20, some 21, some 22, some 23, some 24, some 25, some 26, some 27, some 28, some 29, some 30, some 31, some 32] [([], _)] [none, none, none, none, none, none, none, none, none, none, none, none, none, none, none] 0 [(0, [], [6]), (1, [], [1]), (2, [], [19]), (3, [], [18, 1]), (4, [], [21]), (5, [], [1, 20]), (6, [], [6, 15]), (7, [], [22, 0, 0]), (8, [], [22, 2]), (9, [], [22, 3]), (10, [], [2, 19]), (11, [], [22, 5]), (12, [], [22, 4, 1]), (13, [], [22, 7]), (14, [], [22, 8])] [_, _, _, _, _, _, _, _, _, _, _, _, _, _, _]
        case' hm => exact dr
        case' hn => rfl
        case' hok => rfl
        case' hlen => rfl
        case' hd => rfl
        case' h0 => rfl
        case' hstep =>
         simp only [DAllG, push_cast, Option.isSome_some, Option.isSome_none]
         repeat' apply And.intro
         all_goals (apply DOne_V; simp only [push_cast, Nat.reduceAdd, Nat.reduceSub, Nat.reduceMul, Nat.reduceLT, Nat.reduceLeDiff, Nat.reduceEqDiff, Int.reduceToNat, ↓reduceIte, hd] <;> first | exact rfl | omega | exact ⟨rfl, rfl⟩ | exact trivial | exact ⟨by omega, rfl⟩ | exact ⟨by omega, by omega, rfl⟩ | exact ⟨by omega, rfl, rfl⟩ | exact ⟨by omega, by omega, rfl, rfl⟩ | skip)
        case' hQ => skip
        simp only [push_cast, Nat.reduceAdd, Nat.reduceSub, Nat.reduceMul, Nat.reduceLT, Nat.reduceLeDiff, Nat.reduceEqDiff, Int.reduceToNat, ↓reduceIte]
        have hia : syAt l n = i := syAt_eq l n i hi.1 hi.2 (fun h1 => absurd h1 hil)
        have hd2 : decide ((i : Int) = (l.length : Int)) = true := by simp; omega
        apply AW_drawE [some 35, some 36, some 37, some 38, some 39, some 40, some 41, some 42, some 43, some 44, some 45, some 46, some 47, some 48] [([], _)] [none, none, none, none, none, none, none, none, none, none, none, none, none, none] 0 [(0, [], [6]), (1, [], [1]), (2, [], [36]), (3, [], [35, 1]), (4, [], [38]), (5, [], [1, 37]), (6, [], [6, 32]), (7, [], [39, 0, 0]), (8, [], [39, 2]), (9, [], [39, 3]), (10, [], [2, 36]), (11, [], [39, 5]), (12, [], [39, 4, 1]), (13, [], [39, 7])] [_, _, _, _, _, _, _, _, _, _, _, _, _, _]
        case' hm => exact dr
        case' hn => rfl
        case' hok => rfl
        case' hlen => rfl
        case' hd => rfl
        case' h0 => rfl
        case' hstep =>
         simp only [DAllG, push_cast, Option.isSome_some, Option.isSome_none]
         repeat' apply And.intro
         all_goals (apply DOne_V; simp only [push_cast, Nat.reduceAdd, Nat.reduceSub, Nat.reduceMul, Nat.reduceLT, Nat.reduceLeDiff, Nat.reduceEqDiff, Int.reduceToNat, ↓reduceIte, hd2] <;> first | exact rfl | omega | exact ⟨rfl, rfl⟩ | exact trivial | exact ⟨by omega, rfl⟩ | exact ⟨by omega, by omega, rfl⟩ | exact ⟨by omega, rfl, rfl⟩ | exact ⟨by omega, by omega, rfl, rfl⟩ | skip)
        case' hQ => skip
        simp only [push_cast, Nat.reduceAdd, Nat.reduceSub, Nat.reduceMul, Nat.reduceLT, Nat.reduceLeDiff, Nat.reduceEqDiff, Int.reduceToNat, ↓reduceIte]
        have hno : ¬ (l.map (·.1))[i]? = some n := by
          rw [List.getElem?_map, List.getElem?_eq_none (by omega)]
          intro e
          cases e
        have hdr : List.take (l.length - i) (List.drop i l) = l.drop i := List.take_of_length_le (by simp)
        obtain ⟨l1, hl1⟩ : ∃ l1, l1 = l.take i ++ (n, xs.length) :: l.drop i := ⟨_, rfl⟩
        have hI : insSy l (n, xs.length) = l1 := by
          unfold insSy
          rw [hia, if_neg (by intro e; exact hno e), hl1, List.append_assoc]; rfl
        have hll : l1.length = l.length + 1 := by rw [hl1]; simp; omega
        have hn1 : ∀ x, x ∈ l1 → x.1.length < 1099511627776 := fun x hx => by
          rw [← hI] at hx
          rcases insSy_sub hx with h | h
          · exact hn x h
          · rw [h]; show n.length < _; omega
        have hlt1 : i < l1.length := by omega
        apply AW_drawO [[], [1], [], [], [], [], [], [], [], [], [], [], [], [1], [], [], [], []] [some 49, some 50, some 51, some 52, some 53, some 54, some 55, some 56, some 57, some 58, some 59, some 60, some 61, some 62, some 63, some 64, some 65, some 1] [([false, false, false], _), ([true, false, false], _), ([true, true, false], _), ([true, true, true], _)] [none, none, none, none, some 0, none, none, none, none, none, none, none, some 1, none, none, none, some 2, none] 3 [(0, [false, false, false], []), (1, [false, false, false], [1]), (2, [false, false, false], [6]), (3, [false, false, false], [50, 0]), (4, [false, false, false], [49, 2]), (5, [true, false, false], [2]), (6, [true, false, false], [54]), (7, [true, false, false], [2]), (8, [true, false, false], [56]), (9, [true, false, false], [57]), (10, [true, false, false], [55, 2]), (11, [true, false, false], [59]), (12, [true, false, false], [53, 6]), (13, [true, true, false], [1]), (14, [true, true, false], [6]), (15, [true, true, false], [62, 0]), (16, [true, true, false], [61, 2]), (17, [true, true, true], [65]), (1, [true, false, false], [1]), (1, [true, true, false], [1]), (1, [true, true, true], [1]), (2, [true, false, false], [6]), (2, [true, true, false], [6]), (2, [true, true, true], [6]), (5, [false, false, false], [2]), (5, [true, true, false], [2]), (5, [true, true, true], [2]), (6, [false, false, false], [54]), (6, [true, true, false], [54]), (6, [true, true, true], [54]), (7, [false, false, false], [2]), (7, [true, true, false], [2]), (7, [true, true, true], [2]), (8, [false, false, false], [56]), (8, [true, true, false], [56]), (8, [true, true, true], [56]), (9, [false, false, false], [57]), (9, [true, true, false], [57]), (9, [true, true, true], [57]), (10, [false, false, false], [55, 2]), (10, [true, true, false], [55, 2]), (10, [true, true, true], [55, 2]), (11, [false, false, false], [59]), (13, [false, false, false], [1]), (13, [true, false, false], [1]), (13, [true, true, true], [1]), (14, [false, false, false], [6]), (14, [true, false, false], [6]), (14, [true, true, true], [6]), (15, [false, false, false], [62, 0]), (15, [true, false, false], [62, 0])] [_, _, _, _, _, _, _, _, _, _, _, _, _, _, _, _, _, _]
        case' hm => exact dr
        case' hn => rfl
        case' hok => rfl
        case' hlen => rfl
        case' hd => rfl
        case' h0 => rfl
        case' hstep =>
         simp only [DAllO, push_cast, Option.isSome_some, Option.isSome_none]
         repeat' apply And.intro
         all_goals (apply DOne_V; simp only [push_cast, Nat.reduceAdd, Nat.reduceSub, Nat.reduceMul, Nat.reduceLT, Nat.reduceLeDiff, Nat.reduceEqDiff, Int.reduceToNat, ↓reduceIte, List.drop_zero, Nat.sub_zero, hdr] <;> first | exact rfl | omega | exact ⟨rfl, rfl⟩ | exact trivial | exact ⟨by omega, rfl⟩ | exact ⟨by omega, by omega, rfl⟩ | exact ⟨by omega, rfl, rfl⟩ | exact ⟨by omega, by omega, rfl, rfl⟩ | (refine app_L encSy (sz := 2) (fun _ => rfl) cellSy _ (H.length + 1) [] (l.take i) _ rfl rfl (by exact (agetN _ _ 1).trans rfl) sl25 sz32 by32 zr32 rfl (by decide) (by decide) (by simp; omega) ?_; simp only [push_cast, Nat.reduceAdd, Nat.reduceSub, Nat.reduceMul, Nat.reduceLT, Nat.reduceLeDiff, Nat.reduceEqDiff, Int.reduceToNat, ↓reduceIte, List.nil_append]; exact ⟨rfl, rfl⟩) | (refine app1_L encSy (sz := 2) (fun _ => rfl) cellSy _ (H.length + 1) (l.take i) (n, xs.length) _ rfl rfl (by exact (agetN _ _ 1).trans rfl) sl25 sz32 by32 zr32 rfl (by decide) (by decide) (by simp; omega) ?_; simp only [push_cast, Nat.reduceAdd, Nat.reduceSub, Nat.reduceMul, Nat.reduceLT, Nat.reduceLeDiff, Nat.reduceEqDiff, Int.reduceToNat, ↓reduceIte]; exact ⟨rfl, rfl⟩) | (refine app_L encSy (sz := 2) (fun _ => rfl) cellSy _ (H.length + 1) (l.take i ++ [(n, xs.length)]) (l.drop i) _ rfl rfl (by exact (agetN _ _ 1).trans rfl) sl25 sz32 by32 zr32 rfl (by decide) (by decide) (by simp; omega) ?_; simp only [push_cast, Nat.reduceAdd, Nat.reduceSub, Nat.reduceMul, Nat.reduceLT, Nat.reduceLeDiff, Nat.reduceEqDiff, Int.reduceToNat, ↓reduceIte]; exact ⟨rfl, rfl⟩))
        case' hQ => skip
        simp only [push_cast, Nat.reduceAdd, Nat.reduceSub, Nat.reduceMul, Nat.reduceLT, Nat.reduceLeDiff, Nat.reduceEqDiff, Int.reduceToNat, ↓reduceIte]
        rw [← hl1]
        obtain ⟨tk, htk⟩ := gSl_sl' (H.length + 1) (encL encSy l1)
        rw [htk]
        have hz1 := List.getElem_mem hlt1
        apply AW_drawE [some 66, some 67, some 68, some 69, some 70, some 71, some 72, some 73, some 74] [([], _)] [none, none, none, none, none, none, none, none, none] 0 [(0, [], [1]), (1, [], [6]), (2, [], [66, 0]), (3, [], [68]), (4, [], [69]), (5, [], [2]), (6, [], [71]), (7, [], [72]), (8, [], [70, 2])] [_, _, _, _, _, _, _, _, _]
        case' hm => exact dr
        case' hn => rfl
        case' hok => rfl
        case' hlen => rfl
        case' hd => rfl
        case' h0 => rfl
        case' hstep =>
         simp only [DAllG, push_cast, Option.isSome_some, Option.isSome_none]
         repeat' apply And.intro
         all_goals (apply DOne_V; simp only [push_cast, Nat.reduceAdd, Nat.reduceSub, Nat.reduceMul, Nat.reduceLT, Nat.reduceLeDiff, Nat.reduceEqDiff, Int.reduceToNat, ↓reduceIte] <;> first | exact rfl | omega | exact ⟨rfl, rfl⟩ | exact trivial | exact ⟨by omega, rfl⟩ | exact ⟨by omega, by omega, rfl⟩ | exact ⟨by omega, rfl, rfl⟩ | exact ⟨by omega, by omega, rfl, rfl⟩ | skip)
        case' hQ => skip
        simp only [push_cast, Nat.reduceAdd, Nat.reduceSub, Nat.reduceMul, Nat.reduceLT, Nat.reduceLeDiff, Nat.reduceEqDiff, Int.reduceToNat, ↓reduceIte]
        refine cI (fun hk => ?_) (fun hk => ?_)
        · have hcf : cfSy l (n, xs.length) = false := by
            unfold cfSy
            rw [hI, hia, List.getElem?_eq_getElem hlt1]
            have : (l1[i]'hlt1).2 = xs.length := by omega
            simp [this]
          have hR : symR (.mk n false xs) l = symRs xs l1 := by
            unfold symR
            simp only [Term.mk_name, Term.mk_var, Term.mk_args, Bool.false_eq_true, if_false, hm, hcf, hI]
          rw [hR]
          refine AW_loopW (maskG 95 [1, 75, 0, 0]) (fun (j : Nat) => [(1, .sl .none (encL encSy (symRs (xs.take j) l1).1)), (79, .int .i64 j)]) (fun j => H ++ [.cells [.str n, .bool false, .sl .none (encTs xs)]]) (fun j => j ≤ xs.length ∧ (symRs (xs.take j) l1).2 = true) (fun j => xs.length - j) 0 ⟨Nat.zero_le _, by simp [symRs]⟩ (by simp only [push_cast, Nat.reduceAdd, Nat.reduceSub, Nat.reduceMul, Nat.reduceLT, Nat.reduceLeDiff, Nat.reduceEqDiff, Int.reduceToNat, ↓reduceIte, List.take_zero, symRs_nil]) (fun j hj => ?_)
          simp only [push_cast, Nat.reduceAdd, Nat.reduceSub, Nat.reduceMul, Nat.reduceLT, Nat.reduceLeDiff, Nat.reduceEqDiff, Int.reduceToNat, ↓reduceIte]
          refine cI (fun h3 => ?_) (fun h3 => ?_)
          · have hjl : j < xs.length := by omega
            repeat refine ⟨by omega, ?_⟩
            have hq1 := symRs_len (xs.take j) l1
            have hq2 := take_sum Term.size xs j hjl
            have hq3 := take_sum_le Term.size xs (j + 1)
            have hq4 := symRs_names (xs.take j) l1 (fun t ht => by have := Term.arg_le (n := n) (v := false) (List.mem_of_mem_take ht); omega) hn1
            have hsn := symRs_snoc (xs.take j) l1 (xs[j]'hjl) hj.2
            rw [← List.take_succ_eq_append_getElem hjl] at hsn
            refine (ih _ (List.getElem_mem hjl) (arg_bulk hb j hjl) (symRs (xs.take j) l1).1 (by omega) hq4 _).to ?_
            simp only [push_cast, Nat.reduceAdd, Nat.reduceSub, Nat.reduceMul, Nat.reduceLT, Nat.reduceLeDiff, Nat.reduceEqDiff, Int.reduceToNat, ↓reduceIte]
            refine cI (fun h4 => ?_) (fun h4 => ?_)
            · rw [if_pos h4] at hsn
              repeat' first | refine ⟨by omega, ?_⟩ | refine cI (fun _ => ?_) (fun _ => ?_)
              refine loopW_n (j + 1) ⟨by omega, by rw [hsn]⟩ (by omega) ?_
              rw [hsn]
              simp only [push_cast, Nat.reduceAdd, Nat.reduceSub, Nat.reduceMul, Nat.reduceLT, Nat.reduceLeDiff, Nat.reduceEqDiff, Int.reduceToNat, ↓reduceIte]
            · have h4 : (symR (xs[j]'hjl) (symRs (xs.take j) l1).1).2 = false := by simpa using h4
              have hff := symRs_fail (xs.take j) l1 (xs[j]'hjl) (xs.drop (j + 1)) hj.2 h4
              rw [← List.drop_eq_getElem_cons hjl, List.take_append_drop] at hff
              simp only [push_cast, Nat.reduceAdd, Nat.reduceSub, Nat.reduceMul, Nat.reduceLT, Nat.reduceLeDiff, Nat.reduceEqDiff, Int.reduceToNat, ↓reduceIte, hff]
          · rw [List.take_of_length_le (show xs.length ≤ j by omega)] at hj ⊢
            simp only [push_cast, Nat.reduceAdd, Nat.reduceSub, Nat.reduceMul, Nat.reduceLT, Nat.reduceLeDiff, Nat.reduceEqDiff, Int.reduceToNat, ↓reduceIte, hj.2]
        · have hcf : cfSy l (n, xs.length) = true := by
            unfold cfSy
            rw [hI, hia, List.getElem?_eq_getElem hlt1]
            have : ¬ (l1[i]'hlt1).2 = xs.length := by omega
            simp [this]
          have hR : symR (.mk n false xs) l = (l1, false) := by
            unfold symR
            simp only [Term.mk_name, Term.mk_var, Term.mk_args, Bool.false_eq_true, if_false, if_true, hm, hcf, hI]
          simp only [push_cast, Nat.reduceAdd, Nat.reduceSub, Nat.reduceMul, Nat.reduceLT, Nat.reduceLeDiff, Nat.reduceEqDiff, Int.reduceToNat, ↓reduceIte, hR]
end Ab
set_option maxRecDepth 10000
namespace Ab
open Go Go.Proofs
theorem rT_sizes (rs : List (Term × Term)) (i : Nat) : ((rT (rs.take i)).map Term.size).sum ≤ ((rT rs).map Term.size).sum := by
  have : rT rs = rT (rs.take i) ++ rT (rs.drop i) := by
    unfold rT; rw [← List.flatMap_append, List.take_append_drop]
  rw [this, List.map_append, List.sum_append]; omega
theorem symbolsR_ac (rs : List (Term × Term)) (hlen : rs.length < 1099511627776) (hb : BndR rs) (hsz : ((rT rs).map Term.size).sum ≤ 1000000000) (H : List AObj) : ACall Tryz.prog 8 [.sl .none (encL encRu rs)] H (fun r H' => r = .tup [.sl .none (encL encSy (if (symRs (rT rs) []).2 then (symRs (rT rs) []).1 else [])), .bool (symRs (rT rs) []).2] ∧ H' = H) := by
  refine ACall_V (H.length) 38 [.tmp 2, .tmp 3] Tryz.func8 rfl rfl rfl ?_
  simp only [push_cast, Nat.reduceAdd, Nat.reduceSub, Nat.reduceMul, Nat.reduceLT, Nat.reduceLeDiff, Nat.reduceEqDiff, Int.reduceToNat, ↓reduceIte]
  refine AW_loopW (maskG 39 [4, 6, 0, 0]) (fun (i : Nat) => [(4, .sl .none (encL encSy (symRs (rT (rs.take i)) []).1)), (13, .int .i64 i)]) (fun _ => H) (fun i => i ≤ rs.length ∧ (symRs (rT (rs.take i)) []).2 = true) (fun i => rs.length - i) 0 ⟨Nat.zero_le _, by rw [List.take_zero, rT_nil, symRs_nil]⟩ (by simp only [push_cast, Nat.reduceAdd, Nat.reduceSub, Nat.reduceMul, Nat.reduceLT, Nat.reduceLeDiff, Nat.reduceEqDiff, Int.reduceToNat, ↓reduceIte, List.take_zero, rT_nil, symRs_nil, encL_nil]) (fun i hi => ?_)
  simp only [push_cast, Nat.reduceAdd, Nat.reduceSub, Nat.reduceMul, Nat.reduceLT, Nat.reduceLeDiff, Nat.reduceEqDiff, Int.reduceToNat, ↓reduceIte]
  refine cI (fun h => ?_) (fun h => ?_)
  · repeat refine ⟨by omega, ?_⟩
    have hil : i < rs.length := by omega
    obtain ⟨l, r, hlr⟩ : ∃ l r, rs[i]'hil = (l, r) := ⟨_, _, rfl⟩
    have hbi := hb _ (List.getElem_mem hil)
    rw [hlr] at hbi
    obtain ⟨hbl, hbr⟩ := hbi
    simp only at hbl hbr
    have hTi : rT (rs.take (i + 1)) = rT (rs.take i) ++ [l, r] := by rw [rT_take rs i hil, hlr]
    have hsz2 := rT_sizes rs (i + 1)
    rw [hTi, List.map_append, List.sum_append] at hsz2
    simp only [List.map_cons, List.map_nil, List.sum_cons, List.sum_nil] at hsz2
    obtain ⟨q0, hq0⟩ : ∃ q0, q0 = (symRs (rT (rs.take i)) []).1 := ⟨_, rfl⟩
    have hq0l : q0.length ≤ ((rT (rs.take i)).map Term.size).sum := by have := symRs_len (rT (rs.take i)) []; rw [← hq0] at this; simpa using this
    have hq0n : ∀ x, x ∈ q0 → x.1.length < 1099511627776 := by
      rw [hq0]
      refine symRs_names _ _ (fun t ht => ?_) (fun x hx => by cases hx)
      obtain ⟨r, hr, he⟩ := mem_rT.1 ht
      have := hb r (List.mem_of_mem_take hr)
      rcases he with rfl | rfl <;> omega
    simp only [push_cast, Nat.reduceAdd, Nat.reduceSub, Nat.reduceMul, Nat.reduceLT, Nat.reduceLeDiff, Nat.reduceEqDiff, Int.reduceToNat, ↓reduceIte, hlr]
    rw [← hq0]
    obtain ⟨T, hT⟩ : ∃ T, T = [l, r] := ⟨_, rfl⟩
    have hTl : T.length = 2 := by rw [hT]; rfl
    have hTb : ∀ t, t ∈ T → t.bulk ≤ 1099511627775 := by rw [hT]; intro t ht; simp at ht; rcases ht with rfl | rfl <;> omega
    have hTs : (T.map Term.size).sum = l.size + r.size := by rw [hT]; simp
    have eT : encTs T = [.agg [.str l.name, .bool l.var, .sl .none (encTs l.args)], .agg [.str r.name, .bool r.var, .sl .none (encTs r.args)]] := by rw [hT, encTs_cons, encTs_cons, encTs_nil]
    refine AW_loopW (maskG 39 [4, 6, 0, 0, 7, 0, 0]) (fun (j : Nat) => [(4, .sl .none (encL encSy (symRs (T.take j) q0).1)), (21, .sl .none (encTs T)), (23, .int .i64 j)]) (fun _ => H) (fun j => j ≤ 2 ∧ (symRs (T.take j) q0).2 = true) (fun j => 2 - j) 0 ⟨by omega, by rw [List.take_zero, symRs_nil]⟩ (by simp only [push_cast, Nat.reduceAdd, Nat.reduceSub, Nat.reduceMul, Nat.reduceLT, Nat.reduceLeDiff, Nat.reduceEqDiff, Int.reduceToNat, ↓reduceIte, List.take_zero, symRs_nil, eT]) (fun j hj => ?_)
    simp only [push_cast, Nat.reduceAdd, Nat.reduceSub, Nat.reduceMul, Nat.reduceLT, Nat.reduceLeDiff, Nat.reduceEqDiff, Int.reduceToNat, ↓reduceIte]
    refine cI (fun h2 => ?_) (fun h2 => ?_)
    · have hjl : j < T.length := by omega
      repeat refine ⟨by omega, ?_⟩
      have hq1 := symRs_len (T.take j) q0
      have hq2 := take_sum Term.size T j hjl
      have hq3 := take_sum_le Term.size T (j + 1)
      have hq4 := symRs_names (T.take j) q0 (fun t ht => hTb t (List.mem_of_mem_take ht)) hq0n
      have hsn := symRs_snoc (T.take j) q0 (T[j]'hjl) hj.2
      rw [← List.take_succ_eq_append_getElem hjl] at hsn
      refine (symbolsR1_ac (T[j]'hjl) (hTb _ (List.getElem_mem hjl)) (symRs (T.take j) q0).1 (by omega) hq4 _).to ?_
      simp only [push_cast, Nat.reduceAdd, Nat.reduceSub, Nat.reduceMul, Nat.reduceLT, Nat.reduceLeDiff, Nat.reduceEqDiff, Int.reduceToNat, ↓reduceIte]
      refine cI (fun h4 => ?_) (fun h4 => ?_)
      · rw [if_pos h4] at hsn
        repeat' first | refine ⟨by omega, ?_⟩ | refine cI (fun _ => ?_) (fun _ => ?_)
        refine loopW_n (j + 1) ⟨by omega, by rw [hsn]⟩ (by omega) ?_
        rw [hsn]
        simp only [push_cast, Nat.reduceAdd, Nat.reduceSub, Nat.reduceMul, Nat.reduceLT, Nat.reduceLeDiff, Nat.reduceEqDiff, Int.reduceToNat, ↓reduceIte]
      · have h4 : (symR (T[j]'hjl) (symRs (T.take j) q0).1).2 = false := by simpa using h4
        have hff := symRs_fail (T.take j) q0 (T[j]'hjl) (T.drop (j + 1)) hj.2 h4
        rw [← List.drop_eq_getElem_cons hjl, List.take_append_drop] at hff
        have hbad : (symRs (rT rs) []).2 = false := by
          rw [rT_split rs i hil, hlr, symRs_app, if_pos hi.2, ← hq0, symRs_app, ← hT, hff]; simp
        simp only [push_cast, Nat.reduceAdd, Nat.reduceSub, Nat.reduceMul, Nat.reduceLT, Nat.reduceLeDiff, Nat.reduceEqDiff, Int.reduceToNat, ↓reduceIte, hbad, encL_nil, Bool.false_eq_true, if_false]
    · have hj2 : j = 2 := by omega
      subst hj2
      rw [List.take_of_length_le (show T.length ≤ 2 by omega)] at hj ⊢
      have e1 : symRs (rT (rs.take (i + 1))) [] = symRs T q0 := by rw [hTi, symRs_app, if_pos hi.2, ← hq0, hT]
      repeat' first | refine ⟨by omega, ?_⟩ | refine cI (fun _ => ?_) (fun _ => ?_)
      refine loopW_n (i + 1) ⟨by omega, by rw [e1]; exact hj.2⟩ (by omega) ?_
      rw [e1]
      simp only [push_cast, Nat.reduceAdd, Nat.reduceSub, Nat.reduceMul, Nat.reduceLT, Nat.reduceLeDiff, Nat.reduceEqDiff, Int.reduceToNat, ↓reduceIte]
  · rw [List.take_of_length_le (show rs.length ≤ i by omega)] at hi ⊢
    simp only [push_cast, Nat.reduceAdd, Nat.reduceSub, Nat.reduceMul, Nat.reduceLT, Nat.reduceLeDiff, Nat.reduceEqDiff, Int.reduceToNat, ↓reduceIte, hi.2]
theorem checkSystemR_ac (rs : List (Term × Term)) (hlen : rs.length < 1099511627776) (hb : BndR rs) (H : List AObj) : ACall Tryz.prog 4 [.sl .none (encL encRu rs)] H (fun r H' => r = .int .i64 (sysP rs) ∧ H' = H) := by
  have hb' : ∀ r, r ∈ rs → r.1.bulk ≤ 1099511627775 ∧ r.2.bulk ≤ 1099511627775 := fun r hr => by have := hb r hr; omega
  refine ACall_V (H.length) 37 [.tmp 2] Tryz.func4 rfl rfl rfl ?_
  simp only [push_cast, Nat.reduceAdd, Nat.reduceSub, Nat.reduceMul, Nat.reduceLT, Nat.reduceLeDiff, Nat.reduceEqDiff, Int.reduceToNat, ↓reduceIte]
  refine (rulesR_ac rs hlen hb' _).to ?_
  simp only [push_cast, Nat.reduceAdd, Nat.reduceSub, Nat.reduceMul, Nat.reduceLT, Nat.reduceLeDiff, Nat.reduceEqDiff, Int.reduceToNat, ↓reduceIte]
  refine cI (fun h1 => ?_) (fun h1 => ?_)
  · have hsz := rules_size h1
    have hag := rules_agree h1
    refine (symbolsR_ac rs hlen hb (by omega) _).to ?_
    simp only [push_cast, Nat.reduceAdd, Nat.reduceSub, Nat.reduceMul, Nat.reduceLT, Nat.reduceLeDiff, Nat.reduceEqDiff, Int.reduceToNat, ↓reduceIte]
    refine cI (fun h2 => ?_) (fun h2 => ?_)
    · rw [h2] at hag
      have hag := hag.symm
      rw [Bool.and_eq_true, Bool.not_eq_true'] at hag
      have hm : (arE rs).2.any (fun s => markedP s.1) = false := by
        rw [List.all_eq_true] at hag
        rw [← Bool.not_eq_true, List.any_eq_true]
        rintro ⟨x, hx, hxm⟩
        have := hag.2 x hx
        rw [hxm] at this; cases this
      have hS : sysP rs = if rs.any extraP then 7 else 0 := by simp [sysP, h1, hag.1, hm]
      refine AW_loopW (maskG 38 [20, 0, 0]) (fun (i : Nat) => [(22, .int .i64 i)]) (fun _ => H) (fun i => i ≤ rs.length ∧ (rs.take i).any extraP = false) (fun i => rs.length - i) 0 ⟨Nat.zero_le _, by simp⟩ (by simp only [push_cast, Nat.reduceAdd, Nat.reduceSub, Nat.reduceMul, Nat.reduceLT, Nat.reduceLeDiff, Nat.reduceEqDiff, Int.reduceToNat, ↓reduceIte]) (fun i hi => ?_)
      simp only [push_cast, Nat.reduceAdd, Nat.reduceSub, Nat.reduceMul, Nat.reduceLT, Nat.reduceLeDiff, Nat.reduceEqDiff, Int.reduceToNat, ↓reduceIte]
      refine cI (fun h => ?_) (fun h => ?_)
      · repeat refine ⟨by omega, ?_⟩
        have hil : i < rs.length := by omega
        have hbi := hb _ (List.getElem_mem hil)
        have hex := extra_within (rs[i]'hil)
        refine cI (fun hv => ?_) (fun hv => ?_)
        · have hx : extraP (rs[i]'hil) = true := by rw [hex, hv]; rfl
          have e : sysP rs = 7 := by rw [hS, if_pos (any_get hil hx)]
          simp only [push_cast, Nat.reduceAdd, Nat.reduceSub, Nat.reduceMul, Nat.reduceLT, Nat.reduceLeDiff, Nat.reduceEqDiff, Int.reduceToNat, ↓reduceIte, e]
        · have hv : (rs[i]'hil).1.var = false := by simpa using hv
          rw [hv, Bool.false_or] at hex
          repeat refine ⟨by omega, ?_⟩
          refine (withinR_ac (rs[i]'hil).2 (rs[i]'hil).1 hbi.2 hbi.1 _).to ?_
          simp only [push_cast, Nat.reduceAdd, Nat.reduceSub, Nat.reduceMul, Nat.reduceLT, Nat.reduceLeDiff, Nat.reduceEqDiff, Int.reduceToNat, ↓reduceIte, ← hex]
          refine cI (fun hx => ?_) (fun hx => ?_)
          · rw [hS, if_pos (any_get hil hx)]
          · repeat' first | refine ⟨by omega, ?_⟩ | refine cI (fun _ => ?_) (fun _ => ?_)
            exact loopW_n (i + 1) ⟨by omega, any_take_false hi.2 hil (by simpa using hx)⟩ (by omega) (by simp only [push_cast, Nat.reduceAdd, Nat.reduceSub, Nat.reduceMul, Nat.reduceLT, Nat.reduceLeDiff, Nat.reduceEqDiff, Int.reduceToNat, ↓reduceIte])
      · have e := hi.2
        rw [List.take_of_length_le (show rs.length ≤ i by omega)] at e
        have e2 : sysP rs = 0 := by rw [hS, e]; rfl
        simp only [push_cast, Nat.reduceAdd, Nat.reduceSub, Nat.reduceMul, Nat.reduceLT, Nat.reduceLeDiff, Nat.reduceEqDiff, Int.reduceToNat, ↓reduceIte, e2]
    · have h2 : (symRs (rT rs) []).2 = false := by simpa using h2
      rw [h2] at hag
      have e : sysP rs = 6 := by
        cases hB : arB rs with
        | true => simp [sysP, h1, hB]
        | false =>
          rw [hB] at hag
          have hm : (arE rs).2.any (fun s => markedP s.1) = true := by
            rw [← Bool.not_eq_false]
            intro h5
            rw [← Bool.not_eq_true, List.any_eq_true] at h5
            have : (arE rs).2.all (fun s => !markedP s.1) = true := by
              rw [List.all_eq_true]
              intro x hx
              by_cases hxm : markedP x.1 = true
              · exact absurd ⟨x, hx, hxm⟩ h5
              · simpa using hxm
            rw [this] at hag; cases hag
          simp [sysP, h1, hB, hm]
      simp only [push_cast, Nat.reduceAdd, Nat.reduceSub, Nat.reduceMul, Nat.reduceLT, Nat.reduceLeDiff, Nat.reduceEqDiff, Int.reduceToNat, ↓reduceIte, e]
  · have e : sysP rs = rulesP rs := by simp [sysP, h1]
    simp only [push_cast, Nat.reduceAdd, Nat.reduceSub, Nat.reduceMul, Nat.reduceLT, Nat.reduceLeDiff, Nat.reduceEqDiff, Int.reduceToNat, ↓reduceIte, e]
end Ab
set_option maxRecDepth 10000
namespace Ab
open Go Go.Proofs
def syCells (s : List UInt8 × Nat) : List AV := [.str s.1, .int .i64 (s.2 : Nat)]
theorem sy_inj : ∀ s t : List UInt8 × Nat, syCells s = syCells t → s = t := by
  rintro ⟨a, b⟩ ⟨c, d⟩ h
  simp [syCells] at h
  exact Prod.ext h.1 (by have := h.2; simp only; omega)
def syEq : EqLaw Tryz.prog 32 (fun s => .agg (syCells s)) := plainEq pl32 syCells (fun s => by simp [KindsOk, PK.ok, syCells]) sy_inj
theorem systems_ac (hit : ∀ i H, i < 100 → ACall Tryz.prog 73 [.int .i64 (i : Nat)] H (fun r H' => r = .str (Lib.decDigits i) ∧ H' = H)) (rs : List (Term × Term)) (hlen : rs.length < 1099511627776) (hb : BndR rs) (H : List AObj) :
    ACall Tryz.prog 3 [.sl .none (encL encRu rs)] H (fun r H' => r = .bool true ∧ H' = H) := by
  refine ACall_V (H.length) 58 [.tmp 2] Tryz.func3 rfl rfl rfl ?_
  simp only [push_cast, Nat.reduceAdd, Nat.reduceSub, Nat.reduceMul, Nat.reduceLT, Nat.reduceLeDiff, Nat.reduceEqDiff, Int.reduceToNat, ↓reduceIte]
  refine (checkSystemR_ac rs hlen hb _).to ?_
  simp only [push_cast, Nat.reduceAdd, Nat.reduceSub, Nat.reduceMul, Nat.reduceLT, Nat.reduceLeDiff, Nat.reduceEqDiff, Int.reduceToNat, ↓reduceIte]
  refine (symbols_ac rs hlen hb _).to ?_
  simp only [push_cast, Nat.reduceAdd, Nat.reduceSub, Nat.reduceMul, Nat.reduceLT, Nat.reduceLeDiff, Nat.reduceEqDiff, Int.reduceToNat, ↓reduceIte]
  refine (checkSystem_ac rs hlen hb _).to ?_
  by_cases h0 : sysP rs = 0
  · have e : symP rs = ((symRs (rT rs) []).1, 0) := by simp [symP, h0]
    obtain ⟨z1, z2, z3, z4⟩ := sys_zero h0
    have hsz := rules_size z1
    have hst : (symRs (rT rs) []).2 = true := by
      rw [rules_agree z1, z2]
      rw [← Bool.not_eq_true, List.any_eq_true] at z3
      simp only [Bool.not_false, Bool.true_and, List.all_eq_true]
      intro x hx
      by_cases hm : markedP x.1 = true
      · exact absurd ⟨x, hx, hm⟩ z3
      · simpa using hm
    have hsl := symRs_len (rT rs) []
    simp only [List.length_nil, Nat.zero_add] at hsl
    simp only [push_cast, Nat.reduceAdd, Nat.reduceSub, Nat.reduceMul, Nat.reduceLT, Nat.reduceLeDiff, Nat.reduceEqDiff, Int.reduceToNat, ↓reduceIte, e, h0, decide_true, Bool.not_true]
    refine (symbolsR_ac rs hlen hb (by omega) _).to ?_
    simp only [push_cast, Nat.reduceAdd, Nat.reduceSub, Nat.reduceMul, Nat.reduceLT, Nat.reduceLeDiff, Nat.reduceEqDiff, Int.reduceToNat, ↓reduceIte, hst, if_true, decide_true, Bool.not_true]
    obtain ⟨L, hL⟩ : ∃ L, L = (symRs (rT rs) []).1 := ⟨_, rfl⟩
    rw [← hL] at hsl ⊢
    refine AW_loopW (maskG 59 [4, 1, 37, 0]) (fun (i : Nat) => [(45, .int .i64 i)]) (fun _ => H) (fun i => i ≤ L.length) (fun i => L.length - i) 0 (Nat.zero_le _) (by simp only [push_cast, Nat.reduceAdd, Nat.reduceSub, Nat.reduceMul, Nat.reduceLT, Nat.reduceLeDiff, Nat.reduceEqDiff, Int.reduceToNat, ↓reduceIte]) (fun i hi => ?_)
    simp only [push_cast, Nat.reduceAdd, Nat.reduceSub, Nat.reduceMul, Nat.reduceLT, Nat.reduceLeDiff, Nat.reduceEqDiff, Int.reduceToNat, ↓reduceIte]
    refine cI (fun h => ?_) (fun h => ?_)
    · have hil : i < L.length := by omega
      repeat refine ⟨by omega, ?_⟩
      apply AW_drawE [some 48, some 49, some 50, some 51, some 52, some 53, some 54, some 55, some 56] [([], _)] [none, none, none, none, none, none, none, none, none] 0 [(0, [], [4]), (1, [], [8]), (2, [], [48, 0]), (3, [], [50]), (4, [], [6]), (5, [], [8]), (6, [], [52, 0]), (7, [], [54]), (8, [], [51, 3])] [_, _, _, _, _, _, _, _, _]
      case' hm => exact dr
      case' hn => rfl
      case' hok => rfl
      case' hlen => rfl
      case' hd => rfl
      case' h0 => rfl
      case' hstep =>
       simp only [DAllG, push_cast, Option.isSome_some, Option.isSome_none]
       repeat' apply And.intro
       all_goals (apply DOne_V; simp only [push_cast, Nat.reduceAdd, Nat.reduceSub, Nat.reduceMul, Nat.reduceLT, Nat.reduceLeDiff, Nat.reduceEqDiff, Int.reduceToNat, ↓reduceIte] <;> first | exact rfl | omega | exact ⟨rfl, rfl⟩ | exact trivial | exact ⟨by omega, rfl⟩ | exact ⟨by omega, by omega, rfl⟩ | exact ⟨by omega, rfl, rfl⟩ | exact ⟨by omega, by omega, rfl, rfl⟩ | (refine AOp_neq_law syEq (L[i]'hil) (L[i]'hil) rfl rfl ?_; simp only [push_cast, Nat.reduceAdd, Nat.reduceSub, Nat.reduceMul, Nat.reduceLT, Nat.reduceLeDiff, Nat.reduceEqDiff, Int.reduceToNat, ↓reduceIte, decide_true, Bool.not_true]; exact rfl))
      case' hQ => skip
      simp only [push_cast, Nat.reduceAdd, Nat.reduceSub, Nat.reduceMul, Nat.reduceLT, Nat.reduceLeDiff, Nat.reduceEqDiff, Int.reduceToNat, ↓reduceIte]
      repeat' first | refine ⟨by omega, ?_⟩ | refine cI (fun _ => ?_) (fun _ => ?_)
      exact loopW_n (i + 1) (by omega) (by omega) (by simp only [push_cast, Nat.reduceAdd, Nat.reduceSub, Nat.reduceMul, Nat.reduceLT, Nat.reduceLeDiff, Nat.reduceEqDiff, Int.reduceToNat, ↓reduceIte])
    · refine (alive_ac hit _).to ?_
      simp only [push_cast, Nat.reduceAdd, Nat.reduceSub, Nat.reduceMul, Nat.reduceLT, Nat.reduceLeDiff, Nat.reduceEqDiff, Int.reduceToNat, ↓reduceIte]
  · have e : symP rs = ([], sysP rs) := by simp [symP, h0]
    simp only [push_cast, Nat.reduceAdd, Nat.reduceSub, Nat.reduceMul, Nat.reduceLT, Nat.reduceLeDiff, Nat.reduceEqDiff, Int.reduceToNat, ↓reduceIte, e, encL_nil, decide_true, Bool.not_true]
    refine cI (fun h => absurd h h0) (fun _ => ?_)
    refine (alive_ac hit _).to ?_
    simp only [push_cast, Nat.reduceAdd, Nat.reduceSub, Nat.reduceMul, Nat.reduceLT, Nat.reduceLeDiff, Nat.reduceEqDiff, Int.reduceToNat, ↓reduceIte]
end Ab
set_option maxRecDepth 10000
namespace Go.Proofs.YtakpnikkcinckaaGreatDoor
open Go Ab
namespace nsy
theorem own : ownKnob Tryz.prog.godebug = none := by kernel_rfl
theorem laid : laidOutB Tryz.prog = true := by kernel_rfl
theorem readable : ∀ t, t ∈ Tryz.f3.params.toList → Tryz.prog.readableRec t = true ∧ t < Tryz.prog.types.size := by
  rw [Tryz.params3]; intro t ht
  simp only [List.mem_cons, List.not_mem_nil, or_false] at ht
  rcases ht with rfl <;> exact ⟨by kernel_rfl, of_decide_eq_true (by kernel_rfl)⟩
theorem closed : closedK Tryz.prog [22, 38, 36, 9, 4, 34] = true := by kernel_rfl
theorem contract (H : Type) (enc : TypeId × Value → H) (W : World) (base : Nat) (args : Array Value) (ds gs : List (DataW H)) (before : List MemPlace)
    (hval : ∀ (j : Nat) t v, Tryz.f3.params[j]? = some t → args[j]? = some v → Value.okWide Tryz.prog W .any base t v)
    (hW : DataW.Whole enc Tryz.prog Tryz.f3.params.toList Rows.termSystemsSpec.vars false W args.toList ds gs before) (hk : Rows.uptoSmall H (ds ++ gs) = true) (hl : laidMetH Tryz.prog Rows.termSystemsUptoRow.laid W) :
    Calls Tryz.prog 3 args W fun e W' => ∃ v, e = .returned v ∧ Rows.termSystemsSpec.post enc Tryz.prog Tryz.f3 false true false false W args v W' := by
  have hW' := hW
  obtain ⟨p, q, hA0, hV, rfl, hfz, hnd⟩ := hW
  have hA : DataW.TrodAll enc Tryz.prog W 0 (fun _ => true) true Tryz.f3.params.toList args.toList ds p := hA0
  rw [Tryz.params3] at hA hval
  obtain ⟨v0, vs0, d0, ds0, p0, q0, hargs, rfl, rfl, h0, r0⟩ := ChangeShapes.trodAll_cons hA
  obtain ⟨rfl, rfl, rfl⟩ := ChangeShapes.trodAll_nil r0
  obtain rfl : args = #[v0] := by cases args; simp_all
  have hg : gs = [] := by cases gs with | nil => rfl | cons _ _ => exact hV.elim
  subst hg
  have hb : Rows.uptoBulk d0 ≤ 1048576 := by
    have := of_decide_eq_true hk
    simp only [List.cons_append, List.nil_append, List.append_nil, Rows.uptoBulkAll] at this
    omega
  obtain ⟨n0, a0, e0, x0⟩ := arg_slice closed (by decide) Tryz.underlying22 (hval 0 _ v0 rfl rfl) h0
  obtain ⟨rs, f0, b1, c1⟩ := rules_form n0 d0 [a0] e0
  try simp only [List.cons.injEq, and_true] at f0
  rw [f0] at x0
  have hc := law_calls (args := #[v0]) (avs := [.sl .none (encL encRu rs)]) (W := W) (systems_ac (fun i H hi => itoa_ac i H (by omega)) rs (by omega) (fun r hr => by have := c1 r hr; omega) []) (tabW_of hl) rfl (fun i hi hi' => by
    match i, hi with
    | 0, _ => exact x0)
  refine hc.mono fun e W' ⟨he, hbl⟩ => ?_
  subst he
  exact ⟨_, rfl, post_law rfl ⟨rfl, rfl, rfl⟩ hW' hbl rfl Tryz.underlying4 laid readable⟩
noncomputable def laidWorld (os : Os) : World := { World.holding Tryz.prog os ⟨#[], #[], []⟩ with heap := ((((World.holding Tryz.prog os ⟨#[], #[], []⟩).heap).modify 2 (fun | .cells _ t fz => .cells #[.int .u8 0, .int .u8 1, .int .u8 28, .int .u8 2, .int .u8 29, .int .u8 14, .int .u8 24, .int .u8 3, .int .u8 30, .int .u8 22, .int .u8 20, .int .u8 15, .int .u8 25, .int .u8 17, .int .u8 4, .int .u8 8, .int .u8 31, .int .u8 27, .int .u8 13, .int .u8 23, .int .u8 21, .int .u8 19, .int .u8 16, .int .u8 7, .int .u8 26, .int .u8 12, .int .u8 18, .int .u8 6, .int .u8 11, .int .u8 5, .int .u8 10, .int .u8 9] t fz | o => o)).modify 3 (fun | .cells _ t fz => .cells #[.int .u8 0, .int .u8 1, .int .u8 56, .int .u8 2, .int .u8 57, .int .u8 49, .int .u8 28, .int .u8 3, .int .u8 61, .int .u8 58, .int .u8 42, .int .u8 50, .int .u8 38, .int .u8 29, .int .u8 17, .int .u8 4, .int .u8 62, .int .u8 47, .int .u8 59, .int .u8 36, .int .u8 45, .int .u8 43, .int .u8 51, .int .u8 22, .int .u8 53, .int .u8 39, .int .u8 33, .int .u8 30, .int .u8 24, .int .u8 18, .int .u8 12, .int .u8 5, .int .u8 63, .int .u8 55, .int .u8 48, .int .u8 27, .int .u8 60, .int .u8 41, .int .u8 37, .int .u8 16, .int .u8 46, .int .u8 35, .int .u8 44, .int .u8 21, .int .u8 52, .int .u8 32, .int .u8 23, .int .u8 11, .int .u8 54, .int .u8 26, .int .u8 40, .int .u8 15, .int .u8 34, .int .u8 20, .int .u8 31, .int .u8 10, .int .u8 25, .int .u8 14, .int .u8 19, .int .u8 9, .int .u8 13, .int .u8 8, .int .u8 7, .int .u8 6] t fz | o => o)).modify 1 (fun | .cells _ t fz => .cells #[.int .u64 1, .int .u64 10, .int .u64 100, .int .u64 1000, .int .u64 10000, .int .u64 100000, .int .u64 1000000, .int .u64 10000000, .int .u64 100000000, .int .u64 1000000000, .int .u64 10000000000, .int .u64 100000000000, .int .u64 1000000000000, .int .u64 10000000000000, .int .u64 100000000000000, .int .u64 1000000000000000, .int .u64 10000000000000000, .int .u64 100000000000000000, .int .u64 1000000000000000000, .int .u64 10000000000000000000] t fz | o => o) }
set_option maxRecDepth 100000 in
theorem laid_met (os : Os) : laidMet Tryz.prog Rows.termSystemsUptoRow.laid ((laidWorld os).forCall (fun _ _ => 0) ⟨#[], #[.slice none 0 0], []⟩).memory :=
  laidMet_of_run' 80 (by kernel_rfl) (by kernel_rfl)
set_option maxRecDepth 100000 in
theorem reads (os : Os) {H : Type} (enc : TypeId × Value → H) : ∃ places, DataW.whole enc Tryz.prog ((laidWorld os).forCall (fun _ _ => 0) ⟨#[], #[.slice none 0 0], []⟩).memory Tryz.f3.params.toList (Rows.OpenSpec.upto Rows.termSystemsSpec).vars false #[.slice none 0 0].toList 8 = some ([.nil], [], places) := ⟨[], by kernel_rfl⟩
set_option maxRecDepth 100000 in
theorem lifted (os : Os) (started : os.Started) (H : Type) (enc : TypeId × Value → H) (F : Stop.Interp) :
    ReturnsInHanded {} Tryz.checked os 3 .any ((Rows.OpenSpec.upto Rows.termSystemsSpec).preRow enc Tryz.prog Tryz.f3 Rows.termSystemsUptoRow.domain false Rows.termSystemsUptoRow.laid) (((Rows.OpenSpec.upto Rows.termSystemsSpec).at F).post enc Tryz.prog Tryz.f3 false true false false) := by
  obtain ⟨places, hx⟩ := reads os enc
  refine returnsInHanded_of_row (C := Tryz.checked) (s := Rows.OpenSpec.upto Rows.termSystemsSpec) own started (by kernel_rfl) Tryz.func3
    (witness_row_at (enc := enc) (C := Tryz.checked) false (laidWorld os) #[.slice none 0 0] rfl (by kernel_rfl) (by kernel_rfl) (by kernel_rfl)
      (OpenSpec.preRow_of_cond 8 hx (by kernel_rfl) (fun k hk => by cases hk; kernel_rfl) (by kernel_rfl) (laid_met os))) ?_
  intro W base args ds gs before hval hW _ hk _ hl _ _
  exact contract H enc W base args ds gs before hval hW (hk _ rfl) hl
theorem over : Rows.TermSystemsUptoSaid :=
  OpenClaim.holds_of_cond 3 Tryz.f3 rfl rfl rfl rfl rfl rfl rfl ⟨rfl, rfl, rfl, rfl, rfl⟩ rfl rfl rfl rfl rfl (by kernel_rfl) Tryz.func3 (by kernel_rfl)
    (of_decide_eq_true (by kernel_rfl)) (by unfold Func.isWrapper; first | (rw [if_pos (by decide +kernel)]; kernel_rfl) | (rw [if_neg (by decide +kernel)]; exact ⟨rfl, rfl⟩))
    (fun os started H enc _ F => by rw [OpenClaim.pre_eq_preRow]; exact lifted os started H enc F)
theorem plain (f : FuncId) (fn : Func) (hf : Tryz.pinned.checked.prog.funcNamed "dwindle/dwindlelaw01.TermSystems" = some f) (hfn : Tryz.pinned.checked.prog.funcs[f]? = some fn) :
    false = Tryz.pinned.checked.prog.looks [] ∧ ∀ (j : Nat) t, fn.params[j]? = some t → Tryz.pinned.checked.prog.wantsStandIn t = false := by
  obtain rfl : f = 3 := Option.some.inj ((show Tryz.prog.funcNamed "dwindle/dwindlelaw01.TermSystems" = some 3 by kernel_rfl).symm.trans hf) |>.symm
  obtain rfl : fn = Tryz.f3 := (Option.some.inj (Tryz.func3.symm.trans hfn)).symm
  refine ⟨by kernel_rfl, fun j t ht => ?_⟩
  rw [Tryz.params3] at ht
  have hm := Array.mem_of_getElem? ht
  simp only [List.mem_toArray, List.mem_cons, List.not_mem_nil, or_false] at hm
  rcases hm with rfl
  · exact (show Tryz.prog.wantsStandIn 22 = false by kernel_rfl)
end nsy
theorem termSystems_card : Rows.TermSystemsUptoCardSaid :=
  Claim7.holds_tied_plain_at .later [] _ _ _ _ nsy.over (fun _ h => by cases h) (by kernel_rfl) (fun _ h => by cases h) termSystemsUpto_row_tie rfl ⟨rfl, rfl⟩ (by kernel_rfl) rfl nsy.plain (by kernel_rfl)
end Go.Proofs.YtakpnikkcinckaaGreatDoor
