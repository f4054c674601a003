/- Part 4 of 4 of a proof. The law TermNames holds: IsName, Rename and Canonical of the package term answer as the reference says, or with its error, on every string and term within the row's bound; the proof has no further premise. -/
import Derived.Test.YtakpnikkcinckaaDoorDn3
import Derived.Test.YtakpnikkcinckaaDoorCards
import Derived.Test.YtakpnikkcinckaaDoorTie
import Derived.Deep.DeepHandedRow
import Derived.Lib.LaidTab
set_option linter.unusedVariables false
set_option linter.unusedSimpArgs false
set_option maxRecDepth 10000
namespace Ab
open Go Go.Proofs
theorem foldC_nil (l : List (List UInt8)) : foldC [] l = l := (rfl)
theorem collect_ac (t : Term) : ∀ l : List (List UInt8), t.bulk ≤ 1099511627775 → l.length + t.size ≤ 1099511627770 → (∀ x, x ∈ l → x.length < 1099511627776) → ∀ H, ACall Tryd.prog 73 [encT t, .sl .none (encN l)] H (fun r H' => r = .sl .none (encN (collectP t l)) ∧ H' = H) := by
  induction t using Term.ind with | _ n v xs ih
  intro l hb hl hnl H
  have hsz := (Term.mk n v xs).size_le
  have hlen := Term.len_le (n := n) (v := v) (xs := xs)
  have hnm := Term.name_le (n := n) (v := v) (xs := xs)
  rw [Term.size_mk] at hl
  rw [collectP_fold]
  have hi0 := insertP_length l n
  obtain ⟨L0, hL0⟩ : ∃ L0, L0 = if v then insertP l n else l := ⟨_, rfl⟩
  have hL1 : L0.length ≤ l.length + 1 := by rw [hL0]; split <;> omega
  have hL2 : ∀ x, x ∈ L0 → x.length < 1099511627776 := by
    intro x hx
    rw [hL0] at hx
    split at hx
    · rcases (mem_insertP l n x).1 hx with h | h
      · exact hnl x h
      · subst h; omega
    · exact hnl x hx
  have hbk : ∀ x, x ∈ xs → x.bulk ≤ 1099511627775 := fun x hx => by have := Term.arg_le (n := n) (v := v) hx; omega
  rw [← hL0]
  have hround : ∀ i (h : i < xs.length) H, ACall Tryd.prog 73 [encT xs[i], .sl .none (encN (foldC (xs.take i) L0))] H (fun r H' => r = .sl .none (encN (foldC (xs.take (i + 1)) L0)) ∧ H' = H) := fun i h H => by
    have hf1 := foldC_length (xs.take i) L0
    have hf2 := take_sum Term.size xs i h
    have hf3 := take_sum_le Term.size xs (i + 1)
    rw [foldC_take xs L0 i h]
    exact ih _ (List.getElem_mem h) _ (hbk _ (List.getElem_mem h)) (by omega) (foldC_names _ _ (fun x hx => hbk x (List.mem_of_mem_take hx)) hL2) H
  cases v with
  | true =>
    simp only [if_true] at hL0
    refine ACall_V (H.length) 23 [.tmp 4] Tryd.func73 rfl rfl rfl ?_
    simp only [push_cast, Nat.reduceAdd, Nat.reduceSub, Nat.reduceMul, Nat.reduceLT, Nat.reduceLeDiff, Nat.reduceEqDiff, Int.reduceToNat, ↓reduceIte]
    refine (insert_ac l n (by omega) hnl (by omega) _).to ?_
    rw [← hL0]
    simp only [push_cast, Nat.reduceAdd, Nat.reduceSub, Nat.reduceMul, Nat.reduceLT, Nat.reduceLeDiff, Nat.reduceEqDiff, Int.reduceToNat, ↓reduceIte]
    refine AW_loopW (maskG 25 [1, 12, 0, 0]) (fun (i : Nat) => [(1, .sl .none (encN (foldC (xs.take i) L0))), (16, .int .i64 i)]) (fun i => H ++ [.cells [.str n, .bool true, .sl .none (encTs xs)]]) (fun i => i ≤ xs.length) (fun i => xs.length - i) 0 (Nat.zero_le _) (by simp only [push_cast, Nat.reduceAdd, Nat.reduceSub, Nat.reduceMul, Nat.reduceLT, Nat.reduceLeDiff, Nat.reduceEqDiff, Int.reduceToNat, ↓reduceIte, List.take_zero, foldC_nil]) (fun i hi => ?_)
    simp only [push_cast, Nat.reduceAdd, Nat.reduceSub, Nat.reduceMul, Nat.reduceLT, Nat.reduceLeDiff, Nat.reduceEqDiff, Int.reduceToNat, ↓reduceIte]
    refine cI (fun h => ?_) (fun h => ?_)
    · repeat refine ⟨by omega, ?_⟩
      refine (hround i (by omega) _).to ?_
      simp only [push_cast, Nat.reduceAdd, Nat.reduceSub, Nat.reduceMul, Nat.reduceLT, Nat.reduceLeDiff, Nat.reduceEqDiff, Int.reduceToNat, ↓reduceIte]
      repeat' first | refine ⟨by omega, ?_⟩ | refine cI (fun _ => ?_) (fun _ => ?_)
      exact loopW_n (i + 1) (by omega) (by omega) (by simp only [push_cast, Nat.reduceAdd, Nat.reduceSub, Nat.reduceMul, Nat.reduceLT, Nat.reduceLeDiff, Nat.reduceEqDiff, Int.reduceToNat, ↓reduceIte])
    · simp only [push_cast, Nat.reduceAdd, Nat.reduceSub, Nat.reduceMul, Nat.reduceLT, Nat.reduceLeDiff, Nat.reduceEqDiff, Int.reduceToNat, ↓reduceIte, List.take_of_length_le (show xs.length ≤ i by omega)]
  | false =>
    simp only [Bool.false_eq_true, if_false] at hL0
    subst hL0
    refine ACall_V (H.length) 23 [.tmp 4] Tryd.func73 rfl rfl rfl ?_
    simp only [push_cast, Nat.reduceAdd, Nat.reduceSub, Nat.reduceMul, Nat.reduceLT, Nat.reduceLeDiff, Nat.reduceEqDiff, Int.reduceToNat, ↓reduceIte]
    refine AW_loopW (maskG 25 [1, 12, 0, 0]) (fun (i : Nat) => [(1, .sl .none (encN (foldC (xs.take i) L0))), (16, .int .i64 i)]) (fun i => H ++ [.cells [.str n, .bool false, .sl .none (encTs xs)]]) (fun i => i ≤ xs.length) (fun i => xs.length - i) 0 (Nat.zero_le _) (by simp only [push_cast, Nat.reduceAdd, Nat.reduceSub, Nat.reduceMul, Nat.reduceLT, Nat.reduceLeDiff, Nat.reduceEqDiff, Int.reduceToNat, ↓reduceIte, List.take_zero, foldC_nil]) (fun i hi => ?_)
    simp only [push_cast, Nat.reduceAdd, Nat.reduceSub, Nat.reduceMul, Nat.reduceLT, Nat.reduceLeDiff, Nat.reduceEqDiff, Int.reduceToNat, ↓reduceIte]
    refine cI (fun h => ?_) (fun h => ?_)
    · repeat refine ⟨by omega, ?_⟩
      refine (hround i (by omega) _).to ?_
      simp only [push_cast, Nat.reduceAdd, Nat.reduceSub, Nat.reduceMul, Nat.reduceLT, Nat.reduceLeDiff, Nat.reduceEqDiff, Int.reduceToNat, ↓reduceIte]
      repeat' first | refine ⟨by omega, ?_⟩ | refine cI (fun _ => ?_) (fun _ => ?_)
      exact loopW_n (i + 1) (by omega) (by omega) (by simp only [push_cast, Nat.reduceAdd, Nat.reduceSub, Nat.reduceMul, Nat.reduceLT, Nat.reduceLeDiff, Nat.reduceEqDiff, Int.reduceToNat, ↓reduceIte])
    · simp only [push_cast, Nat.reduceAdd, Nat.reduceSub, Nat.reduceMul, Nat.reduceLT, Nat.reduceLeDiff, Nat.reduceEqDiff, Int.reduceToNat, ↓reduceIte, List.take_of_length_le (show xs.length ≤ i by omega)]
theorem varsR_ac (ts : List Term) (hlen : ts.length < 1099511627776) (hb : ∀ x, x ∈ ts → x.bulk ≤ 1099511627775) (hsz : (ts.map Term.size).sum ≤ 1099511627770) (H : List AObj) : ACall Tryd.prog 29 [.sl .none (encTs ts)] H (fun r H' => r = .sl .none (encN (varsP ts)) ∧ H' = H) := by
  have hv : varsP ts = foldC ts [] := rfl
  rw [hv]
  refine ACall_V (H.length) 16 [.tmp 2] Tryd.func29 rfl rfl rfl ?_
  simp only [push_cast, Nat.reduceAdd, Nat.reduceSub, Nat.reduceMul, Nat.reduceLT, Nat.reduceLeDiff, Nat.reduceEqDiff, Int.reduceToNat, ↓reduceIte]
  refine AW_loopW (maskG 17 [3, 2, 0, 0]) (fun (i : Nat) => [(3, .sl .none (encN (foldC (ts.take i) []))), (8, .int .i64 i)]) (fun _ => H) (fun i => i ≤ ts.length) (fun i => ts.length - i) 0 (Nat.zero_le _) (by simp only [push_cast, Nat.reduceAdd, Nat.reduceSub, Nat.reduceMul, Nat.reduceLT, Nat.reduceLeDiff, Nat.reduceEqDiff, Int.reduceToNat, ↓reduceIte, List.take_zero, foldC_nil]) (fun i hi => ?_)
  simp only [push_cast, Nat.reduceAdd, Nat.reduceSub, Nat.reduceMul, Nat.reduceLT, Nat.reduceLeDiff, Nat.reduceEqDiff, Int.reduceToNat, ↓reduceIte]
  refine cI (fun h => ?_) (fun h => ?_)
  · repeat refine ⟨by omega, ?_⟩
    have hil : i < ts.length := by omega
    have hf1 := foldC_length (ts.take i) []
    have hf2 := take_sum Term.size ts i hil
    have hf3 := take_sum_le Term.size ts (i + 1)
    simp only [List.length_nil] at hf1
    refine (collect_ac (ts[i]'hil) (foldC (ts.take i) []) (hb _ (List.getElem_mem hil)) (by omega) (foldC_names _ _ (fun x hx => hb x (List.mem_of_mem_take hx)) (by simp)) _).to ?_
    rw [← foldC_take ts [] i hil]
    simp only [push_cast, Nat.reduceAdd, Nat.reduceSub, Nat.reduceMul, Nat.reduceLT, Nat.reduceLeDiff, Nat.reduceEqDiff, Int.reduceToNat, ↓reduceIte]
    repeat' first | refine ⟨by omega, ?_⟩ | refine cI (fun _ => ?_) (fun _ => ?_)
    exact loopW_n (i + 1) (by omega) (by omega) (by simp only [push_cast, Nat.reduceAdd, Nat.reduceSub, Nat.reduceMul, Nat.reduceLT, Nat.reduceLeDiff, Nat.reduceEqDiff, Int.reduceToNat, ↓reduceIte])
  · simp only [push_cast, Nat.reduceAdd, Nat.reduceSub, Nat.reduceMul, Nat.reduceLT, Nat.reduceLeDiff, Nat.reduceEqDiff, Int.reduceToNat, ↓reduceIte, List.take_of_length_le (show ts.length ≤ i by omega)]
theorem vars1_ac (t : Term) (hb : t.bulk ≤ 1099511627770) (H : List AObj) : ACall Tryd.prog 69 [.sl .none [encT t]] H (fun r H' => r = .sl .none (encN (varsP [t])) ∧ H' = H) := by
  have hs := t.size_le
  have hl := seenT_len [t] (0, [])
  have := varsOf_ac [t] (by simp) (by simp; omega) (by simp at hl ⊢; omega) H
  rw [varsOf_eq, encTs_cons, encTs_nil] at this
  exact this
end Ab
set_option maxRecDepth 10000
namespace Ab
open Go Go.Proofs
theorem rename1_ac (c : Int) (H : List AObj) : ACall Tryd.prog 68 [.int .u8 c] H (fun r H' => r = .bool (!inName c) ∧ H' = H) := by
  refine ACall_V (H.length) 5 [.tmp 2] Tryd.func68 rfl rfl rfl ?_
  simp only [push_cast, Nat.reduceAdd, Nat.reduceSub, Nat.reduceMul, Nat.reduceLT, Nat.reduceLeDiff, Nat.reduceEqDiff, Int.reduceToNat, ↓reduceIte]
  refine (inName_ac c _).to ?_
  simp only [push_cast, Nat.reduceAdd, Nat.reduceSub, Nat.reduceMul, Nat.reduceLT, Nat.reduceLeDiff, Nat.reduceEqDiff, Int.reduceToNat, ↓reduceIte]
theorem rename2_ac (v s : List UInt8) (b : Nat) (hv : v.length ≤ 1099511627775) (hs : s.length ≤ 1099511627775) (H : List AObj) (hb : H[b]? = some (.cells [.str s])) : ACall Tryd.prog 71 [.str v, .ptr b 0] H (fun r H' => r = .str (v ++ s) ∧ H' = H) := by
  refine ACall_V (H.length) 5 [.tmp 3] Tryd.func71 rfl rfl rfl ?_
  simp only [push_cast, Nat.reduceAdd, Nat.reduceSub, Nat.reduceMul, Nat.reduceLT, Nat.reduceLeDiff, Nat.reduceEqDiff, Int.reduceToNat, ↓reduceIte, hb]
  omega
theorem ren_unit (g : List UInt8 → List UInt8) (t : Term) : (renP (fun (_ : Unit) v => ((), g v)) () t).2 = mapV g t := by
  induction t using Term.ind with | _ n v xs ih
  rw [mapV_mk]
  cases v with
  | true => simp [renP]
  | false =>
    simp only [renP, Bool.false_eq_true, if_false]
    congr 1
    have : ∀ ys : List Term, (∀ y, y ∈ ys → y ∈ xs) → (renL (fun (_ : Unit) v => ((), g v)) () ys).2 = ys.map (mapV g) := by
      intro ys
      induction ys with
      | nil => intro _; simp [renL]
      | cons y ys ih2 => intro hy; rw [renL_cons, List.map_cons]; simp only; rw [ih y (hy y (by simp)), ih2 (fun z hz => hy z (by simp [hz]))]
    exact this xs (fun y hy => hy)
def tooLong (s : List UInt8) (l : List (List UInt8)) : Bool := l.any fun v => decide (24 < v.length + s.length)
def renameE (t : Term) (s : List UInt8) : Term × Int :=
  if checkP t = 0 then (if s.all inNameB = true then (if tooLong s (varsP [t]) = true then (zeroT, 3) else (mapV (fun v => v ++ s) t, 0)) else (zeroT, 4)) else (zeroT, checkP t)
theorem rename_ac (t : Term) (s : List UInt8) (hb : t.bulk ≤ 1000000000) (hs : s.length ≤ 1000000000) (H : List AObj) : ACall Tryd.prog 26 [encT t, .str s] H (fun r H' => r = encRE (renameE t s) ∧ H' = H) := by
  have hsz := t.size_le
  have hvl : (varsP [t]).length ≤ t.size := by have := foldC_length [t] []; simpa [foldC, varsP] using this
  have hvb : ∀ v, v ∈ varsP [t] → v.length ≤ t.bulk := fun v hv => by
    rcases (mem_foldC v [t] []).1 hv with h | ⟨x, hx, h⟩
    · cases h
    · rw [List.mem_singleton] at hx; subst hx; exact count_len v x h
  refine ACall_sc (fun hsc _ => ?_)
  unfold renameE
  refine ACall_V (H.length) 36 [.cell 4 24, .tmp 5] Tryd.func26 rfl rfl rfl ?_
  simp only [push_cast, Nat.reduceAdd, Nat.reduceSub, Nat.reduceMul, Nat.reduceLT, Nat.reduceLeDiff, Nat.reduceEqDiff, Int.reduceToNat, ↓reduceIte]
  refine (check_ac t (by omega) _).to ?_
  simp only [push_cast, Nat.reduceAdd, Nat.reduceSub, Nat.reduceMul, Nat.reduceLT, Nat.reduceLeDiff, Nat.reduceEqDiff, Int.reduceToNat, ↓reduceIte]
  refine cI (fun h => ?_) (fun h => ?_)
  · refine AOp_convert_bytes _ rfl sl88 un5 un9 (by omega) ?_
    simp only [push_cast, Nat.reduceAdd, Nat.reduceSub, Nat.reduceMul, Nat.reduceLT, Nat.reduceLeDiff, Nat.reduceEqDiff, Int.reduceToNat, ↓reduceIte]
    refine (containsB_ac _ 68 [] (fun c => !inNameB c) _ (by omega) ok68 (by simp [ScopedL]) (fun i h => rename1_ac _ _)).to ?_
    simp only [push_cast, Nat.reduceAdd, Nat.reduceSub, Nat.reduceMul, Nat.reduceLT, Nat.reduceLeDiff, Nat.reduceEqDiff, Int.reduceToNat, ↓reduceIte]
    have hall : (s.any fun c => !inNameB c) = !s.all inNameB := by simp [List.not_all_eq_any_not]
    rw [hall]
    simp only [push_cast, Nat.reduceAdd, Nat.reduceSub, Nat.reduceMul, Nat.reduceLT, Nat.reduceLeDiff, Nat.reduceEqDiff, Int.reduceToNat, ↓reduceIte]
    refine cI (fun hn => ?_) (fun hn => ?_)
    · refine (vars1_ac t (by omega) _).to ?_
      simp only [push_cast, Nat.reduceAdd, Nat.reduceSub, Nat.reduceMul, Nat.reduceLT, Nat.reduceLeDiff, Nat.reduceEqDiff, Int.reduceToNat, ↓reduceIte]
      obtain ⟨L, hL⟩ : ∃ L, L = varsP [t] := ⟨_, rfl⟩
      rw [← hL] at hvl hvb ⊢
      refine AW_loopW (maskG 38 [2, 0, 0, 16, 0, 0]) (fun (i : Nat) => [(23, .int .i64 i)]) (fun _ => H ++ [.cells [.str t.name, .bool t.var, .sl .none (encTs t.args)], .cells [.str s], .cells [.str [], .bool false, .sl .zero []]]) (fun i => i ≤ L.length ∧ tooLong s (L.take i) = false) (fun i => L.length - i) 0 ⟨Nat.zero_le _, by simp [tooLong]⟩ (by simp only [push_cast, Nat.reduceAdd, Nat.reduceSub, Nat.reduceMul, Nat.reduceLT, Nat.reduceLeDiff, Nat.reduceEqDiff, Int.reduceToNat, ↓reduceIte]) (fun i hi => ?_)
      simp only [push_cast, Nat.reduceAdd, Nat.reduceSub, Nat.reduceMul, Nat.reduceLT, Nat.reduceLeDiff, Nat.reduceEqDiff, Int.reduceToNat, ↓reduceIte]
      refine cI (fun hx => ?_) (fun hx => ?_)
      · repeat refine ⟨by omega, ?_⟩
        have hil : i < L.length := by omega
        have hli := hvb _ (List.getElem_mem hil)
        repeat refine ⟨by omega, ?_⟩
        refine cI (fun hq => ?_) (fun hq => ?_)
        · have hT : tooLong s L = true := by
            unfold tooLong; rw [List.any_eq_true]
            exact ⟨L[i]'hil, List.getElem_mem hil, by simp; omega⟩
          simp only [push_cast, Nat.reduceAdd, Nat.reduceSub, Nat.reduceMul, Nat.reduceLT, Nat.reduceLeDiff, Nat.reduceEqDiff, Int.reduceToNat, ↓reduceIte, h, hn, hT]
        · repeat' first | refine ⟨by omega, ?_⟩ | refine cI (fun _ => ?_) (fun _ => ?_)
          refine loopW_n (i + 1) ⟨by omega, ?_⟩ (by omega) (by simp only [push_cast, Nat.reduceAdd, Nat.reduceSub, Nat.reduceMul, Nat.reduceLT, Nat.reduceLeDiff, Nat.reduceEqDiff, Int.reduceToNat, ↓reduceIte])
          have h2 := hi.2
          unfold tooLong at h2 ⊢
          rw [List.take_succ_eq_append_getElem hil, List.any_append, h2]
          simp; omega
      · have hT := hi.2
        rw [List.take_of_length_le (show L.length ≤ i by omega)] at hT
        have hf : ¬ tooLong s L = true := by rw [hT]; simp
        have hr := renamed_ac (S := Unit) (fun _ v => ((), v ++ s)) (fun _ => H ++ [.cells [.str t.name, .bool t.var, .sl .none (encTs t.args)], .cells [.str s], .cells [.str [], .bool false, .sl .zero []]]) (H.length + 3) (fun _ => by simp) (fun _ o ho => by
          rcases List.mem_append.1 ho with h | h
          · exact (hsc o h).le (by omega)
          · simp only [List.mem_cons, List.not_mem_nil, or_false] at h
            rcases h with rfl | rfl | rfl
            · simp [OScoped, ScopedL, Scoped, scoped_encTs]
            · simp [OScoped, ScopedL, Scoped]
            · simp [OScoped, ScopedL, Scoped]) (fun _ => 0) (fun _ _ => Nat.zero_le _) (t.size + 1) 71 [.ptr (H.length + 1) 0] ok71 (by simp [ScopedL, Scoped]) (fun _ v X _ hv => rename2_ac v s (H.length + 1) hv (by omega) _ (by rw [List.append_assoc]; exact agetN _ _ 1)) t (by omega) () [] (by omega)
        rw [ren_unit] at hr
        simp only [push_cast, Nat.reduceAdd, Nat.reduceSub, Nat.reduceMul, Nat.reduceLT, Nat.reduceLeDiff, Nat.reduceEqDiff, Int.reduceToNat, ↓reduceIte, List.append_nil] at hr
        refine hr.to ?_
        simp only [push_cast, Nat.reduceAdd, Nat.reduceSub, Nat.reduceMul, Nat.reduceLT, Nat.reduceLeDiff, Nat.reduceEqDiff, Int.reduceToNat, ↓reduceIte, h, hn, hf]
    · simp only [push_cast, Nat.reduceAdd, Nat.reduceSub, Nat.reduceMul, Nat.reduceLT, Nat.reduceLeDiff, Nat.reduceEqDiff, Int.reduceToNat, ↓reduceIte, h, hn]
  · simp only [push_cast, Nat.reduceAdd, Nat.reduceSub, Nat.reduceMul, Nat.reduceLT, Nat.reduceLeDiff, Nat.reduceEqDiff, Int.reduceToNat, ↓reduceIte, h]
end Ab
set_option maxRecDepth 10000
namespace Ab
open Go Go.Proofs
theorem sortedP_take (l : List (List UInt8)) (i : Nat) (h : i < l.length) : sortedP (l.take (i + 1)) = insertP (sortedP (l.take i)) l[i] := by
  unfold sortedP; rw [List.take_succ_eq_append_getElem h, List.foldl_append]; rfl
theorem sortedP_len (l : List (List UInt8)) : (sortedP l).length ≤ l.length := by
  have : ∀ (l m : List (List UInt8)), (l.foldl insertP m).length ≤ m.length + l.length := by
    intro l
    induction l with
    | nil => intro m; simp
    | cons a l ih => intro m; have h1 := ih (insertP m a); have h2 := insertP_length m a; simp only [List.foldl_cons, List.length_cons]; omega
  simpa [sortedP] using this l []
theorem sortedP_nil : sortedP [] = [] := (rfl)
theorem sorted_ac (l : List (List UInt8)) (hlen : l.length < 1099511627775) (hnl : ∀ x, x ∈ l → x.length < 1099511627776) (H : List AObj) : ACall Tryd.prog 94 [.sl .none (encN l)] H (fun r H' => r = .sl .none (encN (sortedP l)) ∧ H' = H) := by
  refine ACall_V (H.length) 16 [.tmp 2] Tryd.func94 rfl rfl rfl ?_
  simp only [push_cast, Nat.reduceAdd, Nat.reduceSub, Nat.reduceMul, Nat.reduceLT, Nat.reduceLeDiff, Nat.reduceEqDiff, Int.reduceToNat, ↓reduceIte]
  refine AW_loopW (maskG 17 [3, 2, 0, 0]) (fun (i : Nat) => [(3, .sl .none (encN (sortedP (l.take i)))), (8, .int .i64 i)]) (fun _ => H) (fun i => i ≤ l.length) (fun i => l.length - i) 0 (Nat.zero_le _) (by simp only [push_cast, Nat.reduceAdd, Nat.reduceSub, Nat.reduceMul, Nat.reduceLT, Nat.reduceLeDiff, Nat.reduceEqDiff, Int.reduceToNat, ↓reduceIte, List.take_zero, sortedP_nil]) (fun i hi => ?_)
  simp only [push_cast, Nat.reduceAdd, Nat.reduceSub, Nat.reduceMul, Nat.reduceLT, Nat.reduceLeDiff, Nat.reduceEqDiff, Int.reduceToNat, ↓reduceIte]
  refine cI (fun h => ?_) (fun h => ?_)
  · repeat refine ⟨by omega, ?_⟩
    have hil : i < l.length := by omega
    have h1 := sortedP_len (l.take i)
    simp only [List.length_take] at h1
    refine (insert_ac (sortedP (l.take i)) (l[i]'hil) (by omega) (fun x hx => hnl x (List.mem_of_mem_take ((mem_sortedP _ _).1 hx))) (hnl _ (List.getElem_mem hil)) _).to ?_
    simp only [push_cast, Nat.reduceAdd, Nat.reduceSub, Nat.reduceMul, Nat.reduceLT, Nat.reduceLeDiff, Nat.reduceEqDiff, Int.reduceToNat, ↓reduceIte]
    repeat' first | refine ⟨by omega, ?_⟩ | refine cI (fun _ => ?_) (fun _ => ?_)
    exact loopW_n (i + 1) (by omega) (by omega) (by simp only [push_cast, Nat.reduceAdd, Nat.reduceSub, Nat.reduceMul, Nat.reduceLT, Nat.reduceLeDiff, Nat.reduceEqDiff, Int.reduceToNat, ↓reduceIte, sortedP_take l i hil])
  · simp only [push_cast, Nat.reduceAdd, Nat.reduceSub, Nat.reduceMul, Nat.reduceLT, Nat.reduceLeDiff, Nat.reduceEqDiff, Int.reduceToNat, ↓reduceIte, List.take_of_length_le (show l.length ≤ i by omega)]
theorem digits_ac (n : Nat) : n ≤ 1099511627776 → ∀ H, ACall Tryd.prog 95 [.int .i64 (n : Nat)] H (fun r H' => r = .str (Lib.decDigits n) ∧ H' = H) := by
  induction n using Nat.strongRecOn with | ind n ih
  intro hn H
  rw [Lib.decDigits]
  refine ACall_V (H.length) 16 [.tmp 2] Tryd.func95 rfl rfl rfl ?_
  simp only [push_cast, Nat.reduceAdd, Nat.reduceSub, Nat.reduceMul, Nat.reduceLT, Nat.reduceLeDiff, Nat.reduceEqDiff, Int.reduceToNat, ↓reduceIte]
  refine cI (fun h => ?_) (fun h => ?_)
  · repeat refine ⟨by omega, ?_⟩
    have hn10 : n < 10 := by omega
    have hb : ((UInt8.ofNat (48 + n)).toNat : Int) = 48 + n := by rw [UInt8.toNat_ofNat']; omega
    refine AOp_convert_str [UInt8.ofNat (48 + n)] .none (by simp only [push_cast, encB, List.map_cons, List.map_nil, hb]) (by simp) sl88 (by kernel_rfl) (by kernel_rfl) ?_
    simp only [push_cast, Nat.reduceAdd, Nat.reduceSub, Nat.reduceMul, Nat.reduceLT, Nat.reduceLeDiff, Nat.reduceEqDiff, Int.reduceToNat, ↓reduceIte, dif_pos hn10]
  · have hn10 : ¬ n < 10 := by omega
    have e1 : (n : Int) / 10 = ((n / 10 : Nat) : Int) := by omega
    have e2 : (n : Int) % 10 = ((n % 10 : Nat) : Int) := by omega
    have h3 := fun H => ih (n / 10) (by omega) (by omega) H
    have h4 := fun H => ih (n % 10) (by omega) (by omega) H
    have h5 : Lib.decDigits (n % 10) = [UInt8.ofNat (48 + n % 10)] := by rw [Lib.decDigits, dif_pos (by omega)]
    rw [h5] at h4
    have hl := dec_len 12 (n / 10) (by omega)
    rw [e1]
    repeat refine ⟨by omega, ?_⟩
    refine (h3 _).to ?_
    simp only [push_cast, Nat.reduceAdd, Nat.reduceSub, Nat.reduceMul, Nat.reduceLT, Nat.reduceLeDiff, Nat.reduceEqDiff, Int.reduceToNat, ↓reduceIte, e2]
    repeat refine ⟨by omega, ?_⟩
    refine (h4 _).to ?_
    simp only [push_cast, Nat.reduceAdd, Nat.reduceSub, Nat.reduceMul, Nat.reduceLT, Nat.reduceLeDiff, Nat.reduceEqDiff, Int.reduceToNat, ↓reduceIte, dif_neg hn10]
    omega
theorem imageR_ac (σ : List (List UInt8 × Term)) (v : List UInt8) (hlen : σ.length < 1099511627776) (H : List AObj) : ACall Tryd.prog 74 [.sl .none (encL encBd σ), .str v] H (fun r H' => r = encT (imageP σ v) ∧ H' = H) := by
  refine ACall_V (H.length) 20 [.cell 4 24] Tryd.func74 rfl rfl rfl ?_
  simp only [push_cast, Nat.reduceAdd, Nat.reduceSub, Nat.reduceMul, Nat.reduceLT, Nat.reduceLeDiff, Nat.reduceEqDiff, Int.reduceToNat, ↓reduceIte]
  refine AW_loopW (maskG 22 [1, 2, 2, 0, 0]) (fun (i : Nat) => [(9, .int .i64 i)]) (fun _ => H ++ [.cells [.str [], .bool false, .sl .zero []]]) (fun i => i ≤ σ.length ∧ ∀ x, x ∈ σ.take i → ¬ x.1 = v) (fun i => σ.length - i) 0 ⟨Nat.zero_le _, by simp⟩ (by simp only [push_cast, Nat.reduceAdd, Nat.reduceSub, Nat.reduceMul, Nat.reduceLT, Nat.reduceLeDiff, Nat.reduceEqDiff, Int.reduceToNat, ↓reduceIte]) (fun i hi => ?_)
  simp only [push_cast, Nat.reduceAdd, Nat.reduceSub, Nat.reduceMul, Nat.reduceLT, Nat.reduceLeDiff, Nat.reduceEqDiff, Int.reduceToNat, ↓reduceIte]
  refine cI (fun h => ?_) (fun h => ?_)
  · repeat refine ⟨by omega, ?_⟩
    have hil : i < σ.length := by omega
    refine cI (fun he => ?_) (fun he => ?_)
    · have hn : σ.find? (fun b => decide (b.1 = v)) = some (σ[i]'hil) := by
        rw [List.find?_eq_some_iff_getElem]
        refine ⟨by simpa using he, i, hil, rfl, fun j hj => ?_⟩
        have := hi.2 σ[j] (by rw [List.mem_take_iff_getElem]; exact ⟨j, by omega, rfl⟩)
        simpa using this
      have hI : imageP σ v = (σ[i]'hil).2 := by simp [imageP, hn]
      simp only [push_cast, Nat.reduceAdd, Nat.reduceSub, Nat.reduceMul, Nat.reduceLT, Nat.reduceLeDiff, Nat.reduceEqDiff, Int.reduceToNat, ↓reduceIte, hI]
    · repeat' first | refine ⟨by omega, ?_⟩ | refine cI (fun _ => ?_) (fun _ => ?_)
      refine loopW_n (i + 1) ⟨by omega, fun x hx => ?_⟩ (by omega) (by simp only [push_cast, Nat.reduceAdd, Nat.reduceSub, Nat.reduceMul, Nat.reduceLT, Nat.reduceLeDiff, Nat.reduceEqDiff, Int.reduceToNat, ↓reduceIte])
      rw [List.take_succ_eq_append_getElem hil] at hx
      rcases List.mem_append.1 hx with h | h
      · exact hi.2 x h
      · rw [List.mem_singleton] at h; subst h; exact he
  · have e : σ.take i = σ := List.take_of_length_le (by omega)
    rw [e] at hi
    have hn : σ.find? (fun b => decide (b.1 = v)) = none := by rw [List.find?_eq_none]; intro x hx; simpa using hi.2 x hx
    have hI : imageP σ v = .mk v true [] := by simp [imageP, hn]
    simp only [push_cast, Nat.reduceAdd, Nat.reduceSub, Nat.reduceMul, Nat.reduceLT, Nat.reduceLeDiff, Nat.reduceEqDiff, Int.reduceToNat, ↓reduceIte, hI]
def appL (σ : List (List UInt8 × Term)) (xs : List Term) : List Term := xs.map (applyP σ)
theorem appL_take (σ : List (List UInt8 × Term)) (xs : List Term) (i : Nat) (h : i < xs.length) : appL σ (xs.take (i + 1)) = appL σ (xs.take i) ++ [applyP σ xs[i]] := by
  unfold appL; rw [List.take_succ_eq_append_getElem h, List.map_append]; rfl
theorem appL_nil (σ : List (List UInt8 × Term)) : appL σ [] = [] := (rfl)
theorem appL_len (σ : List (List UInt8 × Term)) (xs : List Term) : (appL σ xs).length = xs.length := by simp [appL]
theorem applyP_t (σ : List (List UInt8 × Term)) (n : List UInt8) (xs : List Term) : applyP σ (.mk n true xs) = imageP σ n := by rw [applyP_mk]; simp
theorem applyP_f (σ : List (List UInt8 × Term)) (n : List UInt8) (xs : List Term) : applyP σ (.mk n false xs) = .mk n false (appL σ xs) := by rw [applyP_mk]; rfl
theorem applyR_ac (σ : List (List UInt8 × Term)) (hlen : σ.length < 1099511627776) (t : Term) : t.bulk ≤ 1099511627775 → ∀ H, ACall Tryd.prog 31 [.sl .none (encL encBd σ), encT t] H (fun r H' => r = encT (applyP σ t) ∧ H' = H) := by
  induction t using Term.ind with | _ n v xs ih
  intro hb H
  have hl := Term.len_le (n := n) (v := v) (xs := xs)
  cases v with
  | true =>
    rw [applyP_t]
    refine ACall_V (H.length) 32 [.cell 4 24] Tryd.func31 rfl rfl rfl ?_
    simp only [push_cast, Nat.reduceAdd, Nat.reduceSub, Nat.reduceMul, Nat.reduceLT, Nat.reduceLeDiff, Nat.reduceEqDiff, Int.reduceToNat, ↓reduceIte]
    refine (imageR_ac σ n hlen _).to ?_
    simp only [push_cast, Nat.reduceAdd, Nat.reduceSub, Nat.reduceMul, Nat.reduceLT, Nat.reduceLeDiff, Nat.reduceEqDiff, Int.reduceToNat, ↓reduceIte]
  | false =>
    rw [applyP_f]
    refine ACall_V (H.length) 32 [.cell 4 24] Tryd.func31 rfl rfl rfl ?_
    simp only [push_cast, Nat.reduceAdd, Nat.reduceSub, Nat.reduceMul, Nat.reduceLT, Nat.reduceLeDiff, Nat.reduceEqDiff, Int.reduceToNat, ↓reduceIte]
    refine AW_reserve 1 ?_
    refine AW_loopW (maskG 34 [0, 3, 0, 12, 0, 0]) (fun (i : Nat) => [(20, .int .i64 i)]) (fun i => H ++ [.cells [.str n, .bool false, .sl .none (encTs xs)], .cells [.str [], .bool false, .sl .zero []], .cells [.str n, .bool false, gSl (H.length + 3) (encTs (appL σ (xs.take i)))], gTok 24 3 (encTs (appL σ (xs.take i)))]) (fun i => i ≤ xs.length) (fun i => xs.length - i) 0 (Nat.zero_le _) (by simp only [push_cast, Nat.reduceAdd, Nat.reduceSub, Nat.reduceMul, Nat.reduceLT, Nat.reduceLeDiff, Nat.reduceEqDiff, Int.reduceToNat, ↓reduceIte, List.take_zero, appL_nil]) (fun i hi => ?_)
    simp only [push_cast, Nat.reduceAdd, Nat.reduceSub, Nat.reduceMul, Nat.reduceLT, Nat.reduceLeDiff, Nat.reduceEqDiff, Int.reduceToNat, ↓reduceIte]
    refine cI (fun h => ?_) (fun h => ?_)
    · have hil : i < xs.length := by omega
      repeat refine ⟨by omega, ?_⟩
      have hal := appL_len σ (xs.take i)
      rw [List.length_take] at hal
      apply AW_drawE [some 24, some 25, some 26, some 27, some 28, some 29, some 30, some 31, none] [([false, false], _), ([true, false], _), ([true, true], _)] [none, none, none, none, none, none, some 0, none, some 1] 2 [(0, [false, false], [5]), (1, [false, false], [24]), (2, [false, false], [0]), (3, [false, false], [7]), (4, [false, false], [26, 0]), (5, [false, false], [28]), (6, [false, false], [25, 3]), (7, [true, false], [5]), (8, [true, false], [30, 0]), (0, [true, false], [5]), (2, [true, false], [0]), (3, [true, false], [7])] [_, _, _, _, _, _, _, _, _]
      case' hm => exact dr
      case' hn => rfl
      case' hok => rfl
      case' hlen => rfl
      case' hd => rfl
      case' h0 => rfl
      case' hstep =>
       simp only [DAllG, push_cast, Option.isSome_some, Option.isSome_none]
       repeat' apply And.intro
       all_goals (apply DOne_V; simp only [push_cast, Nat.reduceAdd, Nat.reduceSub, Nat.reduceMul, Nat.reduceLT, Nat.reduceLeDiff, Nat.reduceEqDiff, Int.reduceToNat, ↓reduceIte] <;> first | exact rfl | omega | exact ⟨rfl, rfl⟩ | exact trivial | exact ⟨by omega, rfl⟩ | exact ⟨by omega, by omega, rfl⟩ | exact ⟨by omega, rfl, rfl⟩ | exact ⟨by omega, by omega, rfl, rfl⟩ | exact (ih _ (List.getElem_mem hil) (arg_bulk hb i hil) _).to ⟨rfl, rfl⟩ | (refine app1_T _ (H.length + 3) (appL σ (xs.take i)) (applyP σ (xs[i]'hil)) _ rfl rfl (by exact (agetN _ _ 3).trans rfl) sl22 sz24 by24 zr24 rfl (by decide) (by omega) ?_; simp only [push_cast, Nat.reduceAdd, Nat.reduceSub, Nat.reduceMul, Nat.reduceLT, Nat.reduceLeDiff, Nat.reduceEqDiff, Int.reduceToNat, ↓reduceIte]; exact ⟨rfl, rfl⟩))
      case' hQ => skip
      simp only [push_cast, Nat.reduceAdd, Nat.reduceSub, Nat.reduceMul, Nat.reduceLT, Nat.reduceLeDiff, Nat.reduceEqDiff, Int.reduceToNat, ↓reduceIte, ← appL_take σ xs i hil]
      repeat' first | refine ⟨by omega, ?_⟩ | refine cI (fun _ => ?_) (fun _ => ?_)
      exact loopW_n (i + 1) (by omega) (by omega) (by simp only [push_cast, Nat.reduceAdd, Nat.reduceSub, Nat.reduceMul, Nat.reduceLT, Nat.reduceLeDiff, Nat.reduceEqDiff, Int.reduceToNat, ↓reduceIte])
    · simp only [push_cast, Nat.reduceAdd, Nat.reduceSub, Nat.reduceMul, Nat.reduceLT, Nat.reduceLeDiff, Nat.reduceEqDiff, Int.reduceToNat, ↓reduceIte, List.take_of_length_le (show xs.length ≤ i by omega)]
theorem AOp_forget {P : Program} {ro : Option Nat} {o : Oper} {K : AV → List AObj → Prop} {s : List AV} {h : List AObj} (i : Nat) (v v' : AV) (hi : s[i]? = some v) (hf : Forget v v') (k : AOp P ro o K ⟨s.set i v', h⟩) : AOp P ro o K ⟨s, h⟩ := by
  intro C a hg hH hs
  refine k C a hg hH ⟨hs.1.trans (by simp), fun j hj hj' => ?_⟩
  have hlt := (List.getElem?_eq_some_iff.1 hi).1
  have h1 := hs.2 j (by simpa using hj) hj'
  simp only [List.getElem_set]
  split
  · rename_i e; subst e
    rw [(List.getElem?_eq_some_iff.1 hi).2] at h1
    exact hf _ _ h1
  · exact h1
theorem rowsFor_cons (pre : List UInt8) (l : List (List UInt8)) (v : List UInt8) (i : Nat) (h : i < l.length) : rowsFor pre (l.take (i + 1)) v = rowsFor pre (l.take i) v ++ (if l[i] = v then [(v, .mk (pre ++ Lib.decDigits i) true [])] else []) := by
  unfold rowsFor
  rw [List.take_succ_eq_append_getElem h, List.zipIdx_append, List.filter_append, List.map_append]
  congr 1
  have hl : (l.take i).length = i := by simp; omega
  rw [hl]
  by_cases e : l[i] = v
  · simp [e]
  · simp [e]
theorem rowsFor_len (pre : List UInt8) (l : List (List UInt8)) (v : List UInt8) : (rowsFor pre l v).length ≤ l.length := by
  unfold rowsFor
  rw [List.length_map]
  exact Nat.le_trans (List.length_filter_le _ _) (by simp)
def renA (pre : List UInt8) (l S : List (List UInt8)) : List (List UInt8 × Term) := S.flatMap (rowsFor pre l)
theorem renA_take (pre : List UInt8) (l S : List (List UInt8)) (i : Nat) (h : i < S.length) : renA pre l (S.take (i + 1)) = renA pre l (S.take i) ++ rowsFor pre l S[i] := by
  unfold renA; rw [List.take_succ_eq_append_getElem h, List.flatMap_append]; simp
theorem renA_len (pre : List UInt8) (l : List (List UInt8)) : ∀ S, (renA pre l S).length ≤ S.length * l.length
  | [] => by simp [renA]
  | s :: S => by
    have h1 := renA_len pre l S
    have h2 := rowsFor_len pre l s
    have : renA pre l (s :: S) = rowsFor pre l s ++ renA pre l S := by simp [renA]
    rw [this, List.length_append, List.length_cons, Nat.add_mul]; omega
theorem renA_nil (pre : List UInt8) (l : List (List UInt8)) : renA pre l [] = [] := (rfl)
theorem rowsFor_nil (pre : List UInt8) (v : List UInt8) : rowsFor pre [] v = [] := (rfl)
theorem renaming_ac (pre : List UInt8) (l : List (List UInt8)) (hlen : l.length ≤ 1000000) (hp : pre.length ≤ 1000000) (hnl : ∀ x, x ∈ l → x.length < 1099511627776) (H : List AObj) :
    ACall Tryd.prog 54 [.sl .none (encN l), .str pre] H (fun r H' => r = .sl .none (encL encBd (renamingP pre l)) ∧ H' = H) := by
  have hR : renamingP pre l = renA pre l (sortedP l) := rfl
  have hsl := sortedP_len l
  have hbound : (sortedP l).length * l.length ≤ 1000000 * 1000000 := Nat.mul_le_mul (by omega) hlen
  obtain ⟨S, hS⟩ : ∃ S, S = sortedP l := ⟨_, rfl⟩
  rw [hR]
  have hso := fun H => sorted_ac l (by omega) hnl H
  rw [← hS] at hsl hbound hso ⊢
  refine ACall_V (H.length) 38 [.tmp 4] Tryd.func54 rfl rfl rfl ?_
  simp only [push_cast, Nat.reduceAdd, Nat.reduceSub, Nat.reduceMul, Nat.reduceLT, Nat.reduceLeDiff, Nat.reduceEqDiff, Int.reduceToNat, ↓reduceIte]
  refine (hso _).to ?_
  simp only [push_cast, Nat.reduceAdd, Nat.reduceSub, Nat.reduceMul, Nat.reduceLT, Nat.reduceLeDiff, Nat.reduceEqDiff, Int.reduceToNat, ↓reduceIte]
  refine AW_reserve 1 ?_
  refine AW_loopW (maskG 40 [0, 0, 3, 5, 0, 0]) (fun (i : Nat) => [(5, gSl H.length (encL encBd (renA pre l (S.take i)))), (13, .int .i64 i)]) (fun i => H ++ [gTok 57 4 (encL encBd (renA pre l (S.take i)))]) (fun i => i ≤ S.length) (fun i => S.length - i) 0 (Nat.zero_le _) (by simp only [push_cast, Nat.reduceAdd, Nat.reduceSub, Nat.reduceMul, Nat.reduceLT, Nat.reduceLeDiff, Nat.reduceEqDiff, Int.reduceToNat, ↓reduceIte, List.take_zero, renA_nil]) (fun i hi => ?_)
  simp only [push_cast, Nat.reduceAdd, Nat.reduceSub, Nat.reduceMul, Nat.reduceLT, Nat.reduceLeDiff, Nat.reduceEqDiff, Int.reduceToNat, ↓reduceIte]
  refine cI (fun h => ?_) (fun h => ?_)
  · repeat refine ⟨by omega, ?_⟩
    have hil : i < S.length := by omega
    have hra : (renA pre l (S.take i)).length ≤ 1000000 * 1000000 := Nat.le_trans (renA_len pre l _) (Nat.le_trans (Nat.mul_le_mul_right _ (by simp; omega)) hbound)
    refine AW_loopW (maskG 40 [0, 0, 3, 1, 3, 0, 0, 3, 0, 0]) (fun (j : Nat) => [(5, gSl H.length (encL encBd (renA pre l (S.take i) ++ rowsFor pre (l.take j) (S[i]'hil)))), (19, .int .i64 j)]) (fun j => H ++ [gTok 57 4 (encL encBd (renA pre l (S.take i) ++ rowsFor pre (l.take j) (S[i]'hil)))]) (fun j => j ≤ l.length) (fun j => l.length - j) 0 (Nat.zero_le _) (by simp only [push_cast, Nat.reduceAdd, Nat.reduceSub, Nat.reduceMul, Nat.reduceLT, Nat.reduceLeDiff, Nat.reduceEqDiff, Int.reduceToNat, ↓reduceIte, List.take_zero, rowsFor_nil, List.append_nil]) (fun j hj => ?_)
    simp only [push_cast, Nat.reduceAdd, Nat.reduceSub, Nat.reduceMul, Nat.reduceLT, Nat.reduceLeDiff, Nat.reduceEqDiff, Int.reduceToNat, ↓reduceIte]
    refine cI (fun h => ?_) (fun h => ?_)
    · repeat refine ⟨by omega, ?_⟩
      have hjl : j < l.length := by omega
      have hrf := rowsFor_len pre (l.take j) (S[i]'hil)
      rw [List.length_take] at hrf
      have hrc := rowsFor_cons pre l (S[i]'hil) j hjl
      have hdl := dec_len 12 j (by omega)
      refine cI (fun he => ?_) (fun he => ?_)
      · rw [if_pos he] at hrc
        refine (digits_ac j (by omega) _).to ?_
        simp only [push_cast, Nat.reduceAdd, Nat.reduceSub, Nat.reduceMul, Nat.reduceLT, Nat.reduceLeDiff, Nat.reduceEqDiff, Int.reduceToNat, ↓reduceIte]
        repeat refine ⟨by omega, ?_⟩
        refine AOp_forget 35 _ (.sl .none [encBd (S[i]'hil, .mk (pre ++ Lib.decDigits j) true [])]) rfl (Forget.row _ rfl ⟨Forget.refl _, Forget.refl _, Forget.refl _, by simp only [push_cast, Nat.reduceAdd, Nat.reduceSub, Nat.reduceMul, Nat.reduceLT, Nat.reduceLeDiff, Nat.reduceEqDiff, Int.reduceToNat, ↓reduceIte]; exact Forget.tok _ _, trivial⟩) ?_
        refine app1_L encBd (sz := 4) (fun _ => rfl) cellBd _ H.length (renA pre l (S.take i) ++ rowsFor pre (l.take j) (S[i]'hil)) (S[i]'hil, .mk (pre ++ Lib.decDigits j) true []) _ rfl rfl (by exact aget0 _ _ _) sl52 sz57 by57 zr57 rfl (by decide) (by decide) (by simp; omega) ?_
        rw [List.append_assoc, ← hrc]
        simp only [push_cast, Nat.reduceAdd, Nat.reduceSub, Nat.reduceMul, Nat.reduceLT, Nat.reduceLeDiff, Nat.reduceEqDiff, Int.reduceToNat, ↓reduceIte]
        repeat' first | refine ⟨by omega, ?_⟩ | refine cI (fun _ => ?_) (fun _ => ?_)
        exact loopW_n (j + 1) (by omega) (by omega) (by simp only [push_cast, Nat.reduceAdd, Nat.reduceSub, Nat.reduceMul, Nat.reduceLT, Nat.reduceLeDiff, Nat.reduceEqDiff, Int.reduceToNat, ↓reduceIte])
      · rw [if_neg he, List.append_nil] at hrc
        repeat' first | refine ⟨by omega, ?_⟩ | refine cI (fun _ => ?_) (fun _ => ?_)
        refine loopW_n (j + 1) (by omega) (by omega) ?_
        rw [hrc]
        simp only [push_cast, Nat.reduceAdd, Nat.reduceSub, Nat.reduceMul, Nat.reduceLT, Nat.reduceLeDiff, Nat.reduceEqDiff, Int.reduceToNat, ↓reduceIte]
    · repeat' first | refine ⟨by omega, ?_⟩ | refine cI (fun _ => ?_) (fun _ => ?_)
      refine loopW_n (i + 1) (by omega) (by omega) ?_
      rw [List.take_of_length_le (show l.length ≤ j by omega), ← renA_take pre l S i hil]
      simp only [push_cast, Nat.reduceAdd, Nat.reduceSub, Nat.reduceMul, Nat.reduceLT, Nat.reduceLeDiff, Nat.reduceEqDiff, Int.reduceToNat, ↓reduceIte]
  · simp only [push_cast, Nat.reduceAdd, Nat.reduceSub, Nat.reduceMul, Nat.reduceLT, Nat.reduceLeDiff, Nat.reduceEqDiff, Int.reduceToNat, ↓reduceIte, List.take_of_length_le (show S.length ≤ i by omega)]
end Ab
set_option maxRecDepth 10000
namespace Ab
open Go Go.Proofs
theorem name_le_bulk (t : Term) : ∀ l, ∀ x, x ∈ firstP t l → x ∈ l ∨ x.length ≤ t.bulk := by
  induction t using Term.ind with | _ n v xs ih
  intro l x hx
  rw [firstP_mk] at hx
  rw [Term.bulk_mk]
  cases v with
  | true =>
    simp only [if_true] at hx
    split at hx
    · exact .inl hx
    · rcases List.mem_append.1 hx with h | h
      · exact .inl h
      · rw [List.mem_singleton] at h; subst h; right; omega
  | false =>
    simp only [Bool.false_eq_true, if_false] at hx
    have : ∀ ys : List Term, (∀ y, y ∈ ys → y ∈ xs) → ∀ l, x ∈ firstL ys l → x ∈ l ∨ x.length ≤ (ys.map Term.bulk).sum := by
      intro ys
      induction ys with
      | nil => intro _ l h; exact .inl h
      | cons y ys ih2 =>
        intro hy l h
        rw [firstL_cons] at h
        simp only [List.map_cons, List.sum_cons]
        rcases ih2 (fun z hz => hy z (by simp [hz])) _ h with h | h
        · rcases ih y (hy y (by simp)) l x h with h | h
          · exact .inl h
          · right; omega
        · right; omega
    rcases this xs (fun y hy => hy) l hx with h | h
    · exact .inl h
    · right; omega
theorem first0_ac (t : Term) (hb : t.bulk ≤ 1000000) (H : List AObj) : ACall Tryd.prog 53 [encT t, .sl .zero []] H (fun r H' => r = .sl .none (encN (firstP t [])) ∧ H' = H) := by
  have := t.size_le
  exact ACall.forget (args' := [encT t, .sl .none (encN [])]) ⟨Forget.refl _, Forget.tok _ _, trivial⟩ (first_ac t [] (by omega) (by simp; omega) H)
theorem applyC_ac (t : Term) (hb : t.bulk ≤ 1000000) (H : List AObj) : ACall Tryd.prog 31 [.sl .none (encL encBd (renamingP [120] (firstP t []))), encT t] H (fun r H' => r = encT (canonP t) ∧ H' = H) := by
  have hs := t.size_le
  have hf := firstP_len t []
  have hl : (renamingP [120] (firstP t [])).length < 1099511627776 := by
    have h1 := renA_len [120] (firstP t []) (sortedP (firstP t []))
    have h2 := sortedP_len (firstP t [])
    have h3 : (sortedP (firstP t [])).length * (firstP t []).length ≤ 1000000 * 1000000 := Nat.mul_le_mul (by simp at hf; omega) (by simp at hf; omega)
    have h4 : renamingP [120] (firstP t []) = renA [120] (firstP t []) (sortedP (firstP t [])) := rfl
    rw [h4]; omega
  have := applyR_ac _ hl t (by omega) H
  rw [canon_apply] at this
  exact this
theorem renaming0_ac (t : Term) (hb : t.bulk ≤ 1000000) (H : List AObj) : ACall Tryd.prog 54 [.sl .none (encN (firstP t [])), .str [120]] H (fun r H' => r = .sl .none (encL encBd (renamingP [120] (firstP t []))) ∧ H' = H) := by
  have hs := t.size_le
  have hf := firstP_len t []
  refine renaming_ac [120] (firstP t []) (by simp at hf; omega) (by simp) (fun x hx => ?_) H
  rcases name_le_bulk t [] x hx with h | h
  · cases h
  · omega
end Ab
namespace Ab
open Go Go.Proofs
theorem zeroT_bulk : zeroT.bulk = 1 := by simp [zeroT, Term.bulk_mk]
end Ab
set_option maxRecDepth 10000
namespace Ab
open Go Go.Proofs
theorem isP_bad (w : Term) (e : Int) (h : e ≠ 0) : isP zeroT e w e = true := by simp [isP, h]
theorem isP_ok (w : Term) : isP w 0 w 0 = true := by simp [isP]
end Ab
set_option maxRecDepth 10000
namespace Ab
open Go Go.Proofs
theorem mem_first (v : List UInt8) (t : Term) : ∀ l, v ∈ firstP t l → v ∈ l ∨ 0 < countP v t := by
  induction t using Term.ind with | _ n u xs ih
  intro l h
  rw [firstP_mk] at h
  rw [countP_mk]
  have hb := counts_bound v xs
  cases u with
  | true =>
    simp only [if_true] at h
    split at h
    · exact .inl h
    · rcases List.mem_append.1 h with h | h
      · exact .inl h
      · rw [List.mem_singleton] at h; subst h; right; simp [oneP]; omega
  | false =>
    simp only [Bool.false_eq_true, if_false] at h
    have : ∀ ys : List Term, (∀ y, y ∈ ys → y ∈ xs) → ∀ l, v ∈ firstL ys l → v ∈ l ∨ 0 < (ys.map (countP v)).sum := by
      intro ys
      induction ys with
      | nil => intro _ l h; exact .inl h
      | cons y ys ih2 =>
        intro hy l h
        have b1 := countP_bound v y
        have b2 := counts_bound v ys
        rw [firstL_cons] at h
        simp only [List.map_cons, List.sum_cons]
        rcases ih2 (fun z hz => hy z (by simp [hz])) _ h with h | h
        · rcases ih y (hy y (by simp)) l h with h | h
          · exact .inl h
          · right; omega
        · right; omega
    rcases this xs (fun y hy => hy) l h with h | h
    · exact .inl h
    · right; simp [oneP]; omega
theorem image_all (f : List UInt8 → List UInt8) (v : List UInt8) : ∀ L : List (List UInt8), v ∈ L → imageP (L.map fun v => (v, Term.mk (f v) true [])) v = .mk (f v) true []
  | [], h => by cases h
  | a :: L, h => by
    unfold imageP
    rw [List.map_cons, List.find?_cons]
    by_cases e : a = v
    · subst e; simp
    · have hv : v ∈ L := by rcases List.mem_cons.1 h with h | h; exact absurd h.symm e; exact h
      have := image_all f v L hv
      unfold imageP at this
      simp only [e, decide_false]
      exact this
def sfx (s : List UInt8) (L : List (List UInt8)) : List (List UInt8 × Term) := L.map fun v => (v, .mk (v ++ s) true [])
theorem sfx_nil (s : List UInt8) : sfx s [] = [] := (rfl)
theorem sfx_take (s : List UInt8) (L : List (List UInt8)) (i : Nat) (h : i < L.length) : sfx s (L.take (i + 1)) = sfx s (L.take i) ++ [(L[i], .mk (L[i] ++ s) true [])] := by
  unfold sfx; rw [List.take_succ_eq_append_getElem h, List.map_append]; rfl
theorem sfx_len (s : List UInt8) (L : List (List UInt8)) : (sfx s L).length = L.length := by simp [sfx]
theorem apply_sfx (s : List UInt8) (t : Term) : applyP (sfx s (varsP [t])) t = mapV (fun v => v ++ s) t := by
  refine apply_map t [] (fun v hv => image_all (fun v => v ++ s) v _ ?_)
  rcases mem_first v t [] hv with h | h
  · cases h
  · exact (mem_foldC v [t] []).2 (.inr ⟨t, by simp, h⟩)
theorem canonR_ac (t : Term) (hb : t.bulk ≤ 1000000) (H : List AObj) : ACall Tryd.prog 27 [encT t] H (fun r H' => r = encT (canonP t) ∧ H' = H) := by
  refine ACall_V (H.length) 7 [.cell 2 24] Tryd.func27 rfl rfl rfl ?_
  simp only [push_cast, Nat.reduceAdd, Nat.reduceSub, Nat.reduceMul, Nat.reduceLT, Nat.reduceLeDiff, Nat.reduceEqDiff, Int.reduceToNat, ↓reduceIte]
  apply AW_drawE [some 3, some 4, some 5, some 6, some 7, none] [([false], _), ([true], _)] [none, none, none, none, none, some 0] 1 [(0, [false], [1]), (1, [false], [3]), (2, [false], [4]), (3, [false], [1]), (4, [false], [5, 0]), (5, [false], [2, 4])] [_, _, _, _, _, _]
  case' hm => exact dr
  case' hn => rfl
  case' hok => rfl
  case' hlen => rfl
  case' hd => rfl
  case' h0 => rfl
  case' hstep =>
   simp only [DAllG, push_cast, Option.isSome_some, Option.isSome_none]
   repeat' apply And.intro
   all_goals (apply DOne_V; simp only [push_cast, Nat.reduceAdd, Nat.reduceSub, Nat.reduceMul, Nat.reduceLT, Nat.reduceLeDiff, Nat.reduceEqDiff, Int.reduceToNat, ↓reduceIte] <;> first | exact rfl | omega | exact ⟨rfl, rfl⟩ | exact trivial | exact ⟨by omega, rfl⟩ | exact ⟨by omega, by omega, rfl⟩ | exact ⟨by omega, rfl, rfl⟩ | exact ⟨by omega, by omega, rfl, rfl⟩ | exact (first0_ac t hb _).to ⟨rfl, rfl⟩ | exact (renaming0_ac t hb _).to ⟨rfl, rfl⟩ | exact (applyC_ac t hb _).to ⟨rfl, rfl⟩)
  case' hQ => skip
  simp only [push_cast, Nat.reduceAdd, Nat.reduceSub, Nat.reduceMul, Nat.reduceLT, Nat.reduceLeDiff, Nat.reduceEqDiff, Int.reduceToNat, ↓reduceIte]
theorem mapV_bulk (s : List UInt8) (t : Term) : (mapV (fun v => v ++ s) t).bulk ≤ t.bulk * (1 + s.length) := by
  induction t using Term.ind with | _ n v xs ih
  rw [mapV_mk]
  cases v with
  | true =>
    simp only [if_true]
    rw [Term.bulk_mk, Term.bulk_mk]
    simp only [List.map_nil, List.sum_nil, List.length_append]
    have h1 : s.length ≤ (1 + n.length + (xs.map Term.bulk).sum) * s.length := Nat.le_mul_of_pos_left _ (by omega)
    rw [Nat.mul_add, Nat.mul_one]; omega
  | false =>
    simp only [Bool.false_eq_true, if_false]
    rw [Term.bulk_mk, Term.bulk_mk, List.map_map]
    have : ∀ ys : List Term, (∀ y, y ∈ ys → y ∈ xs) → (ys.map (Term.bulk ∘ mapV fun v => v ++ s)).sum ≤ (ys.map Term.bulk).sum * (1 + s.length) := by
      intro ys
      induction ys with
      | nil => intro _; simp
      | cons y ys ih2 =>
        intro hy
        have h1 := ih y (hy y (by simp))
        have h2 := ih2 (fun z hz => hy z (by simp [hz]))
        simp only [List.map_cons, List.sum_cons, Nat.add_mul, Function.comp_apply] at h1 h2 ⊢
        omega
    have h := this xs (fun y hy => hy)
    rw [Nat.add_mul, Nat.add_mul]
    have h3 : n.length ≤ n.length * (1 + s.length) := Nat.le_mul_of_pos_right _ (by omega)
    omega
theorem names_ac (hit : ∀ i H, i < 1099511627776 → ACall Tryd.prog 92 [.int .i64 (i : Nat)] H (fun r H' => r = .str (Lib.decDigits i) ∧ H' = H)) (s : List UInt8) (t : Term) (hsum : t.bulk + s.length ≤ 1048576) (H : List AObj) :
    ACall Tryd.prog 6 [.str s, encT t] H (fun r H' => r = .bool true ∧ H' = H) := by
  have hit2 : ∀ i H, i < 4000 → ACall Tryd.prog 92 [.int .i64 (i : Nat)] H (fun r H' => r = .str (Lib.decDigits i) ∧ H' = H) := fun i H h => hit i H (by omega)
  have hit3 : ∀ i H, i < 100 → ACall Tryd.prog 92 [.int .i64 (i : Nat)] H (fun r H' => r = .str (Lib.decDigits i) ∧ H' = H) := fun i H h => hit i H (by omega)
  have hd : ∀ i, i < 4000 → (Lib.decDigits i).length ≤ 1099511627775 := fun i h => by have := dec_len 4 i (by omega); omega
  have hc := fun H => canonical_ac 4000 hit2 (by decide) hd t (by omega) (fun h => (check_bulk h).2) H
  have hren := fun H => rename_ac t s (by omega) (by omega) H
  obtain ⟨z, hzz⟩ : ∃ z, z = zeroT := ⟨_, rfl⟩
  have hz : z.bulk = 1 := by rw [hzz]; exact zeroT_bulk
  have hbad : ∀ w e, e ≠ 0 → isP z e w e = true := fun w e h => by rw [hzz]; exact isP_bad w e h
  have hsz := t.size_le
  refine ACall_V (H.length) 109 [.tmp 4] Tryd.func6 rfl rfl rfl ?_
  simp only [push_cast, Nat.reduceAdd, Nat.reduceSub, Nat.reduceMul, Nat.reduceLT, Nat.reduceLeDiff, Nat.reduceEqDiff, Int.reduceToNat, ↓reduceIte]
  refine (isName_ac s false _ (by omega)).to ?_
  simp only [push_cast, Nat.reduceAdd, Nat.reduceSub, Nat.reduceMul, Nat.reduceLT, Nat.reduceLeDiff, Nat.reduceEqDiff, Int.reduceToNat, ↓reduceIte]
  refine (isNameR_ac s false (by omega) _).to ?_
  simp only [push_cast, Nat.reduceAdd, Nat.reduceSub, Nat.reduceMul, Nat.reduceLT, Nat.reduceLeDiff, Nat.reduceEqDiff, Int.reduceToNat, ↓reduceIte, beq_self_eq_true, Bool.not_true, bne_self_eq_false, decide_true]
  refine (isName_ac s true _ (by omega)).to ?_
  simp only [push_cast, Nat.reduceAdd, Nat.reduceSub, Nat.reduceMul, Nat.reduceLT, Nat.reduceLeDiff, Nat.reduceEqDiff, Int.reduceToNat, ↓reduceIte]
  refine (isNameR_ac s true (by omega) _).to ?_
  simp only [push_cast, Nat.reduceAdd, Nat.reduceSub, Nat.reduceMul, Nat.reduceLT, Nat.reduceLeDiff, Nat.reduceEqDiff, Int.reduceToNat, ↓reduceIte, beq_self_eq_true, Bool.not_true, bne_self_eq_false, decide_true]
  refine (hren _).to ?_
  by_cases ht : checkP t = 0
  · obtain ⟨r, e, hre⟩ : ∃ r e, renameE t s = (r, e) := ⟨_, _, rfl⟩
    have hr4 : ¬ s.all inNameB = true → r = z ∧ e = 4 := fun h => by
      have : renameE t s = (z, 4) := by unfold renameE; rw [if_pos ht, if_neg h, hzz]
      rw [hre] at this; exact Prod.mk.inj this
    have hr3 : s.all inNameB = true → tooLong s (varsP [t]) = true → r = z ∧ e = 3 := fun h h2 => by
      have : renameE t s = (z, 3) := by unfold renameE; rw [if_pos ht, if_pos h, if_pos h2, hzz]
      rw [hre] at this; exact Prod.mk.inj this
    have hr0 : s.all inNameB = true → ¬ tooLong s (varsP [t]) = true → r = mapV (fun v => v ++ s) t ∧ e = 0 := fun h h2 => by
      have : renameE t s = (mapV (fun v => v ++ s) t, 0) := by unfold renameE; rw [if_pos ht, if_pos h, if_neg h2]
      rw [hre] at this; exact Prod.mk.inj this
    have hmb := mapV_bulk s t
    have hmb2 := small_mul hsum
    have hcb := (check_bulk (canon_check ht)).1
    have hcr := fun H => canonR_ac t (by have := (check_bulk ht).1; omega) H
    rw [if_pos ht] at hc
    rw [hre]
    obtain ⟨c, hcc⟩ : ∃ c, c = canonP t := ⟨_, rfl⟩
    rw [← hcc] at hcb hcr hc
    have hio := isP_ok c
    simp only [push_cast, Nat.reduceAdd, Nat.reduceSub, Nat.reduceMul, Nat.reduceLT, Nat.reduceLeDiff, Nat.reduceEqDiff, Int.reduceToNat, ↓reduceIte]
    refine (hc _).to ?_
    simp only [push_cast, Nat.reduceAdd, Nat.reduceSub, Nat.reduceMul, Nat.reduceLT, Nat.reduceLeDiff, Nat.reduceEqDiff, Int.reduceToNat, ↓reduceIte]
    refine (checkR_ac t (by omega) _).to ?_
    simp only [push_cast, Nat.reduceAdd, Nat.reduceSub, Nat.reduceMul, Nat.reduceLT, Nat.reduceLeDiff, Nat.reduceEqDiff, Int.reduceToNat, ↓reduceIte, ht]
    apply AW_drawE [some 55, some 56, some 57, some 58, some 59, some 60] [([], _)] [none, none, none, none, none, none] 0 [(0, [], [7]), (1, [], [8]), (2, [], [3]), (3, [], [57]), (4, [], [55, 0, 1]), (5, [], [59])] [_, _, _, _, _, _]
    case' hm => exact dr
    case' hn => rfl
    case' hok => rfl
    case' hlen => rfl
    case' hd => rfl
    case' h0 => rfl
    case' hstep =>
     simp only [DAllG, push_cast, Option.isSome_some, Option.isSome_none]
     repeat' apply And.intro
     all_goals (apply DOne_V; simp only [push_cast, Nat.reduceAdd, Nat.reduceSub, Nat.reduceMul, Nat.reduceLT, Nat.reduceLeDiff, Nat.reduceEqDiff, Int.reduceToNat, ↓reduceIte, hio] <;> first | exact rfl | omega | exact ⟨rfl, rfl⟩ | exact trivial | exact ⟨by omega, rfl⟩ | exact ⟨by omega, by omega, rfl⟩ | exact ⟨by omega, rfl, rfl⟩ | exact ⟨by omega, by omega, rfl, rfl⟩ | exact (hcr _).to ⟨rfl, rfl⟩ | exact (is_ac c 0 c 0 (by omega) (by omega) _).to ⟨rfl, rfl⟩)
    case' hQ => skip
    simp only [push_cast, Nat.reduceAdd, Nat.reduceSub, Nat.reduceMul, Nat.reduceLT, Nat.reduceLeDiff, Nat.reduceEqDiff, Int.reduceToNat, ↓reduceIte, hio, Bool.not_true]
    refine (letters_ac s (by omega) _).to ?_
    simp only [push_cast, Nat.reduceAdd, Nat.reduceSub, Nat.reduceMul, Nat.reduceLT, Nat.reduceLeDiff, Nat.reduceEqDiff, Int.reduceToNat, ↓reduceIte]
    refine cI (fun hn => ?_) (fun hn => ?_)
    · have hv1 := varsR_ac [t] (by simp) (by simp; omega) (by simp; omega)
      rw [encTs_cons, encTs_nil] at hv1
      have hvl : (varsP [t]).length ≤ t.size := by have := foldC_length [t] []; simpa [foldC, varsP] using this
      have hvb : ∀ v, v ∈ varsP [t] → v.length ≤ t.bulk := fun v hv => by
        rcases (mem_foldC v [t] []).1 hv with h | ⟨x, hx, h⟩
        · cases h
        · rw [List.mem_singleton] at hx; subst hx; exact count_len v x h
      have happ := apply_sfx s t
      refine (hv1 _).to ?_
      obtain ⟨L, hL⟩ : ∃ L, L = varsP [t] := ⟨_, rfl⟩
      rw [← hL] at hvl hvb happ hr3 hr0 ⊢
      simp only [push_cast, Nat.reduceAdd, Nat.reduceSub, Nat.reduceMul, Nat.reduceLT, Nat.reduceLeDiff, Nat.reduceEqDiff, Int.reduceToNat, ↓reduceIte]
      refine AW_reserve 1 ?_
      refine AW_loopW (maskG 111 [0, 2, 1, 0, 3, 62, 0, 0]) (fun (i : Nat) => [(10, gSl (H.length + 3) (encL encBd (sfx s (L.take i)))), (75, .int .i64 i)]) (fun i => H ++ [.cells [.str t.name, .bool t.var, .sl .none (encTs t.args)], .cells [.str r.name, .bool r.var, .sl .none (encTs r.args)], .cells [.str c.name, .bool c.var, .sl .none (encTs c.args)], gTok 57 4 (encL encBd (sfx s (L.take i)))]) (fun i => i ≤ L.length ∧ tooLong s (L.take i) = false) (fun i => L.length - i) 0 ⟨Nat.zero_le _, by simp [tooLong]⟩ (by simp only [push_cast, Nat.reduceAdd, Nat.reduceSub, Nat.reduceMul, Nat.reduceLT, Nat.reduceLeDiff, Nat.reduceEqDiff, Int.reduceToNat, ↓reduceIte, List.take_zero, sfx_nil]) (fun i hi => ?_)
      simp only [push_cast, Nat.reduceAdd, Nat.reduceSub, Nat.reduceMul, Nat.reduceLT, Nat.reduceLeDiff, Nat.reduceEqDiff, Int.reduceToNat, ↓reduceIte]
      refine cI (fun hx => ?_) (fun hx => ?_)
      · repeat refine ⟨by omega, ?_⟩
        have hil : i < L.length := by omega
        have hli := hvb _ (List.getElem_mem hil)
        repeat refine ⟨by omega, ?_⟩
        refine cI (fun hq => ?_) (fun hq => ?_)
        · have hT : tooLong s L = true := by
            unfold tooLong; rw [List.any_eq_true]
            exact ⟨L[i]'hil, List.getElem_mem hil, by simp; omega⟩
          obtain ⟨rfl, rfl⟩ := hr3 hn hT
          refine (is_ac r 3 t 3 (by omega) (by omega) _).to ?_
          simp only [push_cast, Nat.reduceAdd, Nat.reduceSub, Nat.reduceMul, Nat.reduceLT, Nat.reduceLeDiff, Nat.reduceEqDiff, Int.reduceToNat, ↓reduceIte, hbad t 3 (by decide)]
          refine (alive_ac hit3 _).to ?_
          simp only [push_cast, Nat.reduceAdd, Nat.reduceSub, Nat.reduceMul, Nat.reduceLT, Nat.reduceLeDiff, Nat.reduceEqDiff, Int.reduceToNat, ↓reduceIte]
        · repeat refine ⟨by omega, ?_⟩
          refine (variable_ac _ _).to ?_
          simp only [push_cast, Nat.reduceAdd, Nat.reduceSub, Nat.reduceMul, Nat.reduceLT, Nat.reduceLeDiff, Nat.reduceEqDiff, Int.reduceToNat, ↓reduceIte]
          have hsl := sfx_len s (L.take i)
          rw [List.length_take] at hsl
          refine app1_L encBd (sz := 4) (fun _ => rfl) cellBd _ (H.length + 3) (sfx s (L.take i)) (L[i]'hil, .mk (L[i]'hil ++ s) true []) _ rfl (by simp only [push_cast, Nat.reduceAdd, Nat.reduceSub, Nat.reduceMul, Nat.reduceLT, Nat.reduceLeDiff, Nat.reduceEqDiff, Int.reduceToNat, ↓reduceIte]; rfl) (by exact (agetN _ _ 3).trans rfl) sl52 sz57 by57 zr57 rfl (by decide) (by decide) (by omega) ?_
          rw [← sfx_take s L i hil]
          simp only [push_cast, Nat.reduceAdd, Nat.reduceSub, Nat.reduceMul, Nat.reduceLT, Nat.reduceLeDiff, Nat.reduceEqDiff, Int.reduceToNat, ↓reduceIte]
          repeat' first | refine ⟨by omega, ?_⟩ | refine cI (fun _ => ?_) (fun _ => ?_)
          refine loopW_n (i + 1) ⟨by omega, ?_⟩ (by omega) (by simp only [push_cast, Nat.reduceAdd, Nat.reduceSub, Nat.reduceMul, Nat.reduceLT, Nat.reduceLeDiff, Nat.reduceEqDiff, Int.reduceToNat, ↓reduceIte])
          have h2 := hi.2
          unfold tooLong at h2 ⊢
          rw [List.take_succ_eq_append_getElem hil, List.any_append, h2]
          simp; omega
      · have hT := hi.2
        rw [List.take_of_length_le (show L.length ≤ i by omega)] at hT
        obtain ⟨hr, he⟩ := hr0 hn (by rw [hT]; simp)
        subst he
        rw [List.take_of_length_le (show L.length ≤ i by omega)]
        have hap := fun H => applyR_ac (sfx s L) (by rw [sfx_len]; omega) t (by omega) H
        rw [happ, ← hr] at hap
        rw [← hr] at hmb
        have hap2 : ∀ H k, ACall Tryd.prog 31 [gSl k (encL encBd (sfx s L)), encT t] H (fun q H' => q = encT r ∧ H' = H) := fun H k => ACall.forget (args' := [.sl .none (encL encBd (sfx s L)), encT t]) ⟨gSl_forget _ _, Forget.refl _, trivial⟩ (hap H)
        have hir := isP_ok r
        apply AW_drawE [some 102, some 103, some 104, some 105, some 106, some 107, some 108, some 109, some 110, some 4] [([], _)] [none, none, none, none, none, none, none, none, none, none] 0 [(0, [], [5]), (1, [], [6]), (2, [], [10]), (3, [], [3]), (4, [], [104, 0]), (5, [], [102, 0, 2]), (6, [], [107]), (7, [], [108]), (8, [], [108, 0]), (9, [], [110])] [_, _, _, _, _, _, _, _, _, _]
        case' hm => exact dr
        case' hn => rfl
        case' hok => rfl
        case' hlen => rfl
        case' hd => rfl
        case' h0 => rfl
        case' hstep =>
         simp only [DAllG, push_cast, Option.isSome_some, Option.isSome_none]
         repeat' apply And.intro
         all_goals (apply DOne_V; simp only [push_cast, Nat.reduceAdd, Nat.reduceSub, Nat.reduceMul, Nat.reduceLT, Nat.reduceLeDiff, Nat.reduceEqDiff, Int.reduceToNat, ↓reduceIte, hir] <;> first | exact rfl | omega | exact ⟨rfl, rfl⟩ | exact trivial | exact ⟨by omega, rfl⟩ | exact ⟨by omega, by omega, rfl⟩ | exact ⟨by omega, rfl, rfl⟩ | exact ⟨by omega, by omega, rfl, rfl⟩ | exact (hap2 _ _).to ⟨rfl, rfl⟩ | exact (is_ac r 0 r 0 (by omega) (by omega) _).to ⟨rfl, rfl⟩ | exact (alive_ac hit3 _).to ⟨rfl, rfl⟩)
        case' hQ => skip
        simp only [push_cast, Nat.reduceAdd, Nat.reduceSub, Nat.reduceMul, Nat.reduceLT, Nat.reduceLeDiff, Nat.reduceEqDiff, Int.reduceToNat, ↓reduceIte]
    · obtain ⟨rfl, rfl⟩ := hr4 hn
      refine (is_ac r 4 t 4 (by omega) (by omega) _).to ?_
      simp only [push_cast, Nat.reduceAdd, Nat.reduceSub, Nat.reduceMul, Nat.reduceLT, Nat.reduceLeDiff, Nat.reduceEqDiff, Int.reduceToNat, ↓reduceIte, hbad t 4 (by decide)]
      refine (alive_ac hit3 _).to ?_
      simp only [push_cast, Nat.reduceAdd, Nat.reduceSub, Nat.reduceMul, Nat.reduceLT, Nat.reduceLeDiff, Nat.reduceEqDiff, Int.reduceToNat, ↓reduceIte]
  · have e1 : renameE t s = (z, checkP t) := by unfold renameE; rw [if_neg ht, hzz]
    rw [e1]
    simp only [push_cast, Nat.reduceAdd, Nat.reduceSub, Nat.reduceMul, Nat.reduceLT, Nat.reduceLeDiff, Nat.reduceEqDiff, Int.reduceToNat, ↓reduceIte]
    refine (hc _).to ?_
    rw [if_neg ht, ← hzz]
    simp only [push_cast, Nat.reduceAdd, Nat.reduceSub, Nat.reduceMul, Nat.reduceLT, Nat.reduceLeDiff, Nat.reduceEqDiff, Int.reduceToNat, ↓reduceIte]
    refine (checkR_ac t (by omega) _).to ?_
    simp only [push_cast, Nat.reduceAdd, Nat.reduceSub, Nat.reduceMul, Nat.reduceLT, Nat.reduceLeDiff, Nat.reduceEqDiff, Int.reduceToNat, ↓reduceIte, ht]
    refine (is_ac z (checkP t) t (checkP t) (by omega) (by omega) _).to ?_
    simp only [push_cast, Nat.reduceAdd, Nat.reduceSub, Nat.reduceMul, Nat.reduceLT, Nat.reduceLeDiff, Nat.reduceEqDiff, Int.reduceToNat, ↓reduceIte, hbad t _ ht]
    refine (is_ac z (checkP t) t (checkP t) (by omega) (by omega) _).to ?_
    simp only [push_cast, Nat.reduceAdd, Nat.reduceSub, Nat.reduceMul, Nat.reduceLT, Nat.reduceLeDiff, Nat.reduceEqDiff, Int.reduceToNat, ↓reduceIte, hbad t _ ht]
    refine (alive_ac hit3 _).to ?_
    simp only [push_cast, Nat.reduceAdd, Nat.reduceSub, Nat.reduceMul, Nat.reduceLT, Nat.reduceLeDiff, Nat.reduceEqDiff, Int.reduceToNat, ↓reduceIte]
end Ab
set_option maxRecDepth 10000
namespace Go.Proofs.YtakpnikkcinckaaDoor
open Go Ab
namespace nms
theorem own : ownKnob Tryd.prog.godebug = none := by kernel_rfl
theorem laid : laidOutB Tryd.prog = true := by kernel_rfl
theorem readable : ∀ t, t ∈ Tryd.f6.params.toList → Tryd.prog.readableRec t = true ∧ t < Tryd.prog.types.size := by
  rw [Tryd.params6]; intro t ht
  simp only [List.mem_cons, List.not_mem_nil, or_false] at ht
  rcases ht with rfl | rfl <;> exact ⟨by kernel_rfl, of_decide_eq_true (by kernel_rfl)⟩
theorem closed : closedK Tryd.prog [9, 24, 4, 22] = true := by kernel_rfl
theorem contract (H : Type) (enc : TypeId × Value → H) (W : World) (base : Nat) (args : Array Value) (ds gs : List (DataW H)) (before : List MemPlace)
    (hval : ∀ (j : Nat) t v, Tryd.f6.params[j]? = some t → args[j]? = some v → Value.okWide Tryd.prog W .any base t v)
    (hW : DataW.Whole enc Tryd.prog Tryd.f6.params.toList Rows.termNamesSpec.vars false W args.toList ds gs before) (hk : Rows.uptoSmall H (ds ++ gs) = true) (hl : laidMetH Tryd.prog Rows.termNamesUptoRow.laid W) :
    Calls Tryd.prog 6 args W fun e W' => ∃ v, e = .returned v ∧ Rows.termNamesSpec.post enc Tryd.prog Tryd.f6 false true false false W args v W' := by
  have hW' := hW
  obtain ⟨p, q, hA0, hV, rfl, hfz, hnd⟩ := hW
  have hA : DataW.TrodAll enc Tryd.prog W 0 (fun _ => true) true Tryd.f6.params.toList args.toList ds p := hA0
  rw [Tryd.params6] at hA hval
  obtain ⟨v0, vs0, d0, ds0, p0, q0, hargs, rfl, rfl, h0, r0⟩ := ChangeShapes.trodAll_cons hA
  obtain ⟨v1, vs1, d1, ds1, p1, q1, rfl, rfl, rfl, h1, r1⟩ := ChangeShapes.trodAll_cons r0
  obtain ⟨rfl, rfl, rfl⟩ := ChangeShapes.trodAll_nil r1
  obtain rfl : args = #[v0, v1] := by cases args; simp_all
  have hg : gs = [] := by cases gs with | nil => rfl | cons _ _ => exact hV.elim
  subst hg
  have hb : Rows.uptoBulk d0 + Rows.uptoBulk d1 ≤ 1048576 := by
    have := of_decide_eq_true hk
    simp only [List.cons_append, List.nil_append, List.append_nil, Rows.uptoBulkAll] at this
    omega
  obtain ⟨n0, a0, e0, x0⟩ := arg_string closed (by decide) Tryd.underlying9 (hval 0 _ v0 rfl rfl) h0
  obtain ⟨n1, a1, e1, x1⟩ := arg_struct closed (by decide) Tryd.underlying24 (hval 1 _ v1 rfl rfl) h1
  obtain ⟨s, rfl, f0⟩ := toAV_str kdStr e0
  obtain ⟨t, f1, b2⟩ := term_form n1 d1 a1 e1
  have b1 : Rows.uptoBulk (H := H) (.lit (.string s)) = s.length + 1 := by simp only [Rows.uptoBulk]
  try simp only [List.cons.injEq, and_true] at f0
  rw [f0] at x0; rw [f1] at x1
  have hc := law_calls (args := #[v0, v1]) (avs := [.str s, encT t]) (W := W) (names_ac (fun i H hi => itoa_ac i H hi) s t (by omega) []) (tabW_of hl) rfl (fun i hi hi' => by
    match i, hi with
    | 0, _ => exact x0
    | 1, _ => exact x1)
  refine hc.mono fun e W' ⟨he, hbl⟩ => ?_
  subst he
  exact ⟨_, rfl, post_law rfl ⟨rfl, rfl, rfl⟩ hW' hbl rfl Tryd.underlying4 laid readable⟩
noncomputable def laidWorld (os : Os) : World := { World.holding Tryd.prog os ⟨#[], #[], []⟩ with heap := ((((World.holding Tryd.prog os ⟨#[], #[], []⟩).heap).modify 2 (fun | .cells _ t fz => .cells #[.int .u8 0, .int .u8 1, .int .u8 28, .int .u8 2, .int .u8 29, .int .u8 14, .int .u8 24, .int .u8 3, .int .u8 30, .int .u8 22, .int .u8 20, .int .u8 15, .int .u8 25, .int .u8 17, .int .u8 4, .int .u8 8, .int .u8 31, .int .u8 27, .int .u8 13, .int .u8 23, .int .u8 21, .int .u8 19, .int .u8 16, .int .u8 7, .int .u8 26, .int .u8 12, .int .u8 18, .int .u8 6, .int .u8 11, .int .u8 5, .int .u8 10, .int .u8 9] t fz | o => o)).modify 3 (fun | .cells _ t fz => .cells #[.int .u8 0, .int .u8 1, .int .u8 56, .int .u8 2, .int .u8 57, .int .u8 49, .int .u8 28, .int .u8 3, .int .u8 61, .int .u8 58, .int .u8 42, .int .u8 50, .int .u8 38, .int .u8 29, .int .u8 17, .int .u8 4, .int .u8 62, .int .u8 47, .int .u8 59, .int .u8 36, .int .u8 45, .int .u8 43, .int .u8 51, .int .u8 22, .int .u8 53, .int .u8 39, .int .u8 33, .int .u8 30, .int .u8 24, .int .u8 18, .int .u8 12, .int .u8 5, .int .u8 63, .int .u8 55, .int .u8 48, .int .u8 27, .int .u8 60, .int .u8 41, .int .u8 37, .int .u8 16, .int .u8 46, .int .u8 35, .int .u8 44, .int .u8 21, .int .u8 52, .int .u8 32, .int .u8 23, .int .u8 11, .int .u8 54, .int .u8 26, .int .u8 40, .int .u8 15, .int .u8 34, .int .u8 20, .int .u8 31, .int .u8 10, .int .u8 25, .int .u8 14, .int .u8 19, .int .u8 9, .int .u8 13, .int .u8 8, .int .u8 7, .int .u8 6] t fz | o => o)).modify 1 (fun | .cells _ t fz => .cells #[.int .u64 1, .int .u64 10, .int .u64 100, .int .u64 1000, .int .u64 10000, .int .u64 100000, .int .u64 1000000, .int .u64 10000000, .int .u64 100000000, .int .u64 1000000000, .int .u64 10000000000, .int .u64 100000000000, .int .u64 1000000000000, .int .u64 10000000000000, .int .u64 100000000000000, .int .u64 1000000000000000, .int .u64 10000000000000000, .int .u64 100000000000000000, .int .u64 1000000000000000000, .int .u64 10000000000000000000] t fz | o => o) }
set_option maxRecDepth 100000 in
theorem laid_met (os : Os) : laidMet Tryd.prog Rows.termNamesUptoRow.laid ((laidWorld os).forCall (fun _ _ => 0) ⟨#[], #[.string ⟨#[]⟩, .agg #[.string ⟨#[]⟩, .bool false, .slice none 0 0]], []⟩).memory :=
  laidMet_of_run' 80 (by kernel_rfl) (by kernel_rfl)
set_option maxRecDepth 100000 in
theorem reads (os : Os) {H : Type} (enc : TypeId × Value → H) : ∃ places, DataW.whole enc Tryd.prog ((laidWorld os).forCall (fun _ _ => 0) ⟨#[], #[.string ⟨#[]⟩, .agg #[.string ⟨#[]⟩, .bool false, .slice none 0 0]], []⟩).memory Tryd.f6.params.toList (Rows.OpenSpec.upto Rows.termNamesSpec).vars false #[.string ⟨#[]⟩, .agg #[.string ⟨#[]⟩, .bool false, .slice none 0 0]].toList 8 = some ([.lit (.string []), .agg [.lit (.string []), .lit (.bool false), .nil]], [], places) := ⟨[], by kernel_rfl⟩
set_option maxRecDepth 100000 in
theorem lifted (os : Os) (started : os.Started) (H : Type) (enc : TypeId × Value → H) (F : Stop.Interp) :
    ReturnsInHanded {} Tryd.checked os 6 .any ((Rows.OpenSpec.upto Rows.termNamesSpec).preRow enc Tryd.prog Tryd.f6 Rows.termNamesUptoRow.domain false Rows.termNamesUptoRow.laid) (((Rows.OpenSpec.upto Rows.termNamesSpec).at F).post enc Tryd.prog Tryd.f6 false true false false) := by
  obtain ⟨places, hx⟩ := reads os enc
  refine returnsInHanded_of_row (C := Tryd.checked) (s := Rows.OpenSpec.upto Rows.termNamesSpec) own started (by kernel_rfl) Tryd.func6
    (witness_row_at (enc := enc) (C := Tryd.checked) false (laidWorld os) #[.string ⟨#[]⟩, .agg #[.string ⟨#[]⟩, .bool false, .slice none 0 0]] rfl (by kernel_rfl) (by kernel_rfl) (by kernel_rfl)
      (OpenSpec.preRow_of_cond 8 hx (by kernel_rfl) (fun k hk => by cases hk; kernel_rfl) (by kernel_rfl) (laid_met os))) ?_
  intro W base args ds gs before hval hW _ hk _ hl _ _
  exact contract H enc W base args ds gs before hval hW (hk _ rfl) hl
theorem over : Rows.TermNamesUptoSaid :=
  OpenClaim.holds_of_cond 6 Tryd.f6 rfl rfl rfl rfl rfl rfl rfl ⟨rfl, rfl, rfl, rfl, rfl⟩ rfl rfl rfl rfl rfl (by kernel_rfl) Tryd.func6 (by kernel_rfl)
    (of_decide_eq_true (by kernel_rfl)) (by unfold Func.isWrapper; first | (rw [if_pos (by decide +kernel)]; kernel_rfl) | (rw [if_neg (by decide +kernel)]; exact ⟨rfl, rfl⟩))
    (fun os started H enc _ F => by rw [OpenClaim.pre_eq_preRow]; exact lifted os started H enc F)
theorem plain (f : FuncId) (fn : Func) (hf : Tryd.pinned.checked.prog.funcNamed "dwindle/dwindlelaw01.TermNames" = some f) (hfn : Tryd.pinned.checked.prog.funcs[f]? = some fn) :
    false = Tryd.pinned.checked.prog.looks [] ∧ ∀ (j : Nat) t, fn.params[j]? = some t → Tryd.pinned.checked.prog.wantsStandIn t = false := by
  obtain rfl : f = 6 := Option.some.inj ((show Tryd.prog.funcNamed "dwindle/dwindlelaw01.TermNames" = some 6 by kernel_rfl).symm.trans hf) |>.symm
  obtain rfl : fn = Tryd.f6 := (Option.some.inj (Tryd.func6.symm.trans hfn)).symm
  refine ⟨by kernel_rfl, fun j t ht => ?_⟩
  rw [Tryd.params6] at ht
  have hm := Array.mem_of_getElem? ht
  simp only [List.mem_toArray, List.mem_cons, List.not_mem_nil, or_false] at hm
  rcases hm with rfl | rfl
  · exact (show Tryd.prog.wantsStandIn 9 = false by kernel_rfl)
  · exact (show Tryd.prog.wantsStandIn 24 = false by kernel_rfl)
end nms
theorem termNames_card : Rows.TermNamesUptoCardSaid :=
  Claim7.holds_tied_plain_at .later [] _ _ _ _ nms.over (fun _ h => by cases h) (by kernel_rfl) (fun _ h => by cases h) termNamesUpto_row_tie rfl ⟨rfl, rfl⟩ (by kernel_rfl) rfl nms.plain (by kernel_rfl)
end Go.Proofs.YtakpnikkcinckaaDoor
