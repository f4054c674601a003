/- Part 4 of 4 of a proof. The law TermInspects, walked region by region and joined to the card. -/
import Derived.Test.YtakpnikkcinckaaDoorDi3
import Derived.Test.YtakpnikkcinckaaDoorCards
import Derived.Test.YtakpnikkcinckaaDoorTie
import Derived.Deep.DeepHandedRow
import Derived.Lib.LaidTab
set_option linter.unusedVariables false
set_option linter.unusedSimpArgs false
set_option maxRecDepth 10000
namespace Ab
open Go Go.Proofs
theorem count_ac (t : Term) (v : List UInt8) : t.bulk ≤ 1099511627775 → ∀ H, ACall Tryd.prog 37 [encT t, .str v] H (fun r H' => r = .int .i64 (countP v t) ∧ H' = H) := by
  induction t using Term.ind with | _ n u xs ih
  intro hb H
  have hlen := Term.len_le (n := n) (v := u) (xs := xs)
  have hsz := (Term.mk n u xs).size_le
  rw [Term.size_mk] at hsz
  rw [countP_mk]
  have hround : ∀ i (h : i < xs.length), ((xs.take (i + 1)).map (countP v)).sum = ((xs.take i).map (countP v)).sum + countP v xs[i] := fun i h => by
    rw [List.take_succ_eq_append_getElem h, List.map_append, List.sum_append]; simp
  have hcb : ∀ i, 0 ≤ ((xs.take i).map (countP v)).sum ∧ ((xs.take i).map (countP v)).sum ≤ 1099511627775 := fun i => by
    have h1 := counts_bound v (xs.take i)
    have h2 := take_sum_le Term.size xs i
    omega
  have hone : oneP v n u = if u = true ∧ n = v then 1 else 0 := rfl
  cases u with
  | true =>
    by_cases hn : n = v
    · have h1 : oneP v n true = 1 := by rw [hone]; simp [hn]
      rw [h1]
      refine ACall_V (H.length) 30 [.tmp 4] Tryd.func37 rfl rfl rfl ?_
      simp only [push_cast, Nat.reduceAdd, Nat.reduceSub, Nat.reduceMul, Nat.reduceLT, Nat.reduceLeDiff, Nat.reduceEqDiff, Int.reduceToNat, ↓reduceIte]
      refine cI (fun _ => ?_) (fun h => absurd hn h)
      repeat refine ⟨by omega, ?_⟩
      refine AW_loopW (maskG 32 [1, 3, 13, 0, 0]) (fun (i : Nat) => [(5, .int .i64 (1 + ((xs.take i).map (countP v)).sum)), (21, .int .i64 i)]) (fun i => H ++ [.cells [.str n, .bool true, .sl .none (encTs xs)]]) (fun i => i ≤ xs.length) (fun i => xs.length - i) 0 (Nat.zero_le _) (by simp only [push_cast, Nat.reduceAdd, Nat.reduceSub, Nat.reduceMul, Nat.reduceLT, Nat.reduceLeDiff, Nat.reduceEqDiff, Int.reduceToNat, ↓reduceIte, List.take_zero, List.map_nil, List.sum_nil]; rfl) (fun i hi => ?_)
      simp only [push_cast, Nat.reduceAdd, Nat.reduceSub, Nat.reduceMul, Nat.reduceLT, Nat.reduceLeDiff, Nat.reduceEqDiff, Int.reduceToNat, ↓reduceIte]
      refine cI (fun h => ?_) (fun h => ?_)
      · repeat refine ⟨by omega, ?_⟩
        refine (ih _ (List.getElem_mem (by omega)) (arg_bulk hb i (by omega)) _).to ?_
        simp only [push_cast, Nat.reduceAdd, Nat.reduceSub, Nat.reduceMul, Nat.reduceLT, Nat.reduceLeDiff, Nat.reduceEqDiff, Int.reduceToNat, ↓reduceIte]
        have g1 := hcb i
        have g2 := hcb (i + 1)
        have g3 := hround i (by omega)
        repeat' first | refine ⟨by omega, ?_⟩ | refine cI (fun _ => ?_) (fun _ => ?_)
        exact loopW_n (i + 1) (by omega) (by omega) (by simp only [push_cast, Nat.reduceAdd, Nat.reduceSub, Nat.reduceMul, Nat.reduceLT, Nat.reduceLeDiff, Nat.reduceEqDiff, Int.reduceToNat, ↓reduceIte, g3, Int.add_assoc])
      · simp only [push_cast, Nat.reduceAdd, Nat.reduceSub, Nat.reduceMul, Nat.reduceLT, Nat.reduceLeDiff, Nat.reduceEqDiff, Int.reduceToNat, ↓reduceIte, List.take_of_length_le (show xs.length ≤ i by omega)]
    · have h1 : oneP v n true = 0 := by rw [hone]; simp [hn]
      rw [h1]
      refine ACall_V (H.length) 30 [.tmp 4] Tryd.func37 rfl rfl rfl ?_
      simp only [push_cast, Nat.reduceAdd, Nat.reduceSub, Nat.reduceMul, Nat.reduceLT, Nat.reduceLeDiff, Nat.reduceEqDiff, Int.reduceToNat, ↓reduceIte]
      refine cI (fun h => absurd h hn) (fun _ => ?_)
      refine AW_loopW (maskG 32 [1, 3, 13, 0, 0]) (fun (i : Nat) => [(5, .int .i64 (((xs.take i).map (countP v)).sum)), (21, .int .i64 i)]) (fun i => H ++ [.cells [.str n, .bool true, .sl .none (encTs xs)]]) (fun i => i ≤ xs.length) (fun i => xs.length - i) 0 (Nat.zero_le _) (by simp only [push_cast, Nat.reduceAdd, Nat.reduceSub, Nat.reduceMul, Nat.reduceLT, Nat.reduceLeDiff, Nat.reduceEqDiff, Int.reduceToNat, ↓reduceIte, List.take_zero, List.map_nil, List.sum_nil]) (fun i hi => ?_)
      simp only [push_cast, Nat.reduceAdd, Nat.reduceSub, Nat.reduceMul, Nat.reduceLT, Nat.reduceLeDiff, Nat.reduceEqDiff, Int.reduceToNat, ↓reduceIte]
      refine cI (fun h => ?_) (fun h => ?_)
      · repeat refine ⟨by omega, ?_⟩
        refine (ih _ (List.getElem_mem (by omega)) (arg_bulk hb i (by omega)) _).to ?_
        simp only [push_cast, Nat.reduceAdd, Nat.reduceSub, Nat.reduceMul, Nat.reduceLT, Nat.reduceLeDiff, Nat.reduceEqDiff, Int.reduceToNat, ↓reduceIte]
        have g1 := hcb i
        have g2 := hcb (i + 1)
        have g3 := hround i (by omega)
        repeat' first | refine ⟨by omega, ?_⟩ | refine cI (fun _ => ?_) (fun _ => ?_)
        exact loopW_n (i + 1) (by omega) (by omega) (by simp only [push_cast, Nat.reduceAdd, Nat.reduceSub, Nat.reduceMul, Nat.reduceLT, Nat.reduceLeDiff, Nat.reduceEqDiff, Int.reduceToNat, ↓reduceIte, g3])
      · simp only [push_cast, Nat.reduceAdd, Nat.reduceSub, Nat.reduceMul, Nat.reduceLT, Nat.reduceLeDiff, Nat.reduceEqDiff, Int.reduceToNat, ↓reduceIte, List.take_of_length_le (show xs.length ≤ i by omega), Int.zero_add]
  | false =>
    have h1 : oneP v n false = 0 := by rw [hone]; simp
    rw [h1]
    refine ACall_V (H.length) 30 [.tmp 4] Tryd.func37 rfl rfl rfl ?_
    simp only [push_cast, Nat.reduceAdd, Nat.reduceSub, Nat.reduceMul, Nat.reduceLT, Nat.reduceLeDiff, Nat.reduceEqDiff, Int.reduceToNat, ↓reduceIte]
    refine AW_loopW (maskG 32 [1, 3, 13, 0, 0]) (fun (i : Nat) => [(5, .int .i64 (((xs.take i).map (countP v)).sum)), (21, .int .i64 i)]) (fun i => H ++ [.cells [.str n, .bool false, .sl .none (encTs xs)]]) (fun i => i ≤ xs.length) (fun i => xs.length - i) 0 (Nat.zero_le _) (by simp only [push_cast, Nat.reduceAdd, Nat.reduceSub, Nat.reduceMul, Nat.reduceLT, Nat.reduceLeDiff, Nat.reduceEqDiff, Int.reduceToNat, ↓reduceIte, List.take_zero, List.map_nil, List.sum_nil]) (fun i hi => ?_)
    simp only [push_cast, Nat.reduceAdd, Nat.reduceSub, Nat.reduceMul, Nat.reduceLT, Nat.reduceLeDiff, Nat.reduceEqDiff, Int.reduceToNat, ↓reduceIte]
    refine cI (fun h => ?_) (fun h => ?_)
    · repeat refine ⟨by omega, ?_⟩
      refine (ih _ (List.getElem_mem (by omega)) (arg_bulk hb i (by omega)) _).to ?_
      simp only [push_cast, Nat.reduceAdd, Nat.reduceSub, Nat.reduceMul, Nat.reduceLT, Nat.reduceLeDiff, Nat.reduceEqDiff, Int.reduceToNat, ↓reduceIte]
      have g1 := hcb i
      have g2 := hcb (i + 1)
      have g3 := hround i (by omega)
      repeat' first | refine ⟨by omega, ?_⟩ | refine cI (fun _ => ?_) (fun _ => ?_)
      exact loopW_n (i + 1) (by omega) (by omega) (by simp only [push_cast, Nat.reduceAdd, Nat.reduceSub, Nat.reduceMul, Nat.reduceLT, Nat.reduceLeDiff, Nat.reduceEqDiff, Int.reduceToNat, ↓reduceIte, g3])
    · simp only [push_cast, Nat.reduceAdd, Nat.reduceSub, Nat.reduceMul, Nat.reduceLT, Nat.reduceLeDiff, Nat.reduceEqDiff, Int.reduceToNat, ↓reduceIte, List.take_of_length_le (show xs.length ≤ i by omega), Int.zero_add]
theorem countR_ac (t : Term) (v : List UInt8) : t.bulk ≤ 1099511627775 → ∀ H, ACall Tryd.prog 38 [encT t, .str v] H (fun r H' => r = .int .i64 (countP v t) ∧ H' = H) := by
  induction t using Term.ind with | _ n u xs ih
  intro hb H
  have hlen := Term.len_le (n := n) (v := u) (xs := xs)
  have hsz := (Term.mk n u xs).size_le
  rw [Term.size_mk] at hsz
  rw [countP_mk]
  have hround : ∀ i (h : i < xs.length), ((xs.take (i + 1)).map (countP v)).sum = ((xs.take i).map (countP v)).sum + countP v xs[i] := fun i h => by
    rw [List.take_succ_eq_append_getElem h, List.map_append, List.sum_append]; simp
  have hcb : ∀ i, 0 ≤ ((xs.take i).map (countP v)).sum ∧ ((xs.take i).map (countP v)).sum ≤ 1099511627775 := fun i => by
    have h1 := counts_bound v (xs.take i)
    have h2 := take_sum_le Term.size xs i
    omega
  have hone : oneP v n u = if u = true ∧ n = v then 1 else 0 := rfl
  cases u with
  | true =>
    by_cases hn : n = v
    · have h1 : oneP v n true = 1 := by rw [hone]; simp [hn]
      rw [h1]
      refine ACall_V (H.length) 28 [.tmp 4] Tryd.func38 rfl rfl rfl ?_
      simp only [push_cast, Nat.reduceAdd, Nat.reduceSub, Nat.reduceMul, Nat.reduceLT, Nat.reduceLeDiff, Nat.reduceEqDiff, Int.reduceToNat, ↓reduceIte]
      refine cI (fun _ => ?_) (fun h => absurd hn h)
      repeat refine ⟨by omega, ?_⟩
      refine AW_loopW (maskG 30 [1, 3, 11, 0, 0]) (fun (i : Nat) => [(5, .int .i64 (1 + ((xs.take i).map (countP v)).sum)), (19, .int .i64 i)]) (fun i => H ++ [.cells [.str n, .bool true, .sl .none (encTs xs)]]) (fun i => i ≤ xs.length) (fun i => xs.length - i) 0 (Nat.zero_le _) (by simp only [push_cast, Nat.reduceAdd, Nat.reduceSub, Nat.reduceMul, Nat.reduceLT, Nat.reduceLeDiff, Nat.reduceEqDiff, Int.reduceToNat, ↓reduceIte, List.take_zero, List.map_nil, List.sum_nil]; rfl) (fun i hi => ?_)
      simp only [push_cast, Nat.reduceAdd, Nat.reduceSub, Nat.reduceMul, Nat.reduceLT, Nat.reduceLeDiff, Nat.reduceEqDiff, Int.reduceToNat, ↓reduceIte]
      refine cI (fun h => ?_) (fun h => ?_)
      · repeat refine ⟨by omega, ?_⟩
        refine (ih _ (List.getElem_mem (by omega)) (arg_bulk hb i (by omega)) _).to ?_
        simp only [push_cast, Nat.reduceAdd, Nat.reduceSub, Nat.reduceMul, Nat.reduceLT, Nat.reduceLeDiff, Nat.reduceEqDiff, Int.reduceToNat, ↓reduceIte]
        have g1 := hcb i
        have g2 := hcb (i + 1)
        have g3 := hround i (by omega)
        repeat' first | refine ⟨by omega, ?_⟩ | refine cI (fun _ => ?_) (fun _ => ?_)
        exact loopW_n (i + 1) (by omega) (by omega) (by simp only [push_cast, Nat.reduceAdd, Nat.reduceSub, Nat.reduceMul, Nat.reduceLT, Nat.reduceLeDiff, Nat.reduceEqDiff, Int.reduceToNat, ↓reduceIte, g3, Int.add_assoc])
      · simp only [push_cast, Nat.reduceAdd, Nat.reduceSub, Nat.reduceMul, Nat.reduceLT, Nat.reduceLeDiff, Nat.reduceEqDiff, Int.reduceToNat, ↓reduceIte, List.take_of_length_le (show xs.length ≤ i by omega)]
    · have h1 : oneP v n true = 0 := by rw [hone]; simp [hn]
      rw [h1]
      refine ACall_V (H.length) 28 [.tmp 4] Tryd.func38 rfl rfl rfl ?_
      simp only [push_cast, Nat.reduceAdd, Nat.reduceSub, Nat.reduceMul, Nat.reduceLT, Nat.reduceLeDiff, Nat.reduceEqDiff, Int.reduceToNat, ↓reduceIte]
      refine cI (fun h => absurd h hn) (fun _ => ?_)
      refine AW_loopW (maskG 30 [1, 3, 11, 0, 0]) (fun (i : Nat) => [(5, .int .i64 (((xs.take i).map (countP v)).sum)), (19, .int .i64 i)]) (fun i => H ++ [.cells [.str n, .bool true, .sl .none (encTs xs)]]) (fun i => i ≤ xs.length) (fun i => xs.length - i) 0 (Nat.zero_le _) (by simp only [push_cast, Nat.reduceAdd, Nat.reduceSub, Nat.reduceMul, Nat.reduceLT, Nat.reduceLeDiff, Nat.reduceEqDiff, Int.reduceToNat, ↓reduceIte, List.take_zero, List.map_nil, List.sum_nil]) (fun i hi => ?_)
      simp only [push_cast, Nat.reduceAdd, Nat.reduceSub, Nat.reduceMul, Nat.reduceLT, Nat.reduceLeDiff, Nat.reduceEqDiff, Int.reduceToNat, ↓reduceIte]
      refine cI (fun h => ?_) (fun h => ?_)
      · repeat refine ⟨by omega, ?_⟩
        refine (ih _ (List.getElem_mem (by omega)) (arg_bulk hb i (by omega)) _).to ?_
        simp only [push_cast, Nat.reduceAdd, Nat.reduceSub, Nat.reduceMul, Nat.reduceLT, Nat.reduceLeDiff, Nat.reduceEqDiff, Int.reduceToNat, ↓reduceIte]
        have g1 := hcb i
        have g2 := hcb (i + 1)
        have g3 := hround i (by omega)
        repeat' first | refine ⟨by omega, ?_⟩ | refine cI (fun _ => ?_) (fun _ => ?_)
        exact loopW_n (i + 1) (by omega) (by omega) (by simp only [push_cast, Nat.reduceAdd, Nat.reduceSub, Nat.reduceMul, Nat.reduceLT, Nat.reduceLeDiff, Nat.reduceEqDiff, Int.reduceToNat, ↓reduceIte, g3])
      · simp only [push_cast, Nat.reduceAdd, Nat.reduceSub, Nat.reduceMul, Nat.reduceLT, Nat.reduceLeDiff, Nat.reduceEqDiff, Int.reduceToNat, ↓reduceIte, List.take_of_length_le (show xs.length ≤ i by omega), Int.zero_add]
  | false =>
    have h1 : oneP v n false = 0 := by rw [hone]; simp
    rw [h1]
    refine ACall_V (H.length) 28 [.tmp 4] Tryd.func38 rfl rfl rfl ?_
    simp only [push_cast, Nat.reduceAdd, Nat.reduceSub, Nat.reduceMul, Nat.reduceLT, Nat.reduceLeDiff, Nat.reduceEqDiff, Int.reduceToNat, ↓reduceIte]
    refine AW_loopW (maskG 30 [1, 3, 11, 0, 0]) (fun (i : Nat) => [(5, .int .i64 (((xs.take i).map (countP v)).sum)), (19, .int .i64 i)]) (fun i => H ++ [.cells [.str n, .bool false, .sl .none (encTs xs)]]) (fun i => i ≤ xs.length) (fun i => xs.length - i) 0 (Nat.zero_le _) (by simp only [push_cast, Nat.reduceAdd, Nat.reduceSub, Nat.reduceMul, Nat.reduceLT, Nat.reduceLeDiff, Nat.reduceEqDiff, Int.reduceToNat, ↓reduceIte, List.take_zero, List.map_nil, List.sum_nil]) (fun i hi => ?_)
    simp only [push_cast, Nat.reduceAdd, Nat.reduceSub, Nat.reduceMul, Nat.reduceLT, Nat.reduceLeDiff, Nat.reduceEqDiff, Int.reduceToNat, ↓reduceIte]
    refine cI (fun h => ?_) (fun h => ?_)
    · repeat refine ⟨by omega, ?_⟩
      refine (ih _ (List.getElem_mem (by omega)) (arg_bulk hb i (by omega)) _).to ?_
      simp only [push_cast, Nat.reduceAdd, Nat.reduceSub, Nat.reduceMul, Nat.reduceLT, Nat.reduceLeDiff, Nat.reduceEqDiff, Int.reduceToNat, ↓reduceIte]
      have g1 := hcb i
      have g2 := hcb (i + 1)
      have g3 := hround i (by omega)
      repeat' first | refine ⟨by omega, ?_⟩ | refine cI (fun _ => ?_) (fun _ => ?_)
      exact loopW_n (i + 1) (by omega) (by omega) (by simp only [push_cast, Nat.reduceAdd, Nat.reduceSub, Nat.reduceMul, Nat.reduceLT, Nat.reduceLeDiff, Nat.reduceEqDiff, Int.reduceToNat, ↓reduceIte, g3])
    · simp only [push_cast, Nat.reduceAdd, Nat.reduceSub, Nat.reduceMul, Nat.reduceLT, Nat.reduceLeDiff, Nat.reduceEqDiff, Int.reduceToNat, ↓reduceIte, List.take_of_length_le (show xs.length ≤ i by omega), Int.zero_add]
theorem eqFunc_ac (xs ys : List Term) (g : Nat) (caps : List AV) (p : Term → Term → Bool) (H : List AObj) (hlen : xs.length < 1099511627776) (hlen2 : ys.length < 1099511627776) (hg : callOk Tryd.prog g = true) (hsc : ScopedL H.length caps)
    (hf : ∀ i (h : i < xs.length) (h' : i < ys.length) X, ACall Tryd.prog g (encT xs[i] :: encT ys[i] :: caps) X (fun r H' => r = .bool (p xs[i] ys[i]) ∧ H' = X)) :
    ACall Tryd.prog 77 [.sl .none (encTs xs), .sl .none (encTs ys), .fn g caps] H (fun r H' => r = .bool (decide (xs.length = ys.length) && (xs.zip ys).all fun q => p q.1 q.2) ∧ H' = H) := by
  refine ACall_V (H.length) 29 [.tmp 6] Tryd.func77 rfl rfl rfl ?_
  simp only [push_cast, Nat.reduceAdd, Nat.reduceSub, Nat.reduceMul, Nat.reduceLT, Nat.reduceLeDiff, Nat.reduceEqDiff, Int.reduceToNat, ↓reduceIte]
  refine cI (fun hl => ?_) (fun hl => ?_)
  · have hl : xs.length = ys.length := by omega
    have hz : (xs.zip ys).length = xs.length := by simp [hl]
    refine AW_loopW (maskG 32 [1, 0, 12, 0, 0]) (fun (i : Nat) => [(17, .int .i64 i)]) (fun _ => H) (fun i => i ≤ xs.length ∧ ((xs.zip ys).take i).all (fun q => p q.1 q.2) = true) (fun i => xs.length - i) 0 ⟨Nat.zero_le _, by simp⟩ (by simp only [push_cast, Nat.reduceAdd, Nat.reduceSub, Nat.reduceMul, Nat.reduceLT, Nat.reduceLeDiff, Nat.reduceEqDiff, Int.reduceToNat, ↓reduceIte, hsc]) (fun i hi => ?_)
    simp only [push_cast, Nat.reduceAdd, Nat.reduceSub, Nat.reduceMul, Nat.reduceLT, Nat.reduceLeDiff, Nat.reduceEqDiff, Int.reduceToNat, ↓reduceIte, hg]
    refine cI (fun h => ?_) (fun h => ?_)
    · repeat refine ⟨by omega, ?_⟩
      have hix : i < xs.length := by omega
      have hiy : i < ys.length := by omega
      refine (hf i hix hiy _).to ?_
      simp only [push_cast, Nat.reduceAdd, Nat.reduceSub, Nat.reduceMul, Nat.reduceLT, Nat.reduceLeDiff, Nat.reduceEqDiff, Int.reduceToNat, ↓reduceIte]
      refine cI (fun hp => ?_) (fun hp => ?_)
      · repeat' first | refine ⟨by omega, ?_⟩ | refine cI (fun _ => ?_) (fun _ => ?_)
        refine loopW_n (i + 1) ⟨by omega, all_take_true hi.2 (by omega) (by simpa using hp)⟩ (by omega) (by simp only [push_cast, Nat.reduceAdd, Nat.reduceSub, Nat.reduceMul, Nat.reduceLT, Nat.reduceLeDiff, Nat.reduceEqDiff, Int.reduceToNat, ↓reduceIte, hsc])
      · have ha := all_get (xs := xs.zip ys) (p := fun q => p q.1 q.2) (i := i) (by omega) (by simpa using hp)
        simp [ha]
    · have hs : (xs.zip ys).take i = xs.zip ys := List.take_of_length_le (by omega)
      rw [hs] at hi
      simp [hi.2, hl]
  · have hl' : ¬ xs.length = ys.length := by omega
    simp [hl']
theorem zip_all_eq : ∀ (xs ys : List Term), (decide (xs.length = ys.length) && (xs.zip ys).all fun q => decide (q.1 = q.2)) = decide (xs = ys)
  | [], [] => by simp
  | [], _ :: _ => by simp
  | _ :: _, [] => by simp
  | x :: xs, y :: ys => by
    have := zip_all_eq xs ys
    rw [Bool.eq_iff_iff] at this ⊢
    simp at this ⊢
    constructor
    · rintro ⟨a, b, c⟩; exact ⟨b, this.1 ⟨a, c⟩⟩
    · rintro ⟨b, c⟩; have := this.2 c; exact ⟨this.1, b, this.2⟩
theorem equal_ac (a : Term) : ∀ b : Term, a.bulk ≤ 1099511627775 → b.bulk ≤ 1099511627775 → ∀ H, ACall Tryd.prog 39 [encT a, encT b] H (fun r H' => r = .bool (decide (a = b)) ∧ H' = H) := by
  induction a using Term.ind with | _ n v xs ih
  rintro ⟨m, u, ys⟩ hb hb2 H
  have hlen := Term.len_le (n := n) (v := v) (xs := xs)
  have hlen2 := Term.len_le (n := m) (v := u) (xs := ys)
  refine ACall_V (H.length) 22 [.tmp 4] Tryd.func39 rfl rfl rfl ?_
  simp only [push_cast, Nat.reduceAdd, Nat.reduceSub, Nat.reduceMul, Nat.reduceLT, Nat.reduceLeDiff, Nat.reduceEqDiff, Int.reduceToNat, ↓reduceIte]
  refine cI (fun h1 => ?_) (fun h1 => ?_)
  · refine cI (fun h2 => ?_) (fun h2 => ?_)
    · have h2 : v = u := by simpa using h2
      refine (eqFunc_ac xs ys 39 [] (fun x y => decide (x = y)) _ (by omega) (by omega) ok39 (by simp [ScopedL]) (fun i h h' X => ih _ (List.getElem_mem h) _ (arg_bulk hb i h) (arg_bulk hb2 i h') X)).to ?_
      rw [zip_all_eq]
      simp only [push_cast, Nat.reduceAdd, Nat.reduceSub, Nat.reduceMul, Nat.reduceLT, Nat.reduceLeDiff, Nat.reduceEqDiff, Int.reduceToNat, ↓reduceIte]
      simp [h1, h2]
    · have h2 : ¬ v = u := by simpa using h2
      simp [h2]
  · simp [h1]
theorem compareString_ac (a b : List UInt8) (H : List AObj) : ACall Tryd.prog 103 [.str a, .str b] H (fun r H' => r = .int .i64 (Lib.compareBytes a b) ∧ H' = H) := by
  refine ACall_V (H.length) 6 [.tmp 4] Tryd.func103 rfl rfl rfl ?_
  simp only [push_cast, Nat.reduceAdd, Nat.reduceSub, Nat.reduceMul, Nat.reduceLT, Nat.reduceLeDiff, Nat.reduceEqDiff, Int.reduceToNat, ↓reduceIte]
  refine AOp_cmpstring a b xc115 rfl rfl ?_
  simp only [push_cast, Nat.reduceAdd, Nat.reduceSub, Nat.reduceMul, Nat.reduceLT, Nat.reduceLeDiff, Nat.reduceEqDiff, Int.reduceToNat, ↓reduceIte]
theorem compareStr_ac (a b : List UInt8) (H : List AObj) : ACall Tryd.prog 79 [.str a, .str b] H (fun r H' => r = .int .i64 (Lib.compareBytes a b) ∧ H' = H) := by
  refine ACall_V (H.length) 6 [.tmp 4] Tryd.func79 rfl rfl rfl ?_
  simp only [push_cast, Nat.reduceAdd, Nat.reduceSub, Nat.reduceMul, Nat.reduceLT, Nat.reduceLeDiff, Nat.reduceEqDiff, Int.reduceToNat, ↓reduceIte]
  refine (compareString_ac a b _).to ?_
  simp only [push_cast, Nat.reduceAdd, Nat.reduceSub, Nat.reduceMul, Nat.reduceLT, Nat.reduceLeDiff, Nat.reduceEqDiff, Int.reduceToNat, ↓reduceIte]
theorem isNaN_ac (a : Int) (H : List AObj) : ACall Tryd.prog 104 [.int .i64 a] H (fun r H' => r = .bool false ∧ H' = H) := by
  refine ACall_V (H.length) 5 [.tmp 2] Tryd.func104 rfl rfl rfl ?_
  simp only [push_cast, Nat.reduceAdd, Nat.reduceSub, Nat.reduceMul, Nat.reduceLT, Nat.reduceLeDiff, Nat.reduceEqDiff, Int.reduceToNat, ↓reduceIte]
theorem cmpCompare_ac (a b : Int) (H : List AObj) : ACall Tryd.prog 80 [.int .i64 a, .int .i64 b] H (fun r H' => r = .int .i64 (cmpI a b) ∧ H' = H) := by
  unfold cmpI
  refine ACall_V (H.length) 18 [.tmp 4] Tryd.func80 rfl rfl rfl ?_
  simp only [push_cast, Nat.reduceAdd, Nat.reduceSub, Nat.reduceMul, Nat.reduceLT, Nat.reduceLeDiff, Nat.reduceEqDiff, Int.reduceToNat, ↓reduceIte]
  refine (isNaN_ac a _).to ?_
  simp only [push_cast, Nat.reduceAdd, Nat.reduceSub, Nat.reduceMul, Nat.reduceLT, Nat.reduceLeDiff, Nat.reduceEqDiff, Int.reduceToNat, ↓reduceIte]
  refine (isNaN_ac b _).to ?_
  simp only [push_cast, Nat.reduceAdd, Nat.reduceSub, Nat.reduceMul, Nat.reduceLT, Nat.reduceLeDiff, Nat.reduceEqDiff, Int.reduceToNat, ↓reduceIte]
  refine cI (fun h => ?_) (fun h => cI (fun h2 => ?_) (fun h2 => ?_))
  · simp [h]
  · simp [h, h2]
  · simp [h, h2]
theorem cmpOr_ac (a b : Int) (H : List AObj) : ACall Tryd.prog 78 [.sl .none [.int .i64 a, .int .i64 b]] H (fun r H' => r = .int .i64 (if a ≠ 0 then a else b) ∧ H' = H) := by
  have e : [AV.int .i64 a, .int .i64 b] = encP [a, b] := rfl
  rw [e]
  refine ACall_V (H.length) 17 [.tmp 2] Tryd.func78 rfl rfl rfl ?_
  simp only [push_cast, Nat.reduceAdd, Nat.reduceSub, Nat.reduceMul, Nat.reduceLT, Nat.reduceLeDiff, Nat.reduceEqDiff, Int.reduceToNat, ↓reduceIte]
  refine AW_loopW (maskG 18 [3, 2, 0, 0]) (fun (i : Nat) => [(8, .int .i64 i)]) (fun _ => H) (fun i => i ≤ 2 ∧ ∀ j (h : j < [a, b].length), j < i → [a, b][j] = 0) (fun i => 2 - i) 0 ⟨Nat.zero_le _, fun j h h2 => by omega⟩ (by simp only [push_cast, Nat.reduceAdd, Nat.reduceSub, Nat.reduceMul, Nat.reduceLT, Nat.reduceLeDiff, Nat.reduceEqDiff, Int.reduceToNat, ↓reduceIte]) (fun i hi => ?_)
  simp only [push_cast, Nat.reduceAdd, Nat.reduceSub, Nat.reduceMul, Nat.reduceLT, Nat.reduceLeDiff, Nat.reduceEqDiff, Int.reduceToNat, ↓reduceIte]
  refine cI (fun h => ?_) (fun h => ?_)
  · have hi2 : i < 2 := by omega
    refine ⟨hi2, cI (fun h0 => ?_) (fun h0 => ?_)⟩
    · repeat' first | refine ⟨by omega, ?_⟩ | refine cI (fun _ => ?_) (fun _ => ?_)
      refine loopW_n (i + 1) ⟨by omega, fun j h1 hj => ?_⟩ (by omega) (by simp only [push_cast, Nat.reduceAdd, Nat.reduceSub, Nat.reduceMul, Nat.reduceLT, Nat.reduceLeDiff, Nat.reduceEqDiff, Int.reduceToNat, ↓reduceIte])
      rcases Nat.lt_or_ge j i with hj | hj
      · exact hi.2 j h1 hj
      · have hji : j = i := by omega
        subst hji; exact h0
    · have h01 : i = 0 ∨ i = 1 := by omega
      rcases h01 with rfl | rfl
      · have h0 : ¬ a = 0 := h0
        show a = _
        rw [if_pos h0]
      · have ha : a = 0 := hi.2 0 (by simp) (by omega)
        show b = _
        rw [if_neg (by simp [ha])]
  · have ha : a = 0 := hi.2 0 (by simp) (by omega)
    have hb : b = 0 := hi.2 1 (by simp) (by omega)
    subst ha; subst hb; rfl
theorem compareFunc_ac (xs ys : List Term) (g : Nat) (caps : List AV) (H : List AObj) (hlen : xs.length < 1099511627776) (hl : xs.length = ys.length) (hg : callOk Tryd.prog g = true) (hsc : ScopedL H.length caps)
    (hf : ∀ i (h : i < xs.length) (h' : i < ys.length) X, ACall Tryd.prog g (encT xs[i] :: encT ys[i] :: caps) X (fun r H' => r = .int .i64 (cmpT xs[i] ys[i]) ∧ H' = X)) :
    ACall Tryd.prog 81 [.sl .none (encTs xs), .sl .none (encTs ys), .fn g caps] H (fun r H' => r = .int .i64 (cmpTs xs ys) ∧ H' = H) := by
  refine ACall_V (H.length) 36 [.tmp 6] Tryd.func81 rfl rfl rfl ?_
  simp only [push_cast, Nat.reduceAdd, Nat.reduceSub, Nat.reduceMul, Nat.reduceLT, Nat.reduceLeDiff, Nat.reduceEqDiff, Int.reduceToNat, ↓reduceIte]
  refine AW_loopW (maskG 39 [0, 0, 0, 8, 0, 0]) (fun (i : Nat) => [(13, .int .i64 i)]) (fun _ => H) (fun i => i ≤ xs.length ∧ ∀ j (h1 : j < xs.length) (h2 : j < ys.length), j < i → cmpT xs[j] ys[j] = 0) (fun i => xs.length - i) 0 ⟨Nat.zero_le _, fun j h1 h2 h => by omega⟩ (by simp only [push_cast, Nat.reduceAdd, Nat.reduceSub, Nat.reduceMul, Nat.reduceLT, Nat.reduceLeDiff, Nat.reduceEqDiff, Int.reduceToNat, ↓reduceIte, hsc]) (fun i hi => ?_)
  simp only [push_cast, Nat.reduceAdd, Nat.reduceSub, Nat.reduceMul, Nat.reduceLT, Nat.reduceLeDiff, Nat.reduceEqDiff, Int.reduceToNat, ↓reduceIte, hg]
  refine cI (fun h => ?_) (fun h => ?_)
  · repeat refine ⟨by omega, ?_⟩
    have hix : i < xs.length := by omega
    have hiy : i < ys.length := by omega
    refine cI (fun h2 => by omega) (fun _ => ?_)
    repeat refine ⟨by omega, ?_⟩
    refine (hf i hix hiy _).to ?_
    simp only [push_cast, Nat.reduceAdd, Nat.reduceSub, Nat.reduceMul, Nat.reduceLT, Nat.reduceLeDiff, Nat.reduceEqDiff, Int.reduceToNat, ↓reduceIte]
    refine cI (fun hp => ?_) (fun hp => ?_)
    · repeat' first | refine ⟨by omega, ?_⟩ | refine cI (fun _ => ?_) (fun _ => ?_)
      refine loopW_n (i + 1) ⟨by omega, fun j j1 j2 hj => ?_⟩ (by omega) (by simp only [push_cast, Nat.reduceAdd, Nat.reduceSub, Nat.reduceMul, Nat.reduceLT, Nat.reduceLeDiff, Nat.reduceEqDiff, Int.reduceToNat, ↓reduceIte, hsc])
      rcases Nat.lt_or_ge j i with hj | hj
      · exact hi.2 j j1 j2 hj
      · have hji : j = i := by omega
        subst hji; exact hp
    · have hq : cmpTs xs ys = cmpT (xs[i]'hix) (ys[i]'hiy) := by rw [cmpTs_drop xs ys i hi.2 hl, List.drop_eq_getElem_cons hix, List.drop_eq_getElem_cons hiy, cmpTs_cons, if_pos hp]
      simp only [push_cast, Nat.reduceAdd, Nat.reduceSub, Nat.reduceMul, Nat.reduceLT, Nat.reduceLeDiff, Nat.reduceEqDiff, Int.reduceToNat, ↓reduceIte, hq]
  · have hq : cmpTs xs ys = 0 := by rw [cmpTs_drop xs ys i hi.2 hl, List.drop_eq_nil_of_le (show xs.length ≤ i by omega)]; exact cmpTs_nil _
    refine cI (fun h2 => by omega) (fun _ => ?_)
    simp only [push_cast, Nat.reduceAdd, Nat.reduceSub, Nat.reduceMul, Nat.reduceLT, Nat.reduceLeDiff, Nat.reduceEqDiff, Int.reduceToNat, ↓reduceIte, hq]
theorem compare_ac (s : Term) : ∀ t : Term, s.bulk ≤ 1099511627775 → t.bulk ≤ 1099511627775 → ∀ H, ACall Tryd.prog 40 [encT s, encT t] H (fun r H' => r = .int .i64 (cmpT s t) ∧ H' = H) := by
  induction s using Term.ind with | _ n v xs ih
  rintro ⟨m, u, ys⟩ hb hb2 H
  have hl1 := Term.len_le (n := n) (v := v) (xs := xs)
  have hl2 := Term.len_le (n := m) (v := u) (xs := ys)
  have hci := cmpI_len xs.length ys.length
  have hcm : cmpT (.mk n v xs) (.mk m u ys) = cmpC n v xs.length m u ys.length (cmpTs xs ys) := rfl
  rw [hcm]
  refine ACall_V (H.length) 33 [.tmp 4] Tryd.func40 rfl rfl rfl ?_
  simp only [push_cast, Nat.reduceAdd, Nat.reduceSub, Nat.reduceMul, Nat.reduceLT, Nat.reduceLeDiff, Nat.reduceEqDiff, Int.reduceToNat, ↓reduceIte]
  refine cI (fun h1 => ?_) (fun h1 => ?_)
  · have h1 : v = u := by simpa using h1
    apply AW_drawE [some 13, some 14, some 15, some 16, some 17, some 18, some 19, some 20, some 21, some 22, some 23, some 24, some 25, some 26, some 5] [([], _)] [none, none, none, none, none, none, none, none, none, none, none, none, none, none, none] 0 [(0, [], [2]), (1, [], [13]), (2, [], [3]), (3, [], [15]), (4, [], [14, 1]), (5, [], [2]), (6, [], [18]), (7, [], [19]), (8, [], [3]), (9, [], [21]), (10, [], [22]), (11, [], [20, 2]), (12, [], [17, 6]), (13, [], [25]), (14, [], [26])] [_, _, _, _, _, _, _, _, _, _, _, _, _, _, _]
    case' hm => exact dr
    case' hn => rfl
    case' hok => rfl
    case' hlen => rfl
    case' hd => rfl
    case' h0 => rfl
    case' hstep =>
     simp only [DAllG, push_cast, Option.isSome_some, Option.isSome_none]
     repeat' apply And.intro
     all_goals (apply DOne_V; simp only [push_cast, Nat.reduceAdd, Nat.reduceSub, Nat.reduceMul, Nat.reduceLT, Nat.reduceLeDiff, Nat.reduceEqDiff, Int.reduceToNat, ↓reduceIte] <;> first | exact rfl | omega | exact ⟨rfl, rfl⟩ | exact trivial | exact ⟨by omega, rfl⟩ | exact ⟨by omega, by omega, rfl⟩ | exact ⟨by omega, rfl, rfl⟩ | exact ⟨by omega, by omega, rfl, rfl⟩ | exact (compareStr_ac n m _).to ⟨rfl, rfl⟩ | exact (cmpCompare_ac _ _ _).to ⟨rfl, rfl⟩ | exact (cmpOr_ac _ _ _).to ⟨rfl, rfl⟩)
    case' hQ => skip
    simp only [push_cast, Nat.reduceAdd, Nat.reduceSub, Nat.reduceMul, Nat.reduceLT, Nat.reduceLeDiff, Nat.reduceEqDiff, Int.reduceToNat, ↓reduceIte]
    refine cI (fun h2 => ?_) (fun h2 => ?_)
    · have hc0 : Lib.compareBytes n m = 0 := by
        by_cases h : Lib.compareBytes n m = 0
        · exact h
        · rw [if_pos h] at h2; exact h2
      rw [if_neg (by simp [hc0])] at h2
      have hll : xs.length = ys.length := hci.1.1 h2
      refine (compareFunc_ac xs ys 40 [] _ (by omega) hll ok40 (by simp [ScopedL]) (fun i h h' X => ih _ (List.getElem_mem h) _ (arg_bulk hb i h) (arg_bulk hb2 i h') X)).to ?_
      simp only [push_cast, Nat.reduceAdd, Nat.reduceSub, Nat.reduceMul, Nat.reduceLT, Nat.reduceLeDiff, Nat.reduceEqDiff, Int.reduceToNat, ↓reduceIte]
      simp [cmpC, h1, hc0, hll]
    · by_cases hc0 : Lib.compareBytes n m = 0
      · rw [if_neg (by simp [hc0])] at h2 ⊢
        have h4 := hci.2 h2 (cmpTs xs ys)
        simp only [cmpC, h1, hc0, h4, ne_eq, not_true_eq_false, if_false]
      · simp [cmpC, h1, hc0]
  · have h1 : ¬ v = u := by simpa using h1
    refine cI (fun hv => ?_) (fun hv => ?_) <;> cases v <;> cases u <;> first | exact absurd rfl h1 | (simp [cmpC]; done) | (simp at hv)
end Ab
set_option maxRecDepth 10000
namespace Ab
open Go Go.Proofs
theorem inspects_ac (hit : ∀ i H, i < 100 → ACall Tryd.prog 92 [.int .i64 (i : Nat)] H (fun r H' => r = .str (Lib.decDigits i) ∧ H' = H)) (a b : Term) (v : List UInt8) (ha : a.bulk ≤ 1048576) (hb : b.bulk ≤ 1048576) (H : List AObj) :
    ACall Tryd.prog 7 [encT a, encT b, .str v] H (fun r H' => r = .bool true ∧ H' = H) := by
  have hsz := a.size_le
  have hvl : (varsP [a]).length ≤ a.size := by have := foldC_length [a] []; simpa [foldC, varsP] using this
  have hv1 := varsR_ac [a] (by simp) (by simp; omega) (by simp; omega)
  rw [encTs_cons, encTs_nil] at hv1
  refine ACall_V (H.length) 83 [.tmp 6] Tryd.func7 rfl rfl rfl ?_
  simp only [push_cast, Nat.reduceAdd, Nat.reduceSub, Nat.reduceMul, Nat.reduceLT, Nat.reduceLeDiff, Nat.reduceEqDiff, Int.reduceToNat, ↓reduceIte]
  apply AW_drawE [some 10, some 11, some 12, some 13, some 14, some 15, some 16, some 17, some 18, some 19, some 20, some 21, some 22, some 23, some 24, some 25, some 26, some 27, some 28, some 29, some 30, some 31, some 32, some 33, some 34, some 35, some 36, some 37] [([], _)] [none, none, none, none, none, none, none, none, none, none, none, none, none, none, none, none, none, none, none, none, none, none, none, none, none, none, none, none] 0 [(0, [], [3]), (1, [], [10]), (2, [], [3]), (3, [], [12]), (4, [], [11, 1]), (5, [], [14]), (6, [], [3, 11]), (7, [], [15, 0]), (8, [], [3, 11]), (9, [], [15, 2]), (10, [], [15, 1, 1]), (11, [], [15, 4]), (12, [], [21]), (13, [], [3, 18]), (14, [], [22, 0]), (15, [], [3, 18]), (16, [], [22, 2]), (17, [], [22, 1, 1]), (18, [], [22, 4]), (19, [], [28]), (20, [], [3, 25]), (21, [], [2, 26]), (22, [], [29, 0, 0]), (23, [], [3, 25]), (24, [], [2, 26]), (25, [], [29, 3, 0]), (26, [], [29, 2, 2]), (27, [], [29, 6])] [_, _, _, _, _, _, _, _, _, _, _, _, _, _, _, _, _, _, _, _, _, _, _, _, _, _, _, _]
  case' hm => exact dr
  case' hn => rfl
  case' hok => rfl
  case' hlen => rfl
  case' hd => rfl
  case' h0 => rfl
  case' hstep =>
   simp only [DAllG, push_cast, Option.isSome_some, Option.isSome_none]
   repeat' apply And.intro
   all_goals (apply DOne_V; simp only [push_cast, Nat.reduceAdd, Nat.reduceSub, Nat.reduceMul, Nat.reduceLT, Nat.reduceLeDiff, Nat.reduceEqDiff, Int.reduceToNat, ↓reduceIte, decide_true, Bool.not_true] <;> first | exact rfl | omega | exact ⟨rfl, rfl⟩ | exact trivial | exact ⟨by omega, rfl⟩ | exact ⟨by omega, by omega, rfl⟩ | exact ⟨by omega, rfl, rfl⟩ | exact ⟨by omega, by omega, rfl, rfl⟩ | exact (check_ac a (by omega) _).to ⟨rfl, rfl⟩ | exact (checkR_ac a (by omega) _).to ⟨rfl, rfl⟩ | exact (size_ac a (by omega) _).to ⟨rfl, rfl⟩ | exact (sizeR_ac a (by omega) _).to ⟨rfl, rfl⟩ | exact (depth_ac a (by omega) _).to ⟨rfl, rfl⟩ | exact (depthR_ac a (by omega) _).to ⟨rfl, rfl⟩ | exact (count_ac a v (by omega) _).to ⟨rfl, rfl⟩ | exact (countR_ac a v (by omega) _).to ⟨rfl, rfl⟩)
  case' hQ => skip
  simp only [push_cast, Nat.reduceAdd, Nat.reduceSub, Nat.reduceMul, Nat.reduceLT, Nat.reduceLeDiff, Nat.reduceEqDiff, Int.reduceToNat, ↓reduceIte]
  apply AW_drawE [some 38, some 39, some 40, some 41, some 42, some 43, some 44, some 45, some 46, some 47, some 48, some 49, some 50, some 51, some 52, some 53] [([], _)] [none, none, none, none, none, none, none, none, none, none, none, none, none, none, none, none] 0 [(0, [], [3]), (1, [], [4]), (2, [], [38, 0]), (3, [], [3]), (4, [], [4]), (5, [], [41, 0]), (6, [], [40, 2]), (7, [], [44]), (8, [], [3, 41]), (9, [], [4, 40]), (10, [], [45, 0, 0]), (11, [], [3, 41]), (12, [], [4, 40]), (13, [], [45, 3, 0]), (14, [], [45, 2, 2]), (15, [], [45, 6])] [_, _, _, _, _, _, _, _, _, _, _, _, _, _, _, _]
  case' hm => exact dr
  case' hn => rfl
  case' hok => rfl
  case' hlen => rfl
  case' hd => rfl
  case' h0 => rfl
  case' hstep =>
   simp only [DAllG, push_cast, Option.isSome_some, Option.isSome_none]
   repeat' apply And.intro
   all_goals (apply DOne_V; simp only [push_cast, Nat.reduceAdd, Nat.reduceSub, Nat.reduceMul, Nat.reduceLT, Nat.reduceLeDiff, Nat.reduceEqDiff, Int.reduceToNat, ↓reduceIte, decide_true, Bool.not_true, bne_self_eq_false, beq_self_eq_true] <;> first | exact rfl | omega | exact ⟨rfl, rfl⟩ | exact trivial | exact ⟨by omega, rfl⟩ | exact ⟨by omega, by omega, rfl⟩ | exact ⟨by omega, rfl, rfl⟩ | exact ⟨by omega, by omega, rfl, rfl⟩ | exact (equal_ac a b (by omega) (by omega) _).to ⟨rfl, rfl⟩ | exact (equalR_ac a b (by omega) (by omega) _).to ⟨rfl, rfl⟩ | exact (compare_ac a b (by omega) (by omega) _).to ⟨rfl, rfl⟩ | exact (compareR_ac a b (by omega) (by omega) _).to ⟨rfl, rfl⟩)
  case' hQ => skip
  simp only [push_cast, Nat.reduceAdd, Nat.reduceSub, Nat.reduceMul, Nat.reduceLT, Nat.reduceLeDiff, Nat.reduceEqDiff, Int.reduceToNat, ↓reduceIte]
  refine (termVars_ac a (by omega) _).to ?_
  by_cases h : checkP a = 0
  · rw [if_pos h]
    simp only [push_cast, Nat.reduceAdd, Nat.reduceSub, Nat.reduceMul, Nat.reduceLT, Nat.reduceLeDiff, Nat.reduceEqDiff, Int.reduceToNat, ↓reduceIte]
    refine (checkR_ac a (by omega) _).to ?_
    simp only [push_cast, Nat.reduceAdd, Nat.reduceSub, Nat.reduceMul, Nat.reduceLT, Nat.reduceLeDiff, Nat.reduceEqDiff, Int.reduceToNat, ↓reduceIte, h]
    refine (hv1 _).to ?_
    simp only [push_cast, Nat.reduceAdd, Nat.reduceSub, Nat.reduceMul, Nat.reduceLT, Nat.reduceLeDiff, Nat.reduceEqDiff, Int.reduceToNat, ↓reduceIte]
    refine (sameNames_ac _ _ (by omega) (by omega) _).to ?_
    simp only [push_cast, Nat.reduceAdd, Nat.reduceSub, Nat.reduceMul, Nat.reduceLT, Nat.reduceLeDiff, Nat.reduceEqDiff, Int.reduceToNat, ↓reduceIte, decide_true]
    refine (alive_ac hit _).to ?_
    simp only [push_cast, Nat.reduceAdd, Nat.reduceSub, Nat.reduceMul, Nat.reduceLT, Nat.reduceLeDiff, Nat.reduceEqDiff, Int.reduceToNat, ↓reduceIte]
  · rw [if_neg h]
    simp only [push_cast, Nat.reduceAdd, Nat.reduceSub, Nat.reduceMul, Nat.reduceLT, Nat.reduceLeDiff, Nat.reduceEqDiff, Int.reduceToNat, ↓reduceIte]
    refine (checkR_ac a (by omega) _).to ?_
    simp only [push_cast, Nat.reduceAdd, Nat.reduceSub, Nat.reduceMul, Nat.reduceLT, Nat.reduceLeDiff, Nat.reduceEqDiff, Int.reduceToNat, ↓reduceIte, h]
    refine (alive_ac hit _).to ?_
    simp only [push_cast, Nat.reduceAdd, Nat.reduceSub, Nat.reduceMul, Nat.reduceLT, Nat.reduceLeDiff, Nat.reduceEqDiff, Int.reduceToNat, ↓reduceIte]
end Ab
set_option maxRecDepth 10000
namespace Go.Proofs.YtakpnikkcinckaaDoor
open Go Ab
namespace nsp
theorem own : ownKnob Tryd.prog.godebug = none := by kernel_rfl
theorem laid : laidOutB Tryd.prog = true := by kernel_rfl
theorem readable : ∀ t, t ∈ Tryd.f7.params.toList → Tryd.prog.readableRec t = true ∧ t < Tryd.prog.types.size := by
  rw [Tryd.params7]; intro t ht
  simp only [List.mem_cons, List.not_mem_nil, or_false] at ht
  rcases ht with rfl | rfl | rfl <;> exact ⟨by kernel_rfl, of_decide_eq_true (by kernel_rfl)⟩
theorem closed : closedK Tryd.prog [24, 9, 4, 22] = true := by kernel_rfl
theorem contract (H : Type) (enc : TypeId × Value → H) (W : World) (base : Nat) (args : Array Value) (ds gs : List (DataW H)) (before : List MemPlace)
    (hval : ∀ (j : Nat) t v, Tryd.f7.params[j]? = some t → args[j]? = some v → Value.okWide Tryd.prog W .any base t v)
    (hW : DataW.Whole enc Tryd.prog Tryd.f7.params.toList Rows.termInspectsSpec.vars false W args.toList ds gs before) (hk : Rows.uptoSmall H (ds ++ gs) = true) (hl : laidMetH Tryd.prog Rows.termInspectsUptoRow.laid W) :
    Calls Tryd.prog 7 args W fun e W' => ∃ v, e = .returned v ∧ Rows.termInspectsSpec.post enc Tryd.prog Tryd.f7 false true false false W args v W' := by
  have hW' := hW
  obtain ⟨p, q, hA0, hV, rfl, hfz, hnd⟩ := hW
  have hA : DataW.TrodAll enc Tryd.prog W 0 (fun _ => true) true Tryd.f7.params.toList args.toList ds p := hA0
  rw [Tryd.params7] at hA hval
  obtain ⟨v0, vs0, d0, ds0, p0, q0, hargs, rfl, rfl, h0, r0⟩ := ChangeShapes.trodAll_cons hA
  obtain ⟨v1, vs1, d1, ds1, p1, q1, rfl, rfl, rfl, h1, r1⟩ := ChangeShapes.trodAll_cons r0
  obtain ⟨v2, vs2, d2, ds2, p2, q2, rfl, rfl, rfl, h2, r2⟩ := ChangeShapes.trodAll_cons r1
  obtain ⟨rfl, rfl, rfl⟩ := ChangeShapes.trodAll_nil r2
  obtain rfl : args = #[v0, v1, v2] := by cases args; simp_all
  have hg : gs = [] := by cases gs with | nil => rfl | cons _ _ => exact hV.elim
  subst hg
  have hb : Rows.uptoBulk d0 + Rows.uptoBulk d1 + Rows.uptoBulk d2 ≤ 1048576 := by
    have := of_decide_eq_true hk
    simp only [List.cons_append, List.nil_append, List.append_nil, Rows.uptoBulkAll] at this
    omega
  obtain ⟨n0, a0, e0, x0⟩ := arg_struct closed (by decide) Tryd.underlying24 (hval 0 _ v0 rfl rfl) h0
  obtain ⟨n1, a1, e1, x1⟩ := arg_struct closed (by decide) Tryd.underlying24 (hval 1 _ v1 rfl rfl) h1
  obtain ⟨n2, a2, e2, x2⟩ := arg_string closed (by decide) Tryd.underlying9 (hval 2 _ v2 rfl rfl) h2
  obtain ⟨a, f0, b0⟩ := term_form n0 d0 a0 e0
  obtain ⟨b, f1, b1⟩ := term_form n1 d1 a1 e1
  obtain ⟨v, rfl, f2⟩ := toAV_str kdStr e2
  have b2 : Rows.uptoBulk (H := H) (.lit (.string v)) = v.length + 1 := by simp only [Rows.uptoBulk]
  try simp only [List.cons.injEq, and_true] at f2
  rw [f0] at x0; rw [f1] at x1; rw [f2] at x2
  have hc := law_calls (args := #[v0, v1, v2]) (avs := [encT a, encT b, .str v]) (W := W) (inspects_ac (fun i H hi => itoa_ac i H (by omega)) a b v (by omega) (by omega) []) (tabW_of hl) rfl (fun i hi hi' => by
    match i, hi with
    | 0, _ => exact x0
    | 1, _ => exact x1
    | 2, _ => exact x2)
  refine hc.mono fun e W' ⟨he, hbl⟩ => ?_
  subst he
  exact ⟨_, rfl, post_law rfl ⟨rfl, rfl, rfl⟩ hW' hbl rfl Tryd.underlying4 laid readable⟩
noncomputable def laidWorld (os : Os) : World := { World.holding Tryd.prog os ⟨#[], #[], []⟩ with heap := ((((World.holding Tryd.prog os ⟨#[], #[], []⟩).heap).modify 2 (fun | .cells _ t fz => .cells #[.int .u8 0, .int .u8 1, .int .u8 28, .int .u8 2, .int .u8 29, .int .u8 14, .int .u8 24, .int .u8 3, .int .u8 30, .int .u8 22, .int .u8 20, .int .u8 15, .int .u8 25, .int .u8 17, .int .u8 4, .int .u8 8, .int .u8 31, .int .u8 27, .int .u8 13, .int .u8 23, .int .u8 21, .int .u8 19, .int .u8 16, .int .u8 7, .int .u8 26, .int .u8 12, .int .u8 18, .int .u8 6, .int .u8 11, .int .u8 5, .int .u8 10, .int .u8 9] t fz | o => o)).modify 3 (fun | .cells _ t fz => .cells #[.int .u8 0, .int .u8 1, .int .u8 56, .int .u8 2, .int .u8 57, .int .u8 49, .int .u8 28, .int .u8 3, .int .u8 61, .int .u8 58, .int .u8 42, .int .u8 50, .int .u8 38, .int .u8 29, .int .u8 17, .int .u8 4, .int .u8 62, .int .u8 47, .int .u8 59, .int .u8 36, .int .u8 45, .int .u8 43, .int .u8 51, .int .u8 22, .int .u8 53, .int .u8 39, .int .u8 33, .int .u8 30, .int .u8 24, .int .u8 18, .int .u8 12, .int .u8 5, .int .u8 63, .int .u8 55, .int .u8 48, .int .u8 27, .int .u8 60, .int .u8 41, .int .u8 37, .int .u8 16, .int .u8 46, .int .u8 35, .int .u8 44, .int .u8 21, .int .u8 52, .int .u8 32, .int .u8 23, .int .u8 11, .int .u8 54, .int .u8 26, .int .u8 40, .int .u8 15, .int .u8 34, .int .u8 20, .int .u8 31, .int .u8 10, .int .u8 25, .int .u8 14, .int .u8 19, .int .u8 9, .int .u8 13, .int .u8 8, .int .u8 7, .int .u8 6] t fz | o => o)).modify 1 (fun | .cells _ t fz => .cells #[.int .u64 1, .int .u64 10, .int .u64 100, .int .u64 1000, .int .u64 10000, .int .u64 100000, .int .u64 1000000, .int .u64 10000000, .int .u64 100000000, .int .u64 1000000000, .int .u64 10000000000, .int .u64 100000000000, .int .u64 1000000000000, .int .u64 10000000000000, .int .u64 100000000000000, .int .u64 1000000000000000, .int .u64 10000000000000000, .int .u64 100000000000000000, .int .u64 1000000000000000000, .int .u64 10000000000000000000] t fz | o => o) }
set_option maxRecDepth 100000 in
theorem laid_met (os : Os) : laidMet Tryd.prog Rows.termInspectsUptoRow.laid ((laidWorld os).forCall (fun _ _ => 0) ⟨#[], #[.agg #[.string ⟨#[]⟩, .bool false, .slice none 0 0], .agg #[.string ⟨#[]⟩, .bool false, .slice none 0 0], .string ⟨#[]⟩], []⟩).memory :=
  laidMet_of_run' 80 (by kernel_rfl) (by kernel_rfl)
set_option maxRecDepth 100000 in
theorem reads (os : Os) {H : Type} (enc : TypeId × Value → H) : ∃ places, DataW.whole enc Tryd.prog ((laidWorld os).forCall (fun _ _ => 0) ⟨#[], #[.agg #[.string ⟨#[]⟩, .bool false, .slice none 0 0], .agg #[.string ⟨#[]⟩, .bool false, .slice none 0 0], .string ⟨#[]⟩], []⟩).memory Tryd.f7.params.toList (Rows.OpenSpec.upto Rows.termInspectsSpec).vars false #[.agg #[.string ⟨#[]⟩, .bool false, .slice none 0 0], .agg #[.string ⟨#[]⟩, .bool false, .slice none 0 0], .string ⟨#[]⟩].toList 8 = some ([.agg [.lit (.string []), .lit (.bool false), .nil], .agg [.lit (.string []), .lit (.bool false), .nil], .lit (.string [])], [], places) := ⟨[], by kernel_rfl⟩
set_option maxRecDepth 100000 in
theorem lifted (os : Os) (started : os.Started) (H : Type) (enc : TypeId × Value → H) (F : Stop.Interp) :
    ReturnsInHanded {} Tryd.checked os 7 .any ((Rows.OpenSpec.upto Rows.termInspectsSpec).preRow enc Tryd.prog Tryd.f7 Rows.termInspectsUptoRow.domain false Rows.termInspectsUptoRow.laid) (((Rows.OpenSpec.upto Rows.termInspectsSpec).at F).post enc Tryd.prog Tryd.f7 false true false false) := by
  obtain ⟨places, hx⟩ := reads os enc
  refine returnsInHanded_of_row (C := Tryd.checked) (s := Rows.OpenSpec.upto Rows.termInspectsSpec) own started (by kernel_rfl) Tryd.func7
    (witness_row_at (enc := enc) (C := Tryd.checked) false (laidWorld os) #[.agg #[.string ⟨#[]⟩, .bool false, .slice none 0 0], .agg #[.string ⟨#[]⟩, .bool false, .slice none 0 0], .string ⟨#[]⟩] rfl (by kernel_rfl) (by kernel_rfl) (by kernel_rfl)
      (OpenSpec.preRow_of_cond 8 hx (by kernel_rfl) (fun k hk => by cases hk; kernel_rfl) (by kernel_rfl) (laid_met os))) ?_
  intro W base args ds gs before hval hW _ hk _ hl _ _
  exact contract H enc W base args ds gs before hval hW (hk _ rfl) hl
theorem over : Rows.TermInspectsUptoSaid :=
  OpenClaim.holds_of_cond 7 Tryd.f7 rfl rfl rfl rfl rfl rfl rfl ⟨rfl, rfl, rfl, rfl, rfl⟩ rfl rfl rfl rfl rfl (by kernel_rfl) Tryd.func7 (by kernel_rfl)
    (of_decide_eq_true (by kernel_rfl)) (by unfold Func.isWrapper; first | (rw [if_pos (by decide +kernel)]; kernel_rfl) | (rw [if_neg (by decide +kernel)]; exact ⟨rfl, rfl⟩))
    (fun os started H enc _ F => by rw [OpenClaim.pre_eq_preRow]; exact lifted os started H enc F)
theorem plain (f : FuncId) (fn : Func) (hf : Tryd.pinned.checked.prog.funcNamed "dwindle/dwindlelaw01.TermInspects" = some f) (hfn : Tryd.pinned.checked.prog.funcs[f]? = some fn) :
    false = Tryd.pinned.checked.prog.looks [] ∧ ∀ (j : Nat) t, fn.params[j]? = some t → Tryd.pinned.checked.prog.wantsStandIn t = false := by
  obtain rfl : f = 7 := Option.some.inj ((show Tryd.prog.funcNamed "dwindle/dwindlelaw01.TermInspects" = some 7 by kernel_rfl).symm.trans hf) |>.symm
  obtain rfl : fn = Tryd.f7 := (Option.some.inj (Tryd.func7.symm.trans hfn)).symm
  refine ⟨by kernel_rfl, fun j t ht => ?_⟩
  rw [Tryd.params7] at ht
  have hm := Array.mem_of_getElem? ht
  simp only [List.mem_toArray, List.mem_cons, List.not_mem_nil, or_false] at hm
  rcases hm with rfl | rfl | rfl
  · exact (show Tryd.prog.wantsStandIn 24 = false by kernel_rfl)
  · exact (show Tryd.prog.wantsStandIn 24 = false by kernel_rfl)
  · exact (show Tryd.prog.wantsStandIn 9 = false by kernel_rfl)
end nsp
theorem termInspects_card : Rows.TermInspectsUptoCardSaid :=
  Claim7.holds_tied_plain_at .later [] _ _ _ _ nsp.over (fun _ h => by cases h) (by kernel_rfl) (fun _ h => by cases h) termInspectsUpto_row_tie rfl ⟨rfl, rfl⟩ (by kernel_rfl) rfl nsp.plain (by kernel_rfl)
end Go.Proofs.YtakpnikkcinckaaDoor
