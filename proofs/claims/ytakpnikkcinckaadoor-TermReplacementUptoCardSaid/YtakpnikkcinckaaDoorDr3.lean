/- Part 3 of 3 of a proof. The law TermReplacement answers true for every input whose bulk is at most 1048576, and its arguments read as before: the second form's card. -/
import Derived.Test.YtakpnikkcinckaaDoorDr2
import Derived.Lib.ItoaNum
import Derived.Shelf.Strconv.Itoa3
import Derived.Test.YtakpnikkcinckaaDoorProg
import Derived.KernelRfl
import Derived.Test.YtakpnikkcinckaaDoorCards
import Derived.Test.YtakpnikkcinckaaDoorTie
import Derived.Deep.DeepHandedRow
import Derived.Lib.LaidTab
set_option linter.unusedVariables false
set_option linter.unusedSimpArgs false
set_option maxRecDepth 10000
namespace Ab
open Go Go.Proofs
theorem own_ac (t : Term) : t.bulk ≤ 1099511627775 → ∀ H, ACall Tryd.prog 58 [encT t] H (fun r H' => r = encT t ∧ H' = H) := by
  induction t using Term.ind with | _ n v xs ih
  intro hb H
  have hlen := Term.len_le (n := n) (v := v) (xs := xs)
  refine ACall_V (H.length) 26 [.cell 2 24] Tryd.func58 rfl rfl rfl ?_
  simp only [push_cast, Nat.reduceAdd, Nat.reduceSub, Nat.reduceMul, Nat.reduceLT, Nat.reduceLeDiff, Nat.reduceEqDiff, Int.reduceToNat, ↓reduceIte]
  refine AW_reserve 1 ?_
  refine AW_loopW (maskG 27 [2, 0, 8, 0, 0]) (fun (i : Nat) => [(14, .int .i64 i)]) (fun i => H ++ [.cells [.str n, .bool v, .sl .none (encTs xs)], .cells [.str [], .bool false, .sl .zero []], .cells [.str n, .bool v, gSl (H.length + 3) (encTs (xs.take i))], gTok 24 3 (encTs (xs.take i))]) (fun i => i ≤ xs.length) (fun i => xs.length - i) 0 (Nat.zero_le _) (by simp only [push_cast, Nat.reduceAdd, Nat.reduceSub, Nat.reduceMul, Nat.reduceLT, Nat.reduceLeDiff, Nat.reduceEqDiff, Int.reduceToNat, ↓reduceIte]) (fun i hi => ?_)
  simp only [push_cast, Nat.reduceAdd, Nat.reduceSub, Nat.reduceMul, Nat.reduceLT, Nat.reduceLeDiff, Nat.reduceEqDiff, Int.reduceToNat, ↓reduceIte]
  refine cI (fun h => ⟨by omega, ?_⟩) (fun h => ?_)
  · skip
    apply AW_drawE [some 18, some 19, some 20, some 21, some 22, some 23, some 24, none] [([false, false], _), ([true, false], _), ([true, true], _)] [none, none, none, none, none, some 0, none, some 1] 2 [(0, [false, false], [3]), (1, [false, false], [18]), (2, [false, false], [5]), (3, [false, false], [20]), (4, [false, false], [21]), (5, [false, false], [19, 2]), (6, [true, false], [3]), (7, [true, false], [23, 0]), (0, [true, false], [3]), (2, [true, false], [5])] [_, _, _, _, _, _, _, _]
    case' hm => exact dr
    case' hn => rfl
    case' hok => rfl
    case' hlen => rfl
    case' hd => rfl
    case' h0 => rfl
    case' hstep =>
     simp only [DAllG, push_cast, Option.isSome_some, Option.isSome_none]
     repeat' apply And.intro
     all_goals (apply DOne_V; simp only [push_cast, Nat.reduceAdd, Nat.reduceSub, Nat.reduceMul, Nat.reduceLT, Nat.reduceLeDiff, Nat.reduceEqDiff, Int.reduceToNat, ↓reduceIte] <;> first | exact rfl | omega | exact ⟨rfl, rfl⟩ | exact trivial | exact ⟨by omega, rfl⟩ | exact ⟨by omega, by omega, rfl⟩ | exact ⟨by omega, rfl, rfl⟩ | exact ⟨by omega, by omega, rfl, rfl⟩ | exact (ih _ (List.getElem_mem _) (arg_bulk hb i (by omega)) _).to ⟨rfl, rfl⟩ | (refine app1_T _ (H.length + 3) (xs.take i) xs[i] _ rfl rfl (by exact (agetN _ _ 3).trans rfl) sl22 sz24 by24 zr24 rfl (by decide) (by simp; omega) ?_; simp only [push_cast, Nat.reduceAdd, Nat.reduceSub, Nat.reduceMul, Nat.reduceLT, Nat.reduceLeDiff, Nat.reduceEqDiff, Int.reduceToNat, ↓reduceIte]; exact ⟨rfl, rfl⟩))
    case' hQ => skip
    simp only [push_cast, Nat.reduceAdd, Nat.reduceSub, Nat.reduceMul, Nat.reduceLT, Nat.reduceLeDiff, Nat.reduceEqDiff, Int.reduceToNat, ↓reduceIte, ← List.take_succ_eq_append_getElem (show i < xs.length by omega)]
    repeat' first | refine ⟨by omega, ?_⟩ | refine cI (fun _ => ?_) (fun _ => ?_)
    exact loopW_n (i + 1) (by omega) (by omega) (by simp only [push_cast, Nat.reduceAdd, Nat.reduceSub, Nat.reduceMul, Nat.reduceLT, Nat.reduceLeDiff, Nat.reduceEqDiff, Int.reduceToNat, ↓reduceIte])
  · simp only [push_cast, Nat.reduceAdd, Nat.reduceSub, Nat.reduceMul, Nat.reduceLT, Nat.reduceLeDiff, Nat.reduceEqDiff, Int.reduceToNat, ↓reduceIte, List.take_of_length_le (show xs.length ≤ i by omega)]
theorem fit_ac (t : Term) (hb : t.bulk ≤ 1099511627775) (H : List AObj) : ACall Tryd.prog 59 [encT t] H (fun r H' => r = (if fitsP t then .tup [encT t, .int .i64 0] else .tup [encT (.mk [] false []), .int .i64 3]) ∧ H' = H) := by
  refine ACall_V (H.length) 8 [.cell 2 24, .tmp 3] Tryd.func59 rfl rfl rfl ?_
  simp only [push_cast, Nat.reduceAdd, Nat.reduceSub, Nat.reduceMul, Nat.reduceLT, Nat.reduceLeDiff, Nat.reduceEqDiff, Int.reduceToNat, ↓reduceIte]
  refine (fits_ac t hb _).to ?_
  simp only [push_cast, Nat.reduceAdd, Nat.reduceSub, Nat.reduceMul, Nat.reduceLT, Nat.reduceLeDiff, Nat.reduceEqDiff, Int.reduceToNat, ↓reduceIte]
  refine cI (fun h => ?_) (fun h => ?_) <;> simp only [push_cast, Nat.reduceAdd, Nat.reduceSub, Nat.reduceMul, Nat.reduceLT, Nat.reduceLeDiff, Nat.reduceEqDiff, Int.reduceToNat, ↓reduceIte, h]
theorem sub_ac (t : Term) (p : List Int) (hb : t.bulk ≤ 1099511627775) (hlen : p.length < 1099511627776) (H : List AObj) :
    ACall Tryd.prog 57 [encT t, .sl .none (encP p)] H (fun r H' => r = (match atP t p with | some x => .tup [encT x, .bool true] | none => .tup [encT (.mk [] false []), .bool false]) ∧ H' = H) := by
  refine ACall_V (H.length) 29 [.cell 4 24, .tmp 5] Tryd.func57 rfl rfl rfl ?_
  simp only [push_cast, Nat.reduceAdd, Nat.reduceSub, Nat.reduceMul, Nat.reduceLT, Nat.reduceLeDiff, Nat.reduceEqDiff, Int.reduceToNat, ↓reduceIte]
  refine AW_loopW (maskG 31 [2, 1, 3, 0, 0]) (fun (q : Nat × Term) => [(10, .int .i64 q.1)]) (fun q => H ++ [.cells [.str q.2.name, .bool q.2.var, .sl .none (encTs q.2.args)], .cells [.str [], .bool false, .sl .zero []]]) (fun q => q.1 ≤ p.length ∧ atP t (p.take q.1) = some q.2) (fun q => p.length - q.1) (0, t) ⟨Nat.zero_le _, by cases t; rfl⟩ (by simp only [push_cast, Nat.reduceAdd, Nat.reduceSub, Nat.reduceMul, Nat.reduceLT, Nat.reduceLeDiff, Nat.reduceEqDiff, Int.reduceToNat, ↓reduceIte]) (fun ⟨i, x⟩ hi => ?_)
  obtain ⟨hi, hx⟩ := hi
  simp only at hi hx
  have hbx := at_bulk _ _ _ hx
  have hlx : x.args.length < x.bulk := by cases x; exact Term.len_le
  simp only [push_cast, Nat.reduceAdd, Nat.reduceSub, Nat.reduceMul, Nat.reduceLT, Nat.reduceLeDiff, Nat.reduceEqDiff, Int.reduceToNat, ↓reduceIte]
  refine cI (fun h => ⟨by omega, ?_⟩) (fun h => ?_)
  · have hs := at_step x p[i] (p.drop (i + 1))
    have hap := at_app (p.take i) (p.drop i) t
    rw [List.take_append_drop, hx, List.drop_eq_getElem_cons (by omega)] at hap
    simp only [Option.bind_some] at hap
    have hap2 := at_app (p.take i) [p[i]] t
    rw [hx, ← List.take_succ_eq_append_getElem (by omega)] at hap2
    simp only [Option.bind_some] at hap2
    refine cI (fun h1 => ?_) (fun h1 => cI (fun h2 => ?_) (fun h2 => ?_))
    · simp only [push_cast, Nat.reduceAdd, Nat.reduceSub, Nat.reduceMul, Nat.reduceLT, Nat.reduceLeDiff, Nat.reduceEqDiff, Int.reduceToNat, ↓reduceIte, hap, hs.2 (fun hh => by omega)]
    · simp only [push_cast, Nat.reduceAdd, Nat.reduceSub, Nat.reduceMul, Nat.reduceLT, Nat.reduceLeDiff, Nat.reduceEqDiff, Int.reduceToNat, ↓reduceIte, hap, hs.2 (fun hh => by omega)]
    · have hk : 0 ≤ p[i] ∧ p[i].toNat < x.args.length := ⟨by omega, by omega⟩
      have hs2 := (at_step x p[i] []).1 hk
      refine ⟨by omega, by omega, by omega, loopW_n (i + 1, x.args[p[i].toNat]) ⟨by simp only; omega, ?_⟩ (by simp only; omega) (by simp only [push_cast, Nat.reduceAdd, Nat.reduceSub, Nat.reduceMul, Nat.reduceLT, Nat.reduceLeDiff, Nat.reduceEqDiff, Int.reduceToNat, ↓reduceIte])⟩
      simp only
      rw [hap2, hs2]
      cases x.args[p[i].toNat]; rfl
  · rw [List.take_of_length_le (by omega)] at hx
    simp only [push_cast, Nat.reduceAdd, Nat.reduceSub, Nat.reduceMul, Nat.reduceLT, Nat.reduceLeDiff, Nat.reduceEqDiff, Int.reduceToNat, ↓reduceIte, hx]
theorem set_step (n : List UInt8) (v : Bool) (xs : List Term) (k : Int) (p : List Int) (x : Term) (h0 : 0 ≤ k) : setP (.mk n v xs) (k :: p) x = .mk n v (xs.set k.toNat (setP (xs.getD k.toNat (.mk [] false [])) p x)) := rfl
theorem set_ac (x : Term) (hx : x.bulk ≤ 1099511627775) (t : Term) : t.bulk ≤ 1099511627775 → ∀ (p : List Int), p.length < 1099511627776 → (∃ y, atP t p = some y) → ∀ H,
    ACall Tryd.prog 60 [encT t, .sl .none (encP p), encT x] H (fun r H' => r = encT (setP t p x) ∧ H' = H) := by
  induction t using Term.ind with | _ n v xs ih
  intro hb p hpl hat H
  have hlen := Term.len_le (n := n) (v := v) (xs := xs)
  cases p with
  | nil =>
    refine ACall_V (H.length) 45 [.cell 6 24] Tryd.func60 rfl rfl rfl ?_
    simp only [push_cast, Nat.reduceAdd, Nat.reduceSub, Nat.reduceMul, Nat.reduceLT, Nat.reduceLeDiff, Nat.reduceEqDiff, Int.reduceToNat, ↓reduceIte]
    refine (own_ac x hx _).to ?_
    simp only [push_cast, Nat.reduceAdd, Nat.reduceSub, Nat.reduceMul, Nat.reduceLT, Nat.reduceLeDiff, Nat.reduceEqDiff, Int.reduceToNat, ↓reduceIte, setP]
  | cons k p =>
    obtain ⟨y, hy⟩ := hat
    simp only [atP] at hy
    split at hy
    · rename_i hk
      have hg : xs.getD k.toNat (.mk [] false []) = xs[k.toNat] := by simp [hk.2]
      rw [set_step _ _ _ _ _ _ hk.1, hg]
      refine ACall_V (H.length) 45 [.cell 6 24] Tryd.func60 rfl rfl rfl ?_
      simp only [push_cast, Nat.reduceAdd, Nat.reduceSub, Nat.reduceMul, Nat.reduceLT, Nat.reduceLeDiff, Nat.reduceEqDiff, Int.reduceToNat, ↓reduceIte]
      refine cI (fun h => by omega) (fun _ => ?_)
      obtain ⟨Y, hY⟩ : ∃ Y, Y = xs.set k.toNat (setP xs[k.toNat] p x) := ⟨_, rfl⟩
      have hYl : Y.length = xs.length := by rw [hY]; simp
      have hYe : ∀ i (h : i < Y.length), i = k.toNat → Y[i] = setP xs[k.toNat] p x := fun i h e => by subst hY; subst e; simp
      have hYn : ∀ i (h : i < Y.length) (h' : i < xs.length), i ≠ k.toNat → Y[i] = xs[i] := fun i h h' e => by subst hY; rw [List.getElem_set_ne (Ne.symm e)]
      rw [← hY]
      refine AW_reserve 1 ?_
      refine AW_loopW (maskG 48 [1, 3, 0, 0, 13, 0, 0]) (fun (i : Nat) => [(23, .int .i64 i)]) (fun i => H ++ [.cells [.str n, .bool v, .sl .none (encTs xs)], .cells [.str x.name, .bool x.var, .sl .none (encTs x.args)], .cells [.str [], .bool false, .sl .zero []], .cells [.str n, .bool v, gSl (H.length + 4) (encTs (Y.take i))], gTok 24 3 (encTs (Y.take i))]) (fun i => i ≤ xs.length) (fun i => xs.length - i) 0 (Nat.zero_le _) (by simp only [push_cast, Nat.reduceAdd, Nat.reduceSub, Nat.reduceMul, Nat.reduceLT, Nat.reduceLeDiff, Nat.reduceEqDiff, Int.reduceToNat, ↓reduceIte]) (fun i hi => ?_)
      simp only [push_cast, Nat.reduceAdd, Nat.reduceSub, Nat.reduceMul, Nat.reduceLT, Nat.reduceLeDiff, Nat.reduceEqDiff, Int.reduceToNat, ↓reduceIte]
      refine cI (fun h => ?_) (fun h => ?_)
      · repeat refine ⟨by omega, ?_⟩
        have hxm := arg_bulk hb i (by omega)
        refine cI (fun hik => ?_) (fun hik => ?_)
        · have hik2 : i = k.toNat := by omega
          have hxe : xs[i]'(by omega) = xs[k.toNat] := by subst hik2; rfl
          simp only [push_cast, Nat.reduceAdd, Nat.reduceSub, Nat.reduceMul, Nat.reduceLT, Nat.reduceLeDiff, Nat.reduceEqDiff, Int.reduceToNat, ↓reduceIte, hxe]
          apply AW_drawE [some 33, some 34, some 35, some 36, some 37, none] [([false], _), ([true], _)] [none, none, none, none, none, some 0] 1 [(0, [false], [9]), (1, [false], [1]), (2, [false], [34]), (3, [false], [5]), (4, [false], [33, 1, 0]), (5, [false], [9, 27])] [_, _, _, _, _, _]
          case' hm => exact dr
          case' hn => rfl
          case' hok => rfl
          case' hlen => rfl
          case' hd => rfl
          case' h0 => rfl
          case' hstep =>
           simp only [DAllG, push_cast, Option.isSome_some, Option.isSome_none]
           repeat' apply And.intro
           all_goals (apply DOne_V; simp only [push_cast, Nat.reduceAdd, Nat.reduceSub, Nat.reduceMul, Nat.reduceLT, Nat.reduceLeDiff, Nat.reduceEqDiff, Int.reduceToNat, ↓reduceIte] <;> first | exact rfl | omega | exact ⟨rfl, rfl⟩ | exact trivial | exact ⟨by omega, rfl⟩ | exact ⟨by omega, by omega, rfl⟩ | exact ⟨by omega, rfl, rfl⟩ | exact ⟨by omega, by omega, rfl, rfl⟩ | exact (ih _ (List.getElem_mem _) (by rw [← hxe]; exact hxm) p (by simp at hpl; omega) ⟨y, hy⟩ _).to ⟨rfl, rfl⟩)
          case' hQ => skip
          simp only [push_cast, Nat.reduceAdd, Nat.reduceSub, Nat.reduceMul, Nat.reduceLT, Nat.reduceLeDiff, Nat.reduceEqDiff, Int.reduceToNat, ↓reduceIte]
          refine app1_T _ (H.length + 4) (Y.take i) (setP xs[k.toNat] p x) _ rfl rfl (by exact (agetN _ _ 4).trans rfl) sl22 sz24 by24 zr24 rfl (by decide) (by simp; omega) ?_
          simp only [push_cast, Nat.reduceAdd, Nat.reduceSub, Nat.reduceMul, Nat.reduceLT, Nat.reduceLeDiff, Nat.reduceEqDiff, Int.reduceToNat, ↓reduceIte, ← hYe i (by omega) hik2, ← List.take_succ_eq_append_getElem (show i < Y.length by omega)]
          repeat' first | refine ⟨by omega, ?_⟩ | refine cI (fun _ => ?_) (fun _ => ?_)
          exact loopW_n (i + 1) (by omega) (by omega) (by simp only [push_cast, Nat.reduceAdd, Nat.reduceSub, Nat.reduceMul, Nat.reduceLT, Nat.reduceLeDiff, Nat.reduceEqDiff, Int.reduceToNat, ↓reduceIte])
        · refine (own_ac _ hxm _).to ?_
          simp only [push_cast, Nat.reduceAdd, Nat.reduceSub, Nat.reduceMul, Nat.reduceLT, Nat.reduceLeDiff, Nat.reduceEqDiff, Int.reduceToNat, ↓reduceIte]
          refine app1_T _ (H.length + 4) (Y.take i) xs[i] _ rfl rfl (by exact (agetN _ _ 4).trans rfl) sl22 sz24 by24 zr24 rfl (by decide) (by simp; omega) ?_
          simp only [push_cast, Nat.reduceAdd, Nat.reduceSub, Nat.reduceMul, Nat.reduceLT, Nat.reduceLeDiff, Nat.reduceEqDiff, Int.reduceToNat, ↓reduceIte, ← hYn i (by omega) (by omega) (by omega), ← List.take_succ_eq_append_getElem (show i < Y.length by omega)]
          repeat' first | refine ⟨by omega, ?_⟩ | refine cI (fun _ => ?_) (fun _ => ?_)
          exact loopW_n (i + 1) (by omega) (by omega) (by simp only [push_cast, Nat.reduceAdd, Nat.reduceSub, Nat.reduceMul, Nat.reduceLT, Nat.reduceLeDiff, Nat.reduceEqDiff, Int.reduceToNat, ↓reduceIte])
      · simp only [push_cast, Nat.reduceAdd, Nat.reduceSub, Nat.reduceMul, Nat.reduceLT, Nat.reduceLeDiff, Nat.reduceEqDiff, Int.reduceToNat, ↓reduceIte, List.take_of_length_le (show Y.length ≤ i by omega)]
    · cases hy
def zeroT : Term := .mk [] false []
@[reducible] def encRE (q : Term × Int) : AV := .tup [encT q.1, .int .i64 q.2]
def atE (t : Term) (p : List Int) : Term × Int := if checkP t = 0 then (match atP t p with | some x => (x, 0) | none => (zeroT, 8)) else (zeroT, checkP t)
def putE (t : Term) (p : List Int) (x : Term) : Term × Int := if checkP t = 0 then (match atP t p with | some _ => if checkP x = 0 then (if fitsP (putP t p x) then (putP t p x, 0) else (zeroT, 3)) else (zeroT, checkP x) | none => (zeroT, 8)) else (zeroT, checkP t)
theorem zeroT_n : zeroT.name = [] := rfl
theorem zeroT_v : zeroT.var = false := rfl
theorem zeroT_a : encTs zeroT.args = [] := encTs_nil
attribute [push_cast] zeroT_n zeroT_v zeroT_a
theorem at_ac (t : Term) (p : List Int) (hb : t.bulk ≤ 1099511627775) (hlen : p.length < 1099511627776) (H : List AObj) :
    ACall Tryd.prog 15 [encT t, .sl .none (encP p)] H (fun r H' => r = encRE (atE t p) ∧ H' = H) := by
  unfold atE
  refine ACall_V (H.length) 24 [.cell 4 24, .tmp 5] Tryd.func15 rfl rfl rfl ?_
  simp only [push_cast, Nat.reduceAdd, Nat.reduceSub, Nat.reduceMul, Nat.reduceLT, Nat.reduceLeDiff, Nat.reduceEqDiff, Int.reduceToNat, ↓reduceIte]
  refine (check_ac t hb _).to ?_
  simp only [push_cast, Nat.reduceAdd, Nat.reduceSub, Nat.reduceMul, Nat.reduceLT, Nat.reduceLeDiff, Nat.reduceEqDiff, Int.reduceToNat, ↓reduceIte]
  refine cI (fun h => ?_) (fun h => ?_)
  · refine (sub_ac t p hb hlen _).to ?_
    cases hx : atP t p with
    | none => simp only [push_cast, Nat.reduceAdd, Nat.reduceSub, Nat.reduceMul, Nat.reduceLT, Nat.reduceLeDiff, Nat.reduceEqDiff, Int.reduceToNat, ↓reduceIte, h]
    | some x =>
      simp only [push_cast, Nat.reduceAdd, Nat.reduceSub, Nat.reduceMul, Nat.reduceLT, Nat.reduceLeDiff, Nat.reduceEqDiff, Int.reduceToNat, ↓reduceIte]
      refine (own_ac x (Nat.le_trans (at_bulk _ _ _ hx) hb) _).to ?_
      simp only [push_cast, Nat.reduceAdd, Nat.reduceSub, Nat.reduceMul, Nat.reduceLT, Nat.reduceLeDiff, Nat.reduceEqDiff, Int.reduceToNat, ↓reduceIte, h]
  · simp only [push_cast, Nat.reduceAdd, Nat.reduceSub, Nat.reduceMul, Nat.reduceLT, Nat.reduceLeDiff, Nat.reduceEqDiff, Int.reduceToNat, ↓reduceIte, h]
theorem put_ac (t : Term) (p : List Int) (x : Term) (hb : t.bulk + x.bulk ≤ 1099511627775) (hlen : p.length < 1099511627776) (H : List AObj) :
    ACall Tryd.prog 16 [encT t, .sl .none (encP p), encT x] H (fun r H' => r = encRE (putE t p x) ∧ H' = H) := by
  unfold putE
  refine ACall_V (H.length) 37 [.cell 6 24, .tmp 7] Tryd.func16 rfl rfl rfl ?_
  simp only [push_cast, Nat.reduceAdd, Nat.reduceSub, Nat.reduceMul, Nat.reduceLT, Nat.reduceLeDiff, Nat.reduceEqDiff, Int.reduceToNat, ↓reduceIte]
  refine (check_ac t (by omega) _).to ?_
  simp only [push_cast, Nat.reduceAdd, Nat.reduceSub, Nat.reduceMul, Nat.reduceLT, Nat.reduceLeDiff, Nat.reduceEqDiff, Int.reduceToNat, ↓reduceIte]
  refine cI (fun h => ?_) (fun h => ?_)
  · refine (sub_ac t p (by omega) hlen _).to ?_
    cases hx : atP t p with
    | none => simp only [push_cast, Nat.reduceAdd, Nat.reduceSub, Nat.reduceMul, Nat.reduceLT, Nat.reduceLeDiff, Nat.reduceEqDiff, Int.reduceToNat, ↓reduceIte, h]
    | some y =>
      simp only [push_cast, Nat.reduceAdd, Nat.reduceSub, Nat.reduceMul, Nat.reduceLT, Nat.reduceLeDiff, Nat.reduceEqDiff, Int.reduceToNat, ↓reduceIte]
      refine (check_ac x (by omega) _).to ?_
      simp only [push_cast, Nat.reduceAdd, Nat.reduceSub, Nat.reduceMul, Nat.reduceLT, Nat.reduceLeDiff, Nat.reduceEqDiff, Int.reduceToNat, ↓reduceIte]
      refine cI (fun h2 => ?_) (fun h2 => ?_)
      · refine (set_ac x (by omega) t (by omega) p hlen ⟨y, hx⟩ _).to ?_
        have hpb := put_bulk x p t y hx
        rw [setP_put p t x y hx ((checkP_iff t).1 h).1]
        simp only [push_cast, Nat.reduceAdd, Nat.reduceSub, Nat.reduceMul, Nat.reduceLT, Nat.reduceLeDiff, Nat.reduceEqDiff, Int.reduceToNat, ↓reduceIte]
        refine (fit_ac _ (by omega) _).to ?_
        cases hf : fitsP (putP t p x) <;> simp only [push_cast, Nat.reduceAdd, Nat.reduceSub, Nat.reduceMul, Nat.reduceLT, Nat.reduceLeDiff, Nat.reduceEqDiff, Int.reduceToNat, ↓reduceIte, h, h2]
      · simp only [push_cast, Nat.reduceAdd, Nat.reduceSub, Nat.reduceMul, Nat.reduceLT, Nat.reduceLeDiff, Nat.reduceEqDiff, Int.reduceToNat, ↓reduceIte, h, h2]
  · simp only [push_cast, Nat.reduceAdd, Nat.reduceSub, Nat.reduceMul, Nat.reduceLT, Nat.reduceLeDiff, Nat.reduceEqDiff, Int.reduceToNat, ↓reduceIte, h]
end Ab
set_option maxRecDepth 10000
namespace Ab
open Go Go.Proofs
@[reducible] def encQ (p : List Int) : AV := .sl .none (encP p)
theorem uniQ (l : List (List Int)) : Uni (0 + 1) (encL encQ l) = True := eq_true (uni_encL (enc := encQ) (k := 1) (fun _ => rfl) l)
theorem scQ_ (n : Nat) (l : List (List Int)) : ScopedL n (encL encQ l) = True := eq_true (scoped_encL (fun p => by simp [Scoped, scoped_encP]) l)
theorem strip_encQ (n : Nat) (l : List (List Int)) : stripL n (encL encQ l) = encL encQ l := by rw [stripL_eq, encL, List.map_map]; congr 1; funext p; simp only [Function.comp, strip, stripTok, stripL_encP]
attribute [push_cast] uniQ scQ_ strip_encQ
def posP (t : Term) : List (List Int) := (walkT t []).map (·.1)
theorem clone2_ac (p : List Int) (hb : p.length ≤ 1099511627776) (H : List AObj) : ACall Tryd.prog 56 [.sl .none (encP p)] H (fun r H' => r = encQ p ∧ H' = H) := by
  have hl : (encP p).length = p.length := encL_length _ _
  refine ACall_V (H.length) 7 [.tmp 2] Tryd.func56 rfl rfl rfl ?_
  simp only [push_cast, Nat.reduceAdd, Nat.reduceSub, Nat.reduceMul, Nat.reduceLT, Nat.reduceLeDiff, Nat.reduceEqDiff, Int.reduceToNat, ↓reduceIte]
  refine AOp_eql_nil _ _ rfl sl30 (fun b hb => ?_)
  simp only [push_cast, Nat.reduceAdd, Nat.reduceSub, Nat.reduceMul, Nat.reduceLT, Nat.reduceLeDiff, Nat.reduceEqDiff, Int.reduceToNat, ↓reduceIte]
  by_cases hp : p = []
  · subst hp
    refine cI (fun _ => ?_) (fun _ => ?_)
    · simp only [push_cast, Nat.reduceAdd, Nat.reduceSub, Nat.reduceMul, Nat.reduceLT, Nat.reduceLeDiff, Nat.reduceEqDiff, Int.reduceToNat, ↓reduceIte]
    · refine AOp_append_zero0 _ _ rfl rfl sl30 sz3 by3 zr3 ?_
      simp only [push_cast, Nat.reduceAdd, Nat.reduceSub, Nat.reduceMul, Nat.reduceLT, Nat.reduceLeDiff, Nat.reduceEqDiff, Int.reduceToNat, ↓reduceIte]
  · have hne : encP p ≠ [] := fun h => hp (List.eq_nil_of_length_eq_zero (by rw [← hl, h]; rfl))
    have hfl : flat (encP p) ≠ [] := fun h => by
      have := flat_length (uni_encP p)
      rw [h, hl] at this
      have := List.length_pos_iff.2 hp
      simp at *; omega
    refine cI (fun hb' => by rw [hb hfl] at hb'; cases hb') (fun _ => ?_)
    refine AOp_append_zero _ _ _ rfl rfl sl30 sz3 by3 zr3 rfl (by decide) (uni_encP p) (cell_encP p) hne (by omega) (by omega) ?_
    simp only [push_cast, Nat.reduceAdd, Nat.reduceSub, Nat.reduceMul, Nat.reduceLT, Nat.reduceLeDiff, Nat.reduceEqDiff, Int.reduceToNat, ↓reduceIte]
theorem walkL_pos (xs : List Term) : ∀ (i : Int) (q : List Int) x, x ∈ walkL xs i q → x.1.length ≤ q.length + (xs.map Term.size).sum := by
  have key : ∀ n (xs : List Term), (xs.map Term.size).sum < n → ∀ (i : Int) (q : List Int) x, x ∈ walkL xs i q → x.1.length ≤ q.length + (xs.map Term.size).sum := by
    intro n
    induction n with
    | zero => intro xs h; omega
    | succ n ih =>
      intro xs hn i q x hx
      cases xs with
      | nil => simp [walkL] at hx
      | cons t r =>
        cases t with
        | mk nm v ys =>
          simp only [List.map_cons, List.sum_cons, Term.size_mk] at hn ⊢
          simp only [walkL, List.mem_cons, List.mem_append] at hx
          rcases hx with rfl | hx | hx
          · simp; omega
          · have := ih ys (by omega) 0 _ x hx; simp at this; omega
          · have := ih r (by omega) _ _ x hx; omega
  exact key _ xs (Nat.lt_succ_self _)
theorem walk_pos_len (t : Term) (q : List Int) : ∀ x, x ∈ walkT t q → x.1.length < q.length + t.size := by
  intro x hx
  cases t with
  | mk n v xs =>
    rw [Term.size_mk]
    simp only [walkT, List.mem_cons, Term.mk_args] at hx
    rcases hx with rfl | hx
    · simp; omega
    · have := walkL_pos xs 0 q x hx; omega
theorem positions_ac (t : Term) (hb : t.bulk ≤ 1099511627775) (H : List AObj) : ACall Tryd.prog 14 [encT t] H
    (fun r H' => r = (if checkP t = 0 then .tup [.sl .none (encL encQ (posP t)), .int .i64 0] else .tup [.sl .none [], .int .i64 (checkP t)]) ∧ H' = H) := by
  have hsz := t.size_le
  refine ACall_V (H.length) 21 [.tmp 2, .tmp 3] Tryd.func14 rfl rfl rfl ?_
  simp only [push_cast, Nat.reduceAdd, Nat.reduceSub, Nat.reduceMul, Nat.reduceLT, Nat.reduceLeDiff, Nat.reduceEqDiff, Int.reduceToNat, ↓reduceIte]
  refine (check_ac t hb _).to ?_
  simp only [push_cast, Nat.reduceAdd, Nat.reduceSub, Nat.reduceMul, Nat.reduceLT, Nat.reduceLeDiff, Nat.reduceEqDiff, Int.reduceToNat, ↓reduceIte]
  refine cI (fun h => ?_) (fun h => ?_)
  · refine (walkF_ac t _).to ?_
    simp only [push_cast, Nat.reduceAdd, Nat.reduceSub, Nat.reduceMul, Nat.reduceLT, Nat.reduceLeDiff, Nat.reduceEqDiff, Int.reduceToNat, ↓reduceIte]
    refine AW_reserve 1 ?_
    refine AW_iterW _ _ (walk_iter t hb _) H (fun pre => [.cells [.str t.name, .bool t.var, .sl .none (encTs t.args)], .cells [gSl (H.length + 3) (encL encQ (pre.map (·.1)))], .cells [.str t.name, .bool t.var, .sl .none (encTs t.args)], gTok 30 1 (encL encQ (pre.map (·.1)))]) 4 (fun _ _ => none) rfl ok96 (by simp only [push_cast, Nat.reduceAdd, Nat.reduceSub, Nat.reduceMul, Nat.reduceLT, Nat.reduceLeDiff, Nat.reduceEqDiff, Int.reduceToNat, ↓reduceIte]) (fun _ => rfl) (fun lp => by simp only [push_cast, Nat.reduceAdd, Nat.reduceSub, Nat.reduceMul, Nat.reduceLT, Nat.reduceLeDiff, Nat.reduceEqDiff, Int.reduceToNat, ↓reduceIte]) (fun p => by simp only [push_cast, Nat.reduceAdd, Nat.reduceSub, Nat.reduceMul, Nat.reduceLT, Nat.reduceLeDiff, Nat.reduceEqDiff, Int.reduceToNat, ↓reduceIte]) (fun _ => rfl) (fun pre x suf X l lp lp' he hn => ?_) (fun _ lp => ?_) (fun pre x suf c lp _ _ h => by cases h)
    · have hx := walk_pos_len t [] x (by rw [he]; simp)
      have hpl : pre.length < t.size := by have := walkT_length t []; rw [he] at this; simp at this; omega
      simp only [push_cast, Nat.reduceAdd, Nat.reduceSub, Nat.reduceMul, Nat.reduceLT, Nat.reduceLeDiff, Nat.reduceEqDiff, Int.reduceToNat, ↓reduceIte, List.drop_length]
      apply AW_drawE [some 16, some 17, some 18, some 19, some 20, none] [([false, false], _), ([true, false], _), ([true, true], _)] [none, none, none, none, some 0, some 1] 2 [(0, [false, false], [5]), (1, [false, false], [6]), (2, [false, false], [17]), (3, [false, false], [18]), (4, [false, false], [16, 2]), (5, [true, false], [5, 14]), (1, [true, false], [6])] [_, _, _, _, _, _]
      case' hm => exact dr
      case' hn => rfl
      case' hok => rfl
      case' hlen => rfl
      case' hd => rfl
      case' h0 => rfl
      case' hstep =>
       simp only [DAllG, push_cast, Option.isSome_some, Option.isSome_none]
       repeat' apply And.intro
       all_goals (apply DOne_V; simp only [push_cast, Nat.reduceAdd, Nat.reduceSub, Nat.reduceMul, Nat.reduceLT, Nat.reduceLeDiff, Nat.reduceEqDiff, Int.reduceToNat, ↓reduceIte] <;> first | exact rfl | omega | exact ⟨rfl, rfl⟩ | exact trivial | exact ⟨by omega, rfl⟩ | exact ⟨by omega, by omega, rfl⟩ | exact ⟨by omega, rfl, rfl⟩ | exact ⟨by omega, by omega, rfl, rfl⟩ | exact (clone2_ac x.1 (by simp at hx; omega) _).to ⟨rfl, rfl⟩ | (refine app1_L encQ (sz := 1) (fun _ => rfl) (by intro x c hc; simp [AV.cells] at hc; subst hc; rfl) _ (H.length + 3) (pre.map (·.1)) x.1 _ rfl rfl (by exact (agetN _ _ 3).trans rfl) sl31 sz30 by30 zr30 rfl (by decide) (by decide) (by simp; omega) ?_; simp only [push_cast, Nat.reduceAdd, Nat.reduceSub, Nat.reduceMul, Nat.reduceLT, Nat.reduceLeDiff, Nat.reduceEqDiff, Int.reduceToNat, ↓reduceIte]; exact ⟨rfl, rfl⟩))
      case' hQ => skip
      simp only [push_cast, Nat.reduceAdd, Nat.reduceSub, Nat.reduceMul, Nat.reduceLT, Nat.reduceLeDiff, Nat.reduceEqDiff, Int.reduceToNat, ↓reduceIte]
      simp
    · simp only [push_cast, Nat.reduceAdd, Nat.reduceSub, Nat.reduceMul, Nat.reduceLT, Nat.reduceLeDiff, Nat.reduceEqDiff, Int.reduceToNat, ↓reduceIte, h, posP]
  · simp only [push_cast, Nat.reduceAdd, Nat.reduceSub, Nat.reduceMul, Nat.reduceLT, Nat.reduceLeDiff, Nat.reduceEqDiff, Int.reduceToNat, ↓reduceIte, h]
end Ab
set_option maxRecDepth 10000
namespace Ab
open Go Go.Proofs
section
variable {S : Type} (f : S → List UInt8 → S × List UInt8)
def renL : S → List Term → S × List Term
  | s, [] => (s, [])
  | s, .mk n v xs :: r => if v then ((renL (f s n).1 r).1, .mk (f s n).2 true [] :: (renL (f s n).1 r).2) else ((renL (renL s xs).1 r).1, .mk n false (renL s xs).2 :: (renL (renL s xs).1 r).2)
def renP (s : S) (t : Term) : S × Term := match t with
  | .mk n v xs => if v then ((f s n).1, .mk (f s n).2 true []) else ((renL f s xs).1, .mk n false (renL f s xs).2)
theorem renL_cons (s : S) (t : Term) (r : List Term) : renL f s (t :: r) = ((renL f (renP f s t).1 r).1, (renP f s t).2 :: (renL f (renP f s t).1 r).2) := by
  cases t with | mk n v xs => cases v <;> simp [renL, renP]
theorem renL_snoc : ∀ (xs : List Term) (s : S) (t : Term), renL f s (xs ++ [t]) = ((renP f (renL f s xs).1 t).1, (renL f s xs).2 ++ [(renP f (renL f s xs).1 t).2])
  | [], s, t => by rw [List.nil_append, renL_cons]; simp [renL]
  | x :: xs, s, t => by rw [List.cons_append, renL_cons, renL_snoc xs _ t, renL_cons]; simp
theorem renL_length : ∀ (xs : List Term) (s : S), (renL f s xs).2.length = xs.length
  | [], s => by simp [renL]
  | x :: xs, s => by rw [renL_cons]; simp [renL_length xs]
theorem ren_mu (μ : S → Nat) (hμ : ∀ s v, μ (f s v).1 ≤ μ s + 1) (t : Term) : ∀ s, μ (renP f s t).1 ≤ μ s + t.size := by
  induction t using Term.ind with | _ n v xs ih
  intro s
  have key : ∀ (xs : List Term), (∀ x, x ∈ xs → ∀ s, μ (renP f s x).1 ≤ μ s + x.size) → ∀ s, μ (renL f s xs).1 ≤ μ s + (xs.map Term.size).sum := by
    intro xs
    induction xs with
    | nil => intro _ s; simp [renL]
    | cons x xs ih2 =>
      intro h s
      have h1 := h x (by simp) s
      have h2 := ih2 (fun y hy => h y (by simp [hy])) (renP f s x).1
      rw [renL_cons]; simp only [List.map_cons, List.sum_cons]; omega
  rw [Term.size_mk]
  cases v with
  | true => have := hμ s n; simp [renP]; omega
  | false => have := key xs ih s; simp [renP]; omega
theorem renL_mu (μ : S → Nat) (hμ : ∀ s v, μ (f s v).1 ≤ μ s + 1) : ∀ (xs : List Term) s, μ (renL f s xs).1 ≤ μ s + (xs.map Term.size).sum
  | [], s => by simp [renL]
  | x :: xs, s => by
    have h1 := ren_mu f μ hμ x s
    have h2 := renL_mu μ hμ xs (renP f s x).1
    rw [renL_cons]; simp only [List.map_cons, List.sum_cons]; omega
theorem renamed_ac (hp : S → List AObj) (n : Nat) (hlen : ∀ s, (hp s).length = n) (hsc : ∀ s o, o ∈ hp s → OScoped n o) (μ : S → Nat) (hμ : ∀ s v, μ (f s v).1 ≤ μ s + 1) (K : Nat) (g : Nat) (caps : List AV) (hg : callOk Tryd.prog g = true) (hcp : ScopedL n caps)
    (hf : ∀ s v X, μ s < K → v.length ≤ 1099511627775 → ACall Tryd.prog g (.str v :: caps) (hp s ++ X) (fun r H' => r = .str (f s v).2 ∧ H' = hp (f s v).1 ++ X)) (t : Term) :
    t.bulk ≤ 1099511627775 → ∀ s X, μ s + t.size ≤ K → ACall Tryd.prog 70 [encT t, .fn g caps] (hp s ++ X) (fun r H' => r = encT (renP f s t).2 ∧ H' = hp (renP f s t).1 ++ X) := by
  induction t using Term.ind with | _ nm v xs ih
  intro hb s X hK
  have hlen2 := Term.len_le (n := nm) (v := v) (xs := xs)
  have hnl := Term.name_le (n := nm) (v := v) (xs := xs)
  rw [Term.size_mk] at hK
  obtain ⟨G, hG⟩ : ∃ G : S → List AObj, ∀ s, G s = hp s ++ X := ⟨fun s => hp s ++ X, fun _ => rfl⟩
  obtain ⟨N, hN⟩ : ∃ N, N = n + X.length := ⟨_, rfl⟩
  have hGl : ∀ s, (G s).length = N := fun s => by rw [hG, hN]; simp [hlen]
  have hg0 : ∀ s L, (G s ++ L)[N]? = L[0]? := fun q L => by have := agetN (G q) L 0; rw [hGl] at this; exact this
  have hgk : ∀ s L k, (G s ++ L)[N + k]? = L[k]? := fun q L k => by rw [← hGl q]; exact agetN _ _ _
  have ht0 : ∀ s L, (G s ++ L).take N = G s := fun q L => takeE0 (hGl q)
  have htk : ∀ s L k, (G s ++ L).take (N + k) = G s ++ L.take k := fun q L k => takeEN (hGl q)
  have hsk : ∀ s L k x, (G s ++ L).set (N + k) x = G s ++ L.set k x := fun q L k x => hsetEN (hGl q)
  have hs0 : ∀ s L x, (G s ++ L).set N x = G s ++ L.set 0 x := fun q L x => hsetE0 (hGl q)
  have hout : ∀ q k L, scT (N + k) k L → OutOk (G s) (G q ++ L) (N + k) := fun q k L h => by
    rw [hG, hG]; exact outok_hp k (by rw [hlen, hlen]) (fun o ho => by rw [hlen]; exact hsc _ o ho) (by simp [hlen, hN]) (scT_spec h).1 (scT_spec h).2
  have hou0 : ∀ q L, OutOk (G s) (G q ++ L) N = True := fun q L => eq_true (hout q 0 L trivial)
  have houk : ∀ q k L, scT (N + k) k L → OutOk (G s) (G q ++ L) (N + k) = True := fun q k L h => eq_true (hout q k L h)
  have hcpk : ∀ k, ScopedL (N + k) caps := fun k => scopedL_le (n := n) (by omega) caps hcp
  have hcp0 : ScopedL N caps := scopedL_le (n := n) (by omega) caps hcp
  have hf' : ∀ q v L, μ q < K → v.length ≤ 1099511627775 → ACall Tryd.prog g (.str v :: caps) (G q ++ L) (fun r H' => r = .str (f q v).2 ∧ H' = G (f q v).1 ++ L) := fun q v L h1 h2 => by
    have := hf q v (X ++ L) h1 h2
    simpa only [hG, List.append_assoc] using this
  have ih' : ∀ x, x ∈ xs → ∀ q L, μ q + x.size ≤ K → ACall Tryd.prog 70 [encT x, .fn g caps] (G q ++ L) (fun r H' => r = encT (renP f q x).2 ∧ H' = G (renP f q x).1 ++ L) := fun x hx q L h1 => by
    have hbx := Term.arg_le (n := nm) (v := v) hx
    have := ih x hx (by omega) q (X ++ L) h1
    simpa only [hG, List.append_assoc] using this
  have hgoal : ∀ (r : AV) (H' : List AObj), (r = encT (renP f s (.mk nm v xs)).2 ∧ H' = G (renP f s (.mk nm v xs)).1) → (r = encT (renP f s (.mk nm v xs)).2 ∧ H' = hp (renP f s (.mk nm v xs)).1 ++ X) := fun r H' h => by rw [← hG]; exact h
  rw [← hG]
  refine ACall.mono ?_ hgoal
  clear hgoal hG
  refine ACall_V (N) 33 [.cell 4 24] Tryd.func70 rfl rfl rfl ?_
  simp only [push_cast, Nat.reduceAdd, Nat.reduceSub, Nat.reduceMul, Nat.reduceLT, Nat.reduceLeDiff, Nat.reduceEqDiff, Int.reduceToNat, ↓reduceIte, hGl, hg0, hgk, hsk, hs0, hg]
  refine cI (fun hv => ?_) (fun hv => ?_)
  · subst hv
    refine (hf' s nm _ (by omega) (by omega)).to ?_
    simp only [push_cast, Nat.reduceAdd, Nat.reduceSub, Nat.reduceMul, Nat.reduceLT, Nat.reduceLeDiff, Nat.reduceEqDiff, Int.reduceToNat, ↓reduceIte, hGl, hg0, hgk, hsk, hs0, hou0, ht0, renP]
  · have hv : v = false := by simpa using hv
    subst hv
    refine AW_reserve 1 ?_
    refine AW_loopW (maskG 35 [1, 2, 0, 13, 0, 0]) (fun (i : Nat) => [(21, .int .i64 i)]) (fun i => G (renL f s (xs.take i)).1 ++ [.cells [.str nm, .bool false, .sl .none (encTs xs)], .cells [.str [], .bool false, .sl .zero []], .cells [.str nm, .bool false, gSl (N + 3) (encTs (renL f s (xs.take i)).2)], gTok 24 3 (encTs (renL f s (xs.take i)).2)]) (fun i => i ≤ xs.length) (fun i => xs.length - i) 0 (Nat.zero_le _) (by simp only [push_cast, Nat.reduceAdd, Nat.reduceSub, Nat.reduceMul, Nat.reduceLT, Nat.reduceLeDiff, Nat.reduceEqDiff, Int.reduceToNat, ↓reduceIte, hGl, houk, htk, hcpk, renL]) (fun i hi => ?_)
    simp only [push_cast, Nat.reduceAdd, Nat.reduceSub, Nat.reduceMul, Nat.reduceLT, Nat.reduceLeDiff, Nat.reduceEqDiff, Int.reduceToNat, ↓reduceIte, hGl, hg0, hgk, hsk, hs0, hou0, ht0]
    refine cI (fun h => ?_) (fun h => ?_)
    · repeat refine ⟨by omega, ?_⟩
      have hrl := renL_length f (xs.take i) s
      have hmu := renL_mu f μ hμ (xs.take i) s
      have hts := take_sum Term.size xs i (by omega)
      have htl := take_sum_le Term.size xs (i + 1)
      apply AW_drawE [some 25, some 26, some 27, some 28, some 29, some 30, some 31, some 32, none] [([false, false, false], _), ([true, false, false], _), ([true, true, false], _), ([true, true, true], _)] [none, none, none, none, some 0, none, some 1, none, some 2] 3 [(0, [false, false, false], [5]), (1, [false, false, false], [25]), (2, [false, false, false], [7]), (3, [false, false, false], [1]), (4, [false, false, false], [27, 0]), (5, [true, false, false], [29]), (6, [true, false, false], [26, 3]), (7, [true, true, false], [5]), (8, [true, true, false], [31, 0]), (0, [true, false, false], [5]), (0, [true, true, false], [5]), (1, [true, false, false], [25])] [_, _, _, _, _, _, _, _, _]
      case' hm => exact dr
      case' hn => rfl
      case' hok => rfl
      case' hlen => rfl
      case' hd => rfl
      case' h0 => rfl
      case' hstep =>
       simp only [DAllG, push_cast, Option.isSome_some, Option.isSome_none]
       repeat' apply And.intro
       all_goals (apply DOne_V; simp only [push_cast, Nat.reduceAdd, Nat.reduceSub, Nat.reduceMul, Nat.reduceLT, Nat.reduceLeDiff, Nat.reduceEqDiff, Int.reduceToNat, ↓reduceIte, hGl, hg0, hgk, hsk, hs0] <;> first | exact rfl | omega | exact ⟨rfl, rfl⟩ | exact trivial | exact ⟨by omega, rfl⟩ | exact ⟨by omega, by omega, rfl⟩ | exact ⟨by omega, rfl, rfl⟩ | exact ⟨by omega, by omega, rfl, rfl⟩ | exact (ih' _ (List.getElem_mem _) _ _ (by omega)).to ⟨rfl, rfl⟩ | (refine app1_T _ (N + 3) (renL f s (xs.take i)).2 (renP f (renL f s (xs.take i)).1 xs[i]).2 _ rfl rfl (by exact (hgk _ _ 3).trans rfl) sl22 sz24 by24 zr24 rfl (by decide) (by rw [hrl]; simp; omega) ?_; simp only [push_cast, Nat.reduceAdd, Nat.reduceSub, Nat.reduceMul, Nat.reduceLT, Nat.reduceLeDiff, Nat.reduceEqDiff, Int.reduceToNat, ↓reduceIte, hGl, hg0, hgk, hsk, hs0]; exact ⟨rfl, rfl⟩))
      case' hQ => skip
      simp only [push_cast, Nat.reduceAdd, Nat.reduceSub, Nat.reduceMul, Nat.reduceLT, Nat.reduceLeDiff, Nat.reduceEqDiff, Int.reduceToNat, ↓reduceIte, hGl, hg0, hgk, hsk, hs0, hou0, ht0]
      repeat' first | refine ⟨by omega, ?_⟩ | refine cI (fun _ => ?_) (fun _ => ?_)
      exact loopW_n (i + 1) (by omega) (by omega) (by simp only [push_cast, Nat.reduceAdd, Nat.reduceSub, Nat.reduceMul, Nat.reduceLT, Nat.reduceLeDiff, Nat.reduceEqDiff, Int.reduceToNat, ↓reduceIte, List.take_succ_eq_append_getElem (show i < xs.length by omega), renL_snoc, hGl, houk, htk, hcpk])
    · simp only [push_cast, Nat.reduceAdd, Nat.reduceSub, Nat.reduceMul, Nat.reduceLT, Nat.reduceLeDiff, Nat.reduceEqDiff, Int.reduceToNat, ↓reduceIte, List.take_of_length_le (show xs.length ≤ i by omega), renP]
end
end Ab
set_option maxRecDepth 10000
namespace Ab
open Go Go.Proofs
def xName (i : Nat) : List UInt8 := 120 :: Lib.decDigits i
def stdF (l : List (List UInt8)) (v : List UInt8) : List (List UInt8) × List UInt8 := if v ∈ l then (l, xName (l.idxOf v)) else (l ++ [v], xName l.length)
def stdM (l : List (List UInt8)) : List (List UInt8 × List UInt8) := l.zipIdx.map fun p => (p.1, xName p.2)
theorem stdF_len (l : List (List UInt8)) (v : List UInt8) : (stdF l v).1.length ≤ l.length + 1 := by unfold stdF; split <;> simp
theorem stdM_get (l : List (List UInt8)) (v : List UInt8) : aget (stdM l) v = if v ∈ l then some (xName (l.idxOf v)) else none := by
  have key : ∀ (l : List (List UInt8)) (k : Nat), aget ((l.zipIdx k).map fun p => (p.1, xName p.2)) v = if v ∈ l then some (xName (k + l.idxOf v)) else none := by
    intro l
    induction l with
    | nil => intro k; simp [aget]
    | cons a l ih =>
      intro k
      simp only [List.zipIdx_cons, List.map_cons, aget, ih]
      by_cases h : a = v
      · subst h; simp
      · have h' : ¬ v = a := fun e => h e.symm
        simp only [h, if_false, List.mem_cons, h', false_or, List.idxOf_cons]
        have hb : (a == v) = false := by simp [h]
        simp only [hb, cond_false]
        split
        · congr 2; omega
        · rfl
  have := key l 0
  simpa [stdM] using this
theorem stdM_set (l : List (List UInt8)) (v : List UInt8) (h : v ∉ l) : aset (stdM l) v (xName l.length) = stdM (l ++ [v]) := by
  have := (aget_none (k := v) (m := stdM l) (fun p hp => by
    simp only [stdM, List.mem_map] at hp
    obtain ⟨q, hq, rfl⟩ := hp
    intro e
    have := List.fst_mem_of_mem_zipIdx (x := q) hq
    exact h (e ▸ this))).2 (xName l.length)
  rw [this]; simp [stdM, List.zipIdx_append]
theorem stdM_len (l : List (List UInt8)) : (stdM l).length = l.length := by simp [stdM]
@[reducible] def stdO (n : Nat) (l : List (List UInt8)) : List AObj := [.map l.length (amap AV.str AV.str (stdM l)), .cells [.map n]]
theorem std11_ac (H : List AObj) (K : Nat) (hit : ∀ i H, i < K → ACall Tryd.prog 92 [.int .i64 (i : Nat)] H (fun r H' => r = .str (Lib.decDigits i) ∧ H' = H)) (l : List (List UInt8)) (v : List UInt8) (X : List AObj) (hl : l.length < K) (hK : K ≤ 1099511627776) (hv : v.length ≤ 1099511627775) (hd : (Lib.decDigits l.length).length ≤ 1099511627775) :
    ACall Tryd.prog 91 [.str v, .ptr (H.length + 1) 0] (H ++ stdO H.length l ++ X) (fun r H' => r = .str (stdF l v).2 ∧ H' = H ++ stdO H.length (stdF l v).1 ++ X) := by
  refine ACall_sc (fun hsc _ => ?_)
  refine ACall_V ((H ++ stdO H.length l ++ X).length) 15 [.tmp 3] Tryd.func91 rfl rfl rfl ?_
  simp only [push_cast, Nat.reduceAdd, Nat.reduceSub, Nat.reduceMul, Nat.reduceLT, Nat.reduceLeDiff, Nat.reduceEqDiff, Int.reduceToNat, ↓reduceIte]
  refine AOp_lookup (strKey un9) AV.str (stdM l) H.length _ v (.str []) rfl (by exact aget0 _ _ _) rfl un105 (ZeroV_of (.string ⟨#[]⟩) (by kernel_rfl)) ?_
  rw [stdM_get]
  by_cases hm : v ∈ l
  · have hs : stdF l v = (l, xName (l.idxOf v)) := by unfold stdF; rw [if_pos hm]
    rw [hs]
    simp only [push_cast, Nat.reduceAdd, Nat.reduceSub, Nat.reduceMul, Nat.reduceLT, Nat.reduceLeDiff, Nat.reduceEqDiff, Int.reduceToNat, ↓reduceIte, hm, xName]
    refine AOp_lookup (strKey un9) AV.str (stdM l) H.length _ v (.str []) rfl (by exact aget0 _ _ _) rfl un105 (ZeroV_of (.string ⟨#[]⟩) (by kernel_rfl)) ?_
    rw [stdM_get]
    simp only [push_cast, Nat.reduceAdd, Nat.reduceSub, Nat.reduceMul, Nat.reduceLT, Nat.reduceLeDiff, Nat.reduceEqDiff, Int.reduceToNat, ↓reduceIte, hm, xName]
    exact outok_upd [_, _] [_, _] rfl (by intro o ho; simp only [List.mem_cons, List.not_mem_nil, or_false] at ho; rcases ho with rfl | rfl; exact osc_amap _ _ _ _ _ (fun _ => trivial) (fun _ => trivial); simp [OScoped, ScopedL, Scoped]) (by simp)
  · have hs : stdF l v = (l ++ [v], xName l.length) := by unfold stdF; rw [if_neg hm]
    rw [hs]
    simp only [push_cast, Nat.reduceAdd, Nat.reduceSub, Nat.reduceMul, Nat.reduceLT, Nat.reduceLeDiff, Nat.reduceEqDiff, Int.reduceToNat, ↓reduceIte, hm]
    apply AW_drawE [some 8, some 9, some 10, some 11, some 12, some 13, none] [([false], _), ([true], _)] [none, none, none, none, none, none, some 0] 1 [(0, [false], [1]), (1, [false], [0]), (2, [false], [1]), (3, [false], [10]), (4, [false], [11]), (5, [false], [12]), (6, [false], [8, 0, 3])] [_, _, _, _, _, _, _]
    case' hm => exact dr
    case' hn => rfl
    case' hok => rfl
    case' hlen => rfl
    case' hd => rfl
    case' h0 => rfl
    case' hstep =>
     simp only [DAllG, push_cast, Option.isSome_some, Option.isSome_none]
     repeat' apply And.intro
     all_goals (apply DOne_V; simp only [push_cast, Nat.reduceAdd, Nat.reduceSub, Nat.reduceMul, Nat.reduceLT, Nat.reduceLeDiff, Nat.reduceEqDiff, Int.reduceToNat, ↓reduceIte, amap_length, stdM_len] <;> first | exact rfl | omega | exact ⟨rfl, rfl⟩ | exact trivial | exact ⟨by omega, rfl⟩ | exact ⟨by omega, by omega, rfl⟩ | exact ⟨by omega, rfl, rfl⟩ | exact ⟨by omega, by omega, rfl, rfl⟩ | (refine AOp_len_map _ _ _ rfl (by exact aget0 _ _ _) un105 ?_; simp only [push_cast, Nat.reduceAdd, Nat.reduceSub, Nat.reduceMul, Nat.reduceLT, Nat.reduceLeDiff, Nat.reduceEqDiff, Int.reduceToNat, ↓reduceIte, amap_length, stdM_len]; first | exact rfl | exact ⟨rfl, rfl⟩) | exact (hit _ _ hl).to ⟨rfl, rfl⟩ | (refine AOp_mapUpdate (strKey un9) AV.str (stdM l) _ _ v (xName l.length) rfl (by exact aget0 _ _ _) rfl rfl un105 ?_; rw [stdM_set l v hm]; simp only [push_cast, Nat.reduceAdd, Nat.reduceSub, Nat.reduceMul, Nat.reduceLT, Nat.reduceLeDiff, Nat.reduceEqDiff, Int.reduceToNat, ↓reduceIte]; exact ⟨rfl, rfl⟩))
    case' hQ => skip
    simp only [push_cast, Nat.reduceAdd, Nat.reduceSub, Nat.reduceMul, Nat.reduceLT, Nat.reduceLeDiff, Nat.reduceEqDiff, Int.reduceToNat, ↓reduceIte]
    refine AOp_lookup (strKey un9) AV.str (stdM (l ++ [v])) H.length _ v (.str []) rfl (by exact aget0 _ _ _) rfl un105 (ZeroV_of (.string ⟨#[]⟩) (by kernel_rfl)) ?_
    have hx : (l ++ [v]).idxOf v = l.length := by rw [List.idxOf_append]; simp [hm]
    rw [stdM_get, if_pos (by simp), hx]
    simp only [push_cast, Nat.reduceAdd, Nat.reduceSub, Nat.reduceMul, Nat.reduceLT, Nat.reduceLeDiff, Nat.reduceEqDiff, Int.reduceToNat, ↓reduceIte, List.length_append]
    exact outok_upd [_, _] [_, _] rfl (by intro o ho; simp only [List.mem_cons, List.not_mem_nil, or_false] at ho; rcases ho with rfl | rfl; exact osc_amap _ _ _ _ _ (fun _ => trivial) (fun _ => trivial); simp [OScoped, ScopedL, Scoped]) (by simp)
theorem standard_ac (H : List AObj) : ACall Tryd.prog 51 [] H (fun r H' => r = .fn 90 [.ptr (H.length + 1) 0] ∧ H' = H ++ stdO H.length []) := by
  refine ACall_V (H.length + 2) 4 [.tmp 0] Tryd.func51 rfl rfl rfl ?_
  simp only [push_cast, Nat.reduceAdd, Nat.reduceSub, Nat.reduceMul, Nat.reduceLT, Nat.reduceLeDiff, Nat.reduceEqDiff, Int.reduceToNat, ↓reduceIte]
  refine ⟨outok_app (L := stdO H.length []) 2 rfl (Nat.le_refl _) ?_, rfl⟩
  intro o ho
  simp only [List.take_succ_cons, List.take_zero, List.mem_cons, List.not_mem_nil, or_false] at ho
  rcases ho with rfl | rfl
  · intro e he; cases he
  · simp [OScoped, ScopedL, Scoped]
def canonP (t : Term) : Term := (renP stdF [] t).2
theorem std1_ac (H : List AObj) (hH : ∀ o, o ∈ H → OScoped H.length o) (K : Nat) (hit : ∀ i H, i < K → ACall Tryd.prog 92 [.int .i64 (i : Nat)] H (fun r H' => r = .str (Lib.decDigits i) ∧ H' = H)) (hK : K ≤ 1099511627776) (hd : ∀ i, i < K → (Lib.decDigits i).length ≤ 1099511627775) (l : List (List UInt8)) (t : Term) (hb : t.bulk ≤ 1099511627775) (hl : l.length + t.size ≤ K) :
    ACall Tryd.prog 90 [encT t, .ptr (H.length + 1) 0] (H ++ stdO H.length l) (fun r H' => r = encT (renP stdF l t).2 ∧ H' = H ++ stdO H.length (renP stdF l t).1) := by
  have hso : ∀ l o, o ∈ H ++ stdO H.length l → OScoped (H.length + 2) o := by
    intro l o ho
    rcases List.mem_append.1 ho with h | h
    · exact (hH o h).le (by omega)
    · simp only [List.mem_cons, List.not_mem_nil, or_false] at h
      rcases h with rfl | rfl
      · exact osc_amap _ _ _ _ _ (fun _ => trivial) (fun _ => trivial)
      · simp [OScoped, ScopedL, Scoped]
  refine ACall_V (H.length + 2) 5 [.cell 3 24] Tryd.func90 rfl rfl rfl ?_
  simp only [push_cast, Nat.reduceAdd, Nat.reduceSub, Nat.reduceMul, Nat.reduceLT, Nat.reduceLeDiff, Nat.reduceEqDiff, Int.reduceToNat, ↓reduceIte]
  have hr := renamed_ac stdF (fun l => H ++ stdO H.length l) (H.length + 2) (fun _ => by simp) hso List.length stdF_len K 91 [.ptr (H.length + 1) 0] ok91 (by simp [ScopedL, Scoped]) (fun l v X h1 h2 => std11_ac H K hit l v X h1 hK h2 (hd _ h1)) t hb l [.cells [.str t.name, .bool t.var, .sl .none (encTs t.args)], .cells [.str [], .bool false, .sl .zero []]] hl
  simp only [push_cast, Nat.reduceAdd, Nat.reduceSub, Nat.reduceMul, Nat.reduceLT, Nat.reduceLeDiff, Nat.reduceEqDiff, Int.reduceToNat, ↓reduceIte] at hr
  refine hr.to ?_
  simp only [push_cast, Nat.reduceAdd, Nat.reduceSub, Nat.reduceMul, Nat.reduceLT, Nat.reduceLeDiff, Nat.reduceEqDiff, Int.reduceToNat, ↓reduceIte]
  exact outok_upd2 (stdO H.length l) [_, _] [_, _] rfl (fun o ho => hso (renP stdF l t).1 o (List.mem_append_right _ ho)) rfl
theorem canonical_ac (K : Nat) (hit : ∀ i H, i < K → ACall Tryd.prog 92 [.int .i64 (i : Nat)] H (fun r H' => r = .str (Lib.decDigits i) ∧ H' = H)) (hK : K ≤ 1099511627776) (hd : ∀ i, i < K → (Lib.decDigits i).length ≤ 1099511627775) (t : Term) (hb : t.bulk ≤ 1099511627775) (hs : checkP t = 0 → t.size ≤ K) (H : List AObj) :
    ACall Tryd.prog 10 [encT t] H (fun r H' => r = encRE (if checkP t = 0 then (canonP t, 0) else (zeroT, checkP t)) ∧ H' = H) := by
  refine ACall_sc (fun hsc _ => ?_)
  refine ACall_V (H.length) 13 [.cell 2 24, .tmp 3] Tryd.func10 rfl rfl rfl ?_
  simp only [push_cast, Nat.reduceAdd, Nat.reduceSub, Nat.reduceMul, Nat.reduceLT, Nat.reduceLeDiff, Nat.reduceEqDiff, Int.reduceToNat, ↓reduceIte]
  refine (check_ac t hb _).to ?_
  simp only [push_cast, Nat.reduceAdd, Nat.reduceSub, Nat.reduceMul, Nat.reduceLT, Nat.reduceLeDiff, Nat.reduceEqDiff, Int.reduceToNat, ↓reduceIte]
  refine cI (fun h => ?_) (fun h => ?_)
  · have hr := std1_ac (H ++ [.cells [.str t.name, .bool t.var, .sl .none (encTs t.args)], .cells [.str [], .bool false, .sl .zero []]]) (by
      intro o ho
      rcases List.mem_append.1 ho with h | h
      · exact (hsc o h).le (by simp)
      · simp only [List.mem_cons, List.not_mem_nil, or_false] at h
        rcases h with rfl | rfl <;> simp [OScoped, ScopedL, Scoped, scoped_encTs]) K hit hK hd [] t hb (by have := hs h; simp; omega)
    simp only [push_cast, Nat.reduceAdd, Nat.reduceSub, Nat.reduceMul, Nat.reduceLT, Nat.reduceLeDiff, Nat.reduceEqDiff, Int.reduceToNat, ↓reduceIte] at hr
    apply AW_drawE [some 11, some 12, some 13, none, some 3] [([false, false, false], _), ([true, false, false], _), ([true, true, false], _), ([true, true, true], _)] [some 0, none, some 1, some 2, none] 3 [(0, [false, false, false], []), (1, [true, false, false], [1]), (2, [true, false, false], [11, 0]), (3, [true, true, false], [2, 10]), (4, [true, true, true], []), (1, [false, false, false], [1])] [_, _, _, _, _]
    case' hm => exact dr
    case' hn => rfl
    case' hok => rfl
    case' hlen => rfl
    case' hd => rfl
    case' h0 => rfl
    case' hstep =>
     simp only [DAllG, push_cast, Option.isSome_some, Option.isSome_none]
     repeat' apply And.intro
     all_goals (apply DOne_V; simp only [push_cast, Nat.reduceAdd, Nat.reduceSub, Nat.reduceMul, Nat.reduceLT, Nat.reduceLeDiff, Nat.reduceEqDiff, Int.reduceToNat, ↓reduceIte] <;> first | exact rfl | omega | exact ⟨rfl, rfl⟩ | exact trivial | exact ⟨by omega, rfl⟩ | exact ⟨by omega, by omega, rfl⟩ | exact ⟨by omega, rfl, rfl⟩ | exact ⟨by omega, by omega, rfl, rfl⟩ | exact (standard_ac _).to ⟨rfl, rfl⟩ | exact hr.to ⟨rfl, rfl⟩)
    case' hQ => skip
    simp only [push_cast, Nat.reduceAdd, Nat.reduceSub, Nat.reduceMul, Nat.reduceLT, Nat.reduceLeDiff, Nat.reduceEqDiff, Int.reduceToNat, ↓reduceIte, h, canonP]
  · simp only [push_cast, Nat.reduceAdd, Nat.reduceSub, Nat.reduceMul, Nat.reduceLT, Nat.reduceLeDiff, Nat.reduceEqDiff, Int.reduceToNat, ↓reduceIte, h]
end Ab
set_option maxRecDepth 10000
namespace Ab
open Go Go.Proofs
def cmpI (a b : Int) : Int := if a < b then -1 else if b < a then 1 else 0
theorem compareBytes_drop : ∀ (a b : List UInt8) (i : Nat), a.take i = b.take i → i ≤ a.length → i ≤ b.length → Lib.compareBytes a b = Lib.compareBytes (a.drop i) (b.drop i)
  | a, b, 0, _, _, _ => rfl
  | [], _, _ + 1, _, h, _ => by simp at h
  | _ :: _, [], _ + 1, _, _, h => by simp at h
  | x :: a, y :: b, i + 1, h, h1, h2 => by
    simp only [List.take_succ_cons, List.cons.injEq] at h
    rw [List.drop_succ_cons, List.drop_succ_cons, ← compareBytes_drop a b i h.2 (by simpa using h1) (by simpa using h2)]
    rw [h.1]
    have : ¬ y < y := by simp
    conv => lhs; unfold Lib.compareBytes
    simp [this]
theorem cmpI_len (a b : Nat) : (cmpI a b = 0 ↔ a = b) ∧ (¬ cmpI a b = 0 → ∀ r : Int, (if a < b then -1 else if b < a then 1 else r) = cmpI a b) := by
  unfold cmpI
  constructor
  · split
    · simp; omega
    · split
      · simp; omega
      · simp; omega
  · intro h r
    rcases Nat.lt_trichotomy a b with hl | hl | hl
    · simp [hl]
    · simp [hl] at h
    · have h2 : ¬ a < b := by omega
      simp [hl, h2]
theorem compareBytes_eq : ∀ a b : List UInt8, Lib.compareBytes a b = 0 ↔ a = b
  | [], [] => by simp [Lib.compareBytes]
  | [], _ :: _ => by simp [Lib.compareBytes]
  | _ :: _, [] => by simp [Lib.compareBytes]
  | a :: ar, b :: bs => by
    have ih := compareBytes_eq ar bs
    unfold Lib.compareBytes
    by_cases h1 : a < b
    · simp [h1]; intro e; subst e; exact absurd h1 (by simp)
    · by_cases h2 : b < a
      · simp [h1, h2]; intro e; subst e; exact absurd h2 (by simp)
      · have : a = b := by
          apply UInt8.le_antisymm
          · simpa using h2
          · simpa using h1
        simp [h1, h2, this, ih]
def cmpC (n : List UInt8) (v : Bool) (k : Nat) (m : List UInt8) (u : Bool) (j : Nat) (rest : Int) : Int :=
  if v ≠ u then (if v then -1 else 1) else if Lib.compareBytes n m ≠ 0 then Lib.compareBytes n m else if k < j then -1 else if j < k then 1 else rest
def cmpTs : List Term → List Term → Int
  | .mk n v xs :: r, .mk m u ys :: r' => if cmpC n v xs.length m u ys.length (cmpTs xs ys) ≠ 0 then cmpC n v xs.length m u ys.length (cmpTs xs ys) else cmpTs r r'
  | _, _ => 0
def cmpT (a b : Term) : Int := cmpC a.name a.var a.args.length b.name b.var b.args.length (cmpTs a.args b.args)
theorem cmpTs_cons (x y : Term) (r r' : List Term) : cmpTs (x :: r) (y :: r') = if cmpT x y ≠ 0 then cmpT x y else cmpTs r r' := by
  cases x; cases y; simp only [cmpTs, cmpT, Term.name, Term.var, Term.args]; rfl
theorem cmpTs_nil (ys : List Term) : cmpTs [] ys = 0 := by cases ys <;> simp [cmpTs]
theorem cmpTs_drop : ∀ (xs ys : List Term) (i : Nat), (∀ j (h1 : j < xs.length) (h2 : j < ys.length), j < i → cmpT xs[j] ys[j] = 0) → xs.length = ys.length → cmpTs xs ys = cmpTs (xs.drop i) (ys.drop i)
  | xs, ys, 0, _, _ => rfl
  | [], [], _ + 1, _, _ => rfl
  | [], _ :: _, _ + 1, _, h => by simp at h
  | _ :: _, [], _ + 1, _, h => by simp at h
  | x :: xs, y :: ys, i + 1, h, hl => by
    have h0 := h 0 (by simp) (by simp) (by omega)
    simp only [List.getElem_cons_zero] at h0
    rw [cmpTs_cons, List.drop_succ_cons, List.drop_succ_cons, if_neg (by omega)]
    refine cmpTs_drop xs ys i (fun j h1 h2 hj => ?_) (by simpa using hl)
    have h3 := h (j + 1) (by simp; omega) (by simp; omega) (by omega)
    simp only [List.getElem_cons_succ] at h3; exact h3
theorem cmpTs_iff : ∀ (xs ys : List Term), xs.length = ys.length → (cmpTs xs ys = 0 ↔ xs = ys)
  | [], [], _ => by simp [cmpTs]
  | [], _ :: _, h => by simp at h
  | _ :: _, [], h => by simp at h
  | .mk n v xs :: r, .mk m u ys :: r', h => by
    have h1 := cmpTs_iff r r' (by simpa using h)
    have h2 := cmpTs_iff xs ys
    have h3 := compareBytes_eq n m
    unfold cmpTs cmpC
    have h0 : Lib.compareBytes m m = 0 := (compareBytes_eq m m).2 rfl
    by_cases hv : v = u
    · by_cases hn : n = m
      · rcases Nat.lt_trichotomy xs.length ys.length with hl | hl | hl
        · have : ¬ xs = ys := fun e => by rw [e] at hl; omega
          simp [hv, h3.2 hn, hl, this]
        · have h2 := h2 hl
          simp only [hv, h3.2 hn, hl, Nat.lt_irrefl, if_false, ne_eq, not_true_eq_false, hn, List.cons.injEq, Term.mk.injEq, true_and, and_assoc]
          by_cases hc : cmpTs xs ys = 0
          · have e := h2.1 hc; simp [h0, h1, e, e ▸ hc]
          · have : ¬ xs = ys := fun e => hc (h2.2 e)
            simp [h0, hc, this]
        · have : ¬ xs = ys := fun e => by rw [e] at hl; omega
          have h4 : ¬ xs.length < ys.length := by omega
          simp [hv, h3.2 hn, hl, h4, this]
      · have h3' : ¬ Lib.compareBytes n m = 0 := fun e => hn (h3.1 e)
        simp [hv, h3', hn]
    · cases v <;> cases u <;> simp_all
theorem cmpT_iff (a b : Term) : cmpT a b = 0 ↔ a = b := by
  have := cmpTs_iff [a] [b] rfl
  rw [cmpTs_cons] at this
  simp only [cmpTs, List.cons.injEq, and_true] at this
  rw [← this]
  by_cases h : cmpT a b = 0 <;> simp [h]
end Ab
set_option maxRecDepth 10000
namespace Ab
open Go Go.Proofs
theorem cmpInts_ac (a b : Int) (H : List AObj) : ACall Tryd.prog 83 [.int .i64 a, .int .i64 b] H (fun r H' => r = .int .i64 (cmpI a b) ∧ H' = H) := by
  refine ACall_V (H.length) 9 [.tmp 4] Tryd.func83 rfl rfl rfl ?_
  simp only [push_cast, Nat.reduceAdd, Nat.reduceSub, Nat.reduceMul, Nat.reduceLT, Nat.reduceLeDiff, Nat.reduceEqDiff, Int.reduceToNat, ↓reduceIte]
  unfold cmpI
  repeat' first | refine ⟨by omega, ?_⟩ | refine cI (fun _ => ?_) (fun _ => ?_)
  all_goals simp [*]
theorem cmpNames_ac (a b : List UInt8) (ha : a.length < 1099511627776) (hb : b.length < 1099511627776) (H : List AObj) : ACall Tryd.prog 82 [.str a, .str b] H (fun r H' => r = .int .i64 (Lib.compareBytes a b) ∧ H' = H) := by
  refine ACall_V (H.length) 34 [.tmp 4] Tryd.func82 rfl rfl rfl ?_
  simp only [push_cast, Nat.reduceAdd, Nat.reduceSub, Nat.reduceMul, Nat.reduceLT, Nat.reduceLeDiff, Nat.reduceEqDiff, Int.reduceToNat, ↓reduceIte]
  refine AW_loopW (maskG 36 [0, 0, 8, 0]) (fun (i : Nat) => [(11, .int .i64 i)]) (fun _ => H) (fun i => i ≤ a.length ∧ i ≤ b.length ∧ a.take i = b.take i) (fun i => a.length - i) 0 ⟨Nat.zero_le _, Nat.zero_le _, by simp⟩ (by simp only [push_cast, Nat.reduceAdd, Nat.reduceSub, Nat.reduceMul, Nat.reduceLT, Nat.reduceLeDiff, Nat.reduceEqDiff, Int.reduceToNat, ↓reduceIte]) (fun i hi => ?_)
  simp only [push_cast, Nat.reduceAdd, Nat.reduceSub, Nat.reduceMul, Nat.reduceLT, Nat.reduceLeDiff, Nat.reduceEqDiff, Int.reduceToNat, ↓reduceIte]
  refine cI (fun h => ?_) (fun h => ?_)
  · have hil : i < a.length ∧ i < b.length := by omega
    apply AW_drawE [some 14, some 15, some 16, some 17, some 18, some 19, some 20] [([], _)] [none, none, none, none, none, none, none] 0 [(0, [], [0]), (1, [], [5]), (2, [], [14, 0]), (3, [], [1]), (4, [], [5]), (5, [], [17, 0]), (6, [], [16, 2])] [_, _, _, _, _, _, _]
    case' hm => exact dr
    case' hn => rfl
    case' hok => rfl
    case' hlen => rfl
    case' hd => rfl
    case' h0 => rfl
    case' hstep =>
     simp only [DAllG, push_cast, Option.isSome_some, Option.isSome_none]
     repeat' apply And.intro
     all_goals (apply DOne_V; simp only [push_cast, Nat.reduceAdd, Nat.reduceSub, Nat.reduceMul, Nat.reduceLT, Nat.reduceLeDiff, Nat.reduceEqDiff, Int.reduceToNat, ↓reduceIte] <;> first | exact rfl | omega | exact ⟨rfl, rfl⟩ | exact trivial | exact ⟨by omega, rfl⟩ | exact ⟨by omega, by omega, rfl⟩ | exact ⟨by omega, rfl, rfl⟩ | exact ⟨by omega, by omega, rfl, rfl⟩ | skip)
    case' hQ => skip
    simp only [push_cast, Nat.reduceAdd, Nat.reduceSub, Nat.reduceMul, Nat.reduceLT, Nat.reduceLeDiff, Nat.reduceEqDiff, Int.reduceToNat, ↓reduceIte]
    have hl1 := (a[i]'hil.1).toNat_lt
    have hl2 := (b[i]'hil.2).toNat_lt
    refine cI (fun he => ?_) (fun hne => ?_)
    · repeat' first | refine ⟨by omega, ?_⟩ | refine cI (fun _ => ?_) (fun _ => ?_)
      refine loopW_n (i + 1) ⟨by omega, by omega, ?_⟩ (by omega) (by simp only [push_cast, Nat.reduceAdd, Nat.reduceSub, Nat.reduceMul, Nat.reduceLT, Nat.reduceLeDiff, Nat.reduceEqDiff, Int.reduceToNat, ↓reduceIte])
      have he : (a[i]'hil.1) = (b[i]'hil.2) := UInt8.toNat_inj.1 (by omega)
      rw [List.take_succ_eq_append_getElem hil.1, List.take_succ_eq_append_getElem hil.2, hi.2.2, he]
    · skip
      apply AW_drawE [some 21, some 22, some 23, some 24, some 25, some 26, some 27, some 28, some 29, some 4] [([], _)] [none, none, none, none, none, none, none, none, none, none] 0 [(0, [], [0]), (1, [], [5]), (2, [], [21, 0]), (3, [], [23]), (4, [], [1]), (5, [], [5]), (6, [], [25, 0]), (7, [], [27]), (8, [], [24, 3]), (9, [], [29])] [_, _, _, _, _, _, _, _, _, _]
      case' hm => exact dr
      case' hn => rfl
      case' hok => rfl
      case' hlen => rfl
      case' hd => rfl
      case' h0 => rfl
      case' hstep =>
       simp only [DAllG, push_cast, Option.isSome_some, Option.isSome_none]
       repeat' apply And.intro
       all_goals (apply DOne_V; simp only [push_cast, Nat.reduceAdd, Nat.reduceSub, Nat.reduceMul, Nat.reduceLT, Nat.reduceLeDiff, Nat.reduceEqDiff, Int.reduceToNat, ↓reduceIte] <;> first | exact rfl | omega | exact ⟨rfl, rfl⟩ | exact trivial | exact ⟨by omega, rfl⟩ | exact ⟨by omega, by omega, rfl⟩ | exact ⟨by omega, rfl, rfl⟩ | exact ⟨by omega, by omega, rfl, rfl⟩ | exact ⟨by omega, by omega, rfl⟩ | exact (cmpInts_ac _ _ _).to ⟨rfl, rfl⟩)
      case' hQ => skip
      simp only [push_cast, Nat.reduceAdd, Nat.reduceSub, Nat.reduceMul, Nat.reduceLT, Nat.reduceLeDiff, Nat.reduceEqDiff, Int.reduceToNat, ↓reduceIte]
      rw [compareBytes_drop a b i hi.2.2 hi.1 hi.2.1, List.drop_eq_getElem_cons hil.1, List.drop_eq_getElem_cons hil.2]
      unfold cmpI Lib.compareBytes
      simp only [UInt8.lt_iff_toNat_lt]
      have hne : ¬ (a[i]'hil.1).toNat = (b[i]'hil.2).toNat := by omega
      rcases Nat.lt_or_gt_of_ne hne with h | h
      · have h' : ((a[i]'hil.1).toNat : Int) < (b[i]'hil.2).toNat := by omega
        simp [h]
      · have h' : ¬ (a[i]'hil.1).toNat < (b[i]'hil.2).toNat := by omega
        simp [h, h']
  · refine (cmpInts_ac _ _ _).to ?_
    simp only [push_cast, Nat.reduceAdd, Nat.reduceSub, Nat.reduceMul, Nat.reduceLT, Nat.reduceLeDiff, Nat.reduceEqDiff, Int.reduceToNat, ↓reduceIte]
    rw [compareBytes_drop a b i hi.2.2 hi.1 hi.2.1]
    rcases Nat.lt_or_ge a.length b.length with h | h
    · have hia : i = a.length := by omega
      subst hia
      have hd : 0 < (b.drop a.length).length := by simp; omega
      cases hb2 : b.drop a.length with
      | nil => rw [hb2] at hd; simp at hd
      | cons y r =>
        have h9 : ¬ b.length ≤ a.length := by omega
        simp [cmpI, Lib.compareBytes, h, h9]
    · rcases Nat.lt_or_ge b.length a.length with h2 | h2
      · have hib : i = b.length := by omega
        subst hib
        have hd : 0 < (a.drop b.length).length := by simp; omega
        cases ha2 : a.drop b.length with
        | nil => rw [ha2] at hd; simp at hd
        | cons y r =>
          have h3 : ¬ a.length < b.length := by omega
          simp [cmpI, Lib.compareBytes, h2, h3]
      · have hl : a.length = b.length := by omega
        have hia : i = a.length := by omega
        subst hia
        rw [List.drop_eq_nil_of_le (Nat.le_refl _), List.drop_eq_nil_of_le (by omega)]
        simp [cmpI, Lib.compareBytes, hl]
theorem compareR_ac (s : Term) : ∀ t : Term, s.bulk ≤ 1099511627775 → t.bulk ≤ 1099511627775 → ∀ H, ACall Tryd.prog 41 [encT s, encT t] H (fun r H' => r = .int .i64 (cmpT s t) ∧ H' = H) := by
  induction s using Term.ind with | _ n v xs ih
  rintro ⟨m, u, ys⟩ hb hb2 H
  have hl1 := Term.len_le (n := n) (v := v) (xs := xs)
  have hl2 := Term.len_le (n := m) (v := u) (xs := ys)
  have hn1 := Term.name_le (n := n) (v := v) (xs := xs)
  have hn2 := Term.name_le (n := m) (v := u) (xs := ys)
  have hci := cmpI_len xs.length ys.length
  have hcm : cmpT (.mk n v xs) (.mk m u ys) = cmpC n v xs.length m u ys.length (cmpTs xs ys) := rfl
  rw [hcm]
  refine ACall_V (H.length) 53 [.tmp 4] Tryd.func41 rfl rfl rfl ?_
  simp only [push_cast, Nat.reduceAdd, Nat.reduceSub, Nat.reduceMul, Nat.reduceLT, Nat.reduceLeDiff, Nat.reduceEqDiff, Int.reduceToNat, ↓reduceIte]
  refine cI (fun h1 => ?_) (fun h1 => ?_)
  · have h1 : v = u := by simpa using h1
    refine (cmpNames_ac n m (by omega) (by omega) _).to ?_
    simp only [push_cast, Nat.reduceAdd, Nat.reduceSub, Nat.reduceMul, Nat.reduceLT, Nat.reduceLeDiff, Nat.reduceEqDiff, Int.reduceToNat, ↓reduceIte]
    refine cI (fun h2 => (cmpInts_ac _ _ _).to ?_) (fun h2 => ?_)
    · simp only [push_cast, Nat.reduceAdd, Nat.reduceSub, Nat.reduceMul, Nat.reduceLT, Nat.reduceLeDiff, Nat.reduceEqDiff, Int.reduceToNat, ↓reduceIte]
      refine cI (fun h3 => ?_) (fun h3 => ?_)
      · have hll : xs.length = ys.length := hci.1.1 h3
        refine AW_loopW (maskG 55 [2, 0, 32, 0]) (fun (i : Nat) => [(37, .int .i64 i)]) (fun _ => H ++ [.cells [.str n, .bool v, .sl .none (encTs xs)], .cells [.str m, .bool u, .sl .none (encTs ys)]]) (fun i => i ≤ xs.length ∧ ∀ j (h1 : j < xs.length) (h2 : j < ys.length), j < i → cmpT xs[j] ys[j] = 0) (fun i => xs.length - i) 0 ⟨Nat.zero_le _, fun j h1 h2 h => by omega⟩ (by simp only [push_cast, Nat.reduceAdd, Nat.reduceSub, Nat.reduceMul, Nat.reduceLT, Nat.reduceLeDiff, Nat.reduceEqDiff, Int.reduceToNat, ↓reduceIte]) (fun i hi => ?_)
        simp only [push_cast, Nat.reduceAdd, Nat.reduceSub, Nat.reduceMul, Nat.reduceLT, Nat.reduceLeDiff, Nat.reduceEqDiff, Int.reduceToNat, ↓reduceIte]
        refine cI (fun h => ?_) (fun h => ?_)
        · have hix : i < xs.length := by omega
          have hiy : i < ys.length := by omega
          apply AW_drawE [some 40, some 41, some 42, some 43, some 44, some 45, some 46, some 47, some 48, some 49, some 50, some 8] [([], _)] [none, none, none, none, none, none, none, none, none, none, none, none] 0 [(0, [], [2]), (1, [], [40]), (2, [], [7]), (3, [], [41, 0]), (4, [], [43]), (5, [], [3]), (6, [], [45]), (7, [], [7]), (8, [], [46, 0]), (9, [], [48]), (10, [], [44, 4]), (11, [], [50])] [_, _, _, _, _, _, _, _, _, _, _, _]
          case' hm => exact dr
          case' hn => rfl
          case' hok => rfl
          case' hlen => rfl
          case' hd => rfl
          case' h0 => rfl
          case' hstep =>
           simp only [DAllG, push_cast, Option.isSome_some, Option.isSome_none]
           repeat' apply And.intro
           all_goals (apply DOne_V; simp only [push_cast, Nat.reduceAdd, Nat.reduceSub, Nat.reduceMul, Nat.reduceLT, Nat.reduceLeDiff, Nat.reduceEqDiff, Int.reduceToNat, ↓reduceIte] <;> first | exact rfl | omega | exact ⟨rfl, rfl⟩ | exact trivial | exact ⟨by omega, rfl⟩ | exact ⟨by omega, by omega, rfl⟩ | exact ⟨by omega, rfl, rfl⟩ | exact ⟨by omega, by omega, rfl, rfl⟩ | exact (ih _ (List.getElem_mem hix) (ys[i]'hiy) (arg_bulk hb i hix) (arg_bulk hb2 i hiy) _).to ⟨rfl, rfl⟩)
          case' hQ => skip
          simp only [push_cast, Nat.reduceAdd, Nat.reduceSub, Nat.reduceMul, Nat.reduceLT, Nat.reduceLeDiff, Nat.reduceEqDiff, Int.reduceToNat, ↓reduceIte]
          refine cI (fun h4 => ?_) (fun h4 => ?_)
          · repeat' first | refine ⟨by omega, ?_⟩ | refine cI (fun _ => ?_) (fun _ => ?_)
            refine loopW_n (i + 1) ⟨by omega, fun j j1 j2 hj => ?_⟩ (by omega) (by simp only [push_cast, Nat.reduceAdd, Nat.reduceSub, Nat.reduceMul, Nat.reduceLT, Nat.reduceLeDiff, Nat.reduceEqDiff, Int.reduceToNat, ↓reduceIte])
            rcases Nat.lt_or_ge j i with hj | hj
            · exact hi.2 j j1 j2 hj
            · have hji : j = i := by omega
              subst hji; exact h4
          · have hq : cmpTs xs ys = cmpT (xs[i]'hix) (ys[i]'hiy) := by rw [cmpTs_drop xs ys i hi.2 hll, List.drop_eq_getElem_cons hix, List.drop_eq_getElem_cons hiy, cmpTs_cons, if_pos h4]
            simp [cmpC, h1, h2, hll, hq]
        · have hq : cmpTs xs ys = 0 := by rw [cmpTs_drop xs ys i hi.2 hll, List.drop_eq_nil_of_le (show xs.length ≤ i by omega)]; exact cmpTs_nil _
          simp [cmpC, h1, h2, hll, hq]
      · have h4 := hci.2 h3 (cmpTs xs ys)
        simp only [cmpC, h1, h2, h4, ne_eq, not_true_eq_false, if_false]
    · simp [cmpC, h1, h2]
  · have h1 : ¬ v = u := by simpa using h1
    refine cI (fun hv => ?_) (fun hv => ?_) <;> cases v <;> cases u <;> first | exact absurd rfl h1 | (simp [cmpC]; done) | (simp at hv)
theorem equalR_ac (s t : Term) (h1 : s.bulk ≤ 1099511627775) (h2 : t.bulk ≤ 1099511627775) (H : List AObj) : ACall Tryd.prog 12 [encT s, encT t] H (fun r H' => r = .bool (decide (s = t)) ∧ H' = H) := by
  have he := cmpT_iff s t
  refine ACall_V (H.length) 7 [.tmp 4] Tryd.func12 rfl rfl rfl ?_
  simp only [push_cast, Nat.reduceAdd, Nat.reduceSub, Nat.reduceMul, Nat.reduceLT, Nat.reduceLeDiff, Nat.reduceEqDiff, Int.reduceToNat, ↓reduceIte]
  refine (compareR_ac s t h1 h2 _).to ?_
  simp only [push_cast, Nat.reduceAdd, Nat.reduceSub, Nat.reduceMul, Nat.reduceLT, Nat.reduceLeDiff, Nat.reduceEqDiff, Int.reduceToNat, ↓reduceIte, he]
theorem samePosR_ac (p q : List Int) (h1 : p.length < 1099511627776) (h2 : q.length < 1099511627776) (H : List AObj) : ACall Tryd.prog 62 [.sl .none (encP p), .sl .none (encP q)] H (fun r H' => r = .bool (decide (p = q)) ∧ H' = H) := by
  refine ACall_V (H.length) 24 [.tmp 4] Tryd.func62 rfl rfl rfl ?_
  simp only [push_cast, Nat.reduceAdd, Nat.reduceSub, Nat.reduceMul, Nat.reduceLT, Nat.reduceLeDiff, Nat.reduceEqDiff, Int.reduceToNat, ↓reduceIte]
  refine cI (fun hl => ?_) (fun hl => ?_)
  · have hl : p.length = q.length := by omega
    refine AW_loopW (maskG 26 [0, 0, 10, 0]) (fun (i : Nat) => [(13, .int .i64 i)]) (fun _ => H) (fun i => i ≤ p.length ∧ p.take i = q.take i) (fun i => p.length - i) 0 ⟨Nat.zero_le _, rfl⟩ (by simp only [push_cast, Nat.reduceAdd, Nat.reduceSub, Nat.reduceMul, Nat.reduceLT, Nat.reduceLeDiff, Nat.reduceEqDiff, Int.reduceToNat, ↓reduceIte]) (fun i hi => ?_)
    simp only [push_cast, Nat.reduceAdd, Nat.reduceSub, Nat.reduceMul, Nat.reduceLT, Nat.reduceLeDiff, Nat.reduceEqDiff, Int.reduceToNat, ↓reduceIte]
    refine cI (fun h => ?_) (fun h => ?_)
    · repeat refine ⟨by omega, ?_⟩
      have hip : i < p.length := by omega
      have hiq : i < q.length := by omega
      apply AW_drawE [some 16, some 17, some 18, some 19, some 20, some 21, some 22, some 23, some 24] [([], _)] [none, none, none, none, none, none, none, none, none] 0 [(0, [], [0]), (1, [], [5]), (2, [], [16, 0]), (3, [], [18]), (4, [], [1]), (5, [], [5]), (6, [], [20, 0]), (7, [], [22]), (8, [], [19, 3])] [_, _, _, _, _, _, _, _, _]
      case' hm => exact dr
      case' hn => rfl
      case' hok => rfl
      case' hlen => rfl
      case' hd => rfl
      case' h0 => rfl
      case' hstep =>
       simp only [DAllG, push_cast, Option.isSome_some, Option.isSome_none]
       repeat' apply And.intro
       all_goals (apply DOne_V; simp only [push_cast, Nat.reduceAdd, Nat.reduceSub, Nat.reduceMul, Nat.reduceLT, Nat.reduceLeDiff, Nat.reduceEqDiff, Int.reduceToNat, ↓reduceIte] <;> first | exact rfl | omega | exact ⟨rfl, rfl⟩ | exact trivial | exact ⟨by omega, rfl⟩ | exact ⟨by omega, by omega, rfl⟩ | exact ⟨by omega, rfl, rfl⟩ | exact ⟨by omega, by omega, rfl, rfl⟩ | skip)
      case' hQ => skip
      simp only [push_cast, Nat.reduceAdd, Nat.reduceSub, Nat.reduceMul, Nat.reduceLT, Nat.reduceLeDiff, Nat.reduceEqDiff, Int.reduceToNat, ↓reduceIte]
      refine cI (fun he => ?_) (fun he => ?_)
      · repeat' first | refine ⟨by omega, ?_⟩ | refine cI (fun _ => ?_) (fun _ => ?_)
        refine loopW_n (i + 1) ⟨by omega, ?_⟩ (by omega) (by simp only [push_cast, Nat.reduceAdd, Nat.reduceSub, Nat.reduceMul, Nat.reduceLT, Nat.reduceLeDiff, Nat.reduceEqDiff, Int.reduceToNat, ↓reduceIte])
        rw [List.take_succ_eq_append_getElem hip, List.take_succ_eq_append_getElem hiq, hi.2, he]
      · have hne : p ≠ q := fun e => he (by subst e; rfl)
        simp [hne]
    · have e := hi.2
      rw [List.take_of_length_le (by omega), List.take_of_length_le (by omega)] at e
      simp [e]
  · have hne : p ≠ q := fun e => hl (by rw [e])
    simp [hne]
theorem same_ac (a b : List (List Int)) (h1 : a.length < 1099511627776) (h2 : b.length < 1099511627776) (h3 : ∀ p, p ∈ a → p.length < 1099511627776) (h4 : ∀ p, p ∈ b → p.length < 1099511627776) (H : List AObj) :
    ACall Tryd.prog 19 [.sl .none (encL encQ a), .sl .none (encL encQ b)] H (fun r H' => r = .bool (decide (a = b)) ∧ H' = H) := by
  refine ACall_V (H.length) 25 [.tmp 4] Tryd.func19 rfl rfl rfl ?_
  simp only [push_cast, Nat.reduceAdd, Nat.reduceSub, Nat.reduceMul, Nat.reduceLT, Nat.reduceLeDiff, Nat.reduceEqDiff, Int.reduceToNat, ↓reduceIte]
  refine cI (fun hl => ?_) (fun hl => ?_)
  · have hl : a.length = b.length := by omega
    refine AW_loopW (maskG 27 [0, 0, 10, 0]) (fun (i : Nat) => [(13, .int .i64 i)]) (fun _ => H) (fun i => i ≤ a.length ∧ a.take i = b.take i) (fun i => a.length - i) 0 ⟨Nat.zero_le _, rfl⟩ (by simp only [push_cast, Nat.reduceAdd, Nat.reduceSub, Nat.reduceMul, Nat.reduceLT, Nat.reduceLeDiff, Nat.reduceEqDiff, Int.reduceToNat, ↓reduceIte]) (fun i hi => ?_)
    simp only [push_cast, Nat.reduceAdd, Nat.reduceSub, Nat.reduceMul, Nat.reduceLT, Nat.reduceLeDiff, Nat.reduceEqDiff, Int.reduceToNat, ↓reduceIte]
    refine cI (fun h => ?_) (fun h => ?_)
    · repeat refine ⟨by omega, ?_⟩
      have hip : i < a.length := by omega
      have hiq : i < b.length := by omega
      apply AW_drawE [some 16, some 17, some 18, some 19, some 20, some 21, some 22, some 23, some 24, some 25] [([], _)] [none, none, none, none, none, none, none, none, none, none] 0 [(0, [], [0]), (1, [], [5]), (2, [], [16, 0]), (3, [], [18]), (4, [], [1]), (5, [], [5]), (6, [], [20, 0]), (7, [], [22]), (8, [], [19, 3]), (9, [], [24])] [_, _, _, _, _, _, _, _, _, _]
      case' hm => exact dr
      case' hn => rfl
      case' hok => rfl
      case' hlen => rfl
      case' hd => rfl
      case' h0 => rfl
      case' hstep =>
       simp only [DAllG, push_cast, Option.isSome_some, Option.isSome_none]
       repeat' apply And.intro
       all_goals (apply DOne_V; simp only [push_cast, Nat.reduceAdd, Nat.reduceSub, Nat.reduceMul, Nat.reduceLT, Nat.reduceLeDiff, Nat.reduceEqDiff, Int.reduceToNat, ↓reduceIte] <;> first | exact rfl | omega | exact ⟨rfl, rfl⟩ | exact trivial | exact ⟨by omega, rfl⟩ | exact ⟨by omega, by omega, rfl⟩ | exact ⟨by omega, rfl, rfl⟩ | exact ⟨by omega, by omega, rfl, rfl⟩ | exact (samePosR_ac (a[i]'hip) (b[i]'hiq) (h3 _ (List.getElem_mem _)) (h4 _ (List.getElem_mem _)) _).to ⟨rfl, rfl⟩)
      case' hQ => skip
      simp only [push_cast, Nat.reduceAdd, Nat.reduceSub, Nat.reduceMul, Nat.reduceLT, Nat.reduceLeDiff, Nat.reduceEqDiff, Int.reduceToNat, ↓reduceIte]
      refine cI (fun he => ?_) (fun he => ?_)
      · repeat' first | refine ⟨by omega, ?_⟩ | refine cI (fun _ => ?_) (fun _ => ?_)
        refine loopW_n (i + 1) ⟨by omega, ?_⟩ (by omega) (by simp only [push_cast, Nat.reduceAdd, Nat.reduceSub, Nat.reduceMul, Nat.reduceLT, Nat.reduceLeDiff, Nat.reduceEqDiff, Int.reduceToNat, ↓reduceIte])
        rw [List.take_succ_eq_append_getElem hip, List.take_succ_eq_append_getElem hiq, hi.2, he]
      · have hne : a ≠ b := fun e => he (by subst e; rfl)
        simp [hne]
    · have e := hi.2
      rw [List.take_of_length_le (by omega), List.take_of_length_le (by omega)] at e
      simp [e]
  · have hne : a ≠ b := fun e => hl (by rw [e])
    simp [hne]
theorem variable_ac (s : List UInt8) (H : List AObj) : ACall Tryd.prog 30 [.str s] H (fun r H' => r = encT (.mk s true []) ∧ H' = H) := by
  refine ACall_V (H.length) 4 [.cell 2 24] Tryd.func30 rfl rfl rfl ?_
  simp only [push_cast, Nat.reduceAdd, Nat.reduceSub, Nat.reduceMul, Nat.reduceLT, Nat.reduceLeDiff, Nat.reduceEqDiff, Int.reduceToNat, ↓reduceIte]
theorem symbol_ac (s : List UInt8) (l : List Term) (H : List AObj) : ACall Tryd.prog 52 [.str s, .sl .none (encTs l)] H (fun r H' => r = encT (.mk s false l) ∧ H' = H) := by
  refine ACall_V (H.length) 6 [.cell 4 24] Tryd.func52 rfl rfl rfl ?_
  simp only [push_cast, Nat.reduceAdd, Nat.reduceSub, Nat.reduceMul, Nat.reduceLT, Nat.reduceLeDiff, Nat.reduceEqDiff, Int.reduceToNat, ↓reduceIte]
end Ab
set_option maxRecDepth 10000
namespace Ab
open Go Go.Proofs
def parP : List Int → List Int → Bool
  | a :: p, b :: q => if a = b then parP p q else true
  | _, _ => false
theorem parP_take (p q : List Int) (i : Nat) (h1 : i < p.length) (h2 : i < q.length) (h : p.take i = q.take i) : parP p q = if p[i] = q[i] then parP (p.drop (i + 1)) (q.drop (i + 1)) else true := by
  induction p generalizing q i with
  | nil => simp at h1
  | cons a p ih =>
    cases q with
    | nil => simp at h2
    | cons b q =>
      cases i with
      | zero => simp [parP]
      | succ i =>
        simp only [List.take_succ_cons, List.cons.injEq] at h
        simp only [parP, h.1, if_true, List.getElem_cons_succ, List.drop_succ_cons]
        exact ih q i (by simpa using h1) (by simpa using h2) h.2
theorem parP_eq (p q : List Int) (i : Nat) (h1 : i ≤ p.length) (h2 : i ≤ q.length) (h : p.take i = q.take i) : parP p q = parP (p.drop i) (q.drop i) := by
  induction i with
  | zero => rfl
  | succ i ih =>
    have ht : p.take i = q.take i := by
      have := congrArg (List.take i) h
      simpa [List.take_take] using this
    rw [parP_take p q i h1 h2 ht, if_pos]
    have := congrArg (fun l => l[i]?) h
    simp only [List.getElem?_take, Nat.lt_succ_self, if_true] at this
    rw [List.getElem?_eq_getElem h1, List.getElem?_eq_getElem h2] at this
    exact Option.some.inj this
theorem parallel_ac (p q : List Int) (h1 : p.length < 1099511627776) (h2 : q.length < 1099511627776) (H : List AObj) : ACall Tryd.prog 23 [.sl .none (encP p), .sl .none (encP q)] H (fun r H' => r = .bool (parP p q) ∧ H' = H) := by
  refine ACall_V (H.length) 22 [.tmp 4] Tryd.func23 rfl rfl rfl ?_
  simp only [push_cast, Nat.reduceAdd, Nat.reduceSub, Nat.reduceMul, Nat.reduceLT, Nat.reduceLeDiff, Nat.reduceEqDiff, Int.reduceToNat, ↓reduceIte]
  refine AW_loopW (maskG 24 [0, 0, 8, 0]) (fun (i : Nat) => [(11, .int .i64 i)]) (fun _ => H) (fun i => i ≤ p.length ∧ i ≤ q.length ∧ p.take i = q.take i) (fun i => p.length - i) 0 ⟨Nat.zero_le _, Nat.zero_le _, rfl⟩ (by simp only [push_cast, Nat.reduceAdd, Nat.reduceSub, Nat.reduceMul, Nat.reduceLT, Nat.reduceLeDiff, Nat.reduceEqDiff, Int.reduceToNat, ↓reduceIte]) (fun i hi => ?_)
  simp only [push_cast, Nat.reduceAdd, Nat.reduceSub, Nat.reduceMul, Nat.reduceLT, Nat.reduceLeDiff, Nat.reduceEqDiff, Int.reduceToNat, ↓reduceIte]
  refine cI (fun h => ?_) (fun h => ?_)
  · have hip : i < p.length := by omega
    have hiq : i < q.length := by omega
    apply AW_drawE [some 14, some 15, some 16, some 17, some 18, some 19, some 20, some 21, some 22] [([], _)] [none, none, none, none, none, none, none, none, none] 0 [(0, [], [0]), (1, [], [5]), (2, [], [14, 0]), (3, [], [16]), (4, [], [1]), (5, [], [5]), (6, [], [18, 0]), (7, [], [20]), (8, [], [17, 3])] [_, _, _, _, _, _, _, _, _]
    case' hm => exact dr
    case' hn => rfl
    case' hok => rfl
    case' hlen => rfl
    case' hd => rfl
    case' h0 => rfl
    case' hstep =>
     simp only [DAllG, push_cast, Option.isSome_some, Option.isSome_none]
     repeat' apply And.intro
     all_goals (apply DOne_V; simp only [push_cast, Nat.reduceAdd, Nat.reduceSub, Nat.reduceMul, Nat.reduceLT, Nat.reduceLeDiff, Nat.reduceEqDiff, Int.reduceToNat, ↓reduceIte] <;> first | exact rfl | omega | exact ⟨rfl, rfl⟩ | exact trivial | exact ⟨by omega, rfl⟩ | exact ⟨by omega, by omega, rfl⟩ | exact ⟨by omega, rfl, rfl⟩ | exact ⟨by omega, by omega, rfl, rfl⟩ | skip)
    case' hQ => skip
    simp only [push_cast, Nat.reduceAdd, Nat.reduceSub, Nat.reduceMul, Nat.reduceLT, Nat.reduceLeDiff, Nat.reduceEqDiff, Int.reduceToNat, ↓reduceIte]
    refine cI (fun he => ?_) (fun he => ?_)
    · repeat' first | refine ⟨by omega, ?_⟩ | refine cI (fun _ => ?_) (fun _ => ?_)
      refine loopW_n (i + 1) ⟨by omega, by omega, ?_⟩ (by omega) (by simp only [push_cast, Nat.reduceAdd, Nat.reduceSub, Nat.reduceMul, Nat.reduceLT, Nat.reduceLeDiff, Nat.reduceEqDiff, Int.reduceToNat, ↓reduceIte])
      rw [List.take_succ_eq_append_getElem hip, List.take_succ_eq_append_getElem hiq, hi.2.2, he]
    · rw [parP_take p q i hip hiq hi.2.2, if_neg he]
  · rw [parP_eq p q i hi.1 hi.2.1 hi.2.2]
    rcases Nat.lt_or_ge i p.length with h1 | h1
    · rw [List.drop_eq_nil_of_le (show q.length ≤ i by omega)]
      cases p.drop i <;> rfl
    · rw [List.drop_eq_nil_of_le h1]; rfl
def aG : List Term := [.mk [118] true []]
def aF : List Term := [.mk [117] true [], .mk [103] false aG, .mk [117] true []]
def cG : List Term := [.mk [120, 49] true []]
def cF : List Term := [.mk [120, 48] true [], .mk [103] false cG, .mk [120, 48] true []]
def aT : Term := .mk [102] false [.mk [117] true [], .mk [103] false [.mk [118] true []], .mk [117] true []]
def cT : Term := .mk [102] false [.mk [120, 48] true [], .mk [103] false [.mk [120, 49] true []], .mk [120, 48] true []]
theorem encAG : encTs aG = [AV.agg [.str [118], .bool true, .sl .none []]] := by simp only [aG, encTs_cons, encTs_nil, encT, Term.mk_name, Term.mk_var, Term.mk_args]
theorem encAF : encTs aF = [AV.agg [.str [117], .bool true, .sl .none []], .agg [.str [103], .bool false, .sl .none (encTs aG)], .agg [.str [117], .bool true, .sl .none []]] := by simp only [aF, encTs_cons, encTs_nil, encT, Term.mk_name, Term.mk_var, Term.mk_args]
theorem encCG : encTs cG = [AV.agg [.str [120, 49], .bool true, .sl .none []]] := by simp only [cG, encTs_cons, encTs_nil, encT, Term.mk_name, Term.mk_var, Term.mk_args]
theorem encCF : encTs cF = [AV.agg [.str [120, 48], .bool true, .sl .none []], .agg [.str [103], .bool false, .sl .none (encTs cG)], .agg [.str [120, 48], .bool true, .sl .none []]] := by simp only [cF, encTs_cons, encTs_nil, encT, Term.mk_name, Term.mk_var, Term.mk_args]
theorem aT_formed : formedP aT = true := by simp only [aT, formedP_mk]; simp [formedP_mk]; decide +kernel
theorem aT_size : aT.size = 5 := by simp [aT, Term.size_mk]
theorem aT_depth : aT.depth = 3 := by simp [aT, Term.depth_mk]
theorem aT_sizeI : ((aT.size : Nat) : Int) = 5 := by rw [aT_size]; rfl
theorem aT_depthI : ((aT.depth : Nat) : Int) = 3 := by rw [aT_depth]; rfl
theorem aT_check : checkP aT = 0 := by unfold checkP fitsP; simp [aT_formed, aT_size, aT_depth]
theorem aT_pos : posP aT = [[], [0], [1], [1, 0], [2]] := by simp [posP, aT, walkT, walkL, Term.mk_args]
theorem decD : Lib.decDigits 0 = [48] ∧ Lib.decDigits 1 = [49] := by decide +kernel
theorem aT_canon : canonP aT = cT := by simp [canonP, aT, cT, renP, renL, stdF, xName, decD]
theorem aT_bulk : aT.bulk ≤ 1099511627775 := by simp [aT, Term.bulk_mk]
theorem cT_bulk : cT.bulk ≤ 1099511627775 := by simp [cT, Term.bulk_mk]
theorem cG_ac (H : List AObj) : ACall Tryd.prog 52 [.str [103], .sl .none [AV.agg [.str [120, 49], .bool true, .sl .none []]]] H (fun r H' => r = encT (.mk [103] false cG) ∧ H' = H) := by
  rw [← encCG]; exact symbol_ac _ _ _
theorem cF_ac (H : List AObj) : ACall Tryd.prog 52 [.str [102], .sl .none [AV.agg [.str [120, 48], .bool true, .sl .none []], .agg [.str [103], .bool false, .sl .none (encTs cG)], .agg [.str [120, 48], .bool true, .sl .none []]]] H (fun r H' => r = encT cT ∧ H' = H) := by
  rw [← encCF]; exact symbol_ac _ cF _
theorem Forget.row (t : Tok) {xs ys : List AV} (hl : xs.length = ys.length) (h : ForgetL (flat xs) (flat ys)) : Forget (.sl t xs) (.sl .none ys) := fun C x hx => by
  obtain ⟨h1, h2⟩ := ForgetL.spec h
  cases hx with
  | sl _ _ a n c f hn hc hrow hrel htok =>
    refine .sl .none ys a n c f (hn.trans hl) hc (fun hne => ?_) (fun j hj => h2 j (by omega) hj _ _ (hrel j (by omega))) trivial
    obtain ⟨b, o, ha, hr⟩ := hrow (fun e => hne (List.eq_nil_of_length_eq_zero (by rw [← h1, e]; rfl)))
    exact ⟨b, o, ha, h1 ▸ hr⟩
theorem sameA_ac (H : List AObj) : ACall Tryd.prog 19 [.sl .none (encL encQ [[], [0], [1], [1, 0], [2]]), .sl .none [.sl .zero [], .sl .none [.int .i64 0], .sl .none [.int .i64 1], .sl .none [.int .i64 1, .int .i64 0], .sl .none [.int .i64 2]]] H (fun r H' => r = .bool true ∧ H' = H) := by
  refine ACall.forget (args' := [.sl .none (encL encQ [[], [0], [1], [1, 0], [2]]), .sl .none (encL encQ [[], [0], [1], [1, 0], [2]])]) ⟨Forget.refl _, ?_, trivial⟩ ((same_ac [[], [0], [1], [1, 0], [2]] [[], [0], [1], [1, 0], [2]] (by simp) (by simp) (by simp) (by simp) _).mono ?_)
  · refine Forget.row _ (by simp [encL]) ?_
    exact ⟨Forget.tok _ _, Forget.refl _, Forget.refl _, Forget.refl _, Forget.refl _, trivial⟩
  · rintro r H' ⟨rfl, rfl⟩; exact ⟨by simp, rfl⟩
theorem equalC_ac (H : List AObj) : ACall Tryd.prog 12 [encT cT, encT cT] H (fun r H' => r = .bool true ∧ H' = H) :=
  (equalR_ac cT cT cT_bulk cT_bulk _).mono (by rintro r H' ⟨rfl, rfl⟩; exact ⟨by simp, rfl⟩)
theorem alive_ac (hit : ∀ i H, i < 100 → ACall Tryd.prog 92 [.int .i64 (i : Nat)] H (fun r H' => r = .str (Lib.decDigits i) ∧ H' = H)) (H : List AObj) :
    ACall Tryd.prog 11 [] H (fun r H' => r = .bool true ∧ H' = H) := by
  have hd : ∀ i, i < 100 → (Lib.decDigits i).length ≤ 1099511627775 := by decide +kernel
  refine ACall_V (H.length) 65 [.tmp 0] Tryd.func11 rfl rfl rfl ?_
  simp only [push_cast, Nat.reduceAdd, Nat.reduceSub, Nat.reduceMul, Nat.reduceLT, Nat.reduceLeDiff, Nat.reduceEqDiff, Int.reduceToNat, ↓reduceIte]
  refine (variable_ac _ _).to ?_
  simp only [push_cast, Nat.reduceAdd, Nat.reduceSub, Nat.reduceMul, Nat.reduceLT, Nat.reduceLeDiff, Nat.reduceEqDiff, Int.reduceToNat, ↓reduceIte]
  refine (variable_ac _ _).to ?_
  simp only [push_cast, Nat.reduceAdd, Nat.reduceSub, Nat.reduceMul, Nat.reduceLT, Nat.reduceLeDiff, Nat.reduceEqDiff, Int.reduceToNat, ↓reduceIte]
  rw [← encAG]
  refine (symbol_ac _ aG _).to ?_
  simp only [push_cast, Nat.reduceAdd, Nat.reduceSub, Nat.reduceMul, Nat.reduceLT, Nat.reduceLeDiff, Nat.reduceEqDiff, Int.reduceToNat, ↓reduceIte]
  refine (variable_ac _ _).to ?_
  simp only [push_cast, Nat.reduceAdd, Nat.reduceSub, Nat.reduceMul, Nat.reduceLT, Nat.reduceLeDiff, Nat.reduceEqDiff, Int.reduceToNat, ↓reduceIte]
  rw [← encAF]
  refine (symbol_ac _ aF _).to ?_
  simp only [push_cast, Nat.reduceAdd, Nat.reduceSub, Nat.reduceMul, Nat.reduceLT, Nat.reduceLeDiff, Nat.reduceEqDiff, Int.reduceToNat, ↓reduceIte]
  refine (positions_ac aT aT_bulk _).to ?_
  simp only [push_cast, Nat.reduceAdd, Nat.reduceSub, Nat.reduceMul, Nat.reduceLT, Nat.reduceLeDiff, Nat.reduceEqDiff, Int.reduceToNat, ↓reduceIte, aT_check, aT_pos]
  refine (canonical_ac 100 hit (by decide) hd aT aT_bulk (fun _ => by rw [aT_size]; decide) _).to ?_
  simp only [push_cast, Nat.reduceAdd, Nat.reduceSub, Nat.reduceMul, Nat.reduceLT, Nat.reduceLeDiff, Nat.reduceEqDiff, Int.reduceToNat, ↓reduceIte, aT_check, aT_canon]
  apply AW_drawE [some 23, some 24, some 25, some 26, some 27, some 28, some 29, some 30, some 31, some 32, some 33, some 34, some 35, some 36, some 37, some 38, some 39, some 40, some 41, some 42, some 43, some 44, some 45, some 46, some 47, some 48, some 49, some 50, some 51, some 52, some 53, some 54, some 55, some 56, some 57, some 58, some 59, some 60, some 61, some 62, some 63, some 64, some 0] [([], _)] [none, none, none, none, none, none, none, none, none, none, none, none, none, none, none, none, none, none, none, none, none, none, none, none, none, none, none, none, none, none, none, none, none, none, none, none, none, none, none, none, none, none, none] 0 [(0, [], [1]), (1, [], [23]), (2, [], [24]), (3, [], [25]), (4, [], [1, 24]), (5, [], [26, 0]), (6, [], [26, 1]), (7, [], [26, 2]), (8, [], [30]), (9, [], [1, 29]), (10, [], [31, 0]), (11, [], [31, 1]), (12, [], [31, 2]), (13, [], [35]), (14, [], [3, 32]), (15, [], [36, 0]), (16, [], [36, 1]), (17, [], [39]), (18, [], [2, 37]), (19, [], [40]), (20, [], [40]), (21, [], [40]), (22, [], [40]), (23, [], [40]), (24, [], [40, 1, 0, 0, 0, 0]), (25, [], [40, 0, 5]), (26, [], [40, 7]), (27, [], [49]), (28, [], [5, 44]), (29, [], [50, 0]), (30, [], [50, 1]), (31, [], [53]), (32, [], [4, 49]), (33, [], [54]), (34, [], [54]), (35, [], [54, 2]), (36, [], [54, 3]), (37, [], [54]), (38, [], [54, 1, 2, 0]), (39, [], [54, 6]), (40, [], [54, 0, 6]), (41, [], [54, 8]), (42, [], [64])] [_, _, _, _, _, _, _, _, _, _, _, _, _, _, _, _, _, _, _, _, _, _, _, _, _, _, _, _, _, _, _, _, _, _, _, _, _, _, _, _, _, _, _]
  case' hm => exact dr
  case' hn => rfl
  case' hok => rfl
  case' hlen => rfl
  case' hd => rfl
  case' h0 => rfl
  case' hstep =>
   simp only [DAllG, push_cast, Option.isSome_some, Option.isSome_none]
   repeat' apply And.intro
   all_goals (apply DOne_V; simp only [push_cast, Nat.reduceAdd, Nat.reduceSub, Nat.reduceMul, Nat.reduceLT, Nat.reduceLeDiff, Nat.reduceEqDiff, Int.reduceToNat, ↓reduceIte, aT_check, aT_sizeI, aT_depthI, true_and, decide_true] <;> first | exact rfl | omega | exact ⟨rfl, rfl⟩ | exact trivial | exact ⟨by omega, rfl⟩ | exact ⟨by omega, by omega, rfl⟩ | exact ⟨by omega, rfl, rfl⟩ | exact ⟨by omega, by omega, rfl, rfl⟩ | exact (check_ac aT aT_bulk _).to ⟨rfl, rfl⟩ | exact (size_ac aT (Nat.le_trans aT_bulk (by decide)) _).to ⟨rfl, rfl⟩ | exact (depth_ac aT (Nat.le_trans aT_bulk (by decide)) _).to ⟨rfl, rfl⟩ | exact (sameA_ac _).to ⟨rfl, rfl⟩ | exact (variable_ac _ _).to ⟨rfl, rfl⟩ | exact (cG_ac _).to ⟨rfl, rfl⟩ | exact (cF_ac _).to ⟨rfl, rfl⟩ | exact (equalC_ac _).to ⟨rfl, rfl⟩)
  case' hQ => skip
  simp only [push_cast, Nat.reduceAdd, Nat.reduceSub, Nat.reduceMul, Nat.reduceLT, Nat.reduceLeDiff, Nat.reduceEqDiff, Int.reduceToNat, ↓reduceIte]
end Ab
namespace Ab
open Go Go.Proofs
theorem step_some {n : List UInt8} {v : Bool} {xs : List Term} {i : Int} {p : List Int} {y : Term} (h : atP (.mk n v xs) (i :: p) = some y) : ∃ hi : 0 ≤ i ∧ i.toNat < xs.length, atP (xs[i.toNat]'hi.2) p = some y := by
  simp only [atP] at h
  split at h
  · rename_i hi; exact ⟨hi, h⟩
  · cases h
theorem step_put (n : List UInt8) (v : Bool) (xs : List Term) (i : Int) (p : List Int) (x : Term) (h : i.toNat < xs.length) : putP (.mk n v xs) (i :: p) x = .mk n false (xs.set i.toNat (putP (xs[i.toNat]'h) p x)) := by
  simp [putP, List.getD_eq_getElem?_getD, List.getElem?_eq_getElem h]
theorem place_at (n : List UInt8) (v : Bool) (xs : List Term) (i : Int) (p : List Int) (h : 0 ≤ i ∧ i.toNat < xs.length) : atP (.mk n v xs) (i :: p) = atP (xs[i.toNat]'h.2) p := by
  simp only [atP]; exact dif_pos h
theorem put_at : ∀ (p : List Int) (t s : Term), formedP t = true → atP t p = some s → putP t p s = t
  | [], t, s, _, h => by cases t; simp only [atP, Option.some.injEq] at h; subst h; rfl
  | i :: p, .mk n v xs, s, hf, h => by
    have hv := at_var h (by simp) hf
    obtain ⟨hi, ha⟩ := step_some h
    simp only [Term.var_mk] at hv
    subst hv
    rw [step_put _ _ _ _ _ _ hi.2, put_at p _ s (by rw [formedP_mk] at hf; simp at hf; exact hf.2 _ (List.getElem_mem _)) ha]
    simp
theorem at_put : ∀ (p : List Int) (t x y : Term), atP t p = some y → atP (putP t p x) p = some x
  | [], t, x, y, _ => by cases t; rfl
  | i :: p, .mk n v xs, x, y, h => by
    obtain ⟨hi, h⟩ := step_some h
    rw [step_put _ _ _ _ _ _ hi.2, place_at _ _ _ _ _ ⟨hi.1, by simpa using hi.2⟩]
    simp only [List.getElem_set_self]
    exact at_put p _ x y h
theorem put_formed : ∀ (p : List Int) (t x y : Term), atP t p = some y → formedP t = true → formedP x = true → formedP (putP t p x) = true
  | [], t, x, y, _, _, hx => by cases t; exact hx
  | i :: p, .mk n v xs, x, y, h, hf, hx => by
    have hv := at_var h (by simp) hf
    obtain ⟨hi, ha⟩ := step_some h
    simp only [Term.var_mk] at hv
    subst hv
    rw [step_put _ _ _ _ _ _ hi.2]
    rw [formedP_mk] at hf ⊢
    simp only [Bool.false_eq_true, if_false, Bool.and_eq_true, decide_eq_true_eq, List.all_eq_true, List.length_set] at hf ⊢
    refine ⟨hf.1, fun z hz => ?_⟩
    rcases List.mem_or_eq_of_mem_set hz with hz | rfl
    · exact hf.2 _ hz
    · exact put_formed p _ x y ha (hf.2 _ (List.getElem_mem _)) hx
theorem par_at : ∀ (p o : List Int) (t x y : Term), parP p o = true → atP t p = some y → atP (putP t p x) o = atP t o
  | [], o, t, x, y, hp, _ => by simp [parP] at hp
  | _ :: _, [], t, x, y, hp, _ => by simp [parP] at hp
  | i :: p, j :: o, .mk n v xs, x, y, hp, h => by
    obtain ⟨hi, h⟩ := step_some h
    rw [step_put _ _ _ _ _ _ hi.2]
    simp only [parP] at hp
    by_cases hj : 0 ≤ j ∧ j.toNat < xs.length
    · rw [place_at _ _ _ _ _ hj, place_at _ _ _ _ _ ⟨hj.1, by simpa using hj.2⟩]
      by_cases e : i = j
      · subst e
        rw [if_pos rfl] at hp
        simp only [List.getElem_set_self]
        exact par_at p o _ x y hp h
      · rw [List.getElem_set_ne (by omega)]
    · simp only [atP]
      rw [dif_neg hj, dif_neg (by simpa using hj)]
theorem par_put : ∀ (p o : List Int) (t x y u v : Term), parP p o = true → atP t p = some u → atP t o = some v → putP (putP t p x) o y = putP (putP t o y) p x
  | [], o, t, x, y, u, v, hp, _, _ => by simp [parP] at hp
  | _ :: _, [], t, x, y, u, v, hp, _, _ => by simp [parP] at hp
  | i :: p, j :: o, .mk n w xs, x, y, u, v, hp, h, h' => by
    obtain ⟨hi, h⟩ := step_some h
    obtain ⟨hj, h'⟩ := step_some h'
    rw [step_put _ _ _ _ _ _ hi.2, step_put _ _ _ _ _ _ hj.2, step_put _ _ _ _ _ _ (by simpa using hj.2), step_put _ _ _ _ _ _ (by simpa using hi.2)]
    simp only [parP] at hp
    by_cases e : i = j
    · subst e
      rw [if_pos rfl] at hp
      simp only [List.getElem_set_self, List.set_set]
      rw [par_put p o _ x y u v hp h h']
    · have hne : i.toNat ≠ j.toNat := by omega
      rw [List.getElem_set_ne hne, List.getElem_set_ne (Ne.symm hne), List.set_comm _ _ hne]
theorem at_e {t s : Term} {p : List Int} (h1 : checkP t = 0) (h2 : atP t p = some s) : atE t p = (s, 0) := by simp [atE, h1, h2]
theorem at_ok {t : Term} {p : List Int} (h : (atE t p).2 = 0) : ∃ s, checkP t = 0 ∧ atP t p = some s ∧ atE t p = (s, 0) := by
  unfold atE at h
  by_cases h1 : checkP t = 0
  · rw [if_pos h1] at h
    cases h2 : atP t p with
    | none => rw [h2] at h; cases h
    | some s => exact ⟨s, h1, rfl, at_e h1 h2⟩
  · rw [if_neg h1] at h; exact absurd h h1
theorem put_ok {t x : Term} {p : List Int} (h : (putE t p x).2 = 0) : (∃ s, atP t p = some s) ∧ checkP t = 0 ∧ checkP x = 0 ∧ fitsP (putP t p x) = true ∧ putE t p x = (putP t p x, 0) := by
  unfold putE at h ⊢
  by_cases h1 : checkP t = 0
  · rw [if_pos h1] at h ⊢
    cases h2 : atP t p with
    | none => rw [h2] at h; cases h
    | some s =>
      rw [h2] at h
      simp only at h ⊢
      by_cases h3 : checkP x = 0
      · rw [if_pos h3] at h ⊢
        by_cases h4 : fitsP (putP t p x) = true
        · rw [if_pos h4]; exact ⟨⟨s, rfl⟩, h1, h3, h4, rfl⟩
        · rw [if_neg h4] at h; cases h
      · rw [if_neg h3] at h; exact absurd h h3
  · rw [if_neg h1] at h; exact absurd h h1
theorem put_check {t x s : Term} {p : List Int} (h : atP t p = some s) (h1 : checkP t = 0) (h2 : checkP x = 0) (h3 : fitsP (putP t p x) = true) : checkP (putP t p x) = 0 :=
  (checkP_iff _).2 ⟨put_formed p t x s h ((checkP_iff t).1 h1).1 ((checkP_iff x).1 h2).1, h3⟩
theorem put_back {t s : Term} {p : List Int} (h1 : checkP t = 0) (h2 : atP t p = some s) : putE t p s = (t, 0) := by
  have hf := (checkP_iff t).1 h1
  have hs := (at_sub p t s h2).check h1
  simp [putE, h1, h2, hs, put_at p t s hf.1 h2, hf.2]
theorem par_symm : ∀ (p o : List Int), parP p o = true → parP o p = true
  | [], o, h => by simp [parP] at h
  | _ :: _, [], h => by simp [parP] at h
  | i :: p, j :: o, h => by
    simp only [parP] at h ⊢
    by_cases e : i = j
    · subst e; rw [if_pos rfl] at h ⊢; exact par_symm p o h
    · rw [if_neg (Ne.symm e)]
theorem zeroT_bulk : zeroT.bulk = 1 := by simp [zeroT, Term.bulk_mk]
theorem putE_bulk (t x : Term) (p : List Int) (h : 1 ≤ t.bulk) : (putE t p x).1.bulk ≤ t.bulk + x.bulk := by
  have hz := zeroT_bulk
  unfold putE
  split
  · split
    · rename_i s hs
      split
      · split
        · exact put_bulk x p t s hs
        · show zeroT.bulk ≤ _; omega
      · show zeroT.bulk ≤ _; omega
    · show zeroT.bulk ≤ _; omega
  · show zeroT.bulk ≤ _; omega
theorem put_par {t x y : Term} {p o : List Int} (hp : parP p o = true) (h1 : (putE t p x).2 = 0) (h2 : (putE t o y).2 = 0) : putE (putP t p x) o y = putE (putP t o y) p x := by
  obtain ⟨⟨s, hs⟩, ht, hx, hfx, _⟩ := put_ok h1
  obtain ⟨⟨u, hu⟩, _, hy, hfy, _⟩ := put_ok h2
  have hq := par_symm p o hp
  have a1 := par_at p o t x s hp hs
  have a2 := par_at o p t y u hq hu
  rw [hu] at a1
  rw [hs] at a2
  simp only [putE, put_check hs ht hx hfx, put_check hu ht hy hfy, a1, a2, hx, hy, if_true, par_put p o t x y s u hp hs hu]
end Ab
set_option maxRecDepth 10000
namespace Ab
open Go Go.Proofs
theorem replacement_ac (hit : ∀ i H, i < 100 → ACall Tryd.prog 92 [.int .i64 (i : Nat)] H (fun r H' => r = .str (Lib.decDigits i) ∧ H' = H)) (t x y : Term) (p o : List Int)
    (hb : 2 * t.bulk + x.bulk + y.bulk ≤ 1099511627770) (hp : p.length < 1099511627776) (ho : o.length < 1099511627776) (H : List AObj) :
    ACall Tryd.prog 5 [encT t, .agg [.sl .none (encP p), .sl .none (encP o)], .agg [.str x.name, .bool x.var, .sl .none (encTs x.args), .str y.name, .bool y.var, .sl .none (encTs y.args)]] H (fun r H' => r = .bool true ∧ H' = H) := by
  refine ACall_V (H.length) 117 [.tmp 6] Tryd.func5 rfl rfl rfl ?_
  simp only [push_cast, Nat.reduceAdd, Nat.reduceSub, Nat.reduceMul, Nat.reduceLT, Nat.reduceLeDiff, Nat.reduceEqDiff, Int.reduceToNat, ↓reduceIte]
  apply AW_drawE [some 23, some 24, some 25, some 26, some 7, some 8] [([], _)] [none, none, none, none, none, none] 0 [(0, [], [4]), (1, [], [23]), (2, [], [4]), (3, [], [25]), (4, [], [24]), (5, [], [26])] [_, _, _, _, _, _]
  case' hm => exact dr
  case' hn => rfl
  case' hok => rfl
  case' hlen => rfl
  case' hd => rfl
  case' h0 => rfl
  case' hstep =>
   simp only [DAllG, push_cast, Option.isSome_some, Option.isSome_none]
   repeat' apply And.intro
   all_goals (apply DOne_V; simp only [push_cast, Nat.reduceAdd, Nat.reduceSub, Nat.reduceMul, Nat.reduceLT, Nat.reduceLeDiff, Nat.reduceEqDiff, Int.reduceToNat, ↓reduceIte] <;> first | exact rfl | omega | exact ⟨rfl, rfl⟩ | exact trivial | exact ⟨by omega, rfl⟩ | exact ⟨by omega, by omega, rfl⟩ | exact ⟨by omega, rfl, rfl⟩ | exact ⟨by omega, by omega, rfl, rfl⟩ | skip)
  case' hQ => skip
  simp only [push_cast, Nat.reduceAdd, Nat.reduceSub, Nat.reduceMul, Nat.reduceLT, Nat.reduceLeDiff, Nat.reduceEqDiff, Int.reduceToNat, ↓reduceIte]
  refine (at_ac t p (by omega) hp _).to ?_
  simp only [push_cast, Nat.reduceAdd, Nat.reduceSub, Nat.reduceMul, Nat.reduceLT, Nat.reduceLeDiff, Nat.reduceEqDiff, Int.reduceToNat, ↓reduceIte]
  refine cI (fun h => ?_) (fun h => ?_)
  · obtain ⟨s, ht, hs, he⟩ := at_ok h
    have hsb := at_bulk _ _ _ hs
    simp only [push_cast, Nat.reduceAdd, Nat.reduceSub, Nat.reduceMul, Nat.reduceLT, Nat.reduceLeDiff, Nat.reduceEqDiff, Int.reduceToNat, ↓reduceIte, he]
    refine (put_ac t p s (by omega) hp _).to ?_
    simp only [push_cast, Nat.reduceAdd, Nat.reduceSub, Nat.reduceMul, Nat.reduceLT, Nat.reduceLeDiff, Nat.reduceEqDiff, Int.reduceToNat, ↓reduceIte, put_back ht hs]
    refine (equalR_ac t t (by omega) (by omega) _).to ?_
    simp only [push_cast, Nat.reduceAdd, Nat.reduceSub, Nat.reduceMul, Nat.reduceLT, Nat.reduceLeDiff, Nat.reduceEqDiff, Int.reduceToNat, ↓reduceIte, decide_true, Bool.not_true]
    repeat refine ⟨by omega, ?_⟩
    refine (put_ac t p x (by omega) hp _).to ?_
    simp only [push_cast, Nat.reduceAdd, Nat.reduceSub, Nat.reduceMul, Nat.reduceLT, Nat.reduceLeDiff, Nat.reduceEqDiff, Int.reduceToNat, ↓reduceIte]
    refine cI (fun h => ?_) (fun h => ?_)
    · have hu := h
      obtain ⟨_, _, hx, hf, he⟩ := put_ok h
      have hcu := put_check hs ht hx hf
      have hub := put_bulk x p t s hs
      have hau := at_e hcu (at_put p t x s hs)
      have hpar : parP p o = true → (putE t o y).2 = 0 → putE (putP t p x) o y = putE (putP t o y) p x := fun h hj => put_par h hu hj
      obtain ⟨u, hud⟩ : ∃ u, u = putP t p x := ⟨_, rfl⟩
      rw [← hud] at he hcu hub hau hpar
      clear hud
      simp only [push_cast, Nat.reduceAdd, Nat.reduceSub, Nat.reduceMul, Nat.reduceLT, Nat.reduceLeDiff, Nat.reduceEqDiff, Int.reduceToNat, ↓reduceIte, he]
      refine (at_ac u p (by omega) hp _).to ?_
      simp only [push_cast, Nat.reduceAdd, Nat.reduceSub, Nat.reduceMul, Nat.reduceLT, Nat.reduceLeDiff, Nat.reduceEqDiff, Int.reduceToNat, ↓reduceIte, hau]
      repeat refine ⟨by omega, ?_⟩
      refine (equalR_ac x x (by omega) (by omega) _).to ?_
      simp only [push_cast, Nat.reduceAdd, Nat.reduceSub, Nat.reduceMul, Nat.reduceLT, Nat.reduceLeDiff, Nat.reduceEqDiff, Int.reduceToNat, ↓reduceIte, decide_true, Bool.not_true]
      refine (parallel_ac p o hp ho _).to ?_
      simp only [push_cast, Nat.reduceAdd, Nat.reduceSub, Nat.reduceMul, Nat.reduceLT, Nat.reduceLeDiff, Nat.reduceEqDiff, Int.reduceToNat, ↓reduceIte]
      refine cI (fun h => ?_) (fun h => ?_)
      · have h1 : 1 ≤ t.bulk := by have := t.size_le; have := t.size_pos; omega
        have hzu : 1 ≤ u.bulk := by have := u.size_le; have := u.size_pos; omega
        have hab := putE_bulk u y o hzu
        have hwb := putE_bulk t y o h1
        have hz2 : 1 ≤ (putE t o y).1.bulk := by have := (putE t o y).1.size_le; have := (putE t o y).1.size_pos; omega
        have hvb := putE_bulk (putE t o y).1 x p hz2
        have hc1 := fun H => put_ac u o y (by omega) ho H
        have hc2 := fun H => put_ac t o y (by omega) ho H
        have hc3 := fun H => put_ac (putE t o y).1 p x (by omega) hp H
        have hfin : (putE t o y).2 = 0 → (putE u o y).2 = (putE (putE t o y).1 p x).2 ∧ (putE u o y).1 = (putE (putE t o y).1 p x).1 := fun hj => by
          rw [hpar h hj, (put_ok hj).2.2.2.2]; exact ⟨rfl, rfl⟩
        obtain ⟨a, i, ha⟩ : ∃ w e, putE u o y = (w, e) := ⟨_, _, rfl⟩
        obtain ⟨w, j, hw⟩ : ∃ w e, putE t o y = (w, e) := ⟨_, _, rfl⟩
        simp only [ha, hw] at hab hwb hc1 hc2 hc3 hfin hvb
        obtain ⟨b, k, hbk⟩ : ∃ b k, putE w p x = (b, k) := ⟨_, _, rfl⟩
        simp only [hbk] at hc3 hfin hvb
        clear ha hw hbk hpar hau he hcu
        repeat refine ⟨by omega, ?_⟩
        refine (hc1 _).to ?_
        simp only [push_cast, Nat.reduceAdd, Nat.reduceSub, Nat.reduceMul, Nat.reduceLT, Nat.reduceLeDiff, Nat.reduceEqDiff, Int.reduceToNat, ↓reduceIte]
        repeat refine ⟨by omega, ?_⟩
        refine (hc2 _).to ?_
        simp only [push_cast, Nat.reduceAdd, Nat.reduceSub, Nat.reduceMul, Nat.reduceLT, Nat.reduceLeDiff, Nat.reduceEqDiff, Int.reduceToNat, ↓reduceIte]
        repeat refine ⟨by omega, ?_⟩
        refine (hc3 _).to ?_
        simp only [push_cast, Nat.reduceAdd, Nat.reduceSub, Nat.reduceMul, Nat.reduceLT, Nat.reduceLeDiff, Nat.reduceEqDiff, Int.reduceToNat, ↓reduceIte]
        refine cI (fun hj => ?_) (fun hj => ?_)
        · obtain ⟨rfl, rfl⟩ := hfin hj
          simp only [push_cast, Nat.reduceAdd, Nat.reduceSub, Nat.reduceMul, Nat.reduceLT, Nat.reduceLeDiff, Nat.reduceEqDiff, Int.reduceToNat, ↓reduceIte, decide_true]
          refine (equalR_ac _ _ (by omega) (by omega) _).to ?_
          simp only [push_cast, Nat.reduceAdd, Nat.reduceSub, Nat.reduceMul, Nat.reduceLT, Nat.reduceLeDiff, Nat.reduceEqDiff, Int.reduceToNat, ↓reduceIte, decide_true]
          refine (alive_ac hit _).to ?_
          simp only [push_cast, Nat.reduceAdd, Nat.reduceSub, Nat.reduceMul, Nat.reduceLT, Nat.reduceLeDiff, Nat.reduceEqDiff, Int.reduceToNat, ↓reduceIte]
        · refine (alive_ac hit _).to ?_
          simp only [push_cast, Nat.reduceAdd, Nat.reduceSub, Nat.reduceMul, Nat.reduceLT, Nat.reduceLeDiff, Nat.reduceEqDiff, Int.reduceToNat, ↓reduceIte]
      · refine (alive_ac hit _).to ?_
        simp only [push_cast, Nat.reduceAdd, Nat.reduceSub, Nat.reduceMul, Nat.reduceLT, Nat.reduceLeDiff, Nat.reduceEqDiff, Int.reduceToNat, ↓reduceIte]
    · refine (alive_ac hit _).to ?_
      simp only [push_cast, Nat.reduceAdd, Nat.reduceSub, Nat.reduceMul, Nat.reduceLT, Nat.reduceLeDiff, Nat.reduceEqDiff, Int.reduceToNat, ↓reduceIte]
  · refine (alive_ac hit _).to ?_
    simp only [push_cast, Nat.reduceAdd, Nat.reduceSub, Nat.reduceMul, Nat.reduceLT, Nat.reduceLeDiff, Nat.reduceEqDiff, Int.reduceToNat, ↓reduceIte]
end Ab
namespace Go.Proofs
open Go.Shelf
def Tryd.lays171_ren : Go.Shelf.Ren := ⟨fun | 171 => 92 | 243 => 111 | 246 => 126 | 283 => 141 | 284 => 142 | 285 => 143 | 286 => 144 | 129 => 125 | 317 => 150 | 318 => 151 | 319 => 152 | 320 => 153 | 337 => 155 | 338 => 156 | n => n, fun | 3 => 3 | 9 => 9 | 2 => 2 | 4 => 4 | 171 => 151 | 0 => 0 | 53 => 138 | 37 => 88 | 5 => 5 | 173 => 153 | 212 => 161 | 51 => 136 | 20 => 20 | 213 => 162 | 46 => 124 | 232 => 164 | 233 => 165 | n => n, fun | 17 => 1 | 18 => 2 | 19 => 3 | n => n⟩
theorem Tryd.lays171 : Go.Proofs.Lays.n171 Tryd.prog Tryd.lays171_ren := {
  mixed := by kernel_rfl
  f129 := Tryd.func125.trans (congrArg some (by kernel_rfl))
  f171 := Tryd.func92.trans (congrArg some (by kernel_rfl))
  f243 := Tryd.func111.trans (congrArg some (by kernel_rfl))
  f246 := Tryd.func126.trans (congrArg some (by kernel_rfl))
  f283 := Tryd.func141.trans (congrArg some (by kernel_rfl))
  f284 := Tryd.func142.trans (congrArg some (by kernel_rfl))
  f285 := Tryd.func143.trans (congrArg some (by kernel_rfl))
  f286 := Tryd.func144.trans (congrArg some (by kernel_rfl))
  f317 := Tryd.func150.trans (congrArg some (by kernel_rfl))
  f318 := Tryd.func151.trans (congrArg some (by kernel_rfl))
  f319 := Tryd.func152.trans (congrArg some (by kernel_rfl))
  f320 := Tryd.func153.trans (congrArg some (by kernel_rfl))
  f337 := Tryd.func155.trans (congrArg some (by kernel_rfl))
  f338 := Tryd.func156.trans (congrArg some (by kernel_rfl))
  t0 := Tryd.underlying0
  a0 := Tryd.isAgg0
  z0 := Tryd.sizeOf0
  v0 := Tryd.zeroValue0
  t2 := Tryd.underlying2
  a2 := Tryd.isAgg2
  z2 := Tryd.sizeOf2
  v2 := Tryd.zeroValue2
  t3 := Tryd.underlying3
  a3 := Tryd.isAgg3
  z3 := Tryd.sizeOf3
  v3 := Tryd.zeroValue3
  t4 := Tryd.underlying4
  a4 := Tryd.isAgg4
  z4 := Tryd.sizeOf4
  v4 := Tryd.zeroValue4
  t5 := Tryd.underlying5
  a5 := Tryd.isAgg5
  z5 := Tryd.sizeOf5
  v5 := Tryd.zeroValue5
  t9 := Tryd.underlying9
  a9 := Tryd.isAgg9
  z9 := Tryd.sizeOf9
  v9 := Tryd.zeroValue9
  t20 := Tryd.underlying20
  a20 := Tryd.isAgg20
  z20 := Tryd.sizeOf20
  v20 := Tryd.zeroValue20
  t37 := Tryd.underlying88
  a37 := Tryd.isAgg88
  z37 := Tryd.sizeOf88
  v37 := Tryd.zeroValue88
  t46 := Tryd.underlying124
  a46 := Tryd.isAgg124
  z46 := Tryd.sizeOf124
  v46 := Tryd.zeroValue124
  t51 := Tryd.underlying136
  a51 := Tryd.isAgg136
  z51 := Tryd.sizeOf136
  v51 := Tryd.zeroValue136
  t53 := Tryd.underlying138
  a53 := Tryd.isAgg138
  z53 := Tryd.sizeOf138
  v53 := Tryd.zeroValue138
  t171 := Tryd.underlying151
  a171 := Tryd.isAgg151
  z171 := Tryd.sizeOf151
  v171 := Tryd.zeroValue151
  t173 := Tryd.underlying153
  a173 := Tryd.isAgg153
  z173 := Tryd.sizeOf153
  v173 := Tryd.zeroValue153
  t212 := Tryd.underlying161
  a212 := Tryd.isAgg161
  z212 := Tryd.sizeOf161
  v212 := Tryd.zeroValue161
  t213 := Tryd.underlying162
  a213 := Tryd.isAgg162
  z213 := Tryd.sizeOf162
  t232 := Tryd.underlying164
  a232 := Tryd.isAgg164
  z232 := Tryd.sizeOf164
  v232 := Tryd.zeroValue164
  t233 := Tryd.underlying165
  a233 := Tryd.isAgg165
  z233 := Tryd.sizeOf165
  v233 := Tryd.zeroValue165
  g17 := by kernel_rfl
  g18 := by kernel_rfl
  g19 := by kernel_rfl }
theorem Tryd.strconv_Itoa_small (i : Nat) (hi : i < 100) (w : World) :
    Calls Tryd.prog 92 #[.int .i64 i] w fun e w' => e = .returned (.string ⟨(Lib.decDigits i).toArray⟩) ∧ w' = w := Any.strconv_Itoa_small Tryd.lays171 i hi w
end Go.Proofs
set_option maxRecDepth 10000
namespace Ab
open Go Go.Proofs Go.Proofs.YtakpnikkcinckaaDoor
section
variable {H : Type}
theorem kdStr : kindOf Tryd.prog 9 = .str := by kernel_rfl
theorem kdInt : kindOf Tryd.prog 3 = .int .i64 := by kernel_rfl
theorem kdBool : kindOf Tryd.prog 4 = .bool := by kernel_rfl
theorem kdTerm : kindOf Tryd.prog 24 = .struct [9, 4, 22] := by kernel_rfl
theorem kdTerms : kindOf Tryd.prog 22 = .slice 24 := by kernel_rfl
theorem agTerm : aggK Tryd.prog 24 = true := by unfold aggK; rw [kdTerm]
theorem bulkAll_sum : ∀ ds : List (DataW H), Rows.uptoBulkAll ds = (ds.map Rows.uptoBulk).sum
  | [] => by simp [Rows.uptoBulkAll]
  | d :: ds => by simp [Rows.uptoBulkAll, bulkAll_sum ds]
theorem bulk_pos (d : DataW H) : 1 ≤ Rows.uptoBulk d := by
  cases d with
  | lit l => cases l <;> simp [Rows.uptoBulk]
  | _ => simp [Rows.uptoBulk]
theorem bulk_row {d : DataW H} {ds : List (DataW H)} (h : (d = .nil ∧ ds = []) ∨ ∃ sp, d = .slice ds sp) : (ds.map Rows.uptoBulk).sum + 1 ≤ Rows.uptoBulk d := by
  rcases h with ⟨rfl, rfl⟩ | ⟨sp, rfl⟩
  · simp [Rows.uptoBulk]
  · rw [← bulkAll_sum]; simp only [Rows.uptoBulk]; omega
theorem term_form : ∀ (n : Nat) (d : DataW H) (avs : List AV), toAV Tryd.prog n 24 d = some avs → ∃ t : Term, .agg avs = encT t ∧ t.bulk ≤ Rows.uptoBulk d := by
  intro n
  induction n using Nat.strongRecOn with
  | ind n ih =>
    intro d avs h
    obtain ⟨m, parts, avss, rfl, rfl, hl, hm, rfl⟩ := toAV_struct kdTerm h
    match parts, hl, hm with
    | [d1, d2, d3], _, hm =>
      obtain ⟨h1, h2⟩ := mapM_get hm
      match avss, h1, h2 with
      | [a1, a2, a3], _, h2 =>
        obtain ⟨bs, rfl, rfl⟩ := toAV_str kdStr (h2 0 (by simp) (by simp))
        obtain ⟨b, rfl, rfl⟩ := toAV_bool kdBool (h2 1 (by simp) (by simp))
        obtain ⟨xs, ds, e3, hw, _, hd⟩ := row_form encT Term.bulk Rows.uptoBulk kdTerms (n := m) (fun k d avs hk he => by
          obtain ⟨t, x1, x2⟩ := ih k (by omega) d avs he
          exact ⟨t, by rw [agTerm]; exact x1, x2⟩) (h2 2 (by simp) (by simp))
        simp only [List.getElem_cons_succ, List.getElem_cons_zero] at e3 hd
        subst e3
        have hb := bulk_row (d := d3) hd
        simp only [Rows.uptoBulk, Rows.uptoBulkAll]
        refine ⟨.mk bs b xs, ?_, ?_⟩
        · simp [Term.name, Term.var, Term.args, encTs_map]
        · rw [Term.bulk_mk]; omega
theorem kdPos : kindOf Tryd.prog 30 = .slice 3 := by kernel_rfl
theorem agInt : aggK Tryd.prog 3 = false := by unfold aggK; rw [kdInt]
theorem pos_form (n : Nat) (d : DataW H) (avs : List AV) (h : toAV Tryd.prog n 30 d = some avs) : ∃ p : List Int, avs = [.sl .none (encP p)] ∧ p.length ≤ Rows.uptoBulk d := by
  obtain ⟨xs, ds, e3, hw, hl, hd⟩ := row_form (fun i : Int => AV.int .i64 i) (fun _ => 1) Rows.uptoBulk kdPos (n := n) (fun k d avs _ he => by
    obtain ⟨i, rfl, rfl⟩ := toAV_int kdInt he
    exact ⟨i, by rw [agInt]; rfl, bulk_pos _⟩) h
  have hb := bulk_row hd
  have h1 : xs.length ≤ (xs.map fun _ : Int => 1).sum := by
    clear hw hl e3
    induction xs with
    | nil => simp
    | cons x xs ih => simp only [List.map_cons, List.sum_cons, List.length_cons]; omega
  exact ⟨xs, e3, by omega⟩
theorem kdQ2 : kindOf Tryd.prog 45 = .array 2 24 := by kernel_rfl
theorem kdP2 : kindOf Tryd.prog 44 = .array 2 30 := by kernel_rfl
theorem q2_form (n : Nat) (d : DataW H) (avs : List AV) (h : toAV Tryd.prog n 45 d = some avs) : ∃ a b : Term, AV.agg avs = .agg [.str a.name, .bool a.var, .sl .none (encTs a.args), .str b.name, .bool b.var, .sl .none (encTs b.args)] ∧ a.bulk + b.bulk ≤ Rows.uptoBulk d := by
  obtain ⟨m, parts, avss, rfl, rfl, hl, hm, rfl⟩ := toAV_array kdQ2 h
  match parts, hl, hm with
  | [d1, d2], _, hm =>
    obtain ⟨h1, h2⟩ := mapM_get hm
    match avss, h1, h2 with
    | [a1, a2], _, h2 =>
      obtain ⟨a, e1, b1⟩ := term_form m d1 a1 (h2 0 (by simp) (by simp))
      obtain ⟨b, e2, b2⟩ := term_form m d2 a2 (h2 1 (by simp) (by simp))
      injection e1 with e1; injection e2 with e2
      subst e1; subst e2
      exact ⟨a, b, rfl, by simp only [Rows.uptoBulk, Rows.uptoBulkAll]; omega⟩
theorem p2_form (n : Nat) (d : DataW H) (avs : List AV) (h : toAV Tryd.prog n 44 d = some avs) : ∃ p o : List Int, AV.agg avs = .agg [.sl .none (encP p), .sl .none (encP o)] ∧ p.length ≤ Rows.uptoBulk d ∧ o.length ≤ Rows.uptoBulk d := by
  obtain ⟨m, parts, avss, rfl, rfl, hl, hm, rfl⟩ := toAV_array kdP2 h
  match parts, hl, hm with
  | [d1, d2], _, hm =>
    obtain ⟨h1, h2⟩ := mapM_get hm
    match avss, h1, h2 with
    | [a1, a2], _, h2 =>
      obtain ⟨p, rfl, b1⟩ := pos_form m d1 a1 (h2 0 (by simp) (by simp))
      obtain ⟨o, rfl, b2⟩ := pos_form m d2 a2 (h2 1 (by simp) (by simp))
      exact ⟨p, o, rfl, by simp only [Rows.uptoBulk, Rows.uptoBulkAll]; omega, by simp only [Rows.uptoBulk, Rows.uptoBulkAll]; omega⟩
end
theorem itoa100 (i : Nat) (H : List AObj) (hi : i < 100) : ACall Tryd.prog 92 [.int .i64 (i : Nat)] H (fun r H' => r = .str (Lib.decDigits i) ∧ H' = H) := by
  intro C vs hg hH hsz hv
  match vs, hsz, hv with
  | ⟨[v]⟩, _, hv =>
    have h0 := hv 0 (by simp) (by simp)
    simp only [List.getElem_cons_zero] at h0
    cases h0 with
    | int k n =>
      refine (Tryd.strconv_Itoa_small i hi C.w).mono fun e w' ⟨he, hw⟩ => ?_
      subst hw
      exact ⟨_, .str (Lib.decDigits i), C, he, rfl, hg, Ext.refl C, .str _, rfl, hH⟩
end Ab
set_option maxRecDepth 10000
namespace Go.Proofs.YtakpnikkcinckaaDoor
open Go Ab
namespace rpl
theorem own : ownKnob Tryd.prog.godebug = none := by kernel_rfl
theorem laid : laidOutB Tryd.prog = true := by kernel_rfl
theorem readable : ∀ t, t ∈ Tryd.f5.params.toList → Tryd.prog.readableRec t = true ∧ t < Tryd.prog.types.size := by
  rw [Tryd.params5]; intro t ht
  simp only [List.mem_cons, List.not_mem_nil, or_false] at ht
  rcases ht with rfl | rfl | rfl <;> exact ⟨by kernel_rfl, of_decide_eq_true (by kernel_rfl)⟩
theorem closed : closedK Tryd.prog [24, 9, 4, 22, 44, 30, 3, 45] = true := by kernel_rfl
theorem contract (H : Type) (enc : TypeId × Value → H) (W : World) (base : Nat) (args : Array Value) (ds gs : List (DataW H)) (before : List MemPlace)
    (hval : ∀ (j : Nat) t v, Tryd.f5.params[j]? = some t → args[j]? = some v → Value.okWide Tryd.prog W .any base t v)
    (hW : DataW.Whole enc Tryd.prog Tryd.f5.params.toList Rows.termReplacementSpec.vars false W args.toList ds gs before) (hk : Rows.uptoSmall H (ds ++ gs) = true) :
    Calls Tryd.prog 5 args W fun e W' => ∃ v, e = .returned v ∧ Rows.termReplacementSpec.post enc Tryd.prog Tryd.f5 false true false false W args v W' := by
  have hW' := hW
  obtain ⟨p, q, hA0, hV, rfl, hfz, hnd⟩ := hW
  have hA : DataW.TrodAll enc Tryd.prog W 0 (fun _ => true) true Tryd.f5.params.toList args.toList ds p := hA0
  rw [Tryd.params5] at hA hval
  obtain ⟨v0, vs0, d0, ds0, p0, q0, hargs, rfl, rfl, h0, r0⟩ := ChangeShapes.trodAll_cons hA
  obtain ⟨v1, vs1, d1, ds1, p1, q1, rfl, rfl, rfl, h1, r1⟩ := ChangeShapes.trodAll_cons r0
  obtain ⟨v2, vs2, d2, ds2, p2, q2, rfl, rfl, rfl, h2, r2⟩ := ChangeShapes.trodAll_cons r1
  obtain ⟨rfl, rfl, rfl⟩ := ChangeShapes.trodAll_nil r2
  obtain rfl : args = #[v0, v1, v2] := by cases args; simp_all
  have hg : gs = [] := by cases gs with | nil => rfl | cons _ _ => exact hV.elim
  subst hg
  have hb : Rows.uptoBulk d0 + Rows.uptoBulk d1 + Rows.uptoBulk d2 ≤ 1048576 := by
    have := of_decide_eq_true hk
    simp only [List.cons_append, List.nil_append, List.append_nil, Rows.uptoBulkAll] at this
    omega
  obtain ⟨n0, a0, e0, x0⟩ := arg_struct closed (by decide) Tryd.underlying24 (hval 0 _ v0 rfl rfl) h0
  obtain ⟨n1, a1, e1, x1⟩ := arg_array closed (by decide) Tryd.underlying44 (hval 1 _ v1 rfl rfl) h1
  obtain ⟨n2, a2, e2, x2⟩ := arg_array closed (by decide) Tryd.underlying45 (hval 2 _ v2 rfl rfl) h2
  obtain ⟨t, f0, b1⟩ := term_form n0 d0 a0 e0
  obtain ⟨p, o, f1, b2, b3⟩ := p2_form n1 d1 a1 e1
  obtain ⟨x, y, f2, b4⟩ := q2_form n2 d2 a2 e2
  rw [f0] at x0; rw [f1] at x1; rw [f2] at x2
  have hc := law_calls (args := #[v0, v1, v2]) (avs := [encT t, .agg [.sl .none (encP p), .sl .none (encP o)], .agg [.str x.name, .bool x.var, .sl .none (encTs x.args), .str y.name, .bool y.var, .sl .none (encTs y.args)]]) (W := W) (replacement_ac itoa100 t x y p o (by omega) (by omega) (by omega) []) rfl (fun i hi hi' => by
    match i, hi with
    | 0, _ => exact x0
    | 1, _ => exact x1
    | 2, _ => exact x2)
  refine hc.mono fun e W' ⟨he, hbl⟩ => ?_
  subst he
  exact ⟨_, rfl, post_law rfl ⟨rfl, rfl, rfl⟩ hW' hbl rfl Tryd.underlying4 laid readable⟩
noncomputable def laidWorld (os : Os) : World := { World.holding Tryd.prog os ⟨#[], #[], []⟩ with heap := ((((World.holding Tryd.prog os ⟨#[], #[], []⟩).heap).modify 2 (fun | .cells _ t fz => .cells #[.int .u8 0, .int .u8 1, .int .u8 28, .int .u8 2, .int .u8 29, .int .u8 14, .int .u8 24, .int .u8 3, .int .u8 30, .int .u8 22, .int .u8 20, .int .u8 15, .int .u8 25, .int .u8 17, .int .u8 4, .int .u8 8, .int .u8 31, .int .u8 27, .int .u8 13, .int .u8 23, .int .u8 21, .int .u8 19, .int .u8 16, .int .u8 7, .int .u8 26, .int .u8 12, .int .u8 18, .int .u8 6, .int .u8 11, .int .u8 5, .int .u8 10, .int .u8 9] t fz | o => o)).modify 3 (fun | .cells _ t fz => .cells #[.int .u8 0, .int .u8 1, .int .u8 56, .int .u8 2, .int .u8 57, .int .u8 49, .int .u8 28, .int .u8 3, .int .u8 61, .int .u8 58, .int .u8 42, .int .u8 50, .int .u8 38, .int .u8 29, .int .u8 17, .int .u8 4, .int .u8 62, .int .u8 47, .int .u8 59, .int .u8 36, .int .u8 45, .int .u8 43, .int .u8 51, .int .u8 22, .int .u8 53, .int .u8 39, .int .u8 33, .int .u8 30, .int .u8 24, .int .u8 18, .int .u8 12, .int .u8 5, .int .u8 63, .int .u8 55, .int .u8 48, .int .u8 27, .int .u8 60, .int .u8 41, .int .u8 37, .int .u8 16, .int .u8 46, .int .u8 35, .int .u8 44, .int .u8 21, .int .u8 52, .int .u8 32, .int .u8 23, .int .u8 11, .int .u8 54, .int .u8 26, .int .u8 40, .int .u8 15, .int .u8 34, .int .u8 20, .int .u8 31, .int .u8 10, .int .u8 25, .int .u8 14, .int .u8 19, .int .u8 9, .int .u8 13, .int .u8 8, .int .u8 7, .int .u8 6] t fz | o => o)).modify 1 (fun | .cells _ t fz => .cells #[.int .u64 1, .int .u64 10, .int .u64 100, .int .u64 1000, .int .u64 10000, .int .u64 100000, .int .u64 1000000, .int .u64 10000000, .int .u64 100000000, .int .u64 1000000000, .int .u64 10000000000, .int .u64 100000000000, .int .u64 1000000000000, .int .u64 10000000000000, .int .u64 100000000000000, .int .u64 1000000000000000, .int .u64 10000000000000000, .int .u64 100000000000000000, .int .u64 1000000000000000000, .int .u64 10000000000000000000] t fz | o => o) }
set_option maxRecDepth 100000 in
theorem laid_met (os : Os) : laidMet Tryd.prog Rows.termReplacementUptoRow.laid ((laidWorld os).forCall (fun _ _ => 0) ⟨#[], #[.agg #[.string ⟨#[]⟩, .bool false, .slice none 0 0], .agg #[.slice none 0 0, .slice none 0 0], .agg #[.string ⟨#[]⟩, .bool false, .slice none 0 0, .string ⟨#[]⟩, .bool false, .slice none 0 0]], []⟩).memory :=
  laidMet_of_run' 80 (by kernel_rfl) (by kernel_rfl)
set_option maxRecDepth 100000 in
theorem reads (os : Os) {H : Type} (enc : TypeId × Value → H) : ∃ places, DataW.whole enc Tryd.prog ((laidWorld os).forCall (fun _ _ => 0) ⟨#[], #[.agg #[.string ⟨#[]⟩, .bool false, .slice none 0 0], .agg #[.slice none 0 0, .slice none 0 0], .agg #[.string ⟨#[]⟩, .bool false, .slice none 0 0, .string ⟨#[]⟩, .bool false, .slice none 0 0]], []⟩).memory Tryd.f5.params.toList (Rows.OpenSpec.upto Rows.termReplacementSpec).vars false #[.agg #[.string ⟨#[]⟩, .bool false, .slice none 0 0], .agg #[.slice none 0 0, .slice none 0 0], .agg #[.string ⟨#[]⟩, .bool false, .slice none 0 0, .string ⟨#[]⟩, .bool false, .slice none 0 0]].toList 8 = some ([.agg [.lit (.string []), .lit (.bool false), .nil], .agg [.nil, .nil], .agg [.agg [.lit (.string []), .lit (.bool false), .nil], .agg [.lit (.string []), .lit (.bool false), .nil]]], [], places) := ⟨[], by kernel_rfl⟩
set_option maxRecDepth 100000 in
theorem lifted (os : Os) (started : os.Started) (H : Type) (enc : TypeId × Value → H) (F : Stop.Interp) :
    ReturnsInHanded {} Tryd.checked os 5 .any ((Rows.OpenSpec.upto Rows.termReplacementSpec).preRow enc Tryd.prog Tryd.f5 Rows.termReplacementUptoRow.domain false Rows.termReplacementUptoRow.laid) (((Rows.OpenSpec.upto Rows.termReplacementSpec).at F).post enc Tryd.prog Tryd.f5 false true false false) := by
  obtain ⟨places, hx⟩ := reads os enc
  refine returnsInHanded_of_row (C := Tryd.checked) (s := Rows.OpenSpec.upto Rows.termReplacementSpec) own started (by kernel_rfl) Tryd.func5
    (witness_row_at (enc := enc) (C := Tryd.checked) false (laidWorld os) #[.agg #[.string ⟨#[]⟩, .bool false, .slice none 0 0], .agg #[.slice none 0 0, .slice none 0 0], .agg #[.string ⟨#[]⟩, .bool false, .slice none 0 0, .string ⟨#[]⟩, .bool false, .slice none 0 0]] rfl (by kernel_rfl) (by kernel_rfl) (by kernel_rfl)
      (OpenSpec.preRow_of_cond 8 hx (by kernel_rfl) (fun k hk => by cases hk; kernel_rfl) (by kernel_rfl) (laid_met os))) ?_
  intro W base args ds gs before hval hW _ hk _ _ _ _
  exact contract H enc W base args ds gs before hval hW (hk _ rfl)
theorem over : Rows.TermReplacementUptoSaid :=
  OpenClaim.holds_of_cond 5 Tryd.f5 rfl rfl rfl rfl rfl rfl rfl ⟨rfl, rfl, rfl, rfl, rfl⟩ rfl rfl rfl rfl rfl (by kernel_rfl) Tryd.func5 (by kernel_rfl)
    (of_decide_eq_true (by kernel_rfl)) (by unfold Func.isWrapper; first | (rw [if_pos (by decide +kernel)]; kernel_rfl) | (rw [if_neg (by decide +kernel)]; exact ⟨rfl, rfl⟩))
    (fun os started H enc _ F => by rw [OpenClaim.pre_eq_preRow]; exact lifted os started H enc F)
theorem plain (f : FuncId) (fn : Func) (hf : Tryd.pinned.checked.prog.funcNamed "dwindle/dwindlelaw01.TermReplacement" = some f) (hfn : Tryd.pinned.checked.prog.funcs[f]? = some fn) :
    false = Tryd.pinned.checked.prog.looks [] ∧ ∀ (j : Nat) t, fn.params[j]? = some t → Tryd.pinned.checked.prog.wantsStandIn t = false := by
  obtain rfl : f = 5 := Option.some.inj ((show Tryd.prog.funcNamed "dwindle/dwindlelaw01.TermReplacement" = some 5 by kernel_rfl).symm.trans hf) |>.symm
  obtain rfl : fn = Tryd.f5 := (Option.some.inj (Tryd.func5.symm.trans hfn)).symm
  refine ⟨by kernel_rfl, fun j t ht => ?_⟩
  rw [Tryd.params5] at ht
  have hm := Array.mem_of_getElem? ht
  simp only [List.mem_toArray, List.mem_cons, List.not_mem_nil, or_false] at hm
  rcases hm with rfl | rfl | rfl
  · exact (show Tryd.prog.wantsStandIn 24 = false by kernel_rfl)
  · exact (show Tryd.prog.wantsStandIn 44 = false by kernel_rfl)
  · exact (show Tryd.prog.wantsStandIn 45 = false by kernel_rfl)
end rpl
theorem termReplacement_card : Rows.TermReplacementUptoCardSaid :=
  Claim7.holds_tied_plain_at .later [] _ _ _ _ rpl.over (fun _ h => by cases h) (by kernel_rfl) (fun _ h => by cases h) termReplacementUpto_row_tie rfl ⟨rfl, rfl⟩ (by kernel_rfl) rfl rpl.plain (by kernel_rfl)
end Go.Proofs.YtakpnikkcinckaaDoor
