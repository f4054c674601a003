/- Part 6 of 6 of a proof. The law DeriveLifts of chapter 05 returns true at every input up to the bound: Inside and Instance are the reference's, and the last terms are those of the derivation in the context and under the substitution. -/
import Derived.Test.YtpgjcbeoipldgaaGreatRl5
import Derived.Shelf.Spec.SlicesGrow
import Derived.Shelf.Small.Bits
import Derived.Shelf.Small.Strs
import Derived.Shelf.Strconv.Itoa0
import Derived.Shelf.Sort.Plain
import Derived.Shelf.Slices.In.SortNone
import Derived.Test.YtpgjcbeoipldgaaGreatProg
set_option linter.unusedVariables false
set_option linter.unusedSimpArgs false
set_option maxRecDepth 100000
namespace Ab
open Go Go.Proofs
@[reducible] def lgL (H : List AObj) (l0 l1 l2 : Int) : List AObj :=
  [.tok 3 1 2, .tok 3 1 1, .dead, .cells [.str dxA.name, .bool dxA.var, .sl .none (encTs dxA.args)], .cells [.sl .none (encTs dxG.ts), .sl .none (encL encE dxG.es), .bool true],
   .cells [.sl (.own H.length) [.int .i64 1, .int .i64 2], .sl (.own (H.length + 1)) [.int .i64 0], .sl .zero []], .cells [.arr (H.length + 5) 0 3],
   .cells [.int .i64 l0, .int .i64 l1, .int .i64 l2], .cells [.arr (H.length + 7) 0 3], .cells [.fn 84 [.ptr (H.length + 8) 0, .ptr (H.length + 6) 0, .ptr (H.length + 9) 0]]]
theorem osc_lgL (n : Nat) (H : List AObj) (l0 l1 l2 : Int) (hn : H.length + 10 ≤ n) : ∀ o, o ∈ lgL H l0 l1 l2 → OScoped n o := by
  intro o ho
  simp only [List.mem_cons, List.not_mem_nil, or_false] at ho
  rcases ho with rfl | rfl | rfl | rfl | rfl | rfl | rfl | rfl | rfl | rfl
  · exact trivial
  · exact trivial
  · exact trivial
  · exact ⟨trivial, trivial, scoped_encTs _ dxA.args, trivial⟩
  · exact ⟨scoped_encTs _ dxG.ts, of_eq_true (scopedE _ dxG.es), trivial, trivial⟩
  · simp [OScoped, ScopedL, Scoped]; omega
  · simp [OScoped, ScopedL, Scoped]; omega
  · simp [OScoped, ScopedL, Scoped]
  · simp [OScoped, ScopedL, Scoped]; omega
  · simp [OScoped, ScopedL, Scoped]; omega
theorem ok_lg (H : List AObj) (a0 a1 a2 b0 b1 b2 : Int) : OutOk (H ++ lgL H a0 a1 a2) (H ++ lgL H b0 b1 b2) (H.length + 10) := by
  have h := outok_ex (H := H) (L := lgL H a0 a1 a2) (L' := lgL H b0 b1 b2) (Y := []) (m := H.length + 10) rfl rfl (fun i o h => .inr (osc_lgL _ H b0 b1 b2 (Nat.le_refl _) o (List.mem_of_getElem? h)))
  simpa using h
theorem visit0_ac (H : List AObj) : ACall Tryz.prog 84 [.int .i64 0, .ptr (H.length + 8) 0, .ptr (H.length + 6) 0, .ptr (H.length + 9) 0] (H ++ lgL H (-1) (-1) 0) (fun r H' => r = .bool false ∧ H' = H ++ lgL H (-1) (-1) 0) := by
  refine ACall_V (H.length + 10) 43 [.tmp 5] Tryz.func84 rfl rfl rfl ?_
  simp only [push_cast, Nat.reduceAdd, Nat.reduceSub, Nat.reduceMul, Nat.reduceLT, Nat.reduceLeDiff, Nat.reduceEqDiff, Int.reduceToNat, ↓reduceIte]
  refine ⟨by decide, cI (fun h => absurd h (by decide)) (fun _ => ?_)⟩
  exact ⟨by decide, ok_lg H _ _ _ _ _ _, by decide⟩
theorem visit1_ac (H : List AObj) : ACall Tryz.prog 84 [.int .i64 1, .ptr (H.length + 8) 0, .ptr (H.length + 6) 0, .ptr (H.length + 9) 0] (H ++ lgL H (-1) 0 0) (fun r H' => r = .bool false ∧ H' = H ++ lgL H (-1) (-1) 0) := by
  refine ACall_V (H.length + 10) 43 [.tmp 5] Tryz.func84 rfl rfl rfl ?_
  simp only [push_cast, Nat.reduceAdd, Nat.reduceSub, Nat.reduceMul, Nat.reduceLT, Nat.reduceLeDiff, Nat.reduceEqDiff, Int.reduceToNat, ↓reduceIte]
  refine ⟨by decide, by decide, by decide, ?_⟩
  refine AW_loopW (maskG 47 [0, 0, 1, 2, 18, 0, 0]) (fun (_ : Unit) => [(27, .int .i64 0), (6, .int .i64 0)]) (fun _ => H ++ lgL H (-1) (-1) 0) (fun _ => True) (fun _ => 0) () trivial (by simp only [push_cast, Nat.reduceAdd, Nat.reduceSub, Nat.reduceMul, Nat.reduceLT, Nat.reduceLeDiff, Nat.reduceEqDiff, Int.reduceToNat, ↓reduceIte]; exact ok_lg H _ _ _ _ _ _) (fun _ _ => ?_)
  simp only [push_cast, Nat.reduceAdd, Nat.reduceSub, Nat.reduceMul, Nat.reduceLT, Nat.reduceLeDiff, Nat.reduceEqDiff, Int.reduceToNat, ↓reduceIte]
  refine cI (fun _ => ?_) (fun h => absurd h (by decide))
  refine ⟨by simp [Uni, AV.cells], by decide, by decide, ?_⟩
  refine (visit0_ac H).to ?_
  simp only [push_cast, Nat.reduceAdd, Nat.reduceSub, Nat.reduceMul, Nat.reduceLT, Nat.reduceLeDiff, Nat.reduceEqDiff, Int.reduceToNat, ↓reduceIte]
  exact ok_lg H _ _ _ _ _ _
theorem visit2_ac (H : List AObj) : ACall Tryz.prog 84 [.int .i64 0, .ptr (H.length + 8) 0, .ptr (H.length + 6) 0, .ptr (H.length + 9) 0] (H ++ lgL H 0 0 0) (fun r H' => r = .bool false ∧ H' = H ++ lgL H (-1) (-1) 0) := by
  refine ACall_V (H.length + 10) 43 [.tmp 5] Tryz.func84 rfl rfl rfl ?_
  simp only [push_cast, Nat.reduceAdd, Nat.reduceSub, Nat.reduceMul, Nat.reduceLT, Nat.reduceLeDiff, Nat.reduceEqDiff, Int.reduceToNat, ↓reduceIte]
  refine ⟨by decide, by decide, by decide, ?_⟩
  refine AW_loopW (maskG 47 [0, 0, 1, 2, 18, 0, 0]) (fun (_ : Unit) => [(27, .int .i64 0), (6, .int .i64 0)]) (fun _ => H ++ lgL H (-1) 0 0) (fun _ => True) (fun _ => 0) () trivial (by simp only [push_cast, Nat.reduceAdd, Nat.reduceSub, Nat.reduceMul, Nat.reduceLT, Nat.reduceLeDiff, Nat.reduceEqDiff, Int.reduceToNat, ↓reduceIte]; exact ok_lg H _ _ _ _ _ _) (fun _ _ => ?_)
  simp only [push_cast, Nat.reduceAdd, Nat.reduceSub, Nat.reduceMul, Nat.reduceLT, Nat.reduceLeDiff, Nat.reduceEqDiff, Int.reduceToNat, ↓reduceIte]
  refine cI (fun _ => ?_) (fun h => absurd h (by decide))
  refine ⟨by simp [Uni, AV.cells], by decide, by decide, ?_⟩
  refine (visit1_ac H).to ?_
  simp only [push_cast, Nat.reduceAdd, Nat.reduceSub, Nat.reduceMul, Nat.reduceLT, Nat.reduceLeDiff, Nat.reduceEqDiff, Int.reduceToNat, ↓reduceIte]
  exact ok_lg H _ _ _ _ _ _
theorem dx_get : (∀ h, dxG.es[0]'h = ⟨0, 1, (0, [])⟩) ∧ (∀ h, dxG.es[1]'h = ⟨0, 2, (1, [])⟩) ∧ (∀ h, dxG.es[2]'h = ⟨1, 0, (2, [])⟩) := ⟨fun _ => rfl, fun _ => rfl, fun _ => rfl⟩
def nxF (i : Nat) (k : Int) : List Int := ((dxG.es.take i).filter fun e => decide (e.fr = k)).map (·.to)
theorem nx_0 : nxF 0 0 = [] ∧ nxF 0 1 = [] ∧ nxF 1 0 = [1] ∧ nxF 1 1 = [] ∧ nxF 2 0 = [1, 2] ∧ nxF 2 1 = [] ∧ nxF 3 0 = [1, 2] ∧ nxF 3 1 = [0] := by decide
set_option maxHeartbeats 2000000 in
theorem longestX_ac (H : List AObj) : ACall Tryz.prog 38 [.sl .none (encL encRu dxR), encT dxA, .int .i64 10] H (fun r H' => r = .tup [.int .i64 0, .bool false, .int .i64 0] ∧ H' = H) := by
  have hex := fun X => exploreX_ac dxR (by rw [dx_B.2.1]; decide) dx_B.1 dxA (by rw [dx_B.2.2]; decide) 10 X
  rw [dx_exE] at hex
  have hts : dxG.ts.length = 3 := rfl
  have hes : dxG.es.length = 3 := rfl
  have hwh : dxG.wh = true := rfl
  obtain ⟨g0, g1, g2⟩ := dx_get
  refine ACall_VA (H.length) 65 [.tmp 6, .tmp 7, .tmp 8] Tryz.func38 rfl rfl rfl ?_
  refine AW_reserve 3 ?_
  refine AW_of_W ?_
  simp only [push_cast, Nat.reduceAdd, Nat.reduceSub, Nat.reduceMul, Nat.reduceLT, Nat.reduceLeDiff, Nat.reduceEqDiff, Int.reduceToNat, ↓reduceIte]
  refine (hex _).to ?_
  simp only [push_cast, Nat.reduceAdd, Nat.reduceSub, Nat.reduceMul, Nat.reduceLT, Nat.reduceLeDiff, Nat.reduceEqDiff, Int.reduceToNat, ↓reduceIte, encGE, hts, hes, hwh]
  refine AOp_make1 3 _ _ _ rfl rfl sl121 sz48 by48 zr48 rfl (by decide) (by decide) ?_
  simp only [push_cast, Nat.reduceAdd, Nat.reduceSub, Nat.reduceMul, Nat.reduceLT, Nat.reduceLeDiff, Nat.reduceEqDiff, Int.reduceToNat, ↓reduceIte]
  have hencP : ∀ l : List Int, encL (fun i : Int => AV.int .i64 i) l = encP l := fun _ => rfl
  refine AW_loopW (maskG 68 [9, 1, 24, 0, 0]) (fun (i : Nat) => [(38, .int .i64 i)]) (fun i => H ++ [gTok 3 1 (encP (nxF i 0)), gTok 3 1 (encP (nxF i 1)), .dead, .cells [.str dxA.name, .bool dxA.var, .sl .none (encTs dxA.args)], .cells [.sl .none (encTs dxG.ts), .sl .none (encL encE dxG.es), .bool true], .cells [gSl H.length (encP (nxF i 0)), gSl (H.length + 1) (encP (nxF i 1)), .sl .zero []], .cells [.arr (H.length + 5) 0 3]]) (fun i => i ≤ 3) (fun i => 3 - i) 0 (Nat.zero_le _) (by simp only [push_cast, Nat.reduceAdd, Nat.reduceSub, Nat.reduceMul, Nat.reduceLT, Nat.reduceLeDiff, Nat.reduceEqDiff, Int.reduceToNat, ↓reduceIte, nx_0.1, nx_0.2.1]; first | done | rfl) (fun i hi => ?_)
  obtain ⟨a1, a2, a3, a4, a5, a6, a7, a8⟩ := nx_0
  simp only [push_cast, Nat.reduceAdd, Nat.reduceSub, Nat.reduceMul, Nat.reduceLT, Nat.reduceLeDiff, Nat.reduceEqDiff, Int.reduceToNat, ↓reduceIte, hes]
  refine cI (fun h => ?_) (fun h => ?_)
  · match i, hi, h with
    | 0, _, _ =>
      refine ⟨by decide, ?_⟩
      simp only [push_cast, Nat.reduceAdd, Nat.reduceSub, Nat.reduceMul, Nat.reduceLT, Nat.reduceLeDiff, Nat.reduceEqDiff, Int.reduceToNat, ↓reduceIte, g0]
      apply AW_drawE [some 42, some 43, some 44, some 45, some 46, some 47, some 48, some 49, some 50, some 51, some 52, some 53, some 54, none] [([false, false], _), ([true, false], _), ([true, true], _)] [none, none, none, none, none, none, none, none, none, none, none, some 0, none, some 1] 2 [(0, [false, false], [11]), (1, [false, false], [13]), (2, [false, false], [43]), (3, [false, false], [11]), (4, [false, false], [13]), (5, [false, false], [46]), (6, [false, false], [45, 1]), (7, [false, false], [48]), (8, [false, false], [13]), (9, [false, false], [50]), (10, [false, false], [51]), (11, [false, false], [49, 2]), (12, [true, false], [42, 1]), (13, [true, false], [53, 0]), (0, [true, false], [11]), (1, [true, false], [13]), (2, [true, false], [43]), (3, [true, false], [11]), (4, [true, false], [13]), (5, [true, false], [46]), (6, [true, false], [45, 1]), (8, [true, false], [13]), (9, [true, false], [50])] [_, _, _, _, _, _, _, _, _, _, _, _, _, _]
      case' hm => exact dr
      case' hn => rfl
      case' hok => rfl
      case' hlen => rfl
      case' hd => rfl
      case' h0 => rfl
      case' hstep =>
       simp only [DAllG, push_cast, Option.isSome_some, Option.isSome_none]
       repeat' apply And.intro
       all_goals (apply DOne_V; simp only [push_cast, Nat.reduceAdd, Nat.reduceSub, Nat.reduceMul, Nat.reduceLT, Nat.reduceLeDiff, Nat.reduceEqDiff, Int.reduceToNat, ↓reduceIte] <;> first | exact rfl | omega | exact ⟨rfl, rfl⟩ | exact trivial | exact ⟨by omega, rfl⟩ | exact ⟨by omega, by omega, rfl⟩ | exact ⟨by omega, rfl, rfl⟩ | exact ⟨by omega, by omega, rfl, rfl⟩ | (refine app1_L (fun i : Int => AV.int .i64 i) (sz := 1) (fun _ => rfl) (by intro x c hc; simp [AV.cells] at hc; subst hc; rfl) _ H.length (nxF 0 0) 1 _ rfl rfl (by exact aget0 _ _ _) sl48 sz3 by3 zr3 rfl (by decide) (by decide) (by decide) ?_; exact ⟨rfl, rfl⟩) | exact ⟨by decide, by decide, rfl⟩)
      case' hQ => skip
      have e : nxF 0 0 ++ [1] = nxF 1 0 := by decide
      rw [e, hencP]
      simp only [push_cast, Nat.reduceAdd, Nat.reduceSub, Nat.reduceMul, Nat.reduceLT, Nat.reduceLeDiff, Nat.reduceEqDiff, Int.reduceToNat, ↓reduceIte]
      repeat' first | refine ⟨by omega, ?_⟩ | refine cI (fun _ => ?_) (fun _ => ?_)
      refine loopW_n 1 (by omega) (by omega) ?_
      rw [show nxF 1 1 = nxF 0 1 by decide]
      simp only [push_cast, Nat.reduceAdd, Nat.reduceSub, Nat.reduceMul, Nat.reduceLT, Nat.reduceLeDiff, Nat.reduceEqDiff, Int.reduceToNat, ↓reduceIte]
    | 1, _, _ =>
      refine ⟨by decide, ?_⟩
      simp only [push_cast, Nat.reduceAdd, Nat.reduceSub, Nat.reduceMul, Nat.reduceLT, Nat.reduceLeDiff, Nat.reduceEqDiff, Int.reduceToNat, ↓reduceIte, g1]
      apply AW_drawE [some 42, some 43, some 44, some 45, some 46, some 47, some 48, some 49, some 50, some 51, some 52, some 53, some 54, none] [([false, false], _), ([true, false], _), ([true, true], _)] [none, none, none, none, none, none, none, none, none, none, none, some 0, none, some 1] 2 [(0, [false, false], [11]), (1, [false, false], [13]), (2, [false, false], [43]), (3, [false, false], [11]), (4, [false, false], [13]), (5, [false, false], [46]), (6, [false, false], [45, 1]), (7, [false, false], [48]), (8, [false, false], [13]), (9, [false, false], [50]), (10, [false, false], [51]), (11, [false, false], [49, 2]), (12, [true, false], [42, 1]), (13, [true, false], [53, 0]), (0, [true, false], [11]), (1, [true, false], [13]), (2, [true, false], [43]), (3, [true, false], [11]), (4, [true, false], [13]), (5, [true, false], [46]), (6, [true, false], [45, 1]), (8, [true, false], [13]), (9, [true, false], [50])] [_, _, _, _, _, _, _, _, _, _, _, _, _, _]
      case' hm => exact dr
      case' hn => rfl
      case' hok => rfl
      case' hlen => rfl
      case' hd => rfl
      case' h0 => rfl
      case' hstep =>
       simp only [DAllG, push_cast, Option.isSome_some, Option.isSome_none]
       repeat' apply And.intro
       all_goals (apply DOne_V; simp only [push_cast, Nat.reduceAdd, Nat.reduceSub, Nat.reduceMul, Nat.reduceLT, Nat.reduceLeDiff, Nat.reduceEqDiff, Int.reduceToNat, ↓reduceIte] <;> first | exact rfl | omega | exact ⟨rfl, rfl⟩ | exact trivial | exact ⟨by omega, rfl⟩ | exact ⟨by omega, by omega, rfl⟩ | exact ⟨by omega, rfl, rfl⟩ | exact ⟨by omega, by omega, rfl, rfl⟩ | (refine app1_L (fun i : Int => AV.int .i64 i) (sz := 1) (fun _ => rfl) (by intro x c hc; simp [AV.cells] at hc; subst hc; rfl) _ H.length (nxF 1 0) 2 _ rfl rfl (by exact aget0 _ _ _) sl48 sz3 by3 zr3 rfl (by decide) (by decide) (by decide) ?_; exact ⟨rfl, rfl⟩) | exact ⟨by decide, by decide, rfl⟩)
      case' hQ => skip
      have e : nxF 1 0 ++ [2] = nxF 2 0 := by decide
      rw [e, hencP]
      simp only [push_cast, Nat.reduceAdd, Nat.reduceSub, Nat.reduceMul, Nat.reduceLT, Nat.reduceLeDiff, Nat.reduceEqDiff, Int.reduceToNat, ↓reduceIte]
      repeat' first | refine ⟨by omega, ?_⟩ | refine cI (fun _ => ?_) (fun _ => ?_)
      refine loopW_n 2 (by omega) (by omega) ?_
      rw [show nxF 2 1 = nxF 1 1 by decide]
      simp only [push_cast, Nat.reduceAdd, Nat.reduceSub, Nat.reduceMul, Nat.reduceLT, Nat.reduceLeDiff, Nat.reduceEqDiff, Int.reduceToNat, ↓reduceIte]
    | 2, _, _ =>
      refine ⟨by decide, ?_⟩
      simp only [push_cast, Nat.reduceAdd, Nat.reduceSub, Nat.reduceMul, Nat.reduceLT, Nat.reduceLeDiff, Nat.reduceEqDiff, Int.reduceToNat, ↓reduceIte, g2]
      apply AW_drawE [some 42, some 43, some 44, some 45, some 46, some 47, some 48, some 49, some 50, some 51, some 52, some 53, some 54, none] [([false, false], _), ([true, false], _), ([true, true], _)] [none, none, none, none, none, none, none, none, none, none, none, some 0, none, some 1] 2 [(0, [false, false], [11]), (1, [false, false], [13]), (2, [false, false], [43]), (3, [false, false], [11]), (4, [false, false], [13]), (5, [false, false], [46]), (6, [false, false], [45, 1]), (7, [false, false], [48]), (8, [false, false], [13]), (9, [false, false], [50]), (10, [false, false], [51]), (11, [false, false], [49, 2]), (12, [true, false], [42, 1]), (13, [true, false], [53, 0]), (0, [true, false], [11]), (1, [true, false], [13]), (2, [true, false], [43]), (3, [true, false], [11]), (4, [true, false], [13]), (5, [true, false], [46]), (6, [true, false], [45, 1]), (8, [true, false], [13]), (9, [true, false], [50])] [_, _, _, _, _, _, _, _, _, _, _, _, _, _]
      case' hm => exact dr
      case' hn => rfl
      case' hok => rfl
      case' hlen => rfl
      case' hd => rfl
      case' h0 => rfl
      case' hstep =>
       simp only [DAllG, push_cast, Option.isSome_some, Option.isSome_none]
       repeat' apply And.intro
       all_goals (apply DOne_V; simp only [push_cast, Nat.reduceAdd, Nat.reduceSub, Nat.reduceMul, Nat.reduceLT, Nat.reduceLeDiff, Nat.reduceEqDiff, Int.reduceToNat, ↓reduceIte] <;> first | exact rfl | omega | exact ⟨rfl, rfl⟩ | exact trivial | exact ⟨by omega, rfl⟩ | exact ⟨by omega, by omega, rfl⟩ | exact ⟨by omega, rfl, rfl⟩ | exact ⟨by omega, by omega, rfl, rfl⟩ | (refine app1_L (fun i : Int => AV.int .i64 i) (sz := 1) (fun _ => rfl) (by intro x c hc; simp [AV.cells] at hc; subst hc; rfl) _ (H.length + 1) (nxF 2 1) 0 _ rfl rfl (by exact (agetN _ _ 1).trans rfl) sl48 sz3 by3 zr3 rfl (by decide) (by decide) (by decide) ?_; exact ⟨rfl, rfl⟩) | exact ⟨by decide, by decide, rfl⟩)
      case' hQ => skip
      have e : nxF 2 1 ++ [0] = nxF 3 1 := by decide
      rw [e, hencP]
      simp only [push_cast, Nat.reduceAdd, Nat.reduceSub, Nat.reduceMul, Nat.reduceLT, Nat.reduceLeDiff, Nat.reduceEqDiff, Int.reduceToNat, ↓reduceIte]
      repeat' first | refine ⟨by omega, ?_⟩ | refine cI (fun _ => ?_) (fun _ => ?_)
      refine loopW_n 3 (by omega) (by omega) ?_
      rw [show nxF 3 0 = nxF 2 0 by decide]
      simp only [push_cast, Nat.reduceAdd, Nat.reduceSub, Nat.reduceMul, Nat.reduceLT, Nat.reduceLeDiff, Nat.reduceEqDiff, Int.reduceToNat, ↓reduceIte]
  · have h3 : i = 3 := by omega
    subst h3
    simp only [push_cast, Nat.reduceAdd, Nat.reduceSub, Nat.reduceMul, Nat.reduceLT, Nat.reduceLeDiff, Nat.reduceEqDiff, Int.reduceToNat, ↓reduceIte, a7, a8]
    refine AOp_make1 3 _ _ _ rfl rfl sl48 sz3 by3 zr3 rfl (by decide) (by decide) ?_
    simp only [push_cast, Nat.reduceAdd, Nat.reduceSub, Nat.reduceMul, Nat.reduceLT, Nat.reduceLeDiff, Nat.reduceEqDiff, Int.reduceToNat, ↓reduceIte]
    refine (visit2_ac H).to ?_
    first | (simp only [push_cast, Nat.reduceAdd, Nat.reduceSub, Nat.reduceMul, Nat.reduceLT, Nat.reduceLeDiff, Nat.reduceEqDiff, Int.reduceToNat, ↓reduceIte]; done) | (simp only [push_cast, Nat.reduceAdd, Nat.reduceSub, Nat.reduceMul, Nat.reduceLT, Nat.reduceLeDiff, Nat.reduceEqDiff, Int.reduceToNat, ↓reduceIte]; trace_state)
end Ab
set_option maxRecDepth 100000
namespace Ab
open Go Go.Proofs
theorem sameTerms_ac (a b : List Term) (h1 : a.length < 1099511627776) (h2 : b.length < 1099511627776) (h3 : ∀ x, x ∈ a → x.bulk ≤ 1099511627775) (h4 : ∀ x, x ∈ b → x.bulk ≤ 1099511627775) (H : List AObj) :
    ACall Tryz.prog 16 [.sl .none (encTs a), .sl .none (encTs b)] H (fun r H' => r = .bool (decide (a = b)) ∧ H' = H) := by
  refine ACall_V (H.length) 25 [.tmp 4] Tryz.func16 rfl rfl rfl ?_
  simp only [push_cast, Nat.reduceAdd, Nat.reduceSub, Nat.reduceMul, Nat.reduceLT, Nat.reduceLeDiff, Nat.reduceEqDiff, Int.reduceToNat, ↓reduceIte]
  refine cI (fun hl => ?_) (fun hl => ?_)
  · have hl : a.length = b.length := by omega
    refine AW_loopW (maskG 27 [0, 0, 10, 0]) (fun (i : Nat) => [(13, .int .i64 i)]) (fun _ => H) (fun i => i ≤ a.length ∧ a.take i = b.take i) (fun i => a.length - i) 0 ⟨Nat.zero_le _, rfl⟩ (by simp only [push_cast, Nat.reduceAdd, Nat.reduceSub, Nat.reduceMul, Nat.reduceLT, Nat.reduceLeDiff, Nat.reduceEqDiff, Int.reduceToNat, ↓reduceIte]) (fun i hi => ?_)
    simp only [push_cast, Nat.reduceAdd, Nat.reduceSub, Nat.reduceMul, Nat.reduceLT, Nat.reduceLeDiff, Nat.reduceEqDiff, Int.reduceToNat, ↓reduceIte]
    refine cI (fun h => ?_) (fun h => ?_)
    · repeat refine ⟨by omega, ?_⟩
      have hia : i < a.length := by omega
      have hib : i < b.length := by omega
      have heq := fun X => equalR_ac (a[i]'hia) (b[i]'hib) (h3 _ (List.getElem_mem hia)) (h4 _ (List.getElem_mem hib)) X
      apply AW_drawE [some 16, some 17, some 18, some 19, some 20, some 21, some 22, some 23, some 24, some 25] [([], _)] [none, none, none, none, none, none, none, none, none, none] 0 [(0, [], [0]), (1, [], [5]), (2, [], [16, 0]), (3, [], [18]), (4, [], [1]), (5, [], [5]), (6, [], [20, 0]), (7, [], [22]), (8, [], [19, 3]), (9, [], [24])] [_, _, _, _, _, _, _, _, _, _]
      case' hm => exact dr
      case' hn => rfl
      case' hok => rfl
      case' hlen => rfl
      case' hd => rfl
      case' h0 => rfl
      case' hstep =>
       simp only [DAllG, push_cast, Option.isSome_some, Option.isSome_none]
       repeat' apply And.intro
       all_goals (apply DOne_V; simp only [push_cast, Nat.reduceAdd, Nat.reduceSub, Nat.reduceMul, Nat.reduceLT, Nat.reduceLeDiff, Nat.reduceEqDiff, Int.reduceToNat, ↓reduceIte] <;> first | exact rfl | omega | exact ⟨rfl, rfl⟩ | exact trivial | exact ⟨by omega, rfl⟩ | exact ⟨by omega, by omega, rfl⟩ | exact ⟨by omega, rfl, rfl⟩ | exact ⟨by omega, by omega, rfl, rfl⟩ | exact ⟨by omega, trivial⟩ | (refine (heq _).to ?_; exact ⟨rfl, rfl⟩))
      case' hQ => skip
      simp only [push_cast, Nat.reduceAdd, Nat.reduceSub, Nat.reduceMul, Nat.reduceLT, Nat.reduceLeDiff, Nat.reduceEqDiff, Int.reduceToNat, ↓reduceIte]
      refine cI (fun he => ?_) (fun he => ?_)
      · repeat' first | refine ⟨by omega, ?_⟩ | refine cI (fun _ => ?_) (fun _ => ?_)
        refine loopW_n (i + 1) ⟨by omega, ?_⟩ (by omega) (by simp only [push_cast, Nat.reduceAdd, Nat.reduceSub, Nat.reduceMul, Nat.reduceLT, Nat.reduceLeDiff, Nat.reduceEqDiff, Int.reduceToNat, ↓reduceIte])
        rw [List.take_succ_eq_append_getElem hia, List.take_succ_eq_append_getElem hib, hi.2, he]
      · have hne : a ≠ b := fun e => he (by subst e; rfl)
        simp [hne]
    · have e := hi.2
      rw [List.take_of_length_le (by omega), List.take_of_length_le (by omega)] at e
      simp [e]
  · have hne : a ≠ b := fun e => hl (by rw [e])
    simp [hne]
theorem constant_ac (s : List UInt8) (H : List AObj) : ACall Tryz.prog 50 [.str s] H (fun r H' => r = encT (.mk s false []) ∧ H' = H) := by
  refine ACall_V (H.length) 4 [.cell 2 25] Tryz.func50 rfl rfl rfl ?_
  simp only [push_cast, Nat.reduceAdd, Nat.reduceSub, Nat.reduceMul, Nat.reduceLT, Nat.reduceLeDiff, Nat.reduceEqDiff, Int.reduceToNat, ↓reduceIte]
theorem enc_c (s : List UInt8) : encT (.mk s false []) = .agg [.str s, .bool false, .sl .none []] := by
  have h : encTs (Term.mk s false []).args = [] := encTs_nil
  simp only [encT, h]; rfl
theorem enc_dxR : encL encRu dxR = [AV.agg [.str [97], .bool false, .sl .none [], .str [98], .bool false, .sl .none []], .agg [.str [97], .bool false, .sl .none [], .str [99], .bool false, .sl .none []], .agg [.str [98], .bool false, .sl .none [], .str [97], .bool false, .sl .none []]] := by
  have h : ∀ s, encTs (Term.mk s false []).args = [] := fun s => encTs_nil
  simp only [encL, dxR, List.map_cons, List.map_nil, encRu, dxA, dxB, dxC, h, Term.mk_name, Term.mk_var]
set_option maxHeartbeats 4000000 in
theorem alive5_ac (H : List AObj) : ACall Tryz.prog 14 [] H (fun r H' => r = .bool true ∧ H' = H) := by
  have hA : encT dxA = .agg [.str [97], .bool false, .sl .none []] := enc_c [97]
  have hx := fun X => exploreX_ac dxR (by rw [dx_B.2.1]; decide) dx_B.1 dxA (by rw [dx_B.2.2]; decide) 10 X
  rw [dx_exE, enc_dxR, hA] at hx
  have hck : ∀ x, x ∈ dxG.ts → checkP x = 0 := by
    intro x hx
    simp only [dxG, List.mem_cons, List.not_mem_nil, or_false] at hx
    rcases hx with rfl | rfl | rfl
    · exact dx_ck.1
    · exact dx_ck.2.1
    · exact dx_ck.2.2
  have hn := fun X => normals1_ac dxR (by rw [dx_B.2.1]; decide) dx_B.1 dxA (by rw [dx_B.2.2]; decide) 10 dxG dx_exE dx_sys hck (by decide) (by rw [dx_norm]; decide) X
  rw [dx_norm, enc_dxR, hA] at hn
  have hlg := fun X => longestX_ac X
  rw [enc_dxR, hA] at hlg
  have hbk : ∀ x, x ∈ dxG.ts → x.bulk ≤ 1099511627775 := fun x hx => by have := check_small (hck x hx); omega
  have hs3 := fun X => sameTerms_ac dxG.ts [dxA, dxB, dxC] (by decide) (by decide) hbk hbk X
  rw [show decide (dxG.ts = [dxA, dxB, dxC]) = true from decide_eq_true rfl, show encTs [dxA, dxB, dxC] = [AV.agg [.str [97], .bool false, .sl .none []], .agg [.str [98], .bool false, .sl .none []], .agg [.str [99], .bool false, .sl .none []]] by rw [encTs_cons, encTs_cons, encTs_one]; exact congr (congrArg _ (enc_c [97])) (congr (congrArg _ (enc_c [98])) (congrArg (fun x => [x]) (enc_c [99])))] at hs3
  have hs1 : ∀ X, ACall Tryz.prog 16 [.sl .none [encT dxC], .sl .none [.agg [.str [99], .bool false, .sl .none []]]] X (fun r H' => r = .bool true ∧ H' = X) := fun X => by
    have hc : ∀ x, x ∈ [dxC] → x.bulk ≤ 1099511627775 := fun x hx => hbk x (by simp at hx; rw [hx]; simp [dxG])
    have h := sameTerms_ac [dxC] [dxC] (by decide) (by decide) hc hc X
    rw [encTs_one, show decide ([dxC] = [dxC]) = true from decide_eq_true rfl] at h
    rw [← enc_c [99]]
    exact h
  have hes : dxG.es.length = 3 := rfl
  have hwh : dxG.wh = true := rfl
  refine ACall_V (H.length) 82 [.tmp 0] Tryz.func14 rfl rfl rfl ?_
  simp only [push_cast, Nat.reduceAdd, Nat.reduceSub, Nat.reduceMul, Nat.reduceLT, Nat.reduceLeDiff, Nat.reduceEqDiff, Int.reduceToNat, ↓reduceIte]
  refine (constant_ac _ _).to ?_
  rw [enc_c]
  simp only [push_cast, Nat.reduceAdd, Nat.reduceSub, Nat.reduceMul, Nat.reduceLT, Nat.reduceLeDiff, Nat.reduceEqDiff, Int.reduceToNat, ↓reduceIte]
  refine (constant_ac _ _).to ?_
  rw [enc_c]
  simp only [push_cast, Nat.reduceAdd, Nat.reduceSub, Nat.reduceMul, Nat.reduceLT, Nat.reduceLeDiff, Nat.reduceEqDiff, Int.reduceToNat, ↓reduceIte]
  refine (constant_ac _ _).to ?_
  rw [enc_c]
  simp only [push_cast, Nat.reduceAdd, Nat.reduceSub, Nat.reduceMul, Nat.reduceLT, Nat.reduceLeDiff, Nat.reduceEqDiff, Int.reduceToNat, ↓reduceIte]
  refine (constant_ac _ _).to ?_
  rw [enc_c]
  simp only [push_cast, Nat.reduceAdd, Nat.reduceSub, Nat.reduceMul, Nat.reduceLT, Nat.reduceLeDiff, Nat.reduceEqDiff, Int.reduceToNat, ↓reduceIte]
  refine (constant_ac _ _).to ?_
  rw [enc_c]
  simp only [push_cast, Nat.reduceAdd, Nat.reduceSub, Nat.reduceMul, Nat.reduceLT, Nat.reduceLeDiff, Nat.reduceEqDiff, Int.reduceToNat, ↓reduceIte]
  refine (constant_ac _ _).to ?_
  rw [enc_c]
  simp only [push_cast, Nat.reduceAdd, Nat.reduceSub, Nat.reduceMul, Nat.reduceLT, Nat.reduceLeDiff, Nat.reduceEqDiff, Int.reduceToNat, ↓reduceIte]
  refine (constant_ac _ _).to ?_
  rw [enc_c]
  simp only [push_cast, Nat.reduceAdd, Nat.reduceSub, Nat.reduceMul, Nat.reduceLT, Nat.reduceLeDiff, Nat.reduceEqDiff, Int.reduceToNat, ↓reduceIte]
  refine (hx _).to ?_
  simp only [push_cast, Nat.reduceAdd, Nat.reduceSub, Nat.reduceMul, Nat.reduceLT, Nat.reduceLeDiff, Nat.reduceEqDiff, Int.reduceToNat, ↓reduceIte, encGE]
  refine (constant_ac _ _).to ?_
  rw [enc_c]
  simp only [push_cast, Nat.reduceAdd, Nat.reduceSub, Nat.reduceMul, Nat.reduceLT, Nat.reduceLeDiff, Nat.reduceEqDiff, Int.reduceToNat, ↓reduceIte]
  refine (hn _).to ?_
  simp only [push_cast, Nat.reduceAdd, Nat.reduceSub, Nat.reduceMul, Nat.reduceLT, Nat.reduceLeDiff, Nat.reduceEqDiff, Int.reduceToNat, ↓reduceIte]
  refine (constant_ac _ _).to ?_
  rw [enc_c]
  simp only [push_cast, Nat.reduceAdd, Nat.reduceSub, Nat.reduceMul, Nat.reduceLT, Nat.reduceLeDiff, Nat.reduceEqDiff, Int.reduceToNat, ↓reduceIte]
  refine (hlg _).to ?_
  simp only [push_cast, Nat.reduceAdd, Nat.reduceSub, Nat.reduceMul, Nat.reduceLT, Nat.reduceLeDiff, Nat.reduceEqDiff, Int.reduceToNat, ↓reduceIte]
  apply AW_drawE [some 40, some 41, some 42, some 43, some 44, some 45, some 46, some 47, some 48, some 49, some 50, some 51, some 52, some 53, some 54, some 55, some 56, some 57, some 58, some 59, some 60, some 61, some 62, some 63, some 64, some 65, some 66, some 67, some 68, some 69, some 70, some 71, some 72, some 73, some 74, some 75, some 76, some 77, some 78, some 79, some 80, some 81, some 0] [([], _)] [none, none, none, none, none, none, none, none, none, none, none, none, none, none, none, none, none, none, none, none, none, none, none, none, none, none, none, none, none, none, none, none, none, none, none, none, none, none, none, none, none, none, none] 0 [(0, [], [3]), (1, [], [40]), (2, [], [41]), (3, [], [2, 39]), (4, [], [42, 0]), (5, [], [42]), (6, [], [42]), (7, [], [42]), (8, [], [42, 2, 0, 0]), (9, [], [42, 1, 3]), (10, [], [42, 6]), (11, [], [50]), (12, [], [2, 48]), (13, [], [51, 0]), (14, [], [51, 1]), (15, [], [51, 2]), (16, [], [51, 3]), (17, [], [56]), (18, [], [2, 54]), (19, [], [57, 0]), (20, [], [57, 1]), (21, [], [60]), (22, [], [6, 54]), (23, [], [61, 0]), (24, [], [61, 1]), (25, [], [64]), (26, [], [5, 59]), (27, [], [65, 0]), (28, [], [67]), (29, [], [4, 63]), (30, [], [68]), (31, [], [68, 1]), (32, [], [68, 0, 1]), (33, [], [68, 3]), (34, [], [73]), (35, [], [9, 64]), (36, [], [74, 0]), (37, [], [74, 1]), (38, [], [77]), (39, [], [8, 69]), (40, [], [78, 0]), (41, [], [78, 1]), (42, [], [81])] [_, _, _, _, _, _, _, _, _, _, _, _, _, _, _, _, _, _, _, _, _, _, _, _, _, _, _, _, _, _, _, _, _, _, _, _, _, _, _, _, _, _, _]
  case' hm => exact dr
  case' hn => rfl
  case' hok => rfl
  case' hlen => rfl
  case' hd => rfl
  case' h0 => rfl
  case' hstep =>
   simp only [DAllG, push_cast, Option.isSome_some, Option.isSome_none]
   repeat' apply And.intro
   all_goals (apply DOne_V; simp only [push_cast, Nat.reduceAdd, Nat.reduceSub, Nat.reduceMul, Nat.reduceLT, Nat.reduceLeDiff, Nat.reduceEqDiff, Int.reduceToNat, ↓reduceIte, hes, hwh, decide_true, Bool.not_false, Bool.not_true] <;> first | exact rfl | omega | exact ⟨rfl, rfl⟩ | exact trivial | exact ⟨by omega, rfl⟩ | exact ⟨by omega, by omega, rfl⟩ | exact ⟨by omega, rfl, rfl⟩ | exact ⟨by omega, by omega, rfl, rfl⟩ | (refine (constant_ac _ _).to ?_; rw [enc_c]; exact ⟨rfl, rfl⟩) | (refine (hs3 _).to ?_; exact ⟨rfl, rfl⟩) | (refine (hs1 _).to ?_; exact ⟨rfl, rfl⟩) | rfl | exact decide_eq_true rfl | trace_state)
  case' hQ => skip
  simp only [push_cast, Nat.reduceAdd, Nat.reduceSub, Nat.reduceMul, Nat.reduceLT, Nat.reduceLeDiff, Nat.reduceEqDiff, Int.reduceToNat, ↓reduceIte]
end Ab
set_option maxRecDepth 10000
namespace Ab
open Go Go.Proofs
theorem sameSteps_ac (a b : List (Int × List Int)) (h1 : a.length < 1099511627776) (h2 : b.length < 1099511627776) (h3 : ∀ x, x ∈ a → x.2.length < 1099511627776) (h4 : ∀ x, x ∈ b → x.2.length < 1099511627776) (H : List AObj) :
    ACall Tryz.prog 53 [.sl .none (encL encSt a), .sl .none (encL encSt b)] H (fun r H' => r = .bool (decide (a = b)) ∧ H' = H) := by
  refine ACall_V (H.length) 40 [.tmp 4] Tryz.func53 rfl rfl rfl ?_
  simp only [push_cast, Nat.reduceAdd, Nat.reduceSub, Nat.reduceMul, Nat.reduceLT, Nat.reduceLeDiff, Nat.reduceEqDiff, Int.reduceToNat, ↓reduceIte]
  refine cI (fun hl => ?_) (fun hl => ?_)
  · have hl : a.length = b.length := by omega
    refine AW_loopW (maskG 42 [0, 0, 10, 0]) (fun (i : Nat) => [(13, .int .i64 i)]) (fun _ => H) (fun i => i ≤ a.length ∧ a.take i = b.take i) (fun i => a.length - i) 0 ⟨Nat.zero_le _, rfl⟩ (by simp only [push_cast, Nat.reduceAdd, Nat.reduceSub, Nat.reduceMul, Nat.reduceLT, Nat.reduceLeDiff, Nat.reduceEqDiff, Int.reduceToNat, ↓reduceIte]) (fun i hi => ?_)
    simp only [push_cast, Nat.reduceAdd, Nat.reduceSub, Nat.reduceMul, Nat.reduceLT, Nat.reduceLeDiff, Nat.reduceEqDiff, Int.reduceToNat, ↓reduceIte]
    refine cI (fun h => ?_) (fun h => ?_)
    · repeat refine ⟨by omega, ?_⟩
      have hia : i < a.length := by omega
      have hib : i < b.length := by omega
      have heq := fun H => samePosR_ac (a[i]'hia).2 (b[i]'hib).2 (h3 _ (List.getElem_mem hia)) (h4 _ (List.getElem_mem hib)) H
      by_cases hn : (a[i]'hia).1 = (b[i]'hib).1
      · have hd : decide ((a[i]'hia).1 = (b[i]'hib).1) = true := by simpa using hn
        apply AW_drawE [some 16, some 17, some 18, some 19, some 20, some 21, some 22, some 23, some 24, some 25, some 26, some 27, some 28, some 29, some 30, some 31, some 32, some 33, some 34, some 35, some 36, some 37, some 38, some 39, some 40] [([], _)] [none, none, none, none, none, none, none, none, none, none, none, none, none, none, none, none, none, none, none, none, none, none, none, none, none] 0 [(0, [], [0]), (1, [], [5]), (2, [], [16, 0]), (3, [], [18]), (4, [], [19]), (5, [], [1]), (6, [], [5]), (7, [], [21, 0]), (8, [], [23]), (9, [], [24]), (10, [], [20, 4]), (11, [], [26]), (12, [], [0, 26]), (13, [], [5, 21]), (14, [], [27, 0, 0]), (15, [], [27, 2]), (16, [], [27, 3]), (17, [], [1, 25]), (18, [], [5, 21]), (19, [], [27, 5, 0]), (20, [], [27, 7]), (21, [], [27, 8]), (22, [], [27, 4, 4]), (23, [], [27, 10]), (24, [], [27, 11])] [_, _, _, _, _, _, _, _, _, _, _, _, _, _, _, _, _, _, _, _, _, _, _, _, _]
        case' hm => exact dr
        case' hn => rfl
        case' hok => rfl
        case' hlen => rfl
        case' hd => rfl
        case' h0 => rfl
        case' hstep =>
         simp only [DAllG, push_cast, Option.isSome_some, Option.isSome_none]
         repeat' apply And.intro
         all_goals (apply DOne_V; simp only [push_cast, Nat.reduceAdd, Nat.reduceSub, Nat.reduceMul, Nat.reduceLT, Nat.reduceLeDiff, Nat.reduceEqDiff, Int.reduceToNat, ↓reduceIte, hd, Bool.not_true] <;> first | exact rfl | omega | exact ⟨rfl, rfl⟩ | exact trivial | exact ⟨by omega, rfl⟩ | exact ⟨by omega, by omega, rfl⟩ | exact ⟨by omega, rfl, rfl⟩ | exact ⟨by omega, by omega, rfl, rfl⟩ | exact ⟨by omega, trivial⟩ | exact (heq _).to ⟨rfl, rfl⟩)
        case' hQ => skip
        simp only [push_cast, Nat.reduceAdd, Nat.reduceSub, Nat.reduceMul, Nat.reduceLT, Nat.reduceLeDiff, Nat.reduceEqDiff, Int.reduceToNat, ↓reduceIte, hd, Bool.not_true]
        refine cI (fun he => ?_) (fun he => ?_)
        · repeat' first | refine ⟨by omega, ?_⟩ | refine cI (fun _ => ?_) (fun _ => ?_)
          refine loopW_n (i + 1) ⟨by omega, ?_⟩ (by omega) (by simp only [push_cast, Nat.reduceAdd, Nat.reduceSub, Nat.reduceMul, Nat.reduceLT, Nat.reduceLeDiff, Nat.reduceEqDiff, Int.reduceToNat, ↓reduceIte])
          rw [List.take_succ_eq_append_getElem hia, List.take_succ_eq_append_getElem hib, hi.2]
          congr 2
          exact Prod.ext hn he
        · have hne : a ≠ b := fun e => he (by subst e; rfl)
          simp [hne]
      · have hd : decide ((a[i]'hia).1 = (b[i]'hib).1) = false := by simpa using hn
        apply AW_drawE [some 16, some 17, some 18, some 19, some 20, some 21, some 22, some 23, some 24, some 25, some 26, some 27, some 28, some 29, some 30, some 31, some 32, some 33, some 34, some 35, some 36, some 37, some 38, some 39, some 40] [([], _)] [none, none, none, none, none, none, none, none, none, none, none, none, none, none, none, none, none, none, none, none, none, none, none, none, none] 0 [(0, [], [0]), (1, [], [5]), (2, [], [16, 0]), (3, [], [18]), (4, [], [19]), (5, [], [1]), (6, [], [5]), (7, [], [21, 0]), (8, [], [23]), (9, [], [24]), (10, [], [20, 4]), (11, [], [26]), (12, [], [0, 26]), (13, [], [5, 21]), (14, [], [27, 0, 0]), (15, [], [27, 2]), (16, [], [27, 3]), (17, [], [1, 25]), (18, [], [5, 21]), (19, [], [27, 5, 0]), (20, [], [27, 7]), (21, [], [27, 8]), (22, [], [27, 4, 4]), (23, [], [27, 10]), (24, [], [27, 11])] [_, _, _, _, _, _, _, _, _, _, _, _, _, _, _, _, _, _, _, _, _, _, _, _, _]
        case' hm => exact dr
        case' hn => rfl
        case' hok => rfl
        case' hlen => rfl
        case' hd => rfl
        case' h0 => rfl
        case' hstep =>
         simp only [DAllG, push_cast, Option.isSome_some, Option.isSome_none]
         repeat' apply And.intro
         all_goals (apply DOne_V; simp only [push_cast, Nat.reduceAdd, Nat.reduceSub, Nat.reduceMul, Nat.reduceLT, Nat.reduceLeDiff, Nat.reduceEqDiff, Int.reduceToNat, ↓reduceIte, hd, Bool.not_false] <;> first | exact rfl | omega | exact ⟨rfl, rfl⟩ | exact trivial | exact ⟨by omega, rfl⟩ | exact ⟨by omega, by omega, rfl⟩ | exact ⟨by omega, rfl, rfl⟩ | exact ⟨by omega, by omega, rfl, rfl⟩ | exact ⟨by omega, trivial⟩)
        case' hQ => skip
        have hne : a ≠ b := fun e => hn (by subst e; rfl)
        simp only [push_cast, Nat.reduceAdd, Nat.reduceSub, Nat.reduceMul, Nat.reduceLT, Nat.reduceLeDiff, Nat.reduceEqDiff, Int.reduceToNat, ↓reduceIte, hd, Bool.not_false, decide_eq_false hne]
    · have e := hi.2
      rw [List.take_of_length_le (by omega), List.take_of_length_le (by omega)] at e
      simp [e]
  · have hne : a ≠ b := fun e => hl (by rw [e])
    simp [hne]
def ChB (c : Term × List (Int × List Int)) : Prop := c.1.bulk ≤ 1099511627775 ∧ c.2.length < 1099511627776 ∧ ∀ x, x ∈ c.2 → x.2.length < 1099511627776
theorem sameChain_ac (a b : Term × List (Int × List Int)) (ha : ChB a) (hb : ChB b) (H : List AObj) : ACall Tryz.prog 57 [encCh a, encCh b] H (fun r H' => r = .bool (decide (a = b)) ∧ H' = H) := by
  refine ACall_V (H.length) 15 [.tmp 4] Tryz.func57 rfl rfl rfl ?_
  simp only [push_cast, Nat.reduceAdd, Nat.reduceSub, Nat.reduceMul, Nat.reduceLT, Nat.reduceLeDiff, Nat.reduceEqDiff, Int.reduceToNat, ↓reduceIte]
  refine (equalR_ac a.1 b.1 ha.1 hb.1 _).to ?_
  simp only [push_cast, Nat.reduceAdd, Nat.reduceSub, Nat.reduceMul, Nat.reduceLT, Nat.reduceLeDiff, Nat.reduceEqDiff, Int.reduceToNat, ↓reduceIte]
  refine cI (fun h => ?_) (fun h => ?_)
  · refine (sameSteps_ac a.2 b.2 ha.2.1 hb.2.1 ha.2.2 hb.2.2 _).to ?_
    simp only [push_cast, Nat.reduceAdd, Nat.reduceSub, Nat.reduceMul, Nat.reduceLT, Nat.reduceLeDiff, Nat.reduceEqDiff, Int.reduceToNat, ↓reduceIte]
    have : (a = b) ↔ a.2 = b.2 := ⟨fun e => by rw [e], fun e => Prod.ext h e⟩
    simp [this]
  · have : ¬ a = b := fun e => h (by rw [e])
    simp [this]
end Ab
set_option maxRecDepth 10000
namespace Ab
open Go Go.Proofs
theorem uniCh (l : List (Term × List (Int × List Int))) : Uni (3 + 1) (encL encCh l) = True := eq_true (uni_encL (enc := encCh) (k := 4) (fun _ => rfl) l)
theorem scopedCh (n : Nat) (l : List (Term × List (Int × List Int))) : ScopedL n (encL encCh l) = True := eq_true (scoped_encL (fun x => by simp [Scoped, ScopedL, scoped_encTs, scSt_]) l)
attribute [push_cast] uniCh scopedCh
def firstC (rs : List (Term × Term)) : List (Term × List (Int × List Int)) → Int
  | [] => 0
  | c :: r => if (termsE rs c).2 = 0 then firstC rs r else (termsE rs c).2
theorem firstC_skip (rs : List (Term × Term)) (cs : List (Term × List (Int × List Int))) : ∀ (i : Nat), (∀ x, x ∈ cs.take i → (termsE rs x).2 = 0) → firstC rs cs = firstC rs (cs.drop i) := by
  induction cs with
  | nil => intro i _; simp
  | cons t r ih =>
    intro i h
    cases i with
    | zero => rfl
    | succ i =>
      rw [List.drop_succ_cons, firstC, if_pos (h t (by simp))]
      exact ih i (fun x hx => h x (by simp [hx]))
def checkCP (rs : List (Term × Term)) (cs : List (Term × List (Int × List Int))) : Int := if sysP rs ≠ 0 then sysP rs else firstC rs cs
theorem checkC_ac (rs : List (Term × Term)) (hlen : rs.length < 1099511627776) (hru : RuB rs) (cs : List (Term × List (Int × List Int))) (hl : cs.length < 1099511627776) (hc : ∀ c, c ∈ cs → ChB c) (H : List AObj) :
    ACall Tryz.prog 12 [.sl .none (encL encRu rs), .sl .none (encL encCh cs)] H (fun r H' => r = .int .i64 (checkCP rs cs) ∧ H' = H) := by
  have hb : BndR rs := fun r hr => by have := hru r hr; omega
  refine ACall_V (H.length) 29 [.tmp 4] Tryz.func12 rfl rfl rfl ?_
  simp only [push_cast, Nat.reduceAdd, Nat.reduceSub, Nat.reduceMul, Nat.reduceLT, Nat.reduceLeDiff, Nat.reduceEqDiff, Int.reduceToNat, ↓reduceIte]
  refine (checkSystemR_ac rs hlen hb _).to ?_
  simp only [push_cast, Nat.reduceAdd, Nat.reduceSub, Nat.reduceMul, Nat.reduceLT, Nat.reduceLeDiff, Nat.reduceEqDiff, Int.reduceToNat, ↓reduceIte]
  unfold checkCP
  refine cI (fun h => ?_) (fun h => ?_)
  · rw [if_neg (by simpa using h)]
    refine AW_loopW (maskG 31 [0, 14, 0, 0]) (fun (i : Nat) => [(17, .int .i64 i)]) (fun _ => H) (fun i => i ≤ cs.length ∧ ∀ x, x ∈ cs.take i → (termsE rs x).2 = 0) (fun i => cs.length - i) 0 ⟨Nat.zero_le _, by simp⟩ (by simp only [push_cast, Nat.reduceAdd, Nat.reduceSub, Nat.reduceMul, Nat.reduceLT, Nat.reduceLeDiff, Nat.reduceEqDiff, Int.reduceToNat, ↓reduceIte]) (fun i hi => ?_)
    obtain ⟨hi1, hi2⟩ := hi
    have he := firstC_skip rs cs i hi2
    simp only [push_cast, Nat.reduceAdd, Nat.reduceSub, Nat.reduceMul, Nat.reduceLT, Nat.reduceLeDiff, Nat.reduceEqDiff, Int.reduceToNat, ↓reduceIte]
    refine cI (fun h => ?_) (fun h => ?_)
    · have hil : i < cs.length := by omega
      have hcb := hc _ (List.getElem_mem hil)
      rw [List.drop_eq_getElem_cons hil, firstC] at he
      refine ⟨hil, ?_⟩
      refine (termsR_ac rs hru (cs[i]'hil) hcb.1 hcb.2.1 hcb.2.2 _).to ?_
      simp only [push_cast, Nat.reduceAdd, Nat.reduceSub, Nat.reduceMul, Nat.reduceLT, Nat.reduceLeDiff, Nat.reduceEqDiff, Int.reduceToNat, ↓reduceIte, encTE]
      refine cI (fun h2 => ?_) (fun h2 => ?_)
      · repeat' first | refine ⟨by omega, ?_⟩ | refine cI (fun _ => ?_) (fun _ => ?_)
        refine loopW_n (i + 1) ⟨by omega, fun x hx => ?_⟩ (by omega) (by simp only [push_cast, Nat.reduceAdd, Nat.reduceSub, Nat.reduceMul, Nat.reduceLT, Nat.reduceLeDiff, Nat.reduceEqDiff, Int.reduceToNat, ↓reduceIte])
        rw [List.take_succ_eq_append_getElem hil] at hx
        rcases List.mem_append.1 hx with hx | hx
        · exact hi2 x hx
        · rw [List.mem_singleton] at hx; rw [hx]; exact h2
      · rw [he, if_neg h2]
    · rw [he, List.drop_of_length_le (show cs.length ≤ i by omega)]
      rfl
  · rw [if_pos h]
theorem termsC_spec {rs : List (Term × Term)} {c : Term × List (Int × List Int)} (h : (termsC rs c).2 = 0) : sysP rs = 0 ∧ (termsC rs c).1.length = 1 + c.2.length ∧ c.2.length ≤ 4096 ∧ ∀ x, x ∈ (termsC rs c).1 → checkP x = 0 := by
  obtain ⟨h1, h2, h3⟩ := termsC_zero h
  obtain ⟨_, a, b, d⟩ := terms_chain h1 h2
  rw [h3]
  exact ⟨h1, b, d, a⟩
end Ab
set_option maxRecDepth 10000
namespace Ab
open Go Go.Proofs
section
variable {P : Program} {ro : Option Nat} {H0 : List AObj} {Q : Exit → ASt → Prop} {st : ASt} {K : AV → List AObj → Prop} {dst : Option Tmp} {ty : TypeId} {pos : String} {after : Array Edge} {guard : Option (Nat × Bool)}
inductive ToJ (m : Nat) (h : List AObj) : AV → AV → Prop
  | fgt {r v : AV} (hf : fgtW r v) : ToJ m h r v
  | row (k e sz : Nat) {xs a a' b b' c c' : List AV} (hk : h[k]? = some (grO e sz xs)) (hl : (flat xs).length = xs.length * sz) (hm : m ≤ k) (hsc : ScopedL m (flat xs)) (ha : fgtL a a') (hb : fgtL b b') (hc : fgtL c c') : ToJ m h (.tup (.agg (a ++ grS k xs :: b) :: c)) (.tup (.agg (a' ++ .sl .none xs :: b') :: c'))
def finJJ (H : List AObj) (m : Nat) (v : AV) (H1 h : List AObj) (r : AV) : Prop := OutOk H h m ∧ ToJ m h r v ∧ Scoped m v ∧ h.take m = H1
def finVJ (P : Program) (H : List AObj) (m : Nat) (v : AV) (H1 : List AObj) (rs : List ResultVar) : Exit → ASt → Prop
  | .normal, st => finR P rs st (finJJ H m v H1 st.heap)
  | .ret, st => finR P rs st (finJJ H m v H1 st.heap)
  | _, _ => False
end
section rules
variable {P : Program} {st : ASt}
theorem finVJ_n {H H1 : List AObj} {m : Nat} {v : AV} {rs : List ResultVar} : finVJ P H m v H1 rs .normal st = finR P rs st (finJJ H m v H1 st.heap) := (rfl)
theorem finVJ_r {H H1 : List AObj} {m : Nat} {v : AV} {rs : List ResultVar} : finVJ P H m v H1 rs .ret st = finR P rs st (finJJ H m v H1 st.heap) := (rfl)
end rules
attribute [push_cast] finVJ_n finVJ_r finJJ
end Ab
namespace Go.Proofs
open Go.Shelf Go.Sort Go.RowKit
def Tryz.growI_ren : Go.Shelf.Ren := ⟨fun | 4 => 113 | n => n, fun | 22 => 48 | 25 => 3 | 3 => 3 | 4 => 4 | 9 => 9 | 20 => 20 | 0 => 0 | n => n, fun | n => n⟩
theorem Tryz.growI : Go.Proofs.Lays8.n4 Tryz.prog Tryz.growI_ren := {
  mixed := by kernel_rfl
  f4 := ⟨Tryz.f113.name, by decide, Tryz.func113.trans (congrArg some (by kernel_rfl))⟩
  t0 := Tryz.underlying0
  a0 := Tryz.isAgg0
  z0 := Tryz.sizeOf0
  v0 := Tryz.zeroValue0
  t3 := Tryz.underlying3
  a3 := Tryz.isAgg3
  z3 := Tryz.sizeOf3
  v3 := Tryz.zeroValue3
  t4 := Tryz.underlying4
  a4 := Tryz.isAgg4
  z4 := Tryz.sizeOf4
  v4 := Tryz.zeroValue4
  t9 := Tryz.underlying9
  a9 := Tryz.isAgg9
  z9 := Tryz.sizeOf9
  v9 := Tryz.zeroValue9
  t20 := Tryz.underlying20
  a20 := Tryz.isAgg20
  z20 := Tryz.sizeOf20
  v20 := Tryz.zeroValue20
  t22 := Tryz.underlying48
  a22 := Tryz.isAgg48
  z22 := Tryz.sizeOf48
  v22 := Tryz.zeroValue48 }
end Go.Proofs
set_option maxRecDepth 10000
namespace Ab
open Go Go.Proofs
theorem growI_ac (k n : Nat) (hn : 0 < n) (hl : n < 1099511627776) (H : List AObj) (hk : H[k]? = some .dead) :
    ACall Tryz.prog 113 [.sl .zero [], .int .i64 (n : Nat)] H (fun r H' => r = .gr k 0 ∧ H' = H.set k (.grow 3 1 [])) := by
  intro C vs hg hH hsz hv
  match vs, hsz, hv with
  | ⟨[v0, v1]⟩, _, hv =>
    have h0 : VRel C (.sl .zero []) v0 := hv 0 (by simp) (by simp)
    have h1 : VRel C (.int .i64 (n : Nat)) v1 := hv 1 (by simp) (by simp)
    have e1 := h1.int_inv
    subst e1
    obtain ⟨ad1, c1, rfl, hc1, htok, _⟩ := sl_values h0
    obtain ⟨_, rfl⟩ := htok
    obtain ⟨i, z, hi, i1, i2, i3, i4⟩ := info_of (P := Tryz.prog) (t := 3) sz3 by3 zr3
    have hnC : C.H[k]? = some .dead := by rw [hH]; exact hk
    have hnl := (List.getElem?_eq_some_iff.1 hnC).1
    refine (Any8.slices_Grow_grow Tryz.growI i z hi i3 (by rw [i1]; decide) ad1 0 0 n [] C.w (Nat.le_refl _) (by omega) (by rw [i2]; omega) (by omega) (by simp) (fun _ => rfl) (fun a _ j v h => by simp at h)).mono fun e w' ⟨he, hw⟩ => ?_
    obtain ⟨cap, hcap⟩ : ∃ cap, cap = grownCap C.w (0 + n) 0 (Tryz.growI_ren.t 25) := ⟨_, rfl⟩
    have hcge : 0 + n ≤ cap := by rw [hcap]; exact grownCap_ge _ _ _ _
    have hcle : cap ≤ maxLen := by rw [hcap]; exact grownCap_le_maxLen _ _ _ _ (by simp only [maxLen]; omega)
    rw [← hcap] at he hw
    obtain ⟨cur', hcur'⟩ : ∃ cur', cur' = (#[] : Array Value) ++ Builtin.zeroCells z.cells (0 + n - 0) ++ Builtin.zeroCells z.cells (cap - (0 + n)) := ⟨_, rfl⟩
    have hw2 : w' = C.w.drew.alloc (.cells cur' 3) := by rw [hw, hcur']; rfl
    have hzs : z.cells.size = 1 := by
      have : z.cells.toList.length = 1 := by rw [i4]; rfl
      simpa using this
    have hcs' : cur'.size = cap * 1 := by
      rw [hcur']; simp only [Array.size_append, List.size_toArray, size_zeroCells, hzs, List.length_nil]
      omega
    subst hw2
    obtain ⟨hg', hx'⟩ := step_at hg k hnC (.grow 3 1 []) (.cells cur' 3) (C.w.drew.alloc (.cells cur' 3)) rfl ⟨rfl, rfl, rfl, by first | exact Nat.le_refl _ | exact Nat.le_add_right _ _⟩ (by simp [AObj.kind]) rfl (fun hxx => by
      refine ⟨cur', ?_, by simp, ?_, fun j hj hj' => by simp at hj⟩
      · simp only [if_true]; exact heap_alloc_new C.w.drew _
      · simp only [if_true]; exact hg.fresh _ (Nat.le_refl _))
    refine ⟨.slice (some ⟨C.w.heap.size, 0, none⟩) 0 cap, .gr k 0, _, he, rfl, hg', hx', ?_, rfl, by rw [← hH]⟩
    refine .gr k _ _ _ ⟨3, 1, [], by show (C.H.set k _)[k]? = _; simp [hnl], by simp, by decide, fun _ => ⟨cur', by simp, ?_, hcle, by omega, hcs'⟩⟩
    simp only [if_true]; exact heap_alloc_new C.w.drew _
theorem growI0_ac (H : List AObj) : ACall Tryz.prog 113 [.sl .zero [], .int .i64 0] H (fun r H' => r = .sl .zero [] ∧ H' = H) := by
  intro C vs hg hH hsz hv
  match vs, hsz, hv with
  | ⟨[v0, v1]⟩, _, hv =>
    have h0 : VRel C (.sl .zero []) v0 := hv 0 (by simp) (by simp)
    have h1 : VRel C (.int .i64 0) v1 := hv 1 (by simp) (by simp)
    have e1 := h1.int_inv
    subst e1
    obtain ⟨ad1, c1, rfl, hc1, htok, _⟩ := sl_values h0
    obtain ⟨_, rfl⟩ := htok
    refine (Any8.slices_Grow_room Tryz.growI ad1 0 0 0 C.w (Nat.le_refl _) (by decide) (by decide) (Nat.le_refl _)).mono fun e w' ⟨he, hw⟩ => ?_
    exact ⟨_, .sl .zero [], C, he, hw.symm, hg, Ext.refl C, h0, rfl, hH⟩
theorem flI_len (l : List Int) : (flat (encP l)).length = l.length := by rw [flat_length (uni_encP l), encL_length]; omega
theorem flI_app (a b : List Int) : flat (encP (a ++ b)) = flat (encP a) ++ flat (encP b) := by simp [flat, encP, encL]
theorem flI_sc (n : Nat) (l : List Int) : ScopedL n (flat (encP l)) = True := by
  refine eq_true ?_
  rw [ScopedL_iff]
  intro v hv
  unfold flat encP encL at hv
  rw [List.mem_flatMap] at hv
  obtain ⟨a, ha, hv⟩ := hv
  obtain ⟨b, _, rfl⟩ := List.mem_map.1 ha
  simp only [AV.cells, List.mem_cons, List.not_mem_nil, or_false] at hv
  rw [hv]; trivial
attribute [push_cast] flI_sc
def totL (l : List (List Int)) : Nat := l.flatten.length
theorem totL_take (l : List (List Int)) (i : Nat) (h : i < l.length) : totL (l.take (i + 1)) = totL (l.take i) + l[i].length := by
  unfold totL; rw [List.take_succ_eq_append_getElem h, List.flatten_append]; simp
theorem totL_le (l : List (List Int)) (i : Nat) : totL (l.take i) ≤ totL l := by
  unfold totL
  conv => rhs; rw [← List.take_append_drop i l, List.flatten_append, List.length_append]
  omega
set_option maxHeartbeats 2000000 in
theorem concatI_ac (l : List (List Int)) (hl : l.length < 1099511627776) (ht : totL l < 1099511627776) (H : List AObj) :
    ACall Tryz.prog 60 [.sl .none (encL encQ l)] H (fun r H' => r = .sl .none (encP l.flatten) ∧ H' = H) := by
  refine ACall_VGA (H.length) 35 [.tmp 2] Tryz.func60 rfl rfl rfl ?_
  refine AW_reserve 1 ?_
  refine AW_of_W ?_
  simp only [push_cast, Nat.reduceAdd, Nat.reduceSub, Nat.reduceMul, Nat.reduceLT, Nat.reduceLeDiff, Nat.reduceEqDiff, Int.reduceToNat, ↓reduceIte]
  refine AW_loopW (maskG 36 [0, 2, 5, 0, 0]) (fun (i : Nat) => [(11, .int .i64 i), (3, .int .i64 (totL (l.take i) : Nat))]) (fun _ => H ++ [.dead]) (fun i => i ≤ l.length) (fun i => l.length - i) 0 (Nat.zero_le _) (by simp only [push_cast, Nat.reduceAdd, Nat.reduceSub, Nat.reduceMul, Nat.reduceLT, Nat.reduceLeDiff, Nat.reduceEqDiff, Int.reduceToNat, ↓reduceIte]; simp [totL]) (fun i hi => ?_)
  simp only [push_cast, Nat.reduceAdd, Nat.reduceSub, Nat.reduceMul, Nat.reduceLT, Nat.reduceLeDiff, Nat.reduceEqDiff, Int.reduceToNat, ↓reduceIte]
  refine cI (fun h => ?_) (fun h => ?_)
  · have hil : i < l.length := by omega
    have e := totL_take l i hil
    have hle := totL_le l (i + 1)
    refine ⟨hil, ?_⟩
    refine ⟨by omega, ?_⟩
    refine cI (fun h => absurd h (by omega)) (fun _ => ?_)
    refine ⟨by omega, loopW_n (i + 1) (by omega) (by omega) (by simp only [push_cast, Nat.reduceAdd, Nat.reduceSub, Nat.reduceMul, Nat.reduceLT, Nat.reduceLeDiff, Nat.reduceEqDiff, Int.reduceToNat, ↓reduceIte]; omega)⟩
  · rw [List.take_of_length_le (show l.length ≤ i by omega)]
    by_cases h0 : totL l = 0
    · have hall : ∀ x, x ∈ l → x = [] := fun x hx => by
        obtain ⟨a, b, rfl⟩ := List.append_of_mem hx
        unfold totL at h0
        simp only [List.flatten_append, List.flatten_cons, List.length_append] at h0
        exact List.eq_nil_of_length_eq_zero (by omega)
      have hfl : l.flatten = [] := List.eq_nil_of_length_eq_zero h0
      rw [h0, hfl]
      refine (growI0_ac _).to ?_
      simp only [push_cast, Nat.reduceAdd, Nat.reduceSub, Nat.reduceMul, Nat.reduceLT, Nat.reduceLeDiff, Nat.reduceEqDiff, Int.reduceToNat, ↓reduceIte]
      refine AW_loopW (maskG 36 [6, 18, 0, 0]) (fun (i : Nat) => [(27, .int .i64 i), (6, .sl .zero [])]) (fun _ => H ++ [.dead]) (fun i => i ≤ l.length) (fun i => l.length - i) 0 (Nat.zero_le _) (by simp only [push_cast, Nat.reduceAdd, Nat.reduceSub, Nat.reduceMul, Nat.reduceLT, Nat.reduceLeDiff, Nat.reduceEqDiff, Int.reduceToNat, ↓reduceIte]; first | done | trace_state) (fun i hi => ?_)
      simp only [push_cast, Nat.reduceAdd, Nat.reduceSub, Nat.reduceMul, Nat.reduceLT, Nat.reduceLeDiff, Nat.reduceEqDiff, Int.reduceToNat, ↓reduceIte]
      refine cI (fun h => ?_) (fun h => ?_)
      · have hil : i < l.length := by omega
        have e2 := hall _ (List.getElem_mem hil)
        refine ⟨hil, ?_⟩
        refine app_L (fun i : Int => AV.int .i64 i) (sz := 1) (fun _ => rfl) (by intro x c hc; simp [AV.cells] at hc; subst hc; rfl) _ H.length [] (l[i]'hil) .none rfl rfl (by exact aget0 _ _ _) sl48 sz3 by3 zr3 rfl (by decide) (by decide) (by rw [e2]; decide) ?_
        rw [e2]
        simp only [push_cast, Nat.reduceAdd, Nat.reduceSub, Nat.reduceMul, Nat.reduceLT, Nat.reduceLeDiff, Nat.reduceEqDiff, Int.reduceToNat, ↓reduceIte]
        repeat' first | refine ⟨by omega, ?_⟩ | refine cI (fun _ => ?_) (fun _ => ?_)
        exact loopW_n (i + 1) (by omega) (by omega) (by simp only [push_cast, Nat.reduceAdd, Nat.reduceSub, Nat.reduceMul, Nat.reduceLT, Nat.reduceLeDiff, Nat.reduceEqDiff, Int.reduceToNat, ↓reduceIte])
      · exact .fgt (of_eq_true (by simp [fgtW, encP, encL, fgtL]))
    · have hg := growI_ac H.length (totL l) (by omega) ht (H ++ [.dead]) (by exact aget0 _ _ _)
      refine hg.to ?_
      simp only [push_cast, Nat.reduceAdd, Nat.reduceSub, Nat.reduceMul, Nat.reduceLT, Nat.reduceLeDiff, Nat.reduceEqDiff, Int.reduceToNat, ↓reduceIte]
      refine AW_loopW (maskG 36 [6, 18, 0, 0]) (fun (i : Nat) => [(27, .int .i64 i), (6, .gr H.length (totL (l.take i)))]) (fun i => H ++ [.grow 3 1 (flat (encP (l.take i).flatten))]) (fun i => i ≤ l.length) (fun i => l.length - i) 0 (Nat.zero_le _) (by simp only [push_cast, Nat.reduceAdd, Nat.reduceSub, Nat.reduceMul, Nat.reduceLT, Nat.reduceLeDiff, Nat.reduceEqDiff, Int.reduceToNat, ↓reduceIte, List.take_zero, List.flatten_nil, encL_nil, totL]; first | rfl | exact ⟨rfl, outok_app 1 rfl (by simp) (fun o ho => by simp at ho; subst ho; exact trivial)⟩ | trace_state) (fun i hi => ?_)
      simp only [push_cast, Nat.reduceAdd, Nat.reduceSub, Nat.reduceMul, Nat.reduceLT, Nat.reduceLeDiff, Nat.reduceEqDiff, Int.reduceToNat, ↓reduceIte]
      refine cI (fun h => ?_) (fun h => ?_)
      · have hil : i < l.length := by omega
        have e := totL_take l i hil
        have hle := totL_le l (i + 1)
        have e2 : (l.take (i + 1)).flatten = (l.take i).flatten ++ l[i]'hil := by rw [List.take_succ_eq_append_getElem hil, List.flatten_append]; simp
        refine ⟨hil, ?_⟩
        have eL : (encP (l.take i).flatten).length = totL (l.take i) := encL_length _ _
        have eL2 : (encP (l[i]'hil)).length = (l[i]'hil).length := encL_length _ _
        refine AOp_append_gr1 _ H.length (encP (l.take i).flatten) (encP (l[i]'hil)) .none (by rw [eL]; rfl) rfl (by exact aget0 _ _ _) sl48 sz3 by3 zr3 rfl (by decide) (uni_encP _) (uni_encP _) (cell_encP _) (by rw [eL, eL2, ← e]; omega) (by rw [eL, eL2, ← e]; omega) ?_
        rw [eL, eL2, ← e, ← flI_app, ← e2]
        simp only [push_cast, Nat.reduceAdd, Nat.reduceSub, Nat.reduceMul, Nat.reduceLT, Nat.reduceLeDiff, Nat.reduceEqDiff, Int.reduceToNat, ↓reduceIte]
        repeat' first | refine ⟨by omega, ?_⟩ | refine cI (fun _ => ?_) (fun _ => ?_)
        exact loopW_n (i + 1) (by omega) (by omega) (by simp only [push_cast, Nat.reduceAdd, Nat.reduceSub, Nat.reduceMul, Nat.reduceLT, Nat.reduceLeDiff, Nat.reduceEqDiff, Int.reduceToNat, ↓reduceIte]; exact outok_app 1 rfl (by simp) (fun o ho => by simp at ho; subst ho; exact of_eq_true (flI_sc _ _)))
      · rw [List.take_of_length_le (show l.length ≤ i by omega)]
        have hne : encP l.flatten ≠ [] := fun e => h0 (by have := congrArg List.length e; rw [encL_length] at this; exact this)
        have e3 : AV.gr H.length (totL l) = grS H.length (encP l.flatten) := by
          have eL : (encP l.flatten).length = totL l := encL_length _ _
          rw [← eL]
          cases hq : encP l.flatten with
          | nil => exact absurd hq hne
          | cons a r => rfl
        have e4 : AObj.grow 3 1 (flat (encP l.flatten)) = grO 3 1 (encP l.flatten) := by
          cases hq : encP l.flatten with
          | nil => exact absurd hq hne
          | cons a r => rfl
        rw [e3]
        trace_state
        rw [e4]
        exact .row H.length 3 1 (by exact aget0 _ _ _) (by rw [flI_len, encL_length]; omega) (Nat.le_refl _) (of_eq_true (flI_sc _ _))
end Ab
set_option maxRecDepth 10000
namespace Ab
open Go Go.Proofs
abbrev ChP := Term × List (Int × List Int)
theorem cellSt5 : ∀ (x : Int × List Int) c, c ∈ (encSt x).cells → c.isCell = true := by
  intro x c hc; simp [AV.cells] at hc; rcases hc with rfl | rfl <;> rfl
theorem ownC2_ac (c : ChP) (hc : ChB c) (H : List AObj) :
    ACall Tryz.prog 55 [encCh c] H (fun r H' => r = encCh c ∧ H' = H) := by
  refine ACall_VA (H.length) 29 [.cell 2 28] Tryz.func55 rfl rfl rfl ?_
  refine AW_reserve 1 ?_
  refine AW_of_W ?_
  simp only [push_cast, Nat.reduceAdd, Nat.reduceSub, Nat.reduceMul, Nat.reduceLT, Nat.reduceLeDiff, Nat.reduceEqDiff, Int.reduceToNat, ↓reduceIte]
  refine (own_ac c.1 hc.1 _).to ?_
  simp only [push_cast, Nat.reduceAdd, Nat.reduceSub, Nat.reduceMul, Nat.reduceLT, Nat.reduceLeDiff, Nat.reduceEqDiff, Int.reduceToNat, ↓reduceIte]
  refine AW_loopW (maskG 30 [2, 0, 7, 0, 0]) (fun (i : Nat) => [(13, .int .i64 i)]) (fun i => H ++ [gTok 86 2 (encL encSt (c.2.take i)), .cells [.str c.1.name, .bool c.1.var, .sl .none (encTs c.1.args), .sl .none (encL encSt c.2)], .cells [.str [], .bool false, .sl .zero [], .sl .zero []], .cells [.str c.1.name, .bool c.1.var, .sl .none (encTs c.1.args), gSl H.length (encL encSt (c.2.take i))]]) (fun i => i ≤ c.2.length) (fun i => c.2.length - i) 0 (Nat.zero_le _) (by simp only [push_cast, Nat.reduceAdd, Nat.reduceSub, Nat.reduceMul, Nat.reduceLT, Nat.reduceLeDiff, Nat.reduceEqDiff, Int.reduceToNat, ↓reduceIte, List.take_zero, encL_nil]) (fun i hi => ?_)
  simp only [push_cast, Nat.reduceAdd, Nat.reduceSub, Nat.reduceMul, Nat.reduceLT, Nat.reduceLeDiff, Nat.reduceEqDiff, Int.reduceToNat, ↓reduceIte]
  refine cI (fun h => ?_) (fun h => ?_)
  · have hil : i < c.2.length := by omega
    obtain ⟨s, hs⟩ : ∃ s, s = c.2[i]'hil := ⟨_, rfl⟩
    have hsb := hc.2.2 _ (List.getElem_mem hil)
    have hst : c.2.take i ++ [s] = c.2.take (i + 1) := by rw [List.take_succ_eq_append_getElem hil, hs]
    have hcl := hc.2.1
    refine ⟨hil, ?_⟩
    rw [← hs] at hsb ⊢
    have hcn := fun X => clone2_ac s.2 (by omega) X
    apply AW_drawE [some 17, some 18, some 19, some 20, some 21, some 22, some 23, some 24, some 25, some 26, some 27, none] [([false, false], _), ([true, false], _), ([true, true], _)] [none, none, none, none, none, none, none, none, none, some 0, none, some 1] 2 [(0, [false, false], [3]), (1, [false, false], [17]), (2, [false, false], [5]), (3, [false, false], [19]), (4, [false, false], [5]), (5, [false, false], [21]), (6, [false, false], [22]), (7, [false, false], [20, 2]), (8, [false, false], [24]), (9, [false, false], [18, 6]), (10, [true, false], [3]), (11, [true, false], [26, 0]), (0, [true, false], [3]), (2, [true, false], [5]), (3, [true, false], [19]), (4, [true, false], [5]), (5, [true, false], [21]), (7, [true, false], [20, 2])] [_, _, _, _, _, _, _, _, _, _, _, _]
    case' hm => exact dr
    case' hn => rfl
    case' hok => rfl
    case' hlen => rfl
    case' hd => rfl
    case' h0 => rfl
    case' hstep =>
     simp only [DAllG, push_cast, Option.isSome_some, Option.isSome_none]
     repeat' apply And.intro
     all_goals (apply DOne_V; simp only [push_cast, Nat.reduceAdd, Nat.reduceSub, Nat.reduceMul, Nat.reduceLT, Nat.reduceLeDiff, Nat.reduceEqDiff, Int.reduceToNat, ↓reduceIte] <;> first | exact rfl | omega | exact ⟨rfl, rfl⟩ | exact trivial | exact ⟨by omega, rfl⟩ | exact ⟨by omega, by omega, rfl⟩ | exact ⟨by omega, rfl, rfl⟩ | exact ⟨by omega, by omega, rfl, rfl⟩ | (refine (hcn _).to ?_; exact ⟨rfl, rfl⟩) | (refine app1_L encSt (sz := 2) (fun _ => rfl) cellSt5 _ H.length (c.2.take i) s _ rfl rfl (by exact aget0 _ _ _) sl26 sz86 by86 zr86 rfl (by decide) (by decide) (by rw [List.length_take]; omega) ?_; exact ⟨rfl, rfl⟩) | trace_state)
    case' hQ => skip
    rw [hst]
    simp only [push_cast, Nat.reduceAdd, Nat.reduceSub, Nat.reduceMul, Nat.reduceLT, Nat.reduceLeDiff, Nat.reduceEqDiff, Int.reduceToNat, ↓reduceIte]
    repeat' first | refine ⟨by omega, ?_⟩ | refine cI (fun _ => ?_) (fun _ => ?_)
    exact loopW_n (i + 1) (by omega) (by omega) (by simp only [push_cast, Nat.reduceAdd, Nat.reduceSub, Nat.reduceMul, Nat.reduceLT, Nat.reduceLeDiff, Nat.reduceEqDiff, Int.reduceToNat, ↓reduceIte])
  · rw [List.take_of_length_le (show c.2.length ≤ i by omega)]
def zeroCh : ChP := (zeroT, [])
@[reducible] def encCE (q : ChP × Int) : AV := .tup [encCh q.1, .int .i64 q.2]
theorem zeroCh_enc : encCh zeroCh = .agg [.str [], .bool false, .sl .none [], .sl .none []] := by
  have h : encTs zeroT.args = [] := encTs_nil
  show AV.agg [.str zeroT.name, .bool zeroT.var, .sl .none (encTs zeroT.args), .sl .none (encL encSt [])] = _
  rw [h]; rfl
end Ab
set_option maxRecDepth 10000
namespace Ab
open Go Go.Proofs
theorem at_apply (τ : List (List UInt8 × Term)) : ∀ (p : List Int) (t y : Term), atP t p = some y → formedP t = true → atP (applyP τ t) p = some (applyP τ y)
  | [], t, y, h, _ => by simp [atP] at h; subst h; rw [atP]
  | i :: p, .mk n u xs, y, h, hf => by
    have hv := at_var h (by simp) hf
    rw [Term.var_mk] at hv
    subst hv
    rw [applyP_mk]
    simp only [Bool.false_eq_true, if_false]
    simp only [atP, List.length_map] at h ⊢
    split at h
    · rename_i hi
      rw [dif_pos hi, List.getElem_map]
      have hx : formedP xs[i.toNat] = true := by rw [formedP_mk] at hf; simp at hf; exact hf.2 _ (List.getElem_mem hi.2)
      exact at_apply τ p _ y h hx
    · cases h
theorem put_apply (τ : List (List UInt8 × Term)) (x : Term) : ∀ (p : List Int) (t y : Term), atP t p = some y → formedP t = true → applyP τ (putP t p x) = putP (applyP τ t) p (applyP τ x)
  | [], t, y, _, _ => by
    have e : ∀ a b : Term, putP a [] b = b := fun a b => by cases a; rfl
    rw [e, e]
  | i :: p, .mk n u xs, y, h, hf => by
    have hv := at_var h (by simp) hf
    rw [Term.var_mk] at hv
    subst hv
    simp only [atP] at h
    split at h
    · rename_i hi
      have hx : formedP xs[i.toNat] = true := by rw [formedP_mk] at hf; simp at hf; exact hf.2 _ (List.getElem_mem hi.2)
      have hg : xs.getD i.toNat (.mk [] false []) = xs[i.toNat] := by simp [hi.2]
      have hg2 : (xs.map (applyP τ)).getD i.toNat (.mk [] false []) = applyP τ xs[i.toNat] := by simp [hi.2]
      rw [applyP_mk]
      simp only [Bool.false_eq_true, if_false, putP, hg, hg2]
      rw [applyP_mk]
      simp only [Bool.false_eq_true, if_false]
      rw [List.map_set, put_apply τ x p _ y h hx]
    · cases h
theorem put_app (x : Term) (p : List Int) (t : Term) : ∀ (q : List Int) (c y : Term), atP c q = some y → putP (putP c q t) (q ++ p) x = putP c q (putP t p x)
  | [], c, y, _ => by
    have e : ∀ a b : Term, putP a [] b = b := fun a b => by cases a; rfl
    rw [e, e]; rfl
  | i :: q, .mk n u xs, y, h => by
    simp only [atP] at h
    split at h
    · rename_i hi
      have hg : xs.getD i.toNat (.mk [] false []) = xs[i.toNat] := by simp [hi.2]
      have ih := put_app x p t q xs[i.toNat] y h
      simp only [putP, hg, List.cons_append]
      have hg2 : (xs.set i.toNat (putP xs[i.toNat] q t)).getD i.toNat (.mk [] false []) = putP xs[i.toNat] q t := by simp [hi.2]
      rw [hg2, ih, List.set_set]
    · cases h
theorem apply_agree {σ σ' : List (List UInt8 × Term)} (t : Term) : (∀ v, 0 < countP v t → imageP σ v = imageP σ' v) → applyP σ t = applyP σ' t := by
  induction t using Term.ind with | _ n u xs ih
  intro h
  rw [applyP_mk, applyP_mk]
  cases u with
  | true =>
    simp only [if_true]
    refine h n ?_
    have := counts_bound n xs
    rw [countP_mk]; simp [oneP]; omega
  | false =>
    simp only [Bool.false_eq_true, if_false]
    congr 1
    refine List.map_congr_left fun x hx => ih x hx fun v hv => h v ?_
    rw [countP_mk]
    have := (counts_pos v xs).1 ⟨x, hx, hv⟩
    simp [oneP]; omega
theorem find_apply {rs : List (Term × Term)} (hr : sysP rs = 0) {t : Term} (ht : checkP t = 0) {τ : List (List UInt8 × Term)} (hτ : SortedN (τ.map (·.1))) {s : Int × List Int} (h : (findE rs t s).2 = 0) :
    (findE rs (applyP τ t) s).2 = 0 ∧ rhsP rs (applyP τ t) s = applyP τ (rhsP rs t s) := by
  obtain ⟨hB, hck, hex⟩ := sys_B hr
  obtain ⟨x, hf⟩ := find_ok h
  have h0 : SortedN (([] : List (List UInt8 × Term)).map (·.1)) := by simp [SortedN]
  have ha := at_apply τ _ _ _ hf.at' ((check_iff _).1 ht).1
  have hl : applyP (findE rs t s).1 (ruleN rs s.1).1 = x := matchP_true h0 hf.ok (by rw [hf.eq]; exact subLe.refl _)
  have hc : applyP (compS (findE rs t s).1 τ) (ruleN rs s.1).1 = applyP τ x := by rw [apply_comp hτ, hl]
  obtain ⟨m1, m2⟩ := matchP_complete h0 (by intro v x hx; simp [look] at hx) hc
  have e : findE rs (applyP τ t) s = ((matchP (ruleN rs s.1).1 (applyP τ x) []).1, 0) := by
    unfold findE
    rw [if_pos ⟨hf.lo, hf.hi⟩, ha]
    simp only [m1, if_true]
  refine ⟨by rw [e], ?_⟩
  unfold rhsP
  rw [e, ← apply_comp hτ]
  refine apply_agree _ fun v hv => ?_
  have hx := hex _ hf.mem
  unfold extraP at hx
  rw [Bool.or_eq_false_iff] at hx
  have hin : v ∈ varsP [(ruleN rs s.1).1] := by
    have := hx.2
    rw [List.any_eq_false] at this
    have hv' : v ∈ varsP [(ruleN rs s.1).2] := (mem_foldC v [(ruleN rs s.1).2] []).2 (.inr ⟨_, by simp, hv⟩)
    simpa using this v hv'
  have hin' : 0 < countP v (ruleN rs s.1).1 := by
    rcases (mem_foldC v [(ruleN rs s.1).1] []).1 hin with h | ⟨t, ht, h⟩
    · cases h
    · rw [List.mem_singleton] at ht; rw [← ht]; exact h
  have hd := (matchP_dom h0 ((check_iff _).1 (hck _ hf.mem).1).1 m1 v).2 (.inr hin')
  obtain ⟨y, hy⟩ := Option.isSome_iff_exists.1 hd
  rw [m2 v y hy, image_look, hy]; rfl
theorem do_apply {rs : List (Term × Term)} (hr : sysP rs = 0) {t : Term} (ht : checkP t = 0) {τ : List (List UInt8 × Term)} (hτ : SortedN (τ.map (·.1))) {s : Int × List Int} (h : (doE rs t s).2 = 0) :
    doE rs (applyP τ t) s = if fitsP (applyP τ (doE rs t s).1) = true then (applyP τ (doE rs t s).1, 0) else (zeroT, 3) := by
  rw [do_alt] at h
  by_cases h1 : (findE rs t s).2 ≠ 0
  · rw [if_pos h1] at h; exact absurd h h1
  · have h1' : (findE rs t s).2 = 0 := by simpa using h1
    rw [if_neg h1] at h
    by_cases h2 : fitsP (putP t s.2 (rhsP rs t s)) = true
    · obtain ⟨g1, g2⟩ := find_apply hr ht hτ h1'
      obtain ⟨x, hf⟩ := find_ok h1'
      have e : doE rs t s = (putP t s.2 (rhsP rs t s), 0) := by rw [do_alt, if_neg h1, if_pos h2]
      rw [e, do_alt, if_neg (by simpa using g1), g2]
      rw [put_apply τ _ _ _ _ hf.at' ((check_iff _).1 ht).1]
    · rw [if_neg h2] at h; cases h
theorem find_put {rs : List (Term × Term)} {t c y : Term} {q : List Int} (hc : atP c q = some y) (s : Int × List Int) : findE rs (putP c q t) (s.1, q ++ s.2) = findE rs t s := by
  unfold findE
  simp only
  rw [at_app, at_put _ _ t _ hc]
  rfl
theorem do_put {rs : List (Term × Term)} {t c y : Term} {q : List Int} (hc : atP c q = some y) {s : Int × List Int} (h : (doE rs t s).2 = 0) :
    doE rs (putP c q t) (s.1, q ++ s.2) = if fitsP (putP c q (doE rs t s).1) = true then (putP c q (doE rs t s).1, 0) else (zeroT, 3) := by
  rw [do_alt] at h
  by_cases h1 : (findE rs t s).2 ≠ 0
  · rw [if_pos h1] at h; exact absurd h h1
  · rw [if_neg h1] at h
    by_cases h2 : fitsP (putP t s.2 (rhsP rs t s)) = true
    · have e : doE rs t s = (putP t s.2 (rhsP rs t s), 0) := by rw [do_alt, if_neg h1, if_pos h2]
      rw [e, do_alt, find_put hc, if_neg h1]
      have e2 : rhsP rs (putP c q t) (s.1, q ++ s.2) = rhsP rs t s := by unfold rhsP; rw [find_put hc]
      rw [e2]
      simp only
      rw [put_app _ _ _ _ _ _ hc]
    · rw [if_neg h2] at h; cases h
theorem check_formed {t : Term} (h : formedP t = true) : checkP t = if fitsP t = true then 0 else 3 := by
  unfold checkP
  rw [h]
  cases fitsP t <;> simp
end Ab
set_option maxRecDepth 10000
namespace Ab
open Go Go.Proofs
def firstF (F : Term → Term × Int) : List Term → Int
  | [] => 0
  | t :: r => if (F t).2 = 0 then firstF F r else (F t).2
theorem firstF_skip (F : Term → Term × Int) (ts : List Term) : ∀ (i : Nat), (∀ x, x ∈ ts.take i → (F x).2 = 0) → firstF F ts = firstF F (ts.drop i) := by
  induction ts with
  | nil => intro i _; simp
  | cons t r ih =>
    intro i h
    cases i with
    | zero => rfl
    | succ i =>
      rw [List.drop_succ_cons, firstF, if_pos (h t (by simp))]
      exact ih i (fun x hx => h x (by simp [hx]))
theorem firstF_iff (F : Term → Term × Int) : ∀ ts : List Term, firstF F ts = 0 ↔ ∀ t, t ∈ ts → (F t).2 = 0
  | [] => by simp [firstF]
  | t :: r => by
    have ih := firstF_iff F r
    rw [firstF]
    by_cases h : (F t).2 = 0
    · rw [if_pos h, ih]; simp [h]
    · rw [if_neg h]; simp [h]
def fitsE (c : ChP) (l : List Term) (F : Term → Term × Int) : ChP × Int := if firstF F l ≠ 0 then (zeroCh, firstF F l) else (((l.head?.map fun t => (F t).1).getD c.1, c.2), 0)
set_option maxHeartbeats 2000000 in
theorem dfits_ac (c : ChP) (l : List Term) (F : Term → Term × Int) (hl : l.length < 1099511627776) (g : Nat) (caps : List AV) (H : List AObj) (hg : callOk Tryz.prog g = true) (hsc : ScopedL H.length caps)
    (hf : ∀ i (h : i < l.length) X, ACall Tryz.prog g (encT l[i] :: caps) (H ++ X) (fun r H' => r = encRE (F l[i]) ∧ H' = H ++ X)) :
    ACall Tryz.prog 61 [encCh c, .sl .none (encTs l), .fn g caps] H (fun r H' => r = encCE (fitsE c l F) ∧ H' = H) := by
  obtain ⟨S, hS⟩ : ∃ S : Nat → Term, S = fun i => if i = 0 then c.1 else (l.head?.map fun t => (F t).1).getD c.1 := ⟨_, rfl⟩
  have hsc2 : ScopedL (H.length + 2) caps := scopedL_le (by omega) _ hsc
  have hS0 : S 0 = c.1 := by rw [hS]; rfl
  refine ACall_V (H.length) 32 [.cell 6 28, .tmp 7] Tryz.func61 rfl rfl rfl ?_
  simp only [push_cast, Nat.reduceAdd, Nat.reduceSub, Nat.reduceMul, Nat.reduceLT, Nat.reduceLeDiff, Nat.reduceEqDiff, Int.reduceToNat, ↓reduceIte]
  refine AW_loopW (maskG 35 [2, 0, 2, 5, 0, 0]) (fun (i : Nat) => [(14, .int .i64 i)]) (fun i => H ++ [.cells [.str (S i).name, .bool (S i).var, .sl .none (encTs (S i).args), .sl .none (encL encSt c.2)], .cells [.str [], .bool false, .sl .zero [], .sl .zero []]]) (fun i => i ≤ l.length ∧ ∀ x, x ∈ l.take i → (F x).2 = 0) (fun i => l.length - i) 0 ⟨Nat.zero_le _, by simp⟩ (by simp only [push_cast, Nat.reduceAdd, Nat.reduceSub, Nat.reduceMul, Nat.reduceLT, Nat.reduceLeDiff, Nat.reduceEqDiff, Int.reduceToNat, ↓reduceIte, hsc2, hS0]) (fun i hi => ?_)
  obtain ⟨hi1, hi2⟩ := hi
  have he := firstF_skip F l i hi2
  simp only [push_cast, Nat.reduceAdd, Nat.reduceSub, Nat.reduceMul, Nat.reduceLT, Nat.reduceLeDiff, Nat.reduceEqDiff, Int.reduceToNat, ↓reduceIte, hg]
  refine cI (fun h => ?_) (fun h => ?_)
  · have hil : i < l.length := by omega
    rw [List.drop_eq_getElem_cons hil, firstF] at he
    obtain ⟨x, hx⟩ : ∃ x, x = l[i]'hil := ⟨_, rfl⟩
    have hfx := fun X => hf i hil X
    rw [← hx] at he hfx
    refine ⟨hil, ?_⟩
    rw [← hx]
    refine (hfx _).to ?_
    simp only [push_cast, Nat.reduceAdd, Nat.reduceSub, Nat.reduceMul, Nat.reduceLT, Nat.reduceLeDiff, Nat.reduceEqDiff, Int.reduceToNat, ↓reduceIte, encRE]
    refine cI (fun h2 => ?_) (fun h2 => ?_)
    · have hn : ∀ y, y ∈ l.take (i + 1) → (F y).2 = 0 := fun y hy => by
        rw [List.take_succ_eq_append_getElem hil] at hy
        rcases List.mem_append.1 hy with hy | hy
        · exact hi2 y hy
        · rw [List.mem_singleton] at hy; rw [hy, ← hx]; exact h2
      refine cI (fun h3 => ?_) (fun h3 => ?_)
      · have hi0 : i = 0 := by omega
        subst hi0
        have hS1 : S 1 = (F x).1 := by
          rw [hS, hx]
          cases l with
          | nil => exact absurd hil (by simp)
          | cons a r => rfl
        repeat' first | refine ⟨by omega, ?_⟩ | refine cI (fun _ => ?_) (fun _ => ?_)
        exact loopW_n 1 ⟨by omega, hn⟩ (by omega) (by simp only [push_cast, Nat.reduceAdd, Nat.reduceSub, Nat.reduceMul, Nat.reduceLT, Nat.reduceLeDiff, Nat.reduceEqDiff, Int.reduceToNat, ↓reduceIte, hsc2, hS1])
      · have hSi : S (i + 1) = S i := by rw [hS]; simp only; rw [if_neg (by omega), if_neg (by omega)]
        repeat' first | refine ⟨by omega, ?_⟩ | refine cI (fun _ => ?_) (fun _ => ?_)
        exact loopW_n (i + 1) ⟨by omega, hn⟩ (by omega) (by simp only [push_cast, Nat.reduceAdd, Nat.reduceSub, Nat.reduceMul, Nat.reduceLT, Nat.reduceLeDiff, Nat.reduceEqDiff, Int.reduceToNat, ↓reduceIte, hsc2, hSi])
    · rw [if_neg h2] at he
      unfold fitsE
      rw [if_pos (by rw [he]; exact h2), he]
      simp only [push_cast, Nat.reduceAdd, Nat.reduceSub, Nat.reduceMul, Nat.reduceLT, Nat.reduceLeDiff, Nat.reduceEqDiff, Int.reduceToNat, ↓reduceIte]
      exact ⟨rfl, rfl, encTs_nil.symm, rfl⟩
  · rw [List.drop_of_length_le (show l.length ≤ i by omega)] at he
    have h0 : firstF F l = 0 := he
    unfold fitsE
    rw [if_neg (by simpa using h0)]
    have hSe : S i = (l.head?.map fun t => (F t).1).getD c.1 := by
      rw [hS]
      simp only
      by_cases hi0 : i = 0
      · subst hi0
        have : l = [] := List.length_eq_zero_iff.1 (by omega)
        rw [if_pos rfl, this]; rfl
      · rw [if_neg hi0]
    rw [← hSe]
    exact ⟨⟨rfl, rfl, rfl, rfl⟩, rfl⟩
def fitT (t : Term) : Term × Int := if fitsP t then (t, 0) else (.mk [] false [], 3)
theorem inside1_ac (x t : Term) (p : List Int) (b b2 : Nat) (hx : x.bulk ≤ 1000000000) (ht : checkP t = 0) (hp : p.length < 1099511627776) (hat : ∃ y, atP t p = some y) (H : List AObj) (hb : H[b]? = some (.cells [.str t.name, .bool t.var, .sl .none (encTs t.args)])) (hb2 : H[b2]? = some (.cells [.sl .none (encP p)])) :
    ACall Tryz.prog 62 [encT x, .ptr b 0, .ptr b2 0] H (fun r H' => r = encRE (fitT (putP t p x)) ∧ H' = H) := by
  obtain ⟨y, hy⟩ := hat
  have hts := check_small ht
  have hpb := put_bulk x _ _ _ hy
  have hsp := setP_put p t x y hy ((check_iff t).1 ht).1
  refine ACall_V (H.length) 10 [.cell 4 25, .tmp 5] Tryz.func62 rfl rfl rfl ?_
  have hb' : ∀ X, (H ++ X)[b]? = some (.cells [.str t.name, .bool t.var, .sl .none (encTs t.args)]) := fun X => by
    rw [List.getElem?_append_left (List.getElem?_eq_some_iff.1 hb).1]; exact hb
  have hb2' : ∀ X, (H ++ X)[b2]? = some (.cells [.sl .none (encP p)]) := fun X => by
    rw [List.getElem?_append_left (List.getElem?_eq_some_iff.1 hb2).1]; exact hb2
  simp only [push_cast, Nat.reduceAdd, Nat.reduceSub, Nat.reduceMul, Nat.reduceLT, Nat.reduceLeDiff, Nat.reduceEqDiff, Int.reduceToNat, ↓reduceIte, hb', hb2']
  refine (set_ac x (by omega) t (by omega) p hp ⟨y, hy⟩ _).to ?_
  rw [hsp]
  simp only [push_cast, Nat.reduceAdd, Nat.reduceSub, Nat.reduceMul, Nat.reduceLT, Nat.reduceLeDiff, Nat.reduceEqDiff, Int.reduceToNat, ↓reduceIte]
  refine (fit_ac (putP t p x) (by omega) _).to ?_
  unfold fitT
  cases hf : fitsP (putP t p x)
  · simp only [Bool.false_eq_true, if_false]
    simp only [push_cast, Nat.reduceAdd, Nat.reduceSub, Nat.reduceMul, Nat.reduceLT, Nat.reduceLeDiff, Nat.reduceEqDiff, Int.reduceToNat, ↓reduceIte, encRE]
  · simp only [if_true]
    simp only [push_cast, Nat.reduceAdd, Nat.reduceSub, Nat.reduceMul, Nat.reduceLT, Nat.reduceLeDiff, Nat.reduceEqDiff, Int.reduceToNat, ↓reduceIte, encRE]
theorem instance1_ac (x : Term) (σ : List (List UInt8 × Term)) (b : Nat) (hx : checkP x = 0) (hσ : subCheck σ = 0) (hlen : σ.length < 1099511627776) (hbk : ∀ b, b ∈ σ → b.2.bulk ≤ 1099511627775) (H : List AObj) (hb : H[b]? = some (.cells [.sl .none (encL encBd σ)])) :
    ACall Tryz.prog 66 [encT x, .ptr b 0] H (fun r H' => r = encRE (instE σ x) ∧ H' = H) := by
  have hxs := check_small hx
  obtain ⟨g1, g2, g3⟩ := sub_ok hσ
  have hz := inst_size hσ hx
  refine ACall_V (H.length) 8 [.cell 3 25, .tmp 4] Tryz.func66 rfl rfl rfl ?_
  have hb' : ∀ X, (H ++ X)[b]? = some (.cells [.sl .none (encL encBd σ)]) := fun X => by
    rw [List.getElem?_append_left (List.getElem?_eq_some_iff.1 hb).1]; exact hb
  simp only [push_cast, Nat.reduceAdd, Nat.reduceSub, Nat.reduceMul, Nat.reduceLT, Nat.reduceLeDiff, Nat.reduceEqDiff, Int.reduceToNat, ↓reduceIte, hb']
  refine (instance_ac σ g1 hlen hbk x (by omega) (by omega) _).to ?_
  simp only [push_cast, Nat.reduceAdd, Nat.reduceSub, Nat.reduceMul, Nat.reduceLT, Nat.reduceLeDiff, Nat.reduceEqDiff, Int.reduceToNat, ↓reduceIte, encRE]
def instanceE (rs : List (Term × Term)) (c : ChP) (σ : List (List UInt8 × Term)) : ChP × Int :=
  if (termsC rs c).2 ≠ 0 then (zeroCh, (termsC rs c).2) else if subCheck σ ≠ 0 then (zeroCh, subCheck σ) else fitsE c (termsC rs c).1 (instE σ)
def putS (p : List Int) (l : List (Int × List Int)) : List (Int × List Int) := l.map fun s => (s.1, p ++ s.2)
def insideE (rs : List (Term × Term)) (c : ChP) (t : Term) (p : List Int) : ChP × Int :=
  if (termsC rs c).2 ≠ 0 then (zeroCh, (termsC rs c).2) else if checkP t ≠ 0 then (zeroCh, checkP t) else if (atP t p).isNone then (zeroCh, 8) else fitsE (zeroT, putS p c.2) (termsC rs c).1 (fun x => fitT (putP t p x))
set_option maxHeartbeats 2000000 in
theorem dinstance_ac (rs : List (Term × Term)) (hlen : rs.length < 1099511627776) (hb : BndR rs) (c : ChP) (hc : ChB c) (σ : List (List UInt8 × Term)) (hσl : σ.length < 1000000000) (hσb : ∀ b, b ∈ σ → b.1.length < 1099511627776 ∧ b.2.bulk ≤ 1099511627775) (H : List AObj) :
    ACall Tryz.prog 24 [.sl .none (encL encRu rs), encCh c, .sl .none (encL encBd σ)] H (fun r H' => r = encCE (instanceE rs c σ) ∧ H' = H) := by
  refine ACall_V (H.length) 31 [.cell 6 28, .tmp 7] Tryz.func24 rfl rfl rfl ?_
  simp only [push_cast, Nat.reduceAdd, Nat.reduceSub, Nat.reduceMul, Nat.reduceLT, Nat.reduceLeDiff, Nat.reduceEqDiff, Int.reduceToNat, ↓reduceIte]
  refine (dterms_ac rs hlen hb c hc.1 hc.2.1 hc.2.2 _).to ?_
  simp only [push_cast, Nat.reduceAdd, Nat.reduceSub, Nat.reduceMul, Nat.reduceLT, Nat.reduceLeDiff, Nat.reduceEqDiff, Int.reduceToNat, ↓reduceIte, encTE]
  unfold instanceE
  refine cI (fun h => ?_) (fun h => ?_)
  · rw [if_neg (by simpa using h)]
    obtain ⟨z1, z2, z3, z4⟩ := termsC_spec h
    refine (subCheckT_ac σ (by omega) hσb _).to ?_
    simp only [push_cast, Nat.reduceAdd, Nat.reduceSub, Nat.reduceMul, Nat.reduceLT, Nat.reduceLeDiff, Nat.reduceEqDiff, Int.reduceToNat, ↓reduceIte]
    refine cI (fun h2 => ?_) (fun h2 => ?_)
    · rw [if_neg (by simpa using h2)]
      refine (ownC2_ac c hc _).to ?_
      simp only [push_cast, Nat.reduceAdd, Nat.reduceSub, Nat.reduceMul, Nat.reduceLT, Nat.reduceLeDiff, Nat.reduceEqDiff, Int.reduceToNat, ↓reduceIte]
      refine (dfits_ac c (termsC rs c).1 (instE σ) (by omega) 66 [.ptr (H.length + 1) 0] _ ok66 (by simp only [push_cast, Nat.reduceAdd, Nat.reduceSub, Nat.reduceMul, Nat.reduceLT, Nat.reduceLeDiff, Nat.reduceEqDiff, Int.reduceToNat, ↓reduceIte]) (fun i hi X => instance1_ac _ σ _ (z4 _ (List.getElem_mem hi)) h2 (by omega) (fun b hb => (hσb b hb).2) _ ?_)).to ?_
      · rw [List.append_assoc]; exact (by exact (agetN _ _ 1).trans rfl)
      · simp only [push_cast, Nat.reduceAdd, Nat.reduceSub, Nat.reduceMul, Nat.reduceLT, Nat.reduceLeDiff, Nat.reduceEqDiff, Int.reduceToNat, ↓reduceIte]
    · rw [if_pos h2]
      simp only [push_cast, Nat.reduceAdd, Nat.reduceSub, Nat.reduceMul, Nat.reduceLT, Nat.reduceLeDiff, Nat.reduceEqDiff, Int.reduceToNat, ↓reduceIte]
      exact ⟨rfl, rfl, encTs_nil.symm, rfl⟩
  · rw [if_pos h]
    simp only [push_cast, Nat.reduceAdd, Nat.reduceSub, Nat.reduceMul, Nat.reduceLT, Nat.reduceLeDiff, Nat.reduceEqDiff, Int.reduceToNat, ↓reduceIte]
    exact ⟨rfl, rfl, encTs_nil.symm, rfl⟩
theorem concat2_ac (p q : List Int) (hp : p.length < 549755813888) (hq : q.length < 549755813888) (H : List AObj) :
    ACall Tryz.prog 60 [.sl .none [.sl .none (encP p), .sl .none (encP q)]] H (fun r H' => r = .sl .none (encP (p ++ q)) ∧ H' = H) := by
  have h := concatI_ac [p, q] (by simp) (by unfold totL; simp; omega) H
  rw [show ([p, q] : List (List Int)).flatten = p ++ q by simp] at h
  exact h
set_option maxHeartbeats 4000000 in
theorem dinside_ac (rs : List (Term × Term)) (hlen : rs.length < 1099511627776) (hb : BndR rs) (c : ChP) (hc : ChB c) (hc5 : ∀ s, s ∈ c.2 → s.2.length < 549755813888) (t : Term) (ht : t.bulk ≤ 1099511627775) (p : List Int) (hp : p.length < 549755813888) (H : List AObj) :
    ACall Tryz.prog 23 [.sl .none (encL encRu rs), encCh c, encT t, .sl .none (encP p)] H (fun r H' => r = encCE (insideE rs c t p) ∧ H' = H) := by
  refine ACall_VA (H.length) 66 [.cell 8 28, .tmp 9] Tryz.func23 rfl rfl rfl ?_
  refine AW_reserve 1 ?_
  refine AW_of_W ?_
  simp only [push_cast, Nat.reduceAdd, Nat.reduceSub, Nat.reduceMul, Nat.reduceLT, Nat.reduceLeDiff, Nat.reduceEqDiff, Int.reduceToNat, ↓reduceIte]
  refine (dterms_ac rs hlen hb c hc.1 hc.2.1 hc.2.2 _).to ?_
  simp only [push_cast, Nat.reduceAdd, Nat.reduceSub, Nat.reduceMul, Nat.reduceLT, Nat.reduceLeDiff, Nat.reduceEqDiff, Int.reduceToNat, ↓reduceIte, encTE]
  unfold insideE
  refine cI (fun h => ?_) (fun h => ?_)
  · rw [if_neg (by simpa using h)]
    obtain ⟨z1, z2, z3, z4⟩ := termsC_spec h
    refine (check_ac t ht _).to ?_
    simp only [push_cast, Nat.reduceAdd, Nat.reduceSub, Nat.reduceMul, Nat.reduceLT, Nat.reduceLeDiff, Nat.reduceEqDiff, Int.reduceToNat, ↓reduceIte]
    refine cI (fun h2 => ?_) (fun h2 => ?_)
    · rw [if_neg (by simpa using h2)]
      refine (sub_ac t p ht (by omega) _).to ?_
      cases hat : atP t p with
      | none =>
        simp only [push_cast, Nat.reduceAdd, Nat.reduceSub, Nat.reduceMul, Nat.reduceLT, Nat.reduceLeDiff, Nat.reduceEqDiff, Int.reduceToNat, ↓reduceIte, Option.isNone_none]
        exact ⟨rfl, rfl, encTs_nil.symm, rfl⟩
      | some y =>
        simp only [push_cast, Nat.reduceAdd, Nat.reduceSub, Nat.reduceMul, Nat.reduceLT, Nat.reduceLeDiff, Nat.reduceEqDiff, Int.reduceToNat, ↓reduceIte, Option.isNone_some, Bool.false_eq_true, if_false]
        refine AW_loopW (maskG 70 [6, 0, 0, 1, 4, 28, 0, 0]) (fun (i : Nat) => [(46, .int .i64 i)]) (fun i => H ++ [gTok 86 2 (encL encSt (putS p (c.2.take i))), .cells [.str c.1.name, .bool c.1.var, .sl .none (encTs c.1.args), .sl .none (encL encSt c.2)], .cells [.str t.name, .bool t.var, .sl .none (encTs t.args)], .cells [.sl .none (encP p)], .cells [.str [], .bool false, .sl .zero [], .sl .zero []], .cells [.str y.name, .bool y.var, .sl .none (encTs y.args)], .cells [.str [], .bool false, .sl .zero [], gSl H.length (encL encSt (putS p (c.2.take i)))]]) (fun i => i ≤ c.2.length) (fun i => c.2.length - i) 0 (Nat.zero_le _) (by simp only [push_cast, Nat.reduceAdd, Nat.reduceSub, Nat.reduceMul, Nat.reduceLT, Nat.reduceLeDiff, Nat.reduceEqDiff, Int.reduceToNat, ↓reduceIte, List.take_zero, show putS p [] = [] from rfl, encL_nil]) (fun i hi => ?_)
        simp only [push_cast, Nat.reduceAdd, Nat.reduceSub, Nat.reduceMul, Nat.reduceLT, Nat.reduceLeDiff, Nat.reduceEqDiff, Int.reduceToNat, ↓reduceIte]
        refine cI (fun h3 => ?_) (fun h3 => ?_)
        · have hil : i < c.2.length := by omega
          obtain ⟨s, hs⟩ : ∃ s, s = c.2[i]'hil := ⟨_, rfl⟩
          have hsb := hc5 _ (List.getElem_mem hil)
          have hst : putS p (c.2.take i) ++ [(s.1, p ++ s.2)] = putS p (c.2.take (i + 1)) := by unfold putS; rw [List.take_succ_eq_append_getElem hil, hs, List.map_append]; rfl
          have hcl := hc.2.1
          have hpl : (putS p (c.2.take i)).length ≤ c.2.length := by unfold putS; rw [List.length_map, List.length_take]; omega
          refine ⟨hil, ?_⟩
          rw [← hs] at hsb ⊢
          have hcn := fun X => concat2_ac p s.2 hp hsb X
          apply AW_drawE [some 50, some 51, some 52, some 53, some 54, some 55, some 56, some 57, some 58, some 59, some 60, some 61, some 62, none] [([false, false], _), ([true, false], _), ([true, true], _)] [none, none, none, none, none, none, none, none, none, none, none, some 0, none, some 1] 2 [(0, [false, false], [15]), (1, [false, false], [50]), (2, [false, false], [17]), (3, [false, false], [52]), (4, [false, false], [7]), (5, [false, false], [17]), (6, [false, false], [55]), (7, [false, false], [54, 1]), (8, [false, false], [57]), (9, [false, false], [53, 4]), (10, [false, false], [59]), (11, [false, false], [51, 8]), (12, [true, false], [15]), (13, [true, false], [61, 0]), (0, [true, false], [15]), (2, [true, false], [17]), (3, [true, false], [52]), (4, [true, false], [7]), (5, [true, false], [17]), (6, [true, false], [55]), (7, [true, false], [54, 1]), (9, [true, false], [53, 4])] [_, _, _, _, _, _, _, _, _, _, _, _, _, _]
          case' hm => exact dr
          case' hn => rfl
          case' hok => rfl
          case' hlen => rfl
          case' hd => rfl
          case' h0 => rfl
          case' hstep =>
           simp only [DAllG, push_cast, Option.isSome_some, Option.isSome_none]
           repeat' apply And.intro
           all_goals (apply DOne_V; simp only [push_cast, Nat.reduceAdd, Nat.reduceSub, Nat.reduceMul, Nat.reduceLT, Nat.reduceLeDiff, Nat.reduceEqDiff, Int.reduceToNat, ↓reduceIte] <;> first | exact rfl | omega | exact ⟨rfl, rfl⟩ | exact trivial | exact ⟨by omega, rfl⟩ | exact ⟨by omega, by omega, rfl⟩ | exact ⟨by omega, rfl, rfl⟩ | exact ⟨by omega, by omega, rfl, rfl⟩ | (refine (hcn _).to ?_; exact ⟨rfl, rfl⟩) | (refine app1_L encSt (sz := 2) (fun _ => rfl) cellSt5 _ H.length (putS p (c.2.take i)) (s.1, p ++ s.2) _ rfl rfl (by exact aget0 _ _ _) sl26 sz86 by86 zr86 rfl (by decide) (by decide) (by omega) ?_; exact ⟨rfl, rfl⟩) | trace_state)
          case' hQ => skip
          rw [hst]
          simp only [push_cast, Nat.reduceAdd, Nat.reduceSub, Nat.reduceMul, Nat.reduceLT, Nat.reduceLeDiff, Nat.reduceEqDiff, Int.reduceToNat, ↓reduceIte]
          repeat' first | refine ⟨by omega, ?_⟩ | refine cI (fun _ => ?_) (fun _ => ?_)
          exact loopW_n (i + 1) (by omega) (by omega) (by simp only [push_cast, Nat.reduceAdd, Nat.reduceSub, Nat.reduceMul, Nat.reduceLT, Nat.reduceLeDiff, Nat.reduceEqDiff, Int.reduceToNat, ↓reduceIte])
        · rw [List.take_of_length_le (show c.2.length ≤ i by omega)]
          have hfi := fun X Y => dfits_ac (zeroT, putS p c.2) (termsC rs c).1 (fun x => fitT (putP t p x)) (by omega) 62 [.ptr (H.length + 2) 0, .ptr (H.length + 3) 0] (H ++ [X, .cells [.str c.1.name, .bool c.1.var, .sl .none (encTs c.1.args), .sl .none (encL encSt c.2)], .cells [.str t.name, .bool t.var, .sl .none (encTs t.args)], .cells [.sl .none (encP p)], .cells [.str [], .bool false, .sl .zero [], .sl .zero []], .cells [.str y.name, .bool y.var, .sl .none (encTs y.args)], .cells Y]) ok62 (by simp only [push_cast, Nat.reduceAdd, Nat.reduceSub, Nat.reduceMul, Nat.reduceLT, Nat.reduceLeDiff, Nat.reduceEqDiff, Int.reduceToNat, ↓reduceIte]) (fun i hi X => inside1_ac _ t p _ _ (by have := check_small (z4 _ (List.getElem_mem hi)); omega) h2 (by omega) ⟨y, hat⟩ _ (by rw [List.append_assoc]; exact (by exact (agetN _ _ 2).trans rfl)) (by rw [List.append_assoc]; exact (by exact (agetN _ _ 3).trans rfl)))
          have hf2 := fun X Y => ACall.forget (args := [.agg [.str [], .bool false, .sl .zero [], gSl H.length (encL encSt (putS p c.2))], .sl .none (encTs (termsC rs c).1), .fn 62 [.ptr (H.length + 2) 0, .ptr (H.length + 3) 0]]) (args' := [encCh (zeroT, putS p c.2), .sl .none (encTs (termsC rs c).1), .fn 62 [.ptr (H.length + 2) 0, .ptr (H.length + 3) 0]]) ⟨by rw [show encCh (zeroT, putS p c.2) = .agg [.str [], .bool false, .sl .none [], .sl .none (encL encSt (putS p c.2))] by show AV.agg [.str zeroT.name, .bool zeroT.var, .sl .none (encTs zeroT.args), .sl .none (encL encSt (putS p c.2))] = _; rw [show encTs zeroT.args = [] from encTs_nil]; rfl]; exact fgtW_spec _ _ (by simp only [push_cast, Nat.reduceAdd, Nat.reduceSub, Nat.reduceMul, Nat.reduceLT, Nat.reduceLeDiff, Nat.reduceEqDiff, Int.reduceToNat, ↓reduceIte]), Forget.refl _, Forget.refl _, trivial⟩ (hfi X Y)
          refine (hf2 _ _).to ?_
          simp only [push_cast, Nat.reduceAdd, Nat.reduceSub, Nat.reduceMul, Nat.reduceLT, Nat.reduceLeDiff, Nat.reduceEqDiff, Int.reduceToNat, ↓reduceIte]
    · rw [if_pos h2]
      simp only [push_cast, Nat.reduceAdd, Nat.reduceSub, Nat.reduceMul, Nat.reduceLT, Nat.reduceLeDiff, Nat.reduceEqDiff, Int.reduceToNat, ↓reduceIte]
      exact ⟨rfl, rfl, encTs_nil.symm, rfl⟩
  · rw [if_pos h]
    simp only [push_cast, Nat.reduceAdd, Nat.reduceSub, Nat.reduceMul, Nat.reduceLT, Nat.reduceLeDiff, Nat.reduceEqDiff, Int.reduceToNat, ↓reduceIte]
    exact ⟨rfl, rfl, encTs_nil.symm, rfl⟩
end Ab
set_option maxRecDepth 10000
namespace Ab
open Go Go.Proofs
theorem terms_ok {rs : List (Term × Term)} {c : ChP} (h : (termsE rs c).2 = 0) : checkP c.1 = 0 ∧ c.2.length ≤ 4096 ∧ termsE rs c = runF rs [c.1] c.1 c.2 := by
  unfold termsE at h ⊢
  by_cases h1 : 4096 < c.2.length
  · rw [if_pos h1] at h; cases h
  · rw [if_neg h1] at h ⊢
    by_cases h2 : checkP c.1 ≠ 0
    · rw [if_pos h2] at h; exact absurd h h2
    · rw [if_neg h2]
      exact ⟨by simpa using h2, by omega, rfl⟩
def isCh (c : ChP) (e : Int) (want : ChP) (bad : Int) : Bool := if bad = 0 then decide (e = 0) && decide (c = want) else decide (e = bad) && decide (c = zeroCh)
theorem chain5_ac (c : ChP) (e : Int) (want : ChP) (bad : Int) (h1 : ChB c) (h2 : ChB want) (H : List AObj) :
    ACall Tryz.prog 22 [encCh c, .int .i64 e, encCh want, .int .i64 bad] H (fun r H' => r = .bool (isCh c e want bad) ∧ H' = H) := by
  have hz : ChB zeroCh := ⟨by simp [zeroCh, zeroT, Term.bulk_mk], by simp [zeroCh], fun x hx => by simp [zeroCh] at hx⟩
  refine ACall_V (H.length) 22 [.tmp 8] Tryz.func22 rfl rfl rfl ?_
  simp only [push_cast, Nat.reduceAdd, Nat.reduceSub, Nat.reduceMul, Nat.reduceLT, Nat.reduceLeDiff, Nat.reduceEqDiff, Int.reduceToNat, ↓reduceIte]
  unfold isCh
  refine cI (fun h => cI (fun he => ?_) (fun he => ?_)) (fun h => cI (fun he => ?_) (fun he => ?_))
  · refine (sameChain_ac c want h1 h2 _).to ?_
    simp only [push_cast, Nat.reduceAdd, Nat.reduceSub, Nat.reduceMul, Nat.reduceLT, Nat.reduceLeDiff, Nat.reduceEqDiff, Int.reduceToNat, ↓reduceIte]
    simp [h, he]
  · simp [h, he]
  · refine ACall.forget (args' := [encCh c, encCh zeroCh]) ⟨Forget.refl _, by rw [zeroCh_enc]; exact fgtW_spec _ _ (by simp only [push_cast, Nat.reduceAdd, Nat.reduceSub, Nat.reduceMul, Nat.reduceLT, Nat.reduceLeDiff, Nat.reduceEqDiff, Int.reduceToNat, ↓reduceIte]), trivial⟩ ((sameChain_ac c zeroCh h1 hz _).to ?_)
    simp only [push_cast, Nat.reduceAdd, Nat.reduceSub, Nat.reduceMul, Nat.reduceLT, Nat.reduceLeDiff, Nat.reduceEqDiff, Int.reduceToNat, ↓reduceIte]
    simp [h, he]
  · simp [h, he]
theorem isCh_self (c : ChP) (want : ChP) (bad : Int) (h : if bad = 0 then c = want else c = zeroCh) : isCh c bad want bad = true := by
  unfold isCh
  by_cases h0 : bad = 0
  · rw [if_pos h0] at h; rw [if_pos h0, decide_eq_true h0, decide_eq_true h]; rfl
  · rw [if_neg h0] at h; rw [if_neg h0, decide_eq_true rfl, decide_eq_true h]; rfl
end Ab
set_option maxRecDepth 10000
namespace Ab
open Go Go.Proofs
def large5 (σ : List (List UInt8 × Term)) (l : List Term) : Bool := l.any fun t => !fitsP (applyP σ t)
theorem large_ac (σ : List (List UInt8 × Term)) (hσ : subCheck σ = 0) (hlen : σ.length < 1099511627776) (hbk : ∀ b, b ∈ σ → b.2.bulk ≤ 1099511627775) (l : List Term) (hl : l.length < 1099511627776) (hck : ∀ x, x ∈ l → checkP x = 0) (H : List AObj) :
    ACall Tryz.prog 29 [.sl .none (encL encBd σ), .sl .none (encTs l)] H (fun r H' => r = .bool (large5 σ l) ∧ H' = H) := by
  refine ACall_V (H.length) 16 [.tmp 4] Tryz.func29 rfl rfl rfl ?_
  simp only [push_cast, Nat.reduceAdd, Nat.reduceSub, Nat.reduceMul, Nat.reduceLT, Nat.reduceLeDiff, Nat.reduceEqDiff, Int.reduceToNat, ↓reduceIte]
  refine AW_loopW (maskG 18 [0, 6, 0, 0]) (fun (i : Nat) => [(9, .int .i64 i)]) (fun _ => H) (fun i => i ≤ l.length ∧ ∀ x, x ∈ l.take i → fitsP (applyP σ x) = true) (fun i => l.length - i) 0 ⟨Nat.zero_le _, by simp⟩ (by simp only [push_cast, Nat.reduceAdd, Nat.reduceSub, Nat.reduceMul, Nat.reduceLT, Nat.reduceLeDiff, Nat.reduceEqDiff, Int.reduceToNat, ↓reduceIte]) (fun i hi => ?_)
  obtain ⟨hi1, hi2⟩ := hi
  simp only [push_cast, Nat.reduceAdd, Nat.reduceSub, Nat.reduceMul, Nat.reduceLT, Nat.reduceLeDiff, Nat.reduceEqDiff, Int.reduceToNat, ↓reduceIte]
  refine cI (fun h => ?_) (fun h => ?_)
  · have hil : i < l.length := by omega
    obtain ⟨x, hx⟩ : ∃ x, x = l[i]'hil := ⟨_, rfl⟩
    have hxm : x ∈ l := by rw [hx]; exact List.getElem_mem hil
    have hxs := check_small (hck x hxm)
    have hz := inst_size hσ (hck x hxm)
    refine ⟨hil, ?_⟩
    rw [← hx]
    refine (fitsR1_ac σ hlen hbk x (by omega) (by omega) _).to ?_
    simp only [push_cast, Nat.reduceAdd, Nat.reduceSub, Nat.reduceMul, Nat.reduceLT, Nat.reduceLeDiff, Nat.reduceEqDiff, Int.reduceToNat, ↓reduceIte]
    cases hf : fitsP (applyP σ x) with
    | true =>
      simp only [push_cast, Nat.reduceAdd, Nat.reduceSub, Nat.reduceMul, Nat.reduceLT, Nat.reduceLeDiff, Nat.reduceEqDiff, Int.reduceToNat, ↓reduceIte]
      repeat' first | refine ⟨by omega, ?_⟩ | refine cI (fun _ => ?_) (fun _ => ?_)
      refine loopW_n (i + 1) ⟨by omega, fun y hy => ?_⟩ (by omega) (by simp only [push_cast, Nat.reduceAdd, Nat.reduceSub, Nat.reduceMul, Nat.reduceLT, Nat.reduceLeDiff, Nat.reduceEqDiff, Int.reduceToNat, ↓reduceIte])
      rw [List.take_succ_eq_append_getElem hil] at hy
      rcases List.mem_append.1 hy with hy | hy
      · exact hi2 y hy
      · rw [List.mem_singleton] at hy; rw [hy, ← hx]; exact hf
    | false =>
      simp only [push_cast, Nat.reduceAdd, Nat.reduceSub, Nat.reduceMul, Nat.reduceLT, Nat.reduceLeDiff, Nat.reduceEqDiff, Int.reduceToNat, ↓reduceIte]
      have : large5 σ l = true := by
        unfold large5
        rw [List.any_eq_true]
        exact ⟨x, hxm, by rw [hf]; rfl⟩
      rw [this]
  · rw [List.take_of_length_le (show l.length ≤ i by omega)] at hi2
    have : large5 σ l = false := by
      unfold large5
      rw [List.any_eq_false]
      intro x hx
      rw [hi2 x hx]; simp
    rw [this]
theorem encP_app5 (p q : List Int) : encP (p ++ q) = encP p ++ encP q := by simp [encP, encL]
set_option maxHeartbeats 4000000 in
theorem insideR_ac (c : ChP) (hc : ChB c) (hc1 : c.1.bulk ≤ 100000000) (hc5 : ∀ s, s ∈ c.2 → s.2.length < 549755813888) (t : Term) (ht : t.bulk ≤ 100000000) (p : List Int) (hp : p.length < 549755813888) (y : Term) (hat : atP t p = some y) (H : List AObj) :
    ACall Tryz.prog 30 [encCh c, encT t, .sl .none (encP p)] H (fun r H' => r = encCh (putP t p c.1, putS p c.2) ∧ H' = H) := by
  obtain ⟨S, hS⟩ : ∃ S, S = putP t p c.1 := ⟨_, rfl⟩
  have hput := fun X => putR_ac c.1 (by omega) p t y (by omega) (by omega) hat X
  rw [← hS] at hput ⊢
  refine ACall_VA (H.length) 36 [.cell 6 28] Tryz.func30 rfl rfl rfl ?_
  refine AW_reserve 1 ?_
  refine AW_seq (AW_of_W ?_)
  simp only [push_cast, Nat.reduceAdd, Nat.reduceSub, Nat.reduceMul, Nat.reduceLT, Nat.reduceLeDiff, Nat.reduceEqDiff, Int.reduceToNat, ↓reduceIte]
  refine AW_seq (AW_of_W ?_)
  simp only [push_cast, Nat.reduceAdd, Nat.reduceSub, Nat.reduceMul, Nat.reduceLT, Nat.reduceLeDiff, Nat.reduceEqDiff, Int.reduceToNat, ↓reduceIte]
  refine (hput _).to ?_
  simp only [push_cast, Nat.reduceAdd, Nat.reduceSub, Nat.reduceMul, Nat.reduceLT, Nat.reduceLeDiff, Nat.reduceEqDiff, Int.reduceToNat, ↓reduceIte]
  refine AW_seq (AW_of_W ?_)
  simp only [push_cast, Nat.reduceAdd, Nat.reduceSub, Nat.reduceMul, Nat.reduceLT, Nat.reduceLeDiff, Nat.reduceEqDiff, Int.reduceToNat, ↓reduceIte]
  refine AW_loopA (maskG 39 [2, 3, 0, 9, 0, 0]) (fun (i : Nat) => [(19, .int .i64 i)]) (fun i => H ++ [gTok 86 2 (encL encSt (putS p (c.2.take i))), .cells [.str c.1.name, .bool c.1.var, .sl .none (encTs c.1.args), .sl .none (encL encSt c.2)], .cells [.str t.name, .bool t.var, .sl .none (encTs t.args)], .cells [.str [], .bool false, .sl .zero [], .sl .zero []], .cells [.str S.name, .bool S.var, .sl .none (encTs S.args), gSl H.length (encL encSt (putS p (c.2.take i)))]]) (fun i => i ≤ c.2.length) (fun i => c.2.length - i) 0 (Nat.zero_le _) (by simp only [push_cast, Nat.reduceAdd, Nat.reduceSub, Nat.reduceMul, Nat.reduceLT, Nat.reduceLeDiff, Nat.reduceEqDiff, Int.reduceToNat, ↓reduceIte, List.take_zero, show putS p [] = [] from rfl, encL_nil]) (fun i hi => ?_)
  refine AW_seq (AW_of_W ?_)
  simp only [push_cast, Nat.reduceAdd, Nat.reduceSub, Nat.reduceMul, Nat.reduceLT, Nat.reduceLeDiff, Nat.reduceEqDiff, Int.reduceToNat, ↓reduceIte]
  refine AW_seq (AW_of_W ?_)
  simp only [push_cast, Nat.reduceAdd, Nat.reduceSub, Nat.reduceMul, Nat.reduceLT, Nat.reduceLeDiff, Nat.reduceEqDiff, Int.reduceToNat, ↓reduceIte]
  refine cI (fun h => ?_) (fun h => ?_)
  · have hil : i < c.2.length := by omega
    obtain ⟨s, hs⟩ : ∃ s, s = c.2[i]'hil := ⟨_, rfl⟩
    have hsb := hc5 _ (List.getElem_mem hil)
    have hst : putS p (c.2.take i) ++ [(s.1, p ++ s.2)] = putS p (c.2.take (i + 1)) := by unfold putS; rw [List.take_succ_eq_append_getElem hil, hs, List.map_append]; rfl
    have hcl := hc.2.1
    have hpl : (putS p (c.2.take i)).length ≤ c.2.length := by unfold putS; rw [List.length_map, List.length_take]; omega
    refine AW_seq (AW_block ?_)
    refine AW_seq (AW_of_W ?_)
    simp only [push_cast, Nat.reduceAdd, Nat.reduceSub, Nat.reduceMul, Nat.reduceLT, Nat.reduceLeDiff, Nat.reduceEqDiff, Int.reduceToNat, ↓reduceIte]
    refine ⟨hil, ?_⟩
    rw [← hs] at hsb ⊢
    have henc : AV.sl .none [AV.agg [.int .i64 s.1, .sl .none (encP p ++ encP s.2)]] = .sl .none [encSt (s.1, p ++ s.2)] := by rw [← encP_app5]
    refine AW_reserve 1 ?_
    apply AW_drawE [some 23, some 24, some 25, some 26, some 27, some 28, some 29, some 30, some 31, some 32, some 33, some 34, some 35, some 36, none] [([false, false, false, false], _), ([true, false, false, false], _), ([true, true, false, false], _), ([true, true, true, false], _), ([true, true, true, true], _)] [none, none, none, none, none, none, some 0, none, none, some 1, none, none, some 2, none, some 3] 4 [(0, [false, false, false, false], [7]), (1, [false, false, false, false], [23]), (2, [false, false, false, false], [9]), (3, [false, false, false, false], [25]), (4, [false, false, false, false], []), (5, [false, false, false, false], [2]), (6, [false, false, false, false], [27, 0]), (7, [true, false, false, false], [9]), (8, [true, false, false, false], [30]), (9, [true, false, false, false], [29, 1]), (10, [true, true, false, false], [26, 5]), (11, [true, true, false, false], [33]), (12, [true, true, false, false], [24, 9]), (13, [true, true, true, false], [7]), (14, [true, true, true, false], [35, 0]), (0, [true, false, false, false], [7]), (0, [true, true, false, false], [7]), (0, [true, true, true, false], [7]), (1, [true, false, false, false], [23]), (1, [true, true, false, false], [23]), (2, [true, false, false, false], [9]), (2, [true, true, false, false], [9]), (2, [true, true, true, false], [9]), (3, [true, false, false, false], [25]), (3, [true, true, false, false], [25]), (3, [true, true, true, false], [25]), (7, [false, false, false, false], [9]), (7, [true, true, false, false], [9]), (7, [true, true, true, false], [9]), (8, [false, false, false, false], [30]), (10, [true, true, true, false], [26, 5]), (11, [false, false, false, false], [33]), (11, [true, false, false, false], [33])] [_, _, _, _, _, _, _, _, _, _, _, _, _, _, _]
    case' hm => exact dr
    case' hn => rfl
    case' hok => rfl
    case' hlen => rfl
    case' hd => rfl
    case' h0 => rfl
    case' hstep =>
     simp only [DAllG, push_cast, Option.isSome_some, Option.isSome_none]
     repeat' apply And.intro
     all_goals (apply DOne_V; simp only [push_cast, Nat.reduceAdd, Nat.reduceSub, Nat.reduceMul, Nat.reduceLT, Nat.reduceLeDiff, Nat.reduceEqDiff, Int.reduceToNat, ↓reduceIte] <;> first | exact rfl | omega | exact ⟨rfl, rfl⟩ | exact trivial | exact ⟨by omega, rfl⟩ | exact ⟨by omega, by omega, rfl⟩ | exact ⟨by omega, rfl, rfl⟩ | exact ⟨by omega, by omega, rfl, rfl⟩ | (refine AOp_append_G _ (H.length + 6) [] (encP p) _ rfl rfl (by exact (agetN _ _ 6).trans rfl) sl48 sz3 by3 zr3 rfl (by decide) (uni_encP []) (uni_encP p) (cell_encP p) (by rw [encP_length]; simp; omega) (by rw [encP_length]; simp; omega) ?_; simp only [push_cast, Nat.reduceAdd, Nat.reduceSub, Nat.reduceMul, Nat.reduceLT, Nat.reduceLeDiff, Nat.reduceEqDiff, Int.reduceToNat, ↓reduceIte] <;> first | exact ⟨rfl, rfl⟩ | exact rfl) | (refine AOp.weakV (gSl_forget (H.length + 6) _) (AOp_append_G _ (H.length + 6) (encP p) (encP s.2) _ rfl rfl (by exact (agetN _ _ 6).trans rfl) sl48 sz3 by3 zr3 rfl (by decide) (uni_encP p) (uni_encP s.2) (cell_encP s.2) (by rw [encP_length, encP_length]; omega) (by rw [encP_length, encP_length]; omega) ⟨rfl, rfl⟩) ?_; simp only [push_cast, Nat.reduceAdd, Nat.reduceSub, Nat.reduceMul, Nat.reduceLT, Nat.reduceLeDiff, Nat.reduceEqDiff, Int.reduceToNat, ↓reduceIte] <;> first | exact ⟨rfl, rfl⟩ | exact rfl) | (refine app1_L encSt (sz := 2) (fun _ => rfl) cellSt5 _ H.length (putS p (c.2.take i)) (s.1, p ++ s.2) .none rfl henc (by exact aget0 _ _ _) sl26 sz86 by86 zr86 rfl (by decide) (by decide) (by omega) ?_; exact ⟨rfl, rfl⟩) | trace_state)
    case' hQ => skip
    simp only [push_cast, Nat.reduceAdd, Nat.reduceSub, Nat.reduceMul, Nat.reduceLT, Nat.reduceLeDiff, Nat.reduceEqDiff, Int.reduceToNat, ↓reduceIte, hst]
    refine AW_of_W ?_
    simp only [push_cast, Nat.reduceAdd, Nat.reduceSub, Nat.reduceMul, Nat.reduceLT, Nat.reduceLeDiff, Nat.reduceEqDiff, Int.reduceToNat, ↓reduceIte, hst]
    repeat' first | refine ⟨by omega, ?_⟩ | refine cI (fun _ => ?_) (fun _ => ?_)
    exact loopW_n (i + 1) (by omega) (by omega) (by simp only [push_cast, Nat.reduceAdd, Nat.reduceSub, Nat.reduceMul, Nat.reduceLT, Nat.reduceLeDiff, Nat.reduceEqDiff, Int.reduceToNat, ↓reduceIte, hst])
  · rw [List.take_of_length_le (show c.2.length ≤ i by omega)]
    refine AW_of_W ?_
    simp only [push_cast, Nat.reduceAdd, Nat.reduceSub, Nat.reduceMul, Nat.reduceLT, Nat.reduceLeDiff, Nat.reduceEqDiff, Int.reduceToNat, ↓reduceIte]
end Ab
set_option maxRecDepth 10000
namespace Ab
open Go Go.Proofs
theorem run_mem {rs : List (Term × Term)} : ∀ (l : List (Int × List Int)) (acc : List Term) (t x : Term), (runF rs acc t l).2 = 0 → x ∈ acc → x ∈ (runF rs acc t l).1
  | [], acc, t, x, _, h => h
  | s :: l, acc, t, x, h0, h => by
    rw [runF] at h0 ⊢
    by_cases hd : (doE rs t s).2 ≠ 0
    · rw [if_pos hd] at h0; exact absurd h0 hd
    · rw [if_neg hd] at h0 ⊢
      exact run_mem l _ _ x h0 (by simp [h])
theorem run_map {rs : List (Term × Term)} (hr : sysP rs = 0) (Φ : Term → Term) (Ψ : (Int × List Int) → (Int × List Int)) (hdo : ∀ t s, checkP t = 0 → (doE rs t s).2 = 0 → doE rs (Φ t) (Ψ s) = if fitsP (Φ (doE rs t s).1) = true then (Φ (doE rs t s).1, 0) else (zeroT, 3)) :
    ∀ (l : List (Int × List Int)) (acc : List Term) (t : Term), checkP t = 0 → (runF rs acc t l).2 = 0 → (∀ x, x ∈ (runF rs acc t l).1 → fitsP (Φ x) = true) → runF rs (acc.map Φ) (Φ t) (l.map Ψ) = ((runF rs acc t l).1.map Φ, 0)
  | [], acc, t, _, _, _ => rfl
  | s :: l, acc, t, ht, h0, hf => by
    rw [runF] at h0 hf
    rw [List.map_cons, runF]
    by_cases hd : (doE rs t s).2 ≠ 0
    · rw [if_pos hd] at h0; exact absurd h0 hd
    · rw [if_neg hd] at h0 hf
      have hd0 : (doE rs t s).2 = 0 := by simpa using hd
      have hu := do_check (s := s) hr ht hd0
      have h1 := hf _ (run_mem l _ _ (doE rs t s).1 h0 (by simp))
      have h2 := hdo t s ht hd0
      rw [if_pos h1] at h2
      rw [h2]
      simp only [ne_eq, not_true_eq_false, if_false]
      have := run_map hr Φ Ψ hdo l (acc ++ [(doE rs t s).1]) (doE rs t s).1 hu h0 hf
      rw [List.map_append] at this
      rw [runF, if_neg hd]
      exact this
theorem terms_map {rs : List (Term × Term)} (hr : sysP rs = 0) (Φ : Term → Term) (Ψ : (Int × List Int) → (Int × List Int)) (hdo : ∀ t s, checkP t = 0 → (doE rs t s).2 = 0 → doE rs (Φ t) (Ψ s) = if fitsP (Φ (doE rs t s).1) = true then (Φ (doE rs t s).1, 0) else (zeroT, 3))
    (hfo : ∀ t, checkP t = 0 → formedP (Φ t) = true) {c : ChP} (h : (termsE rs c).2 = 0) (hf : ∀ x, x ∈ (termsE rs c).1 → fitsP (Φ x) = true) : termsE rs (Φ c.1, c.2.map Ψ) = ((termsE rs c).1.map Φ, 0) := by
  obtain ⟨h1, h2, h3⟩ := terms_ok h
  have h0 : (runF rs [c.1] c.1 c.2).2 = 0 := by rw [← h3]; exact h
  rw [h3] at hf
  have hc : checkP (Φ c.1) = 0 := by rw [check_formed (hfo _ h1), if_pos (hf _ (run_mem _ _ _ _ h0 (by simp)))]
  have e : termsE rs (Φ c.1, c.2.map Ψ) = runF rs [Φ c.1] (Φ c.1) (c.2.map Ψ) := by
    unfold termsE
    simp only
    rw [if_neg (by rw [List.length_map]; omega), if_neg (by rw [hc]; simp)]
  rw [e, h3]
  exact run_map hr Φ Ψ hdo c.2 [c.1] c.1 h1 h0 hf
theorem run_head {rs : List (Term × Term)} : ∀ (l : List (Int × List Int)) (a : Term) (acc : List Term) (t : Term), (runF rs (a :: acc) t l).2 = 0 → (runF rs (a :: acc) t l).1.head? = some a
  | [], a, acc, t, _ => rfl
  | s :: l, a, acc, t, h0 => by
    rw [runF] at h0 ⊢
    by_cases hd : (doE rs t s).2 ≠ 0
    · rw [if_pos hd] at h0; exact absurd h0 hd
    · rw [if_neg hd] at h0 ⊢
      exact run_head l a (acc ++ [(doE rs t s).1]) _ h0
theorem terms_head {rs : List (Term × Term)} {c : ChP} (h : (termsE rs c).2 = 0) : (termsE rs c).1.head? = some c.1 := by
  obtain ⟨_, _, h3⟩ := terms_ok h
  rw [h3] at h ⊢
  exact run_head _ _ _ _ h
theorem firstF_snoc (F : Term → Term × Int) (l : List Term) (i : Nat) (h : i < l.length) : firstF F (l.take (i + 1)) = if firstF F (l.take i) = 0 then (F l[i]).2 else firstF F (l.take i) := by
  induction l generalizing i with
  | nil => simp at h
  | cons t r ih =>
    cases i with
    | zero =>
      simp only [List.take_succ_cons, List.take_zero, firstF, List.getElem_cons_zero, if_true]
      by_cases h1 : (F t).2 = 0
      · rw [if_pos h1, h1]
      · rw [if_neg h1]
    | succ i =>
      simp only [List.take_succ_cons, firstF, List.getElem_cons_succ]
      by_cases h1 : (F t).2 = 0
      · simp only [h1, if_true]; exact ih i (by simpa using h)
      · simp only [h1, if_false]
def putF (t : Term) (p : List Int) (x : Term) : Term × Int := fitT (putP t p x)
theorem fitT_err (t : Term) : (fitT t).2 = if fitsP t = true then 0 else 3 := by unfold fitT; split <;> rfl
def oneV (t : Term) (p : List Int) : Int := if checkP t ≠ 0 then checkP t else if (atP t p).isNone then 8 else 0
def oneE (t : Term) (p : List Int) (l : List Term) : Int := if oneV t p ≠ 0 then oneV t p else firstF (putF t p) l
def twoE (σ : List (List UInt8 × Term)) (l : List Term) : Int := if subCheck σ ≠ 0 then subCheck σ else if large5 σ l = true then 3 else 0
theorem termsC_of {rs : List (Term × Term)} {c : ChP} (h : checkCP rs [c] = 0) : sysP rs = 0 ∧ (termsE rs c).2 = 0 ∧ termsC rs c = termsE rs c := by
  unfold checkCP at h
  by_cases h1 : sysP rs ≠ 0
  · rw [if_pos h1] at h; exact absurd h h1
  · rw [if_neg h1] at h
    simp only [firstC] at h
    refine ⟨by simpa using h1, ?_, if_neg h1⟩
    by_cases h2 : (termsE rs c).2 = 0
    · exact h2
    · rw [if_neg h2] at h; exact absurd h h2
theorem termsC_check {rs : List (Term × Term)} {c : ChP} (h : checkCP rs [c] ≠ 0) : (termsC rs c).2 = checkCP rs [c] := by
  unfold checkCP at h ⊢
  unfold termsC
  by_cases h1 : sysP rs ≠ 0
  · rw [if_pos h1, if_pos h1]
  · rw [if_neg h1] at h ⊢
    rw [if_neg h1]
    simp only [firstC] at h ⊢
    by_cases h2 : (termsE rs c).2 = 0
    · rw [if_pos h2] at h; exact absurd rfl h
    · rw [if_neg h2]
theorem inside_eq {rs : List (Term × Term)} {c : ChP} (h : checkCP rs [c] = 0) (t : Term) (p : List Int) : insideE rs c t p = if oneE t p (termsE rs c).1 ≠ 0 then (zeroCh, oneE t p (termsE rs c).1) else ((putP t p c.1, putS p c.2), 0) := by
  obtain ⟨h1, h2, h3⟩ := termsC_of h
  unfold insideE oneE oneV
  rw [h3, if_neg (by simpa using h2)]
  by_cases h4 : checkP t ≠ 0
  · rw [if_pos h4, if_pos h4, if_pos h4, if_pos h4]
  · rw [if_neg h4, if_neg h4]
    by_cases h5 : (atP t p).isNone = true
    · simp only [h5, if_true]; rfl
    · have h5' : (atP t p).isNone = false := Bool.eq_false_iff.2 h5
      rw [h5']
      simp only [Bool.false_eq_true, if_false, ne_eq, not_true_eq_false]
      unfold fitsE
      rw [show (fun x => fitT (putP t p x)) = putF t p from rfl]
      by_cases h6 : firstF (putF t p) (termsE rs c).1 ≠ 0
      · rw [if_pos h6]; exact (if_pos h6).symm
      · rw [if_neg h6]
        refine Eq.trans ?_ (if_neg h6).symm
        rw [terms_head h2]
        have h7 := (firstF_iff _ _).1 (by simpa using h6) c.1 (List.mem_of_mem_head? (terms_head h2))
        have h8 : fitsP (putP t p c.1) = true := by
          have := fitT_err (putP t p c.1)
          unfold putF at h7
          rw [h7] at this
          by_cases hh : fitsP (putP t p c.1) = true
          · exact hh
          · rw [if_neg hh] at this; cases this
        have h9 : fitT (putP t p c.1) = (putP t p c.1, 0) := by unfold fitT; rw [if_pos h8]
        simp only [Option.map_some, Option.getD_some, putF, h9]
theorem instance_eq {rs : List (Term × Term)} {c : ChP} (h : checkCP rs [c] = 0) (σ : List (List UInt8 × Term)) : instanceE rs c σ = if twoE σ (termsE rs c).1 ≠ 0 then (zeroCh, twoE σ (termsE rs c).1) else ((applyP σ c.1, c.2), 0) := by
  obtain ⟨h1, h2, h3⟩ := termsC_of h
  have herr : ∀ x, (instE σ x).2 = if fitsP (applyP σ x) = true then 0 else 3 := fun x => by unfold instE; split <;> rfl
  unfold instanceE twoE
  rw [h3, if_neg (by simpa using h2)]
  by_cases h4 : subCheck σ ≠ 0
  · rw [if_pos h4, if_pos h4, if_pos h4]
  · rw [if_neg h4, if_neg h4]
    unfold fitsE
    have key : ∀ l : List Term, firstF (instE σ) l = if large5 σ l = true then 3 else 0 := by
      intro l
      induction l with
      | nil => rfl
      | cons a r ih =>
        rw [firstF, herr, ih]
        unfold large5
        rw [List.any_cons]
        by_cases hh : fitsP (applyP σ a) = true
        · rw [if_pos hh, if_pos rfl, hh]; rfl
        · rw [if_neg hh, if_neg (by decide)]
          have : fitsP (applyP σ a) = false := by simpa using hh
          rw [this]; rfl
    rw [key]
    by_cases h6 : large5 σ (termsE rs c).1 = true
    · simp only [h6, if_true]; rfl
    · simp only [h6]
      have h7 := (firstF_iff (instE σ) (termsE rs c).1).1 (by rw [key, if_neg h6]) c.1 (List.mem_of_mem_head? (terms_head h2))
      rw [herr] at h7
      have h8 : fitsP (applyP σ c.1) = true := by
        by_cases hh : fitsP (applyP σ c.1) = true
        · exact hh
        · rw [if_neg hh] at h7; cases h7
      have h9 : instE σ c.1 = (applyP σ c.1, 0) := by unfold instE; rw [if_pos h8]
      rw [terms_head h2]
      simp [h9]
theorem inside_last {rs : List (Term × Term)} {c : ChP} (h : checkCP rs [c] = 0) {t : Term} {p : List Int} (ho : oneE t p (termsE rs c).1 = 0) : ∃ y, atP t p = some y ∧ checkP t = 0 ∧ lastC rs (putP t p c.1, putS p c.2) = (putP t p ((termsE rs c).1.getLastD zeroT), 0) := by
  obtain ⟨h1, h2, h3⟩ := termsC_of h
  unfold oneE oneV at ho
  by_cases h4 : checkP t ≠ 0
  · rw [if_pos h4, if_pos h4] at ho; exact absurd ho h4
  · rw [if_neg h4] at ho
    cases hat : atP t p with
    | none => rw [hat] at ho; simp at ho
    | some y =>
      rw [hat] at ho
      simp only [Option.isNone_some, Bool.false_eq_true, if_false, ne_eq, not_true_eq_false] at ho
      have ht0 : checkP t = 0 := by simpa using h4
      have hfit : ∀ x, x ∈ (termsE rs c).1 → fitsP (putP t p x) = true := fun x hx => by
        have h7 := (firstF_iff _ _).1 ho x hx
        unfold putF at h7
        rw [fitT_err] at h7
        by_cases hh : fitsP (putP t p x) = true
        · exact hh
        · rw [if_neg hh] at h7; cases h7
      have hm := terms_map h1 (fun x => putP t p x) (fun s => (s.1, p ++ s.2)) (fun u s _ hd => do_put hat hd) (fun u hu => put_formed _ _ _ _ hat ((check_iff t).1 ht0).1 ((check_iff u).1 hu).1) h2 hfit
      refine ⟨y, rfl, ht0, ?_⟩
      obtain ⟨q, u, e, _⟩ := terms_last h2
      have hm2 : termsE rs (putP t p c.1, putS p c.2) = ((termsE rs c).1.map fun x => putP t p x, 0) := hm
      have hC : termsC rs (putP t p c.1, putS p c.2) = termsE rs (putP t p c.1, putS p c.2) := if_neg (by simpa using h1)
      unfold lastC
      rw [hC, hm2, e]
      simp
theorem instance_last {rs : List (Term × Term)} {c : ChP} (h : checkCP rs [c] = 0) {σ : List (List UInt8 × Term)} (ho : twoE σ (termsE rs c).1 = 0) : subCheck σ = 0 ∧ lastC rs (applyP σ c.1, c.2) = (applyP σ ((termsE rs c).1.getLastD zeroT), 0) := by
  obtain ⟨h1, h2, h3⟩ := termsC_of h
  unfold twoE at ho
  by_cases h4 : subCheck σ ≠ 0
  · rw [if_pos h4] at ho; exact absurd ho h4
  · rw [if_neg h4] at ho
    have h5 : subCheck σ = 0 := by simpa using h4
    by_cases h6 : large5 σ (termsE rs c).1 = true
    · rw [if_pos h6] at ho; cases ho
    · have hfit : ∀ x, x ∈ (termsE rs c).1 → fitsP (applyP σ x) = true := fun x hx => by
        have h7 : large5 σ (termsE rs c).1 = false := by simpa using h6
        unfold large5 at h7
        rw [List.any_eq_false] at h7
        simpa using h7 x hx
      obtain ⟨g1, g2, g3⟩ := sub_ok h5
      have hm := terms_map h1 (fun x => applyP σ x) (fun s => s) (fun u s hu hd => do_apply h1 hu g1 hd) (fun u hu => formed_apply σ (fun b hb => (g2 b hb).2.2) u ((check_iff u).1 hu).1) h2 hfit
      refine ⟨h5, ?_⟩
      obtain ⟨q, u, e, _⟩ := terms_last h2
      rw [List.map_id' c.2] at hm
      have hm2 : termsE rs (applyP σ c.1, c.2) = ((termsE rs c).1.map fun x => applyP σ x, 0) := hm
      have hC : termsC rs (applyP σ c.1, c.2) = termsE rs (applyP σ c.1, c.2) := if_neg (by simpa using h1)
      unfold lastC
      rw [hC, hm2, e]
      simp
end Ab
set_option maxRecDepth 10000
namespace Ab
open Go Go.Proofs
abbrev StP := Int × List Int
structure GX (rs : List (Term × Term)) (most : Nat) (t : Term) (g : GrP) : Prop where
  len : g.ts.length ≤ most
  hd : g.ts[0]? = some t
  ck : ∀ x, x ∈ g.ts → checkP x = 0
  ed : ∀ e, e ∈ g.es → 0 ≤ e.to ∧ e.to < g.ts.length ∧ 0 ≤ e.fr ∧ e.fr < g.ts.length ∧ e.st.2.length < 1099511627776
  pa : ∀ a, 0 < a → a < g.ts.length → ∃ e, g.es.find? (fun e => decide (e.to = (a : Int))) = some e ∧ 0 ≤ e.fr ∧ e.fr < a ∧ doE rs (g.ts.getD e.fr.toNat zeroT) e.st = (g.ts.getD a zeroT, 0)
theorem getT_app {ts : List Term} {u : Term} {i : Nat} (h : i < ts.length) : (ts ++ [u]).getD i zeroT = ts.getD i zeroT := by
  rw [List.getD_eq_getElem?_getD, List.getD_eq_getElem?_getD, List.getElem?_append_left h]
theorem find_snoc {es : List Edg} {x e : Edg} {p : Edg → Bool} (h : es.find? p = some e) : (es ++ [x]).find? p = some e := by
  rw [List.find?_append, h]; rfl
theorem GX.step {rs : List (Term × Term)} (hr : sysP rs = 0) {most i : Nat} {t u : Term} {g : GrP} (h : GX rs most t g) (hu : g.ts[i]? = some u) {s : StP} (hs : s ∈ allS rs u) (hd : (doE rs u s).2 = 0) : GX rs most t (exStep most i g s (doE rs u s).1) := by
  obtain ⟨hi, hiu⟩ := List.getElem?_eq_some_iff.1 hu
  have huc : checkP u = 0 := by rw [← hiu]; exact h.ck _ (List.getElem_mem hi)
  have hvc := do_check (s := s) hr huc hd
  have hsl : s.2.length < 1099511627776 := by
    have := step_len hs; have := check_small huc; omega
  obtain ⟨v, hv⟩ : ∃ v, v = (doE rs u s).1 := ⟨_, rfl⟩
  have hdo : doE rs u s = (v, 0) := Prod.ext hv.symm hd
  rw [← hv] at hvc ⊢
  by_cases hm : v ∈ g.ts
  · have hx := List.idxOf_lt_length_of_mem hm
    have e : exStep most i g s v = ⟨g.ts, g.es ++ [⟨i, ((g.ts.idxOf v : Nat) : Int), s⟩], g.wh⟩ := by unfold exStep addTs addR addW; simp [hm]
    rw [e]
    refine ⟨h.len, h.hd, h.ck, fun e he => ?_, fun a h1 h2 => ?_⟩
    · rcases List.mem_append.1 he with he | he
      · exact h.ed e he
      · rw [List.mem_singleton] at he; subst he
        exact ⟨by simp only; omega, by simp only; omega, by simp only; omega, by simp only; omega, hsl⟩
    · obtain ⟨e, q1, q2⟩ := h.pa a h1 h2
      exact ⟨e, find_snoc q1, q2⟩
  · by_cases hmo : most ≤ g.ts.length
    · have e : exStep most i g s v = ⟨g.ts, g.es, false⟩ := by unfold exStep addTs addR addW; simp [hm, hmo]
      rw [e]
      exact ⟨h.len, h.hd, h.ck, h.ed, h.pa⟩
    · have e : exStep most i g s v = ⟨g.ts ++ [v], g.es ++ [⟨i, ((g.ts.length : Nat) : Int), s⟩], g.wh⟩ := by unfold exStep addTs addR addW; simp [hm, hmo]
      rw [e]
      have hl1 : (g.ts ++ [v]).length = g.ts.length + 1 := by simp
      refine ⟨by simp only [hl1]; omega, ?_, fun x hx => ?_, fun e he => ?_, fun a h1 h2 => ?_⟩
      · rw [List.getElem?_append_left (by omega)]; exact h.hd
      · rcases List.mem_append.1 hx with hx | hx
        · exact h.ck x hx
        · rw [List.mem_singleton] at hx; rw [hx]; exact hvc
      · simp only [hl1]
        rcases List.mem_append.1 he with he | he
        · have := h.ed e he
          omega
        · rw [List.mem_singleton] at he; subst he
          exact ⟨by simp only; omega, by simp only; omega, by simp only; omega, by simp only; omega, hsl⟩
      · simp only [hl1] at h2
        by_cases ha : a = g.ts.length
        · subst ha
          refine ⟨⟨i, ((g.ts.length : Nat) : Int), s⟩, ?_, by simp only; omega, by simp only; omega, ?_⟩
          · rw [List.find?_append, List.find?_eq_none.2 (fun e he => by have := h.ed e he; simp; omega)]
            simp
          · have e1 : (g.ts ++ [v]).getD (i : Int).toNat zeroT = u := by
              rw [show (i : Int).toNat = i by omega, getT_app hi, List.getD_eq_getElem?_getD, hu]; rfl
            have e2 : (g.ts ++ [v]).getD g.ts.length zeroT = v := by
              rw [List.getD_eq_getElem?_getD, List.getElem?_append_right (Nat.le_refl _)]; simp
            simp only [e1, e2]
            exact hdo
        · obtain ⟨e, q1, q2, q3, q4⟩ := h.pa a h1 (by omega)
          refine ⟨e, find_snoc q1, q2, q3, ?_⟩
          simp only
          rw [getT_app (by omega), getT_app (by omega)]
          exact q4
theorem GX.row {rs : List (Term × Term)} (hr : sysP rs = 0) {most i : Nat} {t u : Term} : ∀ (l : List StP) (g : GrP), (∀ s, s ∈ l → s ∈ allS rs u) → GX rs most t g → g.ts[i]? = some u → (exRow rs most i u g l).2 = 0 → GX rs most t (exRow rs most i u g l).1 ∧ (exRow rs most i u g l).1.es.length ≤ g.es.length + l.length
  | [], g, _, h, _, _ => ⟨h, by simp [exRow]⟩
  | s :: l, g, hl, h, hu, h0 => by
    rw [exRow] at h0 ⊢
    by_cases hd : (doE rs u s).2 ≠ 0
    · rw [if_pos hd] at h0; exact absurd h0 hd
    · rw [if_neg hd] at h0 ⊢
      have h1 := h.step hr hu (hl s (by simp)) (by simpa using hd)
      have h2 : (exStep most i g s (doE rs u s).1).ts[i]? = some u := addTs_get hu
      obtain ⟨q1, q2⟩ := GX.row hr l _ (fun x hx => hl x (by simp [hx])) h1 h2 h0
      refine ⟨q1, ?_⟩
      have : (exStep most i g s (doE rs u s).1).es.length ≤ g.es.length + 1 := by unfold exStep; split <;> simp
      rw [List.length_cons]
      omega
end Ab
set_option maxRecDepth 100000
namespace Ab
open Go Go.Proofs
theorem run_len {rs : List (Term × Term)} : ∀ (l : List (Int × List Int)) (acc : List Term) (t : Term), (runF rs acc t l).1.length ≤ acc.length + l.length
  | [], acc, t => by simp [runF]
  | s :: l, acc, t => by
    rw [runF]
    split
    · simp
    · have := run_len (rs := rs) l (acc ++ [(doE rs t s).1]) (doE rs t s).1
      simp only [List.length_append, List.length_cons, List.length_nil] at this ⊢
      omega
theorem termsE_len (rs : List (Term × Term)) (c : ChP) : (termsE rs c).1.length ≤ 1 + c.2.length := by
  unfold termsE
  split
  · simp
  · split
    · simp
    · have := run_len (rs := rs) c.2 [c.1] c.1
      simpa using this
theorem inside_bad {rs : List (Term × Term)} {c : ChP} (h : checkCP rs [c] ≠ 0) (t : Term) (p : List Int) : insideE rs c t p = (zeroCh, checkCP rs [c]) := by
  unfold insideE; rw [if_pos (by rw [termsC_check h]; exact h), termsC_check h]
theorem instance_bad {rs : List (Term × Term)} {c : ChP} (h : checkCP rs [c] ≠ 0) (σ : List (List UInt8 × Term)) : instanceE rs c σ = (zeroCh, checkCP rs [c]) := by
  unfold instanceE; rw [if_pos (by rw [termsC_check h]; exact h), termsC_check h]
set_option maxHeartbeats 16000000 in
theorem liftsLaw_ac (rs : List (Term × Term)) (hlen : rs.length < 1099511627776) (hru : RuB rs) (c : ChP) (hc : ChB c) (hc1 : c.1.bulk ≤ 1048576) (hc2 : c.2.length ≤ 1048576) (hc3 : ∀ s, s ∈ c.2 → s.2.length ≤ 1048576) (t : Term) (ht : t.bulk ≤ 1048576) (p : List Int) (hp : p.length ≤ 1048576) (σ : List (List UInt8 × Term)) (hσl : σ.length ≤ 1048576) (hσb : ∀ b, b ∈ σ → b.1.length < 1099511627776 ∧ b.2.bulk ≤ 1099511627775) (H : List AObj) :
    ACall Tryz.prog 5 [.sl .none (encL encRu rs), encCh c, .agg [.str t.name, .bool t.var, .sl .none (encTs t.args), .sl .none (encP p), .sl .none (encL encBd σ)]] H (fun r H' => r = .bool true ∧ H' = H) := by
  have hb : BndR rs := fun r hr => by have := hru r hr; omega
  have hz : ChB zeroCh := ⟨by simp [zeroCh, zeroT, Term.bulk_mk], by simp [zeroCh], fun x hx => by simp [zeroCh] at hx⟩
  have hin := fun X => dinside_ac rs hlen hb c hc (fun s hs => by have := hc3 s hs; omega) t (by omega) p (by omega) X
  have hof := fun X => dinstance_ac rs hlen hb c hc σ (by omega) hσb X
  have hck := fun X => checkC_ac rs hlen hru [c] (by simp) (fun x hx => by simp at hx; rw [hx]; exact hc) X
  have htm := fun X => termsR_ac rs hru c hc.1 hc.2.1 hc.2.2 X
  have htl := termsE_len rs c
  have hcc : ∀ (e : Int) (h : e ≠ 0) X, ACall Tryz.prog 22 [encCh zeroCh, .int .i64 e, encCh zeroCh, .int .i64 e] X (fun r H' => r = .bool true ∧ H' = X) := fun e h X => by
    have h1 := chain5_ac zeroCh e zeroCh e hz hz X
    rw [isCh_self zeroCh zeroCh e (by rw [if_neg h])] at h1
    exact h1
  obtain ⟨e0, he0⟩ : ∃ e0, e0 = checkCP rs [c] := ⟨_, rfl⟩
  obtain ⟨T, hT⟩ : ∃ T, T = (termsE rs c).1 := ⟨_, rfl⟩
  by_cases h0 : e0 ≠ 0
  · rw [inside_bad (by rw [← he0]; exact h0), ← he0] at hin
    rw [instance_bad (by rw [← he0]; exact h0), ← he0] at hof
    rw [← he0] at hck
    rw [← hT] at htl
    refine ACall_V (H.length) 184 [.tmp 6] Tryz.func5 rfl rfl rfl ?_
    simp only [push_cast, Nat.reduceAdd, Nat.reduceSub, Nat.reduceMul, Nat.reduceLT, Nat.reduceLeDiff, Nat.reduceEqDiff, Int.reduceToNat, ↓reduceIte]
    refine (hin _).to ?_
    simp only [push_cast, Nat.reduceAdd, Nat.reduceSub, Nat.reduceMul, Nat.reduceLT, Nat.reduceLeDiff, Nat.reduceEqDiff, Int.reduceToNat, ↓reduceIte]
    refine (hof _).to ?_
    simp only [push_cast, Nat.reduceAdd, Nat.reduceSub, Nat.reduceMul, Nat.reduceLT, Nat.reduceLeDiff, Nat.reduceEqDiff, Int.reduceToNat, ↓reduceIte]
    refine (hck _).to ?_
    simp only [push_cast, Nat.reduceAdd, Nat.reduceSub, Nat.reduceMul, Nat.reduceLT, Nat.reduceLeDiff, Nat.reduceEqDiff, Int.reduceToNat, ↓reduceIte]
    refine cI (fun h => absurd h h0) (fun _ => ?_)
    refine (htm _).to ?_
    simp only [push_cast, Nat.reduceAdd, Nat.reduceSub, Nat.reduceMul, Nat.reduceLT, Nat.reduceLeDiff, Nat.reduceEqDiff, Int.reduceToNat, ↓reduceIte, encTE]
    rw [← hT]
    refine cI (fun h => absurd h h0) (fun _ => ?_)
    refine AW_loopW (maskG 187 [0, 3, 0, 1, 0, 0, 0, 0, 0, 0, 58, 0, 0]) (fun (i : Nat) => [(74, .int .i64 i)]) (fun i => H ++ [.cells [.str c.1.name, .bool c.1.var, .sl .none (encTs c.1.args), .sl .none (encL encSt c.2)], .cells [.str t.name, .bool t.var, .sl .none (encTs t.args), .sl .none (encP p), .sl .none (encL encBd σ)], .cells [.str zeroCh.1.name, .bool zeroCh.1.var, .sl .none (encTs zeroCh.1.args), .sl .none (encL encSt zeroCh.2)], .cells [.str zeroCh.1.name, .bool zeroCh.1.var, .sl .none (encTs zeroCh.1.args), .sl .none (encL encSt zeroCh.2)]]) (fun i => i ≤ T.length) (fun i => T.length - i) 0 (Nat.zero_le _) (by simp only [push_cast, Nat.reduceAdd, Nat.reduceSub, Nat.reduceMul, Nat.reduceLT, Nat.reduceLeDiff, Nat.reduceEqDiff, Int.reduceToNat, ↓reduceIte]) (fun i hi => ?_)
    simp only [push_cast, Nat.reduceAdd, Nat.reduceSub, Nat.reduceMul, Nat.reduceLT, Nat.reduceLeDiff, Nat.reduceEqDiff, Int.reduceToNat, ↓reduceIte]
    refine cI (fun h => ?_) (fun h => ?_)
    · refine ⟨by omega, ?_⟩
      refine cI (fun h => absurd h h0) (fun _ => ?_)
      repeat' first | refine ⟨by omega, ?_⟩ | refine cI (fun _ => ?_) (fun _ => ?_)
      exact loopW_n (i + 1) (by omega) (by omega) (by simp only [push_cast, Nat.reduceAdd, Nat.reduceSub, Nat.reduceMul, Nat.reduceLT, Nat.reduceLeDiff, Nat.reduceEqDiff, Int.reduceToNat, ↓reduceIte])
    · refine cI (fun h => absurd h h0) (fun _ => ?_)
      refine cI (fun h => absurd h h0) (fun _ => ?_)
      refine (hcc e0 h0 _).to ?_
      simp only [push_cast, Nat.reduceAdd, Nat.reduceSub, Nat.reduceMul, Nat.reduceLT, Nat.reduceLeDiff, Nat.reduceEqDiff, Int.reduceToNat, ↓reduceIte]
      refine cI (fun h => absurd h h0) (fun _ => ?_)
      refine (hcc e0 h0 _).to ?_
      simp only [push_cast, Nat.reduceAdd, Nat.reduceSub, Nat.reduceMul, Nat.reduceLT, Nat.reduceLeDiff, Nat.reduceEqDiff, Int.reduceToNat, ↓reduceIte]
      refine (alive5_ac _).to ?_
      simp only [push_cast, Nat.reduceAdd, Nat.reduceSub, Nat.reduceMul, Nat.reduceLT, Nat.reduceLeDiff, Nat.reduceEqDiff, Int.reduceToNat, ↓reduceIte]
  · have h00 : checkCP rs [c] = 0 := by rw [← he0]; simpa using h0
    obtain ⟨z1, z2, z3⟩ := termsC_of h00
    rw [inside_eq h00] at hin
    rw [instance_eq h00] at hof
    rw [h00] at hck
    have hla1 := inside_last h00 (t := t) (p := p)
    have hla2 := instance_last h00 (σ := σ)
    rw [← hT] at hin hof htl hla1 hla2
    have hTck : ∀ x, x ∈ T → checkP x = 0 := by
      obtain ⟨_, g, _⟩ := terms_chain z1 z2
      rw [hT]; exact g
    obtain ⟨one, hone⟩ : ∃ one, one = oneE t p T := ⟨_, rfl⟩
    obtain ⟨two, htwo⟩ : ∃ two, two = twoE σ T := ⟨_, rfl⟩
    rw [← hone] at hin hla1
    rw [← htwo] at hof hla2
    obtain ⟨I, hI⟩ : ∃ I : ChP × Int, I = if one ≠ 0 then (zeroCh, one) else ((putP t p c.1, putS p c.2), 0) := ⟨_, rfl⟩
    obtain ⟨O, hO⟩ : ∃ O : ChP × Int, O = if two ≠ 0 then (zeroCh, two) else ((applyP σ c.1, c.2), 0) := ⟨_, rfl⟩
    rw [← hI] at hin
    rw [← hO] at hof
    refine ACall_V (H.length) 184 [.tmp 6] Tryz.func5 rfl rfl rfl ?_
    simp only [push_cast, Nat.reduceAdd, Nat.reduceSub, Nat.reduceMul, Nat.reduceLT, Nat.reduceLeDiff, Nat.reduceEqDiff, Int.reduceToNat, ↓reduceIte]
    refine (hin _).to ?_
    simp only [push_cast, Nat.reduceAdd, Nat.reduceSub, Nat.reduceMul, Nat.reduceLT, Nat.reduceLeDiff, Nat.reduceEqDiff, Int.reduceToNat, ↓reduceIte]
    refine (hof _).to ?_
    simp only [push_cast, Nat.reduceAdd, Nat.reduceSub, Nat.reduceMul, Nat.reduceLT, Nat.reduceLeDiff, Nat.reduceEqDiff, Int.reduceToNat, ↓reduceIte]
    refine (hck _).to ?_
    simp only [push_cast, Nat.reduceAdd, Nat.reduceSub, Nat.reduceMul, Nat.reduceLT, Nat.reduceLeDiff, Nat.reduceEqDiff, Int.reduceToNat, ↓reduceIte]
    have hct := fun X => checkR_ac t (by omega) X
    have hcs := fun X => subCheckR_ac σ (by omega) hσb X
    apply AW_drawE [some 48, some 49, some 50, some 51, some 52, some 53, some 11, some 12] [([], _)] [none, none, none, none, none, none, none, none] 0 [(0, [], [5]), (1, [], [48]), (2, [], [49]), (3, [], [5]), (4, [], [51]), (5, [], [52]), (6, [], [50]), (7, [], [53])] [_, _, _, _, _, _, _, _]
    case' hm => exact dr
    case' hn => rfl
    case' hok => rfl
    case' hlen => rfl
    case' hd => rfl
    case' h0 => rfl
    case' hstep =>
     simp only [DAllG, push_cast, Option.isSome_some, Option.isSome_none]
     repeat' apply And.intro
     all_goals (apply DOne_V; simp only [push_cast, Nat.reduceAdd, Nat.reduceSub, Nat.reduceMul, Nat.reduceLT, Nat.reduceLeDiff, Nat.reduceEqDiff, Int.reduceToNat, ↓reduceIte] <;> first | exact rfl | omega | exact ⟨rfl, rfl⟩ | exact trivial | exact ⟨by omega, rfl⟩ | exact ⟨by omega, by omega, rfl⟩ | exact ⟨by omega, rfl, rfl⟩ | exact ⟨by omega, by omega, rfl, rfl⟩ | (refine (hct _).to ?_; exact ⟨rfl, rfl⟩) | (refine (hcs _).to ?_; exact ⟨rfl, rfl⟩) | trace_state)
    case' hQ => skip
    simp only [push_cast, Nat.reduceAdd, Nat.reduceSub, Nat.reduceMul, Nat.reduceLT, Nat.reduceLeDiff, Nat.reduceEqDiff, Int.reduceToNat, ↓reduceIte]
    refine (htm _).to ?_
    simp only [push_cast, Nat.reduceAdd, Nat.reduceSub, Nat.reduceMul, Nat.reduceLT, Nat.reduceLeDiff, Nat.reduceEqDiff, Int.reduceToNat, ↓reduceIte, encTE]
    rw [← hT]
    obtain ⟨L, hL⟩ : ∃ L : Nat → Int, L = fun i => if oneV t p ≠ 0 then oneV t p else firstF (putF t p) (T.take i) := ⟨_, rfl⟩
    have hL0 : L 0 = oneV t p := by
      rw [hL]; simp only [List.take_zero]
      by_cases hv : oneV t p ≠ 0
      · rw [if_pos hv]
      · rw [if_neg hv]; simp only [ne_eq, Decidable.not_not] at hv; rw [hv]; rfl
    have hLz : ∀ i, L i = 0 → oneV t p = 0 := fun i h => by
      rw [hL] at h; simp only at h
      by_cases hv : oneV t p ≠ 0
      · rw [if_pos hv] at h; exact absurd h hv
      · simpa using hv
    have hLn : ∀ i (h : i < T.length), L (i + 1) = if L i = 0 then (putF t p (T[i]'h)).2 else L i := fun i h => by
      by_cases hv : oneV t p ≠ 0
      · have e : ∀ j, L j = oneV t p := fun j => by rw [hL]; exact if_pos hv
        rw [e, e, if_neg hv]
      · have e : ∀ j, L j = firstF (putF t p) (T.take j) := fun j => by rw [hL]; exact if_neg hv
        rw [e, e]; exact firstF_snoc _ _ _ h
    have hLe : L T.length = one := by rw [hL, hone]; simp only [List.take_length]; rfl
    have hov : oneV t p = 0 → checkP t = 0 ∧ ∃ y, atP t p = some y := fun h => by
      unfold oneV at h
      by_cases h4 : checkP t ≠ 0
      · rw [if_pos h4] at h; exact absurd h h4
      · rw [if_neg h4] at h
        refine ⟨by simpa using h4, ?_⟩
        cases hq : atP t p with
        | none => rw [hq] at h; simp at h
        | some y => exact ⟨y, rfl⟩
    have hpf : ∀ x, x ∈ T → oneV t p = 0 → checkP (putP t p x) = (putF t p x).2 := fun x hx h => by
      obtain ⟨g1, y, g2⟩ := hov h
      rw [check_formed (put_formed _ _ _ _ g2 ((check_iff t).1 g1).1 ((check_iff x).1 (hTck x hx)).1)]
      exact (fitT_err _).symm
    obtain ⟨q, w, hTq, _⟩ := terms_last z2
    rw [← hT] at hTq
    have hTl : T.getLastD zeroT = w := by rw [hTq]; simp
    have hTn : T.length = q.length + 1 := by rw [hTq]; simp
    have hTw : ∀ h, T[q.length]'h = w := by intro h; simp only [hTq]; simp
    have hwck : checkP w = 0 := hTck w (by rw [hTq]; simp)
    have hws := check_small hwck
    rw [hTl] at hla1 hla2
    have hI1 : one = 0 → I = ((putP t p c.1, putS p c.2), 0) := fun h => by rw [hI, if_neg (by simpa using h)]
    have hI2 : one ≠ 0 → I = (zeroCh, one) := fun h => by rw [hI, if_pos h]
    have hO1 : two = 0 → O = ((applyP σ c.1, c.2), 0) := fun h => by rw [hO, if_neg (by simpa using h)]
    have hO2 : two ≠ 0 → O = (zeroCh, two) := fun h => by rw [hO, if_pos h]
    refine cI (fun hk => ?_) (fun hk => ?_)
    refine (atR_ac t p (by omega) (by omega) _).to ?_
    cases hat : atP t p
    have hv : (8 : Int) = L 0 := by rw [hL0]; unfold oneV; rw [if_neg (by simpa using hk), hat]; rfl
    simp only [push_cast, Nat.reduceAdd, Nat.reduceSub, Nat.reduceMul, Nat.reduceLT, Nat.reduceLeDiff, Nat.reduceEqDiff, Int.reduceToNat, ↓reduceIte]
    rotate_left
    have hv : checkP t = L 0 := by rw [hL0]; unfold oneV; rw [if_neg (by simpa using hk), hat]; simpa using hk
    simp only [push_cast, Nat.reduceAdd, Nat.reduceSub, Nat.reduceMul, Nat.reduceLT, Nat.reduceLeDiff, Nat.reduceEqDiff, Int.reduceToNat, ↓reduceIte]
    rotate_left
    have hv : checkP t = L 0 := by rw [hL0]; unfold oneV; rw [if_pos hk]
    clear hk
    rotate_left
    all_goals (
      refine AW_loopW (maskG 187 [0, 3, 0, 1, 0, 0, 0, 0, 0, 0, 58, 0, 0]) (fun (i : Nat) => [(74, .int .i64 i), (11, .int .i64 (L i))]) (fun i => H ++ [.cells [.str c.1.name, .bool c.1.var, .sl .none (encTs c.1.args), .sl .none (encL encSt c.2)], .cells [.str t.name, .bool t.var, .sl .none (encTs t.args), .sl .none (encP p), .sl .none (encL encBd σ)], .cells [.str I.1.1.name, .bool I.1.1.var, .sl .none (encTs I.1.1.args), .sl .none (encL encSt I.1.2)], .cells [.str O.1.1.name, .bool O.1.1.var, .sl .none (encTs O.1.1.args), .sl .none (encL encSt O.1.2)]]) (fun i => i ≤ T.length) (fun i => T.length - i) 0 (Nat.zero_le _) (by simp only [push_cast, Nat.reduceAdd, Nat.reduceSub, Nat.reduceMul, Nat.reduceLT, Nat.reduceLeDiff, Nat.reduceEqDiff, Int.reduceToNat, ↓reduceIte]; exact hv) (fun i hi => ?_)
      simp only [push_cast, Nat.reduceAdd, Nat.reduceSub, Nat.reduceMul, Nat.reduceLT, Nat.reduceLeDiff, Nat.reduceEqDiff, Int.reduceToNat, ↓reduceIte]
      refine cI (fun h => ?_) (fun h => ?_)
      · have hil : i < T.length := by omega
        have hn := hLn i hil
        refine ⟨hil, ?_⟩
        refine cI (fun h2 => ?_) (fun h2 => ?_)
        · have hv0 := hLz i h2
          obtain ⟨g1, y, g2⟩ := hov hv0
          have hxc := check_small (hTck _ (List.getElem_mem hil))
          have hpb := put_bulk (T[i]'hil) _ _ _ g2
          have hpe := hpf _ (List.getElem_mem hil) hv0
          rw [if_pos h2, ← hpe] at hn
          refine (putR_ac (T[i]'hil) (by omega) p t y (by omega) (by omega) g2 _).to ?_
          simp only [push_cast, Nat.reduceAdd, Nat.reduceSub, Nat.reduceMul, Nat.reduceLT, Nat.reduceLeDiff, Nat.reduceEqDiff, Int.reduceToNat, ↓reduceIte]
          refine (checkR_ac (putP t p (T[i]'hil)) (by omega) _).to ?_
          simp only [push_cast, Nat.reduceAdd, Nat.reduceSub, Nat.reduceMul, Nat.reduceLT, Nat.reduceLeDiff, Nat.reduceEqDiff, Int.reduceToNat, ↓reduceIte]
          repeat' first | refine ⟨by omega, ?_⟩ | refine cI (fun _ => ?_) (fun _ => ?_)
          exact loopW_n (i + 1) (by omega) (by omega) (by simp only [push_cast, Nat.reduceAdd, Nat.reduceSub, Nat.reduceMul, Nat.reduceLT, Nat.reduceLeDiff, Nat.reduceEqDiff, Int.reduceToNat, ↓reduceIte, hn])
        · rw [if_neg h2] at hn
          repeat' first | refine ⟨by omega, ?_⟩ | refine cI (fun _ => ?_) (fun _ => ?_)
          exact loopW_n (i + 1) (by omega) (by omega) (by simp only [push_cast, Nat.reduceAdd, Nat.reduceSub, Nat.reduceMul, Nat.reduceLT, Nat.reduceLeDiff, Nat.reduceEqDiff, Int.reduceToNat, ↓reduceIte, hn])
      · have hie : i = T.length := by omega
        rw [hie, hLe]
        have htwo2 : two = if subCheck σ ≠ 0 then subCheck σ else if large5 σ T = true then 3 else 0 := htwo
        refine cI (fun hs => ?_) (fun hs => ?_)
        refine (large_ac σ hs (by omega) (fun b hb => (hσb b hb).2) T (by omega) hTck _).to ?_
        rw [if_neg (by simpa using hs)] at htwo2
        cases hl : large5 σ T
        rw [if_neg (by rw [hl]; simp)] at htwo2
        have hzz := htwo2
        simp only [push_cast, Nat.reduceAdd, Nat.reduceSub, Nat.reduceMul, Nat.reduceLT, Nat.reduceLeDiff, Nat.reduceEqDiff, Int.reduceToNat, ↓reduceIte]
        rotate_left
        rw [if_pos hl] at htwo2
        have hw : (3 : Int) ≠ 0 := by decide
        have hcw := hcc 3 hw
        rw [hO2 (by rw [htwo2]; decide), htwo2]
        simp only [push_cast, Nat.reduceAdd, Nat.reduceSub, Nat.reduceMul, Nat.reduceLT, Nat.reduceLeDiff, Nat.reduceEqDiff, Int.reduceToNat, ↓reduceIte]
        rotate_left
        rw [if_pos hs] at htwo2
        have hcw := hcc (subCheck σ) hs
        rw [hO2 (by rw [htwo2]; exact hs), htwo2]
        rotate_left
        all_goals (
          refine cI (fun h1 => ?_) (fun h1 => ?_)
          focus (
            rw [hI1 h1]
            obtain ⟨y, g2, -, hlI⟩ := hla1 h1
            have hpb := put_bulk c.1 _ _ _ g2
            have hCB : ChB (putP t p c.1, putS p c.2) := ⟨by simp only; omega, by simp only [putS, List.length_map]; omega, fun x hx => by
              simp only [putS, List.mem_map] at hx
              obtain ⟨s, hs, rfl⟩ := hx
              have := hc3 s hs
              simp only [List.length_append]; omega⟩
            have hiR := fun X => insideR_ac c hc (by omega) (fun s hs => by have := hc3 s hs; omega) t (by omega) p (by omega) y g2 X
            have hch := fun X => chain5_ac (putP t p c.1, putS p c.2) 0 (putP t p c.1, putS p c.2) 0 hCB hCB X
            rw [isCh_self (putP t p c.1, putS p c.2) (putP t p c.1, putS p c.2) 0 (by rw [if_pos rfl])] at hch
            apply AW_drawE [some 104, some 105, some 106, some 107, some 108, some 109, some 110, some 111, some 112, some 113] [([], _)] [none, none, none, none, none, none, none, none, none, none] 0 [(0, [], [7]), (1, [], [8]), (2, [], [4]), (3, [], [5]), (4, [], [107]), (5, [], [5]), (6, [], [109]), (7, [], [106, 1, 1]), (8, [], [104, 0, 5]), (9, [], [112])] [_, _, _, _, _, _, _, _, _, _]
            case' hm => exact dr
            case' hn => rfl
            case' hok => rfl
            case' hlen => rfl
            case' hd => rfl
            case' h0 => rfl
            case' hstep =>
             simp only [DAllG, push_cast, Option.isSome_some, Option.isSome_none]
             repeat' apply And.intro
             all_goals (apply DOne_V; simp only [push_cast, Nat.reduceAdd, Nat.reduceSub, Nat.reduceMul, Nat.reduceLT, Nat.reduceLeDiff, Nat.reduceEqDiff, Int.reduceToNat, ↓reduceIte, Bool.not_true] <;> first | exact rfl | omega | exact ⟨rfl, rfl⟩ | exact trivial | exact ⟨by omega, rfl⟩ | exact ⟨by omega, by omega, rfl⟩ | exact ⟨by omega, rfl, rfl⟩ | exact ⟨by omega, by omega, rfl, rfl⟩ | (refine (hiR _).to ?_; exact ⟨rfl, rfl⟩) | (refine (hch _).to ?_; exact ⟨rfl, rfl⟩) | trace_state)
            case' hQ => skip
            simp only [push_cast, Nat.reduceAdd, Nat.reduceSub, Nat.reduceMul, Nat.reduceLT, Nat.reduceLeDiff, Nat.reduceEqDiff, Int.reduceToNat, ↓reduceIte])
          rotate_left
          rw [hI2 h1]
          refine (hcc one h1 _).to ?_
          simp only [push_cast, Nat.reduceAdd, Nat.reduceSub, Nat.reduceMul, Nat.reduceLT, Nat.reduceLeDiff, Nat.reduceEqDiff, Int.reduceToNat, ↓reduceIte]
          rotate_left)
        all_goals first
          | (refine cI (fun h => absurd h (by first | exact hs | decide)) (fun _ => ?_)
             refine (hcw _).to ?_
             simp only [push_cast, Nat.reduceAdd, Nat.reduceSub, Nat.reduceMul, Nat.reduceLT, Nat.reduceLeDiff, Nat.reduceEqDiff, Int.reduceToNat, ↓reduceIte]
             refine (alive5_ac _).to ?_
             simp only [push_cast, Nat.reduceAdd, Nat.reduceSub, Nat.reduceMul, Nat.reduceLT, Nat.reduceLeDiff, Nat.reduceEqDiff, Int.reduceToNat, ↓reduceIte]
             done)
          | skip
        all_goals (
          refine cI (fun _ => ?_) (fun h => absurd hs h)
          obtain ⟨-, hlO⟩ := hla2 hzz
          have hcA := hTck c.1 (List.mem_of_mem_head? (by rw [hT]; exact terms_head z2))
          have hiA := inst_size hs hcA
          have hiW := inst_size hs hwck
          have hOB : ChB (applyP σ c.1, c.2) := ⟨by simp only; omega, hc.2.1, hc.2.2⟩
          have hap := fun X => applyR_ac σ (by omega) c.1 (by omega) X
          have hcO := fun X => chain5_ac (applyP σ c.1, c.2) 0 (applyP σ c.1, c.2) 0 hOB hOB X
          rw [isCh_self (applyP σ c.1, c.2) (applyP σ c.1, c.2) 0 (by rw [if_pos rfl])] at hcO
          rw [hO1 hzz]
          apply AW_drawE [some 124, some 125, some 126, some 127, some 128, some 129, some 130, some 131, some 132, some 133, some 134, some 135] [([], _)] [none, none, none, none, none, none, none, none, none, none, none, none] 0 [(0, [], [9]), (1, [], [10]), (2, [], [5]), (3, [], [126]), (4, [], [4]), (5, [], [128]), (6, [], [127, 1]), (7, [], [4]), (8, [], [131]), (9, [], [130, 1]), (10, [], [124, 0, 7]), (11, [], [134])] [_, _, _, _, _, _, _, _, _, _, _, _]
          case' hm => exact dr
          case' hn => rfl
          case' hok => rfl
          case' hlen => rfl
          case' hd => rfl
          case' h0 => rfl
          case' hstep =>
           simp only [DAllG, push_cast, Option.isSome_some, Option.isSome_none]
           repeat' apply And.intro
           all_goals (apply DOne_V; simp only [push_cast, Nat.reduceAdd, Nat.reduceSub, Nat.reduceMul, Nat.reduceLT, Nat.reduceLeDiff, Nat.reduceEqDiff, Int.reduceToNat, ↓reduceIte, Bool.not_true] <;> first | exact rfl | omega | exact ⟨rfl, rfl⟩ | exact trivial | exact ⟨by omega, rfl⟩ | exact ⟨by omega, by omega, rfl⟩ | exact ⟨by omega, rfl, rfl⟩ | exact ⟨by omega, by omega, rfl, rfl⟩ | (refine (hap _).to ?_; exact ⟨rfl, rfl⟩) | (refine (hcO _).to ?_; exact ⟨rfl, rfl⟩) | trace_state)
          case' hQ => skip
          simp only [push_cast, Nat.reduceAdd, Nat.reduceSub, Nat.reduceMul, Nat.reduceLT, Nat.reduceLeDiff, Nat.reduceEqDiff, Int.reduceToNat, ↓reduceIte]
          refine (dlast_ac rs hlen hb (applyP σ c.1, c.2) hOB.1 hOB.2.1 hOB.2.2 _).to ?_
          rw [hlO]
          simp only [push_cast, Nat.reduceAdd, Nat.reduceSub, Nat.reduceMul, Nat.reduceLT, Nat.reduceLeDiff, Nat.reduceEqDiff, Int.reduceToNat, ↓reduceIte, encRE]
          have hqi : (T.length : Int) - 1 = ((q.length : Nat) : Int) := by omega
          have hapW := fun X => applyR_ac σ (by omega) w (by omega) X
          have heqW := fun X => equalR_ac (applyP σ w) (applyP σ w) (by omega) (by omega) X
          rw [decide_eq_true (rfl : applyP σ w = applyP σ w)] at heqW
          apply AW_drawE [some 142, some 143, some 144, some 145, some 146, some 147, some 148, some 149, some 150, some 151, some 152, some 153, some 154, some 155, some 156, some 157] [([], _)] [none, none, none, none, none, none, none, none, none, none, none, none, none, none, none, none] 0 [(0, [], [20]), (1, [], [142]), (2, [], [143]), (3, [], [19, 124]), (4, [], [5, 138]), (5, [], [144, 1]), (6, [], [13, 130]), (7, [], [13, 130]), (8, [], [144, 4]), (9, [], [144, 5]), (10, [], [144, 3, 2]), (11, [], [144, 7]), (12, [], [144, 2, 5]), (13, [], [144, 0, 8]), (14, [], [144, 10]), (15, [], [144, 11])] [_, _, _, _, _, _, _, _, _, _, _, _, _, _, _, _]
          case' hm => exact dr
          case' hn => rfl
          case' hok => rfl
          case' hlen => rfl
          case' hd => rfl
          case' h0 => rfl
          case' hstep =>
           simp only [DAllG, push_cast, Option.isSome_some, Option.isSome_none]
           repeat' apply And.intro
           all_goals (apply DOne_V; simp only [push_cast, Nat.reduceAdd, Nat.reduceSub, Nat.reduceMul, Nat.reduceLT, Nat.reduceLeDiff, Nat.reduceEqDiff, Int.reduceToNat, ↓reduceIte, hqi, hTw, Bool.not_true] <;> first | exact rfl | omega | exact ⟨rfl, rfl⟩ | exact trivial | exact ⟨by omega, rfl⟩ | exact ⟨by omega, by omega, rfl⟩ | exact ⟨by omega, rfl, rfl⟩ | exact ⟨by omega, by omega, rfl, rfl⟩ | (refine (hapW _).to ?_; exact ⟨rfl, rfl⟩) | (refine (heqW _).to ?_; exact ⟨rfl, rfl⟩) | exact ⟨⟨by omega, by omega⟩, rfl⟩ | exact ⟨by omega, rfl⟩ | exact ⟨by omega, trivial⟩ | trace_state)
          case' hQ => skip
          simp only [push_cast, Nat.reduceAdd, Nat.reduceSub, Nat.reduceMul, Nat.reduceLT, Nat.reduceLeDiff, Nat.reduceEqDiff, Int.reduceToNat, ↓reduceIte]
          refine cI (fun h2 => ?_) (fun _ => ?_)
          focus first
            | exact absurd h2 h1
            | (obtain ⟨y, g2, -, hlI⟩ := hla1 h2
               have hpb := put_bulk c.1 _ _ _ g2
               have hpw := put_bulk w _ _ _ g2
               refine (dlast_ac rs hlen hb (putP t p c.1, putS p c.2) (by simp only; omega) (by simp only [putS, List.length_map]; omega) (fun x hx => by
                 simp only [putS, List.mem_map] at hx
                 obtain ⟨s, hs, rfl⟩ := hx
                 have := hc3 s hs
                 simp only [List.length_append]; omega) _).to ?_
               rw [hlI]
               simp only [push_cast, Nat.reduceAdd, Nat.reduceSub, Nat.reduceMul, Nat.reduceLT, Nat.reduceLeDiff, Nat.reduceEqDiff, Int.reduceToNat, ↓reduceIte, encRE]
               have hpW := fun X => putR_ac w (by omega) p t y (by omega) (by omega) g2 X
               have hqP := fun X => equalR_ac (putP t p w) (putP t p w) (by omega) (by omega) X
               rw [decide_eq_true (rfl : putP t p w = putP t p w)] at hqP
               have hal := fun X => alive5_ac X
               apply AW_drawE [some 167, some 168, some 169, some 170, some 171, some 172, some 173, some 174, some 175, some 176, some 177, some 178, some 179, some 180, some 181, some 182, some 183, some 184, some 185, some 186, some 6] [([], _)] [none, none, none, none, none, none, none, none, none, none, none, none, none, none, none, none, none, none, none, none, none] 0 [(0, [], [22]), (1, [], [167]), (2, [], [168]), (3, [], [21, 147]), (4, [], [5, 163]), (5, [], [169, 1]), (6, [], [5, 163]), (7, [], [169, 3]), (8, [], [13, 155]), (9, [], [13, 155]), (10, [], [169, 6]), (11, [], [169, 7]), (12, [], [169, 5, 2]), (13, [], [169, 9]), (14, [], [169, 2, 1, 5]), (15, [], [169, 0, 10]), (16, [], [169, 12]), (17, [], [183]), (18, [], [184]), (19, [], [184, 0]), (20, [], [186])] [_, _, _, _, _, _, _, _, _, _, _, _, _, _, _, _, _, _, _, _, _]
               case' hm => exact dr
               case' hn => rfl
               case' hok => rfl
               case' hlen => rfl
               case' hd => rfl
               case' h0 => rfl
               case' hstep =>
                simp only [DAllG, push_cast, Option.isSome_some, Option.isSome_none]
                repeat' apply And.intro
                all_goals (apply DOne_V; simp only [push_cast, Nat.reduceAdd, Nat.reduceSub, Nat.reduceMul, Nat.reduceLT, Nat.reduceLeDiff, Nat.reduceEqDiff, Int.reduceToNat, ↓reduceIte, hqi, hTw, Bool.not_true] <;> first | exact rfl | omega | exact ⟨rfl, rfl⟩ | exact trivial | exact ⟨by omega, rfl⟩ | exact ⟨by omega, by omega, rfl⟩ | exact ⟨by omega, rfl, rfl⟩ | exact ⟨by omega, by omega, rfl, rfl⟩ | (refine (hpW _).to ?_; exact ⟨rfl, rfl⟩) | (refine (hqP _).to ?_; exact ⟨rfl, rfl⟩) | (refine (hal _).to ?_; exact ⟨rfl, rfl⟩) | exact ⟨⟨by omega, by omega⟩, rfl⟩ | exact ⟨by omega, rfl⟩ | exact ⟨by omega, trivial⟩ | trace_state)
               case' hQ => skip
               simp only [push_cast, Nat.reduceAdd, Nat.reduceSub, Nat.reduceMul, Nat.reduceLT, Nat.reduceLeDiff, Nat.reduceEqDiff, Int.reduceToNat, ↓reduceIte])
          refine (alive5_ac _).to ?_
          simp only [push_cast, Nat.reduceAdd, Nat.reduceSub, Nat.reduceMul, Nat.reduceLT, Nat.reduceLeDiff, Nat.reduceEqDiff, Int.reduceToNat, ↓reduceIte]))
end Ab
set_option maxRecDepth 10000
namespace Go.Proofs.YtpgjcbeoipldgaaGreat
open Go Ab
namespace dli
theorem own : ownKnob Tryz.prog.godebug = none := by kernel_rfl
theorem laid : laidOutB Tryz.prog = true := by kernel_rfl
theorem readable : ∀ t, t ∈ Tryz.f5.params.toList → Tryz.prog.readableRec t = true ∧ t < Tryz.prog.types.size := by
  rw [Tryz.params5]; intro t ht
  simp only [List.mem_cons, List.not_mem_nil, or_false] at ht
  rcases ht with rfl | rfl | rfl <;> exact ⟨by kernel_rfl, of_decide_eq_true (by kernel_rfl)⟩
theorem closed : closedK Tryz.prog [22, 94, 25, 9, 4, 23, 28, 26, 86, 3, 48, 51, 49, 107] = true := by kernel_rfl
theorem contract (H : Type) (enc : TypeId × Value → H) (W : World) (base : Nat) (args : Array Value) (ds gs : List (DataW H)) (before : List MemPlace)
    (hval : ∀ (j : Nat) t v, Tryz.f5.params[j]? = some t → args[j]? = some v → Value.okWide Tryz.prog W .any base t v)
    (hW : DataW.Whole enc Tryz.prog Tryz.f5.params.toList Rows.deriveLiftsSpec.vars false W args.toList ds gs before) (hk : Rows.uptoSmall H (ds ++ gs) = true) :
    Calls Tryz.prog 5 args W fun e W' => ∃ v, e = .returned v ∧ Rows.deriveLiftsSpec.post enc Tryz.prog Tryz.f5 false true false false W args v W' := by
  have hW' := hW
  obtain ⟨p, q, hA0, hV, rfl, hfz, hnd⟩ := hW
  have hA : DataW.TrodAll enc Tryz.prog W 0 (fun _ => true) true Tryz.f5.params.toList args.toList ds p := hA0
  rw [Tryz.params5] at hA hval
  obtain ⟨v0, vs0, d0, ds0, p0, q0, hargs, rfl, rfl, h0, r0⟩ := ChangeShapes.trodAll_cons hA
  obtain ⟨v1, vs1, d1, ds1, p1, q1, rfl, rfl, rfl, h1, r1⟩ := ChangeShapes.trodAll_cons r0
  obtain ⟨v2, vs2, d2, ds2, p2, q2, rfl, rfl, rfl, h2, r2⟩ := ChangeShapes.trodAll_cons r1
  obtain ⟨rfl, rfl, rfl⟩ := ChangeShapes.trodAll_nil r2
  obtain rfl : args = #[v0, v1, v2] := by cases args; simp_all
  have hg : gs = [] := by cases gs with | nil => rfl | cons _ _ => exact hV.elim
  subst hg
  have hb : Rows.uptoBulk d0 + Rows.uptoBulk d1 + Rows.uptoBulk d2 ≤ 1048576 := by
    have := of_decide_eq_true hk
    simp only [List.cons_append, List.nil_append, List.append_nil, Rows.uptoBulkAll] at this
    omega
  obtain ⟨n0, a0, e0, x0⟩ := arg_slice closed (by decide) Tryz.underlying22 (hval 0 _ v0 rfl rfl) h0
  obtain ⟨n1, a1, e1, x1⟩ := arg_struct closed (by decide) Tryz.underlying28 (hval 1 _ v1 rfl rfl) h1
  obtain ⟨n2, a2, e2, x2⟩ := arg_struct closed (by decide) Tryz.underlying51 (hval 2 _ v2 rfl rfl) h2
  obtain ⟨rs, f0, b0, c0⟩ := rules_form n0 d0 [a0] e0
  obtain ⟨c, f1, b1, l1, c1⟩ := chain_form n1 d1 a1 e1
  obtain ⟨t, p, σ, f2, b2, l2, l3, c2⟩ := lift_form n2 d2 a2 e2
  try simp only [List.cons.injEq, and_true] at f0
  rw [f0] at x0; rw [f1] at x1; rw [f2] at x2
  have hc := law_calls (args := #[v0, v1, v2]) (avs := [.sl .none (encL encRu rs), encCh c, .agg [.str t.name, .bool t.var, .sl .none (encTs t.args), .sl .none (encP p), .sl .none (encL encBd σ)]]) (W := W) (liftsLaw_ac rs (by omega) (fun r hr => by have := c0 r hr; omega) c ⟨by omega, by omega, fun x hx => by have := c1 x hx; omega⟩ (by omega) (by omega) (fun x hx => by have := c1 x hx; omega) t (by omega) p (by omega) σ (by omega) (fun b hb => by have := c2 b hb; omega) []) (fun h => by simp [tabOn] at h) rfl (fun i hi hi' => by
    match i, hi with
    | 0, _ => exact x0
    | 1, _ => exact x1
    | 2, _ => exact x2)
  refine hc.mono fun e W' ⟨he, hbl⟩ => ?_
  subst he
  exact ⟨_, rfl, post_law rfl ⟨rfl, rfl, rfl⟩ hW' hbl rfl Tryz.underlying4 laid readable⟩
set_option maxRecDepth 100000 in
theorem lifted (os : Os) (started : os.Started) (H : Type) (enc : TypeId × Value → H) (F : Stop.Interp) :
    ReturnsInHanded {} Tryz.checked os 5 .any ((Rows.OpenSpec.upto Rows.deriveLiftsSpec).pre6 enc Tryz.prog Tryz.f5 Rows.deriveLiftsUptoRow.domain false) (((Rows.OpenSpec.upto Rows.deriveLiftsSpec).at F).post enc Tryz.prog Tryz.f5 false true false false) := by
  refine returnsInHanded_of_cond (C := Tryz.checked) (s := Rows.OpenSpec.upto Rows.deriveLiftsSpec) (k := Rows.uptoSmall) rfl own started (by kernel_rfl) Tryz.func5
    (OpenSpec.witness (enc := enc) (C := Tryz.checked) (s := Rows.OpenSpec.upto Rows.deriveLiftsSpec) (k := Rows.uptoSmall) rfl false
      ⟨#[], #[.slice none 0 0, .agg #[.string ⟨#[]⟩, .bool false, .slice none 0 0, .slice none 0 0], .agg #[.string ⟨#[]⟩, .bool false, .slice none 0 0, .slice none 0 0, .slice none 0 0]], []⟩ 8 (by kernel_rfl) (by kernel_rfl) (by kernel_rfl)
      (x := ([.nil, .agg [.agg [.lit (.string []), .lit (.bool false), .nil], .nil], .agg [.agg [.lit (.string []), .lit (.bool false), .nil], .nil, .nil]], [], [])) (by kernel_rfl) rfl (by kernel_rfl)) ?_
  intro W base args ds gs before hval hW _ hk _
  exact contract H enc W base args ds gs before hval hW hk
theorem over : Rows.deriveLiftsUptoRow.holds Tryz.pinned (Rows.OpenSpec.upto Rows.deriveLiftsSpec) :=
  OpenClaim.holds_of_cond 5 Tryz.f5 rfl rfl rfl rfl rfl rfl rfl ⟨rfl, rfl, rfl, rfl, rfl⟩ rfl rfl rfl rfl rfl (by kernel_rfl) Tryz.func5 (by kernel_rfl)
    (of_decide_eq_true (by kernel_rfl)) (by unfold Func.isWrapper; first | (rw [if_pos (by decide +kernel)]; kernel_rfl) | (rw [if_neg (by decide +kernel)]; exact ⟨rfl, rfl⟩))
    (fun os started H enc _ F => lifted os started H enc F)
end dli
theorem deriveLifts_upto : Rows.DeriveLiftsUptoSaid := dli.over
end Go.Proofs.YtpgjcbeoipldgaaGreat
