/- Part 6 of 6 of a proof. The law DeriveJoins holds: for all systems and derivations that are not larger than the statement's bound, the function returns true. -/
import Derived.Test.YtpgjcbeoipldgaaGreatRb5
set_option linter.unusedVariables false
set_option linter.unusedSimpArgs false
set_option maxRecDepth 100000
namespace Ab
open Go Go.Proofs
@[reducible] def lgL (H : List AObj) (l0 l1 l2 : Int) : List AObj :=
  [.tok 3 1 2, .tok 3 1 1, .dead, .cells [.str dxA.name, .bool dxA.var, .sl .none (encTs dxA.args)], .cells [.sl .none (encTs dxG.ts), .sl .none (encL encE dxG.es), .bool true],
   .cells [.sl (.own H.length) [.int .i64 1, .int .i64 2], .sl (.own (H.length + 1)) [.int .i64 0], .sl .zero []], .cells [.arr (H.length + 5) 0 3],
   .cells [.int .i64 l0, .int .i64 l1, .int .i64 l2], .cells [.arr (H.length + 7) 0 3], .cells [.fn 84 [.ptr (H.length + 8) 0, .ptr (H.length + 6) 0, .ptr (H.length + 9) 0]]]
theorem osc_lgL (n : Nat) (H : List AObj) (l0 l1 l2 : Int) (hn : H.length + 10 ≤ n) : ∀ o, o ∈ lgL H l0 l1 l2 → OScoped n o := by
  intro o ho
  simp only [List.mem_cons, List.not_mem_nil, or_false] at ho
  rcases ho with rfl | rfl | rfl | rfl | rfl | rfl | rfl | rfl | rfl | rfl
  · exact trivial
  · exact trivial
  · exact trivial
  · exact ⟨trivial, trivial, scoped_encTs _ dxA.args, trivial⟩
  · exact ⟨scoped_encTs _ dxG.ts, of_eq_true (scopedE _ dxG.es), trivial, trivial⟩
  · simp [OScoped, ScopedL, Scoped]; omega
  · simp [OScoped, ScopedL, Scoped]; omega
  · simp [OScoped, ScopedL, Scoped]
  · simp [OScoped, ScopedL, Scoped]; omega
  · simp [OScoped, ScopedL, Scoped]; omega
theorem ok_lg (H : List AObj) (a0 a1 a2 b0 b1 b2 : Int) : OutOk (H ++ lgL H a0 a1 a2) (H ++ lgL H b0 b1 b2) (H.length + 10) := by
  have h := outok_ex (H := H) (L := lgL H a0 a1 a2) (L' := lgL H b0 b1 b2) (Y := []) (m := H.length + 10) rfl rfl (fun i o h => .inr (osc_lgL _ H b0 b1 b2 (Nat.le_refl _) o (List.mem_of_getElem? h)))
  simpa using h
theorem visit0_ac (H : List AObj) : ACall Tryz.prog 84 [.int .i64 0, .ptr (H.length + 8) 0, .ptr (H.length + 6) 0, .ptr (H.length + 9) 0] (H ++ lgL H (-1) (-1) 0) (fun r H' => r = .bool false ∧ H' = H ++ lgL H (-1) (-1) 0) := by
  refine ACall_V (H.length + 10) 43 [.tmp 5] Tryz.func84 rfl rfl rfl ?_
  simp only [push_cast, Nat.reduceAdd, Nat.reduceSub, Nat.reduceMul, Nat.reduceLT, Nat.reduceLeDiff, Nat.reduceEqDiff, Int.reduceToNat, ↓reduceIte]
  refine ⟨by decide, cI (fun h => absurd h (by decide)) (fun _ => ?_)⟩
  exact ⟨by decide, ok_lg H _ _ _ _ _ _, by decide⟩
theorem visit1_ac (H : List AObj) : ACall Tryz.prog 84 [.int .i64 1, .ptr (H.length + 8) 0, .ptr (H.length + 6) 0, .ptr (H.length + 9) 0] (H ++ lgL H (-1) 0 0) (fun r H' => r = .bool false ∧ H' = H ++ lgL H (-1) (-1) 0) := by
  refine ACall_V (H.length + 10) 43 [.tmp 5] Tryz.func84 rfl rfl rfl ?_
  simp only [push_cast, Nat.reduceAdd, Nat.reduceSub, Nat.reduceMul, Nat.reduceLT, Nat.reduceLeDiff, Nat.reduceEqDiff, Int.reduceToNat, ↓reduceIte]
  refine ⟨by decide, by decide, by decide, ?_⟩
  refine AW_loopW (maskG 47 [0, 0, 1, 2, 18, 0, 0]) (fun (_ : Unit) => [(27, .int .i64 0), (6, .int .i64 0)]) (fun _ => H ++ lgL H (-1) (-1) 0) (fun _ => True) (fun _ => 0) () trivial (by simp only [push_cast, Nat.reduceAdd, Nat.reduceSub, Nat.reduceMul, Nat.reduceLT, Nat.reduceLeDiff, Nat.reduceEqDiff, Int.reduceToNat, ↓reduceIte]; exact ok_lg H _ _ _ _ _ _) (fun _ _ => ?_)
  simp only [push_cast, Nat.reduceAdd, Nat.reduceSub, Nat.reduceMul, Nat.reduceLT, Nat.reduceLeDiff, Nat.reduceEqDiff, Int.reduceToNat, ↓reduceIte]
  refine cI (fun _ => ?_) (fun h => absurd h (by decide))
  refine ⟨by simp [Uni, AV.cells], by decide, by decide, ?_⟩
  refine (visit0_ac H).to ?_
  simp only [push_cast, Nat.reduceAdd, Nat.reduceSub, Nat.reduceMul, Nat.reduceLT, Nat.reduceLeDiff, Nat.reduceEqDiff, Int.reduceToNat, ↓reduceIte]
  exact ok_lg H _ _ _ _ _ _
theorem visit2_ac (H : List AObj) : ACall Tryz.prog 84 [.int .i64 0, .ptr (H.length + 8) 0, .ptr (H.length + 6) 0, .ptr (H.length + 9) 0] (H ++ lgL H 0 0 0) (fun r H' => r = .bool false ∧ H' = H ++ lgL H (-1) (-1) 0) := by
  refine ACall_V (H.length + 10) 43 [.tmp 5] Tryz.func84 rfl rfl rfl ?_
  simp only [push_cast, Nat.reduceAdd, Nat.reduceSub, Nat.reduceMul, Nat.reduceLT, Nat.reduceLeDiff, Nat.reduceEqDiff, Int.reduceToNat, ↓reduceIte]
  refine ⟨by decide, by decide, by decide, ?_⟩
  refine AW_loopW (maskG 47 [0, 0, 1, 2, 18, 0, 0]) (fun (_ : Unit) => [(27, .int .i64 0), (6, .int .i64 0)]) (fun _ => H ++ lgL H (-1) 0 0) (fun _ => True) (fun _ => 0) () trivial (by simp only [push_cast, Nat.reduceAdd, Nat.reduceSub, Nat.reduceMul, Nat.reduceLT, Nat.reduceLeDiff, Nat.reduceEqDiff, Int.reduceToNat, ↓reduceIte]; exact ok_lg H _ _ _ _ _ _) (fun _ _ => ?_)
  simp only [push_cast, Nat.reduceAdd, Nat.reduceSub, Nat.reduceMul, Nat.reduceLT, Nat.reduceLeDiff, Nat.reduceEqDiff, Int.reduceToNat, ↓reduceIte]
  refine cI (fun _ => ?_) (fun h => absurd h (by decide))
  refine ⟨by simp [Uni, AV.cells], by decide, by decide, ?_⟩
  refine (visit1_ac H).to ?_
  simp only [push_cast, Nat.reduceAdd, Nat.reduceSub, Nat.reduceMul, Nat.reduceLT, Nat.reduceLeDiff, Nat.reduceEqDiff, Int.reduceToNat, ↓reduceIte]
  exact ok_lg H _ _ _ _ _ _
theorem dx_get : (∀ h, dxG.es[0]'h = ⟨0, 1, (0, [])⟩) ∧ (∀ h, dxG.es[1]'h = ⟨0, 2, (1, [])⟩) ∧ (∀ h, dxG.es[2]'h = ⟨1, 0, (2, [])⟩) := ⟨fun _ => rfl, fun _ => rfl, fun _ => rfl⟩
def nxF (i : Nat) (k : Int) : List Int := ((dxG.es.take i).filter fun e => decide (e.fr = k)).map (·.to)
theorem nx_0 : nxF 0 0 = [] ∧ nxF 0 1 = [] ∧ nxF 1 0 = [1] ∧ nxF 1 1 = [] ∧ nxF 2 0 = [1, 2] ∧ nxF 2 1 = [] ∧ nxF 3 0 = [1, 2] ∧ nxF 3 1 = [0] := by decide
set_option maxHeartbeats 2000000 in
theorem longestX_ac (H : List AObj) : ACall Tryz.prog 38 [.sl .none (encL encRu dxR), encT dxA, .int .i64 10] H (fun r H' => r = .tup [.int .i64 0, .bool false, .int .i64 0] ∧ H' = H) := by
  have hex := fun X => exploreX_ac dxR (by rw [dx_B.2.1]; decide) dx_B.1 dxA (by rw [dx_B.2.2]; decide) 10 X
  rw [dx_exE] at hex
  have hts : dxG.ts.length = 3 := rfl
  have hes : dxG.es.length = 3 := rfl
  have hwh : dxG.wh = true := rfl
  obtain ⟨g0, g1, g2⟩ := dx_get
  refine ACall_VA (H.length) 65 [.tmp 6, .tmp 7, .tmp 8] Tryz.func38 rfl rfl rfl ?_
  refine AW_reserve 3 ?_
  refine AW_of_W ?_
  simp only [push_cast, Nat.reduceAdd, Nat.reduceSub, Nat.reduceMul, Nat.reduceLT, Nat.reduceLeDiff, Nat.reduceEqDiff, Int.reduceToNat, ↓reduceIte]
  refine (hex _).to ?_
  simp only [push_cast, Nat.reduceAdd, Nat.reduceSub, Nat.reduceMul, Nat.reduceLT, Nat.reduceLeDiff, Nat.reduceEqDiff, Int.reduceToNat, ↓reduceIte, encGE, hts, hes, hwh]
  refine AOp_make1 3 _ _ _ rfl rfl sl121 sz48 by48 zr48 rfl (by decide) (by decide) ?_
  simp only [push_cast, Nat.reduceAdd, Nat.reduceSub, Nat.reduceMul, Nat.reduceLT, Nat.reduceLeDiff, Nat.reduceEqDiff, Int.reduceToNat, ↓reduceIte]
  have hencP : ∀ l : List Int, encL (fun i : Int => AV.int .i64 i) l = encP l := fun _ => rfl
  refine AW_loopW (maskG 68 [9, 1, 24, 0, 0]) (fun (i : Nat) => [(38, .int .i64 i)]) (fun i => H ++ [gTok 3 1 (encP (nxF i 0)), gTok 3 1 (encP (nxF i 1)), .dead, .cells [.str dxA.name, .bool dxA.var, .sl .none (encTs dxA.args)], .cells [.sl .none (encTs dxG.ts), .sl .none (encL encE dxG.es), .bool true], .cells [gSl H.length (encP (nxF i 0)), gSl (H.length + 1) (encP (nxF i 1)), .sl .zero []], .cells [.arr (H.length + 5) 0 3]]) (fun i => i ≤ 3) (fun i => 3 - i) 0 (Nat.zero_le _) (by simp only [push_cast, Nat.reduceAdd, Nat.reduceSub, Nat.reduceMul, Nat.reduceLT, Nat.reduceLeDiff, Nat.reduceEqDiff, Int.reduceToNat, ↓reduceIte, nx_0.1, nx_0.2.1]; first | done | rfl) (fun i hi => ?_)
  obtain ⟨a1, a2, a3, a4, a5, a6, a7, a8⟩ := nx_0
  simp only [push_cast, Nat.reduceAdd, Nat.reduceSub, Nat.reduceMul, Nat.reduceLT, Nat.reduceLeDiff, Nat.reduceEqDiff, Int.reduceToNat, ↓reduceIte, hes]
  refine cI (fun h => ?_) (fun h => ?_)
  · match i, hi, h with
    | 0, _, _ =>
      refine ⟨by decide, ?_⟩
      simp only [push_cast, Nat.reduceAdd, Nat.reduceSub, Nat.reduceMul, Nat.reduceLT, Nat.reduceLeDiff, Nat.reduceEqDiff, Int.reduceToNat, ↓reduceIte, g0]
      apply AW_drawE [some 42, some 43, some 44, some 45, some 46, some 47, some 48, some 49, some 50, some 51, some 52, some 53, some 54, none] [([false, false], _), ([true, false], _), ([true, true], _)] [none, none, none, none, none, none, none, none, none, none, none, some 0, none, some 1] 2 [(0, [false, false], [11]), (1, [false, false], [13]), (2, [false, false], [43]), (3, [false, false], [11]), (4, [false, false], [13]), (5, [false, false], [46]), (6, [false, false], [45, 1]), (7, [false, false], [48]), (8, [false, false], [13]), (9, [false, false], [50]), (10, [false, false], [51]), (11, [false, false], [49, 2]), (12, [true, false], [42, 1]), (13, [true, false], [53, 0]), (0, [true, false], [11]), (1, [true, false], [13]), (2, [true, false], [43]), (3, [true, false], [11]), (4, [true, false], [13]), (5, [true, false], [46]), (6, [true, false], [45, 1]), (8, [true, false], [13]), (9, [true, false], [50])] [_, _, _, _, _, _, _, _, _, _, _, _, _, _]
      case' hm => exact dr
      case' hn => rfl
      case' hok => rfl
      case' hlen => rfl
      case' hd => rfl
      case' h0 => rfl
      case' hstep =>
       simp only [DAllG, push_cast, Option.isSome_some, Option.isSome_none]
       repeat' apply And.intro
       all_goals (apply DOne_V; simp only [push_cast, Nat.reduceAdd, Nat.reduceSub, Nat.reduceMul, Nat.reduceLT, Nat.reduceLeDiff, Nat.reduceEqDiff, Int.reduceToNat, ↓reduceIte] <;> first | exact rfl | omega | exact ⟨rfl, rfl⟩ | exact trivial | exact ⟨by omega, rfl⟩ | exact ⟨by omega, by omega, rfl⟩ | exact ⟨by omega, rfl, rfl⟩ | exact ⟨by omega, by omega, rfl, rfl⟩ | (refine app1_L (fun i : Int => AV.int .i64 i) (sz := 1) (fun _ => rfl) (by intro x c hc; simp [AV.cells] at hc; subst hc; rfl) _ H.length (nxF 0 0) 1 _ rfl rfl (by exact aget0 _ _ _) sl48 sz3 by3 zr3 rfl (by decide) (by decide) (by decide) ?_; exact ⟨rfl, rfl⟩) | exact ⟨by decide, by decide, rfl⟩)
      case' hQ => skip
      have e : nxF 0 0 ++ [1] = nxF 1 0 := by decide
      rw [e, hencP]
      simp only [push_cast, Nat.reduceAdd, Nat.reduceSub, Nat.reduceMul, Nat.reduceLT, Nat.reduceLeDiff, Nat.reduceEqDiff, Int.reduceToNat, ↓reduceIte]
      repeat' first | refine ⟨by omega, ?_⟩ | refine cI (fun _ => ?_) (fun _ => ?_)
      refine loopW_n 1 (by omega) (by omega) ?_
      rw [show nxF 1 1 = nxF 0 1 by decide]
      simp only [push_cast, Nat.reduceAdd, Nat.reduceSub, Nat.reduceMul, Nat.reduceLT, Nat.reduceLeDiff, Nat.reduceEqDiff, Int.reduceToNat, ↓reduceIte]
    | 1, _, _ =>
      refine ⟨by decide, ?_⟩
      simp only [push_cast, Nat.reduceAdd, Nat.reduceSub, Nat.reduceMul, Nat.reduceLT, Nat.reduceLeDiff, Nat.reduceEqDiff, Int.reduceToNat, ↓reduceIte, g1]
      apply AW_drawE [some 42, some 43, some 44, some 45, some 46, some 47, some 48, some 49, some 50, some 51, some 52, some 53, some 54, none] [([false, false], _), ([true, false], _), ([true, true], _)] [none, none, none, none, none, none, none, none, none, none, none, some 0, none, some 1] 2 [(0, [false, false], [11]), (1, [false, false], [13]), (2, [false, false], [43]), (3, [false, false], [11]), (4, [false, false], [13]), (5, [false, false], [46]), (6, [false, false], [45, 1]), (7, [false, false], [48]), (8, [false, false], [13]), (9, [false, false], [50]), (10, [false, false], [51]), (11, [false, false], [49, 2]), (12, [true, false], [42, 1]), (13, [true, false], [53, 0]), (0, [true, false], [11]), (1, [true, false], [13]), (2, [true, false], [43]), (3, [true, false], [11]), (4, [true, false], [13]), (5, [true, false], [46]), (6, [true, false], [45, 1]), (8, [true, false], [13]), (9, [true, false], [50])] [_, _, _, _, _, _, _, _, _, _, _, _, _, _]
      case' hm => exact dr
      case' hn => rfl
      case' hok => rfl
      case' hlen => rfl
      case' hd => rfl
      case' h0 => rfl
      case' hstep =>
       simp only [DAllG, push_cast, Option.isSome_some, Option.isSome_none]
       repeat' apply And.intro
       all_goals (apply DOne_V; simp only [push_cast, Nat.reduceAdd, Nat.reduceSub, Nat.reduceMul, Nat.reduceLT, Nat.reduceLeDiff, Nat.reduceEqDiff, Int.reduceToNat, ↓reduceIte] <;> first | exact rfl | omega | exact ⟨rfl, rfl⟩ | exact trivial | exact ⟨by omega, rfl⟩ | exact ⟨by omega, by omega, rfl⟩ | exact ⟨by omega, rfl, rfl⟩ | exact ⟨by omega, by omega, rfl, rfl⟩ | (refine app1_L (fun i : Int => AV.int .i64 i) (sz := 1) (fun _ => rfl) (by intro x c hc; simp [AV.cells] at hc; subst hc; rfl) _ H.length (nxF 1 0) 2 _ rfl rfl (by exact aget0 _ _ _) sl48 sz3 by3 zr3 rfl (by decide) (by decide) (by decide) ?_; exact ⟨rfl, rfl⟩) | exact ⟨by decide, by decide, rfl⟩)
      case' hQ => skip
      have e : nxF 1 0 ++ [2] = nxF 2 0 := by decide
      rw [e, hencP]
      simp only [push_cast, Nat.reduceAdd, Nat.reduceSub, Nat.reduceMul, Nat.reduceLT, Nat.reduceLeDiff, Nat.reduceEqDiff, Int.reduceToNat, ↓reduceIte]
      repeat' first | refine ⟨by omega, ?_⟩ | refine cI (fun _ => ?_) (fun _ => ?_)
      refine loopW_n 2 (by omega) (by omega) ?_
      rw [show nxF 2 1 = nxF 1 1 by decide]
      simp only [push_cast, Nat.reduceAdd, Nat.reduceSub, Nat.reduceMul, Nat.reduceLT, Nat.reduceLeDiff, Nat.reduceEqDiff, Int.reduceToNat, ↓reduceIte]
    | 2, _, _ =>
      refine ⟨by decide, ?_⟩
      simp only [push_cast, Nat.reduceAdd, Nat.reduceSub, Nat.reduceMul, Nat.reduceLT, Nat.reduceLeDiff, Nat.reduceEqDiff, Int.reduceToNat, ↓reduceIte, g2]
      apply AW_drawE [some 42, some 43, some 44, some 45, some 46, some 47, some 48, some 49, some 50, some 51, some 52, some 53, some 54, none] [([false, false], _), ([true, false], _), ([true, true], _)] [none, none, none, none, none, none, none, none, none, none, none, some 0, none, some 1] 2 [(0, [false, false], [11]), (1, [false, false], [13]), (2, [false, false], [43]), (3, [false, false], [11]), (4, [false, false], [13]), (5, [false, false], [46]), (6, [false, false], [45, 1]), (7, [false, false], [48]), (8, [false, false], [13]), (9, [false, false], [50]), (10, [false, false], [51]), (11, [false, false], [49, 2]), (12, [true, false], [42, 1]), (13, [true, false], [53, 0]), (0, [true, false], [11]), (1, [true, false], [13]), (2, [true, false], [43]), (3, [true, false], [11]), (4, [true, false], [13]), (5, [true, false], [46]), (6, [true, false], [45, 1]), (8, [true, false], [13]), (9, [true, false], [50])] [_, _, _, _, _, _, _, _, _, _, _, _, _, _]
      case' hm => exact dr
      case' hn => rfl
      case' hok => rfl
      case' hlen => rfl
      case' hd => rfl
      case' h0 => rfl
      case' hstep =>
       simp only [DAllG, push_cast, Option.isSome_some, Option.isSome_none]
       repeat' apply And.intro
       all_goals (apply DOne_V; simp only [push_cast, Nat.reduceAdd, Nat.reduceSub, Nat.reduceMul, Nat.reduceLT, Nat.reduceLeDiff, Nat.reduceEqDiff, Int.reduceToNat, ↓reduceIte] <;> first | exact rfl | omega | exact ⟨rfl, rfl⟩ | exact trivial | exact ⟨by omega, rfl⟩ | exact ⟨by omega, by omega, rfl⟩ | exact ⟨by omega, rfl, rfl⟩ | exact ⟨by omega, by omega, rfl, rfl⟩ | (refine app1_L (fun i : Int => AV.int .i64 i) (sz := 1) (fun _ => rfl) (by intro x c hc; simp [AV.cells] at hc; subst hc; rfl) _ (H.length + 1) (nxF 2 1) 0 _ rfl rfl (by exact (agetN _ _ 1).trans rfl) sl48 sz3 by3 zr3 rfl (by decide) (by decide) (by decide) ?_; exact ⟨rfl, rfl⟩) | exact ⟨by decide, by decide, rfl⟩)
      case' hQ => skip
      have e : nxF 2 1 ++ [0] = nxF 3 1 := by decide
      rw [e, hencP]
      simp only [push_cast, Nat.reduceAdd, Nat.reduceSub, Nat.reduceMul, Nat.reduceLT, Nat.reduceLeDiff, Nat.reduceEqDiff, Int.reduceToNat, ↓reduceIte]
      repeat' first | refine ⟨by omega, ?_⟩ | refine cI (fun _ => ?_) (fun _ => ?_)
      refine loopW_n 3 (by omega) (by omega) ?_
      rw [show nxF 3 0 = nxF 2 0 by decide]
      simp only [push_cast, Nat.reduceAdd, Nat.reduceSub, Nat.reduceMul, Nat.reduceLT, Nat.reduceLeDiff, Nat.reduceEqDiff, Int.reduceToNat, ↓reduceIte]
  · have h3 : i = 3 := by omega
    subst h3
    simp only [push_cast, Nat.reduceAdd, Nat.reduceSub, Nat.reduceMul, Nat.reduceLT, Nat.reduceLeDiff, Nat.reduceEqDiff, Int.reduceToNat, ↓reduceIte, a7, a8]
    refine AOp_make1 3 _ _ _ rfl rfl sl48 sz3 by3 zr3 rfl (by decide) (by decide) ?_
    simp only [push_cast, Nat.reduceAdd, Nat.reduceSub, Nat.reduceMul, Nat.reduceLT, Nat.reduceLeDiff, Nat.reduceEqDiff, Int.reduceToNat, ↓reduceIte]
    refine (visit2_ac H).to ?_
    first | (simp only [push_cast, Nat.reduceAdd, Nat.reduceSub, Nat.reduceMul, Nat.reduceLT, Nat.reduceLeDiff, Nat.reduceEqDiff, Int.reduceToNat, ↓reduceIte]; done) | (simp only [push_cast, Nat.reduceAdd, Nat.reduceSub, Nat.reduceMul, Nat.reduceLT, Nat.reduceLeDiff, Nat.reduceEqDiff, Int.reduceToNat, ↓reduceIte]; trace_state)
end Ab
set_option maxRecDepth 100000
namespace Ab
open Go Go.Proofs
theorem sameTerms_ac (a b : List Term) (h1 : a.length < 1099511627776) (h2 : b.length < 1099511627776) (h3 : ∀ x, x ∈ a → x.bulk ≤ 1099511627775) (h4 : ∀ x, x ∈ b → x.bulk ≤ 1099511627775) (H : List AObj) :
    ACall Tryz.prog 16 [.sl .none (encTs a), .sl .none (encTs b)] H (fun r H' => r = .bool (decide (a = b)) ∧ H' = H) := by
  refine ACall_V (H.length) 25 [.tmp 4] Tryz.func16 rfl rfl rfl ?_
  simp only [push_cast, Nat.reduceAdd, Nat.reduceSub, Nat.reduceMul, Nat.reduceLT, Nat.reduceLeDiff, Nat.reduceEqDiff, Int.reduceToNat, ↓reduceIte]
  refine cI (fun hl => ?_) (fun hl => ?_)
  · have hl : a.length = b.length := by omega
    refine AW_loopW (maskG 27 [0, 0, 10, 0]) (fun (i : Nat) => [(13, .int .i64 i)]) (fun _ => H) (fun i => i ≤ a.length ∧ a.take i = b.take i) (fun i => a.length - i) 0 ⟨Nat.zero_le _, rfl⟩ (by simp only [push_cast, Nat.reduceAdd, Nat.reduceSub, Nat.reduceMul, Nat.reduceLT, Nat.reduceLeDiff, Nat.reduceEqDiff, Int.reduceToNat, ↓reduceIte]) (fun i hi => ?_)
    simp only [push_cast, Nat.reduceAdd, Nat.reduceSub, Nat.reduceMul, Nat.reduceLT, Nat.reduceLeDiff, Nat.reduceEqDiff, Int.reduceToNat, ↓reduceIte]
    refine cI (fun h => ?_) (fun h => ?_)
    · repeat refine ⟨by omega, ?_⟩
      have hia : i < a.length := by omega
      have hib : i < b.length := by omega
      have heq := fun X => equalR_ac (a[i]'hia) (b[i]'hib) (h3 _ (List.getElem_mem hia)) (h4 _ (List.getElem_mem hib)) X
      apply AW_drawE [some 16, some 17, some 18, some 19, some 20, some 21, some 22, some 23, some 24, some 25] [([], _)] [none, none, none, none, none, none, none, none, none, none] 0 [(0, [], [0]), (1, [], [5]), (2, [], [16, 0]), (3, [], [18]), (4, [], [1]), (5, [], [5]), (6, [], [20, 0]), (7, [], [22]), (8, [], [19, 3]), (9, [], [24])] [_, _, _, _, _, _, _, _, _, _]
      case' hm => exact dr
      case' hn => rfl
      case' hok => rfl
      case' hlen => rfl
      case' hd => rfl
      case' h0 => rfl
      case' hstep =>
       simp only [DAllG, push_cast, Option.isSome_some, Option.isSome_none]
       repeat' apply And.intro
       all_goals (apply DOne_V; simp only [push_cast, Nat.reduceAdd, Nat.reduceSub, Nat.reduceMul, Nat.reduceLT, Nat.reduceLeDiff, Nat.reduceEqDiff, Int.reduceToNat, ↓reduceIte] <;> first | exact rfl | omega | exact ⟨rfl, rfl⟩ | exact trivial | exact ⟨by omega, rfl⟩ | exact ⟨by omega, by omega, rfl⟩ | exact ⟨by omega, rfl, rfl⟩ | exact ⟨by omega, by omega, rfl, rfl⟩ | exact ⟨by omega, trivial⟩ | (refine (heq _).to ?_; exact ⟨rfl, rfl⟩))
      case' hQ => skip
      simp only [push_cast, Nat.reduceAdd, Nat.reduceSub, Nat.reduceMul, Nat.reduceLT, Nat.reduceLeDiff, Nat.reduceEqDiff, Int.reduceToNat, ↓reduceIte]
      refine cI (fun he => ?_) (fun he => ?_)
      · repeat' first | refine ⟨by omega, ?_⟩ | refine cI (fun _ => ?_) (fun _ => ?_)
        refine loopW_n (i + 1) ⟨by omega, ?_⟩ (by omega) (by simp only [push_cast, Nat.reduceAdd, Nat.reduceSub, Nat.reduceMul, Nat.reduceLT, Nat.reduceLeDiff, Nat.reduceEqDiff, Int.reduceToNat, ↓reduceIte])
        rw [List.take_succ_eq_append_getElem hia, List.take_succ_eq_append_getElem hib, hi.2, he]
      · have hne : a ≠ b := fun e => he (by subst e; rfl)
        simp [hne]
    · have e := hi.2
      rw [List.take_of_length_le (by omega), List.take_of_length_le (by omega)] at e
      simp [e]
  · have hne : a ≠ b := fun e => hl (by rw [e])
    simp [hne]
theorem constant_ac (s : List UInt8) (H : List AObj) : ACall Tryz.prog 50 [.str s] H (fun r H' => r = encT (.mk s false []) ∧ H' = H) := by
  refine ACall_V (H.length) 4 [.cell 2 25] Tryz.func50 rfl rfl rfl ?_
  simp only [push_cast, Nat.reduceAdd, Nat.reduceSub, Nat.reduceMul, Nat.reduceLT, Nat.reduceLeDiff, Nat.reduceEqDiff, Int.reduceToNat, ↓reduceIte]
theorem enc_c (s : List UInt8) : encT (.mk s false []) = .agg [.str s, .bool false, .sl .none []] := by
  have h : encTs (Term.mk s false []).args = [] := encTs_nil
  simp only [encT, h]; rfl
theorem enc_dxR : encL encRu dxR = [AV.agg [.str [97], .bool false, .sl .none [], .str [98], .bool false, .sl .none []], .agg [.str [97], .bool false, .sl .none [], .str [99], .bool false, .sl .none []], .agg [.str [98], .bool false, .sl .none [], .str [97], .bool false, .sl .none []]] := by
  have h : ∀ s, encTs (Term.mk s false []).args = [] := fun s => encTs_nil
  simp only [encL, dxR, List.map_cons, List.map_nil, encRu, dxA, dxB, dxC, h, Term.mk_name, Term.mk_var]
set_option maxHeartbeats 4000000 in
theorem alive5_ac (H : List AObj) : ACall Tryz.prog 14 [] H (fun r H' => r = .bool true ∧ H' = H) := by
  have hA : encT dxA = .agg [.str [97], .bool false, .sl .none []] := enc_c [97]
  have hx := fun X => exploreX_ac dxR (by rw [dx_B.2.1]; decide) dx_B.1 dxA (by rw [dx_B.2.2]; decide) 10 X
  rw [dx_exE, enc_dxR, hA] at hx
  have hck : ∀ x, x ∈ dxG.ts → checkP x = 0 := by
    intro x hx
    simp only [dxG, List.mem_cons, List.not_mem_nil, or_false] at hx
    rcases hx with rfl | rfl | rfl
    · exact dx_ck.1
    · exact dx_ck.2.1
    · exact dx_ck.2.2
  have hn := fun X => normals1_ac dxR (by rw [dx_B.2.1]; decide) dx_B.1 dxA (by rw [dx_B.2.2]; decide) 10 dxG dx_exE dx_sys hck (by decide) (by rw [dx_norm]; decide) X
  rw [dx_norm, enc_dxR, hA] at hn
  have hlg := fun X => longestX_ac X
  rw [enc_dxR, hA] at hlg
  have hbk : ∀ x, x ∈ dxG.ts → x.bulk ≤ 1099511627775 := fun x hx => by have := check_small (hck x hx); omega
  have hs3 := fun X => sameTerms_ac dxG.ts [dxA, dxB, dxC] (by decide) (by decide) hbk hbk X
  rw [show decide (dxG.ts = [dxA, dxB, dxC]) = true from decide_eq_true rfl, show encTs [dxA, dxB, dxC] = [AV.agg [.str [97], .bool false, .sl .none []], .agg [.str [98], .bool false, .sl .none []], .agg [.str [99], .bool false, .sl .none []]] by rw [encTs_cons, encTs_cons, encTs_one]; exact congr (congrArg _ (enc_c [97])) (congr (congrArg _ (enc_c [98])) (congrArg (fun x => [x]) (enc_c [99])))] at hs3
  have hs1 : ∀ X, ACall Tryz.prog 16 [.sl .none [encT dxC], .sl .none [.agg [.str [99], .bool false, .sl .none []]]] X (fun r H' => r = .bool true ∧ H' = X) := fun X => by
    have hc : ∀ x, x ∈ [dxC] → x.bulk ≤ 1099511627775 := fun x hx => hbk x (by simp at hx; rw [hx]; simp [dxG])
    have h := sameTerms_ac [dxC] [dxC] (by decide) (by decide) hc hc X
    rw [encTs_one, show decide ([dxC] = [dxC]) = true from decide_eq_true rfl] at h
    rw [← enc_c [99]]
    exact h
  have hes : dxG.es.length = 3 := rfl
  have hwh : dxG.wh = true := rfl
  refine ACall_V (H.length) 82 [.tmp 0] Tryz.func14 rfl rfl rfl ?_
  simp only [push_cast, Nat.reduceAdd, Nat.reduceSub, Nat.reduceMul, Nat.reduceLT, Nat.reduceLeDiff, Nat.reduceEqDiff, Int.reduceToNat, ↓reduceIte]
  refine (constant_ac _ _).to ?_
  rw [enc_c]
  simp only [push_cast, Nat.reduceAdd, Nat.reduceSub, Nat.reduceMul, Nat.reduceLT, Nat.reduceLeDiff, Nat.reduceEqDiff, Int.reduceToNat, ↓reduceIte]
  refine (constant_ac _ _).to ?_
  rw [enc_c]
  simp only [push_cast, Nat.reduceAdd, Nat.reduceSub, Nat.reduceMul, Nat.reduceLT, Nat.reduceLeDiff, Nat.reduceEqDiff, Int.reduceToNat, ↓reduceIte]
  refine (constant_ac _ _).to ?_
  rw [enc_c]
  simp only [push_cast, Nat.reduceAdd, Nat.reduceSub, Nat.reduceMul, Nat.reduceLT, Nat.reduceLeDiff, Nat.reduceEqDiff, Int.reduceToNat, ↓reduceIte]
  refine (constant_ac _ _).to ?_
  rw [enc_c]
  simp only [push_cast, Nat.reduceAdd, Nat.reduceSub, Nat.reduceMul, Nat.reduceLT, Nat.reduceLeDiff, Nat.reduceEqDiff, Int.reduceToNat, ↓reduceIte]
  refine (constant_ac _ _).to ?_
  rw [enc_c]
  simp only [push_cast, Nat.reduceAdd, Nat.reduceSub, Nat.reduceMul, Nat.reduceLT, Nat.reduceLeDiff, Nat.reduceEqDiff, Int.reduceToNat, ↓reduceIte]
  refine (constant_ac _ _).to ?_
  rw [enc_c]
  simp only [push_cast, Nat.reduceAdd, Nat.reduceSub, Nat.reduceMul, Nat.reduceLT, Nat.reduceLeDiff, Nat.reduceEqDiff, Int.reduceToNat, ↓reduceIte]
  refine (constant_ac _ _).to ?_
  rw [enc_c]
  simp only [push_cast, Nat.reduceAdd, Nat.reduceSub, Nat.reduceMul, Nat.reduceLT, Nat.reduceLeDiff, Nat.reduceEqDiff, Int.reduceToNat, ↓reduceIte]
  refine (hx _).to ?_
  simp only [push_cast, Nat.reduceAdd, Nat.reduceSub, Nat.reduceMul, Nat.reduceLT, Nat.reduceLeDiff, Nat.reduceEqDiff, Int.reduceToNat, ↓reduceIte, encGE]
  refine (constant_ac _ _).to ?_
  rw [enc_c]
  simp only [push_cast, Nat.reduceAdd, Nat.reduceSub, Nat.reduceMul, Nat.reduceLT, Nat.reduceLeDiff, Nat.reduceEqDiff, Int.reduceToNat, ↓reduceIte]
  refine (hn _).to ?_
  simp only [push_cast, Nat.reduceAdd, Nat.reduceSub, Nat.reduceMul, Nat.reduceLT, Nat.reduceLeDiff, Nat.reduceEqDiff, Int.reduceToNat, ↓reduceIte]
  refine (constant_ac _ _).to ?_
  rw [enc_c]
  simp only [push_cast, Nat.reduceAdd, Nat.reduceSub, Nat.reduceMul, Nat.reduceLT, Nat.reduceLeDiff, Nat.reduceEqDiff, Int.reduceToNat, ↓reduceIte]
  refine (hlg _).to ?_
  simp only [push_cast, Nat.reduceAdd, Nat.reduceSub, Nat.reduceMul, Nat.reduceLT, Nat.reduceLeDiff, Nat.reduceEqDiff, Int.reduceToNat, ↓reduceIte]
  apply AW_drawE [some 40, some 41, some 42, some 43, some 44, some 45, some 46, some 47, some 48, some 49, some 50, some 51, some 52, some 53, some 54, some 55, some 56, some 57, some 58, some 59, some 60, some 61, some 62, some 63, some 64, some 65, some 66, some 67, some 68, some 69, some 70, some 71, some 72, some 73, some 74, some 75, some 76, some 77, some 78, some 79, some 80, some 81, some 0] [([], _)] [none, none, none, none, none, none, none, none, none, none, none, none, none, none, none, none, none, none, none, none, none, none, none, none, none, none, none, none, none, none, none, none, none, none, none, none, none, none, none, none, none, none, none] 0 [(0, [], [3]), (1, [], [40]), (2, [], [41]), (3, [], [2, 39]), (4, [], [42, 0]), (5, [], [42]), (6, [], [42]), (7, [], [42]), (8, [], [42, 2, 0, 0]), (9, [], [42, 1, 3]), (10, [], [42, 6]), (11, [], [50]), (12, [], [2, 48]), (13, [], [51, 0]), (14, [], [51, 1]), (15, [], [51, 2]), (16, [], [51, 3]), (17, [], [56]), (18, [], [2, 54]), (19, [], [57, 0]), (20, [], [57, 1]), (21, [], [60]), (22, [], [6, 54]), (23, [], [61, 0]), (24, [], [61, 1]), (25, [], [64]), (26, [], [5, 59]), (27, [], [65, 0]), (28, [], [67]), (29, [], [4, 63]), (30, [], [68]), (31, [], [68, 1]), (32, [], [68, 0, 1]), (33, [], [68, 3]), (34, [], [73]), (35, [], [9, 64]), (36, [], [74, 0]), (37, [], [74, 1]), (38, [], [77]), (39, [], [8, 69]), (40, [], [78, 0]), (41, [], [78, 1]), (42, [], [81])] [_, _, _, _, _, _, _, _, _, _, _, _, _, _, _, _, _, _, _, _, _, _, _, _, _, _, _, _, _, _, _, _, _, _, _, _, _, _, _, _, _, _, _]
  case' hm => exact dr
  case' hn => rfl
  case' hok => rfl
  case' hlen => rfl
  case' hd => rfl
  case' h0 => rfl
  case' hstep =>
   simp only [DAllG, push_cast, Option.isSome_some, Option.isSome_none]
   repeat' apply And.intro
   all_goals (apply DOne_V; simp only [push_cast, Nat.reduceAdd, Nat.reduceSub, Nat.reduceMul, Nat.reduceLT, Nat.reduceLeDiff, Nat.reduceEqDiff, Int.reduceToNat, ↓reduceIte, hes, hwh, decide_true, Bool.not_false, Bool.not_true] <;> first | exact rfl | omega | exact ⟨rfl, rfl⟩ | exact trivial | exact ⟨by omega, rfl⟩ | exact ⟨by omega, by omega, rfl⟩ | exact ⟨by omega, rfl, rfl⟩ | exact ⟨by omega, by omega, rfl, rfl⟩ | (refine (constant_ac _ _).to ?_; rw [enc_c]; exact ⟨rfl, rfl⟩) | (refine (hs3 _).to ?_; exact ⟨rfl, rfl⟩) | (refine (hs1 _).to ?_; exact ⟨rfl, rfl⟩) | rfl | exact decide_eq_true rfl | trace_state)
  case' hQ => skip
  simp only [push_cast, Nat.reduceAdd, Nat.reduceSub, Nat.reduceMul, Nat.reduceLT, Nat.reduceLeDiff, Nat.reduceEqDiff, Int.reduceToNat, ↓reduceIte]
end Ab
set_option maxRecDepth 10000
namespace Ab
open Go Go.Proofs
theorem sameSteps_ac (a b : List (Int × List Int)) (h1 : a.length < 1099511627776) (h2 : b.length < 1099511627776) (h3 : ∀ x, x ∈ a → x.2.length < 1099511627776) (h4 : ∀ x, x ∈ b → x.2.length < 1099511627776) (H : List AObj) :
    ACall Tryz.prog 53 [.sl .none (encL encSt a), .sl .none (encL encSt b)] H (fun r H' => r = .bool (decide (a = b)) ∧ H' = H) := by
  refine ACall_V (H.length) 40 [.tmp 4] Tryz.func53 rfl rfl rfl ?_
  simp only [push_cast, Nat.reduceAdd, Nat.reduceSub, Nat.reduceMul, Nat.reduceLT, Nat.reduceLeDiff, Nat.reduceEqDiff, Int.reduceToNat, ↓reduceIte]
  refine cI (fun hl => ?_) (fun hl => ?_)
  · have hl : a.length = b.length := by omega
    refine AW_loopW (maskG 42 [0, 0, 10, 0]) (fun (i : Nat) => [(13, .int .i64 i)]) (fun _ => H) (fun i => i ≤ a.length ∧ a.take i = b.take i) (fun i => a.length - i) 0 ⟨Nat.zero_le _, rfl⟩ (by simp only [push_cast, Nat.reduceAdd, Nat.reduceSub, Nat.reduceMul, Nat.reduceLT, Nat.reduceLeDiff, Nat.reduceEqDiff, Int.reduceToNat, ↓reduceIte]) (fun i hi => ?_)
    simp only [push_cast, Nat.reduceAdd, Nat.reduceSub, Nat.reduceMul, Nat.reduceLT, Nat.reduceLeDiff, Nat.reduceEqDiff, Int.reduceToNat, ↓reduceIte]
    refine cI (fun h => ?_) (fun h => ?_)
    · repeat refine ⟨by omega, ?_⟩
      have hia : i < a.length := by omega
      have hib : i < b.length := by omega
      have heq := fun H => samePosR_ac (a[i]'hia).2 (b[i]'hib).2 (h3 _ (List.getElem_mem hia)) (h4 _ (List.getElem_mem hib)) H
      by_cases hn : (a[i]'hia).1 = (b[i]'hib).1
      · have hd : decide ((a[i]'hia).1 = (b[i]'hib).1) = true := by simpa using hn
        apply AW_drawE [some 16, some 17, some 18, some 19, some 20, some 21, some 22, some 23, some 24, some 25, some 26, some 27, some 28, some 29, some 30, some 31, some 32, some 33, some 34, some 35, some 36, some 37, some 38, some 39, some 40] [([], _)] [none, none, none, none, none, none, none, none, none, none, none, none, none, none, none, none, none, none, none, none, none, none, none, none, none] 0 [(0, [], [0]), (1, [], [5]), (2, [], [16, 0]), (3, [], [18]), (4, [], [19]), (5, [], [1]), (6, [], [5]), (7, [], [21, 0]), (8, [], [23]), (9, [], [24]), (10, [], [20, 4]), (11, [], [26]), (12, [], [0, 26]), (13, [], [5, 21]), (14, [], [27, 0, 0]), (15, [], [27, 2]), (16, [], [27, 3]), (17, [], [1, 25]), (18, [], [5, 21]), (19, [], [27, 5, 0]), (20, [], [27, 7]), (21, [], [27, 8]), (22, [], [27, 4, 4]), (23, [], [27, 10]), (24, [], [27, 11])] [_, _, _, _, _, _, _, _, _, _, _, _, _, _, _, _, _, _, _, _, _, _, _, _, _]
        case' hm => exact dr
        case' hn => rfl
        case' hok => rfl
        case' hlen => rfl
        case' hd => rfl
        case' h0 => rfl
        case' hstep =>
         simp only [DAllG, push_cast, Option.isSome_some, Option.isSome_none]
         repeat' apply And.intro
         all_goals (apply DOne_V; simp only [push_cast, Nat.reduceAdd, Nat.reduceSub, Nat.reduceMul, Nat.reduceLT, Nat.reduceLeDiff, Nat.reduceEqDiff, Int.reduceToNat, ↓reduceIte, hd, Bool.not_true] <;> first | exact rfl | omega | exact ⟨rfl, rfl⟩ | exact trivial | exact ⟨by omega, rfl⟩ | exact ⟨by omega, by omega, rfl⟩ | exact ⟨by omega, rfl, rfl⟩ | exact ⟨by omega, by omega, rfl, rfl⟩ | exact ⟨by omega, trivial⟩ | exact (heq _).to ⟨rfl, rfl⟩)
        case' hQ => skip
        simp only [push_cast, Nat.reduceAdd, Nat.reduceSub, Nat.reduceMul, Nat.reduceLT, Nat.reduceLeDiff, Nat.reduceEqDiff, Int.reduceToNat, ↓reduceIte, hd, Bool.not_true]
        refine cI (fun he => ?_) (fun he => ?_)
        · repeat' first | refine ⟨by omega, ?_⟩ | refine cI (fun _ => ?_) (fun _ => ?_)
          refine loopW_n (i + 1) ⟨by omega, ?_⟩ (by omega) (by simp only [push_cast, Nat.reduceAdd, Nat.reduceSub, Nat.reduceMul, Nat.reduceLT, Nat.reduceLeDiff, Nat.reduceEqDiff, Int.reduceToNat, ↓reduceIte])
          rw [List.take_succ_eq_append_getElem hia, List.take_succ_eq_append_getElem hib, hi.2]
          congr 2
          exact Prod.ext hn he
        · have hne : a ≠ b := fun e => he (by subst e; rfl)
          simp [hne]
      · have hd : decide ((a[i]'hia).1 = (b[i]'hib).1) = false := by simpa using hn
        apply AW_drawE [some 16, some 17, some 18, some 19, some 20, some 21, some 22, some 23, some 24, some 25, some 26, some 27, some 28, some 29, some 30, some 31, some 32, some 33, some 34, some 35, some 36, some 37, some 38, some 39, some 40] [([], _)] [none, none, none, none, none, none, none, none, none, none, none, none, none, none, none, none, none, none, none, none, none, none, none, none, none] 0 [(0, [], [0]), (1, [], [5]), (2, [], [16, 0]), (3, [], [18]), (4, [], [19]), (5, [], [1]), (6, [], [5]), (7, [], [21, 0]), (8, [], [23]), (9, [], [24]), (10, [], [20, 4]), (11, [], [26]), (12, [], [0, 26]), (13, [], [5, 21]), (14, [], [27, 0, 0]), (15, [], [27, 2]), (16, [], [27, 3]), (17, [], [1, 25]), (18, [], [5, 21]), (19, [], [27, 5, 0]), (20, [], [27, 7]), (21, [], [27, 8]), (22, [], [27, 4, 4]), (23, [], [27, 10]), (24, [], [27, 11])] [_, _, _, _, _, _, _, _, _, _, _, _, _, _, _, _, _, _, _, _, _, _, _, _, _]
        case' hm => exact dr
        case' hn => rfl
        case' hok => rfl
        case' hlen => rfl
        case' hd => rfl
        case' h0 => rfl
        case' hstep =>
         simp only [DAllG, push_cast, Option.isSome_some, Option.isSome_none]
         repeat' apply And.intro
         all_goals (apply DOne_V; simp only [push_cast, Nat.reduceAdd, Nat.reduceSub, Nat.reduceMul, Nat.reduceLT, Nat.reduceLeDiff, Nat.reduceEqDiff, Int.reduceToNat, ↓reduceIte, hd, Bool.not_false] <;> first | exact rfl | omega | exact ⟨rfl, rfl⟩ | exact trivial | exact ⟨by omega, rfl⟩ | exact ⟨by omega, by omega, rfl⟩ | exact ⟨by omega, rfl, rfl⟩ | exact ⟨by omega, by omega, rfl, rfl⟩ | exact ⟨by omega, trivial⟩)
        case' hQ => skip
        have hne : a ≠ b := fun e => hn (by subst e; rfl)
        simp only [push_cast, Nat.reduceAdd, Nat.reduceSub, Nat.reduceMul, Nat.reduceLT, Nat.reduceLeDiff, Nat.reduceEqDiff, Int.reduceToNat, ↓reduceIte, hd, Bool.not_false, decide_eq_false hne]
    · have e := hi.2
      rw [List.take_of_length_le (by omega), List.take_of_length_le (by omega)] at e
      simp [e]
  · have hne : a ≠ b := fun e => hl (by rw [e])
    simp [hne]
def ChB (c : Term × List (Int × List Int)) : Prop := c.1.bulk ≤ 1099511627775 ∧ c.2.length < 1099511627776 ∧ ∀ x, x ∈ c.2 → x.2.length < 1099511627776
theorem sameChain_ac (a b : Term × List (Int × List Int)) (ha : ChB a) (hb : ChB b) (H : List AObj) : ACall Tryz.prog 57 [encCh a, encCh b] H (fun r H' => r = .bool (decide (a = b)) ∧ H' = H) := by
  refine ACall_V (H.length) 15 [.tmp 4] Tryz.func57 rfl rfl rfl ?_
  simp only [push_cast, Nat.reduceAdd, Nat.reduceSub, Nat.reduceMul, Nat.reduceLT, Nat.reduceLeDiff, Nat.reduceEqDiff, Int.reduceToNat, ↓reduceIte]
  refine (equalR_ac a.1 b.1 ha.1 hb.1 _).to ?_
  simp only [push_cast, Nat.reduceAdd, Nat.reduceSub, Nat.reduceMul, Nat.reduceLT, Nat.reduceLeDiff, Nat.reduceEqDiff, Int.reduceToNat, ↓reduceIte]
  refine cI (fun h => ?_) (fun h => ?_)
  · refine (sameSteps_ac a.2 b.2 ha.2.1 hb.2.1 ha.2.2 hb.2.2 _).to ?_
    simp only [push_cast, Nat.reduceAdd, Nat.reduceSub, Nat.reduceMul, Nat.reduceLT, Nat.reduceLeDiff, Nat.reduceEqDiff, Int.reduceToNat, ↓reduceIte]
    have : (a = b) ↔ a.2 = b.2 := ⟨fun e => by rw [e], fun e => Prod.ext h e⟩
    simp [this]
  · have : ¬ a = b := fun e => h (by rw [e])
    simp [this]
end Ab
set_option maxRecDepth 10000
namespace Ab
open Go Go.Proofs
theorem uniCh (l : List (Term × List (Int × List Int))) : Uni (3 + 1) (encL encCh l) = True := eq_true (uni_encL (enc := encCh) (k := 4) (fun _ => rfl) l)
theorem scopedCh (n : Nat) (l : List (Term × List (Int × List Int))) : ScopedL n (encL encCh l) = True := eq_true (scoped_encL (fun x => by simp [Scoped, ScopedL, scoped_encTs, scSt_]) l)
attribute [push_cast] uniCh scopedCh
def firstC (rs : List (Term × Term)) : List (Term × List (Int × List Int)) → Int
  | [] => 0
  | c :: r => if (termsE rs c).2 = 0 then firstC rs r else (termsE rs c).2
theorem firstC_skip (rs : List (Term × Term)) (cs : List (Term × List (Int × List Int))) : ∀ (i : Nat), (∀ x, x ∈ cs.take i → (termsE rs x).2 = 0) → firstC rs cs = firstC rs (cs.drop i) := by
  induction cs with
  | nil => intro i _; simp
  | cons t r ih =>
    intro i h
    cases i with
    | zero => rfl
    | succ i =>
      rw [List.drop_succ_cons, firstC, if_pos (h t (by simp))]
      exact ih i (fun x hx => h x (by simp [hx]))
def checkCP (rs : List (Term × Term)) (cs : List (Term × List (Int × List Int))) : Int := if sysP rs ≠ 0 then sysP rs else firstC rs cs
theorem checkC_ac (rs : List (Term × Term)) (hlen : rs.length < 1099511627776) (hru : RuB rs) (cs : List (Term × List (Int × List Int))) (hl : cs.length < 1099511627776) (hc : ∀ c, c ∈ cs → ChB c) (H : List AObj) :
    ACall Tryz.prog 12 [.sl .none (encL encRu rs), .sl .none (encL encCh cs)] H (fun r H' => r = .int .i64 (checkCP rs cs) ∧ H' = H) := by
  have hb : BndR rs := fun r hr => by have := hru r hr; omega
  refine ACall_V (H.length) 29 [.tmp 4] Tryz.func12 rfl rfl rfl ?_
  simp only [push_cast, Nat.reduceAdd, Nat.reduceSub, Nat.reduceMul, Nat.reduceLT, Nat.reduceLeDiff, Nat.reduceEqDiff, Int.reduceToNat, ↓reduceIte]
  refine (checkSystemR_ac rs hlen hb _).to ?_
  simp only [push_cast, Nat.reduceAdd, Nat.reduceSub, Nat.reduceMul, Nat.reduceLT, Nat.reduceLeDiff, Nat.reduceEqDiff, Int.reduceToNat, ↓reduceIte]
  unfold checkCP
  refine cI (fun h => ?_) (fun h => ?_)
  · rw [if_neg (by simpa using h)]
    refine AW_loopW (maskG 31 [0, 14, 0, 0]) (fun (i : Nat) => [(17, .int .i64 i)]) (fun _ => H) (fun i => i ≤ cs.length ∧ ∀ x, x ∈ cs.take i → (termsE rs x).2 = 0) (fun i => cs.length - i) 0 ⟨Nat.zero_le _, by simp⟩ (by simp only [push_cast, Nat.reduceAdd, Nat.reduceSub, Nat.reduceMul, Nat.reduceLT, Nat.reduceLeDiff, Nat.reduceEqDiff, Int.reduceToNat, ↓reduceIte]) (fun i hi => ?_)
    obtain ⟨hi1, hi2⟩ := hi
    have he := firstC_skip rs cs i hi2
    simp only [push_cast, Nat.reduceAdd, Nat.reduceSub, Nat.reduceMul, Nat.reduceLT, Nat.reduceLeDiff, Nat.reduceEqDiff, Int.reduceToNat, ↓reduceIte]
    refine cI (fun h => ?_) (fun h => ?_)
    · have hil : i < cs.length := by omega
      have hcb := hc _ (List.getElem_mem hil)
      rw [List.drop_eq_getElem_cons hil, firstC] at he
      refine ⟨hil, ?_⟩
      refine (termsR_ac rs hru (cs[i]'hil) hcb.1 hcb.2.1 hcb.2.2 _).to ?_
      simp only [push_cast, Nat.reduceAdd, Nat.reduceSub, Nat.reduceMul, Nat.reduceLT, Nat.reduceLeDiff, Nat.reduceEqDiff, Int.reduceToNat, ↓reduceIte, encTE]
      refine cI (fun h2 => ?_) (fun h2 => ?_)
      · repeat' first | refine ⟨by omega, ?_⟩ | refine cI (fun _ => ?_) (fun _ => ?_)
        refine loopW_n (i + 1) ⟨by omega, fun x hx => ?_⟩ (by omega) (by simp only [push_cast, Nat.reduceAdd, Nat.reduceSub, Nat.reduceMul, Nat.reduceLT, Nat.reduceLeDiff, Nat.reduceEqDiff, Int.reduceToNat, ↓reduceIte])
        rw [List.take_succ_eq_append_getElem hil] at hx
        rcases List.mem_append.1 hx with hx | hx
        · exact hi2 x hx
        · rw [List.mem_singleton] at hx; rw [hx]; exact h2
      · rw [he, if_neg h2]
    · rw [he, List.drop_of_length_le (show cs.length ≤ i by omega)]
      rfl
  · rw [if_pos h]
theorem termsC_spec {rs : List (Term × Term)} {c : Term × List (Int × List Int)} (h : (termsC rs c).2 = 0) : sysP rs = 0 ∧ (termsC rs c).1.length = 1 + c.2.length ∧ c.2.length ≤ 4096 ∧ ∀ x, x ∈ (termsC rs c).1 → checkP x = 0 := by
  obtain ⟨h1, h2, h3⟩ := termsC_zero h
  obtain ⟨_, a, b, d⟩ := terms_chain h1 h2
  rw [h3]
  exact ⟨h1, b, d, a⟩
end Ab
set_option maxRecDepth 10000
namespace Ab
open Go Go.Proofs
abbrev ChP := Term × List (Int × List Int)
theorem cellSt5 : ∀ (x : Int × List Int) c, c ∈ (encSt x).cells → c.isCell = true := by
  intro x c hc; simp [AV.cells] at hc; rcases hc with rfl | rfl <;> rfl
theorem ownC_ac (c : ChP) (hc : ChB c) (H : List AObj) :
    ACall Tryz.prog 55 [encCh c] H (fun r H' => r = .agg [.str c.1.name, .bool c.1.var, .sl .none (encTs c.1.args), gSl H.length (encL encSt c.2)] ∧ H' = H ++ [gTok 86 2 (encL encSt c.2)]) := by
  refine ACall_VA (H.length + 1) 29 [.cell 2 28] Tryz.func55 rfl rfl rfl ?_
  refine AW_reserve 1 ?_
  refine AW_of_W ?_
  simp only [push_cast, Nat.reduceAdd, Nat.reduceSub, Nat.reduceMul, Nat.reduceLT, Nat.reduceLeDiff, Nat.reduceEqDiff, Int.reduceToNat, ↓reduceIte]
  refine (own_ac c.1 hc.1 _).to ?_
  simp only [push_cast, Nat.reduceAdd, Nat.reduceSub, Nat.reduceMul, Nat.reduceLT, Nat.reduceLeDiff, Nat.reduceEqDiff, Int.reduceToNat, ↓reduceIte]
  refine AW_loopW (maskG 30 [2, 0, 7, 0, 0]) (fun (i : Nat) => [(13, .int .i64 i)]) (fun i => H ++ [gTok 86 2 (encL encSt (c.2.take i)), .cells [.str c.1.name, .bool c.1.var, .sl .none (encTs c.1.args), .sl .none (encL encSt c.2)], .cells [.str [], .bool false, .sl .zero [], .sl .zero []], .cells [.str c.1.name, .bool c.1.var, .sl .none (encTs c.1.args), gSl H.length (encL encSt (c.2.take i))]]) (fun i => i ≤ c.2.length) (fun i => c.2.length - i) 0 (Nat.zero_le _) (by simp only [push_cast, Nat.reduceAdd, Nat.reduceSub, Nat.reduceMul, Nat.reduceLT, Nat.reduceLeDiff, Nat.reduceEqDiff, Int.reduceToNat, ↓reduceIte, List.take_zero, encL_nil]) (fun i hi => ?_)
  simp only [push_cast, Nat.reduceAdd, Nat.reduceSub, Nat.reduceMul, Nat.reduceLT, Nat.reduceLeDiff, Nat.reduceEqDiff, Int.reduceToNat, ↓reduceIte]
  refine cI (fun h => ?_) (fun h => ?_)
  · have hil : i < c.2.length := by omega
    obtain ⟨s, hs⟩ : ∃ s, s = c.2[i]'hil := ⟨_, rfl⟩
    have hsb := hc.2.2 _ (List.getElem_mem hil)
    have hst : c.2.take i ++ [s] = c.2.take (i + 1) := by rw [List.take_succ_eq_append_getElem hil, hs]
    have hcl := hc.2.1
    refine ⟨hil, ?_⟩
    rw [← hs] at hsb ⊢
    have hcn := fun X => clone2_ac s.2 (by omega) X
    apply AW_drawE [some 17, some 18, some 19, some 20, some 21, some 22, some 23, some 24, some 25, some 26, some 27, none] [([false, false], _), ([true, false], _), ([true, true], _)] [none, none, none, none, none, none, none, none, none, some 0, none, some 1] 2 [(0, [false, false], [3]), (1, [false, false], [17]), (2, [false, false], [5]), (3, [false, false], [19]), (4, [false, false], [5]), (5, [false, false], [21]), (6, [false, false], [22]), (7, [false, false], [20, 2]), (8, [false, false], [24]), (9, [false, false], [18, 6]), (10, [true, false], [3]), (11, [true, false], [26, 0]), (0, [true, false], [3]), (2, [true, false], [5]), (3, [true, false], [19]), (4, [true, false], [5]), (5, [true, false], [21]), (7, [true, false], [20, 2])] [_, _, _, _, _, _, _, _, _, _, _, _]
    case' hm => exact dr
    case' hn => rfl
    case' hok => rfl
    case' hlen => rfl
    case' hd => rfl
    case' h0 => rfl
    case' hstep =>
     simp only [DAllG, push_cast, Option.isSome_some, Option.isSome_none]
     repeat' apply And.intro
     all_goals (apply DOne_V; simp only [push_cast, Nat.reduceAdd, Nat.reduceSub, Nat.reduceMul, Nat.reduceLT, Nat.reduceLeDiff, Nat.reduceEqDiff, Int.reduceToNat, ↓reduceIte] <;> first | exact rfl | omega | exact ⟨rfl, rfl⟩ | exact trivial | exact ⟨by omega, rfl⟩ | exact ⟨by omega, by omega, rfl⟩ | exact ⟨by omega, rfl, rfl⟩ | exact ⟨by omega, by omega, rfl, rfl⟩ | (refine (hcn _).to ?_; exact ⟨rfl, rfl⟩) | (refine app1_L encSt (sz := 2) (fun _ => rfl) cellSt5 _ H.length (c.2.take i) s _ rfl rfl (by exact aget0 _ _ _) sl26 sz86 by86 zr86 rfl (by decide) (by decide) (by rw [List.length_take]; omega) ?_; exact ⟨rfl, rfl⟩) | trace_state)
    case' hQ => skip
    rw [hst]
    simp only [push_cast, Nat.reduceAdd, Nat.reduceSub, Nat.reduceMul, Nat.reduceLT, Nat.reduceLeDiff, Nat.reduceEqDiff, Int.reduceToNat, ↓reduceIte]
    repeat' first | refine ⟨by omega, ?_⟩ | refine cI (fun _ => ?_) (fun _ => ?_)
    exact loopW_n (i + 1) (by omega) (by omega) (by simp only [push_cast, Nat.reduceAdd, Nat.reduceSub, Nat.reduceMul, Nat.reduceLT, Nat.reduceLeDiff, Nat.reduceEqDiff, Int.reduceToNat, ↓reduceIte])
  · rw [List.take_of_length_le (show c.2.length ≤ i by omega)]
    exact ⟨rfl, rfl⟩
theorem ownC2_ac (c : ChP) (hc : ChB c) (H : List AObj) :
    ACall Tryz.prog 55 [encCh c] H (fun r H' => r = encCh c ∧ H' = H) := by
  refine ACall_VA (H.length) 29 [.cell 2 28] Tryz.func55 rfl rfl rfl ?_
  refine AW_reserve 1 ?_
  refine AW_of_W ?_
  simp only [push_cast, Nat.reduceAdd, Nat.reduceSub, Nat.reduceMul, Nat.reduceLT, Nat.reduceLeDiff, Nat.reduceEqDiff, Int.reduceToNat, ↓reduceIte]
  refine (own_ac c.1 hc.1 _).to ?_
  simp only [push_cast, Nat.reduceAdd, Nat.reduceSub, Nat.reduceMul, Nat.reduceLT, Nat.reduceLeDiff, Nat.reduceEqDiff, Int.reduceToNat, ↓reduceIte]
  refine AW_loopW (maskG 30 [2, 0, 7, 0, 0]) (fun (i : Nat) => [(13, .int .i64 i)]) (fun i => H ++ [gTok 86 2 (encL encSt (c.2.take i)), .cells [.str c.1.name, .bool c.1.var, .sl .none (encTs c.1.args), .sl .none (encL encSt c.2)], .cells [.str [], .bool false, .sl .zero [], .sl .zero []], .cells [.str c.1.name, .bool c.1.var, .sl .none (encTs c.1.args), gSl H.length (encL encSt (c.2.take i))]]) (fun i => i ≤ c.2.length) (fun i => c.2.length - i) 0 (Nat.zero_le _) (by simp only [push_cast, Nat.reduceAdd, Nat.reduceSub, Nat.reduceMul, Nat.reduceLT, Nat.reduceLeDiff, Nat.reduceEqDiff, Int.reduceToNat, ↓reduceIte, List.take_zero, encL_nil]) (fun i hi => ?_)
  simp only [push_cast, Nat.reduceAdd, Nat.reduceSub, Nat.reduceMul, Nat.reduceLT, Nat.reduceLeDiff, Nat.reduceEqDiff, Int.reduceToNat, ↓reduceIte]
  refine cI (fun h => ?_) (fun h => ?_)
  · have hil : i < c.2.length := by omega
    obtain ⟨s, hs⟩ : ∃ s, s = c.2[i]'hil := ⟨_, rfl⟩
    have hsb := hc.2.2 _ (List.getElem_mem hil)
    have hst : c.2.take i ++ [s] = c.2.take (i + 1) := by rw [List.take_succ_eq_append_getElem hil, hs]
    have hcl := hc.2.1
    refine ⟨hil, ?_⟩
    rw [← hs] at hsb ⊢
    have hcn := fun X => clone2_ac s.2 (by omega) X
    apply AW_drawE [some 17, some 18, some 19, some 20, some 21, some 22, some 23, some 24, some 25, some 26, some 27, none] [([false, false], _), ([true, false], _), ([true, true], _)] [none, none, none, none, none, none, none, none, none, some 0, none, some 1] 2 [(0, [false, false], [3]), (1, [false, false], [17]), (2, [false, false], [5]), (3, [false, false], [19]), (4, [false, false], [5]), (5, [false, false], [21]), (6, [false, false], [22]), (7, [false, false], [20, 2]), (8, [false, false], [24]), (9, [false, false], [18, 6]), (10, [true, false], [3]), (11, [true, false], [26, 0]), (0, [true, false], [3]), (2, [true, false], [5]), (3, [true, false], [19]), (4, [true, false], [5]), (5, [true, false], [21]), (7, [true, false], [20, 2])] [_, _, _, _, _, _, _, _, _, _, _, _]
    case' hm => exact dr
    case' hn => rfl
    case' hok => rfl
    case' hlen => rfl
    case' hd => rfl
    case' h0 => rfl
    case' hstep =>
     simp only [DAllG, push_cast, Option.isSome_some, Option.isSome_none]
     repeat' apply And.intro
     all_goals (apply DOne_V; simp only [push_cast, Nat.reduceAdd, Nat.reduceSub, Nat.reduceMul, Nat.reduceLT, Nat.reduceLeDiff, Nat.reduceEqDiff, Int.reduceToNat, ↓reduceIte] <;> first | exact rfl | omega | exact ⟨rfl, rfl⟩ | exact trivial | exact ⟨by omega, rfl⟩ | exact ⟨by omega, by omega, rfl⟩ | exact ⟨by omega, rfl, rfl⟩ | exact ⟨by omega, by omega, rfl, rfl⟩ | (refine (hcn _).to ?_; exact ⟨rfl, rfl⟩) | (refine app1_L encSt (sz := 2) (fun _ => rfl) cellSt5 _ H.length (c.2.take i) s _ rfl rfl (by exact aget0 _ _ _) sl26 sz86 by86 zr86 rfl (by decide) (by decide) (by rw [List.length_take]; omega) ?_; exact ⟨rfl, rfl⟩) | trace_state)
    case' hQ => skip
    rw [hst]
    simp only [push_cast, Nat.reduceAdd, Nat.reduceSub, Nat.reduceMul, Nat.reduceLT, Nat.reduceLeDiff, Nat.reduceEqDiff, Int.reduceToNat, ↓reduceIte]
    repeat' first | refine ⟨by omega, ?_⟩ | refine cI (fun _ => ?_) (fun _ => ?_)
    exact loopW_n (i + 1) (by omega) (by omega) (by simp only [push_cast, Nat.reduceAdd, Nat.reduceSub, Nat.reduceMul, Nat.reduceLT, Nat.reduceLeDiff, Nat.reduceEqDiff, Int.reduceToNat, ↓reduceIte])
  · rw [List.take_of_length_le (show c.2.length ≤ i by omega)]
def zeroCh : ChP := (zeroT, [])
def joinE (rs : List (Term × Term)) (a b : ChP) : ChP × Int :=
  if (termsC rs a).2 ≠ 0 then (zeroCh, (termsC rs a).2) else if (termsE rs b).2 ≠ 0 then (zeroCh, (termsE rs b).2) else if (termsC rs a).1.getLastD zeroT ≠ b.1 then (zeroCh, 9) else if 4096 < a.2.length + b.2.length then (zeroCh, 3) else ((a.1, a.2 ++ b.2), 0)
@[reducible] def encCE (q : ChP × Int) : AV := .tup [encCh q.1, .int .i64 q.2]
theorem zeroCh_enc : encCh zeroCh = .agg [.str [], .bool false, .sl .none [], .sl .none []] := by
  have h : encTs zeroT.args = [] := encTs_nil
  show AV.agg [.str zeroT.name, .bool zeroT.var, .sl .none (encTs zeroT.args), .sl .none (encL encSt [])] = _
  rw [h]; rfl
set_option maxHeartbeats 2000000 in
theorem join_ac (rs : List (Term × Term)) (hlen : rs.length < 1099511627776) (hb : BndR rs) (a b : ChP) (ha : ChB a) (hbb : ChB b) (H : List AObj) :
    ACall Tryz.prog 19 [.sl .none (encL encRu rs), encCh a, encCh b] H (fun r H' => r = encCE (joinE rs a b) ∧ H' = H) := by
  refine ACall_V (H.length) 62 [.cell 6 28, .tmp 7] Tryz.func19 rfl rfl rfl ?_
  simp only [push_cast, Nat.reduceAdd, Nat.reduceSub, Nat.reduceMul, Nat.reduceLT, Nat.reduceLeDiff, Nat.reduceEqDiff, Int.reduceToNat, ↓reduceIte]
  refine (dterms_ac rs hlen hb a ha.1 ha.2.1 ha.2.2 _).to ?_
  simp only [push_cast, Nat.reduceAdd, Nat.reduceSub, Nat.reduceMul, Nat.reduceLT, Nat.reduceLeDiff, Nat.reduceEqDiff, Int.reduceToNat, ↓reduceIte, encTE]
  unfold joinE
  refine cI (fun h => ?_) (fun h => ?_)
  · rw [if_neg (by simpa using h)]
    obtain ⟨z1, z2, z3, z4⟩ := termsC_spec h
    obtain ⟨pre, u, he, hp⟩ := termsC_ne h
    refine (run_ac rs z1 b hbb.1 hbb.2.1 hbb.2.2 _).to ?_
    simp only [push_cast, Nat.reduceAdd, Nat.reduceSub, Nat.reduceMul, Nat.reduceLT, Nat.reduceLeDiff, Nat.reduceEqDiff, Int.reduceToNat, ↓reduceIte, encTE]
    refine cI (fun h1 => ?_) (fun h1 => ?_)
    · rw [if_neg (by simpa using h1)]
      obtain ⟨T, hT⟩ : ∃ T, T = (termsC rs a).1 := ⟨_, rfl⟩
      rw [← hT] at z2 z4 he ⊢
      have hub : u.bulk ≤ 1099511627775 := by have := check_small (z4 u (by rw [he]; simp)); omega
      have hlast : T.getLastD zeroT = u := by rw [he]; simp
      have hm : (T.length : Int) - 1 = ((pre.length : Nat) : Int) := by rw [he]; simp
      have hget : ∀ h, T[pre.length]'h = u := by intro h; simp only [he]; simp
      have hpl : pre.length < T.length := by rw [he]; simp
      have heq := fun X => equal_ac u b.1 hub hbb.1 X
      rw [hlast]
      obtain ⟨_, _, hbl, hbl2⟩ := terms_last h1
      apply AW_drawE [some 34, some 35, some 36, some 37, some 38, some 39, some 40, some 41, some 42, some 43, some 33] [([], _)] [none, none, none, none, none, none, none, none, none, none, none] 0 [(0, [], [8]), (1, [], [8]), (2, [], [35]), (3, [], [36]), (4, [], [34, 2]), (5, [], [38]), (6, [], [5]), (7, [], [40]), (8, [], [39, 1]), (9, [], [42]), (10, [], [43])] [_, _, _, _, _, _, _, _, _, _, _]
      case' hm => exact dr
      case' hn => rfl
      case' hok => rfl
      case' hlen => rfl
      case' hd => rfl
      case' h0 => rfl
      case' hstep =>
       simp only [DAllG, push_cast, Option.isSome_some, Option.isSome_none]
       repeat' apply And.intro
       all_goals (apply DOne_V; simp only [push_cast, Nat.reduceAdd, Nat.reduceSub, Nat.reduceMul, Nat.reduceLT, Nat.reduceLeDiff, Nat.reduceEqDiff, Int.reduceToNat, ↓reduceIte, hm, hget] <;> first | exact rfl | omega | exact ⟨rfl, rfl⟩ | exact trivial | exact ⟨by omega, rfl⟩ | exact ⟨by omega, by omega, rfl⟩ | exact ⟨by omega, rfl, rfl⟩ | exact ⟨by omega, by omega, rfl, rfl⟩ | (refine (heq _).to ?_; exact ⟨rfl, rfl⟩) | exact ⟨⟨by omega, by omega⟩, trivial⟩ | exact ⟨⟨by omega, by omega⟩, rfl⟩ | exact ⟨by omega, trivial⟩ | exact ⟨hpl, rfl⟩ | exact ⟨hpl, trivial⟩ | trace_state)
      case' hQ => skip
      simp only [push_cast, Nat.reduceAdd, Nat.reduceSub, Nat.reduceMul, Nat.reduceLT, Nat.reduceLeDiff, Nat.reduceEqDiff, Int.reduceToNat, ↓reduceIte]
      refine cI (fun h2 => ?_) (fun h2 => ?_)
      · rw [if_neg (by simpa using h2)]
        refine ⟨by omega, ?_⟩
        refine cI (fun h3 => ?_) (fun h3 => ?_)
        · rw [if_pos (by omega)]
          exact ⟨⟨rfl, rfl, encTs_nil.symm, rfl⟩, rfl⟩
        · rw [if_neg (by omega)]
          refine (ownC_ac a ha _).to ?_
          simp only [push_cast, Nat.reduceAdd, Nat.reduceSub, Nat.reduceMul, Nat.reduceLT, Nat.reduceLeDiff, Nat.reduceEqDiff, Int.reduceToNat, ↓reduceIte]
          have how := fun X => ownC2_ac b hbb X
          have hal := ha.2.1
          apply AW_drawE [some 57, some 58, some 59, some 60, some 61, some 62, some 63, none] [([false, false], _), ([true, false], _), ([true, true], _)] [none, none, none, none, none, some 0, none, some 1] 2 [(0, [false, false], [12]), (1, [false, false], [57]), (2, [false, false], [5]), (3, [false, false], [59]), (4, [false, false], [60]), (5, [false, false], [58, 2]), (6, [true, false], [12]), (7, [true, false], [62, 0]), (0, [true, false], [12]), (2, [true, false], [5])] [_, _, _, _, _, _, _, _]
          case' hm => exact dr
          case' hn => rfl
          case' hok => rfl
          case' hlen => rfl
          case' hd => rfl
          case' h0 => rfl
          case' hstep =>
           simp only [DAllG, push_cast, Option.isSome_some, Option.isSome_none]
           repeat' apply And.intro
           all_goals (apply DOne_V; simp only [push_cast, Nat.reduceAdd, Nat.reduceSub, Nat.reduceMul, Nat.reduceLT, Nat.reduceLeDiff, Nat.reduceEqDiff, Int.reduceToNat, ↓reduceIte] <;> first | exact rfl | omega | exact ⟨rfl, rfl⟩ | exact trivial | exact ⟨by omega, rfl⟩ | exact ⟨by omega, by omega, rfl⟩ | exact ⟨by omega, rfl, rfl⟩ | exact ⟨by omega, by omega, rfl, rfl⟩ | (refine (how _).to ?_; exact ⟨rfl, rfl⟩) | (refine app_L encSt (sz := 2) (fun _ => rfl) cellSt5 _ (H.length + 3) a.2 b.2 _ rfl rfl (by exact (agetN _ _ 3).trans rfl) sl26 sz86 by86 zr86 rfl (by decide) (by decide) (by omega) ?_; exact ⟨rfl, rfl⟩) | trace_state)
          case' hQ => skip
          simp only [push_cast, Nat.reduceAdd, Nat.reduceSub, Nat.reduceMul, Nat.reduceLT, Nat.reduceLeDiff, Nat.reduceEqDiff, Int.reduceToNat, ↓reduceIte]
      · rw [if_pos h2]
        simp only [push_cast, Nat.reduceAdd, Nat.reduceSub, Nat.reduceMul, Nat.reduceLT, Nat.reduceLeDiff, Nat.reduceEqDiff, Int.reduceToNat, ↓reduceIte]
        exact ⟨rfl, rfl, encTs_nil.symm, rfl⟩
    · rw [if_pos h1]
      simp only [push_cast, Nat.reduceAdd, Nat.reduceSub, Nat.reduceMul, Nat.reduceLT, Nat.reduceLeDiff, Nat.reduceEqDiff, Int.reduceToNat, ↓reduceIte]
      exact ⟨rfl, rfl, encTs_nil.symm, rfl⟩
  · rw [if_pos h]
    simp only [push_cast, Nat.reduceAdd, Nat.reduceSub, Nat.reduceMul, Nat.reduceLT, Nat.reduceLeDiff, Nat.reduceEqDiff, Int.reduceToNat, ↓reduceIte]
    exact ⟨rfl, rfl, encTs_nil.symm, rfl⟩
end Ab
set_option maxRecDepth 10000
namespace Ab
open Go Go.Proofs
theorem run_append {rs : List (Term × Term)} (l2 : List (Int × List Int)) : ∀ (l1 : List (Int × List Int)) (pre : List Term) (t : Term) (q : List Term) (u : Term), runF rs (pre ++ [t]) t l1 = (q ++ [u], 0) → runF rs (pre ++ [t]) t (l1 ++ l2) = runF rs (q ++ [u]) u l2
  | [], pre, t, q, u, h => by
    rw [runF, Prod.mk.injEq] at h
    obtain ⟨e1, e2⟩ := List.append_inj' h.1 rfl
    injection e2 with e2
    rw [List.nil_append, e1, e2]
  | s :: l1, pre, t, q, u, h => by
    rw [runF] at h
    rw [List.cons_append, runF]
    by_cases hd : (doE rs t s).2 ≠ 0
    · rw [if_pos hd] at h
      injection h with _ h
      exact absurd h hd
    · rw [if_neg hd] at h ⊢
      exact run_append l2 l1 (pre ++ [t]) (doE rs t s).1 q u h
theorem run_acc {rs : List (Term × Term)} (p : List Term) : ∀ (l : List (Int × List Int)) (acc : List Term) (t : Term), (runF rs acc t l).2 = 0 → runF rs (p ++ acc) t l = (p ++ (runF rs acc t l).1, 0)
  | [], acc, t, _ => rfl
  | s :: l, acc, t, h => by
    rw [runF] at h ⊢
    rw [runF]
    by_cases hd : (doE rs t s).2 ≠ 0
    · rw [if_pos hd] at h; exact absurd h hd
    · rw [if_neg hd] at h ⊢
      rw [if_neg hd, List.append_assoc]
      exact run_acc p l _ _ h
theorem terms_ok {rs : List (Term × Term)} {c : ChP} (h : (termsE rs c).2 = 0) : checkP c.1 = 0 ∧ c.2.length ≤ 4096 ∧ termsE rs c = runF rs [c.1] c.1 c.2 := by
  unfold termsE at h ⊢
  by_cases h1 : 4096 < c.2.length
  · rw [if_pos h1] at h; cases h
  · rw [if_neg h1] at h ⊢
    by_cases h2 : checkP c.1 ≠ 0
    · rw [if_pos h2] at h; exact absurd h h2
    · rw [if_neg h2]
      exact ⟨by simpa using h2, by omega, rfl⟩
theorem terms_join {rs : List (Term × Term)} {a b : ChP} (ha : (termsE rs a).2 = 0) (hb : (termsE rs b).2 = 0) (hl : (termsE rs a).1.getLastD zeroT = b.1) (hn : a.2.length + b.2.length ≤ 4096) :
    (termsE rs (a.1, a.2 ++ b.2)).2 = 0 ∧ (termsE rs (a.1, a.2 ++ b.2)).1.getLastD zeroT = (termsE rs b).1.getLastD zeroT := by
  obtain ⟨a1, a2, a3⟩ := terms_ok ha
  obtain ⟨b1, b2, b3⟩ := terms_ok hb
  obtain ⟨q, u, e1, _⟩ := terms_last ha
  obtain ⟨q2, u2, e2, _⟩ := terms_last hb
  have hu : u = b.1 := by rw [← hl, e1]; simp
  have hra : runF rs ([] ++ [a.1]) a.1 a.2 = (q ++ [u], 0) := by
    rw [List.nil_append, ← a3]
    exact Prod.ext e1 ha
  have hrb : (runF rs [u] u b.2).2 = 0 := by rw [hu, ← b3]; exact hb
  have key : termsE rs (a.1, a.2 ++ b.2) = (q ++ (termsE rs b).1, 0) := by
    have e3 : termsE rs (a.1, a.2 ++ b.2) = runF rs [a.1] a.1 (a.2 ++ b.2) := by
      unfold termsE
      simp only
      rw [if_neg (by rw [List.length_append]; omega), if_neg (by rw [a1]; simp)]
    have h1 := run_append (rs := rs) b.2 a.2 [] a.1 q u hra
    rw [List.nil_append] at h1
    rw [e3, h1, run_acc q b.2 [u] u hrb, hu, ← b3]
  rw [key, e2]
  simp
theorem check_two (rs : List (Term × Term)) (a b : ChP) (h : checkCP rs [a, b] ≠ 0) : joinE rs a b = (zeroCh, checkCP rs [a, b]) := by
  unfold joinE
  unfold checkCP at h ⊢
  unfold termsC
  by_cases h1 : sysP rs ≠ 0
  · rw [if_pos h1] at h ⊢; rw [if_pos h1, if_pos h1]
  · rw [if_neg h1] at h ⊢
    rw [if_neg h1]
    simp only [firstC] at h ⊢
    by_cases h2 : (termsE rs a).2 = 0
    · rw [if_pos h2] at h ⊢
      rw [if_neg (by simpa using h2)]
      by_cases h3 : (termsE rs b).2 = 0
      · rw [if_pos h3] at h; exact absurd rfl h
      · rw [if_pos h3, if_neg h3]
    · rw [if_neg h2, if_pos h2]
theorem check_two0 {rs : List (Term × Term)} {a b : ChP} (h : checkCP rs [a, b] = 0) : sysP rs = 0 ∧ (termsE rs a).2 = 0 ∧ (termsE rs b).2 = 0 := by
  unfold checkCP at h
  by_cases h1 : sysP rs ≠ 0
  · rw [if_pos h1] at h; exact absurd h h1
  · rw [if_neg h1] at h
    simp only [firstC] at h
    by_cases h2 : (termsE rs a).2 = 0
    · rw [if_pos h2] at h
      by_cases h3 : (termsE rs b).2 = 0
      · exact ⟨by simpa using h1, h2, h3⟩
      · rw [if_neg h3] at h; exact absurd h h3
    · rw [if_neg h2] at h; exact absurd h h2
theorem lastR_ac (rs : List (Term × Term)) (hru : RuB rs) (c : ChP) (hc : ChB c) (h0 : (termsE rs c).2 = 0) (H : List AObj) :
    ACall Tryz.prog 21 [.sl .none (encL encRu rs), encCh c] H (fun r H' => r = encT ((termsE rs c).1.getLastD zeroT) ∧ H' = H) := by
  obtain ⟨pre, u, he, hp, hp2⟩ := terms_last h0
  refine ACall_V (H.length) 17 [.cell 4 25] Tryz.func21 rfl rfl rfl ?_
  simp only [push_cast, Nat.reduceAdd, Nat.reduceSub, Nat.reduceMul, Nat.reduceLT, Nat.reduceLeDiff, Nat.reduceEqDiff, Int.reduceToNat, ↓reduceIte]
  refine (termsR_ac rs hru c hc.1 hc.2.1 hc.2.2 _).to ?_
  simp only [push_cast, Nat.reduceAdd, Nat.reduceSub, Nat.reduceMul, Nat.reduceLT, Nat.reduceLeDiff, Nat.reduceEqDiff, Int.reduceToNat, ↓reduceIte, encTE]
  rw [he]
  have hl : (pre ++ [u]).length = pre.length + 1 := by simp
  have hlast : (pre ++ [u]).getLastD zeroT = u := by simp
  rw [hlast]
  simp only [push_cast, Nat.reduceAdd, Nat.reduceSub, Nat.reduceMul, Nat.reduceLT, Nat.reduceLeDiff, Nat.reduceEqDiff, Int.reduceToNat, ↓reduceIte]
  refine ⟨⟨by omega, by omega⟩, by first | omega | simp, ⟨by first | omega | simp, ?_⟩⟩
  simp
def isCh (c : ChP) (e : Int) (want : ChP) (bad : Int) : Bool := if bad = 0 then decide (e = 0) && decide (c = want) else decide (e = bad) && decide (c = zeroCh)
theorem chain5_ac (c : ChP) (e : Int) (want : ChP) (bad : Int) (h1 : ChB c) (h2 : ChB want) (H : List AObj) :
    ACall Tryz.prog 22 [encCh c, .int .i64 e, encCh want, .int .i64 bad] H (fun r H' => r = .bool (isCh c e want bad) ∧ H' = H) := by
  have hz : ChB zeroCh := ⟨by simp [zeroCh, zeroT, Term.bulk_mk], by simp [zeroCh], fun x hx => by simp [zeroCh] at hx⟩
  refine ACall_V (H.length) 22 [.tmp 8] Tryz.func22 rfl rfl rfl ?_
  simp only [push_cast, Nat.reduceAdd, Nat.reduceSub, Nat.reduceMul, Nat.reduceLT, Nat.reduceLeDiff, Nat.reduceEqDiff, Int.reduceToNat, ↓reduceIte]
  unfold isCh
  refine cI (fun h => cI (fun he => ?_) (fun he => ?_)) (fun h => cI (fun he => ?_) (fun he => ?_))
  · refine (sameChain_ac c want h1 h2 _).to ?_
    simp only [push_cast, Nat.reduceAdd, Nat.reduceSub, Nat.reduceMul, Nat.reduceLT, Nat.reduceLeDiff, Nat.reduceEqDiff, Int.reduceToNat, ↓reduceIte]
    simp [h, he]
  · simp [h, he]
  · refine ACall.forget (args' := [encCh c, encCh zeroCh]) ⟨Forget.refl _, by rw [zeroCh_enc]; exact fgtW_spec _ _ (by simp only [push_cast, Nat.reduceAdd, Nat.reduceSub, Nat.reduceMul, Nat.reduceLT, Nat.reduceLeDiff, Nat.reduceEqDiff, Int.reduceToNat, ↓reduceIte]), trivial⟩ ((sameChain_ac c zeroCh h1 hz _).to ?_)
    simp only [push_cast, Nat.reduceAdd, Nat.reduceSub, Nat.reduceMul, Nat.reduceLT, Nat.reduceLeDiff, Nat.reduceEqDiff, Int.reduceToNat, ↓reduceIte]
    simp [h, he]
  · simp [h, he]
theorem isCh_self (c : ChP) (want : ChP) (bad : Int) (h : if bad = 0 then c = want else c = zeroCh) : isCh c bad want bad = true := by
  unfold isCh
  by_cases h0 : bad = 0
  · rw [if_pos h0] at h; rw [if_pos h0, decide_eq_true h0, decide_eq_true h]; rfl
  · rw [if_neg h0] at h; rw [if_neg h0, decide_eq_true rfl, decide_eq_true h]; rfl
set_option maxHeartbeats 8000000 in
theorem joinsLaw_ac (rs : List (Term × Term)) (hlen : rs.length < 1099511627776) (hru : RuB rs) (a b : ChP) (ha : ChB a) (hbb : ChB b) (hal : a.2.length ≤ 1048576) (hbl : b.2.length ≤ 1048576) (H : List AObj) :
    ACall Tryz.prog 4 [.sl .none (encL encRu rs), encCh a, encCh b] H (fun r H' => r = .bool true ∧ H' = H) := by
  have hb : BndR rs := fun r hr => by have := hru r hr; omega
  have hw : ChB (a.1, a.2 ++ b.2) := ⟨ha.1, by simp; omega, fun x hx => by rcases List.mem_append.1 hx with hx | hx; exact ha.2.2 x hx; exact hbb.2.2 x hx⟩
  have hz : ChB zeroCh := ⟨by simp [zeroCh, zeroT, Term.bulk_mk], by simp [zeroCh], fun x hx => by simp [zeroCh] at hx⟩
  have hck := fun X => checkC_ac rs hlen hru [a, b] (by simp) (fun x hx => by simp at hx; rcases hx with rfl | rfl; exact ha; exact hbb) X
  obtain ⟨W, hW⟩ : ∃ W : ChP, W = (a.1, a.2 ++ b.2) := ⟨_, rfl⟩
  refine ACall_VA (H.length) 82 [.tmp 6] Tryz.func4 rfl rfl rfl ?_
  refine AW_reserve 1 ?_
  refine AW_of_W ?_
  simp only [push_cast, Nat.reduceAdd, Nat.reduceSub, Nat.reduceMul, Nat.reduceLT, Nat.reduceLeDiff, Nat.reduceEqDiff, Int.reduceToNat, ↓reduceIte]
  refine (join_ac rs hlen hb a b ha hbb _).to ?_
  simp only [push_cast, Nat.reduceAdd, Nat.reduceSub, Nat.reduceMul, Nat.reduceLT, Nat.reduceLeDiff, Nat.reduceEqDiff, Int.reduceToNat, ↓reduceIte]
  have hWB : ChB W := by rw [hW]; exact hw
  have hcn : ∀ (J : ChP) (hJ : ChB J) (e bad : Int) (h : isCh J e W bad = true) X k, ACall Tryz.prog 22 [encCh J, .int .i64 e, .agg [.str a.1.name, .bool a.1.var, .sl .none (encTs a.1.args), gSl k (encL encSt (a.2 ++ b.2))], .int .i64 bad] X (fun r H' => r = .bool true ∧ H' = X) := fun J hJ e bad h X k =>
    ACall.forget (args' := [encCh J, .int .i64 e, encCh W, .int .i64 bad]) ⟨Forget.refl _, Forget.refl _, (by rw [hW]; exact fgtW_spec _ _ (by simp only [push_cast, Nat.reduceAdd, Nat.reduceSub, Nat.reduceMul, Nat.reduceLT, Nat.reduceLeDiff, Nat.reduceEqDiff, Int.reduceToNat, ↓reduceIte])), Forget.refl _, trivial⟩ (by have h1 := chain5_ac J e W bad hJ hWB X; rw [h] at h1; exact h1)
  by_cases h : checkCP rs [a, b] = 0
  · obtain ⟨z1, zA, zB⟩ := check_two0 h
    rw [h] at hck
    refine (hck _).to ?_
    simp only [push_cast, Nat.reduceAdd, Nat.reduceSub, Nat.reduceMul, Nat.reduceLT, Nat.reduceLeDiff, Nat.reduceEqDiff, Int.reduceToNat, ↓reduceIte]
    have d0 : decide ((0 : Int) = 0) = true := decide_eq_true rfl
    have hCA : termsC rs a = termsE rs a := if_neg (by simpa using z1)
    obtain ⟨q, u, e1, _⟩ := terms_last zA
    have hlu : (termsE rs a).1.getLastD zeroT = u := by rw [e1]; simp
    have hub : u.bulk ≤ 1099511627775 := by
      obtain ⟨_, g, _⟩ := terms_chain z1 zA
      have := check_small (g u (by rw [e1]; simp))
      omega
    have hla := fun X => lastR_ac rs hru a ha zA X
    rw [hlu] at hla
    have heq := fun X => equalR_ac u b.1 hub hbb.1 X
    have hje : joinE rs a b = if u ≠ b.1 then (zeroCh, 9) else if 4096 < a.2.length + b.2.length then (zeroCh, 3) else ((a.1, a.2 ++ b.2), 0) := by
      unfold joinE
      rw [hCA, hlu, if_neg (by simpa using zA), if_neg (by simpa using zB)]
    by_cases hu : u = b.1
    · have du : decide (u = b.1) = true := decide_eq_true hu
      rw [if_neg (by simpa using hu)] at hje
      rw [du] at heq
      by_cases hn : 4096 < a.2.length + b.2.length
      · rw [if_pos hn] at hje
        apply AW_drawE [some 25, some 26, some 27, some 28, some 29, some 30, some 31, some 32, some 33, some 34, some 35] [([], _)] [none, none, none, none, none, none, none, none, none, none, none] 0 [(0, [], [9]), (1, [], [25]), (2, [], [26]), (3, [], [0, 26]), (4, [], [4, 22]), (5, [], [27, 0, 0]), (6, [], [5, 21]), (7, [], [27, 3]), (8, [], [27, 2, 1]), (9, [], [27, 5]), (10, [], [27, 6])] [_, _, _, _, _, _, _, _, _, _, _]
        case' hm => exact dr
        case' hn => rfl
        case' hok => rfl
        case' hlen => rfl
        case' hd => rfl
        case' h0 => rfl
        case' hstep =>
         simp only [DAllG, push_cast, Option.isSome_some, Option.isSome_none]
         repeat' apply And.intro
         all_goals (apply DOne_V; simp only [push_cast, Nat.reduceAdd, Nat.reduceSub, Nat.reduceMul, Nat.reduceLT, Nat.reduceLeDiff, Nat.reduceEqDiff, Int.reduceToNat, ↓reduceIte, d0, hje, Bool.not_true] <;> first | exact rfl | omega | exact ⟨rfl, rfl⟩ | exact trivial | exact ⟨by omega, rfl⟩ | exact ⟨by omega, by omega, rfl⟩ | exact ⟨by omega, rfl, rfl⟩ | exact ⟨by omega, by omega, rfl, rfl⟩ | (refine (hla _).to ?_; exact ⟨rfl, rfl⟩) | (refine (heq _).to ?_; exact ⟨rfl, rfl⟩) | trace_state)
        case' hQ => skip
        simp only [push_cast, Nat.reduceAdd, Nat.reduceSub, Nat.reduceMul, Nat.reduceLT, Nat.reduceLeDiff, Nat.reduceEqDiff, Int.reduceToNat, ↓reduceIte, d0, hje]
        refine ⟨by omega, cI (fun _ => ?_) (fun h => absurd h (by omega))⟩
        apply AW_drawE [some 48, some 49, some 50, some 51, some 52, some 53, some 54, some 55, some 56, some 57, some 10, none] [([false, false, false, false], _), ([false, false, true, false], _), ([true, false, false, false], _), ([true, false, true, false], _), ([true, true, false, false], _), ([true, true, true, false], _), ([true, true, true, true], _)] [none, none, none, none, none, some 0, none, none, some 1, none, some 2, some 3] 4 [(0, [false, false, false, false], [4]), (1, [false, false, false, false], [48]), (2, [false, false, false, false], []), (3, [false, false, false, false], [4]), (4, [false, false, false, false], [51]), (5, [false, false, false, false], [50, 1]), (6, [false, false, false, false], [5]), (7, [false, false, false, false], [54]), (10, [false, false, false, false], []), (0, [false, false, true, false], [4]), (0, [true, false, false, false], [4]), (1, [false, false, true, false], [48]), (1, [true, false, false, false], [48]), (2, [false, false, true, false], []), (3, [false, false, true, false], [4]), (3, [true, false, false, false], [4]), (4, [false, false, true, false], [51]), (5, [false, false, true, false], [50, 1]), (6, [true, false, false, false], [5]), (6, [false, false, true, false], [5]), (7, [true, false, false, false], [54]), (7, [false, false, true, false], [54]), (8, [true, false, false, false], [53, 1]), (10, [true, false, false, false], []), (0, [true, false, true, false], [4]), (0, [true, true, false, false], [4]), (1, [true, false, true, false], [48]), (1, [true, true, false, false], [48]), (3, [true, false, true, false], [4]), (3, [true, true, false, false], [4]), (6, [true, false, true, false], [5]), (6, [true, true, false, false], [5]), (7, [true, false, true, false], [54]), (8, [true, false, true, false], [53, 1]), (9, [true, true, false, false], [49, 6]), (10, [true, true, false, false], []), (0, [true, true, true, false], [4]), (1, [true, true, true, false], [48]), (3, [true, true, true, false], [4]), (6, [true, true, true, false], [5]), (9, [true, true, true, false], [49, 6]), (11, [true, true, true, false], [10, 46])] [_, _, _, _, _, _, _, _, _, _, _, _]
        case' hm => exact dr
        case' hn => rfl
        case' hok => rfl
        case' hlen => rfl
        case' hd => rfl
        case' h0 => rfl
        case' hstep =>
         simp only [DAllG, push_cast, Option.isSome_some, Option.isSome_none]
         repeat' apply And.intro
         all_goals (apply DOne_V; simp only [push_cast, Nat.reduceAdd, Nat.reduceSub, Nat.reduceMul, Nat.reduceLT, Nat.reduceLeDiff, Nat.reduceEqDiff, Int.reduceToNat, ↓reduceIte] <;> first | exact rfl | omega | exact ⟨rfl, rfl⟩ | exact trivial | exact ⟨by omega, rfl⟩ | exact ⟨by omega, by omega, rfl⟩ | exact ⟨by omega, rfl, rfl⟩ | exact ⟨by omega, by omega, rfl, rfl⟩ | (refine app_L encSt (sz := 2) (fun _ => rfl) cellSt5 _ H.length [] a.2 _ rfl rfl (by exact aget0 _ _ _) sl26 sz86 by86 zr86 rfl (by decide) (by decide) (by simp only [List.length_nil]; omega) ?_; simp only [push_cast, Nat.reduceAdd, Nat.reduceSub, Nat.reduceMul, Nat.reduceLT, Nat.reduceLeDiff, Nat.reduceEqDiff, Int.reduceToNat, ↓reduceIte, List.nil_append] <;> first | exact ⟨rfl, rfl⟩ | rfl) | (refine app_L encSt (sz := 2) (fun _ => rfl) cellSt5 _ H.length a.2 b.2 _ rfl rfl (by exact aget0 _ _ _) sl26 sz86 by86 zr86 rfl (by decide) (by decide) (by omega) ?_; exact ⟨rfl, rfl⟩) | trace_state)
        case' hQ => skip
        simp only [push_cast, Nat.reduceAdd, Nat.reduceSub, Nat.reduceMul, Nat.reduceLT, Nat.reduceLeDiff, Nat.reduceEqDiff, Int.reduceToNat, ↓reduceIte]
        refine (hcn zeroCh hz 3 3 (isCh_self _ _ _ (by rw [if_neg (by decide)])) _ _).to ?_
        simp only [push_cast, Nat.reduceAdd, Nat.reduceSub, Nat.reduceMul, Nat.reduceLT, Nat.reduceLeDiff, Nat.reduceEqDiff, Int.reduceToNat, ↓reduceIte]
        refine cI (fun h0 => absurd h0 (by decide)) (fun _ => ?_)
        refine (alive5_ac _).to ?_
        simp only [push_cast, Nat.reduceAdd, Nat.reduceSub, Nat.reduceMul, Nat.reduceLT, Nat.reduceLeDiff, Nat.reduceEqDiff, Int.reduceToNat, ↓reduceIte]
      · rw [if_neg hn] at hje
        apply AW_drawE [some 25, some 26, some 27, some 28, some 29, some 30, some 31, some 32, some 33, some 34, some 35] [([], _)] [none, none, none, none, none, none, none, none, none, none, none] 0 [(0, [], [9]), (1, [], [25]), (2, [], [26]), (3, [], [0, 26]), (4, [], [4, 22]), (5, [], [27, 0, 0]), (6, [], [5, 21]), (7, [], [27, 3]), (8, [], [27, 2, 1]), (9, [], [27, 5]), (10, [], [27, 6])] [_, _, _, _, _, _, _, _, _, _, _]
        case' hm => exact dr
        case' hn => rfl
        case' hok => rfl
        case' hlen => rfl
        case' hd => rfl
        case' h0 => rfl
        case' hstep =>
         simp only [DAllG, push_cast, Option.isSome_some, Option.isSome_none]
         repeat' apply And.intro
         all_goals (apply DOne_V; simp only [push_cast, Nat.reduceAdd, Nat.reduceSub, Nat.reduceMul, Nat.reduceLT, Nat.reduceLeDiff, Nat.reduceEqDiff, Int.reduceToNat, ↓reduceIte, d0, hje, Bool.not_true] <;> first | exact rfl | omega | exact ⟨rfl, rfl⟩ | exact trivial | exact ⟨by omega, rfl⟩ | exact ⟨by omega, by omega, rfl⟩ | exact ⟨by omega, rfl, rfl⟩ | exact ⟨by omega, by omega, rfl, rfl⟩ | (refine (hla _).to ?_; exact ⟨rfl, rfl⟩) | (refine (heq _).to ?_; exact ⟨rfl, rfl⟩) | trace_state)
        case' hQ => skip
        simp only [push_cast, Nat.reduceAdd, Nat.reduceSub, Nat.reduceMul, Nat.reduceLT, Nat.reduceLeDiff, Nat.reduceEqDiff, Int.reduceToNat, ↓reduceIte, d0, hje]
        refine ⟨by omega, cI (fun h => absurd h (by omega)) (fun _ => ?_)⟩
        apply AW_drawE [some 48, some 49, some 50, some 51, some 52, some 53, some 54, some 55, some 56, some 57, some 10, none] [([false, false, false, false], _), ([false, false, true, false], _), ([true, false, false, false], _), ([true, false, true, false], _), ([true, true, false, false], _), ([true, true, true, false], _), ([true, true, true, true], _)] [none, none, none, none, none, some 0, none, none, some 1, none, some 2, some 3] 4 [(0, [false, false, false, false], [4]), (1, [false, false, false, false], [48]), (2, [false, false, false, false], []), (3, [false, false, false, false], [4]), (4, [false, false, false, false], [51]), (5, [false, false, false, false], [50, 1]), (6, [false, false, false, false], [5]), (7, [false, false, false, false], [54]), (10, [false, false, false, false], []), (0, [false, false, true, false], [4]), (0, [true, false, false, false], [4]), (1, [false, false, true, false], [48]), (1, [true, false, false, false], [48]), (2, [false, false, true, false], []), (3, [false, false, true, false], [4]), (3, [true, false, false, false], [4]), (4, [false, false, true, false], [51]), (5, [false, false, true, false], [50, 1]), (6, [true, false, false, false], [5]), (6, [false, false, true, false], [5]), (7, [true, false, false, false], [54]), (7, [false, false, true, false], [54]), (8, [true, false, false, false], [53, 1]), (10, [true, false, false, false], []), (0, [true, false, true, false], [4]), (0, [true, true, false, false], [4]), (1, [true, false, true, false], [48]), (1, [true, true, false, false], [48]), (3, [true, false, true, false], [4]), (3, [true, true, false, false], [4]), (6, [true, false, true, false], [5]), (6, [true, true, false, false], [5]), (7, [true, false, true, false], [54]), (8, [true, false, true, false], [53, 1]), (9, [true, true, false, false], [49, 6]), (10, [true, true, false, false], []), (0, [true, true, true, false], [4]), (1, [true, true, true, false], [48]), (3, [true, true, true, false], [4]), (6, [true, true, true, false], [5]), (9, [true, true, true, false], [49, 6]), (11, [true, true, true, false], [10, 46])] [_, _, _, _, _, _, _, _, _, _, _, _]
        case' hm => exact dr
        case' hn => rfl
        case' hok => rfl
        case' hlen => rfl
        case' hd => rfl
        case' h0 => rfl
        case' hstep =>
         simp only [DAllG, push_cast, Option.isSome_some, Option.isSome_none]
         repeat' apply And.intro
         all_goals (apply DOne_V; simp only [push_cast, Nat.reduceAdd, Nat.reduceSub, Nat.reduceMul, Nat.reduceLT, Nat.reduceLeDiff, Nat.reduceEqDiff, Int.reduceToNat, ↓reduceIte] <;> first | exact rfl | omega | exact ⟨rfl, rfl⟩ | exact trivial | exact ⟨by omega, rfl⟩ | exact ⟨by omega, by omega, rfl⟩ | exact ⟨by omega, rfl, rfl⟩ | exact ⟨by omega, by omega, rfl, rfl⟩ | (refine app_L encSt (sz := 2) (fun _ => rfl) cellSt5 _ H.length [] a.2 _ rfl rfl (by exact aget0 _ _ _) sl26 sz86 by86 zr86 rfl (by decide) (by decide) (by simp only [List.length_nil]; omega) ?_; simp only [push_cast, Nat.reduceAdd, Nat.reduceSub, Nat.reduceMul, Nat.reduceLT, Nat.reduceLeDiff, Nat.reduceEqDiff, Int.reduceToNat, ↓reduceIte, List.nil_append] <;> first | exact ⟨rfl, rfl⟩ | rfl) | (refine app_L encSt (sz := 2) (fun _ => rfl) cellSt5 _ H.length a.2 b.2 _ rfl rfl (by exact aget0 _ _ _) sl26 sz86 by86 zr86 rfl (by decide) (by decide) (by omega) ?_; exact ⟨rfl, rfl⟩) | trace_state)
        case' hQ => skip
        simp only [push_cast, Nat.reduceAdd, Nat.reduceSub, Nat.reduceMul, Nat.reduceLT, Nat.reduceLeDiff, Nat.reduceEqDiff, Int.reduceToNat, ↓reduceIte]
        refine (hcn (a.1, a.2 ++ b.2) hw 0 0 (isCh_self _ _ _ (by rw [if_pos rfl, hW])) _ _).to ?_
        simp only [push_cast, Nat.reduceAdd, Nat.reduceSub, Nat.reduceMul, Nat.reduceLT, Nat.reduceLeDiff, Nat.reduceEqDiff, Int.reduceToNat, ↓reduceIte]
        obtain ⟨j1, j2⟩ := terms_join zA zB (by rw [hlu]; exact hu) (by omega)
        obtain ⟨w, hwl⟩ : ∃ w, w = (termsE rs b).1.getLastD zeroT := ⟨_, rfl⟩
        have hwb : w.bulk ≤ 1099511627775 := by
          obtain ⟨q2, u2, e2, _⟩ := terms_last zB
          obtain ⟨_, g, _⟩ := terms_chain z1 zB
          have := check_small (g w (by rw [hwl, e2]; simp))
          omega
        have hLW : lastC rs (a.1, a.2 ++ b.2) = (w, 0) := by
          unfold lastC
          have hCW : termsC rs (a.1, a.2 ++ b.2) = termsE rs (a.1, a.2 ++ b.2) := if_neg (by simpa using z1)
          rw [hCW, if_neg (by simpa using j1), j2, hwl]
        have hl1 := fun X => dlast_ac rs hlen hb (a.1, a.2 ++ b.2) hw.1 hw.2.1 hw.2.2 X
        rw [hLW] at hl1
        have hl2 := fun X => lastR_ac rs hru b hbb zB X
        rw [← hwl] at hl2
        have hq := fun X => equalR_ac w w hwb hwb X
        rw [decide_eq_true (rfl : w = w)] at hq
        refine (hl1 _).to ?_
        simp only [push_cast, Nat.reduceAdd, Nat.reduceSub, Nat.reduceMul, Nat.reduceLT, Nat.reduceLeDiff, Nat.reduceEqDiff, Int.reduceToNat, ↓reduceIte, encRE]
        apply AW_drawE [some 73, some 74, some 75, some 76, some 77, some 78, some 79, some 80, some 81, some 82, some 83, some 84, some 6] [([], _)] [none, none, none, none, none, none, none, none, none, none, none, none, none] 0 [(0, [], [12]), (1, [], [73]), (2, [], [74]), (3, [], [11, 63]), (4, [], [0, 74]), (5, [], [5, 69]), (6, [], [75, 1, 0]), (7, [], [75, 0, 2]), (8, [], [75, 4]), (9, [], [81]), (10, [], [82]), (11, [], [82, 0]), (12, [], [84])] [_, _, _, _, _, _, _, _, _, _, _, _, _]
        case' hm => exact dr
        case' hn => rfl
        case' hok => rfl
        case' hlen => rfl
        case' hd => rfl
        case' h0 => rfl
        case' hstep =>
         simp only [DAllG, push_cast, Option.isSome_some, Option.isSome_none]
         repeat' apply And.intro
         all_goals (apply DOne_V; simp only [push_cast, Nat.reduceAdd, Nat.reduceSub, Nat.reduceMul, Nat.reduceLT, Nat.reduceLeDiff, Nat.reduceEqDiff, Int.reduceToNat, ↓reduceIte, decide_true] <;> first | exact rfl | omega | exact ⟨rfl, rfl⟩ | exact trivial | exact ⟨by omega, rfl⟩ | exact ⟨by omega, by omega, rfl⟩ | exact ⟨by omega, rfl, rfl⟩ | exact ⟨by omega, by omega, rfl, rfl⟩ | (refine (hl2 _).to ?_; exact ⟨rfl, rfl⟩) | (refine (hq _).to ?_; exact ⟨rfl, rfl⟩) | (refine (alive5_ac _).to ?_; exact ⟨rfl, rfl⟩) | trace_state)
        case' hQ => skip
        simp only [push_cast, Nat.reduceAdd, Nat.reduceSub, Nat.reduceMul, Nat.reduceLT, Nat.reduceLeDiff, Nat.reduceEqDiff, Int.reduceToNat, ↓reduceIte]
    · have du : decide (u = b.1) = false := decide_eq_false hu
      rw [if_pos hu] at hje
      rw [du] at heq
      apply AW_drawE [some 25, some 26, some 27, some 28, some 29, some 30, some 31, some 32, some 33, some 34, some 35] [([], _)] [none, none, none, none, none, none, none, none, none, none, none] 0 [(0, [], [9]), (1, [], [25]), (2, [], [26]), (3, [], [0, 26]), (4, [], [4, 22]), (5, [], [27, 0, 0]), (6, [], [5, 21]), (7, [], [27, 3]), (8, [], [27, 2, 1]), (9, [], [27, 5]), (10, [], [27, 6])] [_, _, _, _, _, _, _, _, _, _, _]
      case' hm => exact dr
      case' hn => rfl
      case' hok => rfl
      case' hlen => rfl
      case' hd => rfl
      case' h0 => rfl
      case' hstep =>
       simp only [DAllG, push_cast, Option.isSome_some, Option.isSome_none]
       repeat' apply And.intro
       all_goals (apply DOne_V; simp only [push_cast, Nat.reduceAdd, Nat.reduceSub, Nat.reduceMul, Nat.reduceLT, Nat.reduceLeDiff, Nat.reduceEqDiff, Int.reduceToNat, ↓reduceIte, d0, hje, Bool.not_false] <;> first | exact rfl | omega | exact ⟨rfl, rfl⟩ | exact trivial | exact ⟨by omega, rfl⟩ | exact ⟨by omega, by omega, rfl⟩ | exact ⟨by omega, rfl, rfl⟩ | exact ⟨by omega, by omega, rfl, rfl⟩ | (refine (hla _).to ?_; exact ⟨rfl, rfl⟩) | (refine (heq _).to ?_; exact ⟨rfl, rfl⟩) | trace_state)
      case' hQ => skip
      simp only [push_cast, Nat.reduceAdd, Nat.reduceSub, Nat.reduceMul, Nat.reduceLT, Nat.reduceLeDiff, Nat.reduceEqDiff, Int.reduceToNat, ↓reduceIte, d0, hje]
      refine cI (fun h => absurd h (by decide)) (fun _ => ?_)
      apply AW_drawE [some 48, some 49, some 50, some 51, some 52, some 53, some 54, some 55, some 56, some 57, some 10, none] [([false, false, false, false], _), ([false, false, true, false], _), ([true, false, false, false], _), ([true, false, true, false], _), ([true, true, false, false], _), ([true, true, true, false], _), ([true, true, true, true], _)] [none, none, none, none, none, some 0, none, none, some 1, none, some 2, some 3] 4 [(0, [false, false, false, false], [4]), (1, [false, false, false, false], [48]), (2, [false, false, false, false], []), (3, [false, false, false, false], [4]), (4, [false, false, false, false], [51]), (5, [false, false, false, false], [50, 1]), (6, [false, false, false, false], [5]), (7, [false, false, false, false], [54]), (10, [false, false, false, false], []), (0, [false, false, true, false], [4]), (0, [true, false, false, false], [4]), (1, [false, false, true, false], [48]), (1, [true, false, false, false], [48]), (2, [false, false, true, false], []), (3, [false, false, true, false], [4]), (3, [true, false, false, false], [4]), (4, [false, false, true, false], [51]), (5, [false, false, true, false], [50, 1]), (6, [true, false, false, false], [5]), (6, [false, false, true, false], [5]), (7, [true, false, false, false], [54]), (7, [false, false, true, false], [54]), (8, [true, false, false, false], [53, 1]), (10, [true, false, false, false], []), (0, [true, false, true, false], [4]), (0, [true, true, false, false], [4]), (1, [true, false, true, false], [48]), (1, [true, true, false, false], [48]), (3, [true, false, true, false], [4]), (3, [true, true, false, false], [4]), (6, [true, false, true, false], [5]), (6, [true, true, false, false], [5]), (7, [true, false, true, false], [54]), (8, [true, false, true, false], [53, 1]), (9, [true, true, false, false], [49, 6]), (10, [true, true, false, false], []), (0, [true, true, true, false], [4]), (1, [true, true, true, false], [48]), (3, [true, true, true, false], [4]), (6, [true, true, true, false], [5]), (9, [true, true, true, false], [49, 6]), (11, [true, true, true, false], [10, 46])] [_, _, _, _, _, _, _, _, _, _, _, _]
      case' hm => exact dr
      case' hn => rfl
      case' hok => rfl
      case' hlen => rfl
      case' hd => rfl
      case' h0 => rfl
      case' hstep =>
       simp only [DAllG, push_cast, Option.isSome_some, Option.isSome_none]
       repeat' apply And.intro
       all_goals (apply DOne_V; simp only [push_cast, Nat.reduceAdd, Nat.reduceSub, Nat.reduceMul, Nat.reduceLT, Nat.reduceLeDiff, Nat.reduceEqDiff, Int.reduceToNat, ↓reduceIte] <;> first | exact rfl | omega | exact ⟨rfl, rfl⟩ | exact trivial | exact ⟨by omega, rfl⟩ | exact ⟨by omega, by omega, rfl⟩ | exact ⟨by omega, rfl, rfl⟩ | exact ⟨by omega, by omega, rfl, rfl⟩ | (refine app_L encSt (sz := 2) (fun _ => rfl) cellSt5 _ H.length [] a.2 _ rfl rfl (by exact aget0 _ _ _) sl26 sz86 by86 zr86 rfl (by decide) (by decide) (by simp only [List.length_nil]; omega) ?_; simp only [push_cast, Nat.reduceAdd, Nat.reduceSub, Nat.reduceMul, Nat.reduceLT, Nat.reduceLeDiff, Nat.reduceEqDiff, Int.reduceToNat, ↓reduceIte, List.nil_append] <;> first | exact ⟨rfl, rfl⟩ | rfl) | (refine app_L encSt (sz := 2) (fun _ => rfl) cellSt5 _ H.length a.2 b.2 _ rfl rfl (by exact aget0 _ _ _) sl26 sz86 by86 zr86 rfl (by decide) (by decide) (by omega) ?_; exact ⟨rfl, rfl⟩) | trace_state)
      case' hQ => skip
      simp only [push_cast, Nat.reduceAdd, Nat.reduceSub, Nat.reduceMul, Nat.reduceLT, Nat.reduceLeDiff, Nat.reduceEqDiff, Int.reduceToNat, ↓reduceIte]
      refine (hcn zeroCh hz 9 9 (isCh_self _ _ _ (by rw [if_neg (by decide)])) _ _).to ?_
      simp only [push_cast, Nat.reduceAdd, Nat.reduceSub, Nat.reduceMul, Nat.reduceLT, Nat.reduceLeDiff, Nat.reduceEqDiff, Int.reduceToNat, ↓reduceIte]
      refine cI (fun h0 => absurd h0 (by decide)) (fun _ => ?_)
      refine (alive5_ac _).to ?_
      simp only [push_cast, Nat.reduceAdd, Nat.reduceSub, Nat.reduceMul, Nat.reduceLT, Nat.reduceLeDiff, Nat.reduceEqDiff, Int.reduceToNat, ↓reduceIte]
  · refine (hck _).to ?_
    simp only [push_cast, Nat.reduceAdd, Nat.reduceSub, Nat.reduceMul, Nat.reduceLT, Nat.reduceLeDiff, Nat.reduceEqDiff, Int.reduceToNat, ↓reduceIte]
    have hj := check_two rs a b h
    have d0 : decide (checkCP rs [a, b] = 0) = false := decide_eq_false h
    apply AW_drawE [some 25, some 26, some 27, some 28, some 29, some 30, some 31, some 32, some 33, some 34, some 35] [([], _)] [none, none, none, none, none, none, none, none, none, none, none] 0 [(0, [], [9]), (1, [], [25]), (2, [], [26]), (3, [], [0, 26]), (4, [], [4, 22]), (5, [], [27, 0, 0]), (6, [], [5, 21]), (7, [], [27, 3]), (8, [], [27, 2, 1]), (9, [], [27, 5]), (10, [], [27, 6])] [_, _, _, _, _, _, _, _, _, _, _]
    case' hm => exact dr
    case' hn => rfl
    case' hok => rfl
    case' hlen => rfl
    case' hd => rfl
    case' h0 => rfl
    case' hstep =>
     simp only [DAllG, push_cast, Option.isSome_some, Option.isSome_none]
     repeat' apply And.intro
     all_goals (apply DOne_V; simp only [push_cast, Nat.reduceAdd, Nat.reduceSub, Nat.reduceMul, Nat.reduceLT, Nat.reduceLeDiff, Nat.reduceEqDiff, Int.reduceToNat, ↓reduceIte, d0, hj] <;> first | exact rfl | omega | exact ⟨rfl, rfl⟩ | exact trivial | exact ⟨by omega, rfl⟩ | exact ⟨by omega, by omega, rfl⟩ | exact ⟨by omega, rfl, rfl⟩ | exact ⟨by omega, by omega, rfl, rfl⟩ | skip)
    case' hQ => skip
    simp only [push_cast, Nat.reduceAdd, Nat.reduceSub, Nat.reduceMul, Nat.reduceLT, Nat.reduceLeDiff, Nat.reduceEqDiff, Int.reduceToNat, ↓reduceIte, d0, hj]
    apply AW_drawE [some 48, some 49, some 50, some 51, some 52, some 53, some 54, some 55, some 56, some 57, some 10, none] [([false, false, false, false], _), ([false, false, true, false], _), ([true, false, false, false], _), ([true, false, true, false], _), ([true, true, false, false], _), ([true, true, true, false], _), ([true, true, true, true], _)] [none, none, none, none, none, some 0, none, none, some 1, none, some 2, some 3] 4 [(0, [false, false, false, false], [4]), (1, [false, false, false, false], [48]), (2, [false, false, false, false], []), (3, [false, false, false, false], [4]), (4, [false, false, false, false], [51]), (5, [false, false, false, false], [50, 1]), (6, [false, false, false, false], [5]), (7, [false, false, false, false], [54]), (10, [false, false, false, false], []), (0, [false, false, true, false], [4]), (0, [true, false, false, false], [4]), (1, [false, false, true, false], [48]), (1, [true, false, false, false], [48]), (2, [false, false, true, false], []), (3, [false, false, true, false], [4]), (3, [true, false, false, false], [4]), (4, [false, false, true, false], [51]), (5, [false, false, true, false], [50, 1]), (6, [true, false, false, false], [5]), (6, [false, false, true, false], [5]), (7, [true, false, false, false], [54]), (7, [false, false, true, false], [54]), (8, [true, false, false, false], [53, 1]), (10, [true, false, false, false], []), (0, [true, false, true, false], [4]), (0, [true, true, false, false], [4]), (1, [true, false, true, false], [48]), (1, [true, true, false, false], [48]), (3, [true, false, true, false], [4]), (3, [true, true, false, false], [4]), (6, [true, false, true, false], [5]), (6, [true, true, false, false], [5]), (7, [true, false, true, false], [54]), (8, [true, false, true, false], [53, 1]), (9, [true, true, false, false], [49, 6]), (10, [true, true, false, false], []), (0, [true, true, true, false], [4]), (1, [true, true, true, false], [48]), (3, [true, true, true, false], [4]), (6, [true, true, true, false], [5]), (9, [true, true, true, false], [49, 6]), (11, [true, true, true, false], [10, 46])] [_, _, _, _, _, _, _, _, _, _, _, _]
    case' hm => exact dr
    case' hn => rfl
    case' hok => rfl
    case' hlen => rfl
    case' hd => rfl
    case' h0 => rfl
    case' hstep =>
     simp only [DAllG, push_cast, Option.isSome_some, Option.isSome_none]
     repeat' apply And.intro
     all_goals (apply DOne_V; simp only [push_cast, Nat.reduceAdd, Nat.reduceSub, Nat.reduceMul, Nat.reduceLT, Nat.reduceLeDiff, Nat.reduceEqDiff, Int.reduceToNat, ↓reduceIte] <;> first | exact rfl | omega | exact ⟨rfl, rfl⟩ | exact trivial | exact ⟨by omega, rfl⟩ | exact ⟨by omega, by omega, rfl⟩ | exact ⟨by omega, rfl, rfl⟩ | exact ⟨by omega, by omega, rfl, rfl⟩ | (refine app_L encSt (sz := 2) (fun _ => rfl) cellSt5 _ H.length [] a.2 _ rfl rfl (by exact aget0 _ _ _) sl26 sz86 by86 zr86 rfl (by decide) (by decide) (by simp only [List.length_nil]; omega) ?_; simp only [push_cast, Nat.reduceAdd, Nat.reduceSub, Nat.reduceMul, Nat.reduceLT, Nat.reduceLeDiff, Nat.reduceEqDiff, Int.reduceToNat, ↓reduceIte, List.nil_append] <;> first | exact ⟨rfl, rfl⟩ | rfl) | (refine app_L encSt (sz := 2) (fun _ => rfl) cellSt5 _ H.length a.2 b.2 _ rfl rfl (by exact aget0 _ _ _) sl26 sz86 by86 zr86 rfl (by decide) (by decide) (by omega) ?_; exact ⟨rfl, rfl⟩) | trace_state)
    case' hQ => skip
    simp only [push_cast, Nat.reduceAdd, Nat.reduceSub, Nat.reduceMul, Nat.reduceLT, Nat.reduceLeDiff, Nat.reduceEqDiff, Int.reduceToNat, ↓reduceIte]
    refine (hcn zeroCh hz (checkCP rs [a, b]) (checkCP rs [a, b]) (isCh_self _ _ _ (by rw [if_neg h])) _ _).to ?_
    simp only [push_cast, Nat.reduceAdd, Nat.reduceSub, Nat.reduceMul, Nat.reduceLT, Nat.reduceLeDiff, Nat.reduceEqDiff, Int.reduceToNat, ↓reduceIte]
    refine cI (fun h0 => absurd h0 h) (fun _ => ?_)
    refine (alive5_ac _).to ?_
    simp only [push_cast, Nat.reduceAdd, Nat.reduceSub, Nat.reduceMul, Nat.reduceLT, Nat.reduceLeDiff, Nat.reduceEqDiff, Int.reduceToNat, ↓reduceIte]
end Ab
set_option maxRecDepth 10000
namespace Go.Proofs.YtpgjcbeoipldgaaGreat
open Go Ab
namespace djo
theorem own : ownKnob Tryz.prog.godebug = none := by kernel_rfl
theorem laid : laidOutB Tryz.prog = true := by kernel_rfl
theorem readable : ∀ t, t ∈ Tryz.f4.params.toList → Tryz.prog.readableRec t = true ∧ t < Tryz.prog.types.size := by
  rw [Tryz.params4]; intro t ht
  simp only [List.mem_cons, List.not_mem_nil, or_false] at ht
  rcases ht with rfl | rfl | rfl <;> exact ⟨by kernel_rfl, of_decide_eq_true (by kernel_rfl)⟩
theorem closed : closedK Tryz.prog [22, 94, 25, 9, 4, 23, 28, 26, 86, 3, 48] = true := by kernel_rfl
theorem contract (H : Type) (enc : TypeId × Value → H) (W : World) (base : Nat) (args : Array Value) (ds gs : List (DataW H)) (before : List MemPlace)
    (hval : ∀ (j : Nat) t v, Tryz.f4.params[j]? = some t → args[j]? = some v → Value.okWide Tryz.prog W .any base t v)
    (hW : DataW.Whole enc Tryz.prog Tryz.f4.params.toList Rows.deriveJoinsSpec.vars false W args.toList ds gs before) (hk : Rows.uptoSmall H (ds ++ gs) = true) :
    Calls Tryz.prog 4 args W fun e W' => ∃ v, e = .returned v ∧ Rows.deriveJoinsSpec.post enc Tryz.prog Tryz.f4 false true false false W args v W' := by
  have hW' := hW
  obtain ⟨p, q, hA0, hV, rfl, hfz, hnd⟩ := hW
  have hA : DataW.TrodAll enc Tryz.prog W 0 (fun _ => true) true Tryz.f4.params.toList args.toList ds p := hA0
  rw [Tryz.params4] at hA hval
  obtain ⟨v0, vs0, d0, ds0, p0, q0, hargs, rfl, rfl, h0, r0⟩ := ChangeShapes.trodAll_cons hA
  obtain ⟨v1, vs1, d1, ds1, p1, q1, rfl, rfl, rfl, h1, r1⟩ := ChangeShapes.trodAll_cons r0
  obtain ⟨v2, vs2, d2, ds2, p2, q2, rfl, rfl, rfl, h2, r2⟩ := ChangeShapes.trodAll_cons r1
  obtain ⟨rfl, rfl, rfl⟩ := ChangeShapes.trodAll_nil r2
  obtain rfl : args = #[v0, v1, v2] := by cases args; simp_all
  have hg : gs = [] := by cases gs with | nil => rfl | cons _ _ => exact hV.elim
  subst hg
  have hb : Rows.uptoBulk d0 + Rows.uptoBulk d1 + Rows.uptoBulk d2 ≤ 1048576 := by
    have := of_decide_eq_true hk
    simp only [List.cons_append, List.nil_append, List.append_nil, Rows.uptoBulkAll] at this
    omega
  obtain ⟨n0, a0, e0, x0⟩ := arg_slice closed (by decide) Tryz.underlying22 (hval 0 _ v0 rfl rfl) h0
  obtain ⟨n1, a1, e1, x1⟩ := arg_struct closed (by decide) Tryz.underlying28 (hval 1 _ v1 rfl rfl) h1
  obtain ⟨n2, a2, e2, x2⟩ := arg_struct closed (by decide) Tryz.underlying28 (hval 2 _ v2 rfl rfl) h2
  obtain ⟨rs, f0, b0, c0⟩ := rules_form n0 d0 [a0] e0
  obtain ⟨a, f1, b1, l1, c1⟩ := chain_form n1 d1 a1 e1
  obtain ⟨b, f2, b2, l2, c2⟩ := chain_form n2 d2 a2 e2
  try simp only [List.cons.injEq, and_true] at f0
  rw [f0] at x0; rw [f1] at x1; rw [f2] at x2
  have hc := law_calls (args := #[v0, v1, v2]) (avs := [.sl .none (encL encRu rs), encCh a, encCh b]) (W := W) (joinsLaw_ac rs (by omega) (fun r hr => by have := c0 r hr; omega) a b ⟨by omega, by omega, fun x hx => by have := c1 x hx; omega⟩ ⟨by omega, by omega, fun x hx => by have := c2 x hx; omega⟩ (by omega) (by omega) []) (fun h => by simp [tabOn] at h) rfl (fun i hi hi' => by
    match i, hi with
    | 0, _ => exact x0
    | 1, _ => exact x1
    | 2, _ => exact x2)
  refine hc.mono fun e W' ⟨he, hbl⟩ => ?_
  subst he
  exact ⟨_, rfl, post_law rfl ⟨rfl, rfl, rfl⟩ hW' hbl rfl Tryz.underlying4 laid readable⟩
set_option maxRecDepth 100000 in
theorem lifted (os : Os) (started : os.Started) (H : Type) (enc : TypeId × Value → H) (F : Stop.Interp) :
    ReturnsInHanded {} Tryz.checked os 4 .any ((Rows.OpenSpec.upto Rows.deriveJoinsSpec).pre6 enc Tryz.prog Tryz.f4 Rows.deriveJoinsUptoRow.domain false) (((Rows.OpenSpec.upto Rows.deriveJoinsSpec).at F).post enc Tryz.prog Tryz.f4 false true false false) := by
  refine returnsInHanded_of_cond (C := Tryz.checked) (s := Rows.OpenSpec.upto Rows.deriveJoinsSpec) (k := Rows.uptoSmall) rfl own started (by kernel_rfl) Tryz.func4
    (OpenSpec.witness (enc := enc) (C := Tryz.checked) (s := Rows.OpenSpec.upto Rows.deriveJoinsSpec) (k := Rows.uptoSmall) rfl false
      ⟨#[], #[.slice none 0 0, .agg #[.string ⟨#[]⟩, .bool false, .slice none 0 0, .slice none 0 0], .agg #[.string ⟨#[]⟩, .bool false, .slice none 0 0, .slice none 0 0]], []⟩ 8 (by kernel_rfl) (by kernel_rfl) (by kernel_rfl)
      (x := ([.nil, .agg [.agg [.lit (.string []), .lit (.bool false), .nil], .nil], .agg [.agg [.lit (.string []), .lit (.bool false), .nil], .nil]], [], [])) (by kernel_rfl) rfl (by kernel_rfl)) ?_
  intro W base args ds gs before hval hW _ hk _
  exact contract H enc W base args ds gs before hval hW hk
theorem over : Rows.deriveJoinsUptoRow.holds Tryz.pinned (Rows.OpenSpec.upto Rows.deriveJoinsSpec) :=
  OpenClaim.holds_of_cond 4 Tryz.f4 rfl rfl rfl rfl rfl rfl rfl ⟨rfl, rfl, rfl, rfl, rfl⟩ rfl rfl rfl rfl rfl (by kernel_rfl) Tryz.func4 (by kernel_rfl)
    (of_decide_eq_true (by kernel_rfl)) (by unfold Func.isWrapper; first | (rw [if_pos (by decide +kernel)]; kernel_rfl) | (rw [if_neg (by decide +kernel)]; exact ⟨rfl, rfl⟩))
    (fun os started H enc _ F => lifted os started H enc F)
end djo
theorem deriveJoins_upto : Rows.DeriveJoinsUptoSaid := djo.over
end Go.Proofs.YtpgjcbeoipldgaaGreat
