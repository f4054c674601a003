/- Part 6 of 6 of a proof. WeightClosed -/
import Derived.Test.YtakpnikkcinckaaWz5
import Derived.Carry
import Derived.OpenShut
import Derived.JoinedCond
import Derived.Test.YtakpnikkcinckaaRows
import Derived.WalkKit
import Derived.ProofKit
import Derived.KernelRfl
set_option linter.unusedVariables false
set_option linter.unusedSimpArgs false
set_option maxRecDepth 10000
namespace Ab
open Go Go.Proofs
attribute [local push_cast] encT encR scoped_encR encS scoped_encS encBd scoped_encBd scoped_encP
@[reducible] def encQ2 (a b : Term) : AV := .agg [.str a.name, .bool a.var, .sl .none (encTs a.args), .str b.name, .bool b.var, .sl .none (encTs b.args)]
@[reducible] def encAr (σ : List (List UInt8 × Term)) (c : Term) (p : List Int) : AV := .agg [.sl .none (encL encBd σ), .str c.name, .bool c.var, .sl .none (encTs c.args), .sl .none (encP p)]
set_option maxHeartbeats 6400000 in
theorem closedLaw_ac (l : List Rank) (unit : Int) (s t : Term) (σ : List (List UInt8 × Term)) (c : Term) (p : List Int) (hlen : l.length < 1099511627776) (hnl : ∀ x, x ∈ l → x.name.length < 1099511627776)
    (hb : s.bulk + t.bulk ≤ 549755813887) (hbc : c.bulk ≤ 1099511627775) (hpl : p.length < 1099511627776) (hσ : σ.length < 1099511627776) (hσn : ∀ b, b ∈ σ → b.1.length < 1099511627776 ∧ b.2.bulk ≤ 1099511627775)
    (ha : (applyP σ s).bulk + (applyP σ t).bulk ≤ 1099511627775) (hput : ∀ x, atP c p = some x → (putP c p s).bulk + (putP c p t).bulk ≤ 1099511627775) (hcx : ∀ x, atP c p = some x → c.bulk + x.bulk ≤ 1099511627775) (H : List AObj) :
    ACall Try.prog 5 [.agg [.sl .none (encL encR l), .int .i64 unit], encQ2 s t, encAr σ c p] H (fun r H' => r = .bool true ∧ H' = H) := by
  have hev1 : [AV.agg [.str c.name, .bool c.var, .sl .none (encTs c.args)]] = encTs [c] := by rw [encTs_cons]; simp [encTs]
  have hgat := fun x (h1 : okP l unit [c] = true) (h2 : atP c p = some x) (h3 : p ≠ []) => gt_at l unit c x p h1 h2 h3
  have hsub := gt_subst l unit σ s t
  have hputg := fun x => gt_put l unit s t c x p
  have ev2 : ∀ a b : Term, [AV.agg [.str a.name, .bool a.var, .sl .none (encTs a.args)], AV.agg [.str b.name, .bool b.var, .sl .none (encTs b.args)]] = encTs [a, b] := fun a b => by rw [encTs_cons, encTs_cons]; simp [encTs]
  obtain ⟨OB, hOB⟩ : ∃ OB : Term → List AObj, ∀ x, OB x = [AObj.cells [.sl .none (encL encR l), .int .i64 unit], .cells [.str s.name, .bool s.var, .sl .none (encTs s.args), .str t.name, .bool t.var, .sl .none (encTs t.args)], .cells [.sl .none (encL encBd σ), .str c.name, .bool c.var, .sl .none (encTs c.args), .sl .none (encP p)], .cells [.str s.name, .bool s.var, .sl .none (encTs s.args)], .cells [.str t.name, .bool t.var, .sl .none (encTs t.args)], .cells [.str x.name, .bool x.var, .sl .none (encTs x.args)]] := ⟨_, fun _ => rfl⟩
  have hob : ∀ x o, o ∈ OB x → OScoped (H.length + 6) o := by
    intro x o ho
    rw [hOB] at ho
    simp only [List.mem_cons, List.not_mem_nil, or_false] at ho
    rcases ho with rfl | rfl | rfl | rfl | rfl | rfl <;> simp [OScoped, ScopedL, Scoped, scoped_encTs, scoped_encR, scoped_encBd, scoped_encP]
  refine ACall_intro (H.length) Try.func5 rfl ?_
  simp only [Try.ntmps5, List.length_cons, List.length_nil, List.replicate, List.cons_append, List.nil_append, Nat.reduceAdd, Nat.reduceSub, Nat.zero_add]
  refine AW_seq_k (fun K1 hK1 => ?_)
  refine AW_region ?_
  all_goals (refine AOps_cons rfl (AOp_box _ _ rfl rfl (by first | exact .inl rfl | exact .inr ⟨_, rfl⟩) (by simp [push_cast, AV.isCell]) ?_) <;> try simp only [push_cast, Int.reduceToNat, Nat.reduceMul, Nat.reduceAdd])
  all_goals (refine AOps_cons rfl (AOp_box _ _ rfl rfl (by first | exact .inl rfl | exact .inr ⟨_, rfl⟩) (by simp [push_cast, AV.isCell]) ?_) <;> try simp only [push_cast, Int.reduceToNat, Nat.reduceMul, Nat.reduceAdd])
  all_goals (refine AOps_cons rfl (AOp_box _ _ rfl rfl (by first | exact .inl rfl | exact .inr ⟨_, rfl⟩) (by simp [push_cast, AV.isCell]) ?_) <;> try simp only [push_cast, Int.reduceToNat, Nat.reduceMul, Nat.reduceAdd])
  all_goals (refine AOps_cons rfl (AOp_assign ?_) <;> try simp only [push_cast, Int.reduceToNat, Nat.reduceMul, Nat.reduceAdd])
  all_goals refine AOps_nil ?_
  all_goals
   refine thenK_normal (hK1 _ ?_)
   try clear hK1
   refine AW_seq_k (fun K2 hK2 => ?_)
   refine AW_reserve 2 ?_
   simp only [push_cast, List.replicate, Nat.reduceAdd]
   apply AW_drawE [some 15, some 16, some 17, some 18, some 7, some 8, none, none] [([false, false, false, false], _), ([false, true, false, false], _), ([true, false, false, false], _), ([true, true, false, false], _), ([true, true, true, false], _), ([true, true, true, true], _)] [none, none, none, none, some 0, some 1, some 2, some 3] 4 [(0, [false, false, false, false], [4]), (1, [false, false, false, false], [15]), (2, [false, false, false, false], [4]), (3, [false, false, false, false], [17]), (4, [false, false, false, false], []), (5, [false, false, false, false], []), (0, [false, true, false, false], [4]), (0, [true, false, false, false], [4]), (1, [false, true, false, false], [15]), (1, [true, false, false, false], [15]), (2, [false, true, false, false], [4]), (2, [true, false, false, false], [4]), (3, [false, true, false, false], [17]), (3, [true, false, false, false], [17]), (4, [false, true, false, false], []), (5, [true, false, false, false], []), (0, [true, true, false, false], [4]), (1, [true, true, false, false], [15]), (2, [true, true, false, false], [4]), (3, [true, true, false, false], [17]), (6, [true, true, false, false], [7, 8]), (2, [true, true, true, false], [4]), (3, [true, true, true, false], [17]), (7, [true, true, true, false], [8, 9])] [_, _, _, _, _, _, _, _]
   case' hm => exact dr
   case' hn => rfl
   case' hok => rfl
   case' hlen => rfl
   case' hd => rfl
   case' h0 => rfl
   case' hstep =>
    simp only [DAllG, keepG, List.map_cons, List.map_nil, putD, stg, beqB, List.set_cons_zero, List.set_cons_succ, List.getD_cons_zero, List.getD_cons_succ, Option.isSome_some, Option.isSome_none]
    apply And.intro
    · apply DOne_do
      case' ho => rfl
      case' hw => rfl
      first | refine AOp_indexAddr_ptr 2 27 3 _ _ _ _ rfl rfl ar42 sz27 (by decide) (by decide) ?_ | refine AOp_indexAddr_cptr 2 27 3 _ _ _ rfl rfl ar42 sz27 (by decide) (by decide) ?_
      all_goals (try simp only [push_cast, Int.reduceToNat, Nat.reduceMul, Nat.reduceAdd])
      all_goals (constructor <;> first | rfl | trivial)
    apply And.intro
    · apply DOne_do
      case' ho => rfl
      case' hw => rfl
      first | refine AOp_load_ptr _ _ _ _ rfl (by first | exact hget0 | exact hgetN _ rfl | assumption | exact hgetL (by assumption)) sz27 ag27 (by simp [push_cast]) ?_ | refine AOp_load_cptr _ _ rfl sz27 ag27 (by simp [push_cast]) ?_
      all_goals (try simp only [push_cast, Int.reduceToNat, Nat.reduceMul, Nat.reduceAdd])
      all_goals (constructor <;> first | rfl | trivial)
    apply And.intro
    · apply DOne_do
      case' ho => rfl
      case' hw => rfl
      first | refine AOp_indexAddr_ptr 2 27 3 _ _ _ _ rfl rfl ar42 sz27 (by decide) (by decide) ?_ | refine AOp_indexAddr_cptr 2 27 3 _ _ _ rfl rfl ar42 sz27 (by decide) (by decide) ?_
      all_goals (try simp only [push_cast, Int.reduceToNat, Nat.reduceMul, Nat.reduceAdd])
      all_goals (constructor <;> first | rfl | trivial)
    apply And.intro
    · apply DOne_do
      case' ho => rfl
      case' hw => rfl
      first | refine AOp_load_ptr _ _ _ _ rfl (by first | exact hget0 | exact hgetN _ rfl | assumption | exact hgetL (by assumption)) sz27 ag27 (by simp [push_cast]) ?_ | refine AOp_load_cptr _ _ rfl sz27 ag27 (by simp [push_cast]) ?_
      all_goals (try simp only [push_cast, Int.reduceToNat, Nat.reduceMul, Nat.reduceAdd])
      all_goals (constructor <;> first | rfl | trivial)
    apply And.intro
    · apply DOne_do
      case' ho => rfl
      case' hw => rfl
      refine AOp_allocAt (H.length + 3) _ (by first | exact hget0 | exact hgetN _ rfl | assumption | exact hgetL (by assumption)) zr27 (by simp [ofVal, AV.isCell, Value.oneCell']) ?_
      all_goals (try simp only [push_cast, Int.reduceToNat, Nat.reduceMul, Nat.reduceAdd])
      all_goals (constructor <;> first | rfl | trivial)
    apply And.intro
    · apply DOne_do
      case' ho => rfl
      case' hw => rfl
      refine AOp_allocAt (H.length + 4) _ (by first | exact hget0 | exact hgetN _ rfl | assumption | exact hgetL (by assumption)) zr27 (by simp [ofVal, AV.isCell, Value.oneCell']) ?_
      all_goals (try simp only [push_cast, Int.reduceToNat, Nat.reduceMul, Nat.reduceAdd])
      all_goals (constructor <;> first | rfl | trivial)
    apply And.intro
    · apply DOne_do
      case' ho => rfl
      case' hw => rfl
      first | refine AOp_indexAddr_ptr 2 27 3 _ _ _ _ rfl rfl ar42 sz27 (by decide) (by decide) ?_ | refine AOp_indexAddr_cptr 2 27 3 _ _ _ rfl rfl ar42 sz27 (by decide) (by decide) ?_
      all_goals (try simp only [push_cast, Int.reduceToNat, Nat.reduceMul, Nat.reduceAdd])
      all_goals (constructor <;> first | rfl | trivial)
    apply And.intro
    · apply DOne_do
      case' ho => rfl
      case' hw => rfl
      first | refine AOp_indexAddr_ptr 2 27 3 _ _ _ _ rfl rfl ar42 sz27 (by decide) (by decide) ?_ | refine AOp_indexAddr_cptr 2 27 3 _ _ _ rfl rfl ar42 sz27 (by decide) (by decide) ?_
      all_goals (try simp only [push_cast, Int.reduceToNat, Nat.reduceMul, Nat.reduceAdd])
      all_goals (constructor <;> first | rfl | trivial)
    apply And.intro
    · apply DOne_do
      case' ho => rfl
      case' hw => rfl
      first | refine AOp_load_ptr _ _ _ _ rfl (by first | exact hget0 | exact hgetN _ rfl | assumption | exact hgetL (by assumption)) sz27 ag27 (by simp [push_cast]) ?_ | refine AOp_load_cptr _ _ rfl sz27 ag27 (by simp [push_cast]) ?_
      all_goals (try simp only [push_cast, Int.reduceToNat, Nat.reduceMul, Nat.reduceAdd])
      all_goals (constructor <;> first | rfl | trivial)
    apply And.intro
    · apply DOne_do
      case' ho => rfl
      case' hw => rfl
      first | refine AOp_load_ptr _ _ _ _ rfl (by first | exact hget0 | exact hgetN _ rfl | assumption | exact hgetL (by assumption)) sz27 ag27 (by simp [push_cast]) ?_ | refine AOp_load_cptr _ _ rfl sz27 ag27 (by simp [push_cast]) ?_
      all_goals (try simp only [push_cast, Int.reduceToNat, Nat.reduceMul, Nat.reduceAdd])
      all_goals (constructor <;> first | rfl | trivial)
    apply And.intro
    · apply DOne_do
      case' ho => rfl
      case' hw => rfl
      first | refine AOp_indexAddr_ptr 2 27 3 _ _ _ _ rfl rfl ar42 sz27 (by decide) (by decide) ?_ | refine AOp_indexAddr_cptr 2 27 3 _ _ _ rfl rfl ar42 sz27 (by decide) (by decide) ?_
      all_goals (try simp only [push_cast, Int.reduceToNat, Nat.reduceMul, Nat.reduceAdd])
      all_goals (constructor <;> first | rfl | trivial)
    apply And.intro
    · apply DOne_do
      case' ho => rfl
      case' hw => rfl
      first | refine AOp_indexAddr_ptr 2 27 3 _ _ _ _ rfl rfl ar42 sz27 (by decide) (by decide) ?_ | refine AOp_indexAddr_cptr 2 27 3 _ _ _ rfl rfl ar42 sz27 (by decide) (by decide) ?_
      all_goals (try simp only [push_cast, Int.reduceToNat, Nat.reduceMul, Nat.reduceAdd])
      all_goals (constructor <;> first | rfl | trivial)
    apply And.intro
    · apply DOne_do
      case' ho => rfl
      case' hw => rfl
      first | refine AOp_load_ptr _ _ _ _ rfl (by first | exact hget0 | exact hgetN _ rfl | assumption | exact hgetL (by assumption)) sz27 ag27 (by simp [push_cast]) ?_ | refine AOp_load_cptr _ _ rfl sz27 ag27 (by simp [push_cast]) ?_
      all_goals (try simp only [push_cast, Int.reduceToNat, Nat.reduceMul, Nat.reduceAdd])
      all_goals (constructor <;> first | rfl | trivial)
    apply And.intro
    · apply DOne_do
      case' ho => rfl
      case' hw => rfl
      first | refine AOp_load_ptr _ _ _ _ rfl (by first | exact hget0 | exact hgetN _ rfl | assumption | exact hgetL (by assumption)) sz27 ag27 (by simp [push_cast]) ?_ | refine AOp_load_cptr _ _ rfl sz27 ag27 (by simp [push_cast]) ?_
      all_goals (try simp only [push_cast, Int.reduceToNat, Nat.reduceMul, Nat.reduceAdd])
      all_goals (constructor <;> first | rfl | trivial)
    apply And.intro
    · apply DOne_do
      case' ho => rfl
      case' hw => rfl
      refine AOp_allocAt (H.length + 3) _ (by first | exact hget0 | exact hgetN _ rfl | assumption | exact hgetL (by assumption)) zr27 (by simp [ofVal, AV.isCell, Value.oneCell']) ?_
      all_goals (try simp only [push_cast, Int.reduceToNat, Nat.reduceMul, Nat.reduceAdd])
      all_goals (constructor <;> first | rfl | trivial)
    apply And.intro
    · apply DOne_do
      case' ho => rfl
      case' hw => rfl
      refine AOp_allocAt (H.length + 4) _ (by first | exact hget0 | exact hgetN _ rfl | assumption | exact hgetL (by assumption)) zr27 (by simp [ofVal, AV.isCell, Value.oneCell']) ?_
      all_goals (try simp only [push_cast, Int.reduceToNat, Nat.reduceMul, Nat.reduceAdd])
      all_goals (constructor <;> first | rfl | trivial)
    apply And.intro
    · apply DOne_do
      case' ho => rfl
      case' hw => rfl
      first | refine AOp_indexAddr_ptr 2 27 3 _ _ _ _ rfl rfl ar42 sz27 (by decide) (by decide) ?_ | refine AOp_indexAddr_cptr 2 27 3 _ _ _ rfl rfl ar42 sz27 (by decide) (by decide) ?_
      all_goals (try simp only [push_cast, Int.reduceToNat, Nat.reduceMul, Nat.reduceAdd])
      all_goals (constructor <;> first | rfl | trivial)
    apply And.intro
    · apply DOne_do
      case' ho => rfl
      case' hw => rfl
      first | refine AOp_load_ptr _ _ _ _ rfl (by first | exact hget0 | exact hgetN _ rfl | assumption | exact hgetL (by assumption)) sz27 ag27 (by simp [push_cast]) ?_ | refine AOp_load_cptr _ _ rfl sz27 ag27 (by simp [push_cast]) ?_
      all_goals (try simp only [push_cast, Int.reduceToNat, Nat.reduceMul, Nat.reduceAdd])
      all_goals (constructor <;> first | rfl | trivial)
    apply And.intro
    · apply DOne_do
      case' ho => rfl
      case' hw => rfl
      first | refine AOp_indexAddr_ptr 2 27 3 _ _ _ _ rfl rfl ar42 sz27 (by decide) (by decide) ?_ | refine AOp_indexAddr_cptr 2 27 3 _ _ _ rfl rfl ar42 sz27 (by decide) (by decide) ?_
      all_goals (try simp only [push_cast, Int.reduceToNat, Nat.reduceMul, Nat.reduceAdd])
      all_goals (constructor <;> first | rfl | trivial)
    apply And.intro
    · apply DOne_do
      case' ho => rfl
      case' hw => rfl
      first | refine AOp_load_ptr _ _ _ _ rfl (by first | exact hget0 | exact hgetN _ rfl | assumption | exact hgetL (by assumption)) sz27 ag27 (by simp [push_cast]) ?_ | refine AOp_load_cptr _ _ rfl sz27 ag27 (by simp [push_cast]) ?_
      all_goals (try simp only [push_cast, Int.reduceToNat, Nat.reduceMul, Nat.reduceAdd])
      all_goals (constructor <;> first | rfl | trivial)
    apply And.intro
    · apply DOne_do
      case' ho => rfl
      case' hw => rfl
      refine AOp_store _ _ _ _ _ rfl (by first | exact hget0 | exact hgetN _ rfl | assumption | exact hgetL (by assumption)) rfl rfl (by first | exact .inl rfl | exact .inr ⟨_, rfl⟩) (by simp [push_cast, AV.isCell]) sz27 (by simp [push_cast]) ?_
      all_goals (try simp only [push_cast, Int.reduceToNat, Nat.reduceMul, Nat.reduceAdd])
      all_goals (constructor <;> first | rfl | trivial)
    apply And.intro
    · apply DOne_do
      case' ho => rfl
      case' hw => rfl
      first | refine AOp_indexAddr_ptr 2 27 3 _ _ _ _ rfl rfl ar42 sz27 (by decide) (by decide) ?_ | refine AOp_indexAddr_cptr 2 27 3 _ _ _ rfl rfl ar42 sz27 (by decide) (by decide) ?_
      all_goals (try simp only [push_cast, Int.reduceToNat, Nat.reduceMul, Nat.reduceAdd])
      all_goals (constructor <;> first | rfl | trivial)
    apply And.intro
    · apply DOne_do
      case' ho => rfl
      case' hw => rfl
      first | refine AOp_load_ptr _ _ _ _ rfl (by first | exact hget0 | exact hgetN _ rfl | assumption | exact hgetL (by assumption)) sz27 ag27 (by simp [push_cast]) ?_ | refine AOp_load_cptr _ _ rfl sz27 ag27 (by simp [push_cast]) ?_
      all_goals (try simp only [push_cast, Int.reduceToNat, Nat.reduceMul, Nat.reduceAdd])
      all_goals (constructor <;> first | rfl | trivial)
    apply And.intro
    · apply DOne_do
      case' ho => rfl
      case' hw => rfl
      refine AOp_store _ _ _ _ _ rfl (by first | exact hget0 | exact hgetN _ rfl | assumption | exact hgetL (by assumption)) rfl rfl (by first | exact .inl rfl | exact .inr ⟨_, rfl⟩) (by simp [push_cast, AV.isCell]) sz27 (by simp [push_cast]) ?_
      all_goals (try simp only [push_cast, Int.reduceToNat, Nat.reduceMul, Nat.reduceAdd])
      all_goals (constructor <;> first | rfl | trivial)
    exact trivial
   case' hQ => skip
   (try simp only [push_cast, putD, stg, beqB, List.replicate, Nat.reduceAdd, List.getD_cons_zero, List.getD_cons_succ])
   all_goals
    refine thenK_normal (hK2 _ ?_)
    try clear hK2
    refine AW_seq_k (fun K3 hK3 => ?_)
    refine AW_region ?_
    all_goals (refine AOps_cons rfl (AOp_fieldAddr_ptr _ _ _ _ rfl fd46_1 (by decide) ?_) <;> try simp only [push_cast, Int.reduceToNat, Nat.reduceMul, Nat.reduceAdd])
    all_goals (refine AOps_cons rfl (AOp_load_ptr _ _ _ _ rfl (by first | exact hget0 | exact hgetN _ rfl | assumption | exact hgetL (by assumption)) sz27 ag27 (by simp [push_cast]) ?_) <;> try simp only [push_cast, Int.reduceToNat, Nat.reduceMul, Nat.reduceAdd])
    all_goals (refine AOps_cons rfl (AOp_fieldAddr_ptr _ _ _ _ rfl fd46_2 (by decide) ?_) <;> try simp only [push_cast, Int.reduceToNat, Nat.reduceMul, Nat.reduceAdd])
    all_goals (refine AOps_cons rfl (AOp_load1_ptr _ _ _ _ _ rfl (by first | exact hget0 | exact hgetN _ rfl | assumption | exact hgetL (by assumption)) sz44 ag44 (by decide) (by simp [push_cast]) rfl ?_) <;> try simp only [push_cast, Int.reduceToNat, Nat.reduceMul, Nat.reduceAdd])
    all_goals refine AOps_cons rfl (AOp_call _ _ _ rfl rfl ok16 ?_)
    all_goals (try simp only [push_cast, Int.reduceToNat, Nat.reduceMul, Nat.reduceAdd])
    all_goals refine (atR_ac c p hbc hpl _).mono ?_
    all_goals rintro r H' ⟨⟨x, rfl, hx1, hx2⟩, rfl⟩
    all_goals (try simp only [push_cast, Int.reduceToNat, Nat.reduceMul, Nat.reduceAdd])
    all_goals refine AOps_cons rfl (AOp_move ?_)
    all_goals (try simp only [push_cast, Int.reduceToNat, Nat.reduceMul, Nat.reduceAdd])
    all_goals (refine AOps_cons rfl (AOp_extract _ _ rfl rfl ?_) <;> try simp only [push_cast, Int.reduceToNat, Nat.reduceMul, Nat.reduceAdd])
    all_goals (refine AOps_cons rfl (AOp_extract _ _ rfl rfl ?_) <;> try simp only [push_cast, Int.reduceToNat, Nat.reduceMul, Nat.reduceAdd])
    all_goals (refine AOps_cons rfl (AOp_alloc _ zr27 (by simp [ofVal, AV.isCell, Value.oneCell']) ?_) <;> try simp only [push_cast, Int.reduceToNat, Nat.reduceMul, Nat.reduceAdd])
    all_goals (refine AOps_cons rfl (AOp_store _ _ _ _ _ rfl (by first | exact hget0 | exact hgetN _ rfl | assumption | exact hgetL (by assumption)) rfl rfl (by first | exact .inl rfl | exact .inr ⟨_, rfl⟩) (by simp [push_cast, AV.isCell]) sz27 (by simp [push_cast]) ?_) <;> try simp only [push_cast, Int.reduceToNat, Nat.reduceMul, Nat.reduceAdd])
    all_goals (refine AOps_cons rfl (AOp_assign ?_) <;> try simp only [push_cast, Int.reduceToNat, Nat.reduceMul, Nat.reduceAdd])
    all_goals refine AOps_nil ?_
    all_goals
     refine thenK_normal (hK3 _ ?_)
     try clear hK3
     apply AW_seq_cut (maskG 127 [3, 1, 1, 0, 1]) (fun _ : Term => [(3, .ptr H.length 0), (4, .ptr (H.length + 1) 0), (5, .ptr (H.length + 2) 0), (6, .bool false), (7, .ptr (H.length + 3) 0), (8, .ptr (H.length + 4) 0), (9, .ptr (H.length + 5) 0), (10, .bool (atP c p).isSome)]) (fun x => H ++ OB x) (fun _ => True)
     case' hS =>
      intro x _
      rw [hOB]
      (try simp only [push_cast, Int.reduceToNat, Nat.reduceMul, Nat.reduceAdd])
      refine AW_seq_k (fun K5 hK5 => ?_)
      refine AW_seq_k (fun K6 hK6 => ?_)
      refine AW_region ?_
      all_goals (refine AOps_cons rfl (AOp_load_ptr _ _ _ _ rfl (by first | exact hget0 | exact hgetN _ rfl | assumption | exact hgetL (by assumption)) sz24 ag24 (by simp [push_cast]) ?_) <;> try simp only [push_cast, Int.reduceToNat, Nat.reduceMul, Nat.reduceAdd])
      all_goals (refine AOps_cons rfl (AOp_load_ptr _ _ _ _ rfl (by first | exact hget0 | exact hgetN _ rfl | assumption | exact hgetL (by assumption)) sz27 ag27 (by simp [push_cast]) ?_) <;> try simp only [push_cast, Int.reduceToNat, Nat.reduceMul, Nat.reduceAdd])
      all_goals (refine AOps_cons rfl (AOp_load_ptr _ _ _ _ rfl (by first | exact hget0 | exact hgetN _ rfl | assumption | exact hgetL (by assumption)) sz27 ag27 (by simp [push_cast]) ?_) <;> try simp only [push_cast, Int.reduceToNat, Nat.reduceMul, Nat.reduceAdd])
      all_goals refine AOps_cons rfl (AOp_call _ _ _ rfl rfl ok14 ?_)
      all_goals (try simp only [push_cast, Int.reduceToNat, Nat.reduceMul, Nat.reduceAdd])
      all_goals refine (lawGreater_ac l unit s t hlen hnl (by omega) _).mono ?_
      all_goals rintro r H' ⟨rfl, rfl⟩
      all_goals (try simp only [push_cast, Int.reduceToNat, Nat.reduceMul, Nat.reduceAdd])
      all_goals (refine AOps_cons rfl (AOp_not _ rfl ?_) <;> try simp only [push_cast, Int.reduceToNat, Nat.reduceMul, Nat.reduceAdd])
      all_goals refine AOps_nil ?_
      all_goals
       refine thenK_normal (hK6 _ ?_)
       try clear hK6
       apply AW_cond
       case' hc => exact rfl
       case' hf =>
        intro hc7
        try (exfalso; (first | (cases hc7; done) | (simp at hc7; done) | (simp at hc7; omega)); done)
        all_goals (try simp only [decide_eq_true_eq, decide_eq_false_iff_not, Bool.not_eq_true', Bool.not_eq_false', Bool.not_eq_eq_eq_not, Bool.not_true, Bool.not_false] at hc7)
        all_goals
         refine AW_skip ?_
         refine thenK_normal (hK5 _ ?_)
         try clear hK5
         apply AW_seq_cut (maskG 127 [3, 1, 1, 0, 1]) (fun _ : Term => [(3, .ptr H.length 0), (4, .ptr (H.length + 1) 0), (5, .ptr (H.length + 2) 0), (6, .bool false), (7, .ptr (H.length + 3) 0), (8, .ptr (H.length + 4) 0), (9, .ptr (H.length + 5) 0), (10, .bool (atP c p).isSome)]) (fun x => H ++ OB x) (fun _ => True)
         case' hS =>
          intro x _
          rw [hOB]
          (try simp only [push_cast, Int.reduceToNat, Nat.reduceMul, Nat.reduceAdd])
          refine AW_seq_k (fun K9 hK9 => ?_)
          refine AW_seq_k (fun K10 hK10 => ?_)
          refine AW_region ?_
          all_goals refine AOps_cons rfl (AOp_move ?_)
          all_goals (try simp only [push_cast, Int.reduceToNat, Nat.reduceMul, Nat.reduceAdd])
          all_goals (refine AOps_cons rfl (AOp_not _ rfl ?_) <;> try simp only [push_cast, Int.reduceToNat, Nat.reduceMul, Nat.reduceAdd])
          all_goals refine AOps_cons rfl (AOp_move ?_)
          all_goals (try simp only [push_cast, Int.reduceToNat, Nat.reduceMul, Nat.reduceAdd])
          all_goals (try refine AOps_split 93 _ rfl (fun hg11 => ?_) (fun hg11 => ?_))
          all_goals (try (exfalso; (first | (cases hg11; done) | (simp at hg11; done) | (simp at hg11; omega)); done))
          all_goals (try simp only [decide_eq_true_eq, decide_eq_false_iff_not, Bool.not_eq_true', Bool.not_eq_false', Bool.not_eq_eq_eq_not, Bool.not_true, Bool.not_false] at hg11)
          all_goals first
           | refine AOps_skip rfl ?_
           | (refine AOps_cons rfl ?_
              refine AOp_fieldAddr_ptr _ _ _ _ rfl fd46_1 (by decide) ?_)
          all_goals (try simp only [push_cast, Int.reduceToNat, Nat.reduceMul, Nat.reduceAdd])
          all_goals first
           | refine AOps_skip rfl ?_
           | (refine AOps_cons rfl ?_
              refine AOp_load_ptr _ _ _ _ rfl (by first | exact hget0 | exact hgetN _ rfl | assumption | exact hgetL (by assumption)) sz27 ag27 (by simp [push_cast]) ?_)
          all_goals (try simp only [push_cast, Int.reduceToNat, Nat.reduceMul, Nat.reduceAdd])
          all_goals first
           | refine AOps_skip rfl ?_
           | (refine AOps_cons rfl ?_
              refine AOp_call _ _ _ rfl rfl ok20 ?_
              (try simp only [push_cast, Int.reduceToNat, Nat.reduceMul, Nat.reduceAdd])
              refine (checkR_ac c hbc _).mono ?_
              rintro r H' ⟨rfl, rfl⟩)
          all_goals (try simp only [push_cast, Int.reduceToNat, Nat.reduceMul, Nat.reduceAdd])
          all_goals first
           | refine AOps_skip rfl ?_
           | (refine AOps_cons rfl ?_
              refine AOp_bin_int _ _ _ _ rfl rfl rfl ?_)
          all_goals (try simp only [push_cast, Int.reduceToNat, Nat.reduceMul, Nat.reduceAdd])
          all_goals (refine AOps_cons rfl (AOp_pick _ rfl ?_) <;> try simp only [push_cast, Int.reduceToNat, Nat.reduceMul, Nat.reduceAdd])
          all_goals refine AOps_nil ?_
          all_goals
           refine thenK_normal (hK10 _ ?_)
           try clear hK10
           apply AW_cond
           case' hc => exact rfl
           case' hf =>
            intro hc12
            try (exfalso; (first | (cases hc12; done) | (simp at hc12; done) | (simp at hc12; omega)); done)
            all_goals (try simp only [decide_eq_true_eq, decide_eq_false_iff_not, Bool.not_eq_true', Bool.not_eq_false', Bool.not_eq_eq_eq_not, Bool.not_true, Bool.not_false] at hc12)
            all_goals
             refine AW_skip ?_
             refine thenK_normal (hK9 _ ?_)
             try clear hK9
             refine AW_seq_k (fun K13 hK13 => ?_)
             refine AW_reserve 2 ?_
             simp only [push_cast, List.replicate, Nat.reduceAdd]
             apply AW_drawE [some 100, some 101, some 102, some 103, some 104, some 105, some 106, some 107, some 108, some 109, some 110, some 111, some 13, some 14, none, none] [([false, false, false, false], _), ([false, true, false, false], _), ([true, false, false, false], _), ([true, true, false, false], _), ([true, true, true, false], _), ([true, true, true, true], _)] [none, none, none, none, none, none, none, none, none, none, none, none, some 0, some 1, some 2, some 3] 4 [(0, [false, false, false, false], [5]), (1, [false, false, false, false], [100]), (2, [false, false, false, false], [5]), (3, [false, false, false, false], [102]), (4, [false, false, false, false], [7]), (5, [false, false, false, false], [101, 1, 0]), (6, [false, false, false, false], [5]), (7, [false, false, false, false], [106]), (8, [false, false, false, false], [5]), (9, [false, false, false, false], [108]), (10, [false, false, false, false], [8]), (11, [false, false, false, false], [107, 1, 0]), (12, [false, false, false, false], []), (13, [false, false, false, false], []), (0, [false, true, false, false], [5]), (0, [true, false, false, false], [5]), (1, [false, true, false, false], [100]), (1, [true, false, false, false], [100]), (2, [false, true, false, false], [5]), (2, [true, false, false, false], [5]), (3, [false, true, false, false], [102]), (3, [true, false, false, false], [102]), (4, [false, true, false, false], [7]), (4, [true, false, false, false], [7]), (5, [false, true, false, false], [101, 1, 0]), (5, [true, false, false, false], [101, 1, 0]), (6, [false, true, false, false], [5]), (6, [true, false, false, false], [5]), (7, [false, true, false, false], [106]), (7, [true, false, false, false], [106]), (8, [false, true, false, false], [5]), (8, [true, false, false, false], [5]), (9, [false, true, false, false], [108]), (9, [true, false, false, false], [108]), (10, [false, true, false, false], [8]), (10, [true, false, false, false], [8]), (11, [false, true, false, false], [107, 1, 0]), (11, [true, false, false, false], [107, 1, 0]), (12, [false, true, false, false], []), (13, [true, false, false, false], []), (0, [true, true, false, false], [5]), (1, [true, true, false, false], [100]), (2, [true, true, false, false], [5]), (3, [true, true, false, false], [102]), (4, [true, true, false, false], [7]), (5, [true, true, false, false], [101, 1, 0]), (6, [true, true, false, false], [5]), (7, [true, true, false, false], [106]), (8, [true, true, false, false], [5]), (9, [true, true, false, false], [108]), (10, [true, true, false, false], [8]), (11, [true, true, false, false], [107, 1, 0]), (14, [true, true, false, false], [13, 91]), (6, [true, true, true, false], [5]), (7, [true, true, true, false], [106]), (8, [true, true, true, false], [5]), (9, [true, true, true, false], [108]), (10, [true, true, true, false], [8]), (15, [true, true, true, false], [14, 96])] [_, _, _, _, _, _, _, _, _, _, _, _, _, _, _, _]
             case' hm => exact dr
             case' hn => rfl
             case' hok => rfl
             case' hlen => rfl
             case' hd => rfl
             case' h0 => rfl
             case' hstep =>
              simp only [DAllG, keepG, List.map_cons, List.map_nil, putD, stg, beqB, List.set_cons_zero, List.set_cons_succ, List.getD_cons_zero, List.getD_cons_succ, Option.isSome_some, Option.isSome_none]
              apply And.intro
              · apply DOne_do
                case' ho => rfl
                case' hw => rfl
                refine AOp_fieldAddr_ptr _ _ _ _ rfl fd46_1 (by decide) ?_
                all_goals (try simp only [push_cast, Int.reduceToNat, Nat.reduceMul, Nat.reduceAdd])
                all_goals (constructor <;> first | rfl | trivial)
              apply And.intro
              · apply DOne_do
                case' ho => rfl
                case' hw => rfl
                refine AOp_load_ptr _ _ _ _ rfl (by first | exact hget0 | exact hgetN _ rfl | assumption | exact hgetL (by assumption)) sz27 ag27 (by simp [push_cast]) ?_
                all_goals (try simp only [push_cast, Int.reduceToNat, Nat.reduceMul, Nat.reduceAdd])
                all_goals (constructor <;> first | rfl | trivial)
              apply And.intro
              · apply DOne_do
                case' ho => rfl
                case' hw => rfl
                refine AOp_fieldAddr_ptr _ _ _ _ rfl fd46_2 (by decide) ?_
                all_goals (try simp only [push_cast, Int.reduceToNat, Nat.reduceMul, Nat.reduceAdd])
                all_goals (constructor <;> first | rfl | trivial)
              apply And.intro
              · apply DOne_do
                case' ho => rfl
                case' hw => rfl
                refine AOp_load1_ptr _ _ _ _ _ rfl (by first | exact hget0 | exact hgetN _ rfl | assumption | exact hgetL (by assumption)) sz44 ag44 (by decide) (by simp [push_cast]) rfl ?_
                all_goals (try simp only [push_cast, Int.reduceToNat, Nat.reduceMul, Nat.reduceAdd])
                all_goals (constructor <;> first | rfl | trivial)
              apply And.intro
              · apply DOne_do
                case' ho => rfl
                case' hw => rfl
                refine AOp_load_ptr _ _ _ _ rfl (by first | exact hget0 | exact hgetN _ rfl | assumption | exact hgetL (by assumption)) sz27 ag27 (by simp [push_cast]) ?_
                all_goals (try simp only [push_cast, Int.reduceToNat, Nat.reduceMul, Nat.reduceAdd])
                all_goals (constructor <;> first | rfl | trivial)
              apply And.intro
              · apply DOne_do
                case' ho => rfl
                case' hw => rfl
                refine AOp_call _ _ _ rfl rfl ok21 ?_
                (try simp only [push_cast, Int.reduceToNat, Nat.reduceMul, Nat.reduceAdd])
                obtain ⟨y, hy⟩ := Option.isSome_iff_exists.1 (show (atP c p).isSome = true by simp_all)
                first
                 | refine (putR_ac s (by omega) p c y hbc hpl hy _).mono ?_
                 | refine (putR_ac t (by omega) p c y hbc hpl hy _).mono ?_
                rintro r H' ⟨rfl, rfl⟩
                all_goals (try simp only [push_cast, Int.reduceToNat, Nat.reduceMul, Nat.reduceAdd])
                all_goals (constructor <;> first | rfl | trivial)
              apply And.intro
              · apply DOne_do
                case' ho => rfl
                case' hw => rfl
                refine AOp_fieldAddr_ptr _ _ _ _ rfl fd46_1 (by decide) ?_
                all_goals (try simp only [push_cast, Int.reduceToNat, Nat.reduceMul, Nat.reduceAdd])
                all_goals (constructor <;> first | rfl | trivial)
              apply And.intro
              · apply DOne_do
                case' ho => rfl
                case' hw => rfl
                refine AOp_load_ptr _ _ _ _ rfl (by first | exact hget0 | exact hgetN _ rfl | assumption | exact hgetL (by assumption)) sz27 ag27 (by simp [push_cast]) ?_
                all_goals (try simp only [push_cast, Int.reduceToNat, Nat.reduceMul, Nat.reduceAdd])
                all_goals (constructor <;> first | rfl | trivial)
              apply And.intro
              · apply DOne_do
                case' ho => rfl
                case' hw => rfl
                refine AOp_fieldAddr_ptr _ _ _ _ rfl fd46_2 (by decide) ?_
                all_goals (try simp only [push_cast, Int.reduceToNat, Nat.reduceMul, Nat.reduceAdd])
                all_goals (constructor <;> first | rfl | trivial)
              apply And.intro
              · apply DOne_do
                case' ho => rfl
                case' hw => rfl
                refine AOp_load1_ptr _ _ _ _ _ rfl (by first | exact hget0 | exact hgetN _ rfl | assumption | exact hgetL (by assumption)) sz44 ag44 (by decide) (by simp [push_cast]) rfl ?_
                all_goals (try simp only [push_cast, Int.reduceToNat, Nat.reduceMul, Nat.reduceAdd])
                all_goals (constructor <;> first | rfl | trivial)
              apply And.intro
              · apply DOne_do
                case' ho => rfl
                case' hw => rfl
                refine AOp_load_ptr _ _ _ _ rfl (by first | exact hget0 | exact hgetN _ rfl | assumption | exact hgetL (by assumption)) sz27 ag27 (by simp [push_cast]) ?_
                all_goals (try simp only [push_cast, Int.reduceToNat, Nat.reduceMul, Nat.reduceAdd])
                all_goals (constructor <;> first | rfl | trivial)
              apply And.intro
              · apply DOne_do
                case' ho => rfl
                case' hw => rfl
                refine AOp_call _ _ _ rfl rfl ok21 ?_
                (try simp only [push_cast, Int.reduceToNat, Nat.reduceMul, Nat.reduceAdd])
                obtain ⟨y, hy⟩ := Option.isSome_iff_exists.1 (show (atP c p).isSome = true by simp_all)
                first
                 | refine (putR_ac s (by omega) p c y hbc hpl hy _).mono ?_
                 | refine (putR_ac t (by omega) p c y hbc hpl hy _).mono ?_
                rintro r H' ⟨rfl, rfl⟩
                all_goals (try simp only [push_cast, Int.reduceToNat, Nat.reduceMul, Nat.reduceAdd])
                all_goals (constructor <;> first | rfl | trivial)
              apply And.intro
              · apply DOne_do
                case' ho => rfl
                case' hw => rfl
                refine AOp_allocAt (H.length + 6) _ (by first | exact hget0 | exact hgetN _ rfl | assumption | exact hgetL (by assumption)) zr27 (by simp [ofVal, AV.isCell, Value.oneCell']) ?_
                all_goals (try simp only [push_cast, Int.reduceToNat, Nat.reduceMul, Nat.reduceAdd])
                all_goals (constructor <;> first | rfl | trivial)
              apply And.intro
              · apply DOne_do
                case' ho => rfl
                case' hw => rfl
                refine AOp_allocAt (H.length + 7) _ (by first | exact hget0 | exact hgetN _ rfl | assumption | exact hgetL (by assumption)) zr27 (by simp [ofVal, AV.isCell, Value.oneCell']) ?_
                all_goals (try simp only [push_cast, Int.reduceToNat, Nat.reduceMul, Nat.reduceAdd])
                all_goals (constructor <;> first | rfl | trivial)
              apply And.intro
              · apply DOne_do
                case' ho => rfl
                case' hw => rfl
                refine AOp_fieldAddr_ptr _ _ _ _ rfl fd46_1 (by decide) ?_
                all_goals (try simp only [push_cast, Int.reduceToNat, Nat.reduceMul, Nat.reduceAdd])
                all_goals (constructor <;> first | rfl | trivial)
              apply And.intro
              · apply DOne_do
                case' ho => rfl
                case' hw => rfl
                refine AOp_fieldAddr_ptr _ _ _ _ rfl fd46_1 (by decide) ?_
                all_goals (try simp only [push_cast, Int.reduceToNat, Nat.reduceMul, Nat.reduceAdd])
                all_goals (constructor <;> first | rfl | trivial)
              apply And.intro
              · apply DOne_do
                case' ho => rfl
                case' hw => rfl
                refine AOp_load_ptr _ _ _ _ rfl (by first | exact hget0 | exact hgetN _ rfl | assumption | exact hgetL (by assumption)) sz27 ag27 (by simp [push_cast]) ?_
                all_goals (try simp only [push_cast, Int.reduceToNat, Nat.reduceMul, Nat.reduceAdd])
                all_goals (constructor <;> first | rfl | trivial)
              apply And.intro
              · apply DOne_do
                case' ho => rfl
                case' hw => rfl
                refine AOp_load_ptr _ _ _ _ rfl (by first | exact hget0 | exact hgetN _ rfl | assumption | exact hgetL (by assumption)) sz27 ag27 (by simp [push_cast]) ?_
                all_goals (try simp only [push_cast, Int.reduceToNat, Nat.reduceMul, Nat.reduceAdd])
                all_goals (constructor <;> first | rfl | trivial)
              apply And.intro
              · apply DOne_do
                case' ho => rfl
                case' hw => rfl
                refine AOp_fieldAddr_ptr _ _ _ _ rfl fd46_2 (by decide) ?_
                all_goals (try simp only [push_cast, Int.reduceToNat, Nat.reduceMul, Nat.reduceAdd])
                all_goals (constructor <;> first | rfl | trivial)
              apply And.intro
              · apply DOne_do
                case' ho => rfl
                case' hw => rfl
                refine AOp_fieldAddr_ptr _ _ _ _ rfl fd46_2 (by decide) ?_
                all_goals (try simp only [push_cast, Int.reduceToNat, Nat.reduceMul, Nat.reduceAdd])
                all_goals (constructor <;> first | rfl | trivial)
              apply And.intro
              · apply DOne_do
                case' ho => rfl
                case' hw => rfl
                refine AOp_load1_ptr _ _ _ _ _ rfl (by first | exact hget0 | exact hgetN _ rfl | assumption | exact hgetL (by assumption)) sz44 ag44 (by decide) (by simp [push_cast]) rfl ?_
                all_goals (try simp only [push_cast, Int.reduceToNat, Nat.reduceMul, Nat.reduceAdd])
                all_goals (constructor <;> first | rfl | trivial)
              apply And.intro
              · apply DOne_do
                case' ho => rfl
                case' hw => rfl
                refine AOp_load1_ptr _ _ _ _ _ rfl (by first | exact hget0 | exact hgetN _ rfl | assumption | exact hgetL (by assumption)) sz44 ag44 (by decide) (by simp [push_cast]) rfl ?_
                all_goals (try simp only [push_cast, Int.reduceToNat, Nat.reduceMul, Nat.reduceAdd])
                all_goals (constructor <;> first | rfl | trivial)
              apply And.intro
              · apply DOne_do
                case' ho => rfl
                case' hw => rfl
                refine AOp_load_ptr _ _ _ _ rfl (by first | exact hget0 | exact hgetN _ rfl | assumption | exact hgetL (by assumption)) sz27 ag27 (by simp [push_cast]) ?_
                all_goals (try simp only [push_cast, Int.reduceToNat, Nat.reduceMul, Nat.reduceAdd])
                all_goals (constructor <;> first | rfl | trivial)
              apply And.intro
              · apply DOne_do
                case' ho => rfl
                case' hw => rfl
                refine AOp_load_ptr _ _ _ _ rfl (by first | exact hget0 | exact hgetN _ rfl | assumption | exact hgetL (by assumption)) sz27 ag27 (by simp [push_cast]) ?_
                all_goals (try simp only [push_cast, Int.reduceToNat, Nat.reduceMul, Nat.reduceAdd])
                all_goals (constructor <;> first | rfl | trivial)
              apply And.intro
              · apply DOne_do
                case' ho => rfl
                case' hw => rfl
                refine AOp_call _ _ _ rfl rfl ok21 ?_
                (try simp only [push_cast, Int.reduceToNat, Nat.reduceMul, Nat.reduceAdd])
                obtain ⟨y, hy⟩ := Option.isSome_iff_exists.1 (show (atP c p).isSome = true by simp_all)
                first
                 | refine (putR_ac s (by omega) p c y hbc hpl hy _).mono ?_
                 | refine (putR_ac t (by omega) p c y hbc hpl hy _).mono ?_
                rintro r H' ⟨rfl, rfl⟩
                all_goals (try simp only [push_cast, Int.reduceToNat, Nat.reduceMul, Nat.reduceAdd])
                all_goals (constructor <;> first | rfl | trivial)
              apply And.intro
              · apply DOne_do
                case' ho => rfl
                case' hw => rfl
                refine AOp_call _ _ _ rfl rfl ok21 ?_
                (try simp only [push_cast, Int.reduceToNat, Nat.reduceMul, Nat.reduceAdd])
                obtain ⟨y, hy⟩ := Option.isSome_iff_exists.1 (show (atP c p).isSome = true by simp_all)
                first
                 | refine (putR_ac s (by omega) p c y hbc hpl hy _).mono ?_
                 | refine (putR_ac t (by omega) p c y hbc hpl hy _).mono ?_
                rintro r H' ⟨rfl, rfl⟩
                all_goals (try simp only [push_cast, Int.reduceToNat, Nat.reduceMul, Nat.reduceAdd])
                all_goals (constructor <;> first | rfl | trivial)
              apply And.intro
              · apply DOne_do
                case' ho => rfl
                case' hw => rfl
                refine AOp_fieldAddr_ptr _ _ _ _ rfl fd46_1 (by decide) ?_
                all_goals (try simp only [push_cast, Int.reduceToNat, Nat.reduceMul, Nat.reduceAdd])
                all_goals (constructor <;> first | rfl | trivial)
              apply And.intro
              · apply DOne_do
                case' ho => rfl
                case' hw => rfl
                refine AOp_fieldAddr_ptr _ _ _ _ rfl fd46_1 (by decide) ?_
                all_goals (try simp only [push_cast, Int.reduceToNat, Nat.reduceMul, Nat.reduceAdd])
                all_goals (constructor <;> first | rfl | trivial)
              apply And.intro
              · apply DOne_do
                case' ho => rfl
                case' hw => rfl
                refine AOp_load_ptr _ _ _ _ rfl (by first | exact hget0 | exact hgetN _ rfl | assumption | exact hgetL (by assumption)) sz27 ag27 (by simp [push_cast]) ?_
                all_goals (try simp only [push_cast, Int.reduceToNat, Nat.reduceMul, Nat.reduceAdd])
                all_goals (constructor <;> first | rfl | trivial)
              apply And.intro
              · apply DOne_do
                case' ho => rfl
                case' hw => rfl
                refine AOp_load_ptr _ _ _ _ rfl (by first | exact hget0 | exact hgetN _ rfl | assumption | exact hgetL (by assumption)) sz27 ag27 (by simp [push_cast]) ?_
                all_goals (try simp only [push_cast, Int.reduceToNat, Nat.reduceMul, Nat.reduceAdd])
                all_goals (constructor <;> first | rfl | trivial)
              apply And.intro
              · apply DOne_do
                case' ho => rfl
                case' hw => rfl
                refine AOp_fieldAddr_ptr _ _ _ _ rfl fd46_2 (by decide) ?_
                all_goals (try simp only [push_cast, Int.reduceToNat, Nat.reduceMul, Nat.reduceAdd])
                all_goals (constructor <;> first | rfl | trivial)
              apply And.intro
              · apply DOne_do
                case' ho => rfl
                case' hw => rfl
                refine AOp_fieldAddr_ptr _ _ _ _ rfl fd46_2 (by decide) ?_
                all_goals (try simp only [push_cast, Int.reduceToNat, Nat.reduceMul, Nat.reduceAdd])
                all_goals (constructor <;> first | rfl | trivial)
              apply And.intro
              · apply DOne_do
                case' ho => rfl
                case' hw => rfl
                refine AOp_load1_ptr _ _ _ _ _ rfl (by first | exact hget0 | exact hgetN _ rfl | assumption | exact hgetL (by assumption)) sz44 ag44 (by decide) (by simp [push_cast]) rfl ?_
                all_goals (try simp only [push_cast, Int.reduceToNat, Nat.reduceMul, Nat.reduceAdd])
                all_goals (constructor <;> first | rfl | trivial)
              apply And.intro
              · apply DOne_do
                case' ho => rfl
                case' hw => rfl
                refine AOp_load1_ptr _ _ _ _ _ rfl (by first | exact hget0 | exact hgetN _ rfl | assumption | exact hgetL (by assumption)) sz44 ag44 (by decide) (by simp [push_cast]) rfl ?_
                all_goals (try simp only [push_cast, Int.reduceToNat, Nat.reduceMul, Nat.reduceAdd])
                all_goals (constructor <;> first | rfl | trivial)
              apply And.intro
              · apply DOne_do
                case' ho => rfl
                case' hw => rfl
                refine AOp_load_ptr _ _ _ _ rfl (by first | exact hget0 | exact hgetN _ rfl | assumption | exact hgetL (by assumption)) sz27 ag27 (by simp [push_cast]) ?_
                all_goals (try simp only [push_cast, Int.reduceToNat, Nat.reduceMul, Nat.reduceAdd])
                all_goals (constructor <;> first | rfl | trivial)
              apply And.intro
              · apply DOne_do
                case' ho => rfl
                case' hw => rfl
                refine AOp_load_ptr _ _ _ _ rfl (by first | exact hget0 | exact hgetN _ rfl | assumption | exact hgetL (by assumption)) sz27 ag27 (by simp [push_cast]) ?_
                all_goals (try simp only [push_cast, Int.reduceToNat, Nat.reduceMul, Nat.reduceAdd])
                all_goals (constructor <;> first | rfl | trivial)
              apply And.intro
              · apply DOne_do
                case' ho => rfl
                case' hw => rfl
                refine AOp_call _ _ _ rfl rfl ok21 ?_
                (try simp only [push_cast, Int.reduceToNat, Nat.reduceMul, Nat.reduceAdd])
                obtain ⟨y, hy⟩ := Option.isSome_iff_exists.1 (show (atP c p).isSome = true by simp_all)
                first
                 | refine (putR_ac s (by omega) p c y hbc hpl hy _).mono ?_
                 | refine (putR_ac t (by omega) p c y hbc hpl hy _).mono ?_
                rintro r H' ⟨rfl, rfl⟩
                all_goals (try simp only [push_cast, Int.reduceToNat, Nat.reduceMul, Nat.reduceAdd])
                all_goals (constructor <;> first | rfl | trivial)
              apply And.intro
              · apply DOne_do
                case' ho => rfl
                case' hw => rfl
                refine AOp_call _ _ _ rfl rfl ok21 ?_
                (try simp only [push_cast, Int.reduceToNat, Nat.reduceMul, Nat.reduceAdd])
                obtain ⟨y, hy⟩ := Option.isSome_iff_exists.1 (show (atP c p).isSome = true by simp_all)
                first
                 | refine (putR_ac s (by omega) p c y hbc hpl hy _).mono ?_
                 | refine (putR_ac t (by omega) p c y hbc hpl hy _).mono ?_
                rintro r H' ⟨rfl, rfl⟩
                all_goals (try simp only [push_cast, Int.reduceToNat, Nat.reduceMul, Nat.reduceAdd])
                all_goals (constructor <;> first | rfl | trivial)
              apply And.intro
              · apply DOne_do
                case' ho => rfl
                case' hw => rfl
                refine AOp_allocAt (H.length + 6) _ (by first | exact hget0 | exact hgetN _ rfl | assumption | exact hgetL (by assumption)) zr27 (by simp [ofVal, AV.isCell, Value.oneCell']) ?_
                all_goals (try simp only [push_cast, Int.reduceToNat, Nat.reduceMul, Nat.reduceAdd])
                all_goals (constructor <;> first | rfl | trivial)
              apply And.intro
              · apply DOne_do
                case' ho => rfl
                case' hw => rfl
                refine AOp_allocAt (H.length + 7) _ (by first | exact hget0 | exact hgetN _ rfl | assumption | exact hgetL (by assumption)) zr27 (by simp [ofVal, AV.isCell, Value.oneCell']) ?_
                all_goals (try simp only [push_cast, Int.reduceToNat, Nat.reduceMul, Nat.reduceAdd])
                all_goals (constructor <;> first | rfl | trivial)
              apply And.intro
              · apply DOne_do
                case' ho => rfl
                case' hw => rfl
                refine AOp_fieldAddr_ptr _ _ _ _ rfl fd46_1 (by decide) ?_
                all_goals (try simp only [push_cast, Int.reduceToNat, Nat.reduceMul, Nat.reduceAdd])
                all_goals (constructor <;> first | rfl | trivial)
              apply And.intro
              · apply DOne_do
                case' ho => rfl
                case' hw => rfl
                refine AOp_load_ptr _ _ _ _ rfl (by first | exact hget0 | exact hgetN _ rfl | assumption | exact hgetL (by assumption)) sz27 ag27 (by simp [push_cast]) ?_
                all_goals (try simp only [push_cast, Int.reduceToNat, Nat.reduceMul, Nat.reduceAdd])
                all_goals (constructor <;> first | rfl | trivial)
              apply And.intro
              · apply DOne_do
                case' ho => rfl
                case' hw => rfl
                refine AOp_fieldAddr_ptr _ _ _ _ rfl fd46_2 (by decide) ?_
                all_goals (try simp only [push_cast, Int.reduceToNat, Nat.reduceMul, Nat.reduceAdd])
                all_goals (constructor <;> first | rfl | trivial)
              apply And.intro
              · apply DOne_do
                case' ho => rfl
                case' hw => rfl
                refine AOp_load1_ptr _ _ _ _ _ rfl (by first | exact hget0 | exact hgetN _ rfl | assumption | exact hgetL (by assumption)) sz44 ag44 (by decide) (by simp [push_cast]) rfl ?_
                all_goals (try simp only [push_cast, Int.reduceToNat, Nat.reduceMul, Nat.reduceAdd])
                all_goals (constructor <;> first | rfl | trivial)
              apply And.intro
              · apply DOne_do
                case' ho => rfl
                case' hw => rfl
                refine AOp_load_ptr _ _ _ _ rfl (by first | exact hget0 | exact hgetN _ rfl | assumption | exact hgetL (by assumption)) sz27 ag27 (by simp [push_cast]) ?_
                all_goals (try simp only [push_cast, Int.reduceToNat, Nat.reduceMul, Nat.reduceAdd])
                all_goals (constructor <;> first | rfl | trivial)
              apply And.intro
              · apply DOne_do
                case' ho => rfl
                case' hw => rfl
                refine AOp_call _ _ _ rfl rfl ok21 ?_
                (try simp only [push_cast, Int.reduceToNat, Nat.reduceMul, Nat.reduceAdd])
                obtain ⟨y, hy⟩ := Option.isSome_iff_exists.1 (show (atP c p).isSome = true by simp_all)
                first
                 | refine (putR_ac s (by omega) p c y hbc hpl hy _).mono ?_
                 | refine (putR_ac t (by omega) p c y hbc hpl hy _).mono ?_
                rintro r H' ⟨rfl, rfl⟩
                all_goals (try simp only [push_cast, Int.reduceToNat, Nat.reduceMul, Nat.reduceAdd])
                all_goals (constructor <;> first | rfl | trivial)
              apply And.intro
              · apply DOne_do
                case' ho => rfl
                case' hw => rfl
                refine AOp_fieldAddr_ptr _ _ _ _ rfl fd46_1 (by decide) ?_
                all_goals (try simp only [push_cast, Int.reduceToNat, Nat.reduceMul, Nat.reduceAdd])
                all_goals (constructor <;> first | rfl | trivial)
              apply And.intro
              · apply DOne_do
                case' ho => rfl
                case' hw => rfl
                refine AOp_load_ptr _ _ _ _ rfl (by first | exact hget0 | exact hgetN _ rfl | assumption | exact hgetL (by assumption)) sz27 ag27 (by simp [push_cast]) ?_
                all_goals (try simp only [push_cast, Int.reduceToNat, Nat.reduceMul, Nat.reduceAdd])
                all_goals (constructor <;> first | rfl | trivial)
              apply And.intro
              · apply DOne_do
                case' ho => rfl
                case' hw => rfl
                refine AOp_fieldAddr_ptr _ _ _ _ rfl fd46_2 (by decide) ?_
                all_goals (try simp only [push_cast, Int.reduceToNat, Nat.reduceMul, Nat.reduceAdd])
                all_goals (constructor <;> first | rfl | trivial)
              apply And.intro
              · apply DOne_do
                case' ho => rfl
                case' hw => rfl
                refine AOp_load1_ptr _ _ _ _ _ rfl (by first | exact hget0 | exact hgetN _ rfl | assumption | exact hgetL (by assumption)) sz44 ag44 (by decide) (by simp [push_cast]) rfl ?_
                all_goals (try simp only [push_cast, Int.reduceToNat, Nat.reduceMul, Nat.reduceAdd])
                all_goals (constructor <;> first | rfl | trivial)
              apply And.intro
              · apply DOne_do
                case' ho => rfl
                case' hw => rfl
                refine AOp_load_ptr _ _ _ _ rfl (by first | exact hget0 | exact hgetN _ rfl | assumption | exact hgetL (by assumption)) sz27 ag27 (by simp [push_cast]) ?_
                all_goals (try simp only [push_cast, Int.reduceToNat, Nat.reduceMul, Nat.reduceAdd])
                all_goals (constructor <;> first | rfl | trivial)
              apply And.intro
              · apply DOne_do
                case' ho => rfl
                case' hw => rfl
                refine AOp_call _ _ _ rfl rfl ok21 ?_
                (try simp only [push_cast, Int.reduceToNat, Nat.reduceMul, Nat.reduceAdd])
                obtain ⟨y, hy⟩ := Option.isSome_iff_exists.1 (show (atP c p).isSome = true by simp_all)
                first
                 | refine (putR_ac s (by omega) p c y hbc hpl hy _).mono ?_
                 | refine (putR_ac t (by omega) p c y hbc hpl hy _).mono ?_
                rintro r H' ⟨rfl, rfl⟩
                all_goals (try simp only [push_cast, Int.reduceToNat, Nat.reduceMul, Nat.reduceAdd])
                all_goals (constructor <;> first | rfl | trivial)
              apply And.intro
              · apply DOne_do
                case' ho => rfl
                case' hw => rfl
                refine AOp_store _ _ _ _ _ rfl (by first | exact hget0 | exact hgetN _ rfl | assumption | exact hgetL (by assumption)) rfl rfl (by first | exact .inl rfl | exact .inr ⟨_, rfl⟩) (by simp [push_cast, AV.isCell]) sz27 (by simp [push_cast]) ?_
                all_goals (try simp only [push_cast, Int.reduceToNat, Nat.reduceMul, Nat.reduceAdd])
                all_goals (constructor <;> first | rfl | trivial)
              apply And.intro
              · apply DOne_do
                case' ho => rfl
                case' hw => rfl
                refine AOp_fieldAddr_ptr _ _ _ _ rfl fd46_1 (by decide) ?_
                all_goals (try simp only [push_cast, Int.reduceToNat, Nat.reduceMul, Nat.reduceAdd])
                all_goals (constructor <;> first | rfl | trivial)
              apply And.intro
              · apply DOne_do
                case' ho => rfl
                case' hw => rfl
                refine AOp_load_ptr _ _ _ _ rfl (by first | exact hget0 | exact hgetN _ rfl | assumption | exact hgetL (by assumption)) sz27 ag27 (by simp [push_cast]) ?_
                all_goals (try simp only [push_cast, Int.reduceToNat, Nat.reduceMul, Nat.reduceAdd])
                all_goals (constructor <;> first | rfl | trivial)
              apply And.intro
              · apply DOne_do
                case' ho => rfl
                case' hw => rfl
                refine AOp_fieldAddr_ptr _ _ _ _ rfl fd46_2 (by decide) ?_
                all_goals (try simp only [push_cast, Int.reduceToNat, Nat.reduceMul, Nat.reduceAdd])
                all_goals (constructor <;> first | rfl | trivial)
              apply And.intro
              · apply DOne_do
                case' ho => rfl
                case' hw => rfl
                refine AOp_load1_ptr _ _ _ _ _ rfl (by first | exact hget0 | exact hgetN _ rfl | assumption | exact hgetL (by assumption)) sz44 ag44 (by decide) (by simp [push_cast]) rfl ?_
                all_goals (try simp only [push_cast, Int.reduceToNat, Nat.reduceMul, Nat.reduceAdd])
                all_goals (constructor <;> first | rfl | trivial)
              apply And.intro
              · apply DOne_do
                case' ho => rfl
                case' hw => rfl
                refine AOp_load_ptr _ _ _ _ rfl (by first | exact hget0 | exact hgetN _ rfl | assumption | exact hgetL (by assumption)) sz27 ag27 (by simp [push_cast]) ?_
                all_goals (try simp only [push_cast, Int.reduceToNat, Nat.reduceMul, Nat.reduceAdd])
                all_goals (constructor <;> first | rfl | trivial)
              apply And.intro
              · apply DOne_do
                case' ho => rfl
                case' hw => rfl
                refine AOp_store _ _ _ _ _ rfl (by first | exact hget0 | exact hgetN _ rfl | assumption | exact hgetL (by assumption)) rfl rfl (by first | exact .inl rfl | exact .inr ⟨_, rfl⟩) (by simp [push_cast, AV.isCell]) sz27 (by simp [push_cast]) ?_
                all_goals (try simp only [push_cast, Int.reduceToNat, Nat.reduceMul, Nat.reduceAdd])
                all_goals (constructor <;> first | rfl | trivial)
              exact trivial
             case' hQ => skip
             (try simp only [push_cast, putD, stg, beqB, List.replicate, Nat.reduceAdd, List.getD_cons_zero, List.getD_cons_succ])
             all_goals
              refine thenK_normal (hK13 _ ?_)
              try clear hK13
              refine AW_seq_k (fun K14 hK14 => ?_)
              refine AW_region ?_
              all_goals (refine AOps_cons rfl (AOp_load_ptr _ _ _ _ rfl (by first | exact hget0 | exact hgetN _ rfl | assumption | exact hgetL (by assumption)) sz24 ag24 (by simp [push_cast]) ?_) <;> try simp only [push_cast, Int.reduceToNat, Nat.reduceMul, Nat.reduceAdd])
              all_goals (refine AOps_cons rfl (AOp_load_ptr _ _ _ _ rfl (by first | exact hget0 | exact hgetN _ rfl | assumption | exact hgetL (by assumption)) sz27 ag27 (by simp [push_cast]) ?_) <;> try simp only [push_cast, Int.reduceToNat, Nat.reduceMul, Nat.reduceAdd])
              all_goals (refine AOps_cons rfl (AOp_load_ptr _ _ _ _ rfl (by first | exact hget0 | exact hgetN _ rfl | assumption | exact hgetL (by assumption)) sz27 ag27 (by simp [push_cast]) ?_) <;> try simp only [push_cast, Int.reduceToNat, Nat.reduceMul, Nat.reduceAdd])
              all_goals (refine AOps_cons rfl (AOp_buildRow _ [_, _] sl25 sz27 zr27 rfl rfl (by simp [AV.cells, AV.isCell, AV.isAgg, push_cast]) (by decide) rfl ?_) <;> try simp only [push_cast, Int.reduceToNat, Nat.reduceMul, Nat.reduceAdd])
              all_goals refine AOps_cons rfl (AOp_call _ _ _ rfl rfl ok15 ?_)
              all_goals (try simp only [push_cast, Int.reduceToNat, Nat.reduceMul, Nat.reduceAdd])
              all_goals simp only [ev2]
              all_goals obtain ⟨y, hy⟩ := Option.isSome_iff_exists.1 (show (atP c p).isSome = true by simp_all)
              all_goals refine (lawFits_ac l unit [putP c p s, putP c p t] hlen hnl (by simp) (by simpa using hput y hy) _).mono ?_
              all_goals rintro r H' ⟨rfl, rfl⟩
              all_goals (try simp only [push_cast, Int.reduceToNat, Nat.reduceMul, Nat.reduceAdd])
              all_goals (refine AOps_cons rfl (AOp_not _ rfl ?_) <;> try simp only [push_cast, Int.reduceToNat, Nat.reduceMul, Nat.reduceAdd])
              all_goals refine AOps_cons rfl (AOp_move ?_)
              all_goals (try simp only [push_cast, Int.reduceToNat, Nat.reduceMul, Nat.reduceAdd])
              all_goals (try refine AOps_split 118 _ rfl (fun hg15 => ?_) (fun hg15 => ?_))
              all_goals (try (exfalso; (first | (cases hg15; done) | (simp at hg15; done) | (simp at hg15; omega)); done))
              all_goals (try simp only [decide_eq_true_eq, decide_eq_false_iff_not, Bool.not_eq_true', Bool.not_eq_false', Bool.not_eq_eq_eq_not, Bool.not_true, Bool.not_false] at hg15)
              all_goals first
               | refine AOps_skip rfl ?_
               | (refine AOps_cons rfl ?_
                  refine AOp_load_ptr _ _ _ _ rfl (by first | exact hget0 | exact hgetN _ rfl | assumption | exact hgetL (by assumption)) sz24 ag24 (by simp [push_cast]) ?_)
              all_goals (try simp only [push_cast, Int.reduceToNat, Nat.reduceMul, Nat.reduceAdd])
              all_goals first
               | refine AOps_skip rfl ?_
               | (refine AOps_cons rfl ?_
                  refine AOp_load_ptr _ _ _ _ rfl (by first | exact hget0 | exact hgetN _ rfl | assumption | exact hgetL (by assumption)) sz27 ag27 (by simp [push_cast]) ?_)
              all_goals (try simp only [push_cast, Int.reduceToNat, Nat.reduceMul, Nat.reduceAdd])
              all_goals first
               | refine AOps_skip rfl ?_
               | (refine AOps_cons rfl ?_
                  refine AOp_load_ptr _ _ _ _ rfl (by first | exact hget0 | exact hgetN _ rfl | assumption | exact hgetL (by assumption)) sz27 ag27 (by simp [push_cast]) ?_)
              all_goals (try simp only [push_cast, Int.reduceToNat, Nat.reduceMul, Nat.reduceAdd])
              all_goals first
               | refine AOps_skip rfl ?_
               | (refine AOps_cons rfl ?_
                  refine AOp_call _ _ _ rfl rfl ok14 ?_
                  (try simp only [push_cast, Int.reduceToNat, Nat.reduceMul, Nat.reduceAdd])
                  obtain ⟨y, hy⟩ := Option.isSome_iff_exists.1 (show (atP c p).isSome = true by simp_all)
                  refine (lawGreater_ac l unit (putP c p s) (putP c p t) hlen hnl (hput y hy) _).mono ?_
                  rintro r H' ⟨rfl, rfl⟩)
              all_goals (try simp only [push_cast, Int.reduceToNat, Nat.reduceMul, Nat.reduceAdd])
              all_goals refine AOps_cons rfl (AOp_pick _ rfl ?_)
              all_goals refine AOps_cons rfl (AOp_move ?_)
              all_goals (try simp only [push_cast, Int.reduceToNat, Nat.reduceMul, Nat.reduceAdd])
              all_goals (try refine AOps_split 124 _ rfl (fun hg16 => ?_) (fun hg16 => ?_))
              all_goals (try (exfalso; (first | (cases hg16; done) | (simp at hg16; done) | (simp at hg16; omega)); done))
              all_goals (try simp only [decide_eq_true_eq, decide_eq_false_iff_not, Bool.not_eq_true', Bool.not_eq_false', Bool.not_eq_eq_eq_not, Bool.not_true, Bool.not_false] at hg16)
              all_goals first
               | refine AOps_skip rfl ?_
               | (refine AOps_cons rfl ?_
                  refine AOp_call _ _ _ rfl rfl ok12 ?_
                  (try simp only [push_cast, Int.reduceToNat, Nat.reduceMul, Nat.reduceAdd])
                  refine (alive_ac _).mono ?_
                  rintro r H' ⟨rfl, rfl⟩)
              all_goals (try simp only [push_cast, Int.reduceToNat, Nat.reduceMul, Nat.reduceAdd])
              all_goals refine AOps_cons rfl (AOp_pick _ rfl ?_)
              all_goals (refine AOps_cons rfl (AOp_assign ?_) <;> try simp only [push_cast, Int.reduceToNat, Nat.reduceMul, Nat.reduceAdd])
              all_goals refine AOps_nil ?_
              all_goals
               refine thenK_normal (hK14 _ ?_)
               try clear hK14
               refine AW_ret ?_
               repeat (first | refine thenK_ret ?_ | refine loopK_ret ?_ | refine blockK_ret ?_)
               refine ⟨by first | exact .inl rfl | exact .inr rfl, _, rfl, (by first | exact outok_app 0 rfl (Nat.zero_le _) (by simp) | exact outok_self), by simp [push_cast], ?_⟩
               simp only [push_cast, Nat.reduceAdd]
               first
                | (simp; done)
                | (exfalso; have := hputg _ (by assumption) (by assumption) (by assumption); simp_all; done)
                | trace_state
           case' ht =>
            intro hc12
            try (exfalso; (first | (cases hc12; done) | (simp at hc12; done) | (simp at hc12; omega)); done)
            all_goals (try simp only [decide_eq_true_eq, decide_eq_false_iff_not, Bool.not_eq_true', Bool.not_eq_false', Bool.not_eq_eq_eq_not, Bool.not_true, Bool.not_false] at hc12)
            all_goals
             refine AW_seq_k (fun K17 hK17 => ?_)
             refine AW_region ?_
             all_goals refine AOps_cons rfl (AOp_call _ _ _ rfl rfl ok12 ?_)
             all_goals (try simp only [push_cast, Int.reduceToNat, Nat.reduceMul, Nat.reduceAdd])
             all_goals refine (alive_ac _).mono ?_
             all_goals rintro r H' ⟨rfl, rfl⟩
             all_goals (try simp only [push_cast, Int.reduceToNat, Nat.reduceMul, Nat.reduceAdd])
             all_goals (refine AOps_cons rfl (AOp_assign ?_) <;> try simp only [push_cast, Int.reduceToNat, Nat.reduceMul, Nat.reduceAdd])
             all_goals refine AOps_nil ?_
             all_goals
              refine thenK_normal (hK17 _ ?_)
              try clear hK17
              refine AW_ret ?_
              repeat (first | refine thenK_ret ?_ | refine loopK_ret ?_ | refine blockK_ret ?_)
              refine ⟨by first | exact .inl rfl | exact .inr rfl, _, rfl, (by first | exact outok_app 0 rfl (Nat.zero_le _) (by simp) | exact outok_self), by simp [push_cast], ?_⟩
              simp only [push_cast, Nat.reduceAdd]
              simp
         case' hx =>
          intro K8 hK8
          refine AW_seq_k (fun K18 hK18 => ?_)
          refine AW_region ?_
          all_goals (refine AOps_cons rfl (AOp_fieldAddr_ptr _ _ _ _ rfl fd46_0 (by decide) ?_) <;> try simp only [push_cast, Int.reduceToNat, Nat.reduceMul, Nat.reduceAdd])
          all_goals (refine AOps_cons rfl (AOp_load1_ptr _ _ _ _ _ rfl (by first | exact hget0 | exact hgetN _ rfl | assumption | exact hgetL (by assumption)) sz43 ag43 (by decide) (by simp [push_cast]) rfl ?_) <;> try simp only [push_cast, Int.reduceToNat, Nat.reduceMul, Nat.reduceAdd])
          all_goals refine AOps_cons rfl (AOp_call _ _ _ rfl rfl ok17 ?_)
          all_goals (try simp only [push_cast, Int.reduceToNat, Nat.reduceMul, Nat.reduceAdd])
          all_goals refine (checkSubst_ac σ hσ hσn _).mono ?_
          all_goals rintro r H' ⟨rfl, rfl⟩
          all_goals (try simp only [push_cast, Int.reduceToNat, Nat.reduceMul, Nat.reduceAdd])
          all_goals (refine AOps_cons rfl (AOp_bin_int _ _ _ _ rfl rfl rfl ?_) <;> try simp only [push_cast, Int.reduceToNat, Nat.reduceMul, Nat.reduceAdd])
          all_goals refine AOps_cons rfl (AOp_move ?_)
          all_goals (try simp only [push_cast, Int.reduceToNat, Nat.reduceMul, Nat.reduceAdd])
          all_goals (try refine AOps_split 59 _ rfl (fun hg19 => ?_) (fun hg19 => ?_))
          all_goals (try (exfalso; (first | (cases hg19; done) | (simp at hg19; done) | (simp at hg19; omega)); done))
          all_goals (try simp only [decide_eq_true_eq, decide_eq_false_iff_not, Bool.not_eq_true', Bool.not_eq_false', Bool.not_eq_eq_eq_not, Bool.not_true, Bool.not_false] at hg19)
          all_goals first
           | refine AOps_skip rfl ?_
           | (refine AOps_cons rfl ?_
              refine AOp_fieldAddr_ptr _ _ _ _ rfl fd46_0 (by decide) ?_)
          all_goals (try simp only [push_cast, Int.reduceToNat, Nat.reduceMul, Nat.reduceAdd])
          all_goals first
           | refine AOps_skip rfl ?_
           | (refine AOps_cons rfl ?_
              refine AOp_load1_ptr _ _ _ _ _ rfl (by first | exact hget0 | exact hgetN _ rfl | assumption | exact hgetL (by assumption)) sz43 ag43 (by decide) (by simp [push_cast]) rfl ?_)
          all_goals (try simp only [push_cast, Int.reduceToNat, Nat.reduceMul, Nat.reduceAdd])
          all_goals first
           | refine AOps_skip rfl ?_
           | (refine AOps_cons rfl ?_
              refine AOp_load_ptr _ _ _ _ rfl (by first | exact hget0 | exact hgetN _ rfl | assumption | exact hgetL (by assumption)) sz27 ag27 (by simp [push_cast]) ?_)
          all_goals (try simp only [push_cast, Int.reduceToNat, Nat.reduceMul, Nat.reduceAdd])
          all_goals first
           | refine AOps_skip rfl ?_
           | (refine AOps_cons rfl ?_
              refine AOp_call _ _ _ rfl rfl ok18 ?_
              (try simp only [push_cast, Int.reduceToNat, Nat.reduceMul, Nat.reduceAdd])
              refine (fitsR1_ac σ hσ s (by omega) (by omega) _).mono ?_
              rintro r H' ⟨rfl, rfl⟩)
          all_goals (try simp only [push_cast, Int.reduceToNat, Nat.reduceMul, Nat.reduceAdd])
          all_goals refine AOps_cons rfl (AOp_pick _ rfl ?_)
          all_goals refine AOps_cons rfl (AOp_move ?_)
          all_goals (try simp only [push_cast, Int.reduceToNat, Nat.reduceMul, Nat.reduceAdd])
          all_goals (try refine AOps_split 65 _ rfl (fun hg20 => ?_) (fun hg20 => ?_))
          all_goals (try (exfalso; (first | (cases hg20; done) | (simp at hg20; done) | (simp at hg20; omega)); done))
          all_goals (try simp only [decide_eq_true_eq, decide_eq_false_iff_not, Bool.not_eq_true', Bool.not_eq_false', Bool.not_eq_eq_eq_not, Bool.not_true, Bool.not_false] at hg20)
          all_goals first
           | refine AOps_skip rfl ?_
           | (refine AOps_cons rfl ?_
              refine AOp_fieldAddr_ptr _ _ _ _ rfl fd46_0 (by decide) ?_)
          all_goals (try simp only [push_cast, Int.reduceToNat, Nat.reduceMul, Nat.reduceAdd])
          all_goals first
           | refine AOps_skip rfl ?_
           | (refine AOps_cons rfl ?_
              refine AOp_load1_ptr _ _ _ _ _ rfl (by first | exact hget0 | exact hgetN _ rfl | assumption | exact hgetL (by assumption)) sz43 ag43 (by decide) (by simp [push_cast]) rfl ?_)
          all_goals (try simp only [push_cast, Int.reduceToNat, Nat.reduceMul, Nat.reduceAdd])
          all_goals first
           | refine AOps_skip rfl ?_
           | (refine AOps_cons rfl ?_
              refine AOp_load_ptr _ _ _ _ rfl (by first | exact hget0 | exact hgetN _ rfl | assumption | exact hgetL (by assumption)) sz27 ag27 (by simp [push_cast]) ?_)
          all_goals (try simp only [push_cast, Int.reduceToNat, Nat.reduceMul, Nat.reduceAdd])
          all_goals first
           | refine AOps_skip rfl ?_
           | (refine AOps_cons rfl ?_
              refine AOp_call _ _ _ rfl rfl ok18 ?_
              (try simp only [push_cast, Int.reduceToNat, Nat.reduceMul, Nat.reduceAdd])
              refine (fitsR1_ac σ hσ t (by omega) (by omega) _).mono ?_
              rintro r H' ⟨rfl, rfl⟩)
          all_goals (try simp only [push_cast, Int.reduceToNat, Nat.reduceMul, Nat.reduceAdd])
          all_goals (refine AOps_cons rfl (AOp_pick _ rfl ?_) <;> try simp only [push_cast, Int.reduceToNat, Nat.reduceMul, Nat.reduceAdd])
          all_goals refine AOps_nil ?_
          all_goals
           refine thenK_normal (hK18 _ ?_)
           try clear hK18
           apply AW_cond
           case' hc => exact rfl
           case' hf =>
            intro hc21
            try (exfalso; (first | (cases hc21; done) | (simp at hc21; done) | (simp at hc21; omega)); done)
            all_goals (try simp only [decide_eq_true_eq, decide_eq_false_iff_not, Bool.not_eq_true', Bool.not_eq_false', Bool.not_eq_eq_eq_not, Bool.not_true, Bool.not_false] at hc21)
            all_goals
             refine AW_skip ?_
           case' ht =>
            intro hc21
            try (exfalso; (first | (cases hc21; done) | (simp at hc21; done) | (simp at hc21; omega)); done)
            all_goals (try simp only [decide_eq_true_eq, decide_eq_false_iff_not, Bool.not_eq_true', Bool.not_eq_false', Bool.not_eq_eq_eq_not, Bool.not_true, Bool.not_false] at hc21)
            all_goals
             refine AW_seq_k (fun K22 hK22 => ?_)
             refine AW_reserve 2 ?_
             simp only [push_cast, List.replicate, Nat.reduceAdd]
             apply AW_drawE [some 71, some 72, some 73, some 74, some 75, some 76, some 77, some 78, some 11, some 12, none, none] [([false, false, false, false], _), ([false, true, false, false], _), ([true, false, false, false], _), ([true, true, false, false], _), ([true, true, true, false], _), ([true, true, true, true], _)] [none, none, none, none, none, none, none, none, some 0, some 1, some 2, some 3] 4 [(0, [false, false, false, false], [5]), (1, [false, false, false, false], [71]), (2, [false, false, false, false], [7]), (3, [false, false, false, false], [72, 0]), (4, [false, false, false, false], [5]), (5, [false, false, false, false], [75]), (6, [false, false, false, false], [8]), (7, [false, false, false, false], [76, 0]), (8, [false, false, false, false], []), (9, [false, false, false, false], []), (0, [false, true, false, false], [5]), (0, [true, false, false, false], [5]), (1, [false, true, false, false], [71]), (1, [true, false, false, false], [71]), (2, [false, true, false, false], [7]), (2, [true, false, false, false], [7]), (3, [false, true, false, false], [72, 0]), (3, [true, false, false, false], [72, 0]), (4, [false, true, false, false], [5]), (4, [true, false, false, false], [5]), (5, [false, true, false, false], [75]), (5, [true, false, false, false], [75]), (6, [false, true, false, false], [8]), (6, [true, false, false, false], [8]), (7, [false, true, false, false], [76, 0]), (7, [true, false, false, false], [76, 0]), (8, [false, true, false, false], []), (9, [true, false, false, false], []), (0, [true, true, false, false], [5]), (1, [true, true, false, false], [71]), (2, [true, true, false, false], [7]), (3, [true, true, false, false], [72, 0]), (4, [true, true, false, false], [5]), (5, [true, true, false, false], [75]), (6, [true, true, false, false], [8]), (7, [true, true, false, false], [76, 0]), (10, [true, true, false, false], [11, 62]), (4, [true, true, true, false], [5]), (5, [true, true, true, false], [75]), (6, [true, true, true, false], [8]), (11, [true, true, true, false], [12, 65])] [_, _, _, _, _, _, _, _, _, _, _, _]
             case' hm => exact dr
             case' hn => rfl
             case' hok => rfl
             case' hlen => rfl
             case' hd => rfl
             case' h0 => rfl
             case' hstep =>
              simp only [DAllG, keepG, List.map_cons, List.map_nil, putD, stg, beqB, List.set_cons_zero, List.set_cons_succ, List.getD_cons_zero, List.getD_cons_succ, Option.isSome_some, Option.isSome_none]
              apply And.intro
              · apply DOne_do
                case' ho => rfl
                case' hw => rfl
                refine AOp_fieldAddr_ptr _ _ _ _ rfl fd46_0 (by decide) ?_
                all_goals (try simp only [push_cast, Int.reduceToNat, Nat.reduceMul, Nat.reduceAdd])
                all_goals (constructor <;> first | rfl | trivial)
              apply And.intro
              · apply DOne_do
                case' ho => rfl
                case' hw => rfl
                refine AOp_load1_ptr _ _ _ _ _ rfl (by first | exact hget0 | exact hgetN _ rfl | assumption | exact hgetL (by assumption)) sz43 ag43 (by decide) (by simp [push_cast]) rfl ?_
                all_goals (try simp only [push_cast, Int.reduceToNat, Nat.reduceMul, Nat.reduceAdd])
                all_goals (constructor <;> first | rfl | trivial)
              apply And.intro
              · apply DOne_do
                case' ho => rfl
                case' hw => rfl
                refine AOp_load_ptr _ _ _ _ rfl (by first | exact hget0 | exact hgetN _ rfl | assumption | exact hgetL (by assumption)) sz27 ag27 (by simp [push_cast]) ?_
                all_goals (try simp only [push_cast, Int.reduceToNat, Nat.reduceMul, Nat.reduceAdd])
                all_goals (constructor <;> first | rfl | trivial)
              apply And.intro
              · apply DOne_do
                case' ho => rfl
                case' hw => rfl
                refine AOp_call _ _ _ rfl rfl ok19 ?_
                (try simp only [push_cast, Int.reduceToNat, Nat.reduceMul, Nat.reduceAdd])
                first
                 | refine (applyR_ac σ hσ s (by omega) _).mono ?_
                 | refine (applyR_ac σ hσ t (by omega) _).mono ?_
                rintro r H' ⟨rfl, rfl⟩
                all_goals (try simp only [push_cast, Int.reduceToNat, Nat.reduceMul, Nat.reduceAdd])
                all_goals (constructor <;> first | rfl | trivial)
              apply And.intro
              · apply DOne_do
                case' ho => rfl
                case' hw => rfl
                refine AOp_fieldAddr_ptr _ _ _ _ rfl fd46_0 (by decide) ?_
                all_goals (try simp only [push_cast, Int.reduceToNat, Nat.reduceMul, Nat.reduceAdd])
                all_goals (constructor <;> first | rfl | trivial)
              apply And.intro
              · apply DOne_do
                case' ho => rfl
                case' hw => rfl
                refine AOp_load1_ptr _ _ _ _ _ rfl (by first | exact hget0 | exact hgetN _ rfl | assumption | exact hgetL (by assumption)) sz43 ag43 (by decide) (by simp [push_cast]) rfl ?_
                all_goals (try simp only [push_cast, Int.reduceToNat, Nat.reduceMul, Nat.reduceAdd])
                all_goals (constructor <;> first | rfl | trivial)
              apply And.intro
              · apply DOne_do
                case' ho => rfl
                case' hw => rfl
                refine AOp_load_ptr _ _ _ _ rfl (by first | exact hget0 | exact hgetN _ rfl | assumption | exact hgetL (by assumption)) sz27 ag27 (by simp [push_cast]) ?_
                all_goals (try simp only [push_cast, Int.reduceToNat, Nat.reduceMul, Nat.reduceAdd])
                all_goals (constructor <;> first | rfl | trivial)
              apply And.intro
              · apply DOne_do
                case' ho => rfl
                case' hw => rfl
                refine AOp_call _ _ _ rfl rfl ok19 ?_
                (try simp only [push_cast, Int.reduceToNat, Nat.reduceMul, Nat.reduceAdd])
                first
                 | refine (applyR_ac σ hσ s (by omega) _).mono ?_
                 | refine (applyR_ac σ hσ t (by omega) _).mono ?_
                rintro r H' ⟨rfl, rfl⟩
                all_goals (try simp only [push_cast, Int.reduceToNat, Nat.reduceMul, Nat.reduceAdd])
                all_goals (constructor <;> first | rfl | trivial)
              apply And.intro
              · apply DOne_do
                case' ho => rfl
                case' hw => rfl
                refine AOp_allocAt (H.length + 6) _ (by first | exact hget0 | exact hgetN _ rfl | assumption | exact hgetL (by assumption)) zr27 (by simp [ofVal, AV.isCell, Value.oneCell']) ?_
                all_goals (try simp only [push_cast, Int.reduceToNat, Nat.reduceMul, Nat.reduceAdd])
                all_goals (constructor <;> first | rfl | trivial)
              apply And.intro
              · apply DOne_do
                case' ho => rfl
                case' hw => rfl
                refine AOp_allocAt (H.length + 7) _ (by first | exact hget0 | exact hgetN _ rfl | assumption | exact hgetL (by assumption)) zr27 (by simp [ofVal, AV.isCell, Value.oneCell']) ?_
                all_goals (try simp only [push_cast, Int.reduceToNat, Nat.reduceMul, Nat.reduceAdd])
                all_goals (constructor <;> first | rfl | trivial)
              apply And.intro
              · apply DOne_do
                case' ho => rfl
                case' hw => rfl
                refine AOp_fieldAddr_ptr _ _ _ _ rfl fd46_0 (by decide) ?_
                all_goals (try simp only [push_cast, Int.reduceToNat, Nat.reduceMul, Nat.reduceAdd])
                all_goals (constructor <;> first | rfl | trivial)
              apply And.intro
              · apply DOne_do
                case' ho => rfl
                case' hw => rfl
                refine AOp_fieldAddr_ptr _ _ _ _ rfl fd46_0 (by decide) ?_
                all_goals (try simp only [push_cast, Int.reduceToNat, Nat.reduceMul, Nat.reduceAdd])
                all_goals (constructor <;> first | rfl | trivial)
              apply And.intro
              · apply DOne_do
                case' ho => rfl
                case' hw => rfl
                refine AOp_load1_ptr _ _ _ _ _ rfl (by first | exact hget0 | exact hgetN _ rfl | assumption | exact hgetL (by assumption)) sz43 ag43 (by decide) (by simp [push_cast]) rfl ?_
                all_goals (try simp only [push_cast, Int.reduceToNat, Nat.reduceMul, Nat.reduceAdd])
                all_goals (constructor <;> first | rfl | trivial)
              apply And.intro
              · apply DOne_do
                case' ho => rfl
                case' hw => rfl
                refine AOp_load1_ptr _ _ _ _ _ rfl (by first | exact hget0 | exact hgetN _ rfl | assumption | exact hgetL (by assumption)) sz43 ag43 (by decide) (by simp [push_cast]) rfl ?_
                all_goals (try simp only [push_cast, Int.reduceToNat, Nat.reduceMul, Nat.reduceAdd])
                all_goals (constructor <;> first | rfl | trivial)
              apply And.intro
              · apply DOne_do
                case' ho => rfl
                case' hw => rfl
                refine AOp_load_ptr _ _ _ _ rfl (by first | exact hget0 | exact hgetN _ rfl | assumption | exact hgetL (by assumption)) sz27 ag27 (by simp [push_cast]) ?_
                all_goals (try simp only [push_cast, Int.reduceToNat, Nat.reduceMul, Nat.reduceAdd])
                all_goals (constructor <;> first | rfl | trivial)
              apply And.intro
              · apply DOne_do
                case' ho => rfl
                case' hw => rfl
                refine AOp_load_ptr _ _ _ _ rfl (by first | exact hget0 | exact hgetN _ rfl | assumption | exact hgetL (by assumption)) sz27 ag27 (by simp [push_cast]) ?_
                all_goals (try simp only [push_cast, Int.reduceToNat, Nat.reduceMul, Nat.reduceAdd])
                all_goals (constructor <;> first | rfl | trivial)
              apply And.intro
              · apply DOne_do
                case' ho => rfl
                case' hw => rfl
                refine AOp_call _ _ _ rfl rfl ok19 ?_
                (try simp only [push_cast, Int.reduceToNat, Nat.reduceMul, Nat.reduceAdd])
                first
                 | refine (applyR_ac σ hσ s (by omega) _).mono ?_
                 | refine (applyR_ac σ hσ t (by omega) _).mono ?_
                rintro r H' ⟨rfl, rfl⟩
                all_goals (try simp only [push_cast, Int.reduceToNat, Nat.reduceMul, Nat.reduceAdd])
                all_goals (constructor <;> first | rfl | trivial)
              apply And.intro
              · apply DOne_do
                case' ho => rfl
                case' hw => rfl
                refine AOp_call _ _ _ rfl rfl ok19 ?_
                (try simp only [push_cast, Int.reduceToNat, Nat.reduceMul, Nat.reduceAdd])
                first
                 | refine (applyR_ac σ hσ s (by omega) _).mono ?_
                 | refine (applyR_ac σ hσ t (by omega) _).mono ?_
                rintro r H' ⟨rfl, rfl⟩
                all_goals (try simp only [push_cast, Int.reduceToNat, Nat.reduceMul, Nat.reduceAdd])
                all_goals (constructor <;> first | rfl | trivial)
              apply And.intro
              · apply DOne_do
                case' ho => rfl
                case' hw => rfl
                refine AOp_fieldAddr_ptr _ _ _ _ rfl fd46_0 (by decide) ?_
                all_goals (try simp only [push_cast, Int.reduceToNat, Nat.reduceMul, Nat.reduceAdd])
                all_goals (constructor <;> first | rfl | trivial)
              apply And.intro
              · apply DOne_do
                case' ho => rfl
                case' hw => rfl
                refine AOp_fieldAddr_ptr _ _ _ _ rfl fd46_0 (by decide) ?_
                all_goals (try simp only [push_cast, Int.reduceToNat, Nat.reduceMul, Nat.reduceAdd])
                all_goals (constructor <;> first | rfl | trivial)
              apply And.intro
              · apply DOne_do
                case' ho => rfl
                case' hw => rfl
                refine AOp_load1_ptr _ _ _ _ _ rfl (by first | exact hget0 | exact hgetN _ rfl | assumption | exact hgetL (by assumption)) sz43 ag43 (by decide) (by simp [push_cast]) rfl ?_
                all_goals (try simp only [push_cast, Int.reduceToNat, Nat.reduceMul, Nat.reduceAdd])
                all_goals (constructor <;> first | rfl | trivial)
              apply And.intro
              · apply DOne_do
                case' ho => rfl
                case' hw => rfl
                refine AOp_load1_ptr _ _ _ _ _ rfl (by first | exact hget0 | exact hgetN _ rfl | assumption | exact hgetL (by assumption)) sz43 ag43 (by decide) (by simp [push_cast]) rfl ?_
                all_goals (try simp only [push_cast, Int.reduceToNat, Nat.reduceMul, Nat.reduceAdd])
                all_goals (constructor <;> first | rfl | trivial)
              apply And.intro
              · apply DOne_do
                case' ho => rfl
                case' hw => rfl
                refine AOp_load_ptr _ _ _ _ rfl (by first | exact hget0 | exact hgetN _ rfl | assumption | exact hgetL (by assumption)) sz27 ag27 (by simp [push_cast]) ?_
                all_goals (try simp only [push_cast, Int.reduceToNat, Nat.reduceMul, Nat.reduceAdd])
                all_goals (constructor <;> first | rfl | trivial)
              apply And.intro
              · apply DOne_do
                case' ho => rfl
                case' hw => rfl
                refine AOp_load_ptr _ _ _ _ rfl (by first | exact hget0 | exact hgetN _ rfl | assumption | exact hgetL (by assumption)) sz27 ag27 (by simp [push_cast]) ?_
                all_goals (try simp only [push_cast, Int.reduceToNat, Nat.reduceMul, Nat.reduceAdd])
                all_goals (constructor <;> first | rfl | trivial)
              apply And.intro
              · apply DOne_do
                case' ho => rfl
                case' hw => rfl
                refine AOp_call _ _ _ rfl rfl ok19 ?_
                (try simp only [push_cast, Int.reduceToNat, Nat.reduceMul, Nat.reduceAdd])
                first
                 | refine (applyR_ac σ hσ s (by omega) _).mono ?_
                 | refine (applyR_ac σ hσ t (by omega) _).mono ?_
                rintro r H' ⟨rfl, rfl⟩
                all_goals (try simp only [push_cast, Int.reduceToNat, Nat.reduceMul, Nat.reduceAdd])
                all_goals (constructor <;> first | rfl | trivial)
              apply And.intro
              · apply DOne_do
                case' ho => rfl
                case' hw => rfl
                refine AOp_call _ _ _ rfl rfl ok19 ?_
                (try simp only [push_cast, Int.reduceToNat, Nat.reduceMul, Nat.reduceAdd])
                first
                 | refine (applyR_ac σ hσ s (by omega) _).mono ?_
                 | refine (applyR_ac σ hσ t (by omega) _).mono ?_
                rintro r H' ⟨rfl, rfl⟩
                all_goals (try simp only [push_cast, Int.reduceToNat, Nat.reduceMul, Nat.reduceAdd])
                all_goals (constructor <;> first | rfl | trivial)
              apply And.intro
              · apply DOne_do
                case' ho => rfl
                case' hw => rfl
                refine AOp_allocAt (H.length + 6) _ (by first | exact hget0 | exact hgetN _ rfl | assumption | exact hgetL (by assumption)) zr27 (by simp [ofVal, AV.isCell, Value.oneCell']) ?_
                all_goals (try simp only [push_cast, Int.reduceToNat, Nat.reduceMul, Nat.reduceAdd])
                all_goals (constructor <;> first | rfl | trivial)
              apply And.intro
              · apply DOne_do
                case' ho => rfl
                case' hw => rfl
                refine AOp_allocAt (H.length + 7) _ (by first | exact hget0 | exact hgetN _ rfl | assumption | exact hgetL (by assumption)) zr27 (by simp [ofVal, AV.isCell, Value.oneCell']) ?_
                all_goals (try simp only [push_cast, Int.reduceToNat, Nat.reduceMul, Nat.reduceAdd])
                all_goals (constructor <;> first | rfl | trivial)
              apply And.intro
              · apply DOne_do
                case' ho => rfl
                case' hw => rfl
                refine AOp_fieldAddr_ptr _ _ _ _ rfl fd46_0 (by decide) ?_
                all_goals (try simp only [push_cast, Int.reduceToNat, Nat.reduceMul, Nat.reduceAdd])
                all_goals (constructor <;> first | rfl | trivial)
              apply And.intro
              · apply DOne_do
                case' ho => rfl
                case' hw => rfl
                refine AOp_load1_ptr _ _ _ _ _ rfl (by first | exact hget0 | exact hgetN _ rfl | assumption | exact hgetL (by assumption)) sz43 ag43 (by decide) (by simp [push_cast]) rfl ?_
                all_goals (try simp only [push_cast, Int.reduceToNat, Nat.reduceMul, Nat.reduceAdd])
                all_goals (constructor <;> first | rfl | trivial)
              apply And.intro
              · apply DOne_do
                case' ho => rfl
                case' hw => rfl
                refine AOp_load_ptr _ _ _ _ rfl (by first | exact hget0 | exact hgetN _ rfl | assumption | exact hgetL (by assumption)) sz27 ag27 (by simp [push_cast]) ?_
                all_goals (try simp only [push_cast, Int.reduceToNat, Nat.reduceMul, Nat.reduceAdd])
                all_goals (constructor <;> first | rfl | trivial)
              apply And.intro
              · apply DOne_do
                case' ho => rfl
                case' hw => rfl
                refine AOp_call _ _ _ rfl rfl ok19 ?_
                (try simp only [push_cast, Int.reduceToNat, Nat.reduceMul, Nat.reduceAdd])
                first
                 | refine (applyR_ac σ hσ s (by omega) _).mono ?_
                 | refine (applyR_ac σ hσ t (by omega) _).mono ?_
                rintro r H' ⟨rfl, rfl⟩
                all_goals (try simp only [push_cast, Int.reduceToNat, Nat.reduceMul, Nat.reduceAdd])
                all_goals (constructor <;> first | rfl | trivial)
              apply And.intro
              · apply DOne_do
                case' ho => rfl
                case' hw => rfl
                refine AOp_fieldAddr_ptr _ _ _ _ rfl fd46_0 (by decide) ?_
                all_goals (try simp only [push_cast, Int.reduceToNat, Nat.reduceMul, Nat.reduceAdd])
                all_goals (constructor <;> first | rfl | trivial)
              apply And.intro
              · apply DOne_do
                case' ho => rfl
                case' hw => rfl
                refine AOp_load1_ptr _ _ _ _ _ rfl (by first | exact hget0 | exact hgetN _ rfl | assumption | exact hgetL (by assumption)) sz43 ag43 (by decide) (by simp [push_cast]) rfl ?_
                all_goals (try simp only [push_cast, Int.reduceToNat, Nat.reduceMul, Nat.reduceAdd])
                all_goals (constructor <;> first | rfl | trivial)
              apply And.intro
              · apply DOne_do
                case' ho => rfl
                case' hw => rfl
                refine AOp_load_ptr _ _ _ _ rfl (by first | exact hget0 | exact hgetN _ rfl | assumption | exact hgetL (by assumption)) sz27 ag27 (by simp [push_cast]) ?_
                all_goals (try simp only [push_cast, Int.reduceToNat, Nat.reduceMul, Nat.reduceAdd])
                all_goals (constructor <;> first | rfl | trivial)
              apply And.intro
              · apply DOne_do
                case' ho => rfl
                case' hw => rfl
                refine AOp_call _ _ _ rfl rfl ok19 ?_
                (try simp only [push_cast, Int.reduceToNat, Nat.reduceMul, Nat.reduceAdd])
                first
                 | refine (applyR_ac σ hσ s (by omega) _).mono ?_
                 | refine (applyR_ac σ hσ t (by omega) _).mono ?_
                rintro r H' ⟨rfl, rfl⟩
                all_goals (try simp only [push_cast, Int.reduceToNat, Nat.reduceMul, Nat.reduceAdd])
                all_goals (constructor <;> first | rfl | trivial)
              apply And.intro
              · apply DOne_do
                case' ho => rfl
                case' hw => rfl
                refine AOp_store _ _ _ _ _ rfl (by first | exact hget0 | exact hgetN _ rfl | assumption | exact hgetL (by assumption)) rfl rfl (by first | exact .inl rfl | exact .inr ⟨_, rfl⟩) (by simp [push_cast, AV.isCell]) sz27 (by simp [push_cast]) ?_
                all_goals (try simp only [push_cast, Int.reduceToNat, Nat.reduceMul, Nat.reduceAdd])
                all_goals (constructor <;> first | rfl | trivial)
              apply And.intro
              · apply DOne_do
                case' ho => rfl
                case' hw => rfl
                refine AOp_fieldAddr_ptr _ _ _ _ rfl fd46_0 (by decide) ?_
                all_goals (try simp only [push_cast, Int.reduceToNat, Nat.reduceMul, Nat.reduceAdd])
                all_goals (constructor <;> first | rfl | trivial)
              apply And.intro
              · apply DOne_do
                case' ho => rfl
                case' hw => rfl
                refine AOp_load1_ptr _ _ _ _ _ rfl (by first | exact hget0 | exact hgetN _ rfl | assumption | exact hgetL (by assumption)) sz43 ag43 (by decide) (by simp [push_cast]) rfl ?_
                all_goals (try simp only [push_cast, Int.reduceToNat, Nat.reduceMul, Nat.reduceAdd])
                all_goals (constructor <;> first | rfl | trivial)
              apply And.intro
              · apply DOne_do
                case' ho => rfl
                case' hw => rfl
                refine AOp_load_ptr _ _ _ _ rfl (by first | exact hget0 | exact hgetN _ rfl | assumption | exact hgetL (by assumption)) sz27 ag27 (by simp [push_cast]) ?_
                all_goals (try simp only [push_cast, Int.reduceToNat, Nat.reduceMul, Nat.reduceAdd])
                all_goals (constructor <;> first | rfl | trivial)
              apply And.intro
              · apply DOne_do
                case' ho => rfl
                case' hw => rfl
                refine AOp_store _ _ _ _ _ rfl (by first | exact hget0 | exact hgetN _ rfl | assumption | exact hgetL (by assumption)) rfl rfl (by first | exact .inl rfl | exact .inr ⟨_, rfl⟩) (by simp [push_cast, AV.isCell]) sz27 (by simp [push_cast]) ?_
                all_goals (try simp only [push_cast, Int.reduceToNat, Nat.reduceMul, Nat.reduceAdd])
                all_goals (constructor <;> first | rfl | trivial)
              exact trivial
             case' hQ => skip
             (try simp only [push_cast, putD, stg, beqB, List.replicate, Nat.reduceAdd, List.getD_cons_zero, List.getD_cons_succ])
             all_goals
              refine thenK_normal (hK22 _ ?_)
              try clear hK22
              refine AW_seq_k (fun K23 hK23 => ?_)
              refine AW_region ?_
              all_goals (refine AOps_cons rfl (AOp_load_ptr _ _ _ _ rfl (by first | exact hget0 | exact hgetN _ rfl | assumption | exact hgetL (by assumption)) sz24 ag24 (by simp [push_cast]) ?_) <;> try simp only [push_cast, Int.reduceToNat, Nat.reduceMul, Nat.reduceAdd])
              all_goals (refine AOps_cons rfl (AOp_load_ptr _ _ _ _ rfl (by first | exact hget0 | exact hgetN _ rfl | assumption | exact hgetL (by assumption)) sz27 ag27 (by simp [push_cast]) ?_) <;> try simp only [push_cast, Int.reduceToNat, Nat.reduceMul, Nat.reduceAdd])
              all_goals (refine AOps_cons rfl (AOp_load_ptr _ _ _ _ rfl (by first | exact hget0 | exact hgetN _ rfl | assumption | exact hgetL (by assumption)) sz27 ag27 (by simp [push_cast]) ?_) <;> try simp only [push_cast, Int.reduceToNat, Nat.reduceMul, Nat.reduceAdd])
              all_goals (refine AOps_cons rfl (AOp_buildRow _ [_, _] sl25 sz27 zr27 rfl rfl (by simp [AV.cells, AV.isCell, AV.isAgg, push_cast]) (by decide) rfl ?_) <;> try simp only [push_cast, Int.reduceToNat, Nat.reduceMul, Nat.reduceAdd])
              all_goals refine AOps_cons rfl (AOp_call _ _ _ rfl rfl ok15 ?_)
              all_goals (try simp only [push_cast, Int.reduceToNat, Nat.reduceMul, Nat.reduceAdd])
              all_goals simp only [ev2]
              all_goals refine (lawFits_ac l unit [applyP σ s, applyP σ t] hlen hnl (by simp) (by simpa using ha) _).mono ?_
              all_goals rintro r H' ⟨rfl, rfl⟩
              all_goals (try simp only [push_cast, Int.reduceToNat, Nat.reduceMul, Nat.reduceAdd])
              all_goals refine AOps_cons rfl (AOp_move ?_)
              all_goals (try simp only [push_cast, Int.reduceToNat, Nat.reduceMul, Nat.reduceAdd])
              all_goals (try refine AOps_split 84 _ rfl (fun hg24 => ?_) (fun hg24 => ?_))
              all_goals (try (exfalso; (first | (cases hg24; done) | (simp at hg24; done) | (simp at hg24; omega)); done))
              all_goals (try simp only [decide_eq_true_eq, decide_eq_false_iff_not, Bool.not_eq_true', Bool.not_eq_false', Bool.not_eq_eq_eq_not, Bool.not_true, Bool.not_false] at hg24)
              all_goals first
               | refine AOps_skip rfl ?_
               | (refine AOps_cons rfl ?_
                  refine AOp_load_ptr _ _ _ _ rfl (by first | exact hget0 | exact hgetN _ rfl | assumption | exact hgetL (by assumption)) sz24 ag24 (by simp [push_cast]) ?_)
              all_goals (try simp only [push_cast, Int.reduceToNat, Nat.reduceMul, Nat.reduceAdd])
              all_goals first
               | refine AOps_skip rfl ?_
               | (refine AOps_cons rfl ?_
                  refine AOp_load_ptr _ _ _ _ rfl (by first | exact hget0 | exact hgetN _ rfl | assumption | exact hgetL (by assumption)) sz27 ag27 (by simp [push_cast]) ?_)
              all_goals (try simp only [push_cast, Int.reduceToNat, Nat.reduceMul, Nat.reduceAdd])
              all_goals first
               | refine AOps_skip rfl ?_
               | (refine AOps_cons rfl ?_
                  refine AOp_load_ptr _ _ _ _ rfl (by first | exact hget0 | exact hgetN _ rfl | assumption | exact hgetL (by assumption)) sz27 ag27 (by simp [push_cast]) ?_)
              all_goals (try simp only [push_cast, Int.reduceToNat, Nat.reduceMul, Nat.reduceAdd])
              all_goals first
               | refine AOps_skip rfl ?_
               | (refine AOps_cons rfl ?_
                  refine AOp_call _ _ _ rfl rfl ok14 ?_
                  (try simp only [push_cast, Int.reduceToNat, Nat.reduceMul, Nat.reduceAdd])
                  refine (lawGreater_ac l unit (applyP σ s) (applyP σ t) hlen hnl ha _).mono ?_
                  rintro r H' ⟨rfl, rfl⟩)
              all_goals (try simp only [push_cast, Int.reduceToNat, Nat.reduceMul, Nat.reduceAdd])
              all_goals first
               | refine AOps_skip rfl ?_
               | (refine AOps_cons rfl ?_
                  refine AOp_not _ rfl ?_)
              all_goals (try simp only [push_cast, Int.reduceToNat, Nat.reduceMul, Nat.reduceAdd])
              all_goals (refine AOps_cons rfl (AOp_pick _ rfl ?_) <;> try simp only [push_cast, Int.reduceToNat, Nat.reduceMul, Nat.reduceAdd])
              all_goals refine AOps_nil ?_
              all_goals
               refine thenK_normal (hK23 _ ?_)
               try clear hK23
               apply AW_cond
               case' hc => exact rfl
               case' hf =>
                intro hc25
                try (exfalso; (first | (cases hc25; done) | (simp at hc25; done) | (simp at hc25; omega)); done)
                all_goals (try simp only [decide_eq_true_eq, decide_eq_false_iff_not, Bool.not_eq_true', Bool.not_eq_false', Bool.not_eq_eq_eq_not, Bool.not_true, Bool.not_false] at hc25)
                all_goals
                 refine AW_skip ?_
               case' ht =>
                intro hc25
                try (exfalso; (first | (cases hc25; done) | (simp at hc25; done) | (simp at hc25; omega)); done)
                all_goals (try simp only [decide_eq_true_eq, decide_eq_false_iff_not, Bool.not_eq_true', Bool.not_eq_false', Bool.not_eq_eq_eq_not, Bool.not_true, Bool.not_false] at hc25)
                all_goals
                 refine AW_seq_k (fun K26 hK26 => ?_)
                 refine AW_region ?_
                 all_goals (refine AOps_cons rfl (AOp_assign ?_) <;> try simp only [push_cast, Int.reduceToNat, Nat.reduceMul, Nat.reduceAdd])
                 all_goals refine AOps_nil ?_
                 all_goals
                  refine thenK_normal (hK26 _ ?_)
                  try clear hK26
                  refine AW_ret ?_
                  repeat (first | refine thenK_ret ?_ | refine loopK_ret ?_ | refine blockK_ret ?_)
                  exfalso
                  have := hsub (by assumption) (by assumption)
                  simp_all
           all_goals
            refine thenK_normal ?_
            (try simp only [push_cast, Int.reduceToNat, Nat.reduceMul, Nat.reduceAdd])
            refine hK8 _ x trivial ?_
            rw [hOB]
            simp only [push_cast, Nat.reduceAdd]
            exact weak_app 6 (by (repeat (first | exact SlotsOk.nil | refine SlotsOk.junk ?_ | refine SlotsOk.same (by first | (simp [push_cast]; done) | (simp [push_cast, Scoped, ScopedL, *]; done)) ?_ | refine SlotsOk.tok (by first | rfl | (simp; done)) (by first | (simp [push_cast]; done) | (simp [push_cast, Scoped, ScopedL, *]; done)) ?_ | refine SlotsOk.eq (by first | rfl | (congr 1; omega) | (simp; done) | (simp; omega)) (by first | (simp [push_cast]; done) | (simp [push_cast, Scoped, ScopedL, *]; done)) ?_))) (by simp) (fun o ho => hob x o (by rw [hOB]; exact ho))
       case' ht =>
        intro hc7
        try (exfalso; (first | (cases hc7; done) | (simp at hc7; done) | (simp at hc7; omega)); done)
        all_goals (try simp only [decide_eq_true_eq, decide_eq_false_iff_not, Bool.not_eq_true', Bool.not_eq_false', Bool.not_eq_eq_eq_not, Bool.not_true, Bool.not_false] at hc7)
        all_goals
         refine AW_seq_k (fun K27 hK27 => ?_)
         refine AW_region ?_
         all_goals refine AOps_cons rfl (AOp_call _ _ _ rfl rfl ok12 ?_)
         all_goals (try simp only [push_cast, Int.reduceToNat, Nat.reduceMul, Nat.reduceAdd])
         all_goals refine (alive_ac _).mono ?_
         all_goals rintro r H' ⟨rfl, rfl⟩
         all_goals (try simp only [push_cast, Int.reduceToNat, Nat.reduceMul, Nat.reduceAdd])
         all_goals (refine AOps_cons rfl (AOp_assign ?_) <;> try simp only [push_cast, Int.reduceToNat, Nat.reduceMul, Nat.reduceAdd])
         all_goals refine AOps_nil ?_
         all_goals
          refine thenK_normal (hK27 _ ?_)
          try clear hK27
          refine AW_ret ?_
          repeat (first | refine thenK_ret ?_ | refine loopK_ret ?_ | refine blockK_ret ?_)
          refine ⟨by first | exact .inl rfl | exact .inr rfl, _, rfl, (by first | exact outok_app 0 rfl (Nat.zero_le _) (by simp) | exact outok_self), by simp [push_cast], ?_⟩
          simp only [push_cast, Nat.reduceAdd]
          simp
     case' hx =>
      intro K4 hK4
      refine AW_seq_k (fun K28 hK28 => ?_)
      refine AW_region ?_
      all_goals refine AOps_cons rfl (AOp_move ?_)
      all_goals refine AOps_cons rfl (AOp_move ?_)
      all_goals (try simp only [push_cast, Int.reduceToNat, Nat.reduceMul, Nat.reduceAdd])
      all_goals (try refine AOps_split 28 _ rfl (fun hg29 => ?_) (fun hg29 => ?_))
      all_goals (try (exfalso; (first | (cases hg29; done) | (simp at hg29; done) | (simp at hg29; omega)); done))
      all_goals (try simp only [decide_eq_true_eq, decide_eq_false_iff_not, Bool.not_eq_true', Bool.not_eq_false', Bool.not_eq_eq_eq_not, Bool.not_true, Bool.not_false] at hg29)
      all_goals first
       | refine AOps_skip rfl ?_
       | (refine AOps_cons rfl ?_
          refine AOp_fieldAddr_ptr _ _ _ _ rfl fd46_2 (by decide) ?_)
      all_goals (try simp only [push_cast, Int.reduceToNat, Nat.reduceMul, Nat.reduceAdd])
      all_goals first
       | refine AOps_skip rfl ?_
       | (refine AOps_cons rfl ?_
          refine AOp_load1_ptr _ _ _ _ _ rfl (by first | exact hget0 | exact hgetN _ rfl | assumption | exact hgetL (by assumption)) sz44 ag44 (by decide) (by simp [push_cast]) rfl ?_)
      all_goals (try simp only [push_cast, Int.reduceToNat, Nat.reduceMul, Nat.reduceAdd])
      all_goals first
       | refine AOps_skip rfl ?_
       | (refine AOps_cons rfl ?_
          refine AOp_len_sl _ _ _ rfl sl44 ?_)
      all_goals (try simp only [push_cast, Int.reduceToNat, Nat.reduceMul, Nat.reduceAdd])
      all_goals first
       | refine AOps_skip rfl ?_
       | (refine AOps_cons rfl ?_
          refine AOp_bin_int _ _ _ _ rfl rfl rfl ?_)
      all_goals (try simp only [push_cast, Int.reduceToNat, Nat.reduceMul, Nat.reduceAdd])
      all_goals refine AOps_cons rfl (AOp_pick _ rfl ?_)
      all_goals refine AOps_cons rfl (AOp_move ?_)
      all_goals (try simp only [push_cast, Int.reduceToNat, Nat.reduceMul, Nat.reduceAdd])
      all_goals (try refine AOps_split 34 _ rfl (fun hg30 => ?_) (fun hg30 => ?_))
      all_goals (try (exfalso; (first | (cases hg30; done) | (simp at hg30; done) | (simp at hg30; omega)); done))
      all_goals (try simp only [decide_eq_true_eq, decide_eq_false_iff_not, Bool.not_eq_true', Bool.not_eq_false', Bool.not_eq_eq_eq_not, Bool.not_true, Bool.not_false] at hg30)
      all_goals first
       | refine AOps_skip rfl ?_
       | (refine AOps_cons rfl ?_
          refine AOp_load_ptr _ _ _ _ rfl (by first | exact hget0 | exact hgetN _ rfl | assumption | exact hgetL (by assumption)) sz24 ag24 (by simp [push_cast]) ?_)
      all_goals (try simp only [push_cast, Int.reduceToNat, Nat.reduceMul, Nat.reduceAdd])
      all_goals first
       | refine AOps_skip rfl ?_
       | (refine AOps_cons rfl ?_
          refine AOp_fieldAddr_ptr _ _ _ _ rfl fd46_1 (by decide) ?_)
      all_goals (try simp only [push_cast, Int.reduceToNat, Nat.reduceMul, Nat.reduceAdd])
      all_goals first
       | refine AOps_skip rfl ?_
       | (refine AOps_cons rfl ?_
          refine AOp_load_ptr _ _ _ _ rfl (by first | exact hget0 | exact hgetN _ rfl | assumption | exact hgetL (by assumption)) sz27 ag27 (by simp [push_cast]) ?_)
      all_goals (try simp only [push_cast, Int.reduceToNat, Nat.reduceMul, Nat.reduceAdd])
      all_goals first
       | refine AOps_skip rfl ?_
       | (refine AOps_cons rfl ?_
          refine AOp_buildRow _ [_] sl25 sz27 zr27 rfl rfl (by simp [AV.cells, AV.isCell, AV.isAgg, push_cast]) (by decide) rfl ?_)
      all_goals (try simp only [push_cast, Int.reduceToNat, Nat.reduceMul, Nat.reduceAdd])
      all_goals first
       | refine AOps_skip rfl ?_
       | (refine AOps_cons rfl ?_
          refine AOp_call _ _ _ rfl rfl ok15 ?_
          (try simp only [push_cast, Int.reduceToNat, Nat.reduceMul, Nat.reduceAdd])
          simp only [hev1]
          refine (lawFits_ac l unit [c] hlen hnl (by simp) (by simpa using hbc) _).mono ?_
          rintro r H' ⟨rfl, rfl⟩)
      all_goals (try simp only [push_cast, Int.reduceToNat, Nat.reduceMul, Nat.reduceAdd])
      all_goals refine AOps_cons rfl (AOp_pick _ rfl ?_)
      all_goals refine AOps_cons rfl (AOp_move ?_)
      all_goals (try simp only [push_cast, Int.reduceToNat, Nat.reduceMul, Nat.reduceAdd])
      all_goals (try refine AOps_split 41 _ rfl (fun hg31 => ?_) (fun hg31 => ?_))
      all_goals (try (exfalso; (first | (cases hg31; done) | (simp at hg31; done) | (simp at hg31; omega)); done))
      all_goals (try simp only [decide_eq_true_eq, decide_eq_false_iff_not, Bool.not_eq_true', Bool.not_eq_false', Bool.not_eq_eq_eq_not, Bool.not_true, Bool.not_false] at hg31)
      all_goals first
       | refine AOps_skip rfl ?_
       | (refine AOps_cons rfl ?_
          refine AOp_load_ptr _ _ _ _ rfl (by first | exact hget0 | exact hgetN _ rfl | assumption | exact hgetL (by assumption)) sz24 ag24 (by simp [push_cast]) ?_)
      all_goals (try simp only [push_cast, Int.reduceToNat, Nat.reduceMul, Nat.reduceAdd])
      all_goals first
       | refine AOps_skip rfl ?_
       | (refine AOps_cons rfl ?_
          refine AOp_fieldAddr_ptr _ _ _ _ rfl fd46_1 (by decide) ?_)
      all_goals (try simp only [push_cast, Int.reduceToNat, Nat.reduceMul, Nat.reduceAdd])
      all_goals first
       | refine AOps_skip rfl ?_
       | (refine AOps_cons rfl ?_
          refine AOp_load_ptr _ _ _ _ rfl (by first | exact hget0 | exact hgetN _ rfl | assumption | exact hgetL (by assumption)) sz27 ag27 (by simp [push_cast]) ?_)
      all_goals (try simp only [push_cast, Int.reduceToNat, Nat.reduceMul, Nat.reduceAdd])
      all_goals first
       | refine AOps_skip rfl ?_
       | (refine AOps_cons rfl ?_
          refine AOp_load_ptr _ _ _ _ rfl (by first | exact hget0 | exact hgetN _ rfl | assumption | exact hgetL (by assumption)) sz27 ag27 (by simp [push_cast]) ?_)
      all_goals (try simp only [push_cast, Int.reduceToNat, Nat.reduceMul, Nat.reduceAdd])
      all_goals first
       | refine AOps_skip rfl ?_
       | (refine AOps_cons rfl ?_
          refine AOp_call _ _ _ rfl rfl ok14 ?_
          (try simp only [push_cast, Int.reduceToNat, Nat.reduceMul, Nat.reduceAdd])
          obtain ⟨y, hy⟩ := Option.isSome_iff_exists.1 (show (atP c p).isSome = true by assumption)
          have hxy := hx1 y hy
          subst hxy
          refine (lawGreater_ac l unit c x hlen hnl (hcx x hy) _).mono ?_
          rintro r H' ⟨rfl, rfl⟩)
      all_goals (try simp only [push_cast, Int.reduceToNat, Nat.reduceMul, Nat.reduceAdd])
      all_goals first
       | refine AOps_skip rfl ?_
       | (refine AOps_cons rfl ?_
          refine AOp_not _ rfl ?_)
      all_goals (try simp only [push_cast, Int.reduceToNat, Nat.reduceMul, Nat.reduceAdd])
      all_goals (refine AOps_cons rfl (AOp_pick _ rfl ?_) <;> try simp only [push_cast, Int.reduceToNat, Nat.reduceMul, Nat.reduceAdd])
      all_goals refine AOps_nil ?_
      all_goals
       refine thenK_normal (hK28 _ ?_)
       try clear hK28
       apply AW_cond
       case' hc => exact rfl
       case' hf =>
        intro hc32
        try (exfalso; (first | (cases hc32; done) | (simp at hc32; done) | (simp at hc32; omega)); done)
        all_goals (try simp only [decide_eq_true_eq, decide_eq_false_iff_not, Bool.not_eq_true', Bool.not_eq_false', Bool.not_eq_eq_eq_not, Bool.not_true, Bool.not_false] at hc32)
        all_goals
         refine AW_skip ?_
         refine thenK_normal ?_
         (try simp only [push_cast, Int.reduceToNat, Nat.reduceMul, Nat.reduceAdd])
         refine hK4 _ x trivial ?_
         rw [hOB]
         simp only [push_cast, Nat.reduceAdd]
         exact weak_app 6 (by (repeat (first | exact SlotsOk.nil | refine SlotsOk.junk ?_ | refine SlotsOk.same (by first | (simp [push_cast]; done) | (simp [push_cast, Scoped, ScopedL, *]; done)) ?_ | refine SlotsOk.tok (by first | rfl | (simp; done)) (by first | (simp [push_cast]; done) | (simp [push_cast, Scoped, ScopedL, *]; done)) ?_ | refine SlotsOk.eq (by first | rfl | (congr 1; omega) | (simp; done) | (simp; omega)) (by first | (simp [push_cast]; done) | (simp [push_cast, Scoped, ScopedL, *]; done)) ?_))) (by simp) (fun o ho => hob x o (by rw [hOB]; exact ho))
       case' ht =>
        intro hc32
        try (exfalso; (first | (cases hc32; done) | (simp at hc32; done) | (simp at hc32; omega)); done)
        all_goals (try simp only [decide_eq_true_eq, decide_eq_false_iff_not, Bool.not_eq_true', Bool.not_eq_false', Bool.not_eq_eq_eq_not, Bool.not_true, Bool.not_false] at hc32)
        all_goals
         refine AW_seq_k (fun K33 hK33 => ?_)
         refine AW_region ?_
         all_goals (refine AOps_cons rfl (AOp_assign ?_) <;> try simp only [push_cast, Int.reduceToNat, Nat.reduceMul, Nat.reduceAdd])
         all_goals refine AOps_nil ?_
         all_goals
          refine thenK_normal (hK33 _ ?_)
          try clear hK33
          refine AW_ret ?_
          repeat (first | refine thenK_ret ?_ | refine loopK_ret ?_ | refine blockK_ret ?_)
          exfalso
          have := hgat _ (by assumption) (by assumption) (by intro h; subst h; simp at *; done)
          simp_all
end Ab
namespace Ab
open Go
theorem mapM_get {α β : Type} {f : α → Option β} : ∀ {l : List α} {r : List β}, l.mapM f = some r → r.length = l.length ∧ ∀ i (h : i < l.length) (h' : i < r.length), f l[i] = some r[i]
  | [], r, h => by simp at h; subst h; simp
  | a :: l, r, h => by
    rw [List.mapM_cons] at h
    cases ha : f a with
    | none => simp [ha] at h
    | some b =>
      cases hl : l.mapM f with
      | none => simp [ha, hl] at h
      | some r' =>
        simp [ha, hl] at h
        subst h
        obtain ⟨h1, h2⟩ := mapM_get hl
        refine ⟨by simp [h1], fun i hi hi' => ?_⟩
        cases i with
        | zero => simpa using ha
        | succ i => simpa using h2 i (by simpa using hi) (by simpa using hi')
theorem mapM_mk {α β : Type} {f : α → Option β} : ∀ {l : List α} {r : List β}, r.length = l.length → (∀ i (h : i < l.length) (h' : i < r.length), f l[i] = some r[i]) → l.mapM f = some r
  | [], r, h, _ => by cases r with | nil => rfl | cons _ _ => simp at h
  | a :: l, [], h, _ => by simp at h
  | a :: l, b :: r, h, hf => by
    rw [List.mapM_cons]
    have h0 := hf 0 (by simp) (by simp)
    simp only [List.getElem_cons_zero] at h0
    rw [h0, mapM_mk (f := f) (l := l) (r := r) (by simpa using h) (fun i h1 h2 => by have := hf (i + 1) (by simp; omega) (by simp; omega); simpa only [List.getElem_cons_succ] using this)]
    rfl
inductive Kd where
  | bool
  | int (k : IntKind)
  | str
  | slice (e : TypeId)
  | struct (l : List TypeId)
  | array (n : Nat) (e : TypeId)
  | other
def kindOf (P : Program) (t : TypeId) : Kd := match P.underlying t with
  | some .bool => .bool
  | some (.int k) => .int k
  | some .string => .str
  | some (.slice e) => .slice e
  | some (.struct fs) => .struct (fs.toList.map (·.type))
  | some (.array n e) => .array n e
  | _ => .other
def layL (P : Program) : List (TypeId × Nat) → Nat → Option Nat
  | [], k => some k
  | f :: fs, k => if f.2 = k then layL P fs (k + P.cellsOf f.1) else none
def layOk (P : Program) (t : TypeId) : Bool := match P.underlying t with
  | some (.struct fs) => decide (layL P (fs.toList.map fun f => (f.type, f.offset)) 0 = some (P.cellsOf t))
  | some (.array n e) => decide (n * P.cellsOf e = P.cellsOf t)
  | _ => true
def aggK (P : Program) (t : TypeId) : Bool := match kindOf P t with
  | .struct _ => true
  | .array _ _ => true
  | _ => false
def closedK (P : Program) (ts : List TypeId) : Bool := ts.all fun t => layOk P t && match kindOf P t with
  | .bool => true
  | .int _ => true
  | .str => true
  | .slice e => ts.contains e
  | .struct l => l.all fun t' => ts.contains t'
  | .array _ e => ts.contains e
  | .other => false
def pack (b : Bool) (l : List AV) : AV := if b then .agg l else l.headD .junk
def toAV {H : Type} (P : Program) : Nat → TypeId → DataW H → Option (List AV)
  | 0, _, _ => none
  | n + 1, t, d => match kindOf P t, d with
    | .bool, .lit (.bool b) => some [.bool b]
    | .int k, .lit (.int k' i) => if k' = k then some [.int k i] else none
    | .str, .lit (.string bs) => some [.str bs]
    | .slice _, .nil => some [.sl .none []]
    | .slice e, .slice elems _ => (elems.mapM (toAV P n e)).map fun xss => [.sl .none (xss.map (pack (aggK P e)))]
    | .struct l, .agg parts => if l.length = parts.length then ((l.zip parts).mapM fun p => toAV P n p.1 p.2).map List.flatten else none
    | .array k e, .agg parts => if k = parts.length then (parts.mapM (toAV P n e)).map List.flatten else none
    | _, _ => none
structure CellsR (C : Ctx) (avs : List AV) (cs : List Value) : Prop where
  len : avs.length = cs.length
  rel : ∀ i (h : i < avs.length) (h' : i < cs.length), VRel C avs[i] cs[i]
  cell : ∀ a, a ∈ avs → a.isCell = true
theorem CellsR.nil {C : Ctx} : CellsR C [] [] := ⟨rfl, fun i h => absurd h (by simp), fun a h => by simp at h⟩
theorem CellsR.one {C : Ctx} {a : AV} {v : Value} (h : VRel C a v) (hc : a.isCell = true) : CellsR C [a] [v] := ⟨rfl, fun i h1 h2 => by
  have : i = 0 := by simp at h1; omega
  subst this; simpa using h, fun b hb => by simp at hb; subst hb; exact hc⟩
theorem CellsR.append {C : Ctx} {a b : List AV} {x y : List Value} (h1 : CellsR C a x) (h2 : CellsR C b y) : CellsR C (a ++ b) (x ++ y) := by
  refine ⟨by simp [h1.len, h2.len], fun i hi hi' => ?_, fun z hz => ?_⟩
  · rw [List.getElem_append, List.getElem_append]
    by_cases h : i < a.length
    · have h' : i < x.length := by rw [← h1.len]; exact h
      rw [dif_pos h, dif_pos h']; exact h1.rel i h h'
    · have h' : ¬ i < x.length := by rw [← h1.len]; exact h
      rw [dif_neg h, dif_neg h']
      simp only [h1.len]
      exact h2.rel _ (by simp at hi; have := h1.len; omega) (by simp at hi'; omega)
  · rcases List.mem_append.1 hz with h | h
    · exact h1.cell z h
    · exact h2.cell z h
theorem cells_isCell {a : AV} (h : a.isCell = true) : a.cells = [a] := by cases a <;> first | rfl | (simp [AV.isCell] at h)
section
variable {H : Type} {enc : TypeId × Value → H} {P : Program} {base : Nat} {spare : Nat → Bool} {held : Bool} {C : Ctx}
theorem toAV_one {n : Nat} {t : TypeId} {d : DataW H} {avs : List AV} (hk : aggK P t = false) (h : toAV P n t d = some avs) : ∃ a, avs = [a] := by
  cases n with
  | zero => simp [toAV] at h
  | succ n =>
    unfold toAV at h
    unfold aggK at hk
    split at h
    · simp at h; exact ⟨_, h.symm⟩
    · split at h
      · simp at h; exact ⟨_, h.symm⟩
      · cases h
    · simp at h; exact ⟨_, h.symm⟩
    · simp at h; exact ⟨_, h.symm⟩
    · rw [Option.map_eq_some_iff] at h; obtain ⟨x, _, rfl⟩ := h; exact ⟨_, rfl⟩
    · simp_all
    · simp_all
    · cases h
theorem row_rel (b sz : Nat) : ∀ (xss : List (List AV)) (o : Nat), (∀ i (h : i < xss.length), ∃ cs, CellsR C xss[i] cs ∧ cs.length = sz ∧ ∀ j (hj : j < cs.length), C.w.cell? ⟨b, o + i * sz + j, none⟩ = some cs[j]) →
    ∀ j (hj : j < xss.flatten.length), ∃ v, C.w.cell? ⟨b, o + j, none⟩ = some v ∧ VRel C xss.flatten[j] v
  | [], o, _, j, hj => by simp at hj
  | xs :: xss, o, h, j, hj => by
    obtain ⟨cs, h1, h2, h3⟩ := h 0 (by simp)
    simp only [List.getElem_cons_zero, Nat.zero_mul, Nat.add_zero] at h1 h3
    have hl := h1.len
    by_cases hjx : j < xs.length
    · refine ⟨cs[j]'(by omega), h3 j (by omega), ?_⟩
      have e : (xs :: xss).flatten[j] = xs[j] := by simp only [List.flatten_cons]; rw [List.getElem_append_left hjx]
      rw [e]; exact h1.rel j hjx (by omega)
    · have hj' : j - xs.length < xss.flatten.length := by simp only [List.flatten_cons, List.length_append] at hj; omega
      obtain ⟨v, e1, e2⟩ := row_rel b sz xss (o + sz) (fun i hi => by
        obtain ⟨cs', a1, a2, a3⟩ := h (i + 1) (by simp; omega)
        simp only [List.getElem_cons_succ] at a1
        refine ⟨cs', a1, a2, fun j hj => ?_⟩
        rw [← a3 j hj]; congr 2; rw [Nat.add_mul]; omega) (j - xs.length) hj'
      refine ⟨v, ?_, ?_⟩
      · rw [← e1]; congr 2; omega
      · have e : (xs :: xss).flatten[j] = xss.flatten[j - xs.length] := by simp only [List.flatten_cons]; rw [List.getElem_append_right (by omega)]
        rw [e]; exact e2
theorem flat_pack {b : Bool} : ∀ {xss : List (List AV)}, (∀ xs, xs ∈ xss → (∀ a, a ∈ xs → a.isCell = true) ∧ (b = false → ∃ a, xs = [a])) → flat (xss.map (pack b)) = xss.flatten
  | [], _ => rfl
  | xs :: xss, h => by
    have h1 := h xs (by simp)
    have ih := flat_pack (b := b) (xss := xss) (fun ys hy => h ys (by simp [hy]))
    have e : (pack b xs).cells = xs := by
      cases b with
      | true => rfl
      | false =>
        obtain ⟨a, rfl⟩ := h1.2 rfl
        exact cells_isCell (h1.1 a (by simp))
    have : flat (List.map (pack b) (xs :: xss)) = (pack b xs).cells ++ flat (List.map (pack b) xss) := by simp [flat]
    rw [this, ih, e]; rfl
theorem cells_read {w : World} {a : Addr} {n : Nat} {cs : List Value} (h : w.cells? base a n = some cs) : cs.length = n ∧ ∀ j (hj : j < cs.length), w.cell? (a.add j) = some cs[j] := by
  unfold World.cells? at h
  split at h
  · obtain ⟨h1, h2⟩ := mapM_get h
    refine ⟨by simpa using h1, fun j hj => ?_⟩
    have := h2 j (by rw [← h1]; exact hj) hj
    simpa using this
  · cases h
theorem struct_av {ts : List TypeId} {cs : List Value} {n : Nat} (ih : ∀ t cs d ps, DataW.trod enc P C.w base spare held n t cs = some (d, ps) → t ∈ ts → ∃ avs, toAV P n t d = some avs ∧ CellsR C avs cs) :
    ∀ (fs : List (TypeId × Nat)) (k total : Nat) (xs : List (DataW H × List MemPlace)), (∀ f, f ∈ fs → f.1 ∈ ts) → layL P fs k = some total → total ≤ cs.length →
      fs.mapM (fun f => DataW.trod enc P C.w base spare held n f.1 ((cs.drop f.2).take (P.cellsOf f.1))) = some xs →
      ∃ avs, ((fs.map (·.1)).zip (xs.map (·.1))).mapM (fun p => toAV P n p.1 p.2) = some avs ∧ CellsR C avs.flatten ((cs.drop k).take (total - k)) ∧ xs.length = fs.length ∧ k ≤ total
  | [], k, total, xs, _, hl, _, h => by
    simp [layL] at hl
    subst hl
    simp at h
    subst h
    exact ⟨[], rfl, by simp; exact CellsR.nil, rfl, Nat.le_refl _⟩
  | f :: fs, k, total, xs, hf, hl, ht, h => by
    unfold layL at hl
    split at hl
    · rename_i hk
      rw [List.mapM_cons] at h
      cases h1 : DataW.trod enc P C.w base spare held n f.1 ((cs.drop f.2).take (P.cellsOf f.1)) with
      | none => simp [h1] at h
      | some x =>
        cases h2 : fs.mapM (fun f => DataW.trod enc P C.w base spare held n f.1 ((cs.drop f.2).take (P.cellsOf f.1))) with
        | none => simp [h1, h2] at h
        | some xs' =>
          simp [h1, h2] at h
          subst h
          obtain ⟨d, ps⟩ := x
          obtain ⟨avs, a1, a2⟩ := ih _ _ _ _ h1 (hf f (by simp))
          obtain ⟨avss, b1, b2, b3, b4⟩ := struct_av ih fs _ total xs' (fun g hg => hf g (by simp [hg])) hl ht h2
          refine ⟨avs :: avss, ?_, ?_, by simp [b3], by omega⟩
          · simp only [List.map_cons, List.zip_cons_cons, List.mapM_cons, a1, b1]; rfl
          · have hs : (cs.drop k).take (total - k) = (cs.drop k).take (P.cellsOf f.1) ++ (cs.drop (k + P.cellsOf f.1)).take (total - (k + P.cellsOf f.1)) := by
              rw [← List.drop_drop, ← List.take_append_drop (P.cellsOf f.1) ((cs.drop k).take (total - k)), List.take_take, List.drop_take, Nat.min_eq_left (by omega)]
              congr 2; omega
            rw [hs, List.flatten_cons]
            rw [hk] at a2
            exact a2.append b2
    · cases hl
  termination_by fs => fs.length
theorem mapM_map2 {α β γ : Type} {f : α → Option β} {g : α → γ} {f' : γ → Option β} (h : ∀ a, f' (g a) = f a) {l : List α} {r : List β} (hm : l.mapM f = some r) : (l.map g).mapM f' = some r := by
  obtain ⟨h1, h2⟩ := mapM_get hm
  exact mapM_mk (by simp [h1]) (fun i hi hi' => by simp only [List.getElem_map, h]; exact h2 i (by simpa using hi) hi')
def offs (e : TypeId) (sz : Nat) : Nat → Nat → List (TypeId × Nat)
  | 0, _ => []
  | n + 1, i => (e, i * sz) :: offs e sz n (i + 1)
theorem offs_length (e : TypeId) (sz : Nat) : ∀ n i, (offs e sz n i).length = n
  | 0, _ => rfl
  | n + 1, i => by simp [offs, offs_length e sz n]
theorem offs_get (e : TypeId) (sz : Nat) : ∀ (n i j : Nat) (h : j < (offs e sz n i).length), (offs e sz n i)[j] = (e, (i + j) * sz)
  | 0, _, j, h => by simp [offs] at h
  | n + 1, i, 0, h => by simp [offs]
  | n + 1, i, j + 1, h => by
    simp only [offs, List.getElem_cons_succ]
    rw [offs_get e sz n (i + 1) j]; congr 2; omega
theorem offs_lay (P : Program) (e : TypeId) : ∀ n i, layL P (offs e (P.cellsOf e) n i) (i * P.cellsOf e) = some ((i + n) * P.cellsOf e)
  | 0, i => by simp [offs, layL]
  | n + 1, i => by
    have := offs_lay P e n (i + 1)
    simp only [offs, layL, if_true]
    rw [show i * P.cellsOf e + P.cellsOf e = (i + 1) * P.cellsOf e by rw [Nat.add_mul]; omega, this]
    congr 2; omega
theorem offs_fst (e : TypeId) (sz : Nat) : ∀ n i, (offs e sz n i).map (·.1) = List.replicate n e
  | 0, _ => rfl
  | n + 1, i => by simp [offs, offs_fst e sz n, List.replicate_succ]
theorem zip_rep {α β : Type} (e : α) : ∀ (l : List β), (List.replicate l.length e).zip l = l.map fun d => (e, d)
  | [] => rfl
  | d :: l => by simp [List.replicate_succ, zip_rep e l]
theorem closedK_mem {ts : List TypeId} (hts : closedK P ts = true) {t : TypeId} (ht : t ∈ ts) : layOk P t = true ∧ match kindOf P t with
    | .bool => True
    | .int _ => True
    | .str => True
    | .slice e => e ∈ ts
    | .struct l => ∀ t', t' ∈ l → t' ∈ ts
    | .array _ e => e ∈ ts
    | .other => False := by
  unfold closedK at hts
  rw [List.all_eq_true] at hts
  have := hts t ht
  rw [Bool.and_eq_true] at this
  refine ⟨this.1, ?_⟩
  have h2 := this.2
  cases hk : kindOf P t <;> simp only [hk] at h2 ⊢
  · simpa using h2
  · intro t' ht'
    rw [List.all_eq_true] at h2
    simpa using h2 t' ht'
  · simpa using h2
  · cases h2
theorem add_none {a : Addr} (h : a.spot = none) (i : Nat) : a.add i = ⟨a.block, a.off + i, none⟩ := by
  unfold Addr.add
  split
  · rename_i h0; subst h0; cases a; simp_all
  · rfl
theorem trod_av (hS : ∀ b o v, C.w.cell? ⟨b, o, none⟩ = some v → o < C.S b) {ts : List TypeId} (hts : closedK P ts = true) :
    ∀ (n : Nat) (t : TypeId) (cs : List Value) (d : DataW H) (ps : List MemPlace), DataW.trod enc P C.w base spare held n t cs = some (d, ps) → t ∈ ts → ∃ avs, toAV P n t d = some avs ∧ CellsR C avs cs := by
  intro n
  induction n with
  | zero => intro t cs d ps h _; simp [DataW.trod] at h
  | succ n ih =>
    intro t cs d ps h ht
    obtain ⟨hlay, hk⟩ := closedK_mem hts ht
    unfold DataW.trod at h
    unfold toAV
    unfold kindOf at hk ⊢
    split at h
    case h_1 b hu => simp only [hu] at hk ⊢; simp at h; obtain ⟨rfl, rfl⟩ := h; exact ⟨_, rfl, .one (.bool _) rfl⟩
    case h_2 k k' i hu =>
      simp only [hu] at hk ⊢
      split at h
      · rename_i hc; simp at h; obtain ⟨rfl, rfl⟩ := h; simp only [if_true]; exact ⟨_, rfl, by rw [hc.1]; exact .one (.int _ _) rfl⟩
      · cases h
    case h_3 hu => simp only [hu] at hk
    case h_4 s hu =>
      simp only [hu] at hk ⊢
      split at h
      · simp at h; obtain ⟨rfl, rfl⟩ := h
        refine ⟨_, rfl, .one ?_ rfl⟩
        have := VRel.str (C := C) s.data.toList
        simpa using this
      · cases h
    case h_5 hu => simp only [hu] at hk
    case h_6 hu => simp only [hu] at hk
    case h_7 e hu =>
      simp only [hu] at hk ⊢; simp at h; obtain ⟨rfl, rfl⟩ := h
      exact ⟨_, rfl, .one (.sl .none [] none 0 0 (fun _ => .bool false) rfl (Nat.le_refl _) (fun h => absurd rfl h) (fun j h => absurd h (by simp [flat])) trivial) rfl⟩
    case h_8 e a len cap hu =>
      simp only [hu] at hk ⊢
      split at h
      case isFalse => cases h
      case isTrue hc =>
        rw [Option.bind_eq_some_iff] at h
        obtain ⟨elems, hm, h⟩ := h
        rw [Option.map_eq_some_iff] at h
        obtain ⟨rest, _, h⟩ := h
        simp only [Prod.mk.injEq] at h
        obtain ⟨rfl, rfl⟩ := h
        obtain ⟨h1, h2⟩ := mapM_get hm
        simp only [List.length_range] at h1
        have hel : ∀ i (hi : i < elems.length), ∃ cs', C.w.cells? base (a.add (i * P.cellsOf e)) (P.cellsOf e) = some cs' ∧ DataW.trod enc P C.w base spare held n e cs' = some elems[i] := by
          intro i hi
          have := h2 i (by simpa using h1 ▸ hi) hi
          simp only [List.getElem_range] at this
          rw [Option.bind_eq_some_iff] at this
          exact this
        have hav : ∀ i (hi : i < elems.length), ∃ avs, toAV P n e elems[i].1 = some avs ∧ ∃ cs', C.w.cells? base (a.add (i * P.cellsOf e)) (P.cellsOf e) = some cs' ∧ CellsR C avs cs' := by
          intro i hi
          obtain ⟨cs', e1, e2⟩ := hel i hi
          obtain ⟨avs, e3, e4⟩ := ih e cs' elems[i].1 elems[i].2 e2 hk
          exact ⟨avs, e3, cs', e1, e4⟩
        obtain ⟨xss, x1, x2⟩ : ∃ xss : List (List AV), xss.length = elems.length ∧ ∀ i (hi : i < elems.length) (hi' : i < xss.length), toAV P n e elems[i].1 = some xss[i] ∧ ∃ cs', C.w.cells? base (a.add (i * P.cellsOf e)) (P.cellsOf e) = some cs' ∧ CellsR C xss[i] cs' := by
          refine ⟨(List.range elems.length).map fun i => if h : i < elems.length then Classical.choose (hav i h) else [], by simp, fun i hi hi' => ?_⟩
          simp only [List.getElem_map, List.getElem_range, hi, dif_pos]
          exact Classical.choose_spec (hav i hi)
        have hmap : (elems.map (·.1)).mapM (toAV P n e) = some xss := mapM_mk (by simp [x1]) (fun i hi hi' => by simp only [List.getElem_map]; exact (x2 i (by simpa using hi) hi').1)
        have hpk : ∀ xs, xs ∈ xss → (∀ a, a ∈ xs → a.isCell = true) ∧ (aggK P e = false → ∃ a, xs = [a]) := by
          intro xs hxs
          obtain ⟨i, hi, rfl⟩ := List.getElem_of_mem hxs
          obtain ⟨y1, cs', y2, y3⟩ := x2 i (by omega) hi
          exact ⟨y3.cell, fun hb => toAV_one hb y1⟩
        have hfl := flat_pack hpk
        have hspot : ∀ i (hi : i < elems.length), 0 < P.cellsOf e → a.spot = none := by
          intro i hi hpos
          obtain ⟨y1, cs', y2, y3⟩ := x2 0 (by omega) (by omega)
          obtain ⟨z1, z2⟩ := cells_read y2
          have := z2 0 (by omega)
          rw [Nat.zero_mul] at this
          have e0 : (a.add 0).add 0 = a := by simp [Addr.add]
          rw [e0] at this
          unfold World.cell? at this
          split at this
          · split at this
            · cases this
            · rename_i hs; cases hsp : a.spot with
              | none => rfl
              | some _ => simp [hsp] at hs
          · cases this
        refine ⟨[.sl .none (xss.map (pack (aggK P e)))], by change Option.map _ (List.mapM _ _) = _; rw [hmap]; rfl, .one ?_ rfl⟩
        by_cases hz : P.cellsOf e = 0
        · have hnil : xss.flatten = [] := by
            rw [List.flatten_eq_nil_iff]
            intro xs hxs
            obtain ⟨i, hi, rfl⟩ := List.getElem_of_mem hxs
            obtain ⟨y1, cs', y2, y3⟩ := x2 i (by omega) hi
            have := (cells_read y2).1
            exact List.eq_nil_of_length_eq_zero (by rw [y3.len]; omega)
          exact .sl .none _ (some a) len cap (fun _ => .bool false) (by simp [x1, h1]) hc.2.1 (fun h => absurd (hfl.trans hnil) h) (fun j hj => by rw [hfl, hnil] at hj; simp at hj) trivial
        · have hrows : ∀ (hne : 0 < elems.length), ∀ j (hj : j < xss.flatten.length), ∃ v, C.w.cell? ⟨a.block, a.off + j, none⟩ = some v ∧ VRel C xss.flatten[j] v := by
            intro hne
            have hsp := hspot 0 hne (by omega)
            refine row_rel a.block (P.cellsOf e) xss a.off (fun i hi => ?_)
            obtain ⟨y1, cs', y2, y3⟩ := x2 i (by omega) hi
            obtain ⟨z1, z2⟩ := cells_read y2
            refine ⟨cs', y3, z1, fun j hj => ?_⟩
            have := z2 j hj
            rw [add_none hsp, add_none rfl] at this
            exact this
          have hne : xss.flatten ≠ [] → 0 < elems.length := by
            intro h
            rcases Nat.eq_zero_or_pos elems.length with h0 | h0
            · exact absurd (by rw [List.eq_nil_of_length_eq_zero (show xss.length = 0 by omega)]; rfl) h
            · exact h0
          refine .sl .none _ (some a) len cap (fun j => (C.w.cell? ⟨a.block, a.off + j, none⟩).getD (.bool false)) (by simp [x1, h1]) hc.2.1 (fun h => ?_) (fun j hj => ?_) trivial
          · rw [hfl] at h
            have h0 := hne h
            refine ⟨a.block, a.off, ?_, fun j hj => ?_⟩
            · have := hspot 0 h0 (by omega)
              cases a; simp_all
            · rw [hfl] at hj
              obtain ⟨v, e1, e2⟩ := hrows h0 j hj
              exact ⟨hS _ _ _ e1, by simp only [e1, Option.getD_some]⟩
          · have hj' : j < xss.flatten.length := by rw [hfl] at hj; exact hj
            obtain ⟨v, e1, e2⟩ := hrows (hne (fun e => by rw [e] at hj'; simp at hj')) j hj'
            rw [e1]
            simp only [hfl]
            exact e2
    case h_9 fs hu =>
      simp only [hu] at hk ⊢
      split at h
      case isFalse => cases h
      case isTrue hc =>
        rw [Option.map_eq_some_iff] at h
        obtain ⟨xs, hm, h⟩ := h
        simp only [Prod.mk.injEq] at h
        obtain ⟨rfl, rfl⟩ := h
        unfold layOk at hlay
        simp only [hu, decide_eq_true_eq] at hlay
        obtain ⟨avs, a1, a2, a3, _⟩ := struct_av (ts := ts) (cs := _) (fun t cs d ps h ht => ih t cs d ps h ht) (fs.toList.map fun f => (f.type, f.offset)) 0 (P.cellsOf t) xs (fun f hf => by rw [List.mem_map] at hf; obtain ⟨g, hg, rfl⟩ := hf; exact hk _ (List.mem_map_of_mem hg)) hlay (Nat.le_of_eq hc.symm) (mapM_map2 (fun _ => rfl) hm)
        refine ⟨avs.flatten, ?_, ?_⟩
        · rw [List.map_map] at a1
          change (if _ then _ else _) = _; rw [if_pos (by simpa using a3.symm)]
          rw [show (fs.toList.map (·.type)) = fs.toList.map ((·.1) ∘ fun f => (f.type, f.offset)) from rfl, a1]; rfl
        · rw [List.drop_zero, Nat.sub_zero, List.take_of_length_le (Nat.le_of_eq hc)] at a2; exact a2
    case h_10 k e hu =>
      simp only [hu] at hk ⊢
      split at h
      case isFalse => cases h
      case isTrue hc =>
        rw [Option.map_eq_some_iff] at h
        obtain ⟨xs, hm, h⟩ := h
        simp only [Prod.mk.injEq] at h
        obtain ⟨rfl, rfl⟩ := h
        unfold layOk at hlay
        simp only [hu, decide_eq_true_eq] at hlay
        obtain ⟨g1, g2⟩ := mapM_get hm
        simp only [List.length_range] at g1
        have hm2 : (offs e (P.cellsOf e) k 0).mapM (fun f => DataW.trod enc P C.w base spare held n f.1 ((List.drop f.2 _).take (P.cellsOf f.1))) = some xs := mapM_mk (by rw [offs_length, g1]) (fun i hi hi' => by
          rw [offs_get]
          have := g2 i (by simpa [offs_length] using hi) hi'
          simp only [List.getElem_range] at this
          simpa using this)
        have hl0 := offs_lay P e k 0
        rw [Nat.zero_mul, Nat.zero_add, hlay] at hl0
        obtain ⟨avs, a1, a2, a3, _⟩ := struct_av (ts := ts) (cs := _) (fun t cs d ps h ht => ih t cs d ps h ht) (offs e (P.cellsOf e) k 0) 0 (P.cellsOf t) xs (fun f hf => by
          obtain ⟨i, hi, rfl⟩ := List.getElem_of_mem hf
          rw [offs_get]; exact hk) hl0 (Nat.le_of_eq hc.symm) hm2
        refine ⟨avs.flatten, ?_, ?_⟩
        · rw [offs_fst, show k = (xs.map (·.1)).length by simp [g1], zip_rep] at a1
          obtain ⟨b1, b2⟩ := mapM_get a1
          have hm3 : (xs.map (·.1)).mapM (toAV P n e) = some avs := mapM_mk (by simpa using b1) (fun i hi hi' => by
            have := b2 i (by simpa using hi) hi'
            simpa using this)
          change (if _ then _ else _) = _
          rw [if_pos (by simp [g1]), hm3]; rfl
        · rw [List.drop_zero, Nat.sub_zero, List.take_of_length_le (Nat.le_of_eq hc)] at a2; exact a2
    all_goals first | (cases h; done) | (rename_i hu; simp only [hu] at hk; done)
end
end Ab
namespace Ab
open Go Go.Proofs
section
variable {H : Type} {enc : TypeId × Value → H} {P : Program}
theorem toAV_str {n : Nat} {t : TypeId} {d : DataW H} {avs : List AV} (hk : kindOf P t = .str) (h : toAV P n t d = some avs) : ∃ bs, d = .lit (.string bs) ∧ avs = [.str bs] := by
  cases n with
  | zero => simp [toAV] at h
  | succ n => unfold toAV at h; rw [hk] at h; split at h <;> first | (cases h; done) | simp_all
theorem toAV_bool {n : Nat} {t : TypeId} {d : DataW H} {avs : List AV} (hk : kindOf P t = .bool) (h : toAV P n t d = some avs) : ∃ b, d = .lit (.bool b) ∧ avs = [.bool b] := by
  cases n with
  | zero => simp [toAV] at h
  | succ n => unfold toAV at h; rw [hk] at h; split at h <;> first | (cases h; done) | simp_all
theorem toAV_int {n : Nat} {t : TypeId} {k : IntKind} {d : DataW H} {avs : List AV} (hk : kindOf P t = .int k) (h : toAV P n t d = some avs) : ∃ i, d = .lit (.int k i) ∧ avs = [.int k i] := by
  cases n with
  | zero => simp [toAV] at h
  | succ n =>
    unfold toAV at h; rw [hk] at h
    split at h
    · simp_all
    · rename_i e
      injection e with e
      subst e
      split at h
      · rename_i e2; subst e2; simp at h; exact ⟨_, rfl, h.symm⟩
      · cases h
    all_goals first | (cases h; done) | simp_all
theorem toAV_struct {n : Nat} {t : TypeId} {l : List TypeId} {d : DataW H} {avs : List AV} (hk : kindOf P t = .struct l) (h : toAV P n t d = some avs) :
    ∃ m parts avss, n = m + 1 ∧ d = .agg parts ∧ l.length = parts.length ∧ (l.zip parts).mapM (fun p => toAV P m p.1 p.2) = some avss ∧ avs = avss.flatten := by
  cases n with
  | zero => simp [toAV] at h
  | succ n =>
    unfold toAV at h; rw [hk] at h
    split at h
    case h_6 l' parts e =>
      injection e with e
      subst e
      split at h
      · rename_i hl
        rw [Option.map_eq_some_iff] at h
        obtain ⟨avss, h1, h2⟩ := h
        exact ⟨n, parts, avss, rfl, rfl, hl, h1, h2.symm⟩
      · cases h
    all_goals first | (cases h; done) | simp_all
theorem toAV_array {n k e : Nat} {t : TypeId} {d : DataW H} {avs : List AV} (hk : kindOf P t = .array k e) (h : toAV P n t d = some avs) :
    ∃ m parts avss, n = m + 1 ∧ d = .agg parts ∧ k = parts.length ∧ parts.mapM (toAV P m e) = some avss ∧ avs = avss.flatten := by
  cases n with
  | zero => simp [toAV] at h
  | succ n =>
    unfold toAV at h; rw [hk] at h
    split at h
    case h_7 k' e' parts he =>
      injection he with he1 he2
      subst he1; subst he2
      split at h
      · rename_i hl
        rw [Option.map_eq_some_iff] at h
        obtain ⟨avss, h1, h2⟩ := h
        exact ⟨n, parts, avss, rfl, rfl, hl, h1, h2.symm⟩
      · cases h
    all_goals first | (cases h; done) | simp_all
theorem toAV_slice {n : Nat} {t e : TypeId} {d : DataW H} {avs : List AV} (hk : kindOf P t = .slice e) (h : toAV P n t d = some avs) :
    ∃ m xss ds, n = m + 1 ∧ avs = [.sl .none (xss.map (pack (aggK P e)))] ∧ ds.mapM (toAV P m e) = some xss ∧ ((d = .nil ∧ ds = []) ∨ ∃ sp, d = .slice ds sp) := by
  cases n with
  | zero => simp [toAV] at h
  | succ n =>
    unfold toAV at h; rw [hk] at h
    split at h
    case h_4 e' he => simp at h; exact ⟨n, [], [], rfl, h.symm, rfl, .inl ⟨rfl, rfl⟩⟩
    case h_5 e' elems sp he =>
      injection he with he
      subst he
      rw [Option.map_eq_some_iff] at h
      obtain ⟨xss, h1, h2⟩ := h
      exact ⟨n, xss, elems, rfl, h2.symm, h1, .inr ⟨sp, rfl⟩⟩
    all_goals first | (cases h; done) | simp_all
theorem row_form {α : Type} (en : α → AV) (w : α → Nat) (bulk : DataW H → Nat) {t e : TypeId} (hk : kindOf P t = .slice e) {n : Nat} (he : ∀ m d avs, m < n → toAV P m e d = some avs → ∃ x, pack (aggK P e) avs = en x ∧ w x ≤ bulk d) {d : DataW H} {avs : List AV}
    (h : toAV P n t d = some avs) : ∃ (xs : List α) (ds : List (DataW H)), avs = [.sl .none (xs.map en)] ∧ (xs.map w).sum ≤ (ds.map bulk).sum ∧ xs.length = ds.length ∧ ((d = .nil ∧ ds = []) ∨ ∃ sp, d = .slice ds sp) := by
  obtain ⟨m, xss, ds, rfl, rfl, hm, hd⟩ := toAV_slice hk h
  have : ∃ xs : List α, xss.map (pack (aggK P e)) = xs.map en ∧ (xs.map w).sum ≤ (ds.map bulk).sum ∧ xs.length = ds.length := by
    clear hd h
    induction ds generalizing xss with
    | nil => simp at hm; subst hm; exact ⟨[], rfl, by simp, rfl⟩
    | cons d ds ih =>
      rw [List.mapM_cons] at hm
      cases h1 : toAV P m e d with
      | none => simp [h1] at hm
      | some a =>
        cases h2 : ds.mapM (toAV P m e) with
        | none => simp [h1, h2] at hm
        | some ass =>
          simp [h1, h2] at hm
          subst hm
          obtain ⟨xs, e1, e2, e3⟩ := ih ass h2
          obtain ⟨x, x1, x2⟩ := he m d a (by omega) h1
          exact ⟨x :: xs, by simp [x1, e1], by simp; omega, by simp [e3]⟩
  obtain ⟨xs, h1, h2, h3⟩ := this
  exact ⟨xs, ds, by rw [h1], h2, h3, hd⟩
def ctx0 (W : World) : Ctx := ⟨fun b => match W.heap[b]? with | some (.cells c _ _) => c.size | _ => 0, fun k => k, [], W⟩
theorem good0 (W : World) : Good (ctx0 W) := by
  refine ⟨fun k o h => by simp [ctx0] at h, fun k o h => by simp [ctx0] at h, fun j k o o' h => by simp [ctx0] at h, fun b hb => ?_⟩
  have : (ctx0 W).w = W := rfl
  rw [this] at hb
  simp only [ctx0]
  rw [Array.getElem?_eq_none (by omega)]
theorem ctx0_cell (W : World) : ∀ b o v, (ctx0 W).w.cell? ⟨b, o, none⟩ = some v → o < (ctx0 W).S b := by
  intro b o v h
  simp only [ctx0] at h ⊢
  unfold World.cell? at h
  split at h
  · rename_i c _ _ he
    simp only at he
    rw [he]
    simp only [Option.isSome_none, Bool.false_eq_true, if_false] at h
    exact (Array.getElem?_eq_some_iff.1 h).1
  · cases h
theorem arg_struct {W : World} {ts : List TypeId} (hts : closedK P ts = true) {t : TypeId} (ht : t ∈ ts) {v : Value} {d : DataW H} {ps : List MemPlace} {base : Nat} {spare : Nat → Bool} {held : Bool} {l : Array Field} (hu : P.underlying t = some (.struct l)) {r : Reach} {b0 : Nat}
    (hok : Value.okWide P W r b0 t v) (h : DataW.Trod enc P W base spare held t v d ps) : ∃ n avs, toAV P n t d = some avs ∧ VRel (ctx0 W) (.agg avs) v := by
  obtain ⟨n, hn⟩ := h
  obtain ⟨avs, h1, h2⟩ := trod_av (C := ctx0 W) (ctx0_cell W) hts n t _ d ps hn ht
  unfold Value.okWide at hok
  rw [hu] at hok
  obtain ⟨cs, rfl, _, _⟩ := hok
  refine ⟨n, avs, h1, .agg avs cs ?_ (fun i hi => ?_)⟩
  · exact h2.len.symm
  · have := h2.rel i hi (by rw [← h2.len]; exact hi)
    simpa [Value.cells] using this
theorem arg_array {W : World} {ts : List TypeId} (hts : closedK P ts = true) {t : TypeId} (ht : t ∈ ts) {v : Value} {d : DataW H} {ps : List MemPlace} {base : Nat} {spare : Nat → Bool} {held : Bool} {k e : Nat} (hu : P.underlying t = some (.array k e)) {r : Reach} {b0 : Nat}
    (hok : Value.okWide P W r b0 t v) (h : DataW.Trod enc P W base spare held t v d ps) : ∃ n avs, toAV P n t d = some avs ∧ VRel (ctx0 W) (.agg avs) v := by
  obtain ⟨n, hn⟩ := h
  obtain ⟨avs, h1, h2⟩ := trod_av (C := ctx0 W) (ctx0_cell W) hts n t _ d ps hn ht
  unfold Value.okWide at hok
  rw [hu] at hok
  obtain ⟨cs, rfl, _, _⟩ := hok
  refine ⟨n, avs, h1, .agg avs cs ?_ (fun i hi => ?_)⟩
  · exact h2.len.symm
  · have := h2.rel i hi (by rw [← h2.len]; exact hi)
    simpa [Value.cells] using this
theorem law_calls {f : Nat} {args : Array Value} {avs : List AV} (h : ∀ C (vs : Array Value), Good C → C.H = [] → vs.size = avs.length → (∀ i (h : i < avs.length) (h' : i < vs.size), VRel C avs[i] vs[i]) →
    Calls P f vs C.w fun e w' => ∃ v r C', e = .returned v ∧ C'.w = w' ∧ Good C' ∧ Ext C C' ∧ VRel C' r v ∧ (r = .bool true ∧ C'.H = [])) {W : World} (hsz : args.size = avs.length) (hv : ∀ i (h : i < avs.length) (h' : i < args.size), VRel (ctx0 W) avs[i] args[i]) :
    Calls P f args W fun e w' => e = .returned (.bool true) ∧ RowKit.Below W.heap.size W w' :=
  (h (ctx0 W) args (good0 W) rfl hsz hv).mono fun e w' ⟨v, r, C', he, hw, hg, hx, hvr, hr, _⟩ => by
    subst hr
    subst hw
    cases hvr
    exact ⟨he, hx.os, hx.tape, hx.output, hx.size, fun k hk => hx.frame k hk (fun k o ho => by simp [ctx0] at ho)⟩
theorem trodAll_stays (hl : laidOutB P = true) {W W' : World} (hb : RowKit.Below W.heap.size W W') {sp' : Nat → Bool} : ∀ {ts : List TypeId} {vs : List Value} {ds : List (DataW H)} {ps : List MemPlace}, (∀ t, t ∈ ts → P.readableRec t = true ∧ t < P.types.size) →
    DataW.TrodAll enc P W 0 (fun _ => true) true ts vs ds ps → (∀ p, p ∈ ps → p.block < W.heap.size) → (∀ p, p ∈ ps → sp' p.block = true) → DataW.TrodAll enc P W' 0 sp' true ts vs ds ps
  | [], [], [], _, _, h, _, _ => h
  | t :: ts, v :: vs, d :: ds, ps, hr, ⟨p, q, h1, h2, e⟩, hlt, hs => by
    subst e
    exact ⟨p, q, WideElems.Trod_stays hl (hr t (by simp)).1 (hr t (by simp)).2 h1 (fun x hx => hb.same (hlt x (List.mem_append_left _ hx))) (fun x hx => hs x (List.mem_append_left _ hx)),
      trodAll_stays hl hb (fun u hu => hr u (by simp [hu])) h2 (fun x hx => hlt x (List.mem_append_right _ hx)) (fun x hx => hs x (List.mem_append_right _ hx)), rfl⟩
  | [], [], _ :: _, _, _, h, _, _ => h.elim
  | [], _ :: _, _, _, _, h, _, _ => h.elim
  | _ :: _, [], _, _, _, h, _, _ => h.elim
  | _ :: _, _ :: _, [], _, _, h, _, _ => h.elim
open Go.ChangeShapes Go.RowKit in
theorem post_law {f : Func} {s : ChangeSpec} {apart fresh handsOn again : Bool} {W W' : World} {args : Array Value} {ds : List (DataW H)} {before : List MemPlace} (hvars : s.vars = []) (hsp : (s.fn H ds).results = [.lit (.bool true)] ∧ (s.fn H ds).args = ds ∧ (s.fn H ds).vars = [])
    (hW : DataW.Whole enc P f.params.toList s.vars apart W args.toList ds [] before) (hb : Below W.heap.size W W') {t : TypeId} (hres : f.resultTypes = #[t]) (ht : P.underlying t = some .bool) (hl : laidOutB P = true)
    (hr : ∀ t, t ∈ f.params.toList → P.readableRec t = true ∧ t < P.types.size) : s.post enc P f apart fresh handsOn again W args (.bool true) W' := by
  have hlt : ∀ p, p ∈ before → p.block < W.heap.size := hW.lt
  obtain ⟨p, q, h1, h2, he, hz, hn⟩ := hW
  have hW : DataW.Whole enc P f.params.toList s.vars apart W args.toList ds [] before := ⟨p, q, h1, h2, he, hz, hn⟩
  rw [hvars] at h2
  have hq : q = [] := h2
  subst hq
  have hp : before = p := by rw [he, List.append_nil]
  subst hp
  have hargs : ∀ sp' : Nat → Bool, (∀ x, x ∈ before → sp' x.block = true) → DataW.TrodAll enc P W' 0 sp' true f.params.toList args.toList ds before := fun sp' hs => trodAll_stays hl hb hr h1 hlt hs
  have hrr : ∀ (b : Nat) (sp : Nat → Bool) (hd : Bool), DataW.TrodAll enc P W' b sp hd f.resultTypes.toList ((Value.bool true).resultList f.resultTypes.size) [.lit (.bool true)] [] := fun b sp hd => by
    rw [hres]; exact ⟨[], [], shut_bool ht true, rfl, rfl⟩
  have e0 : s.fn H (ds ++ []) = s.fn H ds := by rw [List.append_nil]
  refine ⟨ds, [], before, [], before, [], hW, ?_, ?_, ?_, World.keptBut_mono (fun x hx => ⟨hx, .inr (.inl hx)⟩) (hb.frame (· ∈ before)), fun _ => ?_⟩
  · rw [e0, hsp.1]; exact hrr _ _ _
  · rw [e0, hsp.2.1]; exact hargs _ (fun x hx => by simpa using hlt x hx)
  · rw [e0, hsp.2.2, hvars]; rfl
  · refine ⟨ok_one hres rfl (okWide_bool_mk ht true), .lit (.bool true) :: ds, [], before, ⟨before, [], ?_, by rw [hvars]; rfl, by simp, ?_, ?_⟩, fun x hx _ => hx⟩
    · have := trodAll_append (hargs (fun _ => true) (fun _ _ => rfl)) (hrr 0 (fun _ => true) true)
      simpa using this
    · intro b off hx
      rw [hb.frozen (hlt _ hx)]
      exact hz b off hx
    · exact hn
end
end Ab
set_option maxRecDepth 10000
namespace Ab
open Go Go.Proofs Go.Proofs.Ytakpnikkcinckaa
section
variable {H : Type}
theorem kdStr : kindOf Try.prog 9 = .str := by kernel_rfl
theorem kdInt : kindOf Try.prog 3 = .int .i64 := by kernel_rfl
theorem kdBool : kindOf Try.prog 4 = .bool := by kernel_rfl
theorem kdTerm : kindOf Try.prog 27 = .struct [9, 4, 25] := by kernel_rfl
theorem kdTerms : kindOf Try.prog 25 = .slice 27 := by kernel_rfl
theorem agTerm : aggK Try.prog 27 = true := by unfold aggK; rw [kdTerm]
theorem bulkAll_sum : ∀ ds : List (DataW H), Rows.uptoBulkAll ds = (ds.map Rows.uptoBulk).sum
  | [] => by simp [Rows.uptoBulkAll]
  | d :: ds => by simp [Rows.uptoBulkAll, bulkAll_sum ds]
theorem bulk_pos (d : DataW H) : 1 ≤ Rows.uptoBulk d := by
  cases d with
  | lit l => cases l <;> simp [Rows.uptoBulk]
  | _ => simp [Rows.uptoBulk]
theorem bulk_row {d : DataW H} {ds : List (DataW H)} (h : (d = .nil ∧ ds = []) ∨ ∃ sp, d = .slice ds sp) : (ds.map Rows.uptoBulk).sum + 1 ≤ Rows.uptoBulk d := by
  rcases h with ⟨rfl, rfl⟩ | ⟨sp, rfl⟩
  · simp [Rows.uptoBulk]
  · rw [← bulkAll_sum]; simp only [Rows.uptoBulk]; omega
theorem term_form : ∀ (n : Nat) (d : DataW H) (avs : List AV), toAV Try.prog n 27 d = some avs → ∃ t : Term, .agg avs = encT t ∧ t.bulk ≤ Rows.uptoBulk d := by
  intro n
  induction n using Nat.strongRecOn with
  | ind n ih =>
    intro d avs h
    obtain ⟨m, parts, avss, rfl, rfl, hl, hm, rfl⟩ := toAV_struct kdTerm h
    match parts, hl, hm with
    | [d1, d2, d3], _, hm =>
      obtain ⟨h1, h2⟩ := mapM_get hm
      match avss, h1, h2 with
      | [a1, a2, a3], _, h2 =>
        obtain ⟨bs, rfl, rfl⟩ := toAV_str kdStr (h2 0 (by simp) (by simp))
        obtain ⟨b, rfl, rfl⟩ := toAV_bool kdBool (h2 1 (by simp) (by simp))
        obtain ⟨xs, ds, e3, hw, _, hd⟩ := row_form encT Term.bulk Rows.uptoBulk kdTerms (n := m) (fun k d avs hk he => by
          obtain ⟨t, x1, x2⟩ := ih k (by omega) d avs he
          exact ⟨t, by rw [agTerm]; exact x1, x2⟩) (h2 2 (by simp) (by simp))
        simp only [List.getElem_cons_succ, List.getElem_cons_zero] at e3 hd
        subst e3
        have hb := bulk_row (d := d3) hd
        simp only [Rows.uptoBulk, Rows.uptoBulkAll]
        refine ⟨.mk bs b xs, ?_, ?_⟩
        · simp [Term.name, Term.var, Term.args, encTs_map]
        · rw [Term.bulk_mk]; omega
end
end Ab
set_option maxRecDepth 10000
namespace Ab
open Go Go.Proofs Go.Proofs.Ytakpnikkcinckaa
section
variable {H : Type}
theorem kdRank : kindOf Try.prog 63 = .struct [9, 3, 3] := by kernel_rfl
theorem kdRanks : kindOf Try.prog 22 = .slice 63 := by kernel_rfl
theorem agRank : aggK Try.prog 63 = true := by unfold aggK; rw [kdRank]
theorem kdOrder : kindOf Try.prog 24 = .struct [22, 3] := by kernel_rfl
theorem rank_form (n : Nat) (d : DataW H) (avs : List AV) (h : toAV Try.prog n 63 d = some avs) : ∃ x : Rank, .agg avs = encR x ∧ x.name.length + 1 ≤ Rows.uptoBulk d := by
  obtain ⟨m, parts, avss, rfl, rfl, hl, hm, rfl⟩ := toAV_struct kdRank h
  match parts, hl, hm with
  | [d1, d2, d3], _, hm =>
    obtain ⟨h1, h2⟩ := mapM_get hm
    match avss, h1, h2 with
    | [a1, a2, a3], _, h2 =>
      obtain ⟨bs, rfl, rfl⟩ := toAV_str kdStr (h2 0 (by simp) (by simp))
      obtain ⟨i, rfl, rfl⟩ := toAV_int kdInt (h2 1 (by simp) (by simp))
      obtain ⟨j, rfl, rfl⟩ := toAV_int kdInt (h2 2 (by simp) (by simp))
      exact ⟨⟨bs, i, j⟩, by simp, by simp only [Rows.uptoBulk, Rows.uptoBulkAll]; omega⟩
theorem names_sum {α : Type} (f : α → Nat) (xs : List α) {k : Nat} (h : (xs.map fun x => f x + 1).sum ≤ k) : xs.length ≤ k ∧ ∀ x, x ∈ xs → f x ≤ k := by
  induction xs generalizing k with
  | nil => simp
  | cons a r ih =>
    simp only [List.map_cons, List.sum_cons] at h
    obtain ⟨h1, h2⟩ := ih (k := k - (f a + 1)) (by omega)
    refine ⟨by simp; omega, fun x hx => ?_⟩
    rcases List.mem_cons.1 hx with rfl | hx
    · omega
    · have := h2 x hx; omega
theorem order_form (n : Nat) (d : DataW H) (avs : List AV) (h : toAV Try.prog n 24 d = some avs) :
    ∃ (l : List Rank) (unit : Int), AV.agg avs = .agg [.sl .none (encL encR l), .int .i64 unit] ∧ l.length ≤ Rows.uptoBulk d ∧ ∀ x, x ∈ l → x.name.length ≤ Rows.uptoBulk d := by
  obtain ⟨m, parts, avss, rfl, rfl, hl, hm, rfl⟩ := toAV_struct kdOrder h
  match parts, hl, hm with
  | [d1, d2], _, hm =>
    obtain ⟨h1, h2⟩ := mapM_get hm
    match avss, h1, h2 with
    | [a1, a2], _, h2 =>
      obtain ⟨i, rfl, rfl⟩ := toAV_int kdInt (h2 1 (by simp) (by simp))
      obtain ⟨xs, ds, e3, hw, _, hd⟩ := row_form (fun s : Rank => encR s) (fun x : Rank => x.name.length + 1) Rows.uptoBulk kdRanks (n := m) (fun k d avs _ he => by
        obtain ⟨t, x1, x2⟩ := rank_form k d avs he
        exact ⟨t, by rw [agRank]; exact x1, x2⟩) (h2 0 (by simp) (by simp))
      simp only [List.getElem_cons_zero] at e3 hd
      subst e3
      have hb := bulk_row (d := d1) hd
      have := names_sum (fun x : Rank => x.name.length) xs (k := Rows.uptoBulk d1) (by omega)
      refine ⟨xs, i, rfl, ?_, fun x hx => ?_⟩
      · simp only [Rows.uptoBulk, Rows.uptoBulkAll]; omega
      · have := this.2 x hx; simp only [Rows.uptoBulk, Rows.uptoBulkAll]; omega
end
end Ab
set_option maxRecDepth 10000
namespace Ab
open Go Go.Proofs Go.Proofs.Ytakpnikkcinckaa
section
variable {H : Type}
theorem kdBind : kindOf Try.prog 70 = .struct [9, 27] := by kernel_rfl
theorem kdBinds : kindOf Try.prog 43 = .slice 70 := by kernel_rfl
theorem agBind : aggK Try.prog 70 = true := by unfold aggK; rw [kdBind]
theorem kdPos : kindOf Try.prog 44 = .slice 3 := by kernel_rfl
theorem agInt : aggK Try.prog 3 = false := by unfold aggK; rw [kdInt]
theorem bind_form (n : Nat) (d : DataW H) (avs : List AV) (h : toAV Try.prog n 70 d = some avs) : ∃ b : List UInt8 × Term, .agg avs = encBd b ∧ b.1.length + b.2.bulk + 1 ≤ Rows.uptoBulk d := by
  obtain ⟨m, parts, avss, rfl, rfl, hl, hm, rfl⟩ := toAV_struct kdBind h
  match parts, hl, hm with
  | [d1, d2], _, hm =>
    obtain ⟨h1, h2⟩ := mapM_get hm
    match avss, h1, h2 with
    | [a1, a2], _, h2 =>
      obtain ⟨bs, rfl, rfl⟩ := toAV_str kdStr (h2 0 (by simp) (by simp))
      obtain ⟨t, e, hb⟩ := term_form m d2 a2 (h2 1 (by simp) (by simp))
      injection e with e
      subst e
      exact ⟨(bs, t), by simp, by simp only [Rows.uptoBulk, Rows.uptoBulkAll]; omega⟩
theorem binds_form (n : Nat) (d : DataW H) (avs : List AV) (h : toAV Try.prog n 43 d = some avs) : ∃ σ : List (List UInt8 × Term), avs = [.sl .none (encL encBd σ)] ∧ σ.length ≤ Rows.uptoBulk d ∧ ∀ b, b ∈ σ → b.1.length + b.2.bulk ≤ Rows.uptoBulk d := by
  obtain ⟨xs, ds, e3, hw, _, hd⟩ := row_form (fun b : List UInt8 × Term => encBd b) (fun b => b.1.length + b.2.bulk + 1) Rows.uptoBulk kdBinds (n := n) (fun k d avs _ he => by
    obtain ⟨t, x1, x2⟩ := bind_form k d avs he
    exact ⟨t, by rw [agBind]; exact x1, x2⟩) h
  have hb := bulk_row hd
  have := names_sum (fun b : List UInt8 × Term => b.1.length + b.2.bulk) xs (k := Rows.uptoBulk d) (by omega)
  exact ⟨xs, e3, this.1, this.2⟩
theorem pos_form (n : Nat) (d : DataW H) (avs : List AV) (h : toAV Try.prog n 44 d = some avs) : ∃ p : List Int, avs = [.sl .none (encP p)] ∧ p.length ≤ Rows.uptoBulk d := by
  obtain ⟨xs, ds, e3, hw, hl, hd⟩ := row_form (fun i : Int => AV.int .i64 i) (fun _ => 1) Rows.uptoBulk kdPos (n := n) (fun k d avs _ he => by
    obtain ⟨i, rfl, rfl⟩ := toAV_int kdInt he
    exact ⟨i, by rw [agInt]; rfl, bulk_pos _⟩) h
  have hb := bulk_row hd
  have h1 : xs.length ≤ (xs.map fun _ : Int => 1).sum := by
    clear hw hl e3
    induction xs with
    | nil => simp
    | cons x xs ih => simp only [List.map_cons, List.sum_cons, List.length_cons]; omega
  exact ⟨xs, e3, by omega⟩
end
end Ab
set_option maxRecDepth 10000
namespace Ab
open Go Go.Proofs
theorem apply_bulk (σ : List (List UInt8 × Term)) (B : Nat) (hB : ∀ b, b ∈ σ → b.2.bulk ≤ B) (t : Term) : (applyP σ t).bulk ≤ t.bulk * (1 + B) := by
  refine Term.ind (p := fun t => (applyP σ t).bulk ≤ t.bulk * (1 + B)) (fun n u xs ih => ?_) t
  rw [applyP_mk]
  cases u with
  | true =>
    simp only [if_true]
    have h1 : 1 ≤ (Term.mk n true xs).bulk := by rw [Term.bulk_mk]; omega
    have h2 : B ≤ (Term.mk n true xs).bulk * B := Nat.le_mul_of_pos_left _ (by omega)
    rw [Nat.mul_add, Nat.mul_one]
    unfold imageP
    cases hf : σ.find? fun b => decide (b.1 = n) with
    | none => simp only [Option.map_none, Option.getD_none]; rw [Term.bulk_mk, Term.bulk_mk]; simp; omega
    | some b =>
      have := hB b (List.mem_of_find?_eq_some hf)
      simp only [Option.map_some, Option.getD_some]; omega
  | false =>
    simp only [Bool.false_eq_true, if_false]
    rw [Term.bulk_mk, Term.bulk_mk]
    have : ∀ ys : List Term, (∀ y, y ∈ ys → y ∈ xs) → ((ys.map (applyP σ)).map Term.bulk).sum ≤ (ys.map Term.bulk).sum * (1 + B) := by
      intro ys
      induction ys with
      | nil => intro _; simp
      | cons y ys ih2 =>
        intro hy
        have h1 := ih y (hy y (by simp))
        have h2 := ih2 (fun z hz => hy z (by simp [hz]))
        simp only [List.map_cons, List.sum_cons, Nat.add_mul] at h1 h2 ⊢
        omega
    have h := this xs (fun y hy => hy)
    rw [Nat.add_mul, Nat.add_mul]
    have h3 : n.length ≤ n.length * (1 + B) := Nat.le_mul_of_pos_right _ (by omega)
    omega
theorem sum_setN (f : Term → Nat) : ∀ (xs : List Term) (j : Nat) (h : j < xs.length) (a : Term), ((xs.set j a).map f).sum + f xs[j] = (xs.map f).sum + f a
  | x :: xs, 0, h, a => by simp; omega
  | x :: xs, j + 1, h, a => by
    have := sum_setN f xs j (by simpa using h) a
    simp only [List.set_cons_succ, List.map_cons, List.sum_cons, List.getElem_cons_succ]; omega
theorem put_bulk (s : Term) : ∀ (p : List Int) (c x : Term), atP c p = some x → (putP c p s).bulk ≤ c.bulk + s.bulk
  | [], c, x, _ => by cases c; simp [putP]
  | i :: p, .mk n u xs, x, h => by
    simp only [atP] at h
    split at h
    · rename_i hi
      have ih := put_bulk s p xs[i.toNat] x h
      have hg : xs.getD i.toNat (.mk [] false []) = xs[i.toNat] := by simp [hi.2]
      simp only [putP, hg]
      have := sum_setN Term.bulk xs i.toNat hi.2 (putP xs[i.toNat] p s)
      rw [Term.bulk_mk, Term.bulk_mk]; omega
    · cases h
theorem small_mul {a b : Nat} (h : a + b ≤ 1048576) : a * (1 + b) ≤ 549756338176 := by
  rcases Nat.lt_or_ge a 524289 with h1 | h1
  · exact Nat.le_trans (Nat.mul_le_mul (show a ≤ 524288 by omega) (show 1 + b ≤ 1048577 by omega)) (by decide)
  · exact Nat.le_trans (Nat.mul_le_mul (show a ≤ 1048576 by omega) (show 1 + b ≤ 524288 by omega)) (by decide)
end Ab
set_option maxRecDepth 10000
namespace Ab
open Go Go.Proofs Go.Proofs.Ytakpnikkcinckaa
section
variable {H : Type}
theorem kdQ2 : kindOf Try.prog 42 = .array 2 27 := by kernel_rfl
theorem q2_form (n : Nat) (d : DataW H) (avs : List AV) (h : toAV Try.prog n 42 d = some avs) : ∃ a b : Term, AV.agg avs = encQ2 a b ∧ a.bulk + b.bulk ≤ Rows.uptoBulk d := by
  obtain ⟨m, parts, avss, rfl, rfl, hl, hm, rfl⟩ := toAV_array kdQ2 h
  match parts, hl, hm with
  | [d1, d2], _, hm =>
    obtain ⟨h1, h2⟩ := mapM_get hm
    match avss, h1, h2 with
    | [a1, a2], _, h2 =>
      obtain ⟨a, e1, b1⟩ := term_form m d1 a1 (h2 0 (by simp) (by simp))
      obtain ⟨b, e2, b2⟩ := term_form m d2 a2 (h2 1 (by simp) (by simp))
      injection e1 with e1; injection e2 with e2
      subst e1; subst e2
      exact ⟨a, b, rfl, by simp only [Rows.uptoBulk, Rows.uptoBulkAll]; omega⟩
theorem kdAround : kindOf Try.prog 46 = .struct [43, 27, 44] := by kernel_rfl
theorem around_form (n : Nat) (d : DataW H) (avs : List AV) (h : toAV Try.prog n 46 d = some avs) :
    ∃ (σ : List (List UInt8 × Term)) (c : Term) (p : List Int), AV.agg avs = encAr σ c p ∧ c.bulk ≤ Rows.uptoBulk d ∧ p.length ≤ Rows.uptoBulk d ∧ σ.length ≤ Rows.uptoBulk d ∧ ∀ b, b ∈ σ → b.1.length + b.2.bulk ≤ Rows.uptoBulk d := by
  obtain ⟨m, parts, avss, rfl, rfl, hl, hm, rfl⟩ := toAV_struct kdAround h
  match parts, hl, hm with
  | [d1, d2, d3], _, hm =>
    obtain ⟨h1, h2⟩ := mapM_get hm
    match avss, h1, h2 with
    | [a1, a2, a3], _, h2 =>
      obtain ⟨σ, rfl, b1, b2⟩ := binds_form m d1 a1 (h2 0 (by simp) (by simp))
      obtain ⟨c, e, b3⟩ := term_form m d2 a2 (h2 1 (by simp) (by simp))
      obtain ⟨p, rfl, b4⟩ := pos_form m d3 a3 (h2 2 (by simp) (by simp))
      injection e with e
      subst e
      refine ⟨σ, c, p, rfl, ?_, ?_, ?_, fun x hx => ?_⟩
      case refine_4 => have := b2 x hx; simp only [Rows.uptoBulk, Rows.uptoBulkAll]; omega
      all_goals (simp only [Rows.uptoBulk, Rows.uptoBulkAll]; omega)
theorem put2_bulk {s t c x : Term} {p : List Int} (h : atP c p = some x) (hb : s.bulk + t.bulk + c.bulk ≤ 1048576) : (putP c p s).bulk + (putP c p t).bulk ≤ 1099511627775 := by
  have h1 := put_bulk s p c x h
  have h2 := put_bulk t p c x h
  omega
theorem apply2_bulk {σ : List (List UInt8 × Term)} {s t : Term} {B : Nat} (hB : ∀ b, b ∈ σ → b.2.bulk ≤ B) (hb : s.bulk + t.bulk + B ≤ 1048576) : (applyP σ s).bulk + (applyP σ t).bulk ≤ 1099511627775 := by
  have h1 := apply_bulk σ B hB s
  have h2 := apply_bulk σ B hB t
  have h3 := small_mul (a := s.bulk + t.bulk) (b := B) hb
  rw [Nat.add_mul] at h3
  omega
end
end Ab
namespace Go.Proofs.Ytakpnikkcinckaa
open Go Ab
namespace wz
theorem own : ownKnob Try.prog.godebug = none := by kernel_rfl
theorem laid : laidOutB Try.prog = true := by kernel_rfl
theorem readable : ∀ t, t ∈ Try.f5.params.toList → Try.prog.readableRec t = true ∧ t < Try.prog.types.size := by
  rw [Try.params5]; intro t ht
  simp only [List.mem_cons, List.not_mem_nil, or_false] at ht
  rcases ht with rfl | rfl | rfl <;> exact ⟨by kernel_rfl, of_decide_eq_true (by kernel_rfl)⟩
theorem closed : closedK Try.prog [24, 22, 63, 9, 3, 42, 27, 4, 25, 46, 43, 70, 44] = true := by kernel_rfl
theorem contract (H : Type) (enc : TypeId × Value → H) (W : World) (base : Nat) (args : Array Value) (ds gs : List (DataW H)) (before : List MemPlace)
    (hval : ∀ (j : Nat) t v, Try.f5.params[j]? = some t → args[j]? = some v → Value.okWide Try.prog W .any base t v)
    (hW : DataW.Whole enc Try.prog Try.f5.params.toList Rows.weightClosedSpec.vars false W args.toList ds gs before) (hk : Rows.uptoSmall H (ds ++ gs) = true) :
    Calls Try.prog 5 args W fun e W' => ∃ v, e = .returned v ∧ Rows.weightClosedSpec.post enc Try.prog Try.f5 false true false false W args v W' := by
  have hW' := hW
  obtain ⟨p, q, hA0, hV, rfl, hfz, hnd⟩ := hW
  have hA : DataW.TrodAll enc Try.prog W 0 (fun _ => true) true Try.f5.params.toList args.toList ds p := hA0
  rw [Try.params5] at hA hval
  obtain ⟨v0, vs0, d0, ds0, p0, q0, hargs, rfl, rfl, h0, r0⟩ := ChangeShapes.trodAll_cons hA
  obtain ⟨v1, vs1, d1, ds1, p1, q1, rfl, rfl, rfl, h1, r1⟩ := ChangeShapes.trodAll_cons r0
  obtain ⟨v2, vs2, d2, ds2, p2, q2, rfl, rfl, rfl, h2, r2⟩ := ChangeShapes.trodAll_cons r1
  obtain ⟨rfl, rfl, rfl⟩ := ChangeShapes.trodAll_nil r2
  obtain rfl : args = #[v0, v1, v2] := by cases args; simp_all
  have hg : gs = [] := by cases gs with | nil => rfl | cons _ _ => exact hV.elim
  subst hg
  have hb : Rows.uptoBulk d0 + Rows.uptoBulk d1 + Rows.uptoBulk d2 ≤ 1048576 := by
    have := of_decide_eq_true hk
    simp only [List.cons_append, List.nil_append, List.append_nil, Rows.uptoBulkAll] at this
    omega
  obtain ⟨n0, a0, e0, x0⟩ := arg_struct closed (by decide) Try.underlying24 (hval 0 _ v0 rfl rfl) h0
  obtain ⟨n1, a1, e1, x1⟩ := arg_array closed (by decide) Try.underlying42 (hval 1 _ v1 rfl rfl) h1
  obtain ⟨n2, a2, e2, x2⟩ := arg_struct closed (by decide) Try.underlying46 (hval 2 _ v2 rfl rfl) h2
  obtain ⟨l, unit, f0, b1, b2⟩ := order_form n0 d0 a0 e0
  obtain ⟨s, t, f1, b3⟩ := q2_form n1 d1 a1 e1
  obtain ⟨σ, c, p, f2, b4, b5, b6, b7⟩ := around_form n2 d2 a2 e2
  rw [f0] at x0; rw [f1] at x1; rw [f2] at x2
  have hc := law_calls (args := #[v0, v1, v2]) (avs := [.agg [.sl .none (encL encR l), .int .i64 unit], encQ2 s t, encAr σ c p]) (W := W) (closedLaw_ac l unit s t σ c p (by omega) (fun x hx => by have := b2 x hx; omega) (by omega) (by omega) (by omega) (by omega) (fun b hb' => by have := b7 b hb'; omega) (apply2_bulk (B := Rows.uptoBulk d2) (fun b hb' => by have := b7 b hb'; omega) (by omega)) (fun x hx => put2_bulk hx (by omega)) (fun x hx => by have := at_bulk _ _ _ hx; omega) []) rfl (fun i hi hi' => by
    match i, hi with
    | 0, _ => exact x0
    | 1, _ => exact x1
    | 2, _ => exact x2)
  refine hc.mono fun e W' ⟨he, hbl⟩ => ?_
  subst he
  exact ⟨_, rfl, post_law rfl ⟨rfl, rfl, rfl⟩ hW' hbl rfl Try.underlying4 laid readable⟩
set_option maxRecDepth 100000 in
theorem lifted (os : Os) (started : os.Started) (H : Type) (enc : TypeId × Value → H) (F : Stop.Interp) :
    ReturnsInHanded {} Try.checked os 5 .any ((Rows.OpenSpec.upto Rows.weightClosedSpec).pre6 enc Try.prog Try.f5 Rows.weightClosedUptoRow.domain false) (((Rows.OpenSpec.upto Rows.weightClosedSpec).at F).post enc Try.prog Try.f5 false true false false) := by
  refine returnsInHanded_of_cond (C := Try.checked) (s := Rows.OpenSpec.upto Rows.weightClosedSpec) (k := Rows.uptoSmall) rfl own started (by kernel_rfl) Try.func5
    (OpenSpec.witness (enc := enc) (C := Try.checked) (s := Rows.OpenSpec.upto Rows.weightClosedSpec) (k := Rows.uptoSmall) rfl false
      ⟨#[], #[.agg #[.slice none 0 0, .int .i64 0], .agg #[.string ⟨#[]⟩, .bool false, .slice none 0 0, .string ⟨#[]⟩, .bool false, .slice none 0 0], .agg #[.slice none 0 0, .string ⟨#[]⟩, .bool false, .slice none 0 0, .slice none 0 0]], []⟩ 8 (by kernel_rfl) (by kernel_rfl) (by kernel_rfl)
      (x := ([.agg [.nil, .lit (.int .i64 0)], .agg [.agg [.lit (.string []), .lit (.bool false), .nil], .agg [.lit (.string []), .lit (.bool false), .nil]], .agg [.nil, .agg [.lit (.string []), .lit (.bool false), .nil], .nil]], [], [])) (by kernel_rfl) rfl (by kernel_rfl)) ?_
  intro W base args ds gs before hval hW _ hk _
  exact contract H enc W base args ds gs before hval hW hk
theorem over : Rows.weightClosedUptoRow.holds Try.pinned (Rows.OpenSpec.upto Rows.weightClosedSpec) :=
  OpenClaim.holds_of_cond 5 Try.f5 rfl rfl rfl rfl rfl rfl rfl ⟨rfl, rfl, rfl, rfl, rfl⟩ rfl rfl rfl rfl rfl (by kernel_rfl) Try.func5 (by kernel_rfl)
    (of_decide_eq_true (by kernel_rfl)) (by unfold Func.isWrapper; first | (rw [if_pos (by decide +kernel)]; kernel_rfl) | (rw [if_neg (by decide +kernel)]; exact ⟨rfl, rfl⟩))
    (fun os started H enc _ F => lifted os started H enc F)
end wz
theorem weightClosed_upto : Rows.WeightClosedUptoSaid := wz.over
end Go.Proofs.Ytakpnikkcinckaa
