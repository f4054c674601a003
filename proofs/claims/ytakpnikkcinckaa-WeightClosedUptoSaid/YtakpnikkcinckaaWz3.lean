/- Part 3 of 6 of a proof. WeightClosed -/
import Derived.Test.YtakpnikkcinckaaWz2
set_option linter.unusedVariables false
set_option linter.unusedSimpArgs false
set_option maxRecDepth 10000
namespace Ab
open Go Go.Proofs
theorem compareString_ac (a b : List UInt8) (H : List AObj) : ACall Try.prog 86 [.str a, .str b] H (fun r H' => r = .int .i64 (Lib.compareBytes a b) ∧ H' = H) := by
  refine ACall_intro (H.length) Try.func86 rfl ?_
  simp only [Try.ntmps86, List.length_cons, List.length_nil, List.replicate, List.cons_append, List.nil_append, Nat.reduceAdd, Nat.reduceSub, Nat.zero_add]
  refine AW_seq_k (fun K1 hK1 => ?_)
  refine AW_region ?_
  all_goals (refine AOps_cons rfl (AOp_assign ?_) <;> try simp only [push_cast, Nat.reduceAdd])
  all_goals refine AOps_nil ?_
  all_goals
   refine thenK_normal (hK1 _ ?_)
   try clear hK1
   refine AW_seq_k (fun K2 hK2 => ?_)
   refine AW_region ?_
   all_goals refine AOps_cons rfl (AOp_move ?_)
   all_goals refine AOps_cons rfl (AOp_move ?_)
   all_goals (try simp only [push_cast, Nat.reduceAdd])
   all_goals (refine AOps_cons rfl (AOp_cmpstring a b xc92 rfl rfl ?_) <;> try simp only [push_cast, Nat.reduceAdd])
   all_goals (refine AOps_cons rfl (AOp_assign ?_) <;> try simp only [push_cast, Nat.reduceAdd])
   all_goals refine AOps_nil ?_
   all_goals
    refine thenK_normal (hK2 _ ?_)
    try clear hK2
    refine AW_ret ?_
    repeat (first | refine thenK_ret ?_ | refine loopK_ret ?_ | refine blockK_ret ?_)
    refine ⟨by first | exact .inl rfl | exact .inr rfl, _, rfl, (by first | exact outok_app 0 rfl (Nat.zero_le _) (by simp) | exact outok_self), by simp [push_cast], ?_⟩
    simp only [push_cast, Nat.reduceAdd]
    (first | (simp; done) | (simp; omega) | omega)
theorem compareStr_ac (a b : List UInt8) (H : List AObj) : ACall Try.prog 71 [.str a, .str b] H (fun r H' => r = .int .i64 (Lib.compareBytes a b) ∧ H' = H) := by
  refine ACall_intro (H.length) Try.func71 rfl ?_
  simp only [Try.ntmps71, List.length_cons, List.length_nil, List.replicate, List.cons_append, List.nil_append, Nat.reduceAdd, Nat.reduceSub, Nat.zero_add]
  refine AW_seq_k (fun K3 hK3 => ?_)
  refine AW_region ?_
  all_goals (refine AOps_cons rfl (AOp_assign ?_) <;> try simp only [push_cast, Nat.reduceAdd])
  all_goals refine AOps_nil ?_
  all_goals
   refine thenK_normal (hK3 _ ?_)
   try clear hK3
   refine AW_seq_k (fun K4 hK4 => ?_)
   refine AW_region ?_
   all_goals refine AOps_cons rfl (AOp_move ?_)
   all_goals refine AOps_cons rfl (AOp_move ?_)
   all_goals (try simp only [push_cast, Nat.reduceAdd])
   all_goals refine AOps_cons rfl (AOp_call _ _ _ rfl rfl ok86 ?_)
   all_goals (try simp only [push_cast, Nat.reduceAdd])
   all_goals refine (compareString_ac a b _).mono ?_
   all_goals rintro r H' ⟨rfl, rfl⟩
   all_goals (try simp only [push_cast, Nat.reduceAdd])
   all_goals (refine AOps_cons rfl (AOp_assign ?_) <;> try simp only [push_cast, Nat.reduceAdd])
   all_goals refine AOps_nil ?_
   all_goals
    refine thenK_normal (hK4 _ ?_)
    try clear hK4
    refine AW_ret ?_
    repeat (first | refine thenK_ret ?_ | refine loopK_ret ?_ | refine blockK_ret ?_)
    refine ⟨by first | exact .inl rfl | exact .inr rfl, _, rfl, (by first | exact outok_app 0 rfl (Nat.zero_le _) (by simp) | exact outok_self), by simp [push_cast], ?_⟩
    simp only [push_cast, Nat.reduceAdd]
    (first | (simp; done) | (simp; omega) | omega)
structure Rank where
  name : List UInt8
  rank : Int
  weight : Int
  deriving DecidableEq
@[reducible] def encR (x : Rank) : AV := .agg [.str x.name, .int .i64 x.rank, .int .i64 x.weight]
theorem uni_encR (l : List Rank) : Uni 3 (encL encR l) := uni_encL (enc := encR) (k := 3) (fun _ => rfl) l
theorem scoped_encR (n : Nat) (l : List Rank) : ScopedL n (encL encR l) := scoped_encL (fun x => by simp [Scoped, ScopedL]) l
attribute [local push_cast] encR scoped_encR strip stripL
theorem ofC_ac (x : Rank) (v : List UInt8) (H : List AObj) : ACall Try.prog 70 [encR x, .str v] H (fun r H' => r = .int .i64 (Lib.compareBytes x.name v) ∧ H' = H) := by
  refine ACall_intro (H.length) Try.func70 rfl ?_
  simp only [Try.ntmps70, List.length_cons, List.length_nil, List.replicate, List.cons_append, List.nil_append, Nat.reduceAdd, Nat.reduceSub, Nat.zero_add]
  refine AW_seq_k (fun K5 hK5 => ?_)
  refine AW_region ?_
  all_goals (refine AOps_cons rfl (AOp_box _ _ rfl rfl (by first | exact .inl rfl | exact .inr ⟨_, rfl⟩) (by simp [push_cast, AV.isCell]) ?_) <;> try simp only [push_cast, Nat.reduceAdd])
  all_goals (refine AOps_cons rfl (AOp_assign ?_) <;> try simp only [push_cast, Nat.reduceAdd])
  all_goals refine AOps_nil ?_
  all_goals
   refine thenK_normal (hK5 _ ?_)
   try clear hK5
   refine AW_seq_k (fun K6 hK6 => ?_)
   refine AW_region ?_
   all_goals (refine AOps_cons rfl (AOp_fieldAddr_ptr _ _ _ _ rfl fd63_0 (by decide) ?_) <;> try simp only [push_cast, Nat.reduceAdd])
   all_goals (refine AOps_cons rfl (AOp_load1_ptr _ _ _ _ _ rfl (by first | exact hget0 | exact hgetN _ rfl | assumption | exact hgetL (by assumption)) sz9 ag9 (by decide) (by simp [push_cast]) rfl ?_) <;> try simp only [push_cast, Nat.reduceAdd])
   all_goals refine AOps_cons rfl (AOp_move ?_)
   all_goals (try simp only [push_cast, Nat.reduceAdd])
   all_goals refine AOps_cons rfl (AOp_call _ _ _ rfl rfl ok71 ?_)
   all_goals (try simp only [push_cast, Nat.reduceAdd])
   all_goals refine (compareStr_ac x.name v _).mono ?_
   all_goals rintro r H' ⟨rfl, rfl⟩
   all_goals (try simp only [push_cast, Nat.reduceAdd])
   all_goals (refine AOps_cons rfl (AOp_assign ?_) <;> try simp only [push_cast, Nat.reduceAdd])
   all_goals refine AOps_nil ?_
   all_goals
    refine thenK_normal (hK6 _ ?_)
    try clear hK6
    refine AW_ret ?_
    repeat (first | refine thenK_ret ?_ | refine loopK_ret ?_ | refine blockK_ret ?_)
    refine ⟨by first | exact .inl rfl | exact .inr rfl, _, rfl, (by first | exact outok_app 0 rfl (Nat.zero_le _) (by simp) | exact outok_self), by simp [push_cast], ?_⟩
    simp only [push_cast, Nat.reduceAdd]
    (first | (simp; done) | (simp; omega) | omega)
theorem searchR_ac (xs : List Rank) (v : List UInt8) (g : Nat) (caps : List AV) (c : Rank → Int) (H : List AObj) (hlen : xs.length < 1099511627776) (hg : callOk Try.prog g = true) (hsc : ScopedL H.length caps)
    (hmono : ∀ i j (hi : i < xs.length) (hj : j < xs.length), i ≤ j → c xs[j] < 0 → c xs[i] < 0)
    (hf : ∀ i (h : i < xs.length) X, ACall Try.prog g (encR xs[i] :: .str v :: caps) (H ++ X) (fun r H' => r = .int .i64 (c xs[i]) ∧ H' = H ++ X)) :
    ACall Try.prog 69 [.sl .none (encL encR xs), .str v, .fn g caps] H
      (fun r H' => ∃ i : Nat, i ≤ xs.length ∧ (∀ j (hj : j < xs.length), j < i → c xs[j] < 0) ∧ (∀ j (hj : j < xs.length), i ≤ j → ¬ c xs[j] < 0) ∧ r = .tup [.int .i64 i, .bool (decide (∃ h : i < xs.length, c xs[i] = 0))] ∧ H' = H) := by
  have hsx := scoped_encR H.length xs
  refine ACall_intro (H.length) Try.func69 rfl ?_
  simp only [Try.ntmps69, List.length_cons, List.length_nil, List.replicate, List.cons_append, List.nil_append, Nat.reduceAdd, Nat.reduceSub, Nat.zero_add]
  refine AW_seq_k (fun K7 hK7 => ?_)
  refine AW_region ?_
  all_goals refine AOps_cons rfl (AOp_assign ?_)
  all_goals (refine AOps_cons rfl (AOp_assign ?_) <;> try simp only [push_cast, Nat.reduceAdd])
  all_goals refine AOps_nil ?_
  all_goals
   refine thenK_normal (hK7 _ ?_)
   try clear hK7
   refine AW_seq_k (fun K8 hK8 => ?_)
   refine AW_region ?_
   all_goals refine AOps_cons rfl (AOp_move ?_)
   all_goals (try simp only [push_cast, Nat.reduceAdd])
   all_goals (refine AOps_cons rfl (AOp_len_sl _ _ _ rfl sl22 ?_) <;> try simp only [push_cast, Nat.reduceAdd])
   all_goals (refine AOps_cons rfl (AOp_assign ?_) <;> try simp only [push_cast, Nat.reduceAdd])
   all_goals refine AOps_nil ?_
   all_goals
    refine thenK_normal (hK8 _ ?_)
    try clear hK8
    refine AW_seq_k (fun K9 hK9 => ?_)
    refine AW_region ?_
    all_goals refine AOps_cons rfl (AOp_move ?_)
    all_goals refine AOps_cons rfl (AOp_assign ?_)
    all_goals (refine AOps_cons rfl (AOp_assign ?_) <;> try simp only [push_cast, Nat.reduceAdd])
    all_goals refine AOps_nil ?_
    all_goals
     refine thenK_normal (hK9 _ ?_)
     try clear hK9
     refine AW_seq_k (fun K10 hK10 => ?_)
     refine AW_block ?_
     refine AW_loopR (maskG 49 [0, 0, 0, 5, 0, 0]) (fun (q : Nat × Nat) => [(9, .int .i64 q.1), (10, .int .i64 q.2)]) (fun _ => _) (fun q => q.1 ≤ q.2 ∧ q.2 ≤ xs.length ∧ (∀ j (hj : j < xs.length), j < q.1 → c xs[j] < 0) ∧ (∀ j (hj : j < xs.length), q.2 ≤ j → ¬ c xs[j] < 0)) (fun q => q.2 - q.1) (0, xs.length) ⟨by omega, by omega, fun j hj h => by omega, fun j hj h => by simp at h; omega⟩ (by (simp only [push_cast, Nat.reduceAdd]; (first | refine weak_app0 ?_ | refine weak_same ?_); (repeat (first | exact SlotsOk.nil | refine SlotsOk.junk ?_ | refine SlotsOk.same (by first | (simp [push_cast]; done) | (simp [push_cast, Scoped, ScopedL, *]; done)) ?_ | refine SlotsOk.tok (by first | rfl | (simp; done)) (by first | (simp [push_cast]; done) | (simp [push_cast, Scoped, ScopedL, *]; done)) ?_ | refine SlotsOk.eq (by first | rfl | (congr 1; omega) | (simp; done) | (simp; omega)) (by first | (simp [push_cast]; done) | (simp [push_cast, Scoped, ScopedL, *]; done)) ?_)))) (fun q hi => ?_)
     obtain ⟨i, j⟩ := q
     obtain ⟨hi1, hi2, hi3, hi4⟩ := hi
     simp only at hi1 hi2 hi3 hi4
     (try simp only [push_cast, Nat.reduceAdd])
     refine AW_seq_k (fun K11 hK11 => ?_)
     refine AW_seq_k (fun K12 hK12 => ?_)
     refine AW_region ?_
     all_goals refine AOps_cons rfl (AOp_move ?_)
     all_goals refine AOps_cons rfl (AOp_move ?_)
     all_goals (try simp only [push_cast, Nat.reduceAdd])
     all_goals (refine AOps_cons rfl (AOp_bin_int _ _ _ _ rfl rfl rfl ?_) <;> try simp only [push_cast, Nat.reduceAdd])
     all_goals refine AOps_nil ?_
     all_goals
      refine thenK_normal (hK12 _ ?_)
      try clear hK12
      apply AW_cond
      case' hc => exact rfl
      case' hf =>
       intro hc13
       try (exfalso; (first | (cases hc13; done) | (simp at hc13; done) | (simp at hc13; omega)); done)
       all_goals (try simp only [decide_eq_true_eq, decide_eq_false_iff_not, Bool.not_eq_true', Bool.not_eq_false', Bool.not_eq_eq_eq_not, Bool.not_true, Bool.not_false] at hc13)
       all_goals
        refine AW_exit ?_
        repeat (first | refine thenK_exit ?_ | refine loopK_exit ?_ | refine blockK_other (by decide) ?_)
        refine blockK_same ?_
        refine thenK_normal (hK10 _ ?_)
        try clear hK10
        refine AW_seq_k (fun K14 hK14 => ?_)
        refine AW_region ?_
        all_goals refine AOps_cons rfl (AOp_move ?_)
        all_goals refine AOps_cons rfl (AOp_move ?_)
        all_goals refine AOps_cons rfl (AOp_move ?_)
        all_goals (try simp only [push_cast, Nat.reduceAdd])
        all_goals (refine AOps_cons rfl (AOp_bin_int _ _ _ _ rfl rfl rfl ?_) <;> try simp only [push_cast, Nat.reduceAdd])
        all_goals refine AOps_cons rfl (AOp_move ?_)
        all_goals (try simp only [push_cast, Nat.reduceAdd])
        all_goals (try refine AOps_split 39 _ rfl (fun hg15 => ?_) (fun hg15 => ?_))
        all_goals (try (exfalso; (first | (cases hg15; done) | (simp at hg15; done) | (simp at hg15; omega)); done))
        all_goals (try simp only [decide_eq_true_eq, decide_eq_false_iff_not, Bool.not_eq_true', Bool.not_eq_false', Bool.not_eq_eq_eq_not, Bool.not_true, Bool.not_false] at hg15)
        all_goals first
         | refine AOps_skip rfl ?_
         | (refine AOps_cons rfl ?_
            refine AOp_move ?_)
        all_goals (try simp only [push_cast, Nat.reduceAdd])
        all_goals first
         | refine AOps_skip rfl ?_
         | (refine AOps_cons rfl ?_
            refine AOp_move ?_)
        all_goals (try simp only [push_cast, Nat.reduceAdd])
        all_goals first
         | refine AOps_skip rfl ?_
         | (refine AOps_cons rfl ?_
            refine AOp_move ?_)
        all_goals (try simp only [push_cast, Nat.reduceAdd])
        all_goals first
         | refine AOps_skip rfl ?_
         | (refine AOps_cons rfl ?_
            refine AOp_indexAddr_sl 63 _ _ _ _ _ rfl rfl sl22 sz63 (by decide) (by exact uni_encR _) (by first | omega | (simp; omega)) (by first | omega | (simp [push_cast]; omega) | (simp [push_cast]; done)) ?_)
        all_goals (try simp only [push_cast, Nat.reduceAdd])
        all_goals first
         | refine AOps_skip rfl ?_
         | (refine AOps_cons rfl ?_
            refine AOp_load_cptr _ _ rfl sz63 ag63 (by simp [push_cast]) ?_)
        all_goals (try simp only [push_cast, Nat.reduceAdd])
        all_goals first
         | refine AOps_skip rfl ?_
         | (refine AOps_cons rfl ?_
            refine AOp_move ?_)
        all_goals (try simp only [push_cast, Nat.reduceAdd])
        all_goals first
         | refine AOps_skip rfl ?_
         | (refine AOps_cons rfl ?_
            refine AOp_call _ _ _ rfl rfl hg ?_
            simp only [push_cast]
            have hfi := hf i (by omega) []
            simp only [List.append_nil] at hfi
            refine hfi.mono ?_
            rintro r H' ⟨rfl, rfl⟩)
        all_goals (try simp only [push_cast, Nat.reduceAdd])
        all_goals first
         | refine AOps_skip rfl ?_
         | (refine AOps_cons rfl ?_
            refine AOp_bin_int _ _ _ _ rfl rfl rfl ?_)
        all_goals (try simp only [push_cast, Nat.reduceAdd])
        all_goals refine AOps_cons rfl (AOp_pick _ rfl ?_)
        all_goals refine AOps_cons rfl (AOp_assign ?_)
        all_goals (refine AOps_cons rfl (AOp_assign ?_) <;> try simp only [push_cast, Nat.reduceAdd])
        all_goals refine AOps_nil ?_
        all_goals
         refine thenK_normal (hK14 _ ?_)
         try clear hK14
         refine AW_ret ?_
         repeat (first | refine thenK_ret ?_ | refine loopK_ret ?_ | refine blockK_ret ?_)
         refine ⟨by first | exact .inl rfl | exact .inr rfl, _, ⟨[_, _], rfl, rfl, rfl, trivial⟩, (by first | exact outok_app 0 rfl (Nat.zero_le _) (by simp) | exact outok_self), by simp [push_cast], ?_⟩
         simp only [push_cast, Nat.reduceAdd]
         refine ⟨i, by omega, hi3, fun k hk hik => hi4 k hk (by omega), ?_, by simp⟩
         first
           | (have hlt : i < xs.length := (by omega); simp [hlt]; done)
           | (have hlt : ¬ i < xs.length := (by omega); simp [hlt]; done)
      case' ht =>
       intro hc13
       try (exfalso; (first | (cases hc13; done) | (simp at hc13; done) | (simp at hc13; omega)); done)
       all_goals (try simp only [decide_eq_true_eq, decide_eq_false_iff_not, Bool.not_eq_true', Bool.not_eq_false', Bool.not_eq_eq_eq_not, Bool.not_true, Bool.not_false] at hc13)
       all_goals
        refine AW_skip ?_
        refine thenK_normal (hK11 _ ?_)
        try clear hK11
        refine AW_block ?_
        refine AW_seq_k (fun K16 hK16 => ?_)
        refine AW_region ?_
        all_goals refine AOps_cons rfl (AOp_move ?_)
        all_goals refine AOps_cons rfl (AOp_move ?_)
        all_goals (try simp only [push_cast, Nat.reduceAdd])
        all_goals refine AOps_cons rfl (AOp_bin_int _ _ _ _ rfl rfl rfl ?_)
        all_goals (try simp only [push_cast, Nat.reduceAdd])
        all_goals (try rw [IntWalk.i64_in _ (by omega)])
        all_goals (try simp only [push_cast, Nat.reduceAdd])
        all_goals refine AOps_cons rfl ?_
        all_goals first | refine AOp_convert_int _ _ _ rfl un3 un110 ?_ | refine AOp_convert_int _ _ _ rfl un110 un3 ?_
        all_goals (try simp only [push_cast, Nat.reduceAdd])
        all_goals (refine AOps_cons rfl (AOp_shr _ _ _ _ rfl rfl (by decide) (by decide) ?_) <;> try simp only [push_cast, Nat.reduceAdd])
        all_goals refine AOps_cons rfl ?_
        all_goals first | refine AOp_convert_int _ _ _ rfl un3 un110 ?_ | refine AOp_convert_int _ _ _ rfl un110 un3 ?_
        all_goals (try simp only [push_cast, Nat.reduceAdd])
        all_goals (refine AOps_cons rfl (AOp_assign ?_) <;> try simp only [push_cast, Nat.reduceAdd])
        all_goals refine AOps_nil ?_
        have hmid : IntKind.i64.wrap ((IntKind.u64.wrap ((i : Int) + j)).fdiv (2 ^ Int.toNat 1)) = (((i + j) / 2 : Nat) : Int) := by
          rw [IntWalk.u64_in _ (by omega), show (2 : Int) ^ Int.toNat 1 = 2 from rfl, Int.fdiv_eq_ediv_of_nonneg _ (by omega), IntWalk.i64_in _ (by omega)]
          omega
        rw [hmid]
        obtain ⟨m, hm⟩ : ∃ m, m = (i + j) / 2 := ⟨_, rfl⟩
        rw [← hm]
        all_goals
         refine thenK_normal (hK16 _ ?_)
         try clear hK16
         refine AW_seq_k (fun K17 hK17 => ?_)
         refine AW_region ?_
         all_goals refine AOps_cons rfl (AOp_move ?_)
         all_goals refine AOps_cons rfl (AOp_move ?_)
         all_goals refine AOps_cons rfl (AOp_move ?_)
         all_goals (try simp only [push_cast, Nat.reduceAdd])
         all_goals (refine AOps_cons rfl (AOp_indexAddr_sl 63 _ _ _ _ _ rfl rfl sl22 sz63 (by decide) (by exact uni_encR _) (by first | omega | (simp; omega)) (by first | omega | (simp [push_cast]; omega) | (simp [push_cast]; done)) ?_) <;> try simp only [push_cast, Nat.reduceAdd])
         all_goals (refine AOps_cons rfl (AOp_load_cptr _ _ rfl sz63 ag63 (by simp [push_cast]) ?_) <;> try simp only [push_cast, Nat.reduceAdd])
         all_goals refine AOps_cons rfl (AOp_move ?_)
         all_goals (try simp only [push_cast, Nat.reduceAdd])
         all_goals refine AOps_cons rfl (AOp_call _ _ _ rfl rfl hg ?_)
         all_goals simp only [push_cast]
         all_goals have hfi := hf m (by omega) []
         all_goals simp only [List.append_nil] at hfi
         all_goals refine hfi.mono ?_
         all_goals rintro r H' ⟨rfl, rfl⟩
         all_goals (try simp only [push_cast, Nat.reduceAdd])
         all_goals (refine AOps_cons rfl (AOp_bin_int _ _ _ _ rfl rfl rfl ?_) <;> try simp only [push_cast, Nat.reduceAdd])
         all_goals refine AOps_nil ?_
         all_goals
          refine thenK_normal (hK17 _ ?_)
          try clear hK17
          apply AW_cond
          case' hc => exact rfl
          case' hf =>
           intro hc18
           try (exfalso; (first | (cases hc18; done) | (simp at hc18; done) | (simp at hc18; omega)); done)
           all_goals (try simp only [decide_eq_true_eq, decide_eq_false_iff_not, Bool.not_eq_true', Bool.not_eq_false', Bool.not_eq_eq_eq_not, Bool.not_true, Bool.not_false] at hc18)
           all_goals
            refine AW_region ?_
            all_goals refine AOps_cons rfl (AOp_move ?_)
            all_goals (refine AOps_cons rfl (AOp_assign ?_) <;> try simp only [push_cast, Nat.reduceAdd])
            all_goals refine AOps_nil ?_
          case' ht =>
           intro hc18
           try (exfalso; (first | (cases hc18; done) | (simp at hc18; done) | (simp at hc18; omega)); done)
           all_goals (try simp only [decide_eq_true_eq, decide_eq_false_iff_not, Bool.not_eq_true', Bool.not_eq_false', Bool.not_eq_eq_eq_not, Bool.not_true, Bool.not_false] at hc18)
           all_goals
            refine AW_region ?_
            all_goals refine AOps_cons rfl (AOp_move ?_)
            all_goals (try simp only [push_cast, Nat.reduceAdd])
            all_goals refine AOps_cons rfl (AOp_bin_int _ _ _ _ rfl rfl rfl ?_)
            all_goals (try simp only [push_cast, Nat.reduceAdd])
            all_goals (try rw [IntWalk.i64_in _ (by omega)])
            all_goals (try simp only [push_cast, Nat.reduceAdd])
            all_goals (refine AOps_cons rfl (AOp_assign ?_) <;> try simp only [push_cast, Nat.reduceAdd])
            all_goals refine AOps_nil ?_
          all_goals
           refine blockK_normal ?_
           refine loopK_normal ?_
           first
             | exact ⟨(m + 1, j), ⟨by simp only; omega, by simp only; omega, fun k hk hkm => hmono k m hk (by omega) (by simp only at hkm; omega) (by assumption), hi4⟩, by (simp only [push_cast, Nat.reduceAdd]; (first | refine weak_app0 ?_ | refine weak_same ?_); (repeat (first | exact SlotsOk.nil | refine SlotsOk.junk ?_ | refine SlotsOk.same (by first | (simp [push_cast]; done) | (simp [push_cast, Scoped, ScopedL, *]; done)) ?_ | refine SlotsOk.tok (by first | rfl | (simp; done)) (by first | (simp [push_cast]; done) | (simp [push_cast, Scoped, ScopedL, *]; done)) ?_ | refine SlotsOk.eq (by first | rfl | (congr 1; omega) | (simp; done) | (simp; omega)) (by first | (simp [push_cast]; done) | (simp [push_cast, Scoped, ScopedL, *]; done)) ?_))), by simp only; omega⟩
             | exact ⟨(i, m), ⟨by simp only; omega, by simp only; omega, hi3, fun k hk hmk hneg => absurd (hmono m k (by omega) hk hmk hneg) (by assumption)⟩, by (simp only [push_cast, Nat.reduceAdd]; (first | refine weak_app0 ?_ | refine weak_same ?_); (repeat (first | exact SlotsOk.nil | refine SlotsOk.junk ?_ | refine SlotsOk.same (by first | (simp [push_cast]; done) | (simp [push_cast, Scoped, ScopedL, *]; done)) ?_ | refine SlotsOk.tok (by first | rfl | (simp; done)) (by first | (simp [push_cast]; done) | (simp [push_cast, Scoped, ScopedL, *]; done)) ?_ | refine SlotsOk.eq (by first | rfl | (congr 1; omega) | (simp; done) | (simp; omega)) (by first | (simp [push_cast]; done) | (simp [push_cast, Scoped, ScopedL, *]; done)) ?_))), by simp only; omega⟩
def zeroR : Rank := ⟨[], 0, 0⟩
def ofP (l : List Rank) (v : List UInt8) : Rank := (l.find? fun x => decide (x.name = v)).getD zeroR
theorem compareBytes_eq : ∀ a b : List UInt8, Lib.compareBytes a b = 0 ↔ a = b
  | [], [] => by simp [Lib.compareBytes]
  | [], _ :: _ => by simp [Lib.compareBytes]
  | _ :: _, [] => by simp [Lib.compareBytes]
  | a :: ar, b :: bs => by
    have ih := compareBytes_eq ar bs
    unfold Lib.compareBytes
    by_cases h1 : a < b
    · simp [h1]; intro e; subst e; exact absurd h1 (by simp)
    · by_cases h2 : b < a
      · simp [h1, h2]; intro e; subst e; exact absurd h2 (by simp)
      · have : a = b := by
          apply UInt8.le_antisymm
          · simpa using h2
          · simpa using h1
        simp [h1, h2, this, ih]
theorem compareBytes_trans : ∀ a b c : List UInt8, Lib.compareBytes a b < 0 → Lib.compareBytes b c < 0 → Lib.compareBytes a c < 0
  | [], [], _, h, _ => by simp [Lib.compareBytes] at h
  | [], _ :: _, [], _, h => by simp [Lib.compareBytes] at h
  | [], _ :: _, _ :: _, _, _ => by simp [Lib.compareBytes]
  | _ :: _, [], _, h, _ => by simp [Lib.compareBytes] at h
  | _ :: _, _ :: _, [], _, h => by simp [Lib.compareBytes] at h
  | a :: ar, b :: bs, c :: cs, h1, h2 => by
    have ih := compareBytes_trans ar bs cs
    unfold Lib.compareBytes at h1 h2 ⊢
    simp only [UInt8.lt_iff_toNat_lt] at h1 h2 ⊢
    by_cases a1 : a.toNat < b.toNat
    · by_cases b1 : b.toNat < c.toNat
      · have : a.toNat < c.toNat := by omega
        simp [this]
      · by_cases b2 : c.toNat < b.toNat
        · simp [b1, b2] at h2
        · have : a.toNat < c.toNat := by omega
          simp [this]
    · by_cases a2 : b.toNat < a.toNat
      · simp [a1, a2] at h1
      · simp only [a1, a2, if_false] at h1
        by_cases b1 : b.toNat < c.toNat
        · have : a.toNat < c.toNat := by omega
          simp [this]
        · by_cases b2 : c.toNat < b.toNat
          · simp [b1, b2] at h2
          · simp only [b1, b2, if_false] at h2
            have e1 : ¬ a.toNat < c.toNat := by omega
            have e2 : ¬ c.toNat < a.toNat := by omega
            simp only [e1, e2, if_false]; exact ih h1 h2
def SortedR (l : List Rank) : Prop := l.Pairwise fun x y => Lib.compareBytes x.name y.name < 0
end Ab
set_option maxRecDepth 10000
namespace Ab
open Go Go.Proofs
attribute [local push_cast] encT encR scoped_encR strip stripL
theorem find_search (l : List Rank) (hs : SortedR l) (v : List UInt8) (i : Nat) (h1 : ∀ j (hj : j < l.length), j < i → Lib.compareBytes l[j].name v < 0) (h2 : ∀ j (hj : j < l.length), i ≤ j → ¬ Lib.compareBytes l[j].name v < 0) :
    (∀ h : i < l.length, Lib.compareBytes l[i].name v = 0 → ofP l v = l[i]) ∧ ((¬ ∃ h : i < l.length, Lib.compareBytes l[i].name v = 0) → ofP l v = zeroR) := by
  constructor
  · intro h h0
    have hn := (compareBytes_eq _ _).1 h0
    have : l.find? (fun x => decide (x.name = v)) = some l[i] := by
      rw [List.find?_eq_some_iff_getElem]
      refine ⟨by simpa using hn, i, h, rfl, fun j hj => ?_⟩
      have := h1 j (by omega) hj
      simp only [decide_eq_true_eq, Bool.not_eq_true', decide_eq_false_iff_not]
      intro e; rw [(compareBytes_eq _ _).2 e] at this; omega
    simp [ofP, this]
  · intro hno
    have : l.find? (fun x => decide (x.name = v)) = none := by
      rw [List.find?_eq_none]
      intro x hx
      obtain ⟨j, hj, rfl⟩ := List.getElem_of_mem hx
      simp only [decide_eq_true_eq]
      intro e
      have e0 := (compareBytes_eq _ _).2 e
      rcases Nat.lt_or_ge j i with h | h
      · have := h1 j hj h; omega
      · rcases Nat.eq_or_lt_of_le h with h | h
        · subst h; exact hno ⟨hj, e0⟩
        · have hlt := (List.pairwise_iff_getElem.1 hs) i j (by omega) hj h
          rw [e] at hlt
          exact h2 i (by omega) (Nat.le_refl _) hlt
    simp [ofP, this]
theorem of_ac (l : List Rank) (hs : SortedR l) (v : List UInt8) (hlen : l.length < 1099511627776) (H : List AObj) : ACall Try.prog 51 [.sl .none (encL encR l), .str v] H (fun r H' => r = encR (ofP l v) ∧ H' = H) := by
  refine ACall_intro (H.length) Try.func51 rfl ?_
  simp only [Try.ntmps51, List.length_cons, List.length_nil, List.replicate, List.cons_append, List.nil_append, Nat.reduceAdd, Nat.reduceSub, Nat.zero_add]
  refine AW_seq_k (fun K1 hK1 => ?_)
  refine AW_region ?_
  all_goals (refine AOps_cons rfl (AOp_alloc _ zr63 (by simp [ofVal, AV.isCell, Value.oneCell']) ?_) <;> try simp only [push_cast, Nat.reduceAdd])
  all_goals refine AOps_nil ?_
  all_goals
   refine thenK_normal (hK1 _ ?_)
   try clear hK1
   refine AW_seq_k (fun K2 hK2 => ?_)
   refine AW_region ?_
   all_goals refine AOps_cons rfl (AOp_move ?_)
   all_goals refine AOps_cons rfl (AOp_move ?_)
   all_goals (try simp only [push_cast, Nat.reduceAdd])
   all_goals refine AOps_cons rfl (AOp_call _ _ _ rfl rfl ok69 ?_)
   all_goals (try simp only [push_cast, Nat.reduceAdd])
   all_goals refine (searchR_ac l v 70 [] (fun x => Lib.compareBytes x.name v) _ hlen ok70 (by simp [ScopedL]) (fun i j hi hj hij hc => ?_) (fun i h X => ofC_ac _ _ _)).mono ?_
   · rcases Nat.eq_or_lt_of_le hij with h | h
     · subst h; exact hc
     · exact compareBytes_trans _ _ _ ((List.pairwise_iff_getElem.1 hs) i j hi hj h) hc
   all_goals rintro r H' ⟨i, hi, h1, h2, rfl, rfl⟩
   all_goals obtain ⟨hf1, hf2⟩ := find_search l hs v i h1 h2
   all_goals (try simp only [push_cast, Nat.reduceAdd])
   all_goals refine AOps_cons rfl (AOp_move ?_)
   all_goals (try simp only [push_cast, Nat.reduceAdd])
   all_goals (refine AOps_cons rfl (AOp_extract _ _ rfl rfl ?_) <;> try simp only [push_cast, Nat.reduceAdd])
   all_goals (refine AOps_cons rfl (AOp_extract _ _ rfl rfl ?_) <;> try simp only [push_cast, Nat.reduceAdd])
   all_goals refine AOps_cons rfl (AOp_assign ?_)
   all_goals (refine AOps_cons rfl (AOp_assign ?_) <;> try simp only [push_cast, Nat.reduceAdd])
   all_goals refine AOps_nil ?_
   all_goals
    refine thenK_normal (hK2 _ ?_)
    try clear hK2
    refine AW_seq_k (fun K3 hK3 => ?_)
    refine AW_seq_k (fun K4 hK4 => ?_)
    refine AW_region ?_
    all_goals refine AOps_cons rfl (AOp_move ?_)
    all_goals (try simp only [push_cast, Nat.reduceAdd])
    all_goals (refine AOps_cons rfl (AOp_not _ rfl ?_) <;> try simp only [push_cast, Nat.reduceAdd])
    all_goals refine AOps_nil ?_
    all_goals
     refine thenK_normal (hK4 _ ?_)
     try clear hK4
     apply AW_cond
     case' hc => exact rfl
     case' hf =>
      intro hc5
      try (exfalso; (first | (cases hc5; done) | (simp at hc5; done) | (simp at hc5; omega)); done)
      all_goals (try simp only [decide_eq_true_eq, decide_eq_false_iff_not, Bool.not_eq_true', Bool.not_eq_false', Bool.not_eq_eq_eq_not, Bool.not_true, Bool.not_false] at hc5)
      all_goals
       refine AW_skip ?_
       refine thenK_normal (hK3 _ ?_)
       try clear hK3
       refine AW_seq_k (fun K6 hK6 => ?_)
       obtain ⟨hil, hi0⟩ := ‹∃ h, _›
       refine AW_region ?_
       all_goals refine AOps_cons rfl (AOp_move ?_)
       all_goals refine AOps_cons rfl (AOp_move ?_)
       all_goals (try simp only [push_cast, Nat.reduceAdd])
       all_goals (refine AOps_cons rfl (AOp_indexAddr_sl 63 _ _ _ _ _ rfl rfl sl22 sz63 (by decide) (by exact uni_encR _) (by first | omega | (simp; omega)) (by first | omega | (simp [push_cast]; omega) | (simp [push_cast]; done)) ?_) <;> try simp only [push_cast, Nat.reduceAdd])
       all_goals (refine AOps_cons rfl (AOp_load_cptr _ _ rfl sz63 ag63 (by simp [push_cast]) ?_) <;> try simp only [push_cast, Nat.reduceAdd])
       all_goals (refine AOps_cons rfl (AOp_store _ _ _ _ _ rfl (by first | exact hget0 | exact hgetN _ rfl | assumption | exact hgetL (by assumption) | exact hgetE (by first | assumption | apply hGl) | exact hgetEN (by first | assumption | apply hGl) _ rfl) rfl rfl (by first | exact .inl rfl | exact .inr ⟨_, rfl⟩) (by simp [push_cast, AV.isCell]) sz63 (by simp [push_cast]) ?_) <;> try simp only [push_cast, Nat.reduceAdd])
       all_goals refine AOps_nil ?_
       all_goals
        refine thenK_normal (hK6 _ ?_)
        try clear hK6
        refine AW_ret ?_
        repeat (first | refine thenK_ret ?_ | refine loopK_ret ?_ | refine blockK_ret ?_)
        rw [hf1 hil hi0]
        refine ⟨by first | exact .inl rfl | exact .inr rfl, _, ⟨_, _, _, _, rfl, (by first | exact hget0 | exact hgetN _ rfl | assumption | exact hgetL (by assumption) | exact hgetE (by first | assumption | apply hGl) | exact hgetEN (by first | assumption | apply hGl) _ rfl), sz63, by simp, .inl ⟨ag63, rfl⟩⟩, (by first | exact outok_app 0 rfl (Nat.zero_le _) (by simp) | exact outok_self), by simp [push_cast], ?_⟩
        simp only [push_cast, Nat.reduceAdd]
        simp
     case' ht =>
      intro hc5
      try (exfalso; (first | (cases hc5; done) | (simp at hc5; done) | (simp at hc5; omega)); done)
      all_goals (try simp only [decide_eq_true_eq, decide_eq_false_iff_not, Bool.not_eq_true', Bool.not_eq_false', Bool.not_eq_eq_eq_not, Bool.not_true, Bool.not_false] at hc5)
      all_goals
       refine AW_seq_k (fun K7 hK7 => ?_)
       refine AW_region ?_
       all_goals (refine AOps_cons rfl (AOp_build _ _ _ zr63 st63 _ rfl (by first | rfl | (simp [afill, splice, push_cast]; done)) ?_) <;> try simp only [push_cast, Nat.reduceAdd])
       all_goals (refine AOps_cons rfl (AOp_store _ _ _ _ _ rfl (by first | exact hget0 | exact hgetN _ rfl | assumption | exact hgetL (by assumption) | exact hgetE (by first | assumption | apply hGl) | exact hgetEN (by first | assumption | apply hGl) _ rfl) rfl rfl (by first | exact .inl rfl | exact .inr ⟨_, rfl⟩) (by simp [push_cast, AV.isCell]) sz63 (by simp [push_cast]) ?_) <;> try simp only [push_cast, Nat.reduceAdd])
       all_goals refine AOps_nil ?_
       all_goals
        refine thenK_normal (hK7 _ ?_)
        try clear hK7
        refine AW_ret ?_
        repeat (first | refine thenK_ret ?_ | refine loopK_ret ?_ | refine blockK_ret ?_)
        rw [hf2 (by assumption)]
        refine ⟨by first | exact .inl rfl | exact .inr rfl, _, ⟨_, _, _, _, rfl, (by first | exact hget0 | exact hgetN _ rfl | assumption | exact hgetL (by assumption) | exact hgetE (by first | assumption | apply hGl) | exact hgetEN (by first | assumption | apply hGl) _ rfl), sz63, by simp, .inl ⟨ag63, rfl⟩⟩, (by first | exact outok_app 0 rfl (Nat.zero_le _) (by simp) | exact outok_self), by simp [push_cast], ?_⟩
        simp only [push_cast, Nat.reduceAdd]
        simp [zeroR]
def weightP (l : List Rank) (unit : Int) : Term → Int
  | .mk n v xs => if v then unit else (ofP l n).weight + (xs.map (weightP l unit)).sum
theorem weightP_mk (l : List Rank) (unit : Int) (n : List UInt8) (v : Bool) (xs : List Term) : weightP l unit (.mk n v xs) = if v then unit else (ofP l n).weight + (xs.map (weightP l unit)).sum := by simp [weightP]
theorem take_sumI {α : Type} (f : α → Int) (xs : List α) (i : Nat) (h : i < xs.length) : ((xs.take (i + 1)).map f).sum = ((xs.take i).map f).sum + f xs[i] := by
  rw [List.take_succ_eq_append_getElem h, List.map_append, List.sum_append]; simp
def SmallR (l : List Rank) (unit : Int) : Prop := (∀ x, x ∈ l → 0 ≤ x.rank ∧ x.rank ≤ 1000 ∧ 0 ≤ x.weight ∧ x.weight ≤ 1000) ∧ 1 ≤ unit ∧ unit ≤ 1000
theorem SmallR.of {l : List Rank} {unit : Int} (h : SmallR l unit) (v : List UInt8) : 0 ≤ (ofP l v).rank ∧ (ofP l v).rank ≤ 1000 ∧ 0 ≤ (ofP l v).weight ∧ (ofP l v).weight ≤ 1000 := by
  unfold ofP
  cases hf : l.find? fun x => decide (x.name = v) with
  | none => simp [zeroR]
  | some x => exact h.1 x (List.mem_of_find?_eq_some hf)
theorem weight_bound {l : List Rank} {unit : Int} (h : SmallR l unit) (t : Term) : 0 ≤ weightP l unit t ∧ weightP l unit t ≤ 1000 * t.size := by
  refine Term.ind (p := fun t => 0 ≤ weightP l unit t ∧ weightP l unit t ≤ 1000 * t.size) (fun n v xs ih => ?_) t
  rw [weightP_mk, Term.size_mk]
  have h2 := h.2
  have h3 := h.of n
  have hs : 0 ≤ (xs.map (weightP l unit)).sum ∧ (xs.map (weightP l unit)).sum ≤ 1000 * ((xs.map Term.size).sum : Nat) := by
    induction xs with
    | nil => simp
    | cons a r ih2 =>
      have h4 := ih a (by simp)
      have h5 := ih2 (fun x hx => ih x (by simp [hx]))
      simp only [List.map_cons, List.sum_cons]; omega
  split <;> omega
theorem weights_bound {l : List Rank} {unit : Int} (h : SmallR l unit) : ∀ xs : List Term, 0 ≤ (xs.map (weightP l unit)).sum ∧ (xs.map (weightP l unit)).sum ≤ 1000 * ((xs.map Term.size).sum : Nat)
  | [] => by simp
  | a :: r => by
    have h4 := weight_bound h a
    have h5 := weights_bound h r
    simp only [List.map_cons, List.sum_cons]; omega
theorem weight_ac (l : List Rank) (unit : Int) (hs : SortedR l) (hr : SmallR l unit) (hlen : l.length < 1099511627776) (t : Term) : t.bulk ≤ 1099511627775 → ∀ H, ACall Try.prog 45 [.sl .none (encL encR l), .int .i64 unit, encT t] H (fun r H' => r = .int .i64 (weightP l unit t) ∧ H' = H) := by
  refine Term.ind (p := fun t => t.bulk ≤ 1099511627775 → ∀ H, ACall Try.prog 45 [.sl .none (encL encR l), .int .i64 unit, encT t] H (fun r H' => r = .int .i64 (weightP l unit t) ∧ H' = H)) (fun n v xs ih => ?_) t
  intro hb H
  have hsz := (Term.mk n v xs).size_le
  have hl2 := Term.len_le (n := n) (v := v) (xs := xs)
  have ho := hr.of n
  rw [Term.size_mk] at hsz
  rw [weightP_mk]
  have hbd : ∀ i, i ≤ xs.length → 0 ≤ ((xs.take i).map (weightP l unit)).sum ∧ ((xs.take i).map (weightP l unit)).sum ≤ 1099511627775000 := by
    intro i hi
    have h1 := weights_bound hr (xs.take i)
    have h2 := take_sum_le Term.size xs i
    omega
  simp only [encT, Term.name, Term.var, Term.args]
  refine ACall_intro (H.length) Try.func45 rfl ?_
  simp only [Try.ntmps45, List.length_cons, List.length_nil, List.replicate, List.cons_append, List.nil_append, Nat.reduceAdd, Nat.reduceSub, Nat.zero_add]
  refine AW_seq_k (fun K8 hK8 => ?_)
  refine AW_region ?_
  all_goals (refine AOps_cons rfl (AOp_box _ _ rfl rfl (by first | exact .inl rfl | exact .inr ⟨_, rfl⟩) (by simp [push_cast, AV.isCell]) ?_) <;> try simp only [push_cast, Nat.reduceAdd])
  all_goals (refine AOps_cons rfl (AOp_assign ?_) <;> try simp only [push_cast, Nat.reduceAdd])
  all_goals refine AOps_nil ?_
  all_goals
   refine thenK_normal (hK8 _ ?_)
   try clear hK8
   refine AW_seq_k (fun K9 hK9 => ?_)
   refine AW_seq_k (fun K10 hK10 => ?_)
   refine AW_region ?_
   all_goals (refine AOps_cons rfl (AOp_fieldAddr_ptr _ _ _ _ rfl fd27_1 (by decide) ?_) <;> try simp only [push_cast, Nat.reduceAdd])
   all_goals (refine AOps_cons rfl (AOp_load1_ptr _ _ _ _ _ rfl (by first | exact hget0 | exact hgetN _ rfl | assumption | exact hgetL (by assumption)) sz4 ag4 (by decide) (by simp [push_cast]) rfl ?_) <;> try simp only [push_cast, Nat.reduceAdd])
   all_goals refine AOps_nil ?_
   all_goals
    refine thenK_normal (hK10 _ ?_)
    try clear hK10
    apply AW_cond
    case' hc => exact rfl
    case' hf =>
     intro hc11
     try (exfalso; (first | (cases hc11; done) | (simp at hc11; done) | (simp at hc11; omega)); done)
     all_goals (try simp only [decide_eq_true_eq, decide_eq_false_iff_not, Bool.not_eq_true', Bool.not_eq_false', Bool.not_eq_eq_eq_not, Bool.not_true, Bool.not_false] at hc11)
     all_goals
      refine AW_skip ?_
      refine thenK_normal (hK9 _ ?_)
      try clear hK9
      refine AW_seq_k (fun K12 hK12 => ?_)
      refine AW_region ?_
      all_goals refine AOps_cons rfl (AOp_move ?_)
      all_goals (try simp only [push_cast, Nat.reduceAdd])
      all_goals (refine AOps_cons rfl (AOp_fieldAddr_ptr _ _ _ _ rfl fd27_0 (by decide) ?_) <;> try simp only [push_cast, Nat.reduceAdd])
      all_goals (refine AOps_cons rfl (AOp_load1_ptr _ _ _ _ _ rfl (by first | exact hget0 | exact hgetN _ rfl | assumption | exact hgetL (by assumption)) sz9 ag9 (by decide) (by simp [push_cast]) rfl ?_) <;> try simp only [push_cast, Nat.reduceAdd])
      all_goals refine AOps_cons rfl (AOp_call _ _ _ rfl rfl ok51 ?_)
      all_goals (try simp only [push_cast, Nat.reduceAdd])
      all_goals refine (of_ac l hs n hlen _).mono ?_
      all_goals rintro r H' ⟨rfl, rfl⟩
      all_goals (try simp only [push_cast, Nat.reduceAdd])
      all_goals (refine AOps_cons rfl (AOp_field1 _ _ _ _ rfl fa63_2 (by decide) (by simp [push_cast]) rfl ?_) <;> try simp only [push_cast, Nat.reduceAdd])
      all_goals (refine AOps_cons rfl (AOp_assign ?_) <;> try simp only [push_cast, Nat.reduceAdd])
      all_goals refine AOps_nil ?_
      all_goals
       refine thenK_normal (hK12 _ ?_)
       try clear hK12
       refine AW_seq_k (fun K13 hK13 => ?_)
       refine AW_seq_k (fun K14 hK14 => ?_)
       refine AW_region ?_
       all_goals (refine AOps_cons rfl (AOp_fieldAddr_ptr _ _ _ _ rfl fd27_2 (by decide) ?_) <;> try simp only [push_cast, Nat.reduceAdd])
       all_goals (refine AOps_cons rfl (AOp_load1_ptr _ _ _ _ _ rfl (by first | exact hget0 | exact hgetN _ rfl | assumption | exact hgetL (by assumption)) sz25 ag25 (by decide) (by simp [push_cast]) rfl ?_) <;> try simp only [push_cast, Nat.reduceAdd])
       all_goals (refine AOps_cons rfl (AOp_len_sl _ _ _ rfl sl25 ?_) <;> try simp only [push_cast, Nat.reduceAdd])
       all_goals (refine AOps_cons rfl (AOp_move ?_) <;> try simp only [push_cast, Nat.reduceAdd])
       all_goals refine AOps_nil ?_
       all_goals
        refine thenK_normal (hK14 _ ?_)
        try clear hK14
        refine AW_block ?_
        refine AW_loopR (maskG 33 [0, 0, 5, 11, 0, 0]) (fun (i : Nat) => [(21, .int .i64 i), (7, .int .i64 ((ofP l n).weight + ((xs.take i).map (weightP l unit)).sum))]) (fun _ => _) (fun i => i ≤ xs.length) (fun i => xs.length - i) 0 (Nat.zero_le _) (by (simp only [push_cast, Nat.reduceAdd]; refine weak_app 1 ?_ (by simp) (by simp [push_cast]); (repeat (first | exact SlotsOk.nil | refine SlotsOk.junk ?_ | refine SlotsOk.same (by first | (simp [push_cast]; done) | (simp [push_cast, Scoped, ScopedL, *]; done)) ?_ | refine SlotsOk.tok (by first | rfl | (simp; done)) (by first | (simp [push_cast]; done) | (simp [push_cast, Scoped, ScopedL, *]; done)) ?_ | refine SlotsOk.eq (by first | rfl | (congr 1; omega) | (simp; done) | (simp; omega)) (by first | (simp [push_cast]; done) | (simp [push_cast, Scoped, ScopedL, *]; done)) ?_)))) (fun i hi => ?_)
        (try simp only [push_cast, Nat.reduceAdd])
        refine AW_seq_k (fun K15 hK15 => ?_)
        refine AW_region ?_
        all_goals (refine AOps_cons rfl (AOp_bin_int _ _ _ _ rfl rfl rfl ?_) <;> try simp only [push_cast, Nat.reduceAdd])
        all_goals refine AOps_nil ?_
        all_goals
         refine thenK_normal (hK15 _ ?_)
         try clear hK15
         refine AW_seq_k (fun K16 hK16 => ?_)
         apply AW_cond
         case' hc => exact rfl
         case' hf =>
          intro hc17
          try (exfalso; (first | (cases hc17; done) | (simp at hc17; done) | (simp at hc17; omega)); done)
          all_goals (try simp only [decide_eq_true_eq, decide_eq_false_iff_not, Bool.not_eq_true', Bool.not_eq_false', Bool.not_eq_eq_eq_not, Bool.not_true, Bool.not_false] at hc17)
          all_goals
           refine AW_exit ?_
           repeat (first | refine thenK_exit ?_ | refine loopK_exit ?_ | refine blockK_other (by decide) ?_)
           refine blockK_same ?_
           refine thenK_normal (hK13 _ ?_)
           try clear hK13
           refine AW_seq_k (fun K18 hK18 => ?_)
           refine AW_region ?_
           all_goals refine AOps_cons rfl (AOp_move ?_)
           all_goals (refine AOps_cons rfl (AOp_assign ?_) <;> try simp only [push_cast, Nat.reduceAdd])
           all_goals refine AOps_nil ?_
           all_goals
            refine thenK_normal (hK18 _ ?_)
            try clear hK18
            refine AW_ret ?_
            repeat (first | refine thenK_ret ?_ | refine loopK_ret ?_ | refine blockK_ret ?_)
            have e : xs.take i = xs := List.take_of_length_le (by omega)
            rw [e]
            have hv : v = false := by assumption
            rw [hv]
            refine ⟨by first | exact .inl rfl | exact .inr rfl, _, rfl, (by first | exact outok_app 0 rfl (Nat.zero_le _) (by simp) | exact outok_self), by simp [push_cast], ?_⟩
            simp only [push_cast, Nat.reduceAdd]
            simp
         case' ht =>
          intro hc17
          try (exfalso; (first | (cases hc17; done) | (simp at hc17; done) | (simp at hc17; omega)); done)
          all_goals (try simp only [decide_eq_true_eq, decide_eq_false_iff_not, Bool.not_eq_true', Bool.not_eq_false', Bool.not_eq_eq_eq_not, Bool.not_true, Bool.not_false] at hc17)
          all_goals
           refine AW_skip ?_
           refine thenK_normal (hK16 _ ?_)
           try clear hK16
           refine AW_seq_k (fun K19 hK19 => ?_)
           refine AW_block ?_
           refine AW_seq_k (fun K20 hK20 => ?_)
           refine AW_region ?_
           all_goals (refine AOps_cons rfl (AOp_indexAddr_sl 27 _ _ _ _ _ rfl rfl sl25 sz27 (by decide) (by exact uni_encTs _) (by first | omega | (simp; omega)) (by first | omega | (simp [push_cast]; omega) | (simp [push_cast]; done)) ?_) <;> try simp only [push_cast, Nat.reduceAdd])
           all_goals (refine AOps_cons rfl (AOp_load_cptr _ _ rfl sz27 ag27 (by simp [push_cast]) ?_) <;> try simp only [push_cast, Nat.reduceAdd])
           all_goals (refine AOps_cons rfl (AOp_alloc _ zr27 (by simp [ofVal, AV.isCell, Value.oneCell']) ?_) <;> try simp only [push_cast, Nat.reduceAdd])
           all_goals (refine AOps_cons rfl (AOp_store _ _ _ _ _ rfl (by first | exact hget0 | exact hgetN _ rfl | assumption | exact hgetL (by assumption)) rfl rfl (by first | exact .inl rfl | exact .inr ⟨_, rfl⟩) (by simp [push_cast, AV.isCell]) sz27 (by simp [push_cast]) ?_) <;> try simp only [push_cast, Nat.reduceAdd])
           all_goals refine AOps_nil ?_
           all_goals
            refine thenK_normal (hK20 _ ?_)
            try clear hK20
            refine AW_region ?_
            all_goals refine AOps_cons rfl (AOp_move ?_)
            all_goals refine AOps_cons rfl (AOp_move ?_)
            all_goals refine AOps_cons rfl (AOp_move ?_)
            all_goals (try simp only [push_cast, Nat.reduceAdd])
            all_goals (refine AOps_cons rfl (AOp_load_ptr _ _ _ _ rfl (by first | exact hget0 | exact hgetN _ rfl | assumption | exact hgetL (by assumption)) sz27 ag27 (by simp [push_cast]) ?_) <;> try simp only [push_cast, Nat.reduceAdd])
            all_goals refine AOps_cons rfl (AOp_call _ _ _ rfl rfl ok45 ?_)
            all_goals (try simp only [push_cast, Nat.reduceAdd])
            all_goals have e := take_sumI (weightP l unit) xs i (by omega)
            all_goals have hmem : xs[i]'(by omega) ∈ xs := by simp
            all_goals have hbx := Term.arg_le (n := n) (v := v) hmem
            all_goals have hb1 := hbd i (by omega)
            all_goals have hb2 := hbd (i + 1) (by omega)
            all_goals refine (ih (xs[i]'(by omega)) hmem (by omega) _).mono ?_
            all_goals rintro r H' ⟨rfl, rfl⟩
            all_goals (try simp only [push_cast, Nat.reduceAdd])
            all_goals refine AOps_cons rfl (AOp_bin_int _ _ _ _ rfl rfl rfl ?_)
            all_goals (try simp only [push_cast, Nat.reduceAdd])
            all_goals (try rw [IntWalk.i64_in _ (by omega)])
            all_goals (try simp only [push_cast, Nat.reduceAdd])
            all_goals (refine AOps_cons rfl (AOp_assign ?_) <;> try simp only [push_cast, Nat.reduceAdd])
            all_goals refine AOps_nil ?_
            all_goals
             refine blockK_normal ?_
             refine thenK_normal (hK19 _ ?_)
             try clear hK19
             refine AW_region ?_
             all_goals refine AOps_cons rfl (AOp_bin_int _ _ _ _ rfl rfl rfl ?_)
             all_goals (try simp only [push_cast, Nat.reduceAdd])
             all_goals (try rw [IntWalk.i64_in _ (by omega)])
             all_goals (try simp only [push_cast, Nat.reduceAdd])
             all_goals (refine AOps_cons rfl (AOp_move ?_) <;> try simp only [push_cast, Nat.reduceAdd])
             all_goals refine AOps_nil ?_
             all_goals
              refine loopK_normal ?_
              exact ⟨i + 1, by omega, by (simp only [push_cast, Nat.reduceAdd]; refine weak_app 1 ?_ (by simp) (by simp [push_cast]); (repeat (first | exact SlotsOk.nil | refine SlotsOk.junk ?_ | refine SlotsOk.same (by first | (simp [push_cast]; done) | (simp [push_cast, Scoped, ScopedL, *]; done)) ?_ | refine SlotsOk.tok (by first | rfl | (simp; done)) (by first | (simp [push_cast]; done) | (simp [push_cast, Scoped, ScopedL, *]; done)) ?_ | refine SlotsOk.eq (by first | rfl | (congr 1; omega) | (simp; done) | (simp; omega)) (by first | (simp [push_cast]; done) | (simp [push_cast, Scoped, ScopedL, *]; done)) ?_))), by omega⟩
    case' ht =>
     intro hc11
     try (exfalso; (first | (cases hc11; done) | (simp at hc11; done) | (simp at hc11; omega)); done)
     all_goals (try simp only [decide_eq_true_eq, decide_eq_false_iff_not, Bool.not_eq_true', Bool.not_eq_false', Bool.not_eq_eq_eq_not, Bool.not_true, Bool.not_false] at hc11)
     all_goals
      refine AW_seq_k (fun K21 hK21 => ?_)
      refine AW_region ?_
      all_goals refine AOps_cons rfl (AOp_move ?_)
      all_goals (refine AOps_cons rfl (AOp_assign ?_) <;> try simp only [push_cast, Nat.reduceAdd])
      all_goals refine AOps_nil ?_
      all_goals
       refine thenK_normal (hK21 _ ?_)
       try clear hK21
       refine AW_ret ?_
       repeat (first | refine thenK_ret ?_ | refine loopK_ret ?_ | refine blockK_ret ?_)
       have hv : v = true := by assumption
       rw [hv]
       refine ⟨by first | exact .inl rfl | exact .inr rfl, _, rfl, (by first | exact outok_app 0 rfl (Nat.zero_le _) (by simp) | exact outok_self), by simp [push_cast], ?_⟩
       simp only [push_cast, Nat.reduceAdd]
       simp
end Ab
set_option maxRecDepth 10000
namespace Ab
open Go Go.Proofs
theorem amap_get {κ α : Type} (ak : κ → AV) (av : α → AV) (m : List (κ × α)) (i : Nat) (h : i < (amap ak av m).length) : (amap ak av m)[i] = (ak (m[i]'(by simpa [amap] using h)).1, av (m[i]'(by simpa [amap] using h)).2) := by simp [amap]
theorem amap_length {κ α : Type} (ak : κ → AV) (av : α → AV) (m : List (κ × α)) : (amap ak av m).length = m.length := by simp [amap]
theorem amap_eraseIdx {κ α : Type} (ak : κ → AV) (av : α → AV) (m : List (κ × α)) (i : Nat) : (amap ak av m).eraseIdx i = amap ak av (m.eraseIdx i) := by
  unfold amap
  induction m generalizing i with
  | nil => simp
  | cons a r ih => cases i <;> simp [ih]
theorem oscoped_cm (n ver : Nat) (m : List (List UInt8 × Int)) : OScoped n (.map ver (amap AV.str (AV.int .i64) m)) := oscoped_amap (by simp [Scoped]) (by simp [Scoped])
def encKV (p : List UInt8 × Int) : AV × AV := (.str p.1, .int .i64 p.2)
theorem oscoped_ci (n id ver : Nat) (m : List (List UInt8 × Int)) (last : Option (List UInt8 × Int)) : OScoped n (.iter id ver (amap AV.str (AV.int .i64) m) (last.map encKV)) ↔ id < n := by
  constructor
  · exact fun h => h.1
  · refine fun h => ⟨h, fun e he => ?_⟩
    rcases he with he | he
    · simp only [amap, List.mem_map] at he; obtain ⟨p, _, rfl⟩ := he; simp [Scoped]
    · cases last with
      | none => cases he
      | some p => simp only [Option.map_some, Option.some.injEq] at he; subst he; simp [encKV, Scoped]
attribute [local push_cast] encT encR scoped_encR strip stripL amap_get amap_length amap_eraseIdx oscoped_cm oscoped_ci
def coversP (s t : Term) : Bool := (countM (walkT t [])).all fun p => decide (p.2 ≤ (aget (countM (walkT s [])) p.1).getD 0)
def kboC (l : List Rank) (unit : Int) (s t : Term) (rest : Bool) : Bool :=
  if coversP s t = false then false
  else if weightP l unit s ≠ weightP l unit t ∨ s.var = true then decide (weightP l unit t < weightP l unit s)
  else if t.var = true then true
  else if s.name ≠ t.name ∨ s.args.length ≠ t.args.length then decide ((ofP l t.name).rank < (ofP l s.name).rank)
  else rest
def kboTs (l : List Rank) (unit : Int) : List Term → List Term → Bool
  | .mk n v xs :: r, t :: r' => if .mk n v xs = t then kboTs l unit r r' else kboC l unit (.mk n v xs) t (kboTs l unit xs t.args)
  | _, _ => false
def aboveP (l : List Rank) (unit : Int) (s t : Term) : Bool := kboC l unit s t (kboTs l unit s.args t.args)
theorem kboTs_cons (l : List Rank) (unit : Int) (x y : Term) (r r' : List Term) : kboTs l unit (x :: r) (y :: r') = if x = y then kboTs l unit r r' else aboveP l unit x y := by
  cases x with | mk n v xs => simp only [kboTs, aboveP, Term.args]
theorem kboTs_nil (l : List Rank) (unit : Int) (ys : List Term) : kboTs l unit [] ys = false := by cases ys <;> simp [kboTs]
theorem kboTs_drop (l : List Rank) (unit : Int) : ∀ (xs ys : List Term) (i : Nat), xs.take i = ys.take i → kboTs l unit xs ys = kboTs l unit (xs.drop i) (ys.drop i)
  | xs, ys, 0, _ => rfl
  | [], [], _ + 1, _ => rfl
  | [], _ :: _, _ + 1, h => by simp at h
  | _ :: _, [], _ + 1, h => by simp at h
  | x :: xs, y :: ys, i + 1, h => by
    simp only [List.take_succ_cons, List.cons.injEq] at h
    rw [kboTs_cons, if_pos h.1, List.drop_succ_cons, List.drop_succ_cons]; exact kboTs_drop l unit xs ys i h.2
set_option maxHeartbeats 1600000 in
theorem above_ac (l : List Rank) (unit : Int) (hs : SortedR l) (hr : SmallR l unit) (hlen : l.length < 1099511627776) (s : Term) : ∀ t : Term, s.bulk ≤ 1099511627775 → t.bulk ≤ 1099511627775 → ∀ H,
    ACall Try.prog 30 [.sl .none (encL encR l), .int .i64 unit, encT s, encT t] H (fun r H' => r = .bool (aboveP l unit s t) ∧ H' = H) := by
  refine Term.ind (p := fun s => ∀ t : Term, s.bulk ≤ 1099511627775 → t.bulk ≤ 1099511627775 → ∀ H,
    ACall Try.prog 30 [.sl .none (encL encR l), .int .i64 unit, encT s, encT t] H (fun r H' => r = .bool (aboveP l unit s t) ∧ H' = H)) (fun n v xs ih => ?_) s
  rintro ⟨m, u, ys⟩ hb hb2 H
  have hl1 := Term.len_le (n := n) (v := v) (xs := xs)
  have hl2 := Term.len_le (n := m) (v := u) (xs := ys)
  obtain ⟨S, hS⟩ : ∃ S, S = Term.mk n v xs := ⟨_, rfl⟩
  obtain ⟨T, hT⟩ : ∃ T, T = Term.mk m u ys := ⟨_, rfl⟩
  have eS : encT (.mk n v xs) = .agg [.str n, .bool v, .sl .none (encTs xs)] := rfl
  have eT : encT (.mk m u ys) = .agg [.str m, .bool u, .sl .none (encTs ys)] := rfl
  rw [eS, eT]
  have hea : aboveP l unit (.mk n v xs) (.mk m u ys) = kboC l unit (.mk n v xs) (.mk m u ys) (kboTs l unit xs ys) := rfl
  have hob : ∀ (ver1 ver2 : Nat) (lf : List (List UInt8 × Int)) (la : Option (List UInt8 × Int)) (o : AObj), o ∈ [AObj.cells [.str n, .bool v, .sl .none (encTs xs)], .cells [.str m, .bool u, .sl .none (encTs ys)], .cells [.str n, .bool v, .sl .none (encTs xs)], .map ver1 (amap AV.str (AV.int .i64) (countM (walkT (.mk n v xs) []))), .cells [.str m, .bool u, .sl .none (encTs ys)], .map ver2 (amap AV.str (AV.int .i64) (countM (walkT (.mk m u ys) []))), .iter (H.length + 5) ver2 (amap AV.str (AV.int .i64) lf) (la.map encKV)] → OScoped (H.length + 7) o := by
    intro ver1 ver2 lf la o ho
    simp only [List.mem_cons, List.not_mem_nil, or_false] at ho
    rcases ho with rfl | rfl | rfl | rfl | rfl | rfl | rfl <;> first | exact oscoped_cm _ _ _ | exact (oscoped_ci _ _ _ _ _).2 (by omega) | simp [OScoped, ScopedL, Scoped, scoped_encTs]
  refine ACall_intro (H.length) Try.func30 rfl ?_
  simp only [Try.ntmps30, List.length_cons, List.length_nil, List.replicate, List.cons_append, List.nil_append, Nat.reduceAdd, Nat.reduceSub, Nat.zero_add]
  refine AW_seq_k (fun K1 hK1 => ?_)
  refine AW_region ?_
  all_goals (refine AOps_cons rfl (AOp_box _ _ rfl rfl (by first | exact .inl rfl | exact .inr ⟨_, rfl⟩) (by simp [push_cast, AV.isCell]) ?_) <;> try simp only [push_cast, Nat.reduceAdd])
  all_goals (refine AOps_cons rfl (AOp_box _ _ rfl rfl (by first | exact .inl rfl | exact .inr ⟨_, rfl⟩) (by simp [push_cast, AV.isCell]) ?_) <;> try simp only [push_cast, Nat.reduceAdd])
  all_goals (refine AOps_cons rfl (AOp_assign ?_) <;> try simp only [push_cast, Nat.reduceAdd])
  all_goals refine AOps_nil ?_
  all_goals
   refine thenK_normal (hK1 _ ?_)
   try clear hK1
   refine AW_seq_k (fun K2 hK2 => ?_)
   refine AW_region ?_
   all_goals (refine AOps_cons rfl (AOp_load_ptr _ _ _ _ rfl (by first | exact hget0 | exact hgetN _ rfl | assumption | exact hgetL (by assumption)) sz27 ag27 (by simp [push_cast]) ?_) <;> try simp only [push_cast, Nat.reduceAdd])
   all_goals refine AOps_cons rfl (AOp_call _ _ _ rfl rfl ok55 ?_)
   all_goals (try simp only [push_cast, Nat.reduceAdd])
   all_goals refine (counts_ac (.mk n v xs) hb _).mono ?_
   all_goals rintro r H' ⟨rfl, ver1, rfl⟩
   all_goals simp only [encC, Term.name, Term.var, Term.args]
   all_goals (try simp only [push_cast, Nat.reduceAdd])
   all_goals (refine AOps_cons rfl (AOp_assign ?_) <;> try simp only [push_cast, Nat.reduceAdd])
   all_goals refine AOps_nil ?_
   all_goals
    refine thenK_normal (hK2 _ ?_)
    try clear hK2
    refine AW_seq_k (fun K3 hK3 => ?_)
    refine AW_seq_k (fun K4 hK4 => ?_)
    refine AW_region ?_
    all_goals (refine AOps_cons rfl (AOp_load_ptr _ _ _ _ rfl (by first | exact hget0 | exact hgetN _ rfl | assumption | exact hgetL (by assumption)) sz27 ag27 (by simp [push_cast]) ?_) <;> try simp only [push_cast, Nat.reduceAdd])
    all_goals refine AOps_cons rfl (AOp_call _ _ _ rfl rfl ok55 ?_)
    all_goals (try simp only [push_cast, Nat.reduceAdd])
    all_goals refine (counts_ac (.mk m u ys) hb2 _).mono ?_
    all_goals rintro r H' ⟨rfl, ver2, rfl⟩
    all_goals simp only [encC, Term.name, Term.var, Term.args]
    all_goals (try simp only [push_cast, Nat.reduceAdd])
    all_goals (refine AOps_cons rfl (AOp_range_map _ _ _ rfl (by first | exact hget0 | exact hgetN _ rfl | assumption | exact hgetL (by assumption)) un88 ?_) <;> try simp only [push_cast, Nat.reduceAdd])
    all_goals refine AOps_nil ?_
    all_goals
     refine thenK_normal (hK4 _ ?_)
     try clear hK4
     refine AW_block ?_
     refine AW_loopR (maskG 109 [0, 0, 4, 0, 1, 9]) (fun _ => []) (fun (q : List (List UInt8 × Int) × Option (List UInt8 × Int)) => H ++ [.cells [.str n, .bool v, .sl .none (encTs xs)], .cells [.str m, .bool u, .sl .none (encTs ys)], .cells [.str n, .bool v, .sl .none (encTs xs)], .map ver1 (amap AV.str (AV.int .i64) (countM (walkT (.mk n v xs) []))), .cells [.str m, .bool u, .sl .none (encTs ys)], .map ver2 (amap AV.str (AV.int .i64) (countM (walkT (.mk m u ys) []))), .iter (H.length + 5) ver2 (amap AV.str (AV.int .i64) q.1) (q.2.map encKV)]) (fun q => (∀ p, p ∈ countM (walkT (.mk m u ys) []) → p ∈ q.1 ∨ p.2 ≤ (aget (countM (walkT (.mk n v xs) [])) p.1).getD 0) ∧ (∀ p, p ∈ q.1 → p ∈ countM (walkT (.mk m u ys) []))) (fun q => q.1.length) (countM (walkT (.mk m u ys) []), none) ⟨fun p hp => .inl hp, fun p hp => hp⟩ (by simp only [push_cast, Nat.reduceAdd]; exact weak_app 7 (by (repeat (first | exact SlotsOk.nil | refine SlotsOk.junk ?_ | refine SlotsOk.same (by first | (simp [push_cast]; done) | (simp [push_cast, Scoped, ScopedL, *]; done)) ?_ | refine SlotsOk.tok (by first | rfl | (simp; done)) (by first | (simp [push_cast]; done) | (simp [push_cast, Scoped, ScopedL, *]; done)) ?_ | refine SlotsOk.eq (by first | rfl | (congr 1; omega) | (simp; done) | (simp; omega)) (by first | (simp [push_cast]; done) | (simp [push_cast, Scoped, ScopedL, *]; done)) ?_))) (by simp) (fun o ho => hob ver1 ver2 _ none o (by simpa using ho))) (fun q hi => ?_)
     obtain ⟨left, last⟩ := q
     obtain ⟨hi1, hi2⟩ := hi
     simp only at hi1 hi2
     (try simp only [push_cast, Nat.reduceAdd])
     refine AW_seq_k (fun K5 hK5 => ?_)
     refine AW_region ?_
     all_goals refine AOps_cons rfl ?_
     all_goals refine AOp_next_map _ _ _ _ _ _ rfl (by first | exact hget0 | exact hgetN _ rfl | assumption | exact hgetL (by assumption)) (by first | exact hget0 | exact hgetN _ rfl | assumption | exact hgetL (by assumption)) (fun hleft => ?_) (fun inx hinx => ?_)
     all_goals (try simp only [push_cast, Nat.reduceAdd])
     all_goals (refine AOps_cons rfl (AOp_extract _ _ rfl rfl ?_) <;> try simp only [push_cast, Nat.reduceAdd])
     all_goals refine AOps_nil ?_
     all_goals
      refine thenK_normal (hK5 _ ?_)
      try clear hK5
      refine AW_seq_k (fun K6 hK6 => ?_)
      apply AW_cond
      case' hc => exact rfl
      case' hf =>
       intro hc7
       try (exfalso; (first | (cases hc7; done) | (simp at hc7; done) | (simp at hc7; omega)); done)
       all_goals (try simp only [decide_eq_true_eq, decide_eq_false_iff_not, Bool.not_eq_true', Bool.not_eq_false', Bool.not_eq_eq_eq_not, Bool.not_true, Bool.not_false] at hc7)
       all_goals
        refine AW_exit ?_
        repeat (first | refine thenK_exit ?_ | refine loopK_exit ?_ | refine blockK_other (by decide) ?_)
        refine blockK_same ?_
        refine thenK_normal (hK3 _ ?_)
        try clear hK3
        refine AW_seq_k (fun K8 hK8 => ?_)
        have hl0 : left = [] := by simpa [amap] using hleft
        have hcov : coversP (.mk n v xs) (.mk m u ys) = true := by
          unfold coversP
          rw [List.all_eq_true]
          intro p hp
          rcases hi1 p hp with h | h
          · rw [hl0] at h; cases h
          · simpa using h
        all_goals
          apply AW_drawE [some 30, some 31, some 32, some 33, some 34, some 35, some 36, some 37, some 12, some 13] [([], _)] [none, none, none, none, none, none, none, none, none, none] 0 [(0, [], [0]), (1, [], [1]), (2, [], [6]), (3, [], [30, 0, 0]), (4, [], [0]), (5, [], [1]), (6, [], [7]), (7, [], [34, 0, 0]), (8, [], [33]), (9, [], [37])] [_, _, _, _, _, _, _, _, _, _]
          case' hm => exact dr
          case' hn => rfl
          case' hok => rfl
          case' hlen => rfl
          case' hd => rfl
          case' h0 => rfl
          case' hstep =>
           simp only [DAllG, keepG, List.map_cons, List.map_nil, putD, stg, beqB, List.set_cons_zero, List.set_cons_succ, List.getD_cons_zero, List.getD_cons_succ, Option.isSome_some, Option.isSome_none]
           apply And.intro
           · apply DOne_do
             case' ho => rfl
             case' hw => rfl
             refine AOp_move ?_
             all_goals (try simp only [push_cast, Nat.reduceAdd])
             all_goals (constructor <;> first | rfl | trivial)
           apply And.intro
           · apply DOne_do
             case' ho => rfl
             case' hw => rfl
             refine AOp_move ?_
             all_goals (try simp only [push_cast, Nat.reduceAdd])
             all_goals (constructor <;> first | rfl | trivial)
           apply And.intro
           · apply DOne_do
             case' ho => rfl
             case' hw => rfl
             refine AOp_load_ptr _ _ _ _ rfl (by first | exact hget0 | exact hgetN _ rfl | assumption | exact hgetL (by assumption)) sz27 ag27 (by simp [push_cast]) ?_
             all_goals (try simp only [push_cast, Nat.reduceAdd])
             all_goals (constructor <;> first | rfl | trivial)
           apply And.intro
           · apply DOne_do
             case' ho => rfl
             case' hw => rfl
             refine AOp_call _ _ _ rfl rfl ok45 ?_
             (try simp only [push_cast, Nat.reduceAdd])
             refine (weight_ac l unit hs hr hlen (.mk n v xs) hb _).mono ?_
             rintro r H' ⟨rfl, rfl⟩
             all_goals (try simp only [push_cast, Nat.reduceAdd])
             all_goals (constructor <;> first | rfl | trivial)
           apply And.intro
           · apply DOne_do
             case' ho => rfl
             case' hw => rfl
             refine AOp_move ?_
             all_goals (try simp only [push_cast, Nat.reduceAdd])
             all_goals (constructor <;> first | rfl | trivial)
           apply And.intro
           · apply DOne_do
             case' ho => rfl
             case' hw => rfl
             refine AOp_move ?_
             all_goals (try simp only [push_cast, Nat.reduceAdd])
             all_goals (constructor <;> first | rfl | trivial)
           apply And.intro
           · apply DOne_do
             case' ho => rfl
             case' hw => rfl
             refine AOp_load_ptr _ _ _ _ rfl (by first | exact hget0 | exact hgetN _ rfl | assumption | exact hgetL (by assumption)) sz27 ag27 (by simp [push_cast]) ?_
             all_goals (try simp only [push_cast, Nat.reduceAdd])
             all_goals (constructor <;> first | rfl | trivial)
           apply And.intro
           · apply DOne_do
             case' ho => rfl
             case' hw => rfl
             refine AOp_call _ _ _ rfl rfl ok45 ?_
             (try simp only [push_cast, Nat.reduceAdd])
             refine (weight_ac l unit hs hr hlen (.mk m u ys) hb2 _).mono ?_
             rintro r H' ⟨rfl, rfl⟩
             all_goals (try simp only [push_cast, Nat.reduceAdd])
             all_goals (constructor <;> first | rfl | trivial)
           apply And.intro
           · apply DOne_do
             case' ho => rfl
             case' hw => rfl
             refine AOp_assign ?_
             all_goals (try simp only [push_cast, Nat.reduceAdd])
             all_goals (constructor <;> first | rfl | trivial)
           apply And.intro
           · apply DOne_do
             case' ho => rfl
             case' hw => rfl
             refine AOp_assign ?_
             all_goals (try simp only [push_cast, Nat.reduceAdd])
             all_goals (constructor <;> first | rfl | trivial)
           exact trivial
          case' hQ => skip
          (try simp only [push_cast, putD, stg, beqB, List.replicate, Nat.reduceAdd, List.getD_cons_zero, List.getD_cons_succ])
        all_goals
         refine thenK_normal (hK8 _ ?_)
         try clear hK8
         refine AW_seq_k (fun K9 hK9 => ?_)
         refine AW_seq_k (fun K10 hK10 => ?_)
         refine AW_region ?_
         all_goals refine AOps_cons rfl (AOp_move ?_)
         all_goals refine AOps_cons rfl (AOp_move ?_)
         all_goals (try simp only [push_cast, Nat.reduceAdd])
         all_goals (refine AOps_cons rfl (AOp_bin_int _ _ _ _ rfl rfl rfl ?_) <;> try simp only [push_cast, Nat.reduceAdd])
         all_goals refine AOps_cons rfl (AOp_move ?_)
         all_goals (try simp only [push_cast, Nat.reduceAdd])
         all_goals (try refine AOps_split 41 _ rfl (fun hg11 => ?_) (fun hg11 => ?_))
         all_goals (try (exfalso; (first | (cases hg11; done) | (simp at hg11; done) | (simp at hg11; omega)); done))
         all_goals (try simp only [decide_eq_true_eq, decide_eq_false_iff_not, Bool.not_eq_true', Bool.not_eq_false', Bool.not_eq_eq_eq_not, Bool.not_true, Bool.not_false] at hg11)
         all_goals first
          | refine AOps_skip rfl ?_
          | (refine AOps_cons rfl ?_
             refine AOp_fieldAddr_ptr _ _ _ _ rfl fd27_1 (by decide) ?_)
         all_goals (try simp only [push_cast, Nat.reduceAdd])
         all_goals first
          | refine AOps_skip rfl ?_
          | (refine AOps_cons rfl ?_
             refine AOp_load1_ptr _ _ _ _ _ rfl (by first | exact hget0 | exact hgetN _ rfl | assumption | exact hgetL (by assumption)) sz4 ag4 (by decide) (by simp [push_cast]) rfl ?_)
         all_goals (try simp only [push_cast, Nat.reduceAdd])
         all_goals (refine AOps_cons rfl (AOp_pick _ rfl ?_) <;> try simp only [push_cast, Nat.reduceAdd])
         all_goals refine AOps_nil ?_
         all_goals
          refine thenK_normal (hK10 _ ?_)
          try clear hK10
          apply AW_cond
          case' hc => exact rfl
          case' hf =>
           intro hc12
           try (exfalso; (first | (cases hc12; done) | (simp at hc12; done) | (simp at hc12; omega)); done)
           all_goals (try simp only [decide_eq_true_eq, decide_eq_false_iff_not, Bool.not_eq_true', Bool.not_eq_false', Bool.not_eq_eq_eq_not, Bool.not_true, Bool.not_false] at hc12)
           all_goals
            refine AW_skip ?_
            refine thenK_normal (hK9 _ ?_)
            try clear hK9
            refine AW_seq_k (fun K13 hK13 => ?_)
            refine AW_block ?_
            refine AW_seq_k (fun K14 hK14 => ?_)
            refine AW_region ?_
            all_goals (refine AOps_cons rfl (AOp_fieldAddr_ptr _ _ _ _ rfl fd27_1 (by decide) ?_) <;> try simp only [push_cast, Nat.reduceAdd])
            all_goals (refine AOps_cons rfl (AOp_load1_ptr _ _ _ _ _ rfl (by first | exact hget0 | exact hgetN _ rfl | assumption | exact hgetL (by assumption)) sz4 ag4 (by decide) (by simp [push_cast]) rfl ?_) <;> try simp only [push_cast, Nat.reduceAdd])
            all_goals (refine AOps_cons rfl (AOp_assign ?_) <;> try simp only [push_cast, Nat.reduceAdd])
            all_goals refine AOps_nil ?_
            all_goals
             refine thenK_normal (hK14 _ ?_)
             try clear hK14
             apply AW_cond
             case' hc => exact rfl
             case' hf =>
              intro hc15
              try (exfalso; (first | (cases hc15; done) | (simp at hc15; done) | (simp at hc15; omega)); done)
              all_goals (try simp only [decide_eq_true_eq, decide_eq_false_iff_not, Bool.not_eq_true', Bool.not_eq_false', Bool.not_eq_eq_eq_not, Bool.not_true, Bool.not_false] at hc15)
              all_goals
               refine AW_seq_k (fun K16 hK16 => ?_)
               refine AW_region ?_
               all_goals (refine AOps_cons rfl (AOp_fieldAddr_ptr _ _ _ _ rfl fd27_0 (by decide) ?_) <;> try simp only [push_cast, Nat.reduceAdd])
               all_goals (refine AOps_cons rfl (AOp_load1_ptr _ _ _ _ _ rfl (by first | exact hget0 | exact hgetN _ rfl | assumption | exact hgetL (by assumption)) sz9 ag9 (by decide) (by simp [push_cast]) rfl ?_) <;> try simp only [push_cast, Nat.reduceAdd])
               all_goals (refine AOps_cons rfl (AOp_fieldAddr_ptr _ _ _ _ rfl fd27_0 (by decide) ?_) <;> try simp only [push_cast, Nat.reduceAdd])
               all_goals (refine AOps_cons rfl (AOp_load1_ptr _ _ _ _ _ rfl (by first | exact hget0 | exact hgetN _ rfl | assumption | exact hgetL (by assumption)) sz9 ag9 (by decide) (by simp [push_cast]) rfl ?_) <;> try simp only [push_cast, Nat.reduceAdd])
               all_goals (refine AOps_cons rfl (AOp_bin_str _ _ _ rfl rfl rfl ?_) <;> try simp only [push_cast, Nat.reduceAdd])
               all_goals refine AOps_cons rfl (AOp_move ?_)
               all_goals (try simp only [push_cast, Nat.reduceAdd])
               all_goals (try refine AOps_split 57 _ rfl (fun hg17 => ?_) (fun hg17 => ?_))
               all_goals (try (exfalso; (first | (cases hg17; done) | (simp at hg17; done) | (simp at hg17; omega)); done))
               all_goals (try simp only [decide_eq_true_eq, decide_eq_false_iff_not, Bool.not_eq_true', Bool.not_eq_false', Bool.not_eq_eq_eq_not, Bool.not_true, Bool.not_false] at hg17)
               all_goals first
                | refine AOps_skip rfl ?_
                | (refine AOps_cons rfl ?_
                   refine AOp_fieldAddr_ptr _ _ _ _ rfl fd27_2 (by decide) ?_)
               all_goals (try simp only [push_cast, Nat.reduceAdd])
               all_goals first
                | refine AOps_skip rfl ?_
                | (refine AOps_cons rfl ?_
                   refine AOp_load1_ptr _ _ _ _ _ rfl (by first | exact hget0 | exact hgetN _ rfl | assumption | exact hgetL (by assumption)) sz25 ag25 (by decide) (by simp [push_cast]) rfl ?_)
               all_goals (try simp only [push_cast, Nat.reduceAdd])
               all_goals first
                | refine AOps_skip rfl ?_
                | (refine AOps_cons rfl ?_
                   refine AOp_len_sl _ _ _ rfl sl25 ?_)
               all_goals (try simp only [push_cast, Nat.reduceAdd])
               all_goals first
                | refine AOps_skip rfl ?_
                | (refine AOps_cons rfl ?_
                   refine AOp_fieldAddr_ptr _ _ _ _ rfl fd27_2 (by decide) ?_)
               all_goals (try simp only [push_cast, Nat.reduceAdd])
               all_goals first
                | refine AOps_skip rfl ?_
                | (refine AOps_cons rfl ?_
                   refine AOp_load1_ptr _ _ _ _ _ rfl (by first | exact hget0 | exact hgetN _ rfl | assumption | exact hgetL (by assumption)) sz25 ag25 (by decide) (by simp [push_cast]) rfl ?_)
               all_goals (try simp only [push_cast, Nat.reduceAdd])
               all_goals first
                | refine AOps_skip rfl ?_
                | (refine AOps_cons rfl ?_
                   refine AOp_len_sl _ _ _ rfl sl25 ?_)
               all_goals (try simp only [push_cast, Nat.reduceAdd])
               all_goals first
                | refine AOps_skip rfl ?_
                | (refine AOps_cons rfl ?_
                   refine AOp_bin_int _ _ _ _ rfl rfl rfl ?_)
               all_goals (try simp only [push_cast, Nat.reduceAdd])
               all_goals refine AOps_cons rfl (AOp_pick _ rfl ?_)
               all_goals (refine AOps_cons rfl (AOp_assign ?_) <;> try simp only [push_cast, Nat.reduceAdd])
               all_goals refine AOps_nil ?_
               all_goals
                refine thenK_normal (hK16 _ ?_)
                try clear hK16
                apply AW_cond
                case' hc => exact rfl
                case' hf =>
                 intro hc18
                 try (exfalso; (first | (cases hc18; done) | (simp at hc18; done) | (simp at hc18; omega)); done)
                 all_goals (try simp only [decide_eq_true_eq, decide_eq_false_iff_not, Bool.not_eq_true', Bool.not_eq_false', Bool.not_eq_eq_eq_not, Bool.not_true, Bool.not_false] at hc18)
                 all_goals
                  refine AW_skip ?_
                  refine blockK_normal ?_
                  refine thenK_normal (hK13 _ ?_)
                  try clear hK13
                  refine AW_seq_k (fun K19 hK19 => ?_)
                  refine AW_seq_k (fun K20 hK20 => ?_)
                  refine AW_region ?_
                  all_goals (refine AOps_cons rfl (AOp_fieldAddr_ptr _ _ _ _ rfl fd27_2 (by decide) ?_) <;> try simp only [push_cast, Nat.reduceAdd])
                  all_goals (refine AOps_cons rfl (AOp_load1_ptr _ _ _ _ _ rfl (by first | exact hget0 | exact hgetN _ rfl | assumption | exact hgetL (by assumption)) sz25 ag25 (by decide) (by simp [push_cast]) rfl ?_) <;> try simp only [push_cast, Nat.reduceAdd])
                  all_goals (refine AOps_cons rfl (AOp_len_sl _ _ _ rfl sl25 ?_) <;> try simp only [push_cast, Nat.reduceAdd])
                  all_goals (refine AOps_cons rfl (AOp_move ?_) <;> try simp only [push_cast, Nat.reduceAdd])
                  all_goals refine AOps_nil ?_
                  all_goals
                   refine thenK_normal (hK20 _ ?_)
                   try clear hK20
                   refine AW_block ?_
                   have hnm : n = m := by assumption
                   have hll : xs.length = ys.length := by omega
                   refine AW_loopR (maskG 109 [0, 0, 4, 0, 71, 0]) (fun (i : Nat) => [(80, .int .i64 i)]) (fun _ => _) (fun i => i ≤ xs.length ∧ xs.take i = ys.take i) (fun i => xs.length - i) 0 ⟨Nat.zero_le _, by simp⟩ (by simp only [push_cast, Nat.reduceAdd]; exact weak_app 7 (by (repeat (first | exact SlotsOk.nil | refine SlotsOk.junk ?_ | refine SlotsOk.same (by first | (simp [push_cast]; done) | (simp [push_cast, Scoped, ScopedL, *]; done)) ?_ | refine SlotsOk.tok (by first | rfl | (simp; done)) (by first | (simp [push_cast]; done) | (simp [push_cast, Scoped, ScopedL, *]; done)) ?_ | refine SlotsOk.eq (by first | rfl | (congr 1; omega) | (simp; done) | (simp; omega)) (by first | (simp [push_cast]; done) | (simp [push_cast, Scoped, ScopedL, *]; done)) ?_))) (by simp) (fun o ho => hob ver1 ver2 _ _ o (by simpa using ho))) (fun i hi => ?_)
                   (try simp only [push_cast, Nat.reduceAdd])
                   refine AW_seq_k (fun K21 hK21 => ?_)
                   refine AW_region ?_
                   all_goals (refine AOps_cons rfl (AOp_bin_int _ _ _ _ rfl rfl rfl ?_) <;> try simp only [push_cast, Nat.reduceAdd])
                   all_goals refine AOps_nil ?_
                   all_goals
                    refine thenK_normal (hK21 _ ?_)
                    try clear hK21
                    refine AW_seq_k (fun K22 hK22 => ?_)
                    apply AW_cond
                    case' hc => exact rfl
                    case' hf =>
                     intro hc23
                     try (exfalso; (first | (cases hc23; done) | (simp at hc23; done) | (simp at hc23; omega)); done)
                     all_goals (try simp only [decide_eq_true_eq, decide_eq_false_iff_not, Bool.not_eq_true', Bool.not_eq_false', Bool.not_eq_eq_eq_not, Bool.not_true, Bool.not_false] at hc23)
                     all_goals
                      refine AW_exit ?_
                      repeat (first | refine thenK_exit ?_ | refine loopK_exit ?_ | refine blockK_other (by decide) ?_)
                      refine blockK_same ?_
                      refine thenK_normal (hK19 _ ?_)
                      try clear hK19
                      refine AW_seq_k (fun K24 hK24 => ?_)
                      refine AW_region ?_
                      all_goals (refine AOps_cons rfl (AOp_assign ?_) <;> try simp only [push_cast, Nat.reduceAdd])
                      all_goals refine AOps_nil ?_
                      all_goals
                       refine thenK_normal (hK24 _ ?_)
                       try clear hK24
                       refine AW_ret ?_
                       repeat (first | refine thenK_ret ?_ | refine loopK_ret ?_ | refine blockK_ret ?_)
                       refine ⟨by first | exact .inl rfl | exact .inr rfl, _, rfl, (by first | exact outok_app 0 rfl (Nat.zero_le _) (by simp) | exact outok_self), by simp [push_cast], ?_⟩
                       simp only [push_cast, Nat.reduceAdd]
                       rw [hea]
                       first
                         | (have hcf : coversP (.mk n v xs) (.mk m u ys) = false := (by
                              have hx : inx < left.length := (by simpa [amap] using hinx)
                              unfold coversP
                              rw [← Bool.not_eq_true, List.all_eq_true]
                              intro hall
                              have h1 := hall left[inx] (hi2 _ (by simp))
                              simp at h1
                              omega)
                            simp [kboC, hcf]; (try rfl); done)
                         | (have hw : ¬ weightP l unit (.mk n v xs) = weightP l unit (.mk m u ys) := (by assumption); simp [kboC, hcov, hw]; (try rfl); done)
                         | (have hw : weightP l unit (.mk n v xs) = weightP l unit (.mk m u ys) := (by assumption); have hv : v = true := (by assumption); subst hv; simp [kboC, hcov, hw, Term.var]; (try rfl); done)
                         | (have hw : weightP l unit (.mk n v xs) = weightP l unit (.mk m u ys) := (by assumption); have hv : v = false := (by assumption); have hu : u = true := (by assumption); subst hv; subst hu; simp [kboC, hcov, hw, Term.var]; (try rfl); done)
                         | (have hw : weightP l unit (.mk n v xs) = weightP l unit (.mk m u ys) := (by assumption); have hv : v = false := (by assumption); have hu : u = false := (by assumption); subst hv; subst hu; have hn : ¬ n = m := (by assumption); simp [kboC, hcov, hw, hn, Term.var, Term.name]; (try rfl); done)
                         | (have hw : weightP l unit (.mk n v xs) = weightP l unit (.mk m u ys) := (by assumption); have hv : v = false := (by assumption); have hu : u = false := (by assumption); subst hv; subst hu; have hn : n = m := (by assumption); subst hn; have hlq : ¬ xs.length = ys.length := (by omega); simp [kboC, hcov, hw, hlq, Term.var, Term.name, Term.args]; (try rfl); done)
                         | (have hw : weightP l unit (.mk n v xs) = weightP l unit (.mk m u ys) := (by assumption); have hv : v = false := (by assumption); have hu : u = false := (by assumption); subst hv; subst hu
                            have hq : kboTs l unit xs ys = aboveP l unit (xs[i]'(by omega)) (ys[i]'(by omega)) := (by rw [kboTs_drop l unit xs ys i hi.2, List.drop_eq_getElem_cons (show i < xs.length by omega), List.drop_eq_getElem_cons (show i < ys.length by omega), kboTs_cons, if_neg (by assumption)])
                            subst hnm; simp [kboC, hcov, hw, hll, hq, Term.var, Term.name, Term.args]; (try rfl); done)
                         | (have hw : weightP l unit (.mk n v xs) = weightP l unit (.mk m u ys) := (by assumption); have hv : v = false := (by assumption); have hu : u = false := (by assumption); subst hv; subst hu
                            have hq : kboTs l unit xs ys = false := (by rw [kboTs_drop l unit xs ys i hi.2, List.drop_eq_nil_of_le (show xs.length ≤ i by omega)]; exact kboTs_nil _ _ _)
                            subst hnm; simp [kboC, hcov, hw, hll, hq, Term.var, Term.name, Term.args]; (try rfl); done)
                         | trace_state
                    case' ht =>
                     intro hc23
                     try (exfalso; (first | (cases hc23; done) | (simp at hc23; done) | (simp at hc23; omega)); done)
                     all_goals (try simp only [decide_eq_true_eq, decide_eq_false_iff_not, Bool.not_eq_true', Bool.not_eq_false', Bool.not_eq_eq_eq_not, Bool.not_true, Bool.not_false] at hc23)
                     all_goals
                      refine AW_skip ?_
                      refine thenK_normal (hK22 _ ?_)
                      try clear hK22
                      refine AW_seq_k (fun K25 hK25 => ?_)
                      refine AW_block ?_
                      refine AW_seq_k (fun K26 hK26 => ?_)
                      refine AW_region ?_
                      all_goals refine AOps_cons rfl (AOp_move ?_)
                      all_goals (refine AOps_cons rfl (AOp_assign ?_) <;> try simp only [push_cast, Nat.reduceAdd])
                      all_goals refine AOps_nil ?_
                      all_goals
                       refine thenK_normal (hK26 _ ?_)
                       try clear hK26
                       refine AW_seq_k (fun K27 hK27 => ?_)
                       apply AW_drawE [some 83, some 84, some 85, some 86, some 87, some 88, some 89, some 90, some 91, some 92, some 93, some 94] [([], _)] [none, none, none, none, none, none, none, none, none, none, none, none] 0 [(0, [], [6]), (1, [], [83]), (2, [], [14]), (3, [], [84, 0]), (4, [], [86]), (5, [], [7]), (6, [], [88]), (7, [], [14]), (8, [], [89, 0]), (9, [], [91]), (10, [], [87, 4]), (11, [], [93])] [_, _, _, _, _, _, _, _, _, _, _, _]
                       case' hm => exact dr
                       case' hn => rfl
                       case' hok => rfl
                       case' hlen => rfl
                       case' hd => rfl
                       case' h0 => rfl
                       case' hstep =>
                        simp only [DAllG, keepG, List.map_cons, List.map_nil, putD, stg, beqB, List.set_cons_zero, List.set_cons_succ, List.getD_cons_zero, List.getD_cons_succ, Option.isSome_some, Option.isSome_none]
                        apply And.intro
                        · apply DOne_do
                          case' ho => rfl
                          case' hw => rfl
                          refine AOp_fieldAddr_ptr _ _ _ _ rfl fd27_2 (by decide) ?_
                          all_goals (try simp only [push_cast, Nat.reduceAdd])
                          all_goals (constructor <;> first | rfl | trivial)
                        apply And.intro
                        · apply DOne_do
                          case' ho => rfl
                          case' hw => rfl
                          refine AOp_load1_ptr _ _ _ _ _ rfl (by first | exact hget0 | exact hgetN _ rfl | assumption | exact hgetL (by assumption)) sz25 ag25 (by decide) (by simp [push_cast]) rfl ?_
                          all_goals (try simp only [push_cast, Nat.reduceAdd])
                          all_goals (constructor <;> first | rfl | trivial)
                        apply And.intro
                        · apply DOne_do
                          case' ho => rfl
                          case' hw => rfl
                          refine AOp_move ?_
                          all_goals (try simp only [push_cast, Nat.reduceAdd])
                          all_goals (constructor <;> first | rfl | trivial)
                        apply And.intro
                        · apply DOne_do
                          case' ho => rfl
                          case' hw => rfl
                          refine AOp_indexAddr_sl 27 _ _ _ _ _ rfl rfl sl25 sz27 (by decide) (by exact uni_encTs _) (by first | omega | (simp; omega)) (by first | omega | (simp [push_cast]; omega) | (simp [push_cast]; done)) ?_
                          all_goals (try simp only [push_cast, Nat.reduceAdd])
                          all_goals (constructor <;> first | rfl | trivial)
                        apply And.intro
                        · apply DOne_do
                          case' ho => rfl
                          case' hw => rfl
                          refine AOp_load_cptr _ _ rfl sz27 ag27 (by simp [push_cast]) ?_
                          all_goals (try simp only [push_cast, Nat.reduceAdd])
                          all_goals (constructor <;> first | rfl | trivial)
                        apply And.intro
                        · apply DOne_do
                          case' ho => rfl
                          case' hw => rfl
                          refine AOp_fieldAddr_ptr _ _ _ _ rfl fd27_2 (by decide) ?_
                          all_goals (try simp only [push_cast, Nat.reduceAdd])
                          all_goals (constructor <;> first | rfl | trivial)
                        apply And.intro
                        · apply DOne_do
                          case' ho => rfl
                          case' hw => rfl
                          refine AOp_load1_ptr _ _ _ _ _ rfl (by first | exact hget0 | exact hgetN _ rfl | assumption | exact hgetL (by assumption)) sz25 ag25 (by decide) (by simp [push_cast]) rfl ?_
                          all_goals (try simp only [push_cast, Nat.reduceAdd])
                          all_goals (constructor <;> first | rfl | trivial)
                        apply And.intro
                        · apply DOne_do
                          case' ho => rfl
                          case' hw => rfl
                          refine AOp_move ?_
                          all_goals (try simp only [push_cast, Nat.reduceAdd])
                          all_goals (constructor <;> first | rfl | trivial)
                        apply And.intro
                        · apply DOne_do
                          case' ho => rfl
                          case' hw => rfl
                          refine AOp_indexAddr_sl 27 _ _ _ _ _ rfl rfl sl25 sz27 (by decide) (by exact uni_encTs _) (by first | omega | (simp; omega)) (by first | omega | (simp [push_cast]; omega) | (simp [push_cast]; done)) ?_
                          all_goals (try simp only [push_cast, Nat.reduceAdd])
                          all_goals (constructor <;> first | rfl | trivial)
                        apply And.intro
                        · apply DOne_do
                          case' ho => rfl
                          case' hw => rfl
                          refine AOp_load_cptr _ _ rfl sz27 ag27 (by simp [push_cast]) ?_
                          all_goals (try simp only [push_cast, Nat.reduceAdd])
                          all_goals (constructor <;> first | rfl | trivial)
                        apply And.intro
                        · apply DOne_do
                          case' ho => rfl
                          case' hw => rfl
                          refine AOp_call _ _ _ rfl rfl ok56 ?_
                          (try simp only [push_cast, Nat.reduceAdd])
                          have b1 := Term.arg_le (n := n) (v := v) (show xs[i]'(by omega) ∈ xs by simp)
                          have b2 := Term.arg_le (n := m) (v := u) (show ys[i]'(by omega) ∈ ys by simp)
                          refine (equal_ac (xs[i]'(by omega)) (ys[i]'(by omega)) (by omega) (by omega) _).mono ?_
                          rintro r H' ⟨rfl, rfl⟩
                          all_goals (try simp only [push_cast, Nat.reduceAdd])
                          all_goals (constructor <;> first | rfl | trivial)
                        apply And.intro
                        · apply DOne_do
                          case' ho => rfl
                          case' hw => rfl
                          refine AOp_not _ rfl ?_
                          all_goals (try simp only [push_cast, Nat.reduceAdd])
                          all_goals (constructor <;> first | rfl | trivial)
                        exact trivial
                       case' hQ => skip
                       (try simp only [push_cast, putD, stg, beqB, List.replicate, Nat.reduceAdd, List.getD_cons_zero, List.getD_cons_succ])
                       all_goals
                        refine thenK_normal (hK27 _ ?_)
                        try clear hK27
                        apply AW_cond
                        case' hc => exact rfl
                        case' hf =>
                         intro hc28
                         try (exfalso; (first | (cases hc28; done) | (simp at hc28; done) | (simp at hc28; omega)); done)
                         all_goals (try simp only [decide_eq_true_eq, decide_eq_false_iff_not, Bool.not_eq_true', Bool.not_eq_false', Bool.not_eq_eq_eq_not, Bool.not_true, Bool.not_false] at hc28)
                         all_goals
                          refine AW_skip ?_
                          refine blockK_normal ?_
                          refine thenK_normal (hK25 _ ?_)
                          try clear hK25
                          refine AW_region ?_
                          all_goals refine AOps_cons rfl (AOp_bin_int _ _ _ _ rfl rfl rfl ?_)
                          all_goals (try simp only [push_cast, Nat.reduceAdd])
                          all_goals (try rw [IntWalk.i64_in _ (by omega)])
                          all_goals (try simp only [push_cast, Nat.reduceAdd])
                          all_goals (refine AOps_cons rfl (AOp_move ?_) <;> try simp only [push_cast, Nat.reduceAdd])
                          all_goals refine AOps_nil ?_
                          all_goals
                           refine loopK_normal ?_
                           refine ⟨i + 1, ⟨by omega, ?_⟩, by simp only [push_cast, Nat.reduceAdd]; exact weak_app 7 (by (repeat (first | exact SlotsOk.nil | refine SlotsOk.junk ?_ | refine SlotsOk.same (by first | (simp [push_cast]; done) | (simp [push_cast, Scoped, ScopedL, *]; done)) ?_ | refine SlotsOk.tok (by first | rfl | (simp; done)) (by first | (simp [push_cast]; done) | (simp [push_cast, Scoped, ScopedL, *]; done)) ?_ | refine SlotsOk.eq (by first | rfl | (congr 1; omega) | (simp; done) | (simp; omega)) (by first | (simp [push_cast]; done) | (simp [push_cast, Scoped, ScopedL, *]; done)) ?_))) (by simp) (fun o ho => hob ver1 ver2 _ _ o (by simpa using ho)), by omega⟩
                           have he : xs[i]'(by omega) = ys[i]'(by omega) := by assumption
                           rw [List.take_succ_eq_append_getElem (by omega), List.take_succ_eq_append_getElem (by omega), hi.2, he]
                        case' ht =>
                         intro hc28
                         try (exfalso; (first | (cases hc28; done) | (simp at hc28; done) | (simp at hc28; omega)); done)
                         all_goals (try simp only [decide_eq_true_eq, decide_eq_false_iff_not, Bool.not_eq_true', Bool.not_eq_false', Bool.not_eq_eq_eq_not, Bool.not_true, Bool.not_false] at hc28)
                         all_goals
                          refine AW_seq_k (fun K29 hK29 => ?_)
                          apply AW_drawE [some 95, some 96, some 97, some 98, some 99, some 100, some 101, some 102, some 103, some 104, some 105, some 106, some 107, some 8] [([], _)] [none, none, none, none, none, none, none, none, none, none, none, none, none, none] 0 [(0, [], [0]), (1, [], [1]), (2, [], [6]), (3, [], [97]), (4, [], [14]), (5, [], [98, 0]), (6, [], [100]), (7, [], [7]), (8, [], [102]), (9, [], [14]), (10, [], [103, 0]), (11, [], [105]), (12, [], [95, 0, 4, 4]), (13, [], [107])] [_, _, _, _, _, _, _, _, _, _, _, _, _, _]
                          case' hm => exact dr
                          case' hn => rfl
                          case' hok => rfl
                          case' hlen => rfl
                          case' hd => rfl
                          case' h0 => rfl
                          case' hstep =>
                           simp only [DAllG, keepG, List.map_cons, List.map_nil, putD, stg, beqB, List.set_cons_zero, List.set_cons_succ, List.getD_cons_zero, List.getD_cons_succ, Option.isSome_some, Option.isSome_none]
                           apply And.intro
                           · apply DOne_do
                             case' ho => rfl
                             case' hw => rfl
                             refine AOp_move ?_
                             all_goals (try simp only [push_cast, Nat.reduceAdd])
                             all_goals (constructor <;> first | rfl | trivial)
                           apply And.intro
                           · apply DOne_do
                             case' ho => rfl
                             case' hw => rfl
                             refine AOp_move ?_
                             all_goals (try simp only [push_cast, Nat.reduceAdd])
                             all_goals (constructor <;> first | rfl | trivial)
                           apply And.intro
                           · apply DOne_do
                             case' ho => rfl
                             case' hw => rfl
                             refine AOp_fieldAddr_ptr _ _ _ _ rfl fd27_2 (by decide) ?_
                             all_goals (try simp only [push_cast, Nat.reduceAdd])
                             all_goals (constructor <;> first | rfl | trivial)
                           apply And.intro
                           · apply DOne_do
                             case' ho => rfl
                             case' hw => rfl
                             refine AOp_load1_ptr _ _ _ _ _ rfl (by first | exact hget0 | exact hgetN _ rfl | assumption | exact hgetL (by assumption)) sz25 ag25 (by decide) (by simp [push_cast]) rfl ?_
                             all_goals (try simp only [push_cast, Nat.reduceAdd])
                             all_goals (constructor <;> first | rfl | trivial)
                           apply And.intro
                           · apply DOne_do
                             case' ho => rfl
                             case' hw => rfl
                             refine AOp_move ?_
                             all_goals (try simp only [push_cast, Nat.reduceAdd])
                             all_goals (constructor <;> first | rfl | trivial)
                           apply And.intro
                           · apply DOne_do
                             case' ho => rfl
                             case' hw => rfl
                             refine AOp_indexAddr_sl 27 _ _ _ _ _ rfl rfl sl25 sz27 (by decide) (by exact uni_encTs _) (by first | omega | (simp; omega)) (by first | omega | (simp [push_cast]; omega) | (simp [push_cast]; done)) ?_
                             all_goals (try simp only [push_cast, Nat.reduceAdd])
                             all_goals (constructor <;> first | rfl | trivial)
                           apply And.intro
                           · apply DOne_do
                             case' ho => rfl
                             case' hw => rfl
                             refine AOp_load_cptr _ _ rfl sz27 ag27 (by simp [push_cast]) ?_
                             all_goals (try simp only [push_cast, Nat.reduceAdd])
                             all_goals (constructor <;> first | rfl | trivial)
                           apply And.intro
                           · apply DOne_do
                             case' ho => rfl
                             case' hw => rfl
                             refine AOp_fieldAddr_ptr _ _ _ _ rfl fd27_2 (by decide) ?_
                             all_goals (try simp only [push_cast, Nat.reduceAdd])
                             all_goals (constructor <;> first | rfl | trivial)
                           apply And.intro
                           · apply DOne_do
                             case' ho => rfl
                             case' hw => rfl
                             refine AOp_load1_ptr _ _ _ _ _ rfl (by first | exact hget0 | exact hgetN _ rfl | assumption | exact hgetL (by assumption)) sz25 ag25 (by decide) (by simp [push_cast]) rfl ?_
                             all_goals (try simp only [push_cast, Nat.reduceAdd])
                             all_goals (constructor <;> first | rfl | trivial)
                           apply And.intro
                           · apply DOne_do
                             case' ho => rfl
                             case' hw => rfl
                             refine AOp_move ?_
                             all_goals (try simp only [push_cast, Nat.reduceAdd])
                             all_goals (constructor <;> first | rfl | trivial)
                           apply And.intro
                           · apply DOne_do
                             case' ho => rfl
                             case' hw => rfl
                             refine AOp_indexAddr_sl 27 _ _ _ _ _ rfl rfl sl25 sz27 (by decide) (by exact uni_encTs _) (by first | omega | (simp; omega)) (by first | omega | (simp [push_cast]; omega) | (simp [push_cast]; done)) ?_
                             all_goals (try simp only [push_cast, Nat.reduceAdd])
                             all_goals (constructor <;> first | rfl | trivial)
                           apply And.intro
                           · apply DOne_do
                             case' ho => rfl
                             case' hw => rfl
                             refine AOp_load_cptr _ _ rfl sz27 ag27 (by simp [push_cast]) ?_
                             all_goals (try simp only [push_cast, Nat.reduceAdd])
                             all_goals (constructor <;> first | rfl | trivial)
                           apply And.intro
                           · apply DOne_do
                             case' ho => rfl
                             case' hw => rfl
                             refine AOp_call _ _ _ rfl rfl ok30 ?_
                             (try simp only [push_cast, Nat.reduceAdd])
                             have b1 := Term.arg_le (n := n) (v := v) (show xs[i]'(by omega) ∈ xs by simp)
                             have b2 := Term.arg_le (n := m) (v := u) (show ys[i]'(by omega) ∈ ys by simp)
                             refine (ih (xs[i]'(by omega)) (by simp) (ys[i]'(by omega)) (by omega) (by omega) _).mono ?_
                             rintro r H' ⟨rfl, rfl⟩
                             all_goals (try simp only [push_cast, Nat.reduceAdd])
                             all_goals (constructor <;> first | rfl | trivial)
                           apply And.intro
                           · apply DOne_do
                             case' ho => rfl
                             case' hw => rfl
                             refine AOp_assign ?_
                             all_goals (try simp only [push_cast, Nat.reduceAdd])
                             all_goals (constructor <;> first | rfl | trivial)
                           exact trivial
                          case' hQ => skip
                          (try simp only [push_cast, putD, stg, beqB, List.replicate, Nat.reduceAdd, List.getD_cons_zero, List.getD_cons_succ])
                          all_goals
                           refine thenK_normal (hK29 _ ?_)
                           try clear hK29
                           refine AW_ret ?_
                           repeat (first | refine thenK_ret ?_ | refine loopK_ret ?_ | refine blockK_ret ?_)
                           refine ⟨by first | exact .inl rfl | exact .inr rfl, _, rfl, (by first | exact outok_app 0 rfl (Nat.zero_le _) (by simp) | exact outok_self), by simp [push_cast], ?_⟩
                           simp only [push_cast, Nat.reduceAdd]
                           rw [hea]
                           first
                             | (have hcf : coversP (.mk n v xs) (.mk m u ys) = false := (by
                                  have hx : inx < left.length := (by simpa [amap] using hinx)
                                  unfold coversP
                                  rw [← Bool.not_eq_true, List.all_eq_true]
                                  intro hall
                                  have h1 := hall left[inx] (hi2 _ (by simp))
                                  simp at h1
                                  omega)
                                simp [kboC, hcf]; (try rfl); done)
                             | (have hw : ¬ weightP l unit (.mk n v xs) = weightP l unit (.mk m u ys) := (by assumption); simp [kboC, hcov, hw]; (try rfl); done)
                             | (have hw : weightP l unit (.mk n v xs) = weightP l unit (.mk m u ys) := (by assumption); have hv : v = true := (by assumption); subst hv; simp [kboC, hcov, hw, Term.var]; (try rfl); done)
                             | (have hw : weightP l unit (.mk n v xs) = weightP l unit (.mk m u ys) := (by assumption); have hv : v = false := (by assumption); have hu : u = true := (by assumption); subst hv; subst hu; simp [kboC, hcov, hw, Term.var]; (try rfl); done)
                             | (have hw : weightP l unit (.mk n v xs) = weightP l unit (.mk m u ys) := (by assumption); have hv : v = false := (by assumption); have hu : u = false := (by assumption); subst hv; subst hu; have hn : ¬ n = m := (by assumption); simp [kboC, hcov, hw, hn, Term.var, Term.name]; (try rfl); done)
                             | (have hw : weightP l unit (.mk n v xs) = weightP l unit (.mk m u ys) := (by assumption); have hv : v = false := (by assumption); have hu : u = false := (by assumption); subst hv; subst hu; have hn : n = m := (by assumption); subst hn; have hlq : ¬ xs.length = ys.length := (by omega); simp [kboC, hcov, hw, hlq, Term.var, Term.name, Term.args]; (try rfl); done)
                             | (have hw : weightP l unit (.mk n v xs) = weightP l unit (.mk m u ys) := (by assumption); have hv : v = false := (by assumption); have hu : u = false := (by assumption); subst hv; subst hu
                                have hq : kboTs l unit xs ys = aboveP l unit (xs[i]'(by omega)) (ys[i]'(by omega)) := (by rw [kboTs_drop l unit xs ys i hi.2, List.drop_eq_getElem_cons (show i < xs.length by omega), List.drop_eq_getElem_cons (show i < ys.length by omega), kboTs_cons, if_neg (by assumption)])
                                subst hnm; simp [kboC, hcov, hw, hll, hq, Term.var, Term.name, Term.args]; (try rfl); done)
                             | (have hw : weightP l unit (.mk n v xs) = weightP l unit (.mk m u ys) := (by assumption); have hv : v = false := (by assumption); have hu : u = false := (by assumption); subst hv; subst hu
                                have hq : kboTs l unit xs ys = false := (by rw [kboTs_drop l unit xs ys i hi.2, List.drop_eq_nil_of_le (show xs.length ≤ i by omega)]; exact kboTs_nil _ _ _)
                                subst hnm; simp [kboC, hcov, hw, hll, hq, Term.var, Term.name, Term.args]; (try rfl); done)
                             | trace_state
                case' ht =>
                 intro hc18
                 try (exfalso; (first | (cases hc18; done) | (simp at hc18; done) | (simp at hc18; omega)); done)
                 all_goals (try simp only [decide_eq_true_eq, decide_eq_false_iff_not, Bool.not_eq_true', Bool.not_eq_false', Bool.not_eq_eq_eq_not, Bool.not_true, Bool.not_false] at hc18)
                 all_goals
                  refine AW_seq_k (fun K30 hK30 => ?_)
                  apply AW_drawE [some 66, some 67, some 68, some 69, some 70, some 71, some 72, some 73, some 74, some 75, some 76, some 8] [([], _)] [none, none, none, none, none, none, none, none, none, none, none, none] 0 [(0, [], [0]), (1, [], [6]), (2, [], [67]), (3, [], [66, 1]), (4, [], [69]), (5, [], [0]), (6, [], [7]), (7, [], [72]), (8, [], [71, 1]), (9, [], [74]), (10, [], [70, 4]), (11, [], [76])] [_, _, _, _, _, _, _, _, _, _, _, _]
                  case' hm => exact dr
                  case' hn => rfl
                  case' hok => rfl
                  case' hlen => rfl
                  case' hd => rfl
                  case' h0 => rfl
                  case' hstep =>
                   simp only [DAllG, keepG, List.map_cons, List.map_nil, putD, stg, beqB, List.set_cons_zero, List.set_cons_succ, List.getD_cons_zero, List.getD_cons_succ, Option.isSome_some, Option.isSome_none]
                   apply And.intro
                   · apply DOne_do
                     case' ho => rfl
                     case' hw => rfl
                     refine AOp_move ?_
                     all_goals (try simp only [push_cast, Nat.reduceAdd])
                     all_goals (constructor <;> first | rfl | trivial)
                   apply And.intro
                   · apply DOne_do
                     case' ho => rfl
                     case' hw => rfl
                     refine AOp_fieldAddr_ptr _ _ _ _ rfl fd27_0 (by decide) ?_
                     all_goals (try simp only [push_cast, Nat.reduceAdd])
                     all_goals (constructor <;> first | rfl | trivial)
                   apply And.intro
                   · apply DOne_do
                     case' ho => rfl
                     case' hw => rfl
                     refine AOp_load1_ptr _ _ _ _ _ rfl (by first | exact hget0 | exact hgetN _ rfl | assumption | exact hgetL (by assumption)) sz9 ag9 (by decide) (by simp [push_cast]) rfl ?_
                     all_goals (try simp only [push_cast, Nat.reduceAdd])
                     all_goals (constructor <;> first | rfl | trivial)
                   apply And.intro
                   · apply DOne_do
                     case' ho => rfl
                     case' hw => rfl
                     refine AOp_call _ _ _ rfl rfl ok51 ?_
                     (try simp only [push_cast, Nat.reduceAdd])
                     first
                       | (refine (of_ac l hs n hlen _).mono ?_; rintro r H' ⟨rfl, rfl⟩; exact ⟨rfl, rfl⟩)
                       | (refine (of_ac l hs m hlen _).mono ?_; rintro r H' ⟨rfl, rfl⟩; exact ⟨rfl, rfl⟩)
                     all_goals (try simp only [push_cast, Nat.reduceAdd])
                     all_goals (constructor <;> first | rfl | trivial)
                   apply And.intro
                   · apply DOne_do
                     case' ho => rfl
                     case' hw => rfl
                     refine AOp_field1 _ _ _ _ rfl fa63_1 (by decide) (by simp [push_cast]) rfl ?_
                     all_goals (try simp only [push_cast, Nat.reduceAdd])
                     all_goals (constructor <;> first | rfl | trivial)
                   apply And.intro
                   · apply DOne_do
                     case' ho => rfl
                     case' hw => rfl
                     refine AOp_move ?_
                     all_goals (try simp only [push_cast, Nat.reduceAdd])
                     all_goals (constructor <;> first | rfl | trivial)
                   apply And.intro
                   · apply DOne_do
                     case' ho => rfl
                     case' hw => rfl
                     refine AOp_fieldAddr_ptr _ _ _ _ rfl fd27_0 (by decide) ?_
                     all_goals (try simp only [push_cast, Nat.reduceAdd])
                     all_goals (constructor <;> first | rfl | trivial)
                   apply And.intro
                   · apply DOne_do
                     case' ho => rfl
                     case' hw => rfl
                     refine AOp_load1_ptr _ _ _ _ _ rfl (by first | exact hget0 | exact hgetN _ rfl | assumption | exact hgetL (by assumption)) sz9 ag9 (by decide) (by simp [push_cast]) rfl ?_
                     all_goals (try simp only [push_cast, Nat.reduceAdd])
                     all_goals (constructor <;> first | rfl | trivial)
                   apply And.intro
                   · apply DOne_do
                     case' ho => rfl
                     case' hw => rfl
                     refine AOp_call _ _ _ rfl rfl ok51 ?_
                     (try simp only [push_cast, Nat.reduceAdd])
                     first
                       | (refine (of_ac l hs n hlen _).mono ?_; rintro r H' ⟨rfl, rfl⟩; exact ⟨rfl, rfl⟩)
                       | (refine (of_ac l hs m hlen _).mono ?_; rintro r H' ⟨rfl, rfl⟩; exact ⟨rfl, rfl⟩)
                     all_goals (try simp only [push_cast, Nat.reduceAdd])
                     all_goals (constructor <;> first | rfl | trivial)
                   apply And.intro
                   · apply DOne_do
                     case' ho => rfl
                     case' hw => rfl
                     refine AOp_field1 _ _ _ _ rfl fa63_1 (by decide) (by simp [push_cast]) rfl ?_
                     all_goals (try simp only [push_cast, Nat.reduceAdd])
                     all_goals (constructor <;> first | rfl | trivial)
                   apply And.intro
                   · apply DOne_do
                     case' ho => rfl
                     case' hw => rfl
                     refine AOp_bin_int _ _ _ _ rfl rfl rfl ?_
                     all_goals (try simp only [push_cast, Nat.reduceAdd])
                     all_goals (constructor <;> first | rfl | trivial)
                   apply And.intro
                   · apply DOne_do
                     case' ho => rfl
                     case' hw => rfl
                     refine AOp_assign ?_
                     all_goals (try simp only [push_cast, Nat.reduceAdd])
                     all_goals (constructor <;> first | rfl | trivial)
                   exact trivial
                  case' hQ => skip
                  (try simp only [push_cast, putD, stg, beqB, List.replicate, Nat.reduceAdd, List.getD_cons_zero, List.getD_cons_succ])
                  all_goals
                   refine thenK_normal (hK30 _ ?_)
                   try clear hK30
                   refine AW_ret ?_
                   repeat (first | refine thenK_ret ?_ | refine loopK_ret ?_ | refine blockK_ret ?_)
                   refine ⟨by first | exact .inl rfl | exact .inr rfl, _, rfl, (by first | exact outok_app 0 rfl (Nat.zero_le _) (by simp) | exact outok_self), by simp [push_cast], ?_⟩
                   simp only [push_cast, Nat.reduceAdd]
                   rw [hea]
                   first
                     | (have hcf : coversP (.mk n v xs) (.mk m u ys) = false := (by
                          have hx : inx < left.length := (by simpa [amap] using hinx)
                          unfold coversP
                          rw [← Bool.not_eq_true, List.all_eq_true]
                          intro hall
                          have h1 := hall left[inx] (hi2 _ (by simp))
                          simp at h1
                          omega)
                        simp [kboC, hcf]; (try rfl); done)
                     | (have hw : ¬ weightP l unit (.mk n v xs) = weightP l unit (.mk m u ys) := (by assumption); simp [kboC, hcov, hw]; (try rfl); done)
                     | (have hw : weightP l unit (.mk n v xs) = weightP l unit (.mk m u ys) := (by assumption); have hv : v = true := (by assumption); subst hv; simp [kboC, hcov, hw, Term.var]; (try rfl); done)
                     | (have hw : weightP l unit (.mk n v xs) = weightP l unit (.mk m u ys) := (by assumption); have hv : v = false := (by assumption); have hu : u = true := (by assumption); subst hv; subst hu; simp [kboC, hcov, hw, Term.var]; (try rfl); done)
                     | (have hw : weightP l unit (.mk n v xs) = weightP l unit (.mk m u ys) := (by assumption); have hv : v = false := (by assumption); have hu : u = false := (by assumption); subst hv; subst hu; have hn : ¬ n = m := (by assumption); simp [kboC, hcov, hw, hn, Term.var, Term.name]; (try rfl); done)
                     | (have hw : weightP l unit (.mk n v xs) = weightP l unit (.mk m u ys) := (by assumption); have hv : v = false := (by assumption); have hu : u = false := (by assumption); subst hv; subst hu; have hn : n = m := (by assumption); subst hn; have hlq : ¬ xs.length = ys.length := (by omega); simp [kboC, hcov, hw, hlq, Term.var, Term.name, Term.args]; (try rfl); done)
                     | (have hw : weightP l unit (.mk n v xs) = weightP l unit (.mk m u ys) := (by assumption); have hv : v = false := (by assumption); have hu : u = false := (by assumption); subst hv; subst hu
                        have hq : kboTs l unit xs ys = aboveP l unit (xs[i]'(by omega)) (ys[i]'(by omega)) := (by rw [kboTs_drop l unit xs ys i hi.2, List.drop_eq_getElem_cons (show i < xs.length by omega), List.drop_eq_getElem_cons (show i < ys.length by omega), kboTs_cons, if_neg (by assumption)])
                        subst hnm; simp [kboC, hcov, hw, hll, hq, Term.var, Term.name, Term.args]; (try rfl); done)
                     | (have hw : weightP l unit (.mk n v xs) = weightP l unit (.mk m u ys) := (by assumption); have hv : v = false := (by assumption); have hu : u = false := (by assumption); subst hv; subst hu
                        have hq : kboTs l unit xs ys = false := (by rw [kboTs_drop l unit xs ys i hi.2, List.drop_eq_nil_of_le (show xs.length ≤ i by omega)]; exact kboTs_nil _ _ _)
                        subst hnm; simp [kboC, hcov, hw, hll, hq, Term.var, Term.name, Term.args]; (try rfl); done)
                     | trace_state
             case' ht =>
              intro hc15
              try (exfalso; (first | (cases hc15; done) | (simp at hc15; done) | (simp at hc15; omega)); done)
              all_goals (try simp only [decide_eq_true_eq, decide_eq_false_iff_not, Bool.not_eq_true', Bool.not_eq_false', Bool.not_eq_eq_eq_not, Bool.not_true, Bool.not_false] at hc15)
              all_goals
               refine AW_seq_k (fun K31 hK31 => ?_)
               refine AW_region ?_
               all_goals (refine AOps_cons rfl (AOp_assign ?_) <;> try simp only [push_cast, Nat.reduceAdd])
               all_goals refine AOps_nil ?_
               all_goals
                refine thenK_normal (hK31 _ ?_)
                try clear hK31
                refine AW_ret ?_
                repeat (first | refine thenK_ret ?_ | refine loopK_ret ?_ | refine blockK_ret ?_)
                refine ⟨by first | exact .inl rfl | exact .inr rfl, _, rfl, (by first | exact outok_app 0 rfl (Nat.zero_le _) (by simp) | exact outok_self), by simp [push_cast], ?_⟩
                simp only [push_cast, Nat.reduceAdd]
                rw [hea]
                first
                  | (have hcf : coversP (.mk n v xs) (.mk m u ys) = false := (by
                       have hx : inx < left.length := (by simpa [amap] using hinx)
                       unfold coversP
                       rw [← Bool.not_eq_true, List.all_eq_true]
                       intro hall
                       have h1 := hall left[inx] (hi2 _ (by simp))
                       simp at h1
                       omega)
                     simp [kboC, hcf]; (try rfl); done)
                  | (have hw : ¬ weightP l unit (.mk n v xs) = weightP l unit (.mk m u ys) := (by assumption); simp [kboC, hcov, hw]; (try rfl); done)
                  | (have hw : weightP l unit (.mk n v xs) = weightP l unit (.mk m u ys) := (by assumption); have hv : v = true := (by assumption); subst hv; simp [kboC, hcov, hw, Term.var]; (try rfl); done)
                  | (have hw : weightP l unit (.mk n v xs) = weightP l unit (.mk m u ys) := (by assumption); have hv : v = false := (by assumption); have hu : u = true := (by assumption); subst hv; subst hu; simp [kboC, hcov, hw, Term.var]; (try rfl); done)
                  | (have hw : weightP l unit (.mk n v xs) = weightP l unit (.mk m u ys) := (by assumption); have hv : v = false := (by assumption); have hu : u = false := (by assumption); subst hv; subst hu; have hn : ¬ n = m := (by assumption); simp [kboC, hcov, hw, hn, Term.var, Term.name]; (try rfl); done)
                  | (have hw : weightP l unit (.mk n v xs) = weightP l unit (.mk m u ys) := (by assumption); have hv : v = false := (by assumption); have hu : u = false := (by assumption); subst hv; subst hu; have hn : n = m := (by assumption); subst hn; have hlq : ¬ xs.length = ys.length := (by omega); simp [kboC, hcov, hw, hlq, Term.var, Term.name, Term.args]; (try rfl); done)
                  | (have hw : weightP l unit (.mk n v xs) = weightP l unit (.mk m u ys) := (by assumption); have hv : v = false := (by assumption); have hu : u = false := (by assumption); subst hv; subst hu
                     have hq : kboTs l unit xs ys = aboveP l unit (xs[i]'(by omega)) (ys[i]'(by omega)) := (by rw [kboTs_drop l unit xs ys i hi.2, List.drop_eq_getElem_cons (show i < xs.length by omega), List.drop_eq_getElem_cons (show i < ys.length by omega), kboTs_cons, if_neg (by assumption)])
                     subst hnm; simp [kboC, hcov, hw, hll, hq, Term.var, Term.name, Term.args]; (try rfl); done)
                  | (have hw : weightP l unit (.mk n v xs) = weightP l unit (.mk m u ys) := (by assumption); have hv : v = false := (by assumption); have hu : u = false := (by assumption); subst hv; subst hu
                     have hq : kboTs l unit xs ys = false := (by rw [kboTs_drop l unit xs ys i hi.2, List.drop_eq_nil_of_le (show xs.length ≤ i by omega)]; exact kboTs_nil _ _ _)
                     subst hnm; simp [kboC, hcov, hw, hll, hq, Term.var, Term.name, Term.args]; (try rfl); done)
                  | trace_state
          case' ht =>
           intro hc12
           try (exfalso; (first | (cases hc12; done) | (simp at hc12; done) | (simp at hc12; omega)); done)
           all_goals (try simp only [decide_eq_true_eq, decide_eq_false_iff_not, Bool.not_eq_true', Bool.not_eq_false', Bool.not_eq_eq_eq_not, Bool.not_true, Bool.not_false] at hc12)
           all_goals
            refine AW_seq_k (fun K32 hK32 => ?_)
            refine AW_region ?_
            all_goals refine AOps_cons rfl (AOp_move ?_)
            all_goals refine AOps_cons rfl (AOp_move ?_)
            all_goals (try simp only [push_cast, Nat.reduceAdd])
            all_goals (refine AOps_cons rfl (AOp_bin_int _ _ _ _ rfl rfl rfl ?_) <;> try simp only [push_cast, Nat.reduceAdd])
            all_goals (refine AOps_cons rfl (AOp_assign ?_) <;> try simp only [push_cast, Nat.reduceAdd])
            all_goals refine AOps_nil ?_
            all_goals
             refine thenK_normal (hK32 _ ?_)
             try clear hK32
             refine AW_ret ?_
             repeat (first | refine thenK_ret ?_ | refine loopK_ret ?_ | refine blockK_ret ?_)
             refine ⟨by first | exact .inl rfl | exact .inr rfl, _, rfl, (by first | exact outok_app 0 rfl (Nat.zero_le _) (by simp) | exact outok_self), by simp [push_cast], ?_⟩
             simp only [push_cast, Nat.reduceAdd]
             rw [hea]
             first
               | (have hcf : coversP (.mk n v xs) (.mk m u ys) = false := (by
                    have hx : inx < left.length := (by simpa [amap] using hinx)
                    unfold coversP
                    rw [← Bool.not_eq_true, List.all_eq_true]
                    intro hall
                    have h1 := hall left[inx] (hi2 _ (by simp))
                    simp at h1
                    omega)
                  simp [kboC, hcf]; (try rfl); done)
               | (have hw : ¬ weightP l unit (.mk n v xs) = weightP l unit (.mk m u ys) := (by assumption); simp [kboC, hcov, hw]; (try rfl); done)
               | (have hw : weightP l unit (.mk n v xs) = weightP l unit (.mk m u ys) := (by assumption); have hv : v = true := (by assumption); subst hv; simp [kboC, hcov, hw, Term.var]; (try rfl); done)
               | (have hw : weightP l unit (.mk n v xs) = weightP l unit (.mk m u ys) := (by assumption); have hv : v = false := (by assumption); have hu : u = true := (by assumption); subst hv; subst hu; simp [kboC, hcov, hw, Term.var]; (try rfl); done)
               | (have hw : weightP l unit (.mk n v xs) = weightP l unit (.mk m u ys) := (by assumption); have hv : v = false := (by assumption); have hu : u = false := (by assumption); subst hv; subst hu; have hn : ¬ n = m := (by assumption); simp [kboC, hcov, hw, hn, Term.var, Term.name]; (try rfl); done)
               | (have hw : weightP l unit (.mk n v xs) = weightP l unit (.mk m u ys) := (by assumption); have hv : v = false := (by assumption); have hu : u = false := (by assumption); subst hv; subst hu; have hn : n = m := (by assumption); subst hn; have hlq : ¬ xs.length = ys.length := (by omega); simp [kboC, hcov, hw, hlq, Term.var, Term.name, Term.args]; (try rfl); done)
               | (have hw : weightP l unit (.mk n v xs) = weightP l unit (.mk m u ys) := (by assumption); have hv : v = false := (by assumption); have hu : u = false := (by assumption); subst hv; subst hu
                  have hq : kboTs l unit xs ys = aboveP l unit (xs[i]'(by omega)) (ys[i]'(by omega)) := (by rw [kboTs_drop l unit xs ys i hi.2, List.drop_eq_getElem_cons (show i < xs.length by omega), List.drop_eq_getElem_cons (show i < ys.length by omega), kboTs_cons, if_neg (by assumption)])
                  subst hnm; simp [kboC, hcov, hw, hll, hq, Term.var, Term.name, Term.args]; (try rfl); done)
               | (have hw : weightP l unit (.mk n v xs) = weightP l unit (.mk m u ys) := (by assumption); have hv : v = false := (by assumption); have hu : u = false := (by assumption); subst hv; subst hu
                  have hq : kboTs l unit xs ys = false := (by rw [kboTs_drop l unit xs ys i hi.2, List.drop_eq_nil_of_le (show xs.length ≤ i by omega)]; exact kboTs_nil _ _ _)
                  subst hnm; simp [kboC, hcov, hw, hll, hq, Term.var, Term.name, Term.args]; (try rfl); done)
               | trace_state
      case' ht =>
       intro hc7
       try (exfalso; (first | (cases hc7; done) | (simp at hc7; done) | (simp at hc7; omega)); done)
       all_goals (try simp only [decide_eq_true_eq, decide_eq_false_iff_not, Bool.not_eq_true', Bool.not_eq_false', Bool.not_eq_eq_eq_not, Bool.not_true, Bool.not_false] at hc7)
       all_goals
        refine AW_skip ?_
        refine thenK_normal (hK6 _ ?_)
        try clear hK6
        refine AW_block ?_
        refine AW_seq_k (fun K33 hK33 => ?_)
        refine AW_region ?_
        all_goals (refine AOps_cons rfl (AOp_entry_map _ _ _ _ _ _ rfl (by first | exact hget0 | exact hgetN _ rfl | assumption | exact hgetL (by assumption)) (by first | exact hget0 | exact hgetN _ rfl | assumption | exact hgetL (by assumption)) ?_) <;> try simp only [push_cast, Nat.reduceAdd])
        all_goals (refine AOps_cons rfl (AOp_extract _ _ rfl rfl ?_) <;> try simp only [push_cast, Nat.reduceAdd])
        all_goals (refine AOps_cons rfl (AOp_extract _ _ rfl rfl ?_) <;> try simp only [push_cast, Nat.reduceAdd])
        all_goals refine AOps_cons rfl (AOp_assign ?_)
        all_goals (refine AOps_cons rfl (AOp_assign ?_) <;> try simp only [push_cast, Nat.reduceAdd])
        all_goals refine AOps_nil ?_
        all_goals
         refine thenK_normal (hK33 _ ?_)
         try clear hK33
         refine AW_seq_k (fun K34 hK34 => ?_)
         refine AW_region ?_
         all_goals refine AOps_cons rfl (AOp_move ?_)
         all_goals refine AOps_cons rfl (AOp_move ?_)
         all_goals refine AOps_cons rfl (AOp_move ?_)
         all_goals (try simp only [push_cast, Nat.reduceAdd])
         all_goals refine AOps_cons rfl ?_
         all_goals have hinx' : inx < left.length := by simpa [amap] using hinx
         all_goals refine AOp_lookup (strKey un9) (AV.int .i64) _ _ _ _ (.int .i64 0) rfl (by exact hgetN _ rfl) rfl un88 (ZeroV_of (.int .i64 0) (by kernel_rfl)) ?_
         all_goals rw [show (Option.map (AV.int IntKind.i64) (aget (countM (walkT (.mk n v xs) [])) left[inx].1)).getD (.int .i64 0) = .int .i64 ((aget (countM (walkT (.mk n v xs) [])) left[inx].1).getD 0) from by cases aget (countM (walkT (.mk n v xs) [])) left[inx].1 <;> rfl]
         all_goals (try simp only [push_cast, Nat.reduceAdd])
         all_goals (refine AOps_cons rfl (AOp_bin_int _ _ _ _ rfl rfl rfl ?_) <;> try simp only [push_cast, Nat.reduceAdd])
         all_goals refine AOps_nil ?_
         all_goals
          refine thenK_normal (hK34 _ ?_)
          try clear hK34
          apply AW_cond
          case' hc => exact rfl
          case' hf =>
           intro hc35
           try (exfalso; (first | (cases hc35; done) | (simp at hc35; done) | (simp at hc35; omega)); done)
           all_goals (try simp only [decide_eq_true_eq, decide_eq_false_iff_not, Bool.not_eq_true', Bool.not_eq_false', Bool.not_eq_eq_eq_not, Bool.not_true, Bool.not_false] at hc35)
           all_goals
            refine AW_skip ?_
            refine blockK_normal ?_
            refine loopK_normal ?_
            have hinx' : inx < left.length := by simpa [amap] using hinx
            refine ⟨(left.eraseIdx inx, some left[inx]), ⟨fun p hp => ?_, fun p hp => hi2 p (List.mem_of_mem_eraseIdx hp)⟩, by simp only [push_cast, Nat.reduceAdd]; exact weak_app 7 (by (repeat (first | exact SlotsOk.nil | refine SlotsOk.junk ?_ | refine SlotsOk.same (by first | (simp [push_cast]; done) | (simp [push_cast, Scoped, ScopedL, *]; done)) ?_ | refine SlotsOk.tok (by first | rfl | (simp; done)) (by first | (simp [push_cast]; done) | (simp [push_cast, Scoped, ScopedL, *]; done)) ?_ | refine SlotsOk.eq (by first | rfl | (congr 1; omega) | (simp; done) | (simp; omega)) (by first | (simp [push_cast]; done) | (simp [push_cast, Scoped, ScopedL, *]; done)) ?_))) (by simp) (fun o ho => hob ver1 ver2 (left.eraseIdx inx) (some left[inx]) o (by simpa [encKV] using ho)), by simp only [List.length_eraseIdx_of_lt hinx']; omega⟩
            rcases hi1 p hp with h | h
            · obtain ⟨k, hk, rfl⟩ := List.getElem_of_mem h
              by_cases hkx : k = inx
              · subst hkx; right; omega
              · left
                rw [List.mem_eraseIdx_iff_getElem]
                exact ⟨k, hk, hkx, rfl⟩
            · exact .inr h
          case' ht =>
           intro hc35
           try (exfalso; (first | (cases hc35; done) | (simp at hc35; done) | (simp at hc35; omega)); done)
           all_goals (try simp only [decide_eq_true_eq, decide_eq_false_iff_not, Bool.not_eq_true', Bool.not_eq_false', Bool.not_eq_eq_eq_not, Bool.not_true, Bool.not_false] at hc35)
           all_goals
            refine AW_seq_k (fun K36 hK36 => ?_)
            refine AW_region ?_
            all_goals (refine AOps_cons rfl (AOp_assign ?_) <;> try simp only [push_cast, Nat.reduceAdd])
            all_goals refine AOps_nil ?_
            all_goals
             refine thenK_normal (hK36 _ ?_)
             try clear hK36
             refine AW_ret ?_
             repeat (first | refine thenK_ret ?_ | refine loopK_ret ?_ | refine blockK_ret ?_)
             refine ⟨by first | exact .inl rfl | exact .inr rfl, _, rfl, (by first | exact outok_app 0 rfl (Nat.zero_le _) (by simp) | exact outok_self), by simp [push_cast], ?_⟩
             simp only [push_cast, Nat.reduceAdd]
             rw [hea]
             first
               | (have hcf : coversP (.mk n v xs) (.mk m u ys) = false := (by
                    have hx : inx < left.length := (by simpa [amap] using hinx)
                    unfold coversP
                    rw [← Bool.not_eq_true, List.all_eq_true]
                    intro hall
                    have h1 := hall left[inx] (hi2 _ (by simp))
                    simp at h1
                    omega)
                  simp [kboC, hcf]; (try rfl); done)
               | (have hw : ¬ weightP l unit (.mk n v xs) = weightP l unit (.mk m u ys) := (by assumption); simp [kboC, hcov, hw]; (try rfl); done)
               | (have hw : weightP l unit (.mk n v xs) = weightP l unit (.mk m u ys) := (by assumption); have hv : v = true := (by assumption); subst hv; simp [kboC, hcov, hw, Term.var]; (try rfl); done)
               | (have hw : weightP l unit (.mk n v xs) = weightP l unit (.mk m u ys) := (by assumption); have hv : v = false := (by assumption); have hu : u = true := (by assumption); subst hv; subst hu; simp [kboC, hcov, hw, Term.var]; (try rfl); done)
               | (have hw : weightP l unit (.mk n v xs) = weightP l unit (.mk m u ys) := (by assumption); have hv : v = false := (by assumption); have hu : u = false := (by assumption); subst hv; subst hu; have hn : ¬ n = m := (by assumption); simp [kboC, hcov, hw, hn, Term.var, Term.name]; (try rfl); done)
               | (have hw : weightP l unit (.mk n v xs) = weightP l unit (.mk m u ys) := (by assumption); have hv : v = false := (by assumption); have hu : u = false := (by assumption); subst hv; subst hu; have hn : n = m := (by assumption); subst hn; have hlq : ¬ xs.length = ys.length := (by omega); simp [kboC, hcov, hw, hlq, Term.var, Term.name, Term.args]; (try rfl); done)
               | (have hw : weightP l unit (.mk n v xs) = weightP l unit (.mk m u ys) := (by assumption); have hv : v = false := (by assumption); have hu : u = false := (by assumption); subst hv; subst hu
                  have hq : kboTs l unit xs ys = aboveP l unit (xs[i]'(by omega)) (ys[i]'(by omega)) := (by rw [kboTs_drop l unit xs ys i hi.2, List.drop_eq_getElem_cons (show i < xs.length by omega), List.drop_eq_getElem_cons (show i < ys.length by omega), kboTs_cons, if_neg (by assumption)])
                  subst hnm; simp [kboC, hcov, hw, hll, hq, Term.var, Term.name, Term.args]; (try rfl); done)
               | (have hw : weightP l unit (.mk n v xs) = weightP l unit (.mk m u ys) := (by assumption); have hv : v = false := (by assumption); have hu : u = false := (by assumption); subst hv; subst hu
                  have hq : kboTs l unit xs ys = false := (by rw [kboTs_drop l unit xs ys i hi.2, List.drop_eq_nil_of_le (show xs.length ≤ i by omega)]; exact kboTs_nil _ _ _)
                  subst hnm; simp [kboC, hcov, hw, hll, hq, Term.var, Term.name, Term.args]; (try rfl); done)
               | trace_state
end Ab
set_option maxRecDepth 10000
namespace Ab
open Go Go.Proofs
attribute [local push_cast] encT encR scoped_encR
theorem checkName_ac (x : Rank) (H : List AObj) : ACall Try.prog 47 [encR x] H (fun r H' => r = .str x.name ∧ H' = H) := by
  refine ACall_intro (H.length) Try.func47 rfl ?_
  simp only [Try.ntmps47, List.length_cons, List.length_nil, List.replicate, List.cons_append, List.nil_append, Nat.reduceAdd, Nat.reduceSub, Nat.zero_add]
  refine AW_seq_k (fun K1 hK1 => ?_)
  refine AW_region ?_
  all_goals (refine AOps_cons rfl (AOp_box _ _ rfl rfl (by first | exact .inl rfl | exact .inr ⟨_, rfl⟩) (by simp [push_cast, AV.isCell]) ?_) <;> try simp only [push_cast, Nat.reduceAdd])
  all_goals (refine AOps_cons rfl (AOp_assign ?_) <;> try simp only [push_cast, Nat.reduceAdd])
  all_goals refine AOps_nil ?_
  all_goals
   refine thenK_normal (hK1 _ ?_)
   try clear hK1
   refine AW_seq_k (fun K2 hK2 => ?_)
   refine AW_region ?_
   all_goals (refine AOps_cons rfl (AOp_fieldAddr_ptr _ _ _ _ rfl fd63_0 (by decide) ?_) <;> try simp only [push_cast, Nat.reduceAdd])
   all_goals (refine AOps_cons rfl (AOp_load1_ptr _ _ _ _ _ rfl (by first | exact hget0 | exact hgetN _ rfl | assumption | exact hgetL (by assumption)) sz9 ag9 (by decide) (by simp [push_cast]) rfl ?_) <;> try simp only [push_cast, Nat.reduceAdd])
   all_goals (refine AOps_cons rfl (AOp_assign ?_) <;> try simp only [push_cast, Nat.reduceAdd])
   all_goals refine AOps_nil ?_
   all_goals
    refine thenK_normal (hK2 _ ?_)
    try clear hK2
    refine AW_ret ?_
    repeat (first | refine thenK_ret ?_ | refine loopK_ret ?_ | refine blockK_ret ?_)
    refine ⟨by first | exact .inl rfl | exact .inr rfl, _, rfl, (by first | exact outok_app 0 rfl (Nat.zero_le _) (by simp) | exact outok_self), by simp [push_cast], ?_⟩
    simp only [push_cast, Nat.reduceAdd]
    (first | (simp; done) | (simp; omega) | omega)
def badP (n : Int) : Bool := decide (n < 0) || decide (1000 < n)
theorem checkBad_ac (n : Int) (H : List AObj) : ACall Try.prog 48 [.int .i64 n] H (fun r H' => r = .bool (badP n) ∧ H' = H) := by
  refine ACall_intro (H.length) Try.func48 rfl ?_
  simp only [Try.ntmps48, List.length_cons, List.length_nil, List.replicate, List.cons_append, List.nil_append, Nat.reduceAdd, Nat.reduceSub, Nat.zero_add]
  refine AW_seq_k (fun K3 hK3 => ?_)
  refine AW_region ?_
  all_goals (refine AOps_cons rfl (AOp_assign ?_) <;> try simp only [push_cast, Nat.reduceAdd])
  all_goals refine AOps_nil ?_
  all_goals
   refine thenK_normal (hK3 _ ?_)
   try clear hK3
   refine AW_seq_k (fun K4 hK4 => ?_)
   refine AW_region ?_
   all_goals refine AOps_cons rfl (AOp_move ?_)
   all_goals (try simp only [push_cast, Nat.reduceAdd])
   all_goals (refine AOps_cons rfl (AOp_bin_int _ _ _ _ rfl rfl rfl ?_) <;> try simp only [push_cast, Nat.reduceAdd])
   all_goals refine AOps_cons rfl (AOp_move ?_)
   all_goals (try simp only [push_cast, Nat.reduceAdd])
   all_goals (try refine AOps_split 5 _ rfl (fun hg5 => ?_) (fun hg5 => ?_))
   all_goals (try (exfalso; (first | (cases hg5; done) | (simp at hg5; done) | (simp at hg5; omega)); done))
   all_goals (try simp only [decide_eq_true_eq, decide_eq_false_iff_not, Bool.not_eq_true', Bool.not_eq_false', Bool.not_eq_eq_eq_not, Bool.not_true, Bool.not_false] at hg5)
   all_goals first
    | refine AOps_skip rfl ?_
    | (refine AOps_cons rfl ?_
       refine AOp_move ?_)
   all_goals (try simp only [push_cast, Nat.reduceAdd])
   all_goals first
    | refine AOps_skip rfl ?_
    | (refine AOps_cons rfl ?_
       refine AOp_bin_int _ _ _ _ rfl rfl rfl ?_)
   all_goals (try simp only [push_cast, Nat.reduceAdd])
   all_goals refine AOps_cons rfl (AOp_pick _ rfl ?_)
   all_goals (refine AOps_cons rfl (AOp_assign ?_) <;> try simp only [push_cast, Nat.reduceAdd])
   all_goals refine AOps_nil ?_
   all_goals
    refine thenK_normal (hK4 _ ?_)
    try clear hK4
    refine AW_ret ?_
    repeat (first | refine thenK_ret ?_ | refine loopK_ret ?_ | refine blockK_ret ?_)
    refine ⟨by first | exact .inl rfl | exact .inr rfl, _, rfl, (by first | exact outok_app 0 rfl (Nat.zero_le _) (by simp) | exact outok_self), by simp [push_cast], ?_⟩
    simp only [push_cast, Nat.reduceAdd]
    unfold badP
    first | (simp [*]; done) | (simp; omega)
theorem checkRank_ac (x : Rank) (b : Nat) (H : List AObj) (hb : H[b]? = some (.cells [.fn 48 []])) : ACall Try.prog 50 [encR x, .ptr b 0] H (fun r H' => r = .bool (badP x.rank || badP x.weight) ∧ H' = H) := by
  refine ACall_intro (H.length) Try.func50 rfl ?_
  simp only [Try.ntmps50, List.length_cons, List.length_nil, List.replicate, List.cons_append, List.nil_append, Nat.reduceAdd, Nat.reduceSub, Nat.zero_add]
  refine AW_seq_k (fun K6 hK6 => ?_)
  refine AW_region ?_
  all_goals (refine AOps_cons rfl (AOp_box _ _ rfl rfl (by first | exact .inl rfl | exact .inr ⟨_, rfl⟩) (by simp [push_cast, AV.isCell]) ?_) <;> try simp only [push_cast, Nat.reduceAdd])
  all_goals (refine AOps_cons rfl (AOp_assign ?_) <;> try simp only [push_cast, Nat.reduceAdd])
  all_goals refine AOps_nil ?_
  all_goals
   refine thenK_normal (hK6 _ ?_)
   try clear hK6
   refine AW_seq_k (fun K7 hK7 => ?_)
   refine AW_region ?_
   all_goals refine AOps_cons rfl ?_
   all_goals first | refine AOp_load1_ptr _ _ _ _ _ rfl (by first | exact hget0 | exact hgetN _ rfl | assumption | exact hgetL (by assumption)) sz80 ag80 (by decide) (by simp [push_cast]) rfl ?_ | refine AOp_load1_cptr _ _ _ rfl sz80 ag80 rfl ?_
   all_goals (try simp only [push_cast, Nat.reduceAdd])
   all_goals (refine AOps_cons rfl (AOp_fieldAddr_ptr _ _ _ _ rfl fd63_1 (by decide) ?_) <;> try simp only [push_cast, Nat.reduceAdd])
   all_goals (refine AOps_cons rfl (AOp_load1_ptr _ _ _ _ _ rfl (by first | exact hget0 | exact hgetN _ rfl | assumption | exact hgetL (by assumption)) sz3 ag3 (by decide) (by simp [push_cast]) rfl ?_) <;> try simp only [push_cast, Nat.reduceAdd])
   all_goals refine AOps_cons rfl (AOp_call _ _ _ rfl rfl ok48 ?_)
   all_goals refine (checkBad_ac _ _).mono ?_
   all_goals rintro r H' ⟨rfl, rfl⟩
   all_goals (try simp only [push_cast, Nat.reduceAdd])
   all_goals refine AOps_cons rfl (AOp_move ?_)
   all_goals (try simp only [push_cast, Nat.reduceAdd])
   all_goals (try refine AOps_split 8 _ rfl (fun hg8 => ?_) (fun hg8 => ?_))
   all_goals (try (exfalso; (first | (cases hg8; done) | (simp at hg8; done) | (simp at hg8; omega)); done))
   all_goals (try simp only [decide_eq_true_eq, decide_eq_false_iff_not, Bool.not_eq_true', Bool.not_eq_false', Bool.not_eq_eq_eq_not, Bool.not_true, Bool.not_false] at hg8)
   all_goals first
    | refine AOps_skip rfl ?_
    | (refine AOps_cons rfl ?_
       first | refine AOp_load1_ptr _ _ _ _ _ rfl (by first | exact hget0 | exact hgetN _ rfl | assumption | exact hgetL (by assumption)) sz80 ag80 (by decide) (by simp [push_cast]) rfl ?_ | refine AOp_load1_cptr _ _ _ rfl sz80 ag80 rfl ?_)
   all_goals (try simp only [push_cast, Nat.reduceAdd])
   all_goals first
    | refine AOps_skip rfl ?_
    | (refine AOps_cons rfl ?_
       refine AOp_fieldAddr_ptr _ _ _ _ rfl fd63_2 (by decide) ?_)
   all_goals (try simp only [push_cast, Nat.reduceAdd])
   all_goals first
    | refine AOps_skip rfl ?_
    | (refine AOps_cons rfl ?_
       refine AOp_load1_ptr _ _ _ _ _ rfl (by first | exact hget0 | exact hgetN _ rfl | assumption | exact hgetL (by assumption)) sz3 ag3 (by decide) (by simp [push_cast]) rfl ?_)
   all_goals (try simp only [push_cast, Nat.reduceAdd])
   all_goals first
    | refine AOps_skip rfl ?_
    | (refine AOps_cons rfl ?_
       refine AOp_call _ _ _ rfl rfl ok48 ?_
       refine (checkBad_ac _ _).mono ?_
       rintro r H' ⟨rfl, rfl⟩)
   all_goals (try simp only [push_cast, Nat.reduceAdd])
   all_goals refine AOps_cons rfl (AOp_pick _ rfl ?_)
   all_goals (refine AOps_cons rfl (AOp_assign ?_) <;> try simp only [push_cast, Nat.reduceAdd])
   all_goals refine AOps_nil ?_
   all_goals
    refine thenK_normal (hK7 _ ?_)
    try clear hK7
    refine AW_ret ?_
    repeat (first | refine thenK_ret ?_ | refine loopK_ret ?_ | refine blockK_ret ?_)
    refine ⟨by first | exact .inl rfl | exact .inr rfl, _, rfl, (by first | exact outok_app 0 rfl (Nat.zero_le _) (by simp) | exact outok_self), by simp [push_cast], ?_⟩
    simp only [push_cast, Nat.reduceAdd]
    first | (simp [*]; done) | (simp_all; done) | trace_state
theorem indexR_ac (xs : List Rank) (g : Nat) (caps : List AV) (p : Rank → Bool) (H : List AObj) (hlen : xs.length < 1099511627776) (hg : callOk Try.prog g = true) (hsc : ScopedL H.length caps)
    (hf : ∀ i (h : i < xs.length) X, ACall Try.prog g (encR xs[i] :: caps) (H ++ X) (fun r H' => r = .bool (p xs[i]) ∧ H' = H ++ X)) :
    ACall Try.prog 68 [.sl .none (encL encR xs), .fn g caps] H (fun r H' => ∃ n : Int, r = .int .i64 n ∧ (0 ≤ n ↔ xs.any p = true) ∧ H' = H) := by
  have hsx : ScopedL H.length (encL encR xs) := scoped_encR _ _
  refine ACall_intro (H.length) Try.func68 rfl ?_
  simp only [Try.ntmps68, List.length_cons, List.length_nil, List.replicate, List.cons_append, List.nil_append, Nat.reduceAdd, Nat.reduceSub, Nat.zero_add]
  refine AW_seq_k (fun K9 hK9 => ?_)
  refine AW_region ?_
  all_goals (refine AOps_cons rfl (AOp_assign ?_) <;> try simp only [push_cast, Nat.reduceAdd])
  all_goals refine AOps_nil ?_
  all_goals
   refine thenK_normal (hK9 _ ?_)
   try clear hK9
   refine AW_seq_k (fun K10 hK10 => ?_)
   refine AW_seq_k (fun K11 hK11 => ?_)
   refine AW_region ?_
   all_goals refine AOps_cons rfl (AOp_move ?_)
   all_goals (try simp only [push_cast, Nat.reduceAdd])
   all_goals (refine AOps_cons rfl (AOp_len_sl _ _ _ rfl sl22 ?_) <;> try simp only [push_cast, Nat.reduceAdd])
   all_goals (refine AOps_cons rfl (AOp_move ?_) <;> try simp only [push_cast, Nat.reduceAdd])
   all_goals refine AOps_nil ?_
   all_goals
    refine thenK_normal (hK11 _ ?_)
    try clear hK11
    refine AW_block ?_
    refine AW_loopR (maskG 19 [0, 0, 5, 0]) (fun (i : Nat) => [(8, .int .i64 i)]) (fun _ => _) (fun i => i ≤ xs.length ∧ (xs.take i).any p = false) (fun i => xs.length - i) 0 ⟨Nat.zero_le _, by simp⟩ (by (simp only [push_cast, Nat.reduceAdd]; (first | refine weak_app0 ?_ | refine weak_same ?_); (repeat (first | exact SlotsOk.nil | refine SlotsOk.junk ?_ | refine SlotsOk.same (by first | (simp [push_cast]; done) | (simp [push_cast, Scoped, ScopedL, *]; done)) ?_ | refine SlotsOk.tok (by first | rfl | (simp; done)) (by first | (simp [push_cast]; done) | (simp [push_cast, Scoped, ScopedL, *]; done)) ?_ | refine SlotsOk.eq (by first | rfl | (congr 1; omega) | (simp; done) | (simp; omega)) (by first | (simp [push_cast]; done) | (simp [push_cast, Scoped, ScopedL, *]; done)) ?_)))) (fun i hi => ?_)
    (try simp only [push_cast, Nat.reduceAdd])
    refine AW_seq_k (fun K12 hK12 => ?_)
    refine AW_region ?_
    all_goals (refine AOps_cons rfl (AOp_bin_int _ _ _ _ rfl rfl rfl ?_) <;> try simp only [push_cast, Nat.reduceAdd])
    all_goals refine AOps_nil ?_
    all_goals
     refine thenK_normal (hK12 _ ?_)
     try clear hK12
     refine AW_seq_k (fun K13 hK13 => ?_)
     apply AW_cond
     case' hc => exact rfl
     case' hf =>
      intro hc14
      try (exfalso; (first | (cases hc14; done) | (simp at hc14; done) | (simp at hc14; omega)); done)
      all_goals (try simp only [decide_eq_true_eq, decide_eq_false_iff_not, Bool.not_eq_true', Bool.not_eq_false', Bool.not_eq_eq_eq_not, Bool.not_true, Bool.not_false] at hc14)
      all_goals
       refine AW_exit ?_
       repeat (first | refine thenK_exit ?_ | refine loopK_exit ?_ | refine blockK_other (by decide) ?_)
       refine blockK_same ?_
       refine thenK_normal (hK10 _ ?_)
       try clear hK10
       refine AW_seq_k (fun K15 hK15 => ?_)
       refine AW_region ?_
       all_goals (refine AOps_cons rfl (AOp_assign ?_) <;> try simp only [push_cast, Nat.reduceAdd])
       all_goals refine AOps_nil ?_
       all_goals
        refine thenK_normal (hK15 _ ?_)
        try clear hK15
        refine AW_ret ?_
        repeat (first | refine thenK_ret ?_ | refine loopK_ret ?_ | refine blockK_ret ?_)
        refine ⟨by first | exact .inl rfl | exact .inr rfl, _, rfl, (by first | exact outok_app 0 rfl (Nat.zero_le _) (by simp) | exact outok_self), by simp [push_cast], ?_⟩
        simp only [push_cast, Nat.reduceAdd]
        have hs : xs.take i = xs := List.take_of_length_le (by omega)
        rw [hs] at hi
        exact ⟨-1, rfl, ⟨by omega, fun h => by rw [hi.2] at h; cases h⟩, by simp⟩
     case' ht =>
      intro hc14
      try (exfalso; (first | (cases hc14; done) | (simp at hc14; done) | (simp at hc14; omega)); done)
      all_goals (try simp only [decide_eq_true_eq, decide_eq_false_iff_not, Bool.not_eq_true', Bool.not_eq_false', Bool.not_eq_eq_eq_not, Bool.not_true, Bool.not_false] at hc14)
      all_goals
       refine AW_skip ?_
       refine thenK_normal (hK13 _ ?_)
       try clear hK13
       refine AW_seq_k (fun K16 hK16 => ?_)
       refine AW_block ?_
       refine AW_seq_k (fun K17 hK17 => ?_)
       refine AW_region ?_
       all_goals refine AOps_cons rfl (AOp_move ?_)
       all_goals (refine AOps_cons rfl (AOp_assign ?_) <;> try simp only [push_cast, Nat.reduceAdd])
       all_goals refine AOps_nil ?_
       all_goals
        refine thenK_normal (hK17 _ ?_)
        try clear hK17
        refine AW_seq_k (fun K18 hK18 => ?_)
        refine AW_region ?_
        all_goals refine AOps_cons rfl (AOp_move ?_)
        all_goals refine AOps_cons rfl (AOp_move ?_)
        all_goals refine AOps_cons rfl (AOp_move ?_)
        all_goals (try simp only [push_cast, Nat.reduceAdd])
        all_goals (refine AOps_cons rfl (AOp_indexAddr_sl 63 _ _ _ _ _ rfl rfl sl22 sz63 (by decide) (by exact uni_encR _) (by first | omega | (simp; omega)) (by first | omega | (simp [push_cast]; omega) | (simp [push_cast]; done)) ?_) <;> try simp only [push_cast, Nat.reduceAdd])
        all_goals (refine AOps_cons rfl (AOp_load_cptr _ _ rfl sz63 ag63 (by simp [push_cast]) ?_) <;> try simp only [push_cast, Nat.reduceAdd])
        all_goals refine AOps_cons rfl (AOp_call _ _ _ rfl rfl hg ?_)
        all_goals have hfi := hf i (by omega) []
        all_goals simp only [List.append_nil] at hfi
        all_goals simp only [push_cast]
        all_goals refine hfi.mono ?_
        all_goals rintro r H' ⟨rfl, rfl⟩
        all_goals (try simp only [push_cast, Nat.reduceAdd])
        all_goals refine AOps_nil ?_
        all_goals
         refine thenK_normal (hK18 _ ?_)
         try clear hK18
         apply AW_cond
         case' hc => exact rfl
         case' hf =>
          intro hc19
          try (exfalso; (first | (cases hc19; done) | (simp at hc19; done) | (simp at hc19; omega)); done)
          all_goals (try simp only [decide_eq_true_eq, decide_eq_false_iff_not, Bool.not_eq_true', Bool.not_eq_false', Bool.not_eq_eq_eq_not, Bool.not_true, Bool.not_false] at hc19)
          all_goals
           refine AW_skip ?_
           refine blockK_normal ?_
           refine thenK_normal (hK16 _ ?_)
           try clear hK16
           refine AW_region ?_
           all_goals refine AOps_cons rfl (AOp_bin_int _ _ _ _ rfl rfl rfl ?_)
           all_goals (try simp only [push_cast, Nat.reduceAdd])
           all_goals (try rw [IntWalk.i64_in _ (by omega)])
           all_goals (try simp only [push_cast, Nat.reduceAdd])
           all_goals (refine AOps_cons rfl (AOp_move ?_) <;> try simp only [push_cast, Nat.reduceAdd])
           all_goals refine AOps_nil ?_
           all_goals
            refine loopK_normal ?_
            exact ⟨i + 1, ⟨by omega, any_take_false hi.2 (by omega) (by assumption)⟩, by (simp only [push_cast, Nat.reduceAdd]; (first | refine weak_app0 ?_ | refine weak_same ?_); (repeat (first | exact SlotsOk.nil | refine SlotsOk.junk ?_ | refine SlotsOk.same (by first | (simp [push_cast]; done) | (simp [push_cast, Scoped, ScopedL, *]; done)) ?_ | refine SlotsOk.tok (by first | rfl | (simp; done)) (by first | (simp [push_cast]; done) | (simp [push_cast, Scoped, ScopedL, *]; done)) ?_ | refine SlotsOk.eq (by first | rfl | (congr 1; omega) | (simp; done) | (simp; omega)) (by first | (simp [push_cast]; done) | (simp [push_cast, Scoped, ScopedL, *]; done)) ?_))), by omega⟩
         case' ht =>
          intro hc19
          try (exfalso; (first | (cases hc19; done) | (simp at hc19; done) | (simp at hc19; omega)); done)
          all_goals (try simp only [decide_eq_true_eq, decide_eq_false_iff_not, Bool.not_eq_true', Bool.not_eq_false', Bool.not_eq_eq_eq_not, Bool.not_true, Bool.not_false] at hc19)
          all_goals
           refine AW_seq_k (fun K20 hK20 => ?_)
           refine AW_region ?_
           all_goals refine AOps_cons rfl (AOp_move ?_)
           all_goals (refine AOps_cons rfl (AOp_assign ?_) <;> try simp only [push_cast, Nat.reduceAdd])
           all_goals refine AOps_nil ?_
           all_goals
            refine thenK_normal (hK20 _ ?_)
            try clear hK20
            refine AW_ret ?_
            repeat (first | refine thenK_ret ?_ | refine loopK_ret ?_ | refine blockK_ret ?_)
            refine ⟨by first | exact .inl rfl | exact .inr rfl, _, rfl, (by first | exact outok_app 0 rfl (Nat.zero_le _) (by simp) | exact outok_self), by simp [push_cast], ?_⟩
            simp only [push_cast, Nat.reduceAdd]
            exact ⟨i, rfl, ⟨fun _ => any_get (xs := xs) (i := i) (by omega) (by assumption), fun _ => by omega⟩, by simp⟩
theorem containsR_ac (xs : List Rank) (g : Nat) (caps : List AV) (p : Rank → Bool) (H : List AObj) (hlen : xs.length < 1099511627776) (hg : callOk Try.prog g = true) (hsc : ScopedL H.length caps)
    (hf : ∀ i (h : i < xs.length) X, ACall Try.prog g (encR xs[i] :: caps) (H ++ X) (fun r H' => r = .bool (p xs[i]) ∧ H' = H ++ X)) :
    ACall Try.prog 49 [.sl .none (encL encR xs), .fn g caps] H (fun r H' => r = .bool (xs.any p) ∧ H' = H) := by
  refine ACall_intro (H.length) Try.func49 rfl ?_
  simp only [Try.ntmps49, List.length_cons, List.length_nil, List.replicate, List.cons_append, List.nil_append, Nat.reduceAdd, Nat.reduceSub, Nat.zero_add]
  refine AW_seq_k (fun K21 hK21 => ?_)
  refine AW_region ?_
  all_goals (refine AOps_cons rfl (AOp_assign ?_) <;> try simp only [push_cast, Nat.reduceAdd])
  all_goals refine AOps_nil ?_
  all_goals
   refine thenK_normal (hK21 _ ?_)
   try clear hK21
   refine AW_seq_k (fun K22 hK22 => ?_)
   refine AW_region ?_
   all_goals refine AOps_cons rfl (AOp_move ?_)
   all_goals refine AOps_cons rfl (AOp_move ?_)
   all_goals (try simp only [push_cast, Nat.reduceAdd])
   all_goals refine AOps_cons rfl (AOp_call _ _ _ rfl rfl ok68 ?_)
   all_goals (try simp only [push_cast, Nat.reduceAdd])
   all_goals refine (indexR_ac xs g caps p _ hlen hg hsc hf).mono ?_
   all_goals rintro r H' ⟨n, rfl, hn, rfl⟩
   all_goals (try simp only [push_cast, Nat.reduceAdd])
   all_goals (refine AOps_cons rfl (AOp_bin_int _ _ _ _ rfl rfl rfl ?_) <;> try simp only [push_cast, Nat.reduceAdd])
   all_goals (refine AOps_cons rfl (AOp_assign ?_) <;> try simp only [push_cast, Nat.reduceAdd])
   all_goals refine AOps_nil ?_
   all_goals
    refine thenK_normal (hK22 _ ?_)
    try clear hK22
    refine AW_ret ?_
    repeat (first | refine thenK_ret ?_ | refine loopK_ret ?_ | refine blockK_ret ?_)
    refine ⟨by first | exact .inl rfl | exact .inr rfl, _, rfl, (by first | exact outok_app 0 rfl (Nat.zero_le _) (by simp) | exact outok_self), by simp [push_cast], ?_⟩
    simp only [push_cast, Nat.reduceAdd]
    simp only [hn, and_true]; cases xs.any p <;> simp
end Ab
set_option maxRecDepth 10000
namespace Ab
open Go Go.Proofs
attribute [local push_cast] encT encR scoped_encR
def leB (a b : List UInt8) : Bool := Op.bytesLess a b || decide (a = b)
def goodAt (l : List Rank) (i : Nat) : Bool := isNameP (l.getD i zeroR).name true && (decide (i = 0) || !leB (l.getD i zeroR).name (l.getD (i - 1) zeroR).name)
def namesP (l : List Rank) : Int := if 256 < l.length then 3 else if (List.range l.length).all (goodAt l) then 0 else 4
set_option maxHeartbeats 1600000 in
theorem names_ac (l : List Rank) (hlen : l.length < 1099511627776) (hnl : ∀ x, x ∈ l → x.name.length < 1099511627776) (H : List AObj) : ACall Try.prog 46 [.sl .none (encL encR l), .fn 47 []] H (fun r H' => r = .int .i64 (namesP l) ∧ H' = H) := by
  refine ACall_intro (H.length) Try.func46 rfl ?_
  simp only [Try.ntmps46, List.length_cons, List.length_nil, List.replicate, List.cons_append, List.nil_append, Nat.reduceAdd, Nat.reduceSub, Nat.zero_add]
  refine AW_seq_k (fun K1 hK1 => ?_)
  refine AW_region ?_
  all_goals (refine AOps_cons rfl (AOp_assign ?_) <;> try simp only [push_cast, Nat.reduceAdd])
  all_goals refine AOps_nil ?_
  all_goals
   refine thenK_normal (hK1 _ ?_)
   try clear hK1
   refine AW_seq_k (fun K2 hK2 => ?_)
   refine AW_seq_k (fun K3 hK3 => ?_)
   refine AW_region ?_
   all_goals refine AOps_cons rfl (AOp_move ?_)
   all_goals (try simp only [push_cast, Nat.reduceAdd])
   all_goals (refine AOps_cons rfl (AOp_len_sl _ _ _ rfl sl22 ?_) <;> try simp only [push_cast, Nat.reduceAdd])
   all_goals (refine AOps_cons rfl (AOp_bin_int _ _ _ _ rfl rfl rfl ?_) <;> try simp only [push_cast, Nat.reduceAdd])
   all_goals refine AOps_nil ?_
   all_goals
    refine thenK_normal (hK3 _ ?_)
    try clear hK3
    apply AW_cond
    case' hc => exact rfl
    case' hf =>
     intro hc4
     try (exfalso; (first | (cases hc4; done) | (simp at hc4; done) | (simp at hc4; omega)); done)
     all_goals (try simp only [decide_eq_true_eq, decide_eq_false_iff_not, Bool.not_eq_true', Bool.not_eq_false', Bool.not_eq_eq_eq_not, Bool.not_true, Bool.not_false] at hc4)
     all_goals
      refine AW_skip ?_
      refine thenK_normal (hK2 _ ?_)
      try clear hK2
      refine AW_seq_k (fun K5 hK5 => ?_)
      refine AW_seq_k (fun K6 hK6 => ?_)
      refine AW_region ?_
      all_goals refine AOps_cons rfl (AOp_move ?_)
      all_goals (try simp only [push_cast, Nat.reduceAdd])
      all_goals (refine AOps_cons rfl (AOp_len_sl _ _ _ rfl sl22 ?_) <;> try simp only [push_cast, Nat.reduceAdd])
      all_goals (refine AOps_cons rfl (AOp_move ?_) <;> try simp only [push_cast, Nat.reduceAdd])
      all_goals refine AOps_nil ?_
      all_goals
       refine thenK_normal (hK6 _ ?_)
       try clear hK6
       refine AW_block ?_
       refine AW_loopR (maskG 40 [0, 0, 8, 0, 0]) (fun (i : Nat) => [(12, .int .i64 i)]) (fun _ => _) (fun i => i ≤ l.length ∧ (List.range i).all (goodAt l) = true) (fun i => l.length - i) 0 ⟨Nat.zero_le _, by simp⟩ (by (simp only [push_cast, Nat.reduceAdd]; (first | refine weak_app0 ?_ | refine weak_same ?_); (repeat (first | exact SlotsOk.nil | refine SlotsOk.junk ?_ | refine SlotsOk.same (by first | (simp [push_cast]; done) | (simp [push_cast, Scoped, ScopedL, *]; done)) ?_ | refine SlotsOk.tok (by first | rfl | (simp; done)) (by first | (simp [push_cast]; done) | (simp [push_cast, Scoped, ScopedL, *]; done)) ?_ | refine SlotsOk.eq (by first | rfl | (congr 1; omega) | (simp; done) | (simp; omega)) (by first | (simp [push_cast]; done) | (simp [push_cast, Scoped, ScopedL, *]; done)) ?_)))) (fun i hi => ?_)
       (try simp only [push_cast, Nat.reduceAdd])
       refine AW_seq_k (fun K7 hK7 => ?_)
       refine AW_region ?_
       all_goals (refine AOps_cons rfl (AOp_bin_int _ _ _ _ rfl rfl rfl ?_) <;> try simp only [push_cast, Nat.reduceAdd])
       all_goals refine AOps_nil ?_
       all_goals
        refine thenK_normal (hK7 _ ?_)
        try clear hK7
        refine AW_seq_k (fun K8 hK8 => ?_)
        apply AW_cond
        case' hc => exact rfl
        case' hf =>
         intro hc9
         try (exfalso; (first | (cases hc9; done) | (simp at hc9; done) | (simp at hc9; omega)); done)
         all_goals (try simp only [decide_eq_true_eq, decide_eq_false_iff_not, Bool.not_eq_true', Bool.not_eq_false', Bool.not_eq_eq_eq_not, Bool.not_true, Bool.not_false] at hc9)
         all_goals
          refine AW_exit ?_
          repeat (first | refine thenK_exit ?_ | refine loopK_exit ?_ | refine blockK_other (by decide) ?_)
          refine blockK_same ?_
          refine thenK_normal (hK5 _ ?_)
          try clear hK5
          refine AW_seq_k (fun K10 hK10 => ?_)
          refine AW_region ?_
          all_goals (refine AOps_cons rfl (AOp_assign ?_) <;> try simp only [push_cast, Nat.reduceAdd])
          all_goals refine AOps_nil ?_
          all_goals
           refine thenK_normal (hK10 _ ?_)
           try clear hK10
           refine AW_ret ?_
           repeat (first | refine thenK_ret ?_ | refine loopK_ret ?_ | refine blockK_ret ?_)
           refine ⟨by first | exact .inl rfl | exact .inr rfl, _, rfl, (by first | exact outok_app 0 rfl (Nat.zero_le _) (by simp) | exact outok_self), by simp [push_cast], ?_⟩
           simp only [push_cast, Nat.reduceAdd]
           have hgd : ∀ j (h : j < l.length), l.getD j zeroR = l[j] := fun j h => by simp [h]
           first
             | (have h1 : 256 < l.length := (by omega); simp [namesP, h1]; done)
             | (have h1 : ¬ 256 < l.length := (by omega)
                have hs : (List.range l.length).all (goodAt l) = true := (by rw [← show i = l.length by omega]; exact hi.2)
                simp only [namesP, h1, if_false, hs, if_true]; simp; done)
             | (have h1 : ¬ 256 < l.length := (by omega)
                have hbad : goodAt l i = false := (by
                  unfold goodAt
                  rw [hgd i hil, hb]
                  first
                    | rfl
                    | (rw [hgd (i - 1) (by omega)]
                       have hq : (Op.bytesLess l[i].name (l[i - 1]'(by omega)).name || decide (l[i].name = (l[i - 1]'(by omega)).name)) = true := (by assumption)
                       have h0 : ¬ i = 0 := (by omega)
                       simp only [leB, hq]; simp [h0]))
                have hs : (List.range l.length).all (goodAt l) = false := all_get (i := i) (by simpa using hil) (by simpa using hbad)
                simp only [namesP, h1, if_false, hs]; simp; done)
             | trace_state
        case' ht =>
         intro hc9
         try (exfalso; (first | (cases hc9; done) | (simp at hc9; done) | (simp at hc9; omega)); done)
         all_goals (try simp only [decide_eq_true_eq, decide_eq_false_iff_not, Bool.not_eq_true', Bool.not_eq_false', Bool.not_eq_eq_eq_not, Bool.not_true, Bool.not_false] at hc9)
         all_goals
          refine AW_skip ?_
          refine thenK_normal (hK8 _ ?_)
          try clear hK8
          refine AW_seq_k (fun K11 hK11 => ?_)
          refine AW_block ?_
          refine AW_seq_k (fun K12 hK12 => ?_)
          refine AW_region ?_
          all_goals refine AOps_cons rfl (AOp_move ?_)
          all_goals (try simp only [push_cast, Nat.reduceAdd])
          all_goals (refine AOps_cons rfl (AOp_indexAddr_sl 63 _ _ _ _ _ rfl rfl sl22 sz63 (by decide) (by exact uni_encR _) (by first | omega | (simp; omega)) (by first | omega | (simp [push_cast]; omega) | (simp [push_cast]; done)) ?_) <;> try simp only [push_cast, Nat.reduceAdd])
          all_goals (refine AOps_cons rfl (AOp_load_cptr _ _ rfl sz63 ag63 (by simp [push_cast]) ?_) <;> try simp only [push_cast, Nat.reduceAdd])
          all_goals (refine AOps_cons rfl (AOp_alloc _ zr63 (by simp [ofVal, AV.isCell, Value.oneCell']) ?_) <;> try simp only [push_cast, Nat.reduceAdd])
          all_goals refine AOps_cons rfl (AOp_assign ?_)
          all_goals (try simp only [push_cast, Nat.reduceAdd])
          all_goals (refine AOps_cons rfl (AOp_store _ _ _ _ _ rfl (by first | exact hget0 | exact hgetN _ rfl | assumption | exact hgetL (by assumption)) rfl rfl (by first | exact .inl rfl | exact .inr ⟨_, rfl⟩) (by simp [push_cast, AV.isCell]) sz63 (by simp [push_cast]) ?_) <;> try simp only [push_cast, Nat.reduceAdd])
          all_goals refine AOps_nil ?_
          all_goals
           refine thenK_normal (hK12 _ ?_)
           try clear hK12
           refine AW_seq_k (fun K13 hK13 => ?_)
           have hil : i < l.length := by omega
           have hnli := hnl l[i] (by simp)
           cases hb : isNameP l[i].name true <;> by_cases hi0 : 0 < i
           all_goals first | (have hd : decide ((0 : Int) < (i : Int)) = true := (by simp; omega)) | (have hd : decide ((0 : Int) < (i : Int)) = false := (by simp; omega))
           all_goals
             apply AW_drawE [some 17, some 18, some 19, some 20, some 21, some 22, some 23, some 24, some 25, some 26, some 27, some 28, some 29, some 30, some 31, some 32, some 33, some 34, some 35, some 36, some 37, some 38] [([], _)] [none, none, none, none, none, none, none, none, none, none, none, none, none, none, none, none, none, none, none, none, none, none] 0 [(0, [], [1]), (1, [], [6]), (2, [], [17, 0]), (3, [], [19]), (4, [], [20]), (5, [], [21]), (6, [], [5, 16]), (7, [], [22, 0]), (8, [], [22, 1]), (9, [], [1, 23]), (10, [], [6, 18]), (11, [], [25, 0, 0]), (12, [], [1, 23]), (13, [], [0, 24]), (14, [], [5, 19]), (15, [], [25, 5]), (16, [], [25, 4, 1]), (17, [], [25, 7]), (18, [], [25, 3, 4]), (19, [], [25, 2, 6]), (20, [], [22, 2, 10]), (21, [], [22, 14])] [_, _, _, _, _, _, _, _, _, _, _, _, _, _, _, _, _, _, _, _, _, _]
             case' hm => exact dr
             case' hn => rfl
             case' hok => rfl
             case' hlen => rfl
             case' hd => rfl
             case' h0 => rfl
             case' hstep =>
              simp only [DAllG, keepG, List.map_cons, List.map_nil, putD, stg, beqB, List.set_cons_zero, List.set_cons_succ, List.getD_cons_zero, List.getD_cons_succ, Option.isSome_some, Option.isSome_none]
              apply And.intro
              · apply DOne_do
                case' ho => rfl
                case' hw => rfl
                refine AOp_move ?_
                all_goals (try simp only [push_cast, Nat.reduceAdd])
                all_goals (constructor <;> first | rfl | trivial)
              apply And.intro
              · apply DOne_do
                case' ho => rfl
                case' hw => rfl
                refine AOp_load_ptr _ _ _ _ rfl (by first | exact hget0 | exact hgetN _ rfl | assumption | exact hgetL (by assumption)) sz63 ag63 (by simp [push_cast]) ?_
                all_goals (try simp only [push_cast, Nat.reduceAdd])
                all_goals (constructor <;> first | rfl | trivial)
              apply And.intro
              · apply DOne_do
                case' ho => rfl
                case' hw => rfl
                refine AOp_call _ _ _ rfl rfl ok47 ?_
                refine (checkName_ac l[i] _).mono ?_
                rintro r H' ⟨rfl, rfl⟩
                all_goals (try simp only [push_cast, Nat.reduceAdd])
                all_goals (constructor <;> first | rfl | trivial)
              apply And.intro
              · apply DOne_do
                case' ho => rfl
                case' hw => rfl
                refine AOp_call _ _ _ rfl rfl ok64 ?_
                (try simp only [push_cast, Nat.reduceAdd])
                refine (isName_ac _ _ _ hnli).mono ?_
                rintro r H' ⟨rfl, rfl⟩
                simp only [hb]
                all_goals (try simp only [push_cast, Nat.reduceAdd])
                all_goals (constructor <;> first | rfl | trivial)
              apply And.intro
              · apply DOne_do
                case' ho => rfl
                case' hw => rfl
                refine AOp_not _ rfl ?_
                all_goals (try simp only [push_cast, Nat.reduceAdd])
                all_goals (constructor <;> first | rfl | trivial)
              apply And.intro
              · apply DOne_do
                case' ho => rfl
                case' hw => rfl
                refine AOp_move ?_
                all_goals (try simp only [push_cast, Nat.reduceAdd])
                all_goals (constructor <;> first | rfl | trivial)
              apply And.intro
              · first
                | exact DOne_no rfl rfl rfl
                | (apply DOne_do
                   case' ho => rfl
                   case' hw => rfl
                   refine AOp_move ?_
                   all_goals (try simp only [push_cast, Nat.reduceAdd])
                   all_goals (constructor <;> first | rfl | trivial))
              apply And.intro
              · first
                | exact DOne_no rfl rfl rfl
                | (apply DOne_do
                   case' ho => rfl
                   case' hw => rfl
                   refine AOp_bin_int _ _ _ _ rfl rfl rfl ?_
                   rw [hd]
                   all_goals (try simp only [push_cast, Nat.reduceAdd])
                   all_goals (constructor <;> first | rfl | trivial))
              apply And.intro
              · first
                | exact DOne_no rfl rfl rfl
                | (apply DOne_do
                   case' ho => rfl
                   case' hw => rfl
                   refine AOp_move ?_
                   all_goals (try simp only [push_cast, Nat.reduceAdd])
                   all_goals (constructor <;> first | rfl | trivial))
              apply And.intro
              · first
                | exact DOne_no rfl rfl rfl
                | (apply DOne_do
                   case' ho => rfl
                   case' hw => rfl
                   refine AOp_move ?_
                   all_goals (try simp only [push_cast, Nat.reduceAdd])
                   all_goals (constructor <;> first | rfl | trivial))
              apply And.intro
              · first
                | exact DOne_no rfl rfl rfl
                | (apply DOne_do
                   case' ho => rfl
                   case' hw => rfl
                   refine AOp_load_ptr _ _ _ _ rfl (by first | exact hget0 | exact hgetN _ rfl | assumption | exact hgetL (by assumption)) sz63 ag63 (by simp [push_cast]) ?_
                   all_goals (try simp only [push_cast, Nat.reduceAdd])
                   all_goals (constructor <;> first | rfl | trivial))
              apply And.intro
              · first
                | exact DOne_no rfl rfl rfl
                | (apply DOne_do
                   case' ho => rfl
                   case' hw => rfl
                   refine AOp_call _ _ _ rfl rfl ok47 ?_
                   refine (checkName_ac l[i] _).mono ?_
                   rintro r H' ⟨rfl, rfl⟩
                   all_goals (try simp only [push_cast, Nat.reduceAdd])
                   all_goals (constructor <;> first | rfl | trivial))
              apply And.intro
              · first
                | exact DOne_no rfl rfl rfl
                | (apply DOne_do
                   case' ho => rfl
                   case' hw => rfl
                   refine AOp_move ?_
                   all_goals (try simp only [push_cast, Nat.reduceAdd])
                   all_goals (constructor <;> first | rfl | trivial))
              apply And.intro
              · first
                | exact DOne_no rfl rfl rfl
                | (apply DOne_do
                   case' ho => rfl
                   case' hw => rfl
                   refine AOp_move ?_
                   all_goals (try simp only [push_cast, Nat.reduceAdd])
                   all_goals (constructor <;> first | rfl | trivial))
              apply And.intro
              · first
                | exact DOne_no rfl rfl rfl
                | (apply DOne_do
                   case' ho => rfl
                   case' hw => rfl
                   refine AOp_move ?_
                   all_goals (try simp only [push_cast, Nat.reduceAdd])
                   all_goals (constructor <;> first | rfl | trivial))
              apply And.intro
              · first
                | exact DOne_no rfl rfl rfl
                | (apply DOne_do
                   case' ho => rfl
                   case' hw => rfl
                   refine AOp_bin_int _ _ _ _ rfl rfl rfl ?_
                   (try simp only [push_cast, Nat.reduceAdd])
                   (try rw [IntWalk.i64_in _ (by omega)])
                   rw [show (i : Int) - 1 = ((i - 1 : Nat) : Int) from by omega]
                   all_goals (try simp only [push_cast, Nat.reduceAdd])
                   all_goals (constructor <;> first | rfl | trivial))
              apply And.intro
              · first
                | exact DOne_no rfl rfl rfl
                | (apply DOne_do
                   case' ho => rfl
                   case' hw => rfl
                   refine AOp_indexAddr_sl 63 _ _ _ _ _ rfl rfl sl22 sz63 (by decide) (by exact uni_encR _) (by first | omega | (simp; omega)) (by first | omega | (simp [push_cast]; omega) | (simp [push_cast]; done)) ?_
                   all_goals (try simp only [push_cast, Nat.reduceAdd])
                   all_goals (constructor <;> first | rfl | trivial))
              apply And.intro
              · first
                | exact DOne_no rfl rfl rfl
                | (apply DOne_do
                   case' ho => rfl
                   case' hw => rfl
                   refine AOp_load_cptr _ _ rfl sz63 ag63 (by simp [push_cast]) ?_
                   all_goals (try simp only [push_cast, Nat.reduceAdd])
                   all_goals (constructor <;> first | rfl | trivial))
              apply And.intro
              · first
                | exact DOne_no rfl rfl rfl
                | (apply DOne_do
                   case' ho => rfl
                   case' hw => rfl
                   refine AOp_call _ _ _ rfl rfl ok47 ?_
                   refine (checkName_ac (l[i - 1]'(by omega)) _).mono ?_
                   rintro r H' ⟨rfl, rfl⟩
                   all_goals (try simp only [push_cast, Nat.reduceAdd])
                   all_goals (constructor <;> first | rfl | trivial))
              apply And.intro
              · first
                | exact DOne_no rfl rfl rfl
                | (apply DOne_do
                   case' ho => rfl
                   case' hw => rfl
                   refine AOp_bin_str _ _ _ rfl rfl rfl ?_
                   all_goals (try simp only [push_cast, Nat.reduceAdd])
                   all_goals (constructor <;> first | rfl | trivial))
              apply And.intro
              · first
                | exact DOne_no rfl rfl rfl
                | (apply DOne_do
                   case' ho => rfl
                   case' hw => rfl
                   refine AOp_pick _ rfl ?_
                   all_goals (try simp only [push_cast, Nat.reduceAdd])
                   all_goals (constructor <;> first | rfl | trivial))
              apply And.intro
              · apply DOne_do
                case' ho => rfl
                case' hw => rfl
                refine AOp_pick _ rfl ?_
                all_goals (try simp only [push_cast, Nat.reduceAdd])
                all_goals (constructor <;> first | rfl | trivial)
              exact trivial
             case' hQ => skip
             (try simp only [push_cast, putD, stg, beqB, List.replicate, Nat.reduceAdd, List.getD_cons_zero, List.getD_cons_succ])
           all_goals
            refine thenK_normal (hK13 _ ?_)
            try clear hK13
            apply AW_cond
            case' hc => exact rfl
            case' hf =>
             intro hc14
             try (exfalso; (first | (cases hc14; done) | (simp at hc14; done) | (simp at hc14; omega)); done)
             all_goals (try simp only [decide_eq_true_eq, decide_eq_false_iff_not, Bool.not_eq_true', Bool.not_eq_false', Bool.not_eq_eq_eq_not, Bool.not_true, Bool.not_false] at hc14)
             all_goals
              refine AW_skip ?_
              refine blockK_normal ?_
              refine thenK_normal (hK11 _ ?_)
              try clear hK11
              refine AW_region ?_
              all_goals refine AOps_cons rfl (AOp_bin_int _ _ _ _ rfl rfl rfl ?_)
              all_goals (try simp only [push_cast, Nat.reduceAdd])
              all_goals (try rw [IntWalk.i64_in _ (by omega)])
              all_goals (try simp only [push_cast, Nat.reduceAdd])
              all_goals (refine AOps_cons rfl (AOp_move ?_) <;> try simp only [push_cast, Nat.reduceAdd])
              all_goals refine AOps_nil ?_
              all_goals
               refine loopK_normal ?_
               refine ⟨i + 1, ⟨by omega, ?_⟩, by (simp only [push_cast, Nat.reduceAdd]; (first | refine weak_app0 ?_ | refine weak_same ?_); (repeat (first | exact SlotsOk.nil | refine SlotsOk.junk ?_ | refine SlotsOk.same (by first | (simp [push_cast]; done) | (simp [push_cast, Scoped, ScopedL, *]; done)) ?_ | refine SlotsOk.tok (by first | rfl | (simp; done)) (by first | (simp [push_cast]; done) | (simp [push_cast, Scoped, ScopedL, *]; done)) ?_ | refine SlotsOk.eq (by first | rfl | (congr 1; omega) | (simp; done) | (simp; omega)) (by first | (simp [push_cast]; done) | (simp [push_cast, Scoped, ScopedL, *]; done)) ?_))), by omega⟩
               have hil : i < l.length := by omega
               have hg : goodAt l i = true := by
                 unfold goodAt
                 rw [show l.getD i zeroR = l[i] from by simp [hil]]
                 have hb : isNameP l[i].name true = true := by assumption
                 rw [hb]
                 by_cases h0 : i = 0
                 · simp [h0]
                 · rw [show l.getD (i - 1) zeroR = l[i - 1]'(by omega) from by simp [show i - 1 < l.length by omega]]
                   have hq : (Op.bytesLess l[i].name (l[i - 1]'(by omega)).name || decide (l[i].name = (l[i - 1]'(by omega)).name)) = false := by
                     first | assumption | (exfalso; omega)
                   simp only [leB, hq]; simp
               rw [List.range_succ, List.all_append, hi.2]; simp [hg]
            case' ht =>
             intro hc14
             try (exfalso; (first | (cases hc14; done) | (simp at hc14; done) | (simp at hc14; omega)); done)
             all_goals (try simp only [decide_eq_true_eq, decide_eq_false_iff_not, Bool.not_eq_true', Bool.not_eq_false', Bool.not_eq_eq_eq_not, Bool.not_true, Bool.not_false] at hc14)
             all_goals
              refine AW_seq_k (fun K15 hK15 => ?_)
              refine AW_region ?_
              all_goals (refine AOps_cons rfl (AOp_assign ?_) <;> try simp only [push_cast, Nat.reduceAdd])
              all_goals refine AOps_nil ?_
              all_goals
               refine thenK_normal (hK15 _ ?_)
               try clear hK15
               refine AW_ret ?_
               repeat (first | refine thenK_ret ?_ | refine loopK_ret ?_ | refine blockK_ret ?_)
               refine ⟨by first | exact .inl rfl | exact .inr rfl, _, rfl, (by first | exact outok_app 0 rfl (Nat.zero_le _) (by simp) | exact outok_self), by simp [push_cast], ?_⟩
               simp only [push_cast, Nat.reduceAdd]
               have hgd : ∀ j (h : j < l.length), l.getD j zeroR = l[j] := fun j h => by simp [h]
               first
                 | (have h1 : 256 < l.length := (by omega); simp [namesP, h1]; done)
                 | (have h1 : ¬ 256 < l.length := (by omega)
                    have hs : (List.range l.length).all (goodAt l) = true := (by rw [← show i = l.length by omega]; exact hi.2)
                    simp only [namesP, h1, if_false, hs, if_true]; simp; done)
                 | (have h1 : ¬ 256 < l.length := (by omega)
                    have hbad : goodAt l i = false := (by
                      unfold goodAt
                      rw [hgd i hil, hb]
                      first
                        | rfl
                        | (rw [hgd (i - 1) (by omega)]
                           have hq : (Op.bytesLess l[i].name (l[i - 1]'(by omega)).name || decide (l[i].name = (l[i - 1]'(by omega)).name)) = true := (by assumption)
                           have h0 : ¬ i = 0 := (by omega)
                           simp only [leB, hq]; simp [h0]))
                    have hs : (List.range l.length).all (goodAt l) = false := all_get (i := i) (by simpa using hil) (by simpa using hbad)
                    simp only [namesP, h1, if_false, hs]; simp; done)
                 | trace_state
    case' ht =>
     intro hc4
     try (exfalso; (first | (cases hc4; done) | (simp at hc4; done) | (simp at hc4; omega)); done)
     all_goals (try simp only [decide_eq_true_eq, decide_eq_false_iff_not, Bool.not_eq_true', Bool.not_eq_false', Bool.not_eq_eq_eq_not, Bool.not_true, Bool.not_false] at hc4)
     all_goals
      refine AW_seq_k (fun K16 hK16 => ?_)
      refine AW_region ?_
      all_goals (refine AOps_cons rfl (AOp_assign ?_) <;> try simp only [push_cast, Nat.reduceAdd])
      all_goals refine AOps_nil ?_
      all_goals
       refine thenK_normal (hK16 _ ?_)
       try clear hK16
       refine AW_ret ?_
       repeat (first | refine thenK_ret ?_ | refine loopK_ret ?_ | refine blockK_ret ?_)
       refine ⟨by first | exact .inl rfl | exact .inr rfl, _, rfl, (by first | exact outok_app 0 rfl (Nat.zero_le _) (by simp) | exact outok_self), by simp [push_cast], ?_⟩
       simp only [push_cast, Nat.reduceAdd]
       have hgd : ∀ j (h : j < l.length), l.getD j zeroR = l[j] := fun j h => by simp [h]
       first
         | (have h1 : 256 < l.length := (by omega); simp [namesP, h1]; done)
         | (have h1 : ¬ 256 < l.length := (by omega)
            have hs : (List.range l.length).all (goodAt l) = true := (by rw [← show i = l.length by omega]; exact hi.2)
            simp only [namesP, h1, if_false, hs, if_true]; simp; done)
         | (have h1 : ¬ 256 < l.length := (by omega)
            have hbad : goodAt l i = false := (by
              unfold goodAt
              rw [hgd i hil, hb]
              first
                | rfl
                | (rw [hgd (i - 1) (by omega)]
                   have hq : (Op.bytesLess l[i].name (l[i - 1]'(by omega)).name || decide (l[i].name = (l[i - 1]'(by omega)).name)) = true := (by assumption)
                   have h0 : ¬ i = 0 := (by omega)
                   simp only [leB, hq]; simp [h0]))
            have hs : (List.range l.length).all (goodAt l) = false := all_get (i := i) (by simpa using hil) (by simpa using hbad)
            simp only [namesP, h1, if_false, hs]; simp; done)
         | trace_state
end Ab
set_option maxRecDepth 10000
namespace Ab
open Go Go.Proofs
attribute [local push_cast] encT encR scoped_encR
def wcheckP (l : List Rank) (unit : Int) : Int := if namesP l ≠ 0 then namesP l else if (l.any fun x => badP x.rank || badP x.weight) || decide (unit < 1) || badP unit then 2 else 0
theorem wcheck_ac (l : List Rank) (unit : Int) (hlen : l.length < 1099511627776) (hnl : ∀ x, x ∈ l → x.name.length < 1099511627776) (H : List AObj) : ACall Try.prog 24 [.sl .none (encL encR l), .int .i64 unit] H (fun r H' => r = .int .i64 (wcheckP l unit) ∧ H' = H) := by
  refine ACall_intro (H.length) Try.func24 rfl ?_
  simp only [Try.ntmps24, List.length_cons, List.length_nil, List.replicate, List.cons_append, List.nil_append, Nat.reduceAdd, Nat.reduceSub, Nat.zero_add]
  refine AW_seq_k (fun K1 hK1 => ?_)
  refine AW_region ?_
  all_goals (refine AOps_cons rfl (AOp_assign ?_) <;> try simp only [push_cast, Nat.reduceAdd])
  all_goals refine AOps_nil ?_
  all_goals
   refine thenK_normal (hK1 _ ?_)
   try clear hK1
   refine AW_seq_k (fun K2 hK2 => ?_)
   refine AW_seq_k (fun K3 hK3 => ?_)
   refine AW_region ?_
   all_goals refine AOps_cons rfl (AOp_move ?_)
   all_goals (try simp only [push_cast, Nat.reduceAdd])
   all_goals refine AOps_cons rfl (AOp_call _ _ _ rfl rfl ok46 ?_)
   all_goals (try simp only [push_cast, Nat.reduceAdd])
   all_goals refine (names_ac l hlen hnl _).mono ?_
   all_goals rintro r H' ⟨rfl, rfl⟩
   all_goals (try simp only [push_cast, Nat.reduceAdd])
   all_goals (refine AOps_cons rfl (AOp_assign ?_) <;> try simp only [push_cast, Nat.reduceAdd])
   all_goals refine AOps_nil ?_
   all_goals
    refine thenK_normal (hK3 _ ?_)
    try clear hK3
    refine AW_seq_k (fun K4 hK4 => ?_)
    refine AW_region ?_
    all_goals refine AOps_cons rfl (AOp_move ?_)
    all_goals (try simp only [push_cast, Nat.reduceAdd])
    all_goals (refine AOps_cons rfl (AOp_bin_int _ _ _ _ rfl rfl rfl ?_) <;> try simp only [push_cast, Nat.reduceAdd])
    all_goals refine AOps_nil ?_
    all_goals
     refine thenK_normal (hK4 _ ?_)
     try clear hK4
     apply AW_cond
     case' hc => exact rfl
     case' hf =>
      intro hc5
      try (exfalso; (first | (cases hc5; done) | (simp at hc5; done) | (simp at hc5; omega)); done)
      all_goals (try simp only [decide_eq_true_eq, decide_eq_false_iff_not, Bool.not_eq_true', Bool.not_eq_false', Bool.not_eq_eq_eq_not, Bool.not_true, Bool.not_false] at hc5)
      all_goals
       refine AW_skip ?_
       refine thenK_normal (hK2 _ ?_)
       try clear hK2
       refine AW_seq_k (fun K6 hK6 => ?_)
       refine AW_region ?_
       all_goals (refine AOps_cons rfl (AOp_alloc _ zr80 (by simp [ofVal, AV.isCell, Value.oneCell']) ?_) <;> try simp only [push_cast, Nat.reduceAdd])
       all_goals (refine AOps_cons rfl (AOp_store _ _ _ _ _ rfl (by first | exact hget0 | exact hgetN _ rfl | assumption | exact hgetL (by assumption)) rfl rfl (by first | exact .inl rfl | exact .inr ⟨_, rfl⟩) (by simp [push_cast, AV.isCell]) sz80 (by simp [push_cast]) ?_) <;> try simp only [push_cast, Nat.reduceAdd])
       all_goals refine AOps_nil ?_
       all_goals
        refine thenK_normal (hK6 _ ?_)
        try clear hK6
        refine AW_seq_k (fun K7 hK7 => ?_)
        refine AW_seq_k (fun K8 hK8 => ?_)
        refine AW_region ?_
        all_goals refine AOps_cons rfl (AOp_move ?_)
        all_goals refine AOps_cons rfl (AOp_makeFunc ?_)
        all_goals (try simp only [push_cast, Nat.reduceAdd])
        all_goals refine AOps_cons rfl (AOp_call _ _ _ rfl rfl ok49 ?_)
        all_goals (try simp only [push_cast, Nat.reduceAdd])
        all_goals refine (containsR_ac l 50 [.ptr _ 0] (fun x => badP x.rank || badP x.weight) _ hlen ok50 (by simp [ScopedL, Scoped]) (fun i h X => checkRank_ac _ _ _ (by rw [List.append_assoc]; exact hget0))).mono ?_
        all_goals rintro r H' ⟨rfl, rfl⟩
        all_goals (try simp only [push_cast, Nat.reduceAdd])
        all_goals refine AOps_cons rfl (AOp_move ?_)
        all_goals (try simp only [push_cast, Nat.reduceAdd])
        all_goals (try refine AOps_split 15 _ rfl (fun hg9 => ?_) (fun hg9 => ?_))
        all_goals (try (exfalso; (first | (cases hg9; done) | (simp at hg9; done) | (simp at hg9; omega)); done))
        all_goals (try simp only [decide_eq_true_eq, decide_eq_false_iff_not, Bool.not_eq_true', Bool.not_eq_false', Bool.not_eq_eq_eq_not, Bool.not_true, Bool.not_false] at hg9)
        all_goals first
         | refine AOps_skip rfl ?_
         | (refine AOps_cons rfl ?_
            refine AOp_move ?_)
        all_goals (try simp only [push_cast, Nat.reduceAdd])
        all_goals first
         | refine AOps_skip rfl ?_
         | (refine AOps_cons rfl ?_
            refine AOp_bin_int _ _ _ _ rfl rfl rfl ?_)
        all_goals (try simp only [push_cast, Nat.reduceAdd])
        all_goals refine AOps_cons rfl (AOp_pick _ rfl ?_)
        all_goals refine AOps_cons rfl (AOp_move ?_)
        all_goals (try simp only [push_cast, Nat.reduceAdd])
        all_goals (try refine AOps_split 19 _ rfl (fun hg10 => ?_) (fun hg10 => ?_))
        all_goals (try (exfalso; (first | (cases hg10; done) | (simp at hg10; done) | (simp at hg10; omega)); done))
        all_goals (try simp only [decide_eq_true_eq, decide_eq_false_iff_not, Bool.not_eq_true', Bool.not_eq_false', Bool.not_eq_eq_eq_not, Bool.not_true, Bool.not_false] at hg10)
        all_goals first
         | refine AOps_skip rfl ?_
         | (refine AOps_cons rfl ?_
            refine AOp_load1_ptr _ _ _ _ _ rfl (by first | exact hget0 | exact hgetN _ rfl | assumption | exact hgetL (by assumption)) sz80 ag80 (by decide) (by simp [push_cast]) rfl ?_)
        all_goals (try simp only [push_cast, Nat.reduceAdd])
        all_goals first
         | refine AOps_skip rfl ?_
         | (refine AOps_cons rfl ?_
            refine AOp_move ?_)
        all_goals (try simp only [push_cast, Nat.reduceAdd])
        all_goals first
         | refine AOps_skip rfl ?_
         | (refine AOps_cons rfl ?_
            refine AOp_call _ _ _ rfl rfl ok48 ?_
            refine (checkBad_ac _ _).mono ?_
            rintro r H' ⟨rfl, rfl⟩)
        all_goals (try simp only [push_cast, Nat.reduceAdd])
        all_goals (refine AOps_cons rfl (AOp_pick _ rfl ?_) <;> try simp only [push_cast, Nat.reduceAdd])
        all_goals refine AOps_nil ?_
        all_goals
         refine thenK_normal (hK8 _ ?_)
         try clear hK8
         apply AW_cond
         case' hc => exact rfl
         case' hf =>
          intro hc11
          try (exfalso; (first | (cases hc11; done) | (simp at hc11; done) | (simp at hc11; omega)); done)
          all_goals (try simp only [decide_eq_true_eq, decide_eq_false_iff_not, Bool.not_eq_true', Bool.not_eq_false', Bool.not_eq_eq_eq_not, Bool.not_true, Bool.not_false] at hc11)
          all_goals
           refine AW_skip ?_
           refine thenK_normal (hK7 _ ?_)
           try clear hK7
           refine AW_seq_k (fun K12 hK12 => ?_)
           refine AW_region ?_
           all_goals (refine AOps_cons rfl (AOp_assign ?_) <;> try simp only [push_cast, Nat.reduceAdd])
           all_goals refine AOps_nil ?_
           all_goals
            refine thenK_normal (hK12 _ ?_)
            try clear hK12
            refine AW_ret ?_
            repeat (first | refine thenK_ret ?_ | refine loopK_ret ?_ | refine blockK_ret ?_)
            refine ⟨by first | exact .inl rfl | exact .inr rfl, _, rfl, (by first | exact outok_app 0 rfl (Nat.zero_le _) (by simp) | exact outok_self), by simp [push_cast], ?_⟩
            simp only [push_cast, Nat.reduceAdd]
            unfold wcheckP
            first
              | (have h1 : ¬ namesP l = 0 := (by assumption); simp [h1]; done)
              | (have h1 : namesP l = 0 := (by assumption); simp [*]; done)
              | (have h1 : namesP l = 0 := (by assumption); simp_all; done)
              | trace_state
         case' ht =>
          intro hc11
          try (exfalso; (first | (cases hc11; done) | (simp at hc11; done) | (simp at hc11; omega)); done)
          all_goals (try simp only [decide_eq_true_eq, decide_eq_false_iff_not, Bool.not_eq_true', Bool.not_eq_false', Bool.not_eq_eq_eq_not, Bool.not_true, Bool.not_false] at hc11)
          all_goals
           refine AW_seq_k (fun K13 hK13 => ?_)
           refine AW_region ?_
           all_goals (refine AOps_cons rfl (AOp_assign ?_) <;> try simp only [push_cast, Nat.reduceAdd])
           all_goals refine AOps_nil ?_
           all_goals
            refine thenK_normal (hK13 _ ?_)
            try clear hK13
            refine AW_ret ?_
            repeat (first | refine thenK_ret ?_ | refine loopK_ret ?_ | refine blockK_ret ?_)
            refine ⟨by first | exact .inl rfl | exact .inr rfl, _, rfl, (by first | exact outok_app 0 rfl (Nat.zero_le _) (by simp) | exact outok_self), by simp [push_cast], ?_⟩
            simp only [push_cast, Nat.reduceAdd]
            unfold wcheckP
            first
              | (have h1 : ¬ namesP l = 0 := (by assumption); simp [h1]; done)
              | (have h1 : namesP l = 0 := (by assumption); simp [*]; done)
              | (have h1 : namesP l = 0 := (by assumption); simp_all; done)
              | trace_state
     case' ht =>
      intro hc5
      try (exfalso; (first | (cases hc5; done) | (simp at hc5; done) | (simp at hc5; omega)); done)
      all_goals (try simp only [decide_eq_true_eq, decide_eq_false_iff_not, Bool.not_eq_true', Bool.not_eq_false', Bool.not_eq_eq_eq_not, Bool.not_true, Bool.not_false] at hc5)
      all_goals
       refine AW_seq_k (fun K14 hK14 => ?_)
       refine AW_region ?_
       all_goals refine AOps_cons rfl (AOp_move ?_)
       all_goals (refine AOps_cons rfl (AOp_assign ?_) <;> try simp only [push_cast, Nat.reduceAdd])
       all_goals refine AOps_nil ?_
       all_goals
        refine thenK_normal (hK14 _ ?_)
        try clear hK14
        refine AW_ret ?_
        repeat (first | refine thenK_ret ?_ | refine loopK_ret ?_ | refine blockK_ret ?_)
        refine ⟨by first | exact .inl rfl | exact .inr rfl, _, rfl, (by first | exact outok_app 0 rfl (Nat.zero_le _) (by simp) | exact outok_self), by simp [push_cast], ?_⟩
        simp only [push_cast, Nat.reduceAdd]
        unfold wcheckP
        first
          | (have h1 : ¬ namesP l = 0 := (by assumption); simp [h1]; done)
          | (have h1 : namesP l = 0 := (by assumption); simp [*]; done)
          | (have h1 : namesP l = 0 := (by assumption); simp_all; done)
          | trace_state
end Ab
set_option maxRecDepth 10000
namespace Ab
open Go Go.Proofs
structure Sym where
  name : List UInt8
  arity : Int
  deriving DecidableEq
@[reducible] def symCells (s : Sym) : List AV := [.str s.name, .int .i64 s.arity]
@[reducible] def encS (s : Sym) : AV := .agg [.str s.name, .int .i64 s.arity]
theorem uni_encS (l : List Sym) : Uni 2 (encL encS l) := uni_encL (enc := encS) (k := 2) (fun _ => rfl) l
theorem scoped_encS (n : Nat) (l : List Sym) : ScopedL n (encL encS l) := scoped_encL (fun x => by simp [Scoped, ScopedL]) l
theorem sym_inj (a b : Sym) (h : symCells a = symCells b) : a = b := by
  cases a; cases b; simp [symCells] at h; simp [h]
def symEq : EqLaw Try.prog 65 (fun s => .agg (symCells s)) := plainEq pl65 symCells (fun s => by simp [KindsOk, PK.ok]) sym_inj
def symKey : KeyLaw Try.prog 65 (fun s => .agg (symCells s)) := plainKey pl65 symCells (fun s => by simp [KindsOk, PK.ok]) sym_inj
attribute [local push_cast] encT encR scoped_encR encS scoped_encS
theorem fits1_ac (l : List Rank) (hs : SortedR l) (hlen : l.length < 1099511627776) (f g : Sym) (x : Rank) (bf bl bx : Nat) (H : List AObj) (h1 : H[bf]? = some (.cells [.str f.name, .int .i64 f.arity])) (h2 : H[bl]? = some (.cells [.sl .none (encL encR l)])) (h3 : H[bx]? = some (.cells [.str x.name, .int .i64 x.rank, .int .i64 x.weight])) :
    ACall Try.prog 53 [encS g, .ptr bf 0, .ptr bl 0, .ptr bx 0] H (fun r H' => r = .bool (decide (g ≠ f) && decide (x.rank ≤ (ofP l g.name).rank)) ∧ H' = H) := by
  refine ACall_intro (H.length) Try.func53 rfl ?_
  simp only [Try.ntmps53, List.length_cons, List.length_nil, List.replicate, List.cons_append, List.nil_append, Nat.reduceAdd, Nat.reduceSub, Nat.zero_add]
  refine AW_seq_k (fun K1 hK1 => ?_)
  refine AW_region ?_
  all_goals (refine AOps_cons rfl (AOp_box _ _ rfl rfl (by first | exact .inl rfl | exact .inr ⟨_, rfl⟩) (by simp [push_cast, AV.isCell]) ?_) <;> try simp only [push_cast, Nat.reduceAdd])
  all_goals (refine AOps_cons rfl (AOp_assign ?_) <;> try simp only [push_cast, Nat.reduceAdd])
  all_goals refine AOps_nil ?_
  all_goals
   refine thenK_normal (hK1 _ ?_)
   try clear hK1
   refine AW_seq_k (fun K2 hK2 => ?_)
   by_cases hgf : g = f
   all_goals
     apply AW_drawE [some 6, some 7, some 8, some 9, some 10, some 11, some 12, some 13, some 14, some 15, some 16, some 17, some 18, some 5] [([], _)] [none, none, none, none, none, none, none, none, none, none, none, none, none, none] 0 [(0, [], [4]), (1, [], [1]), (2, [], [6, 0]), (3, [], [8]), (4, [], [2, 6]), (5, [], [4, 4]), (6, [], [9, 1]), (7, [], [9, 0, 1]), (8, [], [9, 3]), (9, [], [3, 5]), (10, [], [9, 5]), (11, [], [9, 4, 1]), (12, [], [9, 7]), (13, [], [18])] [_, _, _, _, _, _, _, _, _, _, _, _, _, _]
     case' hm => exact dr
     case' hn => rfl
     case' hok => rfl
     case' hlen => rfl
     case' hd => rfl
     case' h0 => rfl
     case' hstep =>
      simp only [DAllG, keepG, List.map_cons, List.map_nil, putD, stg, beqB, List.set_cons_zero, List.set_cons_succ, List.getD_cons_zero, List.getD_cons_succ, Option.isSome_some, Option.isSome_none]
      apply And.intro
      · apply DOne_do
        case' ho => rfl
        case' hw => rfl
        refine AOp_load_ptr _ _ _ _ rfl (by first | exact hget0 | exact hgetN _ rfl | assumption | exact hgetL (by assumption)) sz65 ag65 (by simp [push_cast]) ?_
        all_goals (try simp only [push_cast, Nat.reduceAdd])
        all_goals (constructor <;> first | rfl | trivial)
      apply And.intro
      · apply DOne_do
        case' ho => rfl
        case' hw => rfl
        first | refine AOp_load_ptr _ _ _ _ rfl (by first | exact hget0 | exact hgetN _ rfl | assumption | exact hgetL (by assumption)) sz65 ag65 (by simp [push_cast]) ?_ | refine AOp_load_cptr _ _ rfl sz65 ag65 (by simp [push_cast]) ?_
        all_goals (try simp only [push_cast, Nat.reduceAdd])
        all_goals (constructor <;> first | rfl | trivial)
      apply And.intro
      · apply DOne_do
        case' ho => rfl
        case' hw => rfl
        refine AOp_neq_law symEq g f rfl rfl ?_
        simp only [hgf]
        all_goals (try simp only [push_cast, Nat.reduceAdd])
        all_goals (constructor <;> first | rfl | trivial)
      apply And.intro
      · apply DOne_do
        case' ho => rfl
        case' hw => rfl
        refine AOp_move ?_
        all_goals (try simp only [push_cast, Nat.reduceAdd])
        all_goals (constructor <;> first | rfl | trivial)
      apply And.intro
      · first
        | exact DOne_no rfl rfl rfl
        | (apply DOne_do
           case' ho => rfl
           case' hw => rfl
           first | refine AOp_load1_ptr _ _ _ _ _ rfl (by first | exact hget0 | exact hgetN _ rfl | assumption | exact hgetL (by assumption)) sz22 ag22 (by decide) (by simp [push_cast]) rfl ?_ | refine AOp_load1_cptr _ _ _ rfl sz22 ag22 rfl ?_
           all_goals (try simp only [push_cast, Nat.reduceAdd])
           all_goals (constructor <;> first | rfl | trivial))
      apply And.intro
      · first
        | exact DOne_no rfl rfl rfl
        | (apply DOne_do
           case' ho => rfl
           case' hw => rfl
           refine AOp_fieldAddr_ptr _ _ _ _ rfl fd65_0 (by decide) ?_
           all_goals (try simp only [push_cast, Nat.reduceAdd])
           all_goals (constructor <;> first | rfl | trivial))
      apply And.intro
      · first
        | exact DOne_no rfl rfl rfl
        | (apply DOne_do
           case' ho => rfl
           case' hw => rfl
           refine AOp_load1_ptr _ _ _ _ _ rfl (by first | exact hget0 | exact hgetN _ rfl | assumption | exact hgetL (by assumption)) sz9 ag9 (by decide) (by simp [push_cast]) rfl ?_
           all_goals (try simp only [push_cast, Nat.reduceAdd])
           all_goals (constructor <;> first | rfl | trivial))
      apply And.intro
      · first
        | exact DOne_no rfl rfl rfl
        | (apply DOne_do
           case' ho => rfl
           case' hw => rfl
           refine AOp_call _ _ _ rfl rfl ok51 ?_
           (try simp only [push_cast, Nat.reduceAdd])
           refine (of_ac l hs g.name hlen _).mono ?_
           rintro r H' ⟨rfl, rfl⟩
           all_goals (try simp only [push_cast, Nat.reduceAdd])
           all_goals (constructor <;> first | rfl | trivial))
      apply And.intro
      · first
        | exact DOne_no rfl rfl rfl
        | (apply DOne_do
           case' ho => rfl
           case' hw => rfl
           refine AOp_field1 _ _ _ _ rfl fa63_1 (by decide) (by simp [push_cast]) rfl ?_
           all_goals (try simp only [push_cast, Nat.reduceAdd])
           all_goals (constructor <;> first | rfl | trivial))
      apply And.intro
      · first
        | exact DOne_no rfl rfl rfl
        | (apply DOne_do
           case' ho => rfl
           case' hw => rfl
           first | refine AOp_fieldAddr_ptr _ _ _ _ rfl fd63_1 (by decide) ?_ | refine AOp_fieldAddr_cptr _ _ _ rfl fd63_1 (by decide) (by simp [push_cast]) ?_
           all_goals (try simp only [push_cast, Nat.reduceAdd])
           all_goals (constructor <;> first | rfl | trivial))
      apply And.intro
      · first
        | exact DOne_no rfl rfl rfl
        | (apply DOne_do
           case' ho => rfl
           case' hw => rfl
           first | refine AOp_load1_ptr _ _ _ _ _ rfl (by first | exact hget0 | exact hgetN _ rfl | assumption | exact hgetL (by assumption)) sz3 ag3 (by decide) (by simp [push_cast]) rfl ?_ | refine AOp_load1_cptr _ _ _ rfl sz3 ag3 rfl ?_
           all_goals (try simp only [push_cast, Nat.reduceAdd])
           all_goals (constructor <;> first | rfl | trivial))
      apply And.intro
      · first
        | exact DOne_no rfl rfl rfl
        | (apply DOne_do
           case' ho => rfl
           case' hw => rfl
           refine AOp_bin_int _ _ _ _ rfl rfl rfl ?_
           all_goals (try simp only [push_cast, Nat.reduceAdd])
           all_goals (constructor <;> first | rfl | trivial))
      apply And.intro
      · apply DOne_do
        case' ho => rfl
        case' hw => rfl
        refine AOp_pick _ rfl ?_
        all_goals (try simp only [push_cast, Nat.reduceAdd])
        all_goals (constructor <;> first | rfl | trivial)
      apply And.intro
      · apply DOne_do
        case' ho => rfl
        case' hw => rfl
        refine AOp_assign ?_
        all_goals (try simp only [push_cast, Nat.reduceAdd])
        all_goals (constructor <;> first | rfl | trivial)
      exact trivial
     case' hQ => skip
     (try simp only [push_cast, putD, stg, beqB, List.replicate, Nat.reduceAdd, List.getD_cons_zero, List.getD_cons_succ])
   all_goals
    refine thenK_normal (hK2 _ ?_)
    try clear hK2
    refine AW_ret ?_
    repeat (first | refine thenK_ret ?_ | refine loopK_ret ?_ | refine blockK_ret ?_)
    refine ⟨by first | exact .inl rfl | exact .inr rfl, _, rfl, (by first | exact outok_app 0 rfl (Nat.zero_le _) (by simp) | exact outok_self), by simp [push_cast], ?_⟩
    simp only [push_cast, Nat.reduceAdd]
    first | (simp [hgf]; done) | (simp [hgf]; rfl) | trace_state
end Ab
set_option maxRecDepth 10000
namespace Ab
open Go Go.Proofs
attribute [local push_cast] encT encR scoped_encR encS scoped_encS
theorem indexS_ac (xs : List Sym) (g : Nat) (caps : List AV) (p : Sym → Bool) (H : List AObj) (hlen : xs.length < 1099511627776) (hg : callOk Try.prog g = true) (hsc : ScopedL H.length caps)
    (hf : ∀ i (h : i < xs.length) X, ACall Try.prog g (encS xs[i] :: caps) (H ++ X) (fun r H' => r = .bool (p xs[i]) ∧ H' = H ++ X)) :
    ACall Try.prog 72 [.sl .none (encL encS xs), .fn g caps] H (fun r H' => ∃ n : Int, r = .int .i64 n ∧ (0 ≤ n ↔ xs.any p = true) ∧ H' = H) := by
  have hsx : ScopedL H.length (encL encS xs) := scoped_encS _ _
  refine ACall_intro (H.length) Try.func72 rfl ?_
  simp only [Try.ntmps72, List.length_cons, List.length_nil, List.replicate, List.cons_append, List.nil_append, Nat.reduceAdd, Nat.reduceSub, Nat.zero_add]
  refine AW_seq_k (fun K1 hK1 => ?_)
  refine AW_region ?_
  all_goals (refine AOps_cons rfl (AOp_assign ?_) <;> try simp only [push_cast, Nat.reduceAdd])
  all_goals refine AOps_nil ?_
  all_goals
   refine thenK_normal (hK1 _ ?_)
   try clear hK1
   refine AW_seq_k (fun K2 hK2 => ?_)
   refine AW_seq_k (fun K3 hK3 => ?_)
   refine AW_region ?_
   all_goals refine AOps_cons rfl (AOp_move ?_)
   all_goals (try simp only [push_cast, Nat.reduceAdd])
   all_goals (refine AOps_cons rfl (AOp_len_sl _ _ _ rfl sl34 ?_) <;> try simp only [push_cast, Nat.reduceAdd])
   all_goals (refine AOps_cons rfl (AOp_move ?_) <;> try simp only [push_cast, Nat.reduceAdd])
   all_goals refine AOps_nil ?_
   all_goals
    refine thenK_normal (hK3 _ ?_)
    try clear hK3
    refine AW_block ?_
    refine AW_loopR (maskG 19 [0, 0, 5, 0]) (fun (i : Nat) => [(8, .int .i64 i)]) (fun _ => _) (fun i => i ≤ xs.length ∧ (xs.take i).any p = false) (fun i => xs.length - i) 0 ⟨Nat.zero_le _, by simp⟩ (by (simp only [push_cast, Nat.reduceAdd]; (first | refine weak_app0 ?_ | refine weak_same ?_); (repeat (first | exact SlotsOk.nil | refine SlotsOk.junk ?_ | refine SlotsOk.same (by first | (simp [push_cast]; done) | (simp [push_cast, Scoped, ScopedL, *]; done)) ?_ | refine SlotsOk.tok (by first | rfl | (simp; done)) (by first | (simp [push_cast]; done) | (simp [push_cast, Scoped, ScopedL, *]; done)) ?_ | refine SlotsOk.eq (by first | rfl | (congr 1; omega) | (simp; done) | (simp; omega)) (by first | (simp [push_cast]; done) | (simp [push_cast, Scoped, ScopedL, *]; done)) ?_)))) (fun i hi => ?_)
    (try simp only [push_cast, Nat.reduceAdd])
    refine AW_seq_k (fun K4 hK4 => ?_)
    refine AW_region ?_
    all_goals (refine AOps_cons rfl (AOp_bin_int _ _ _ _ rfl rfl rfl ?_) <;> try simp only [push_cast, Nat.reduceAdd])
    all_goals refine AOps_nil ?_
    all_goals
     refine thenK_normal (hK4 _ ?_)
     try clear hK4
     refine AW_seq_k (fun K5 hK5 => ?_)
     apply AW_cond
     case' hc => exact rfl
     case' hf =>
      intro hc6
      try (exfalso; (first | (cases hc6; done) | (simp at hc6; done) | (simp at hc6; omega)); done)
      all_goals (try simp only [decide_eq_true_eq, decide_eq_false_iff_not, Bool.not_eq_true', Bool.not_eq_false', Bool.not_eq_eq_eq_not, Bool.not_true, Bool.not_false] at hc6)
      all_goals
       refine AW_exit ?_
       repeat (first | refine thenK_exit ?_ | refine loopK_exit ?_ | refine blockK_other (by decide) ?_)
       refine blockK_same ?_
       refine thenK_normal (hK2 _ ?_)
       try clear hK2
       refine AW_seq_k (fun K7 hK7 => ?_)
       refine AW_region ?_
       all_goals (refine AOps_cons rfl (AOp_assign ?_) <;> try simp only [push_cast, Nat.reduceAdd])
       all_goals refine AOps_nil ?_
       all_goals
        refine thenK_normal (hK7 _ ?_)
        try clear hK7
        refine AW_ret ?_
        repeat (first | refine thenK_ret ?_ | refine loopK_ret ?_ | refine blockK_ret ?_)
        refine ⟨by first | exact .inl rfl | exact .inr rfl, _, rfl, (by first | exact outok_app 0 rfl (Nat.zero_le _) (by simp) | exact outok_self), by simp [push_cast], ?_⟩
        simp only [push_cast, Nat.reduceAdd]
        have hs : xs.take i = xs := List.take_of_length_le (by omega)
        rw [hs] at hi
        exact ⟨-1, rfl, ⟨by omega, fun h => by rw [hi.2] at h; cases h⟩, by simp⟩
     case' ht =>
      intro hc6
      try (exfalso; (first | (cases hc6; done) | (simp at hc6; done) | (simp at hc6; omega)); done)
      all_goals (try simp only [decide_eq_true_eq, decide_eq_false_iff_not, Bool.not_eq_true', Bool.not_eq_false', Bool.not_eq_eq_eq_not, Bool.not_true, Bool.not_false] at hc6)
      all_goals
       refine AW_skip ?_
       refine thenK_normal (hK5 _ ?_)
       try clear hK5
       refine AW_seq_k (fun K8 hK8 => ?_)
       refine AW_block ?_
       refine AW_seq_k (fun K9 hK9 => ?_)
       refine AW_region ?_
       all_goals refine AOps_cons rfl (AOp_move ?_)
       all_goals (refine AOps_cons rfl (AOp_assign ?_) <;> try simp only [push_cast, Nat.reduceAdd])
       all_goals refine AOps_nil ?_
       all_goals
        refine thenK_normal (hK9 _ ?_)
        try clear hK9
        refine AW_seq_k (fun K10 hK10 => ?_)
        refine AW_region ?_
        all_goals refine AOps_cons rfl (AOp_move ?_)
        all_goals refine AOps_cons rfl (AOp_move ?_)
        all_goals refine AOps_cons rfl (AOp_move ?_)
        all_goals (try simp only [push_cast, Nat.reduceAdd])
        all_goals (refine AOps_cons rfl (AOp_indexAddr_sl 65 _ _ _ _ _ rfl rfl sl34 sz65 (by decide) (by exact uni_encS _) (by first | omega | (simp; omega)) (by first | omega | (simp [push_cast]; omega) | (simp [push_cast]; done)) ?_) <;> try simp only [push_cast, Nat.reduceAdd])
        all_goals (refine AOps_cons rfl (AOp_load_cptr _ _ rfl sz65 ag65 (by simp [push_cast]) ?_) <;> try simp only [push_cast, Nat.reduceAdd])
        all_goals refine AOps_cons rfl (AOp_call _ _ _ rfl rfl hg ?_)
        all_goals have hfi := hf i (by omega) []
        all_goals simp only [List.append_nil] at hfi
        all_goals simp only [push_cast]
        all_goals refine hfi.mono ?_
        all_goals rintro r H' ⟨rfl, rfl⟩
        all_goals (try simp only [push_cast, Nat.reduceAdd])
        all_goals refine AOps_nil ?_
        all_goals
         refine thenK_normal (hK10 _ ?_)
         try clear hK10
         apply AW_cond
         case' hc => exact rfl
         case' hf =>
          intro hc11
          try (exfalso; (first | (cases hc11; done) | (simp at hc11; done) | (simp at hc11; omega)); done)
          all_goals (try simp only [decide_eq_true_eq, decide_eq_false_iff_not, Bool.not_eq_true', Bool.not_eq_false', Bool.not_eq_eq_eq_not, Bool.not_true, Bool.not_false] at hc11)
          all_goals
           refine AW_skip ?_
           refine blockK_normal ?_
           refine thenK_normal (hK8 _ ?_)
           try clear hK8
           refine AW_region ?_
           all_goals refine AOps_cons rfl (AOp_bin_int _ _ _ _ rfl rfl rfl ?_)
           all_goals (try simp only [push_cast, Nat.reduceAdd])
           all_goals (try rw [IntWalk.i64_in _ (by omega)])
           all_goals (try simp only [push_cast, Nat.reduceAdd])
           all_goals (refine AOps_cons rfl (AOp_move ?_) <;> try simp only [push_cast, Nat.reduceAdd])
           all_goals refine AOps_nil ?_
           all_goals
            refine loopK_normal ?_
            exact ⟨i + 1, ⟨by omega, any_take_false hi.2 (by omega) (by assumption)⟩, by (simp only [push_cast, Nat.reduceAdd]; (first | refine weak_app0 ?_ | refine weak_same ?_); (repeat (first | exact SlotsOk.nil | refine SlotsOk.junk ?_ | refine SlotsOk.same (by first | (simp [push_cast]; done) | (simp [push_cast, Scoped, ScopedL, *]; done)) ?_ | refine SlotsOk.tok (by first | rfl | (simp; done)) (by first | (simp [push_cast]; done) | (simp [push_cast, Scoped, ScopedL, *]; done)) ?_ | refine SlotsOk.eq (by first | rfl | (congr 1; omega) | (simp; done) | (simp; omega)) (by first | (simp [push_cast]; done) | (simp [push_cast, Scoped, ScopedL, *]; done)) ?_))), by omega⟩
         case' ht =>
          intro hc11
          try (exfalso; (first | (cases hc11; done) | (simp at hc11; done) | (simp at hc11; omega)); done)
          all_goals (try simp only [decide_eq_true_eq, decide_eq_false_iff_not, Bool.not_eq_true', Bool.not_eq_false', Bool.not_eq_eq_eq_not, Bool.not_true, Bool.not_false] at hc11)
          all_goals
           refine AW_seq_k (fun K12 hK12 => ?_)
           refine AW_region ?_
           all_goals refine AOps_cons rfl (AOp_move ?_)
           all_goals (refine AOps_cons rfl (AOp_assign ?_) <;> try simp only [push_cast, Nat.reduceAdd])
           all_goals refine AOps_nil ?_
           all_goals
            refine thenK_normal (hK12 _ ?_)
            try clear hK12
            refine AW_ret ?_
            repeat (first | refine thenK_ret ?_ | refine loopK_ret ?_ | refine blockK_ret ?_)
            refine ⟨by first | exact .inl rfl | exact .inr rfl, _, rfl, (by first | exact outok_app 0 rfl (Nat.zero_le _) (by simp) | exact outok_self), by simp [push_cast], ?_⟩
            simp only [push_cast, Nat.reduceAdd]
            exact ⟨i, rfl, ⟨fun _ => any_get (xs := xs) (i := i) (by omega) (by assumption), fun _ => by omega⟩, by simp⟩
theorem containsS_ac (xs : List Sym) (g : Nat) (caps : List AV) (p : Sym → Bool) (H : List AObj) (hlen : xs.length < 1099511627776) (hg : callOk Try.prog g = true) (hsc : ScopedL H.length caps)
    (hf : ∀ i (h : i < xs.length) X, ACall Try.prog g (encS xs[i] :: caps) (H ++ X) (fun r H' => r = .bool (p xs[i]) ∧ H' = H ++ X)) :
    ACall Try.prog 52 [.sl .none (encL encS xs), .fn g caps] H (fun r H' => r = .bool (xs.any p) ∧ H' = H) := by
  refine ACall_intro (H.length) Try.func52 rfl ?_
  simp only [Try.ntmps52, List.length_cons, List.length_nil, List.replicate, List.cons_append, List.nil_append, Nat.reduceAdd, Nat.reduceSub, Nat.zero_add]
  refine AW_seq_k (fun K13 hK13 => ?_)
  refine AW_region ?_
  all_goals (refine AOps_cons rfl (AOp_assign ?_) <;> try simp only [push_cast, Nat.reduceAdd])
  all_goals refine AOps_nil ?_
  all_goals
   refine thenK_normal (hK13 _ ?_)
   try clear hK13
   refine AW_seq_k (fun K14 hK14 => ?_)
   refine AW_region ?_
   all_goals refine AOps_cons rfl (AOp_move ?_)
   all_goals refine AOps_cons rfl (AOp_move ?_)
   all_goals (try simp only [push_cast, Nat.reduceAdd])
   all_goals refine AOps_cons rfl (AOp_call _ _ _ rfl rfl ok72 ?_)
   all_goals (try simp only [push_cast, Nat.reduceAdd])
   all_goals refine (indexS_ac xs g caps p _ hlen hg hsc hf).mono ?_
   all_goals rintro r H' ⟨n, rfl, hn, rfl⟩
   all_goals (try simp only [push_cast, Nat.reduceAdd])
   all_goals (refine AOps_cons rfl (AOp_bin_int _ _ _ _ rfl rfl rfl ?_) <;> try simp only [push_cast, Nat.reduceAdd])
   all_goals (refine AOps_cons rfl (AOp_assign ?_) <;> try simp only [push_cast, Nat.reduceAdd])
   all_goals refine AOps_nil ?_
   all_goals
    refine thenK_normal (hK14 _ ?_)
    try clear hK14
    refine AW_ret ?_
    repeat (first | refine thenK_ret ?_ | refine loopK_ret ?_ | refine blockK_ret ?_)
    refine ⟨by first | exact .inl rfl | exact .inr rfl, _, rfl, (by first | exact outok_app 0 rfl (Nat.zero_le _) (by simp) | exact outok_self), by simp [push_cast], ?_⟩
    simp only [push_cast, Nat.reduceAdd]
    simp only [hn, and_true]; cases xs.any p <;> simp
def fitsAt (l : List Rank) (unit : Int) (ss : List Sym) (f : Sym) : Bool :=
  !(decide (f.arity = 0) && decide ((ofP l f.name).weight < unit)) &&
  (!decide (f.arity = 1) || decide (0 < (ofP l f.name).weight) || !ss.any fun g => decide (g ≠ f) && decide ((ofP l f.name).rank ≤ (ofP l g.name).rank))
def fitsW (l : List Rank) (unit : Int) (ss : List Sym) : Bool := ss.all (fitsAt l unit ss)
set_option maxHeartbeats 1600000 in
theorem fitsW_ac (l : List Rank) (hs : SortedR l) (hlen : l.length < 1099511627776) (unit : Int) (ss : List Sym) (hlen2 : ss.length < 1099511627776) (H : List AObj) :
    ACall Try.prog 28 [.sl .none (encL encR l), .int .i64 unit, .sl .none (encL encS ss)] H (fun r H' => r = .bool (fitsW l unit ss) ∧ H' = H) := by
  have hsl := scoped_encR H.length l
  refine ACall_intro (H.length) Try.func28 rfl ?_
  simp only [Try.ntmps28, List.length_cons, List.length_nil, List.replicate, List.cons_append, List.nil_append, Nat.reduceAdd, Nat.reduceSub, Nat.zero_add]
  refine AW_seq_k (fun K15 hK15 => ?_)
  refine AW_region ?_
  all_goals (refine AOps_cons rfl (AOp_box _ _ rfl rfl (by first | exact .inl rfl | exact .inr ⟨_, rfl⟩) (by simp [push_cast, AV.isCell]) ?_) <;> try simp only [push_cast, Nat.reduceAdd])
  all_goals (refine AOps_cons rfl (AOp_assign ?_) <;> try simp only [push_cast, Nat.reduceAdd])
  all_goals refine AOps_nil ?_
  all_goals
   refine thenK_normal (hK15 _ ?_)
   try clear hK15
   refine AW_seq_k (fun K16 hK16 => ?_)
   refine AW_seq_k (fun K17 hK17 => ?_)
   refine AW_region ?_
   all_goals refine AOps_cons rfl (AOp_move ?_)
   all_goals (try simp only [push_cast, Nat.reduceAdd])
   all_goals (refine AOps_cons rfl (AOp_len_sl _ _ _ rfl sl34 ?_) <;> try simp only [push_cast, Nat.reduceAdd])
   all_goals (refine AOps_cons rfl (AOp_move ?_) <;> try simp only [push_cast, Nat.reduceAdd])
   all_goals refine AOps_nil ?_
   all_goals
    refine thenK_normal (hK17 _ ?_)
    try clear hK17
    refine AW_block ?_
    refine AW_loopR (maskG 41 [1, 0, 0, 6, 0, 0]) (fun (i : Nat) => [(12, .int .i64 i)]) (fun _ => _) (fun i => i ≤ ss.length ∧ (ss.take i).all (fitsAt l unit ss) = true) (fun i => ss.length - i) 0 ⟨Nat.zero_le _, by simp⟩ (by (simp only [push_cast, Nat.reduceAdd]; refine weak_app 1 ?_ (by simp) (by simp [push_cast]); (repeat (first | exact SlotsOk.nil | refine SlotsOk.junk ?_ | refine SlotsOk.same (by first | (simp [push_cast]; done) | (simp [push_cast, Scoped, ScopedL, *]; done)) ?_ | refine SlotsOk.tok (by first | rfl | (simp; done)) (by first | (simp [push_cast]; done) | (simp [push_cast, Scoped, ScopedL, *]; done)) ?_ | refine SlotsOk.eq (by first | rfl | (congr 1; omega) | (simp; done) | (simp; omega)) (by first | (simp [push_cast]; done) | (simp [push_cast, Scoped, ScopedL, *]; done)) ?_)))) (fun i hi => ?_)
    (try simp only [push_cast, Nat.reduceAdd])
    refine AW_seq_k (fun K18 hK18 => ?_)
    refine AW_region ?_
    all_goals (refine AOps_cons rfl (AOp_bin_int _ _ _ _ rfl rfl rfl ?_) <;> try simp only [push_cast, Nat.reduceAdd])
    all_goals refine AOps_nil ?_
    all_goals
     refine thenK_normal (hK18 _ ?_)
     try clear hK18
     refine AW_seq_k (fun K19 hK19 => ?_)
     apply AW_cond
     case' hc => exact rfl
     case' hf =>
      intro hc20
      try (exfalso; (first | (cases hc20; done) | (simp at hc20; done) | (simp at hc20; omega)); done)
      all_goals (try simp only [decide_eq_true_eq, decide_eq_false_iff_not, Bool.not_eq_true', Bool.not_eq_false', Bool.not_eq_eq_eq_not, Bool.not_true, Bool.not_false] at hc20)
      all_goals
       refine AW_exit ?_
       repeat (first | refine thenK_exit ?_ | refine loopK_exit ?_ | refine blockK_other (by decide) ?_)
       refine blockK_same ?_
       refine thenK_normal (hK16 _ ?_)
       try clear hK16
       refine AW_seq_k (fun K21 hK21 => ?_)
       refine AW_region ?_
       all_goals (refine AOps_cons rfl (AOp_assign ?_) <;> try simp only [push_cast, Nat.reduceAdd])
       all_goals refine AOps_nil ?_
       all_goals
        refine thenK_normal (hK21 _ ?_)
        try clear hK21
        refine AW_ret ?_
        repeat (first | refine thenK_ret ?_ | refine loopK_ret ?_ | refine blockK_ret ?_)
        refine ⟨by first | exact .inl rfl | exact .inr rfl, _, rfl, (by first | exact outok_app 0 rfl (Nat.zero_le _) (by simp) | exact outok_self), by simp [push_cast], ?_⟩
        simp only [push_cast, Nat.reduceAdd]
        unfold fitsW
        first
          | (have hall : ss.take i = ss := List.take_of_length_le (by omega)
             rw [hall] at hi
             rw [hi.2]; simp; done)
          | (have hil : i < ss.length := (by omega)
             have ha : ss[i].arity = 0 := (by assumption)
             have hw : (ofP l ss[i].name).weight < unit := (by assumption)
             have hf : fitsAt l unit ss ss[i] = false := (by unfold fitsAt; simp [ha, hw])
             rw [all_get hil hf]; simp; done)
          | (have hil : i < ss.length := (by omega)
             have ha : ss[i].arity = 1 := (by assumption)
             have hw : ¬ 0 < (ofP l ss[i].name).weight := (by assumption)
             have hq : (ss.any fun g => decide (g ≠ ss[i]) && decide ((ofP l ss[i].name).rank ≤ (ofP l g.name).rank)) = true := (by assumption)
             have hf : fitsAt l unit ss ss[i] = false := (by unfold fitsAt; rw [hq]; simp [ha]; omega)
             rw [all_get hil hf]; simp; done)
          | trace_state
     case' ht =>
      intro hc20
      try (exfalso; (first | (cases hc20; done) | (simp at hc20; done) | (simp at hc20; omega)); done)
      all_goals (try simp only [decide_eq_true_eq, decide_eq_false_iff_not, Bool.not_eq_true', Bool.not_eq_false', Bool.not_eq_eq_eq_not, Bool.not_true, Bool.not_false] at hc20)
      all_goals
       refine AW_skip ?_
       refine thenK_normal (hK19 _ ?_)
       try clear hK19
       refine AW_seq_k (fun K22 hK22 => ?_)
       refine AW_block ?_
       refine AW_seq_k (fun K23 hK23 => ?_)
       refine AW_region ?_
       all_goals (refine AOps_cons rfl (AOp_indexAddr_sl 65 _ _ _ _ _ rfl rfl sl34 sz65 (by decide) (by exact uni_encS _) (by first | omega | (simp; omega)) (by first | omega | (simp [push_cast]; omega) | (simp [push_cast]; done)) ?_) <;> try simp only [push_cast, Nat.reduceAdd])
       all_goals (refine AOps_cons rfl (AOp_load_cptr _ _ rfl sz65 ag65 (by simp [push_cast]) ?_) <;> try simp only [push_cast, Nat.reduceAdd])
       all_goals (refine AOps_cons rfl (AOp_alloc _ zr65 (by simp [ofVal, AV.isCell, Value.oneCell']) ?_) <;> try simp only [push_cast, Nat.reduceAdd])
       all_goals (refine AOps_cons rfl (AOp_store _ _ _ _ _ rfl (by first | exact hget0 | exact hgetN _ rfl | assumption | exact hgetL (by assumption)) rfl rfl (by first | exact .inl rfl | exact .inr ⟨_, rfl⟩) (by simp [push_cast, AV.isCell]) sz65 (by simp [push_cast]) ?_) <;> try simp only [push_cast, Nat.reduceAdd])
       all_goals refine AOps_nil ?_
       all_goals
        refine thenK_normal (hK23 _ ?_)
        try clear hK23
        refine AW_seq_k (fun K24 hK24 => ?_)
        refine AW_region ?_
        all_goals (refine AOps_cons rfl (AOp_load1_ptr _ _ _ _ _ rfl (by first | exact hget0 | exact hgetN _ rfl | assumption | exact hgetL (by assumption)) sz22 ag22 (by decide) (by simp [push_cast]) rfl ?_) <;> try simp only [push_cast, Nat.reduceAdd])
        all_goals (refine AOps_cons rfl (AOp_fieldAddr_ptr _ _ _ _ rfl fd65_0 (by decide) ?_) <;> try simp only [push_cast, Nat.reduceAdd])
        all_goals (refine AOps_cons rfl (AOp_load1_ptr _ _ _ _ _ rfl (by first | exact hget0 | exact hgetN _ rfl | assumption | exact hgetL (by assumption)) sz9 ag9 (by decide) (by simp [push_cast]) rfl ?_) <;> try simp only [push_cast, Nat.reduceAdd])
        all_goals refine AOps_cons rfl (AOp_call _ _ _ rfl rfl ok51 ?_)
        all_goals (try simp only [push_cast, Nat.reduceAdd])
        all_goals refine (of_ac l hs _ hlen _).mono ?_
        all_goals rintro r H' ⟨rfl, rfl⟩
        all_goals (try simp only [push_cast, Nat.reduceAdd])
        all_goals (refine AOps_cons rfl (AOp_alloc _ zr63 (by simp [ofVal, AV.isCell, Value.oneCell']) ?_) <;> try simp only [push_cast, Nat.reduceAdd])
        all_goals (refine AOps_cons rfl (AOp_store _ _ _ _ _ rfl (by first | exact hget0 | exact hgetN _ rfl | assumption | exact hgetL (by assumption)) rfl rfl (by first | exact .inl rfl | exact .inr ⟨_, rfl⟩) (by simp [push_cast, AV.isCell]) sz63 (by simp [push_cast]) ?_) <;> try simp only [push_cast, Nat.reduceAdd])
        all_goals refine AOps_nil ?_
        all_goals
         refine thenK_normal (hK24 _ ?_)
         try clear hK24
         refine AW_seq_k (fun K25 hK25 => ?_)
         refine AW_seq_k (fun K26 hK26 => ?_)
         refine AW_region ?_
         all_goals (refine AOps_cons rfl (AOp_fieldAddr_ptr _ _ _ _ rfl fd65_1 (by decide) ?_) <;> try simp only [push_cast, Nat.reduceAdd])
         all_goals (refine AOps_cons rfl (AOp_load1_ptr _ _ _ _ _ rfl (by first | exact hget0 | exact hgetN _ rfl | assumption | exact hgetL (by assumption)) sz3 ag3 (by decide) (by simp [push_cast]) rfl ?_) <;> try simp only [push_cast, Nat.reduceAdd])
         all_goals (refine AOps_cons rfl (AOp_bin_int _ _ _ _ rfl rfl rfl ?_) <;> try simp only [push_cast, Nat.reduceAdd])
         all_goals refine AOps_cons rfl (AOp_move ?_)
         all_goals (try simp only [push_cast, Nat.reduceAdd])
         all_goals (try refine AOps_split 23 _ rfl (fun hg27 => ?_) (fun hg27 => ?_))
         all_goals (try (exfalso; (first | (cases hg27; done) | (simp at hg27; done) | (simp at hg27; omega)); done))
         all_goals (try simp only [decide_eq_true_eq, decide_eq_false_iff_not, Bool.not_eq_true', Bool.not_eq_false', Bool.not_eq_eq_eq_not, Bool.not_true, Bool.not_false] at hg27)
         all_goals first
          | refine AOps_skip rfl ?_
          | (refine AOps_cons rfl ?_
             refine AOp_fieldAddr_ptr _ _ _ _ rfl fd63_2 (by decide) ?_)
         all_goals (try simp only [push_cast, Nat.reduceAdd])
         all_goals first
          | refine AOps_skip rfl ?_
          | (refine AOps_cons rfl ?_
             refine AOp_load1_ptr _ _ _ _ _ rfl (by first | exact hget0 | exact hgetN _ rfl | assumption | exact hgetL (by assumption)) sz3 ag3 (by decide) (by simp [push_cast]) rfl ?_)
         all_goals (try simp only [push_cast, Nat.reduceAdd])
         all_goals first
          | refine AOps_skip rfl ?_
          | (refine AOps_cons rfl ?_
             refine AOp_move ?_)
         all_goals (try simp only [push_cast, Nat.reduceAdd])
         all_goals first
          | refine AOps_skip rfl ?_
          | (refine AOps_cons rfl ?_
             refine AOp_bin_int _ _ _ _ rfl rfl rfl ?_)
         all_goals (try simp only [push_cast, Nat.reduceAdd])
         all_goals (refine AOps_cons rfl (AOp_pick _ rfl ?_) <;> try simp only [push_cast, Nat.reduceAdd])
         all_goals refine AOps_nil ?_
         all_goals
          refine thenK_normal (hK26 _ ?_)
          try clear hK26
          apply AW_cond
          case' hc => exact rfl
          case' hf =>
           intro hc28
           try (exfalso; (first | (cases hc28; done) | (simp at hc28; done) | (simp at hc28; omega)); done)
           all_goals (try simp only [decide_eq_true_eq, decide_eq_false_iff_not, Bool.not_eq_true', Bool.not_eq_false', Bool.not_eq_eq_eq_not, Bool.not_true, Bool.not_false] at hc28)
           all_goals
            refine AW_skip ?_
            refine thenK_normal (hK25 _ ?_)
            try clear hK25
            refine AW_seq_k (fun K29 hK29 => ?_)
            refine AW_seq_k (fun K30 hK30 => ?_)
            refine AW_region ?_
            all_goals (refine AOps_cons rfl (AOp_fieldAddr_ptr _ _ _ _ rfl fd65_1 (by decide) ?_) <;> try simp only [push_cast, Nat.reduceAdd])
            all_goals (refine AOps_cons rfl (AOp_load1_ptr _ _ _ _ _ rfl (by first | exact hget0 | exact hgetN _ rfl | assumption | exact hgetL (by assumption)) sz3 ag3 (by decide) (by simp [push_cast]) rfl ?_) <;> try simp only [push_cast, Nat.reduceAdd])
            all_goals (refine AOps_cons rfl (AOp_bin_int _ _ _ _ rfl rfl rfl ?_) <;> try simp only [push_cast, Nat.reduceAdd])
            all_goals refine AOps_cons rfl (AOp_move ?_)
            all_goals (try simp only [push_cast, Nat.reduceAdd])
            all_goals (try refine AOps_split 32 _ rfl (fun hg31 => ?_) (fun hg31 => ?_))
            all_goals (try (exfalso; (first | (cases hg31; done) | (simp at hg31; done) | (simp at hg31; omega)); done))
            all_goals (try simp only [decide_eq_true_eq, decide_eq_false_iff_not, Bool.not_eq_true', Bool.not_eq_false', Bool.not_eq_eq_eq_not, Bool.not_true, Bool.not_false] at hg31)
            all_goals first
             | refine AOps_skip rfl ?_
             | (refine AOps_cons rfl ?_
                refine AOp_fieldAddr_ptr _ _ _ _ rfl fd63_2 (by decide) ?_)
            all_goals (try simp only [push_cast, Nat.reduceAdd])
            all_goals first
             | refine AOps_skip rfl ?_
             | (refine AOps_cons rfl ?_
                refine AOp_load1_ptr _ _ _ _ _ rfl (by first | exact hget0 | exact hgetN _ rfl | assumption | exact hgetL (by assumption)) sz3 ag3 (by decide) (by simp [push_cast]) rfl ?_)
            all_goals (try simp only [push_cast, Nat.reduceAdd])
            all_goals first
             | refine AOps_skip rfl ?_
             | (refine AOps_cons rfl ?_
                refine AOp_bin_int _ _ _ _ rfl rfl rfl ?_)
            all_goals (try simp only [push_cast, Nat.reduceAdd])
            all_goals (refine AOps_cons rfl (AOp_pick _ rfl ?_) <;> try simp only [push_cast, Nat.reduceAdd])
            all_goals refine AOps_nil ?_
            all_goals
             refine thenK_normal (hK30 _ ?_)
             try clear hK30
             apply AW_cond
             case' hc => exact rfl
             case' hf =>
              intro hc32
              try (exfalso; (first | (cases hc32; done) | (simp at hc32; done) | (simp at hc32; omega)); done)
              all_goals (try simp only [decide_eq_true_eq, decide_eq_false_iff_not, Bool.not_eq_true', Bool.not_eq_false', Bool.not_eq_eq_eq_not, Bool.not_true, Bool.not_false] at hc32)
              all_goals
               refine AW_skip ?_
               refine thenK_normal (hK29 _ ?_)
               try clear hK29
               refine AW_seq_k (fun K33 hK33 => ?_)
               refine AW_region ?_
               all_goals refine AOps_cons rfl (AOp_move ?_)
               all_goals refine AOps_cons rfl (AOp_makeFunc ?_)
               all_goals (try simp only [push_cast, Nat.reduceAdd])
               all_goals refine AOps_cons rfl (AOp_call _ _ _ rfl rfl ok52 ?_)
               all_goals (try simp only [push_cast, Nat.reduceAdd])
               all_goals have hil : i < ss.length := by omega
               all_goals refine (containsS_ac ss 53 _ (fun g => decide (g ≠ ss[i]) && decide ((ofP l ss[i].name).rank ≤ (ofP l g.name).rank)) _ hlen2 ok53 (by simp [ScopedL, Scoped]) (fun k h X => fits1_ac l hs hlen _ _ (ofP l ss[i].name) _ _ _ _ (by rw [List.append_assoc]; exact hgetN 1 rfl) (by rw [List.append_assoc]; exact hget0) (by rw [List.append_assoc]; exact hgetN 2 rfl))).mono ?_
               all_goals rintro r H' ⟨rfl, rfl⟩
               all_goals (try simp only [push_cast, Nat.reduceAdd])
               all_goals refine AOps_nil ?_
               all_goals
                refine thenK_normal (hK33 _ ?_)
                try clear hK33
                apply AW_cond
                case' hc => exact rfl
                case' hf =>
                 intro hc34
                 try (exfalso; (first | (cases hc34; done) | (simp at hc34; done) | (simp at hc34; omega)); done)
                 all_goals (try simp only [decide_eq_true_eq, decide_eq_false_iff_not, Bool.not_eq_true', Bool.not_eq_false', Bool.not_eq_eq_eq_not, Bool.not_true, Bool.not_false] at hc34)
                 all_goals
                  refine AW_skip ?_
                  refine blockK_normal ?_
                  refine thenK_normal (hK22 _ ?_)
                  try clear hK22
                  refine AW_region ?_
                  all_goals refine AOps_cons rfl (AOp_bin_int _ _ _ _ rfl rfl rfl ?_)
                  all_goals (try simp only [push_cast, Nat.reduceAdd])
                  all_goals (try rw [IntWalk.i64_in _ (by omega)])
                  all_goals (try simp only [push_cast, Nat.reduceAdd])
                  all_goals (refine AOps_cons rfl (AOp_move ?_) <;> try simp only [push_cast, Nat.reduceAdd])
                  all_goals refine AOps_nil ?_
                  all_goals
                   refine loopK_normal ?_
                   have hil : i < ss.length := by omega
                   refine ⟨i + 1, ⟨by omega, all_take_true hi.2 hil ?_⟩, by (simp only [push_cast, Nat.reduceAdd]; refine weak_app 1 ?_ (by simp) (by simp [push_cast]); (repeat (first | exact SlotsOk.nil | refine SlotsOk.junk ?_ | refine SlotsOk.same (by first | (simp [push_cast]; done) | (simp [push_cast, Scoped, ScopedL, *]; done)) ?_ | refine SlotsOk.tok (by first | rfl | (simp; done)) (by first | (simp [push_cast]; done) | (simp [push_cast, Scoped, ScopedL, *]; done)) ?_ | refine SlotsOk.eq (by first | rfl | (congr 1; omega) | (simp; done) | (simp; omega)) (by first | (simp [push_cast]; done) | (simp [push_cast, Scoped, ScopedL, *]; done)) ?_))), by omega⟩
                   unfold fitsAt
                   have c1 : ¬ (ss[i].arity = 0 ∧ (ofP l ss[i].name).weight < unit) := by
                     rintro ⟨a, b⟩
                     first | contradiction | omega
                   have c2 : ¬ ss[i].arity = 1 ∨ 0 < (ofP l ss[i].name).weight ∨ (ss.any fun g => decide (g ≠ ss[i]) && decide ((ofP l ss[i].name).rank ≤ (ofP l g.name).rank)) = false := by
                     first | exact .inl (by assumption) | exact .inr (.inl (by assumption)) | exact .inr (.inr (by assumption))
                   cases hA : (decide (ss[i].arity = 0) && decide ((ofP l ss[i].name).weight < unit)) with
                   | true => simp at hA; exact absurd hA c1
                   | false =>
                     rw [Bool.not_false, Bool.true_and]
                     rcases c2 with h | h | h
                     · simp [h]
                     · simp [h]
                     · rw [h]; simp
                case' ht =>
                 intro hc34
                 try (exfalso; (first | (cases hc34; done) | (simp at hc34; done) | (simp at hc34; omega)); done)
                 all_goals (try simp only [decide_eq_true_eq, decide_eq_false_iff_not, Bool.not_eq_true', Bool.not_eq_false', Bool.not_eq_eq_eq_not, Bool.not_true, Bool.not_false] at hc34)
                 all_goals
                  refine AW_seq_k (fun K35 hK35 => ?_)
                  refine AW_region ?_
                  all_goals (refine AOps_cons rfl (AOp_assign ?_) <;> try simp only [push_cast, Nat.reduceAdd])
                  all_goals refine AOps_nil ?_
                  all_goals
                   refine thenK_normal (hK35 _ ?_)
                   try clear hK35
                   refine AW_ret ?_
                   repeat (first | refine thenK_ret ?_ | refine loopK_ret ?_ | refine blockK_ret ?_)
                   refine ⟨by first | exact .inl rfl | exact .inr rfl, _, rfl, (by first | exact outok_app 0 rfl (Nat.zero_le _) (by simp) | exact outok_self), by simp [push_cast], ?_⟩
                   simp only [push_cast, Nat.reduceAdd]
                   unfold fitsW
                   first
                     | (have hall : ss.take i = ss := List.take_of_length_le (by omega)
                        rw [hall] at hi
                        rw [hi.2]; simp; done)
                     | (have hil : i < ss.length := (by omega)
                        have ha : ss[i].arity = 0 := (by assumption)
                        have hw : (ofP l ss[i].name).weight < unit := (by assumption)
                        have hf : fitsAt l unit ss ss[i] = false := (by unfold fitsAt; simp [ha, hw])
                        rw [all_get hil hf]; simp; done)
                     | (have hil : i < ss.length := (by omega)
                        have ha : ss[i].arity = 1 := (by assumption)
                        have hw : ¬ 0 < (ofP l ss[i].name).weight := (by assumption)
                        have hq : (ss.any fun g => decide (g ≠ ss[i]) && decide ((ofP l ss[i].name).rank ≤ (ofP l g.name).rank)) = true := (by assumption)
                        have hf : fitsAt l unit ss ss[i] = false := (by unfold fitsAt; rw [hq]; simp [ha]; omega)
                        rw [all_get hil hf]; simp; done)
                     | trace_state
             case' ht =>
              intro hc32
              try (exfalso; (first | (cases hc32; done) | (simp at hc32; done) | (simp at hc32; omega)); done)
              all_goals (try simp only [decide_eq_true_eq, decide_eq_false_iff_not, Bool.not_eq_true', Bool.not_eq_false', Bool.not_eq_eq_eq_not, Bool.not_true, Bool.not_false] at hc32)
              all_goals
               refine AW_exit ?_
               repeat (first | refine thenK_exit ?_ | refine loopK_exit ?_ | refine blockK_other (by decide) ?_)
               refine blockK_same ?_
               refine thenK_normal (hK22 _ ?_)
               try clear hK22
               refine AW_region ?_
               all_goals refine AOps_cons rfl (AOp_bin_int _ _ _ _ rfl rfl rfl ?_)
               all_goals (try simp only [push_cast, Nat.reduceAdd])
               all_goals (try rw [IntWalk.i64_in _ (by omega)])
               all_goals (try simp only [push_cast, Nat.reduceAdd])
               all_goals (refine AOps_cons rfl (AOp_move ?_) <;> try simp only [push_cast, Nat.reduceAdd])
               all_goals refine AOps_nil ?_
               all_goals
                refine loopK_normal ?_
                have hil : i < ss.length := by omega
                refine ⟨i + 1, ⟨by omega, all_take_true hi.2 hil ?_⟩, by (simp only [push_cast, Nat.reduceAdd]; refine weak_app 1 ?_ (by simp) (by simp [push_cast]); (repeat (first | exact SlotsOk.nil | refine SlotsOk.junk ?_ | refine SlotsOk.same (by first | (simp [push_cast]; done) | (simp [push_cast, Scoped, ScopedL, *]; done)) ?_ | refine SlotsOk.tok (by first | rfl | (simp; done)) (by first | (simp [push_cast]; done) | (simp [push_cast, Scoped, ScopedL, *]; done)) ?_ | refine SlotsOk.eq (by first | rfl | (congr 1; omega) | (simp; done) | (simp; omega)) (by first | (simp [push_cast]; done) | (simp [push_cast, Scoped, ScopedL, *]; done)) ?_))), by omega⟩
                unfold fitsAt
                have c1 : ¬ (ss[i].arity = 0 ∧ (ofP l ss[i].name).weight < unit) := by
                  rintro ⟨a, b⟩
                  first | contradiction | omega
                have c2 : ¬ ss[i].arity = 1 ∨ 0 < (ofP l ss[i].name).weight ∨ (ss.any fun g => decide (g ≠ ss[i]) && decide ((ofP l ss[i].name).rank ≤ (ofP l g.name).rank)) = false := by
                  first | exact .inl (by assumption) | exact .inr (.inl (by assumption)) | exact .inr (.inr (by assumption))
                cases hA : (decide (ss[i].arity = 0) && decide ((ofP l ss[i].name).weight < unit)) with
                | true => simp at hA; exact absurd hA c1
                | false =>
                  rw [Bool.not_false, Bool.true_and]
                  rcases c2 with h | h | h
                  · simp [h]
                  · simp [h]
                  · rw [h]; simp
          case' ht =>
           intro hc28
           try (exfalso; (first | (cases hc28; done) | (simp at hc28; done) | (simp at hc28; omega)); done)
           all_goals (try simp only [decide_eq_true_eq, decide_eq_false_iff_not, Bool.not_eq_true', Bool.not_eq_false', Bool.not_eq_eq_eq_not, Bool.not_true, Bool.not_false] at hc28)
           all_goals
            refine AW_seq_k (fun K36 hK36 => ?_)
            refine AW_region ?_
            all_goals (refine AOps_cons rfl (AOp_assign ?_) <;> try simp only [push_cast, Nat.reduceAdd])
            all_goals refine AOps_nil ?_
            all_goals
             refine thenK_normal (hK36 _ ?_)
             try clear hK36
             refine AW_ret ?_
             repeat (first | refine thenK_ret ?_ | refine loopK_ret ?_ | refine blockK_ret ?_)
             refine ⟨by first | exact .inl rfl | exact .inr rfl, _, rfl, (by first | exact outok_app 0 rfl (Nat.zero_le _) (by simp) | exact outok_self), by simp [push_cast], ?_⟩
             simp only [push_cast, Nat.reduceAdd]
             unfold fitsW
             first
               | (have hall : ss.take i = ss := List.take_of_length_le (by omega)
                  rw [hall] at hi
                  rw [hi.2]; simp; done)
               | (have hil : i < ss.length := (by omega)
                  have ha : ss[i].arity = 0 := (by assumption)
                  have hw : (ofP l ss[i].name).weight < unit := (by assumption)
                  have hf : fitsAt l unit ss ss[i] = false := (by unfold fitsAt; simp [ha, hw])
                  rw [all_get hil hf]; simp; done)
               | (have hil : i < ss.length := (by omega)
                  have ha : ss[i].arity = 1 := (by assumption)
                  have hw : ¬ 0 < (ofP l ss[i].name).weight := (by assumption)
                  have hq : (ss.any fun g => decide (g ≠ ss[i]) && decide ((ofP l ss[i].name).rank ≤ (ofP l g.name).rank)) = true := (by assumption)
                  have hf : fitsAt l unit ss ss[i] = false := (by unfold fitsAt; rw [hq]; simp [ha]; omega)
                  rw [all_get hil hf]; simp; done)
               | trace_state
end Ab
set_option maxRecDepth 10000
namespace Ab
open Go Go.Proofs
attribute [local push_cast] encT
theorem letter_ac (c : Int) (H : List AObj) : ACall Try.prog 77 [.int .u8 c] H (fun r H' => r = .bool (inName c) ∧ H' = H) := by
  refine ACall_intro (H.length) Try.func77 rfl ?_
  simp only [Try.ntmps77, List.length_cons, List.length_nil, List.replicate, List.cons_append, List.nil_append, Nat.reduceAdd, Nat.reduceSub, Nat.zero_add]
  refine AW_seq_k (fun K1 hK1 => ?_)
  refine AW_region ?_
  all_goals (refine AOps_cons rfl (AOp_assign ?_) <;> try simp only [push_cast, Nat.reduceAdd])
  all_goals refine AOps_nil ?_
  all_goals
   refine thenK_normal (hK1 _ ?_)
   try clear hK1
   refine AW_seq_k (fun K2 hK2 => ?_)
   refine AW_region ?_
   all_goals refine AOps_cons rfl (AOp_move ?_)
   all_goals (try simp only [push_cast, Nat.reduceAdd])
   all_goals (refine AOps_cons rfl (AOp_bin_int _ _ _ _ rfl rfl rfl ?_) <;> try simp only [push_cast, Nat.reduceAdd])
   all_goals refine AOps_cons rfl (AOp_move ?_)
   all_goals (try simp only [push_cast, Nat.reduceAdd])
   all_goals (try refine AOps_split 5 _ rfl (fun hg3 => ?_) (fun hg3 => ?_))
   all_goals (try (exfalso; (first | (cases hg3; done) | (simp at hg3; done) | (simp at hg3; omega)); done))
   all_goals (try simp only [decide_eq_true_eq, decide_eq_false_iff_not, Bool.not_eq_true', Bool.not_eq_false', Bool.not_eq_eq_eq_not, Bool.not_true, Bool.not_false] at hg3)
   all_goals first
    | refine AOps_skip rfl ?_
    | (refine AOps_cons rfl ?_
       refine AOp_move ?_)
   all_goals (try simp only [push_cast, Nat.reduceAdd])
   all_goals first
    | refine AOps_skip rfl ?_
    | (refine AOps_cons rfl ?_
       refine AOp_bin_int _ _ _ _ rfl rfl rfl ?_)
   all_goals (try simp only [push_cast, Nat.reduceAdd])
   all_goals refine AOps_cons rfl (AOp_pick _ rfl ?_)
   all_goals refine AOps_cons rfl (AOp_move ?_)
   all_goals (try simp only [push_cast, Nat.reduceAdd])
   all_goals (try refine AOps_split 9 _ rfl (fun hg4 => ?_) (fun hg4 => ?_))
   all_goals (try (exfalso; (first | (cases hg4; done) | (simp at hg4; done) | (simp at hg4; omega)); done))
   all_goals (try simp only [decide_eq_true_eq, decide_eq_false_iff_not, Bool.not_eq_true', Bool.not_eq_false', Bool.not_eq_eq_eq_not, Bool.not_true, Bool.not_false] at hg4)
   all_goals first
    | refine AOps_skip rfl ?_
    | (refine AOps_cons rfl ?_
       refine AOp_move ?_)
   all_goals (try simp only [push_cast, Nat.reduceAdd])
   all_goals first
    | refine AOps_skip rfl ?_
    | (refine AOps_cons rfl ?_
       refine AOp_bin_int _ _ _ _ rfl rfl rfl ?_)
   all_goals (try simp only [push_cast, Nat.reduceAdd])
   all_goals first
    | refine AOps_skip rfl ?_
    | (refine AOps_cons rfl ?_
       refine AOp_move ?_)
   all_goals (try simp only [push_cast, Nat.reduceAdd])
   all_goals (try refine AOps_split 12 _ rfl (fun hg5 => ?_) (fun hg5 => ?_))
   all_goals (try (exfalso; (first | (cases hg5; done) | (simp at hg5; done) | (simp at hg5; omega)); done))
   all_goals (try simp only [decide_eq_true_eq, decide_eq_false_iff_not, Bool.not_eq_true', Bool.not_eq_false', Bool.not_eq_eq_eq_not, Bool.not_true, Bool.not_false] at hg5)
   all_goals first
    | refine AOps_skip rfl ?_
    | (refine AOps_cons rfl ?_
       refine AOp_move ?_)
   all_goals (try simp only [push_cast, Nat.reduceAdd])
   all_goals first
    | refine AOps_skip rfl ?_
    | (refine AOps_cons rfl ?_
       refine AOp_bin_int _ _ _ _ rfl rfl rfl ?_)
   all_goals (try simp only [push_cast, Nat.reduceAdd])
   all_goals first
    | refine AOps_skip rfl ?_
    | (refine AOps_cons rfl ?_
       refine AOp_pick _ rfl ?_)
   all_goals (try simp only [push_cast, Nat.reduceAdd])
   all_goals refine AOps_cons rfl (AOp_pick _ rfl ?_)
   all_goals refine AOps_cons rfl (AOp_move ?_)
   all_goals (try simp only [push_cast, Nat.reduceAdd])
   all_goals (try refine AOps_split 17 _ rfl (fun hg6 => ?_) (fun hg6 => ?_))
   all_goals (try (exfalso; (first | (cases hg6; done) | (simp at hg6; done) | (simp at hg6; omega)); done))
   all_goals (try simp only [decide_eq_true_eq, decide_eq_false_iff_not, Bool.not_eq_true', Bool.not_eq_false', Bool.not_eq_eq_eq_not, Bool.not_true, Bool.not_false] at hg6)
   all_goals first
    | refine AOps_skip rfl ?_
    | (refine AOps_cons rfl ?_
       refine AOp_move ?_)
   all_goals (try simp only [push_cast, Nat.reduceAdd])
   all_goals first
    | refine AOps_skip rfl ?_
    | (refine AOps_cons rfl ?_
       refine AOp_bin_int _ _ _ _ rfl rfl rfl ?_)
   all_goals (try simp only [push_cast, Nat.reduceAdd])
   all_goals first
    | refine AOps_skip rfl ?_
    | (refine AOps_cons rfl ?_
       refine AOp_move ?_)
   all_goals (try simp only [push_cast, Nat.reduceAdd])
   all_goals (try refine AOps_split 20 _ rfl (fun hg7 => ?_) (fun hg7 => ?_))
   all_goals (try (exfalso; (first | (cases hg7; done) | (simp at hg7; done) | (simp at hg7; omega)); done))
   all_goals (try simp only [decide_eq_true_eq, decide_eq_false_iff_not, Bool.not_eq_true', Bool.not_eq_false', Bool.not_eq_eq_eq_not, Bool.not_true, Bool.not_false] at hg7)
   all_goals first
    | refine AOps_skip rfl ?_
    | (refine AOps_cons rfl ?_
       refine AOp_move ?_)
   all_goals (try simp only [push_cast, Nat.reduceAdd])
   all_goals first
    | refine AOps_skip rfl ?_
    | (refine AOps_cons rfl ?_
       refine AOp_bin_int _ _ _ _ rfl rfl rfl ?_)
   all_goals (try simp only [push_cast, Nat.reduceAdd])
   all_goals first
    | refine AOps_skip rfl ?_
    | (refine AOps_cons rfl ?_
       refine AOp_pick _ rfl ?_)
   all_goals (try simp only [push_cast, Nat.reduceAdd])
   all_goals refine AOps_cons rfl (AOp_pick _ rfl ?_)
   all_goals refine AOps_cons rfl (AOp_move ?_)
   all_goals (try simp only [push_cast, Nat.reduceAdd])
   all_goals (try refine AOps_split 25 _ rfl (fun hg8 => ?_) (fun hg8 => ?_))
   all_goals (try (exfalso; (first | (cases hg8; done) | (simp at hg8; done) | (simp at hg8; omega)); done))
   all_goals (try simp only [decide_eq_true_eq, decide_eq_false_iff_not, Bool.not_eq_true', Bool.not_eq_false', Bool.not_eq_eq_eq_not, Bool.not_true, Bool.not_false] at hg8)
   all_goals first
    | refine AOps_skip rfl ?_
    | (refine AOps_cons rfl ?_
       refine AOp_move ?_)
   all_goals (try simp only [push_cast, Nat.reduceAdd])
   all_goals first
    | refine AOps_skip rfl ?_
    | (refine AOps_cons rfl ?_
       refine AOp_bin_int _ _ _ _ rfl rfl rfl ?_)
   all_goals (try simp only [push_cast, Nat.reduceAdd])
   all_goals refine AOps_cons rfl (AOp_pick _ rfl ?_)
   all_goals refine AOps_cons rfl (AOp_move ?_)
   all_goals (try simp only [push_cast, Nat.reduceAdd])
   all_goals (try refine AOps_split 29 _ rfl (fun hg9 => ?_) (fun hg9 => ?_))
   all_goals (try (exfalso; (first | (cases hg9; done) | (simp at hg9; done) | (simp at hg9; omega)); done))
   all_goals (try simp only [decide_eq_true_eq, decide_eq_false_iff_not, Bool.not_eq_true', Bool.not_eq_false', Bool.not_eq_eq_eq_not, Bool.not_true, Bool.not_false] at hg9)
   all_goals first
    | refine AOps_skip rfl ?_
    | (refine AOps_cons rfl ?_
       refine AOp_move ?_)
   all_goals (try simp only [push_cast, Nat.reduceAdd])
   all_goals first
    | refine AOps_skip rfl ?_
    | (refine AOps_cons rfl ?_
       refine AOp_bin_int _ _ _ _ rfl rfl rfl ?_)
   all_goals (try simp only [push_cast, Nat.reduceAdd])
   all_goals refine AOps_cons rfl (AOp_pick _ rfl ?_)
   all_goals (refine AOps_cons rfl (AOp_assign ?_) <;> try simp only [push_cast, Nat.reduceAdd])
   all_goals refine AOps_nil ?_
   all_goals
    refine thenK_normal (hK2 _ ?_)
    try clear hK2
    refine AW_ret ?_
    repeat (first | refine thenK_ret ?_ | refine loopK_ret ?_ | refine blockK_ret ?_)
    refine ⟨by first | exact .inl rfl | exact .inr rfl, _, rfl, (by first | exact outok_app 0 rfl (Nat.zero_le _) (by simp) | exact outok_self), by simp [push_cast], ?_⟩
    simp only [push_cast, Nat.reduceAdd]
    unfold inName; (first | (simp [*]; done) | (simp; omega) | (simp [*]; omega))
theorem letters_ac (s : List UInt8) (hlen : s.length < 1099511627776) (H : List AObj) : ACall Try.prog 61 [.str s] H (fun r H' => r = .bool (s.all inNameB) ∧ H' = H) := by
  refine ACall_intro (H.length) Try.func61 rfl ?_
  simp only [Try.ntmps61, List.length_cons, List.length_nil, List.replicate, List.cons_append, List.nil_append, Nat.reduceAdd, Nat.reduceSub, Nat.zero_add]
  refine AW_seq_k (fun K10 hK10 => ?_)
  refine AW_region ?_
  all_goals (refine AOps_cons rfl (AOp_assign ?_) <;> try simp only [push_cast, Nat.reduceAdd])
  all_goals refine AOps_nil ?_
  all_goals
   refine thenK_normal (hK10 _ ?_)
   try clear hK10
   refine AW_seq_k (fun K11 hK11 => ?_)
   refine AW_seq_k (fun K12 hK12 => ?_)
   refine AW_region ?_
   all_goals refine AOps_cons rfl (AOp_move ?_)
   all_goals (try simp only [push_cast, Nat.reduceAdd])
   all_goals (refine AOps_cons rfl (AOp_len_str _ rfl un9 ?_) <;> try simp only [push_cast, Nat.reduceAdd])
   all_goals (refine AOps_cons rfl (AOp_move ?_) <;> try simp only [push_cast, Nat.reduceAdd])
   all_goals refine AOps_nil ?_
   all_goals
    refine thenK_normal (hK12 _ ?_)
    try clear hK12
    refine AW_block ?_
    refine AW_loopR (maskG 15 [0, 4, 0]) (fun (i : Nat) => [(6, .int .i64 i)]) (fun _ => _) (fun i => i ≤ s.length ∧ (s.take i).all inNameB = true) (fun i => s.length - i) 0 ⟨Nat.zero_le _, by simp⟩ (by (simp only [push_cast, Nat.reduceAdd]; (first | refine weak_app0 ?_ | refine weak_same ?_); (repeat (first | exact SlotsOk.nil | refine SlotsOk.junk ?_ | refine SlotsOk.same (by first | (simp [push_cast]; done) | (simp [push_cast, Scoped, ScopedL, *]; done)) ?_ | refine SlotsOk.tok (by first | rfl | (simp; done)) (by first | (simp [push_cast]; done) | (simp [push_cast, Scoped, ScopedL, *]; done)) ?_ | refine SlotsOk.eq (by first | rfl | (congr 1; omega) | (simp; done) | (simp; omega)) (by first | (simp [push_cast]; done) | (simp [push_cast, Scoped, ScopedL, *]; done)) ?_)))) (fun i hi => ?_)
    (try simp only [push_cast, Nat.reduceAdd])
    refine AW_seq_k (fun K13 hK13 => ?_)
    refine AW_region ?_
    all_goals (refine AOps_cons rfl (AOp_bin_int _ _ _ _ rfl rfl rfl ?_) <;> try simp only [push_cast, Nat.reduceAdd])
    all_goals refine AOps_nil ?_
    all_goals
     refine thenK_normal (hK13 _ ?_)
     try clear hK13
     refine AW_seq_k (fun K14 hK14 => ?_)
     apply AW_cond
     case' hc => exact rfl
     case' hf =>
      intro hc15
      try (exfalso; (first | (cases hc15; done) | (simp at hc15; done) | (simp at hc15; omega)); done)
      all_goals (try simp only [decide_eq_true_eq, decide_eq_false_iff_not, Bool.not_eq_true', Bool.not_eq_false', Bool.not_eq_eq_eq_not, Bool.not_true, Bool.not_false] at hc15)
      all_goals
       refine AW_exit ?_
       repeat (first | refine thenK_exit ?_ | refine loopK_exit ?_ | refine blockK_other (by decide) ?_)
       refine blockK_same ?_
       refine thenK_normal (hK11 _ ?_)
       try clear hK11
       refine AW_seq_k (fun K16 hK16 => ?_)
       refine AW_region ?_
       all_goals (refine AOps_cons rfl (AOp_assign ?_) <;> try simp only [push_cast, Nat.reduceAdd])
       all_goals refine AOps_nil ?_
       all_goals
        refine thenK_normal (hK16 _ ?_)
        try clear hK16
        refine AW_ret ?_
        repeat (first | refine thenK_ret ?_ | refine loopK_ret ?_ | refine blockK_ret ?_)
        refine ⟨by first | exact .inl rfl | exact .inr rfl, _, rfl, (by first | exact outok_app 0 rfl (Nat.zero_le _) (by simp) | exact outok_self), by simp [push_cast], ?_⟩
        simp only [push_cast, Nat.reduceAdd]
        have hs : s.take i = s := List.take_of_length_le (by omega)
        rw [hs] at hi
        rw [hi.2]; simp
     case' ht =>
      intro hc15
      try (exfalso; (first | (cases hc15; done) | (simp at hc15; done) | (simp at hc15; omega)); done)
      all_goals (try simp only [decide_eq_true_eq, decide_eq_false_iff_not, Bool.not_eq_true', Bool.not_eq_false', Bool.not_eq_eq_eq_not, Bool.not_true, Bool.not_false] at hc15)
      all_goals
       refine AW_skip ?_
       refine thenK_normal (hK14 _ ?_)
       try clear hK14
       refine AW_seq_k (fun K17 hK17 => ?_)
       refine AW_block ?_
       refine AW_seq_k (fun K18 hK18 => ?_)
       refine AW_region ?_
       all_goals refine AOps_cons rfl (AOp_move ?_)
       all_goals (refine AOps_cons rfl (AOp_assign ?_) <;> try simp only [push_cast, Nat.reduceAdd])
       all_goals refine AOps_nil ?_
       all_goals
        refine thenK_normal (hK18 _ ?_)
        try clear hK18
        refine AW_seq_k (fun K19 hK19 => ?_)
        refine AW_region ?_
        all_goals refine AOps_cons rfl (AOp_move ?_)
        all_goals refine AOps_cons rfl (AOp_move ?_)
        all_goals (try simp only [push_cast, Nat.reduceAdd])
        all_goals (refine AOps_cons rfl (AOp_index_str _ _ _ rfl rfl un9 (by first | omega | (simp; omega)) (by first | omega | (simp; omega)) ?_) <;> try simp only [push_cast, Nat.reduceAdd])
        all_goals refine AOps_cons rfl (AOp_call _ _ _ rfl rfl ok77 ?_)
        all_goals (try simp only [push_cast, Nat.reduceAdd])
        all_goals refine (letter_ac _ _).mono ?_
        all_goals rintro r H' ⟨rfl, rfl⟩
        all_goals (try simp only [push_cast, Nat.reduceAdd])
        all_goals (refine AOps_cons rfl (AOp_not _ rfl ?_) <;> try simp only [push_cast, Nat.reduceAdd])
        all_goals refine AOps_nil ?_
        all_goals
         refine thenK_normal (hK19 _ ?_)
         try clear hK19
         apply AW_cond
         case' hc => exact rfl
         case' hf =>
          intro hc20
          try (exfalso; (first | (cases hc20; done) | (simp at hc20; done) | (simp at hc20; omega)); done)
          all_goals (try simp only [decide_eq_true_eq, decide_eq_false_iff_not, Bool.not_eq_true', Bool.not_eq_false', Bool.not_eq_eq_eq_not, Bool.not_true, Bool.not_false] at hc20)
          all_goals
           refine AW_skip ?_
           refine blockK_normal ?_
           refine thenK_normal (hK17 _ ?_)
           try clear hK17
           refine AW_region ?_
           all_goals refine AOps_cons rfl (AOp_bin_int _ _ _ _ rfl rfl rfl ?_)
           all_goals (try simp only [push_cast, Nat.reduceAdd])
           all_goals (try rw [IntWalk.i64_in _ (by omega)])
           all_goals (try simp only [push_cast, Nat.reduceAdd])
           all_goals (refine AOps_cons rfl (AOp_move ?_) <;> try simp only [push_cast, Nat.reduceAdd])
           all_goals refine AOps_nil ?_
           all_goals
            refine loopK_normal ?_
            have hb : inNameB (s[i]'(by omega)) = true := by assumption
            exact ⟨i + 1, ⟨by omega, all_take_true hi.2 (by omega) hb⟩, by (simp only [push_cast, Nat.reduceAdd]; (first | refine weak_app0 ?_ | refine weak_same ?_); (repeat (first | exact SlotsOk.nil | refine SlotsOk.junk ?_ | refine SlotsOk.same (by first | (simp [push_cast]; done) | (simp [push_cast, Scoped, ScopedL, *]; done)) ?_ | refine SlotsOk.tok (by first | rfl | (simp; done)) (by first | (simp [push_cast]; done) | (simp [push_cast, Scoped, ScopedL, *]; done)) ?_ | refine SlotsOk.eq (by first | rfl | (congr 1; omega) | (simp; done) | (simp; omega)) (by first | (simp [push_cast]; done) | (simp [push_cast, Scoped, ScopedL, *]; done)) ?_))), by omega⟩
         case' ht =>
          intro hc20
          try (exfalso; (first | (cases hc20; done) | (simp at hc20; done) | (simp at hc20; omega)); done)
          all_goals (try simp only [decide_eq_true_eq, decide_eq_false_iff_not, Bool.not_eq_true', Bool.not_eq_false', Bool.not_eq_eq_eq_not, Bool.not_true, Bool.not_false] at hc20)
          all_goals
           refine AW_seq_k (fun K21 hK21 => ?_)
           refine AW_region ?_
           all_goals (refine AOps_cons rfl (AOp_assign ?_) <;> try simp only [push_cast, Nat.reduceAdd])
           all_goals refine AOps_nil ?_
           all_goals
            refine thenK_normal (hK21 _ ?_)
            try clear hK21
            refine AW_ret ?_
            repeat (first | refine thenK_ret ?_ | refine loopK_ret ?_ | refine blockK_ret ?_)
            refine ⟨by first | exact .inl rfl | exact .inr rfl, _, rfl, (by first | exact outok_app 0 rfl (Nat.zero_le _) (by simp) | exact outok_self), by simp [push_cast], ?_⟩
            simp only [push_cast, Nat.reduceAdd]
            have hb : inNameB (s[i]'(by omega)) = false := by assumption
            rw [all_get (i := i) (by omega) hb]; simp
def markedP (s : List UInt8) : Bool := decide (s.getLast? = some 35)
theorem markedR_ac (s : List UInt8) (hlen : s.length < 1099511627776) (H : List AObj) : ACall Try.prog 60 [.str s] H (fun r H' => r = .bool (markedP s) ∧ H' = H) := by
  rcases Nat.eq_zero_or_pos s.length with h0 | h0
  · have hn : s = [] := List.eq_nil_of_length_eq_zero h0
    subst hn
    refine ACall_intro (H.length) Try.func60 rfl ?_
    simp only [Try.ntmps60, List.length_cons, List.length_nil, List.replicate, List.cons_append, List.nil_append, Nat.reduceAdd, Nat.reduceSub, Nat.zero_add]
    refine AW_seq_k (fun K22 hK22 => ?_)
    refine AW_region ?_
    all_goals (refine AOps_cons rfl (AOp_assign ?_) <;> try simp only [push_cast, Nat.reduceAdd])
    all_goals refine AOps_nil ?_
    all_goals
     refine thenK_normal (hK22 _ ?_)
     try clear hK22
     refine AW_seq_k (fun K23 hK23 => ?_)
     refine AW_region ?_
     all_goals refine AOps_cons rfl (AOp_move ?_)
     all_goals (try simp only [push_cast, Nat.reduceAdd])
     all_goals (refine AOps_cons rfl (AOp_bin_str _ _ _ rfl rfl rfl ?_) <;> try simp only [push_cast, Nat.reduceAdd])
     all_goals refine AOps_cons rfl (AOp_move ?_)
     all_goals (try simp only [push_cast, Nat.reduceAdd])
     all_goals (try refine AOps_split 5 _ rfl (fun hg24 => ?_) (fun hg24 => ?_))
     all_goals (try (exfalso; (first | (cases hg24; done) | (simp at hg24; done) | (simp at hg24; omega)); done))
     all_goals (try simp only [decide_eq_true_eq, decide_eq_false_iff_not, Bool.not_eq_true', Bool.not_eq_false', Bool.not_eq_eq_eq_not, Bool.not_true, Bool.not_false] at hg24)
     all_goals first
      | refine AOps_skip rfl ?_
      | (refine AOps_cons rfl ?_
         refine AOp_move ?_)
     all_goals (try simp only [push_cast, Nat.reduceAdd])
     all_goals first
      | refine AOps_skip rfl ?_
      | (refine AOps_cons rfl ?_
         refine AOp_move ?_)
     all_goals (try simp only [push_cast, Nat.reduceAdd])
     all_goals first
      | refine AOps_skip rfl ?_
      | (refine AOps_cons rfl ?_
         refine AOp_len_str _ rfl un9 ?_)
     all_goals (try simp only [push_cast, Nat.reduceAdd])
     all_goals first
      | refine AOps_skip rfl ?_
      | (refine AOps_cons rfl ?_
         refine AOp_bin_int _ _ _ _ rfl rfl rfl ?_
         (try simp only [push_cast, Nat.reduceAdd])
         (try rw [IntWalk.i64_in _ (by omega)]))
     all_goals (try simp only [push_cast, Nat.reduceAdd])
     all_goals first
      | refine AOps_skip rfl ?_
      | (refine AOps_cons rfl ?_
         refine AOp_index_str _ _ _ rfl rfl un9 (by first | omega | (simp; omega)) (by first | omega | (simp; omega)) ?_)
     all_goals (try simp only [push_cast, Nat.reduceAdd])
     all_goals first
      | refine AOps_skip rfl ?_
      | (refine AOps_cons rfl ?_
         refine AOp_bin_int _ _ _ _ rfl rfl rfl ?_)
     all_goals (try simp only [push_cast, Nat.reduceAdd])
     all_goals refine AOps_cons rfl (AOp_pick _ rfl ?_)
     all_goals (refine AOps_cons rfl (AOp_assign ?_) <;> try simp only [push_cast, Nat.reduceAdd])
     all_goals refine AOps_nil ?_
     all_goals
      refine thenK_normal (hK23 _ ?_)
      try clear hK23
      refine AW_ret ?_
      repeat (first | refine thenK_ret ?_ | refine loopK_ret ?_ | refine blockK_ret ?_)
      refine ⟨by first | exact .inl rfl | exact .inr rfl, _, rfl, (by first | exact outok_app 0 rfl (Nat.zero_le _) (by simp) | exact outok_self), by simp [push_cast], ?_⟩
      simp only [push_cast, Nat.reduceAdd]
      simp [markedP]
  · have hn : ¬ s = [] := fun e => by subst e; simp at h0
    have hgl : s.getLast? = some (s[s.length - 1]'(by omega)) := by rw [List.getLast?_eq_getElem?, List.getElem?_eq_getElem]
    refine ACall_intro (H.length) Try.func60 rfl ?_
    simp only [Try.ntmps60, List.length_cons, List.length_nil, List.replicate, List.cons_append, List.nil_append, Nat.reduceAdd, Nat.reduceSub, Nat.zero_add]
    refine AW_seq_k (fun K25 hK25 => ?_)
    refine AW_region ?_
    all_goals (refine AOps_cons rfl (AOp_assign ?_) <;> try simp only [push_cast, Nat.reduceAdd])
    all_goals refine AOps_nil ?_
    all_goals
     refine thenK_normal (hK25 _ ?_)
     try clear hK25
     refine AW_seq_k (fun K26 hK26 => ?_)
     refine AW_region ?_
     all_goals refine AOps_cons rfl (AOp_move ?_)
     all_goals (try simp only [push_cast, Nat.reduceAdd])
     all_goals (refine AOps_cons rfl (AOp_bin_str _ _ _ rfl rfl rfl ?_) <;> try simp only [push_cast, Nat.reduceAdd])
     all_goals refine AOps_cons rfl (AOp_move ?_)
     all_goals (try simp only [push_cast, Nat.reduceAdd])
     all_goals (try refine AOps_split 5 _ rfl (fun hg27 => ?_) (fun hg27 => ?_))
     all_goals (try (exfalso; (first | (cases hg27; done) | (simp at hg27; done) | (simp at hg27; omega)); done))
     all_goals (try simp only [decide_eq_true_eq, decide_eq_false_iff_not, Bool.not_eq_true', Bool.not_eq_false', Bool.not_eq_eq_eq_not, Bool.not_true, Bool.not_false] at hg27)
     all_goals first
      | refine AOps_skip rfl ?_
      | (refine AOps_cons rfl ?_
         refine AOp_move ?_)
     all_goals (try simp only [push_cast, Nat.reduceAdd])
     all_goals first
      | refine AOps_skip rfl ?_
      | (refine AOps_cons rfl ?_
         refine AOp_move ?_)
     all_goals (try simp only [push_cast, Nat.reduceAdd])
     all_goals first
      | refine AOps_skip rfl ?_
      | (refine AOps_cons rfl ?_
         refine AOp_len_str _ rfl un9 ?_)
     all_goals (try simp only [push_cast, Nat.reduceAdd])
     all_goals first
      | refine AOps_skip rfl ?_
      | (refine AOps_cons rfl ?_
         refine AOp_bin_int _ _ _ _ rfl rfl rfl ?_
         (try simp only [push_cast, Nat.reduceAdd])
         (try rw [IntWalk.i64_in _ (by omega)]))
     all_goals (try simp only [push_cast, Nat.reduceAdd])
     all_goals first
      | refine AOps_skip rfl ?_
      | (refine AOps_cons rfl ?_
         refine AOp_index_str _ _ _ rfl rfl un9 (by first | omega | (simp; omega)) (by first | omega | (simp; omega)) ?_)
     all_goals (try simp only [push_cast, Nat.reduceAdd])
     all_goals first
      | refine AOps_skip rfl ?_
      | (refine AOps_cons rfl ?_
         refine AOp_bin_int _ _ _ _ rfl rfl rfl ?_)
     all_goals (try simp only [push_cast, Nat.reduceAdd])
     all_goals refine AOps_cons rfl (AOp_pick _ rfl ?_)
     all_goals (refine AOps_cons rfl (AOp_assign ?_) <;> try simp only [push_cast, Nat.reduceAdd])
     all_goals refine AOps_nil ?_
     all_goals
      refine thenK_normal (hK26 _ ?_)
      try clear hK26
      refine AW_ret ?_
      repeat (first | refine thenK_ret ?_ | refine loopK_ret ?_ | refine blockK_ret ?_)
      refine ⟨by first | exact .inl rfl | exact .inr rfl, _, rfl, (by first | exact outok_app 0 rfl (Nat.zero_le _) (by simp) | exact outok_self), by simp [push_cast], ?_⟩
      simp only [push_cast, Nat.reduceAdd]
      have hidx : ((s.length : Int) - 1).toNat = s.length - 1 := by omega
      simp only [hidx, markedP, hgl]
      have hq : (((s[s.length - 1]'(by omega)).toNat : Int) = 35) ↔ (some (s[s.length - 1]'(by omega)) = some (35 : UInt8)) := by
        constructor
        · intro h
          have : (s[s.length - 1]'(by omega)).toNat = (35 : UInt8).toNat := by show _ = 35; omega
          rw [UInt8.toNat_inj.1 this]
        · intro h; injection h with h; rw [h]; rfl
      first | exact absurd ‹s = []› hn | (simp only [hq]; simp; done) | (have hd := decide_eq_decide.2 hq; simp [hq]; done) | trace_state
end Ab
set_option maxRecDepth 10000
namespace Ab
open Go Go.Proofs
theorem trim_marked (s : List UInt8) : trimSuffix s [35] = if markedP s then s.take (s.length - 1) else s := by
  unfold trimSuffix markedP
  rcases Nat.eq_zero_or_pos s.length with h0 | h0
  · have hn : s = [] := List.eq_nil_of_length_eq_zero h0
    subst hn; simp
  · have hd : s.drop (s.length - 1) = [s[s.length - 1]'(by omega)] := by
      rw [List.drop_eq_getElem_cons (show s.length - 1 < s.length by omega), List.drop_eq_nil_of_le (by omega)]
    have hgl : s.getLast? = some (s[s.length - 1]'(by omega)) := by rw [List.getLast?_eq_getElem?, List.getElem?_eq_getElem]
    have h1 : 1 ≤ s.length := h0
    simp [hd, hgl, h1]
theorem marked_pos (s : List UInt8) (h : markedP s = true) : 0 < s.length := by
  cases s with
  | nil => simp [markedP] at h
  | cons a r => simp
theorem all_not_any (s : List UInt8) : (!s.any fun c => !inNameB c) = s.all inNameB := by simp [List.not_any_eq_all_not]
theorem isNameR_ac (s : List UInt8) (m : Bool) (hlen : s.length < 1099511627776) (H : List AObj) : ACall Try.prog 36 [.str s, .bool m] H (fun r H' => r = .bool (isNameP s m) ∧ H' = H) := by
  have ht := trim_marked s
  refine ACall_intro (H.length) Try.func36 rfl ?_
  simp only [Try.ntmps36, List.length_cons, List.length_nil, List.replicate, List.cons_append, List.nil_append, Nat.reduceAdd, Nat.reduceSub, Nat.zero_add]
  refine AW_seq_k (fun K1 hK1 => ?_)
  refine AW_region ?_
  all_goals (refine AOps_cons rfl (AOp_assign ?_) <;> try simp only [push_cast, Nat.reduceAdd])
  all_goals refine AOps_nil ?_
  all_goals
   refine thenK_normal (hK1 _ ?_)
   try clear hK1
   refine AW_seq_k (fun K2 hK2 => ?_)
   refine AW_seq_k (fun K3 hK3 => ?_)
   refine AW_region ?_
   all_goals refine AOps_cons rfl (AOp_move ?_)
   all_goals (try simp only [push_cast, Nat.reduceAdd])
   all_goals (refine AOps_cons rfl (AOp_len_str _ rfl un9 ?_) <;> try simp only [push_cast, Nat.reduceAdd])
   all_goals (refine AOps_cons rfl (AOp_bin_int _ _ _ _ rfl rfl rfl ?_) <;> try simp only [push_cast, Nat.reduceAdd])
   all_goals refine AOps_nil ?_
   all_goals
    refine thenK_normal (hK3 _ ?_)
    try clear hK3
    apply AW_cond
    case' hc => exact rfl
    case' hf =>
     intro hc4
     try (exfalso; (first | (cases hc4; done) | (simp at hc4; done) | (simp at hc4; omega)); done)
     all_goals (try simp only [decide_eq_true_eq, decide_eq_false_iff_not, Bool.not_eq_true', Bool.not_eq_false', Bool.not_eq_eq_eq_not, Bool.not_true, Bool.not_false] at hc4)
     all_goals
      refine AW_skip ?_
      refine thenK_normal (hK2 _ ?_)
      try clear hK2
      refine AW_seq_k (fun K5 hK5 => ?_)
      refine AW_seq_k (fun K6 hK6 => ?_)
      refine AW_region ?_
      all_goals refine AOps_cons rfl (AOp_move ?_)
      all_goals refine AOps_cons rfl (AOp_move ?_)
      all_goals (try simp only [push_cast, Nat.reduceAdd])
      all_goals (try refine AOps_split 9 _ rfl (fun hg7 => ?_) (fun hg7 => ?_))
      all_goals (try (exfalso; (first | (cases hg7; done) | (simp at hg7; done) | (simp at hg7; omega)); done))
      all_goals (try simp only [decide_eq_true_eq, decide_eq_false_iff_not, Bool.not_eq_true', Bool.not_eq_false', Bool.not_eq_eq_eq_not, Bool.not_true, Bool.not_false] at hg7)
      all_goals first
       | refine AOps_skip rfl ?_
       | (refine AOps_cons rfl ?_
          refine AOp_move ?_)
      all_goals (try simp only [push_cast, Nat.reduceAdd])
      all_goals first
       | refine AOps_skip rfl ?_
       | (refine AOps_cons rfl ?_
          refine AOp_call _ _ _ rfl rfl ok60 ?_
          (try simp only [push_cast, Nat.reduceAdd])
          refine (markedR_ac s hlen _).mono ?_
          rintro r H' ⟨rfl, rfl⟩)
      all_goals (try simp only [push_cast, Nat.reduceAdd])
      all_goals (refine AOps_cons rfl (AOp_pick _ rfl ?_) <;> try simp only [push_cast, Nat.reduceAdd])
      all_goals refine AOps_nil ?_
      all_goals
       refine thenK_normal (hK6 _ ?_)
       try clear hK6
       apply AW_cond
       case' hc => exact rfl
       case' hf =>
        intro hc8
        try (exfalso; (first | (cases hc8; done) | (simp at hc8; done) | (simp at hc8; omega)); done)
        all_goals (try simp only [decide_eq_true_eq, decide_eq_false_iff_not, Bool.not_eq_true', Bool.not_eq_false', Bool.not_eq_eq_eq_not, Bool.not_true, Bool.not_false] at hc8)
        all_goals
         refine AW_skip ?_
       case' ht =>
        intro hc8
        try (exfalso; (first | (cases hc8; done) | (simp at hc8; done) | (simp at hc8; omega)); done)
        all_goals (try simp only [decide_eq_true_eq, decide_eq_false_iff_not, Bool.not_eq_true', Bool.not_eq_false', Bool.not_eq_eq_eq_not, Bool.not_true, Bool.not_false] at hc8)
        all_goals
         refine AW_region ?_
         all_goals refine AOps_cons rfl (AOp_move ?_)
         all_goals refine AOps_cons rfl (AOp_move ?_)
         all_goals (try simp only [push_cast, Nat.reduceAdd])
         all_goals (refine AOps_cons rfl (AOp_len_str _ rfl un9 ?_) <;> try simp only [push_cast, Nat.reduceAdd])
         all_goals refine AOps_cons rfl (AOp_bin_int _ _ _ _ rfl rfl rfl ?_)
         all_goals (try simp only [push_cast, Nat.reduceAdd])
         all_goals (try rw [IntWalk.i64_in _ (by omega)])
         all_goals (try simp only [push_cast, Nat.reduceAdd])
         all_goals refine AOps_cons rfl ?_
         all_goals have h0 : 0 < s.length := marked_pos s (by assumption)
         all_goals refine AOp_slice_str s 0 (s.length - 1) rfl un9 (.inl ⟨rfl, rfl⟩) (.inr ⟨_, .i64, rfl, by simp [push_cast]; omega⟩) (by omega) (by omega) ?_
         all_goals (try simp only [push_cast, Nat.reduceAdd])
         all_goals (refine AOps_cons rfl (AOp_assign ?_) <;> try simp only [push_cast, Nat.reduceAdd])
         all_goals refine AOps_nil ?_
       all_goals
        refine thenK_normal (hK5 _ ?_)
        try clear hK5
        refine AW_seq_k (fun K9 hK9 => ?_)
        refine AW_region ?_
        all_goals refine AOps_cons rfl (AOp_move ?_)
        all_goals (try simp only [push_cast, Nat.reduceAdd])
        all_goals (refine AOps_cons rfl (AOp_bin_str _ _ _ rfl rfl rfl ?_) <;> try simp only [push_cast, Nat.reduceAdd])
        all_goals refine AOps_cons rfl (AOp_move ?_)
        all_goals (try simp only [push_cast, Nat.reduceAdd])
        all_goals (try refine AOps_split 20 _ rfl (fun hg10 => ?_) (fun hg10 => ?_))
        all_goals (try (exfalso; (first | (cases hg10; done) | (simp at hg10; done) | (simp at hg10; omega)); done))
        all_goals (try simp only [decide_eq_true_eq, decide_eq_false_iff_not, Bool.not_eq_true', Bool.not_eq_false', Bool.not_eq_eq_eq_not, Bool.not_true, Bool.not_false] at hg10)
        all_goals first
         | refine AOps_skip rfl ?_
         | (refine AOps_cons rfl ?_
            refine AOp_move ?_)
        all_goals (try simp only [push_cast, Nat.reduceAdd])
        all_goals first
         | refine AOps_skip rfl ?_
         | (refine AOps_cons rfl ?_
            refine AOp_call _ _ _ rfl rfl ok61 ?_
            (try simp only [push_cast, Nat.reduceAdd])
            refine (letters_ac _ (by first | omega | (simp only [List.length_take]; omega)) _).mono ?_
            rintro r H' ⟨rfl, rfl⟩)
        all_goals (try simp only [push_cast, Nat.reduceAdd])
        all_goals refine AOps_cons rfl (AOp_pick _ rfl ?_)
        all_goals (refine AOps_cons rfl (AOp_assign ?_) <;> try simp only [push_cast, Nat.reduceAdd])
        all_goals refine AOps_nil ?_
        all_goals
         refine thenK_normal (hK9 _ ?_)
         try clear hK9
         refine AW_ret ?_
         repeat (first | refine thenK_ret ?_ | refine loopK_ret ?_ | refine blockK_ret ?_)
         refine ⟨by first | exact .inl rfl | exact .inr rfl, _, rfl, (by first | exact outok_app 0 rfl (Nat.zero_le _) (by simp) | exact outok_self), by simp [push_cast], ?_⟩
         simp only [push_cast, Nat.reduceAdd]
         first
           | (have h24 : ¬ s.length ≤ 24 := (by omega); simp [isNameP, h24]; done)
           | (have h24 : s.length ≤ 24 := (by omega); have hm : m = true := (by assumption); have hk : markedP s = true := (by assumption); simp only [Nat.sub_zero] at *; rw [hk] at ht; simp only [if_true] at ht; simp [isNameP, h24, hm, ht, *, all_not_any]; done)
           | (have h24 : s.length ≤ 24 := (by omega); have hm : m = true := (by assumption); have hk : markedP s = false := (by assumption); rw [hk] at ht; simp at ht; simp [isNameP, h24, hm, ht, *, all_not_any]; done)
           | (have h24 : s.length ≤ 24 := (by omega); have hm : m = false := (by assumption); simp [isNameP, h24, hm, *, all_not_any]; done)
           | (have he : s = [] := (by assumption); subst he; cases m <;> simp [isNameP, trimSuffix]; done)
           | trace_state
    case' ht =>
     intro hc4
     try (exfalso; (first | (cases hc4; done) | (simp at hc4; done) | (simp at hc4; omega)); done)
     all_goals (try simp only [decide_eq_true_eq, decide_eq_false_iff_not, Bool.not_eq_true', Bool.not_eq_false', Bool.not_eq_eq_eq_not, Bool.not_true, Bool.not_false] at hc4)
     all_goals
      refine AW_seq_k (fun K11 hK11 => ?_)
      refine AW_region ?_
      all_goals (refine AOps_cons rfl (AOp_assign ?_) <;> try simp only [push_cast, Nat.reduceAdd])
      all_goals refine AOps_nil ?_
      all_goals
       refine thenK_normal (hK11 _ ?_)
       try clear hK11
       refine AW_ret ?_
       repeat (first | refine thenK_ret ?_ | refine loopK_ret ?_ | refine blockK_ret ?_)
       refine ⟨by first | exact .inl rfl | exact .inr rfl, _, rfl, (by first | exact outok_app 0 rfl (Nat.zero_le _) (by simp) | exact outok_self), by simp [push_cast], ?_⟩
       simp only [push_cast, Nat.reduceAdd]
       first
         | (have h24 : ¬ s.length ≤ 24 := (by omega); simp [isNameP, h24]; done)
         | (have h24 : s.length ≤ 24 := (by omega); have hm : m = true := (by assumption); have hk : markedP s = true := (by assumption); simp only [Nat.sub_zero] at *; rw [hk] at ht; simp only [if_true] at ht; simp [isNameP, h24, hm, ht, *, all_not_any]; done)
         | (have h24 : s.length ≤ 24 := (by omega); have hm : m = true := (by assumption); have hk : markedP s = false := (by assumption); rw [hk] at ht; simp at ht; simp [isNameP, h24, hm, ht, *, all_not_any]; done)
         | (have h24 : s.length ≤ 24 := (by omega); have hm : m = false := (by assumption); simp [isNameP, h24, hm, *, all_not_any]; done)
         | (have he : s = [] := (by assumption); subst he; cases m <;> simp [isNameP, trimSuffix]; done)
         | trace_state
end Ab
