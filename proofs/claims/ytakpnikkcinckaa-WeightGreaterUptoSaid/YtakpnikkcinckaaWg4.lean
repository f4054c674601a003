/- Part 4 of 6 of a proof. What is proved: the law WeightGreater returns true and leaves its arguments as they were, for every input of bulk at most 1048576. -/
import Derived.Test.YtakpnikkcinckaaWg3
set_option linter.unusedVariables false
set_option linter.unusedSimpArgs false
/- Whether an order is admissible for symbols: the whole list. -/
set_option maxRecDepth 10000
namespace Ab
open Go Go.Proofs
attribute [local push_cast] encT encR scoped_encR encS scoped_encS
/-- slices.IndexFunc, slices.ContainsFunc over a row of Sym. -/
theorem indexS_ac (xs : List Sym) (g : Nat) (caps : List AV) (p : Sym → Bool) (H : List AObj) (hlen : xs.length < 1099511627776) (hg : callOk Try.prog g = true) (hsc : ScopedL H.length caps)
    (hf : ∀ i (h : i < xs.length) X, ACall Try.prog g (encS xs[i] :: caps) (H ++ X) (fun r H' => r = .bool (p xs[i]) ∧ H' = H ++ X)) :
    ACall Try.prog 72 [.sl .none (encL encS xs), .fn g caps] H (fun r H' => ∃ n : Int, r = .int .i64 n ∧ (0 ≤ n ↔ xs.any p = true) ∧ H' = H) := by
  have hsx : ScopedL H.length (encL encS xs) := scoped_encS _ _
  refine ACall_intro (H.length) Try.func72 rfl ?_
  simp only [Try.ntmps72, List.length_cons, List.length_nil, List.replicate, List.cons_append, List.nil_append, Nat.reduceAdd, Nat.reduceSub, Nat.zero_add]
  refine AW_seq_k (fun K1 hK1 => ?_)
  refine AW_region ?_
  all_goals (refine AOps_cons rfl (AOp_assign ?_) <;> try simp only [push_cast, Nat.reduceAdd])
  all_goals refine AOps_nil ?_
  all_goals
   refine thenK_normal (hK1 _ ?_)
   try clear hK1
   refine AW_seq_k (fun K2 hK2 => ?_)
   refine AW_seq_k (fun K3 hK3 => ?_)
   refine AW_region ?_
   all_goals refine AOps_cons rfl (AOp_move ?_)
   all_goals (try simp only [push_cast, Nat.reduceAdd])
   all_goals (refine AOps_cons rfl (AOp_len_sl _ _ _ rfl sl34 ?_) <;> try simp only [push_cast, Nat.reduceAdd])
   all_goals (refine AOps_cons rfl (AOp_move ?_) <;> try simp only [push_cast, Nat.reduceAdd])
   all_goals refine AOps_nil ?_
   all_goals
    refine thenK_normal (hK3 _ ?_)
    try clear hK3
    refine AW_block ?_
    refine AW_loopR (maskG 19 [0, 0, 5, 0]) (fun (i : Nat) => [(8, .int .i64 i)]) (fun _ => _) (fun i => i ≤ xs.length ∧ (xs.take i).any p = false) (fun i => xs.length - i) 0 ⟨Nat.zero_le _, by simp⟩ (by (simp only [push_cast, Nat.reduceAdd]; (first | refine weak_app0 ?_ | refine weak_same ?_); (repeat (first | exact SlotsOk.nil | refine SlotsOk.junk ?_ | refine SlotsOk.same (by first | (simp [push_cast]; done) | (simp [push_cast, Scoped, ScopedL, *]; done)) ?_ | refine SlotsOk.tok (by first | rfl | (simp; done)) (by first | (simp [push_cast]; done) | (simp [push_cast, Scoped, ScopedL, *]; done)) ?_ | refine SlotsOk.eq (by first | rfl | (congr 1; omega) | (simp; done) | (simp; omega)) (by first | (simp [push_cast]; done) | (simp [push_cast, Scoped, ScopedL, *]; done)) ?_)))) (fun i hi => ?_)
    (try simp only [push_cast, Nat.reduceAdd])
    refine AW_seq_k (fun K4 hK4 => ?_)
    refine AW_region ?_
    all_goals (refine AOps_cons rfl (AOp_bin_int _ _ _ _ rfl rfl rfl ?_) <;> try simp only [push_cast, Nat.reduceAdd])
    all_goals refine AOps_nil ?_
    all_goals
     refine thenK_normal (hK4 _ ?_)
     try clear hK4
     refine AW_seq_k (fun K5 hK5 => ?_)
     apply AW_cond
     case' hc => exact rfl
     case' hf =>
      intro hc6
      try (exfalso; (first | (cases hc6; done) | (simp at hc6; done) | (simp at hc6; omega)); done)
      all_goals (try simp only [decide_eq_true_eq, decide_eq_false_iff_not, Bool.not_eq_true', Bool.not_eq_false', Bool.not_eq_eq_eq_not, Bool.not_true, Bool.not_false] at hc6)
      all_goals
       refine AW_exit ?_
       repeat (first | refine thenK_exit ?_ | refine loopK_exit ?_ | refine blockK_other (by decide) ?_)
       refine blockK_same ?_
       refine thenK_normal (hK2 _ ?_)
       try clear hK2
       refine AW_seq_k (fun K7 hK7 => ?_)
       refine AW_region ?_
       all_goals (refine AOps_cons rfl (AOp_assign ?_) <;> try simp only [push_cast, Nat.reduceAdd])
       all_goals refine AOps_nil ?_
       all_goals
        refine thenK_normal (hK7 _ ?_)
        try clear hK7
        refine AW_ret ?_
        repeat (first | refine thenK_ret ?_ | refine loopK_ret ?_ | refine blockK_ret ?_)
        refine ⟨by first | exact .inl rfl | exact .inr rfl, _, rfl, (by first | exact outok_app 0 rfl (Nat.zero_le _) (by simp) | exact outok_self), by simp [push_cast], ?_⟩
        simp only [push_cast, Nat.reduceAdd]
        have hs : xs.take i = xs := List.take_of_length_le (by omega)
        rw [hs] at hi
        exact ⟨-1, rfl, ⟨by omega, fun h => by rw [hi.2] at h; cases h⟩, by simp⟩
     case' ht =>
      intro hc6
      try (exfalso; (first | (cases hc6; done) | (simp at hc6; done) | (simp at hc6; omega)); done)
      all_goals (try simp only [decide_eq_true_eq, decide_eq_false_iff_not, Bool.not_eq_true', Bool.not_eq_false', Bool.not_eq_eq_eq_not, Bool.not_true, Bool.not_false] at hc6)
      all_goals
       refine AW_skip ?_
       refine thenK_normal (hK5 _ ?_)
       try clear hK5
       refine AW_seq_k (fun K8 hK8 => ?_)
       refine AW_block ?_
       refine AW_seq_k (fun K9 hK9 => ?_)
       refine AW_region ?_
       all_goals refine AOps_cons rfl (AOp_move ?_)
       all_goals (refine AOps_cons rfl (AOp_assign ?_) <;> try simp only [push_cast, Nat.reduceAdd])
       all_goals refine AOps_nil ?_
       all_goals
        refine thenK_normal (hK9 _ ?_)
        try clear hK9
        refine AW_seq_k (fun K10 hK10 => ?_)
        refine AW_region ?_
        all_goals refine AOps_cons rfl (AOp_move ?_)
        all_goals refine AOps_cons rfl (AOp_move ?_)
        all_goals refine AOps_cons rfl (AOp_move ?_)
        all_goals (try simp only [push_cast, Nat.reduceAdd])
        all_goals (refine AOps_cons rfl (AOp_indexAddr_sl 65 _ _ _ _ _ rfl rfl sl34 sz65 (by decide) (by exact uni_encS _) (by first | omega | (simp; omega)) (by first | omega | (simp [push_cast]; omega) | (simp [push_cast]; done)) ?_) <;> try simp only [push_cast, Nat.reduceAdd])
        all_goals (refine AOps_cons rfl (AOp_load_cptr _ _ rfl sz65 ag65 (by simp [push_cast]) ?_) <;> try simp only [push_cast, Nat.reduceAdd])
        all_goals refine AOps_cons rfl (AOp_call _ _ _ rfl rfl hg ?_)
        all_goals have hfi := hf i (by omega) []
        all_goals simp only [List.append_nil] at hfi
        all_goals simp only [push_cast]
        all_goals refine hfi.mono ?_
        all_goals rintro r H' ⟨rfl, rfl⟩
        all_goals (try simp only [push_cast, Nat.reduceAdd])
        all_goals refine AOps_nil ?_
        all_goals
         refine thenK_normal (hK10 _ ?_)
         try clear hK10
         apply AW_cond
         case' hc => exact rfl
         case' hf =>
          intro hc11
          try (exfalso; (first | (cases hc11; done) | (simp at hc11; done) | (simp at hc11; omega)); done)
          all_goals (try simp only [decide_eq_true_eq, decide_eq_false_iff_not, Bool.not_eq_true', Bool.not_eq_false', Bool.not_eq_eq_eq_not, Bool.not_true, Bool.not_false] at hc11)
          all_goals
           refine AW_skip ?_
           refine blockK_normal ?_
           refine thenK_normal (hK8 _ ?_)
           try clear hK8
           refine AW_region ?_
           all_goals refine AOps_cons rfl (AOp_bin_int _ _ _ _ rfl rfl rfl ?_)
           all_goals (try simp only [push_cast, Nat.reduceAdd])
           all_goals (try rw [IntWalk.i64_in _ (by omega)])
           all_goals (try simp only [push_cast, Nat.reduceAdd])
           all_goals (refine AOps_cons rfl (AOp_move ?_) <;> try simp only [push_cast, Nat.reduceAdd])
           all_goals refine AOps_nil ?_
           all_goals
            refine loopK_normal ?_
            exact ⟨i + 1, ⟨by omega, any_take_false hi.2 (by omega) (by assumption)⟩, by (simp only [push_cast, Nat.reduceAdd]; (first | refine weak_app0 ?_ | refine weak_same ?_); (repeat (first | exact SlotsOk.nil | refine SlotsOk.junk ?_ | refine SlotsOk.same (by first | (simp [push_cast]; done) | (simp [push_cast, Scoped, ScopedL, *]; done)) ?_ | refine SlotsOk.tok (by first | rfl | (simp; done)) (by first | (simp [push_cast]; done) | (simp [push_cast, Scoped, ScopedL, *]; done)) ?_ | refine SlotsOk.eq (by first | rfl | (congr 1; omega) | (simp; done) | (simp; omega)) (by first | (simp [push_cast]; done) | (simp [push_cast, Scoped, ScopedL, *]; done)) ?_))), by omega⟩
         case' ht =>
          intro hc11
          try (exfalso; (first | (cases hc11; done) | (simp at hc11; done) | (simp at hc11; omega)); done)
          all_goals (try simp only [decide_eq_true_eq, decide_eq_false_iff_not, Bool.not_eq_true', Bool.not_eq_false', Bool.not_eq_eq_eq_not, Bool.not_true, Bool.not_false] at hc11)
          all_goals
           refine AW_seq_k (fun K12 hK12 => ?_)
           refine AW_region ?_
           all_goals refine AOps_cons rfl (AOp_move ?_)
           all_goals (refine AOps_cons rfl (AOp_assign ?_) <;> try simp only [push_cast, Nat.reduceAdd])
           all_goals refine AOps_nil ?_
           all_goals
            refine thenK_normal (hK12 _ ?_)
            try clear hK12
            refine AW_ret ?_
            repeat (first | refine thenK_ret ?_ | refine loopK_ret ?_ | refine blockK_ret ?_)
            refine ⟨by first | exact .inl rfl | exact .inr rfl, _, rfl, (by first | exact outok_app 0 rfl (Nat.zero_le _) (by simp) | exact outok_self), by simp [push_cast], ?_⟩
            simp only [push_cast, Nat.reduceAdd]
            exact ⟨i, rfl, ⟨fun _ => any_get (xs := xs) (i := i) (by omega) (by assumption), fun _ => by omega⟩, by simp⟩
theorem containsS_ac (xs : List Sym) (g : Nat) (caps : List AV) (p : Sym → Bool) (H : List AObj) (hlen : xs.length < 1099511627776) (hg : callOk Try.prog g = true) (hsc : ScopedL H.length caps)
    (hf : ∀ i (h : i < xs.length) X, ACall Try.prog g (encS xs[i] :: caps) (H ++ X) (fun r H' => r = .bool (p xs[i]) ∧ H' = H ++ X)) :
    ACall Try.prog 52 [.sl .none (encL encS xs), .fn g caps] H (fun r H' => r = .bool (xs.any p) ∧ H' = H) := by
  refine ACall_intro (H.length) Try.func52 rfl ?_
  simp only [Try.ntmps52, List.length_cons, List.length_nil, List.replicate, List.cons_append, List.nil_append, Nat.reduceAdd, Nat.reduceSub, Nat.zero_add]
  refine AW_seq_k (fun K13 hK13 => ?_)
  refine AW_region ?_
  all_goals (refine AOps_cons rfl (AOp_assign ?_) <;> try simp only [push_cast, Nat.reduceAdd])
  all_goals refine AOps_nil ?_
  all_goals
   refine thenK_normal (hK13 _ ?_)
   try clear hK13
   refine AW_seq_k (fun K14 hK14 => ?_)
   refine AW_region ?_
   all_goals refine AOps_cons rfl (AOp_move ?_)
   all_goals refine AOps_cons rfl (AOp_move ?_)
   all_goals (try simp only [push_cast, Nat.reduceAdd])
   all_goals refine AOps_cons rfl (AOp_call _ _ _ rfl rfl ok72 ?_)
   all_goals (try simp only [push_cast, Nat.reduceAdd])
   all_goals refine (indexS_ac xs g caps p _ hlen hg hsc hf).mono ?_
   all_goals rintro r H' ⟨n, rfl, hn, rfl⟩
   all_goals (try simp only [push_cast, Nat.reduceAdd])
   all_goals (refine AOps_cons rfl (AOp_bin_int _ _ _ _ rfl rfl rfl ?_) <;> try simp only [push_cast, Nat.reduceAdd])
   all_goals (refine AOps_cons rfl (AOp_assign ?_) <;> try simp only [push_cast, Nat.reduceAdd])
   all_goals refine AOps_nil ?_
   all_goals
    refine thenK_normal (hK14 _ ?_)
    try clear hK14
    refine AW_ret ?_
    repeat (first | refine thenK_ret ?_ | refine loopK_ret ?_ | refine blockK_ret ?_)
    refine ⟨by first | exact .inl rfl | exact .inr rfl, _, rfl, (by first | exact outok_app 0 rfl (Nat.zero_le _) (by simp) | exact outok_self), by simp [push_cast], ?_⟩
    simp only [push_cast, Nat.reduceAdd]
    simp only [hn, and_true]; cases xs.any p <;> simp
def fitsAt (l : List Rank) (unit : Int) (ss : List Sym) (f : Sym) : Bool :=
  !(decide (f.arity = 0) && decide ((ofP l f.name).weight < unit)) &&
  (!decide (f.arity = 1) || decide (0 < (ofP l f.name).weight) || !ss.any fun g => decide (g ≠ f) && decide ((ofP l f.name).rank ≤ (ofP l g.name).rank))
def fitsW (l : List Rank) (unit : Int) (ss : List Sym) : Bool := ss.all (fitsAt l unit ss)
set_option maxHeartbeats 1600000 in
theorem fitsW_ac (l : List Rank) (hs : SortedR l) (hlen : l.length < 1099511627776) (unit : Int) (ss : List Sym) (hlen2 : ss.length < 1099511627776) (H : List AObj) :
    ACall Try.prog 28 [.sl .none (encL encR l), .int .i64 unit, .sl .none (encL encS ss)] H (fun r H' => r = .bool (fitsW l unit ss) ∧ H' = H) := by
  have hsl := scoped_encR H.length l
  refine ACall_intro (H.length) Try.func28 rfl ?_
  simp only [Try.ntmps28, List.length_cons, List.length_nil, List.replicate, List.cons_append, List.nil_append, Nat.reduceAdd, Nat.reduceSub, Nat.zero_add]
  refine AW_seq_k (fun K15 hK15 => ?_)
  refine AW_region ?_
  all_goals (refine AOps_cons rfl (AOp_box _ _ rfl rfl (by first | exact .inl rfl | exact .inr ⟨_, rfl⟩) (by simp [push_cast, AV.isCell]) ?_) <;> try simp only [push_cast, Nat.reduceAdd])
  all_goals (refine AOps_cons rfl (AOp_assign ?_) <;> try simp only [push_cast, Nat.reduceAdd])
  all_goals refine AOps_nil ?_
  all_goals
   refine thenK_normal (hK15 _ ?_)
   try clear hK15
   refine AW_seq_k (fun K16 hK16 => ?_)
   refine AW_seq_k (fun K17 hK17 => ?_)
   refine AW_region ?_
   all_goals refine AOps_cons rfl (AOp_move ?_)
   all_goals (try simp only [push_cast, Nat.reduceAdd])
   all_goals (refine AOps_cons rfl (AOp_len_sl _ _ _ rfl sl34 ?_) <;> try simp only [push_cast, Nat.reduceAdd])
   all_goals (refine AOps_cons rfl (AOp_move ?_) <;> try simp only [push_cast, Nat.reduceAdd])
   all_goals refine AOps_nil ?_
   all_goals
    refine thenK_normal (hK17 _ ?_)
    try clear hK17
    refine AW_block ?_
    refine AW_loopR (maskG 41 [1, 0, 0, 6, 0, 0]) (fun (i : Nat) => [(12, .int .i64 i)]) (fun _ => _) (fun i => i ≤ ss.length ∧ (ss.take i).all (fitsAt l unit ss) = true) (fun i => ss.length - i) 0 ⟨Nat.zero_le _, by simp⟩ (by (simp only [push_cast, Nat.reduceAdd]; refine weak_app 1 ?_ (by simp) (by simp [push_cast]); (repeat (first | exact SlotsOk.nil | refine SlotsOk.junk ?_ | refine SlotsOk.same (by first | (simp [push_cast]; done) | (simp [push_cast, Scoped, ScopedL, *]; done)) ?_ | refine SlotsOk.tok (by first | rfl | (simp; done)) (by first | (simp [push_cast]; done) | (simp [push_cast, Scoped, ScopedL, *]; done)) ?_ | refine SlotsOk.eq (by first | rfl | (congr 1; omega) | (simp; done) | (simp; omega)) (by first | (simp [push_cast]; done) | (simp [push_cast, Scoped, ScopedL, *]; done)) ?_)))) (fun i hi => ?_)
    (try simp only [push_cast, Nat.reduceAdd])
    refine AW_seq_k (fun K18 hK18 => ?_)
    refine AW_region ?_
    all_goals (refine AOps_cons rfl (AOp_bin_int _ _ _ _ rfl rfl rfl ?_) <;> try simp only [push_cast, Nat.reduceAdd])
    all_goals refine AOps_nil ?_
    all_goals
     refine thenK_normal (hK18 _ ?_)
     try clear hK18
     refine AW_seq_k (fun K19 hK19 => ?_)
     apply AW_cond
     case' hc => exact rfl
     case' hf =>
      intro hc20
      try (exfalso; (first | (cases hc20; done) | (simp at hc20; done) | (simp at hc20; omega)); done)
      all_goals (try simp only [decide_eq_true_eq, decide_eq_false_iff_not, Bool.not_eq_true', Bool.not_eq_false', Bool.not_eq_eq_eq_not, Bool.not_true, Bool.not_false] at hc20)
      all_goals
       refine AW_exit ?_
       repeat (first | refine thenK_exit ?_ | refine loopK_exit ?_ | refine blockK_other (by decide) ?_)
       refine blockK_same ?_
       refine thenK_normal (hK16 _ ?_)
       try clear hK16
       refine AW_seq_k (fun K21 hK21 => ?_)
       refine AW_region ?_
       all_goals (refine AOps_cons rfl (AOp_assign ?_) <;> try simp only [push_cast, Nat.reduceAdd])
       all_goals refine AOps_nil ?_
       all_goals
        refine thenK_normal (hK21 _ ?_)
        try clear hK21
        refine AW_ret ?_
        repeat (first | refine thenK_ret ?_ | refine loopK_ret ?_ | refine blockK_ret ?_)
        refine ⟨by first | exact .inl rfl | exact .inr rfl, _, rfl, (by first | exact outok_app 0 rfl (Nat.zero_le _) (by simp) | exact outok_self), by simp [push_cast], ?_⟩
        simp only [push_cast, Nat.reduceAdd]
        unfold fitsW
        first
          | (have hall : ss.take i = ss := List.take_of_length_le (by omega)
             rw [hall] at hi
             rw [hi.2]; simp; done)
          | (have hil : i < ss.length := (by omega)
             have ha : ss[i].arity = 0 := (by assumption)
             have hw : (ofP l ss[i].name).weight < unit := (by assumption)
             have hf : fitsAt l unit ss ss[i] = false := (by unfold fitsAt; simp [ha, hw])
             rw [all_get hil hf]; simp; done)
          | (have hil : i < ss.length := (by omega)
             have ha : ss[i].arity = 1 := (by assumption)
             have hw : ¬ 0 < (ofP l ss[i].name).weight := (by assumption)
             have hq : (ss.any fun g => decide (g ≠ ss[i]) && decide ((ofP l ss[i].name).rank ≤ (ofP l g.name).rank)) = true := (by assumption)
             have hf : fitsAt l unit ss ss[i] = false := (by unfold fitsAt; rw [hq]; simp [ha]; omega)
             rw [all_get hil hf]; simp; done)
          | trace_state
     case' ht =>
      intro hc20
      try (exfalso; (first | (cases hc20; done) | (simp at hc20; done) | (simp at hc20; omega)); done)
      all_goals (try simp only [decide_eq_true_eq, decide_eq_false_iff_not, Bool.not_eq_true', Bool.not_eq_false', Bool.not_eq_eq_eq_not, Bool.not_true, Bool.not_false] at hc20)
      all_goals
       refine AW_skip ?_
       refine thenK_normal (hK19 _ ?_)
       try clear hK19
       refine AW_seq_k (fun K22 hK22 => ?_)
       refine AW_block ?_
       refine AW_seq_k (fun K23 hK23 => ?_)
       refine AW_region ?_
       all_goals (refine AOps_cons rfl (AOp_indexAddr_sl 65 _ _ _ _ _ rfl rfl sl34 sz65 (by decide) (by exact uni_encS _) (by first | omega | (simp; omega)) (by first | omega | (simp [push_cast]; omega) | (simp [push_cast]; done)) ?_) <;> try simp only [push_cast, Nat.reduceAdd])
       all_goals (refine AOps_cons rfl (AOp_load_cptr _ _ rfl sz65 ag65 (by simp [push_cast]) ?_) <;> try simp only [push_cast, Nat.reduceAdd])
       all_goals (refine AOps_cons rfl (AOp_alloc _ zr65 (by simp [ofVal, AV.isCell, Value.oneCell']) ?_) <;> try simp only [push_cast, Nat.reduceAdd])
       all_goals (refine AOps_cons rfl (AOp_store _ _ _ _ _ rfl (by first | exact hget0 | exact hgetN _ rfl | assumption | exact hgetL (by assumption)) rfl rfl (by first | exact .inl rfl | exact .inr ⟨_, rfl⟩) (by simp [push_cast, AV.isCell]) sz65 (by simp [push_cast]) ?_) <;> try simp only [push_cast, Nat.reduceAdd])
       all_goals refine AOps_nil ?_
       all_goals
        refine thenK_normal (hK23 _ ?_)
        try clear hK23
        refine AW_seq_k (fun K24 hK24 => ?_)
        refine AW_region ?_
        all_goals (refine AOps_cons rfl (AOp_load1_ptr _ _ _ _ _ rfl (by first | exact hget0 | exact hgetN _ rfl | assumption | exact hgetL (by assumption)) sz22 ag22 (by decide) (by simp [push_cast]) rfl ?_) <;> try simp only [push_cast, Nat.reduceAdd])
        all_goals (refine AOps_cons rfl (AOp_fieldAddr_ptr _ _ _ _ rfl fd65_0 (by decide) ?_) <;> try simp only [push_cast, Nat.reduceAdd])
        all_goals (refine AOps_cons rfl (AOp_load1_ptr _ _ _ _ _ rfl (by first | exact hget0 | exact hgetN _ rfl | assumption | exact hgetL (by assumption)) sz9 ag9 (by decide) (by simp [push_cast]) rfl ?_) <;> try simp only [push_cast, Nat.reduceAdd])
        all_goals refine AOps_cons rfl (AOp_call _ _ _ rfl rfl ok51 ?_)
        all_goals (try simp only [push_cast, Nat.reduceAdd])
        all_goals refine (of_ac l hs _ hlen _).mono ?_
        all_goals rintro r H' ⟨rfl, rfl⟩
        all_goals (try simp only [push_cast, Nat.reduceAdd])
        all_goals (refine AOps_cons rfl (AOp_alloc _ zr63 (by simp [ofVal, AV.isCell, Value.oneCell']) ?_) <;> try simp only [push_cast, Nat.reduceAdd])
        all_goals (refine AOps_cons rfl (AOp_store _ _ _ _ _ rfl (by first | exact hget0 | exact hgetN _ rfl | assumption | exact hgetL (by assumption)) rfl rfl (by first | exact .inl rfl | exact .inr ⟨_, rfl⟩) (by simp [push_cast, AV.isCell]) sz63 (by simp [push_cast]) ?_) <;> try simp only [push_cast, Nat.reduceAdd])
        all_goals refine AOps_nil ?_
        all_goals
         refine thenK_normal (hK24 _ ?_)
         try clear hK24
         refine AW_seq_k (fun K25 hK25 => ?_)
         refine AW_seq_k (fun K26 hK26 => ?_)
         refine AW_region ?_
         all_goals (refine AOps_cons rfl (AOp_fieldAddr_ptr _ _ _ _ rfl fd65_1 (by decide) ?_) <;> try simp only [push_cast, Nat.reduceAdd])
         all_goals (refine AOps_cons rfl (AOp_load1_ptr _ _ _ _ _ rfl (by first | exact hget0 | exact hgetN _ rfl | assumption | exact hgetL (by assumption)) sz3 ag3 (by decide) (by simp [push_cast]) rfl ?_) <;> try simp only [push_cast, Nat.reduceAdd])
         all_goals (refine AOps_cons rfl (AOp_bin_int _ _ _ _ rfl rfl rfl ?_) <;> try simp only [push_cast, Nat.reduceAdd])
         all_goals refine AOps_cons rfl (AOp_move ?_)
         all_goals (try simp only [push_cast, Nat.reduceAdd])
         all_goals (try refine AOps_split 23 _ rfl (fun hg27 => ?_) (fun hg27 => ?_))
         all_goals (try (exfalso; (first | (cases hg27; done) | (simp at hg27; done) | (simp at hg27; omega)); done))
         all_goals (try simp only [decide_eq_true_eq, decide_eq_false_iff_not, Bool.not_eq_true', Bool.not_eq_false', Bool.not_eq_eq_eq_not, Bool.not_true, Bool.not_false] at hg27)
         all_goals first
          | refine AOps_skip rfl ?_
          | (refine AOps_cons rfl ?_
             refine AOp_fieldAddr_ptr _ _ _ _ rfl fd63_2 (by decide) ?_)
         all_goals (try simp only [push_cast, Nat.reduceAdd])
         all_goals first
          | refine AOps_skip rfl ?_
          | (refine AOps_cons rfl ?_
             refine AOp_load1_ptr _ _ _ _ _ rfl (by first | exact hget0 | exact hgetN _ rfl | assumption | exact hgetL (by assumption)) sz3 ag3 (by decide) (by simp [push_cast]) rfl ?_)
         all_goals (try simp only [push_cast, Nat.reduceAdd])
         all_goals first
          | refine AOps_skip rfl ?_
          | (refine AOps_cons rfl ?_
             refine AOp_move ?_)
         all_goals (try simp only [push_cast, Nat.reduceAdd])
         all_goals first
          | refine AOps_skip rfl ?_
          | (refine AOps_cons rfl ?_
             refine AOp_bin_int _ _ _ _ rfl rfl rfl ?_)
         all_goals (try simp only [push_cast, Nat.reduceAdd])
         all_goals (refine AOps_cons rfl (AOp_pick _ rfl ?_) <;> try simp only [push_cast, Nat.reduceAdd])
         all_goals refine AOps_nil ?_
         all_goals
          refine thenK_normal (hK26 _ ?_)
          try clear hK26
          apply AW_cond
          case' hc => exact rfl
          case' hf =>
           intro hc28
           try (exfalso; (first | (cases hc28; done) | (simp at hc28; done) | (simp at hc28; omega)); done)
           all_goals (try simp only [decide_eq_true_eq, decide_eq_false_iff_not, Bool.not_eq_true', Bool.not_eq_false', Bool.not_eq_eq_eq_not, Bool.not_true, Bool.not_false] at hc28)
           all_goals
            refine AW_skip ?_
            refine thenK_normal (hK25 _ ?_)
            try clear hK25
            refine AW_seq_k (fun K29 hK29 => ?_)
            refine AW_seq_k (fun K30 hK30 => ?_)
            refine AW_region ?_
            all_goals (refine AOps_cons rfl (AOp_fieldAddr_ptr _ _ _ _ rfl fd65_1 (by decide) ?_) <;> try simp only [push_cast, Nat.reduceAdd])
            all_goals (refine AOps_cons rfl (AOp_load1_ptr _ _ _ _ _ rfl (by first | exact hget0 | exact hgetN _ rfl | assumption | exact hgetL (by assumption)) sz3 ag3 (by decide) (by simp [push_cast]) rfl ?_) <;> try simp only [push_cast, Nat.reduceAdd])
            all_goals (refine AOps_cons rfl (AOp_bin_int _ _ _ _ rfl rfl rfl ?_) <;> try simp only [push_cast, Nat.reduceAdd])
            all_goals refine AOps_cons rfl (AOp_move ?_)
            all_goals (try simp only [push_cast, Nat.reduceAdd])
            all_goals (try refine AOps_split 32 _ rfl (fun hg31 => ?_) (fun hg31 => ?_))
            all_goals (try (exfalso; (first | (cases hg31; done) | (simp at hg31; done) | (simp at hg31; omega)); done))
            all_goals (try simp only [decide_eq_true_eq, decide_eq_false_iff_not, Bool.not_eq_true', Bool.not_eq_false', Bool.not_eq_eq_eq_not, Bool.not_true, Bool.not_false] at hg31)
            all_goals first
             | refine AOps_skip rfl ?_
             | (refine AOps_cons rfl ?_
                refine AOp_fieldAddr_ptr _ _ _ _ rfl fd63_2 (by decide) ?_)
            all_goals (try simp only [push_cast, Nat.reduceAdd])
            all_goals first
             | refine AOps_skip rfl ?_
             | (refine AOps_cons rfl ?_
                refine AOp_load1_ptr _ _ _ _ _ rfl (by first | exact hget0 | exact hgetN _ rfl | assumption | exact hgetL (by assumption)) sz3 ag3 (by decide) (by simp [push_cast]) rfl ?_)
            all_goals (try simp only [push_cast, Nat.reduceAdd])
            all_goals first
             | refine AOps_skip rfl ?_
             | (refine AOps_cons rfl ?_
                refine AOp_bin_int _ _ _ _ rfl rfl rfl ?_)
            all_goals (try simp only [push_cast, Nat.reduceAdd])
            all_goals (refine AOps_cons rfl (AOp_pick _ rfl ?_) <;> try simp only [push_cast, Nat.reduceAdd])
            all_goals refine AOps_nil ?_
            all_goals
             refine thenK_normal (hK30 _ ?_)
             try clear hK30
             apply AW_cond
             case' hc => exact rfl
             case' hf =>
              intro hc32
              try (exfalso; (first | (cases hc32; done) | (simp at hc32; done) | (simp at hc32; omega)); done)
              all_goals (try simp only [decide_eq_true_eq, decide_eq_false_iff_not, Bool.not_eq_true', Bool.not_eq_false', Bool.not_eq_eq_eq_not, Bool.not_true, Bool.not_false] at hc32)
              all_goals
               refine AW_skip ?_
               refine thenK_normal (hK29 _ ?_)
               try clear hK29
               refine AW_seq_k (fun K33 hK33 => ?_)
               refine AW_region ?_
               all_goals refine AOps_cons rfl (AOp_move ?_)
               all_goals refine AOps_cons rfl (AOp_makeFunc ?_)
               all_goals (try simp only [push_cast, Nat.reduceAdd])
               all_goals refine AOps_cons rfl (AOp_call _ _ _ rfl rfl ok52 ?_)
               all_goals (try simp only [push_cast, Nat.reduceAdd])
               all_goals have hil : i < ss.length := by omega
               all_goals refine (containsS_ac ss 53 _ (fun g => decide (g ≠ ss[i]) && decide ((ofP l ss[i].name).rank ≤ (ofP l g.name).rank)) _ hlen2 ok53 (by simp [ScopedL, Scoped]) (fun k h X => fits1_ac l hs hlen _ _ (ofP l ss[i].name) _ _ _ _ (by rw [List.append_assoc]; exact hgetN 1 rfl) (by rw [List.append_assoc]; exact hget0) (by rw [List.append_assoc]; exact hgetN 2 rfl))).mono ?_
               all_goals rintro r H' ⟨rfl, rfl⟩
               all_goals (try simp only [push_cast, Nat.reduceAdd])
               all_goals refine AOps_nil ?_
               all_goals
                refine thenK_normal (hK33 _ ?_)
                try clear hK33
                apply AW_cond
                case' hc => exact rfl
                case' hf =>
                 intro hc34
                 try (exfalso; (first | (cases hc34; done) | (simp at hc34; done) | (simp at hc34; omega)); done)
                 all_goals (try simp only [decide_eq_true_eq, decide_eq_false_iff_not, Bool.not_eq_true', Bool.not_eq_false', Bool.not_eq_eq_eq_not, Bool.not_true, Bool.not_false] at hc34)
                 all_goals
                  refine AW_skip ?_
                  refine blockK_normal ?_
                  refine thenK_normal (hK22 _ ?_)
                  try clear hK22
                  refine AW_region ?_
                  all_goals refine AOps_cons rfl (AOp_bin_int _ _ _ _ rfl rfl rfl ?_)
                  all_goals (try simp only [push_cast, Nat.reduceAdd])
                  all_goals (try rw [IntWalk.i64_in _ (by omega)])
                  all_goals (try simp only [push_cast, Nat.reduceAdd])
                  all_goals (refine AOps_cons rfl (AOp_move ?_) <;> try simp only [push_cast, Nat.reduceAdd])
                  all_goals refine AOps_nil ?_
                  all_goals
                   refine loopK_normal ?_
                   have hil : i < ss.length := by omega
                   refine ⟨i + 1, ⟨by omega, all_take_true hi.2 hil ?_⟩, by (simp only [push_cast, Nat.reduceAdd]; refine weak_app 1 ?_ (by simp) (by simp [push_cast]); (repeat (first | exact SlotsOk.nil | refine SlotsOk.junk ?_ | refine SlotsOk.same (by first | (simp [push_cast]; done) | (simp [push_cast, Scoped, ScopedL, *]; done)) ?_ | refine SlotsOk.tok (by first | rfl | (simp; done)) (by first | (simp [push_cast]; done) | (simp [push_cast, Scoped, ScopedL, *]; done)) ?_ | refine SlotsOk.eq (by first | rfl | (congr 1; omega) | (simp; done) | (simp; omega)) (by first | (simp [push_cast]; done) | (simp [push_cast, Scoped, ScopedL, *]; done)) ?_))), by omega⟩
                   unfold fitsAt
                   have c1 : ¬ (ss[i].arity = 0 ∧ (ofP l ss[i].name).weight < unit) := by
                     rintro ⟨a, b⟩
                     first | contradiction | omega
                   have c2 : ¬ ss[i].arity = 1 ∨ 0 < (ofP l ss[i].name).weight ∨ (ss.any fun g => decide (g ≠ ss[i]) && decide ((ofP l ss[i].name).rank ≤ (ofP l g.name).rank)) = false := by
                     first | exact .inl (by assumption) | exact .inr (.inl (by assumption)) | exact .inr (.inr (by assumption))
                   cases hA : (decide (ss[i].arity = 0) && decide ((ofP l ss[i].name).weight < unit)) with
                   | true => simp at hA; exact absurd hA c1
                   | false =>
                     rw [Bool.not_false, Bool.true_and]
                     rcases c2 with h | h | h
                     · simp [h]
                     · simp [h]
                     · rw [h]; simp
                case' ht =>
                 intro hc34
                 try (exfalso; (first | (cases hc34; done) | (simp at hc34; done) | (simp at hc34; omega)); done)
                 all_goals (try simp only [decide_eq_true_eq, decide_eq_false_iff_not, Bool.not_eq_true', Bool.not_eq_false', Bool.not_eq_eq_eq_not, Bool.not_true, Bool.not_false] at hc34)
                 all_goals
                  refine AW_seq_k (fun K35 hK35 => ?_)
                  refine AW_region ?_
                  all_goals (refine AOps_cons rfl (AOp_assign ?_) <;> try simp only [push_cast, Nat.reduceAdd])
                  all_goals refine AOps_nil ?_
                  all_goals
                   refine thenK_normal (hK35 _ ?_)
                   try clear hK35
                   refine AW_ret ?_
                   repeat (first | refine thenK_ret ?_ | refine loopK_ret ?_ | refine blockK_ret ?_)
                   refine ⟨by first | exact .inl rfl | exact .inr rfl, _, rfl, (by first | exact outok_app 0 rfl (Nat.zero_le _) (by simp) | exact outok_self), by simp [push_cast], ?_⟩
                   simp only [push_cast, Nat.reduceAdd]
                   unfold fitsW
                   first
                     | (have hall : ss.take i = ss := List.take_of_length_le (by omega)
                        rw [hall] at hi
                        rw [hi.2]; simp; done)
                     | (have hil : i < ss.length := (by omega)
                        have ha : ss[i].arity = 0 := (by assumption)
                        have hw : (ofP l ss[i].name).weight < unit := (by assumption)
                        have hf : fitsAt l unit ss ss[i] = false := (by unfold fitsAt; simp [ha, hw])
                        rw [all_get hil hf]; simp; done)
                     | (have hil : i < ss.length := (by omega)
                        have ha : ss[i].arity = 1 := (by assumption)
                        have hw : ¬ 0 < (ofP l ss[i].name).weight := (by assumption)
                        have hq : (ss.any fun g => decide (g ≠ ss[i]) && decide ((ofP l ss[i].name).rank ≤ (ofP l g.name).rank)) = true := (by assumption)
                        have hf : fitsAt l unit ss ss[i] = false := (by unfold fitsAt; rw [hq]; simp [ha]; omega)
                        rw [all_get hil hf]; simp; done)
                     | trace_state
             case' ht =>
              intro hc32
              try (exfalso; (first | (cases hc32; done) | (simp at hc32; done) | (simp at hc32; omega)); done)
              all_goals (try simp only [decide_eq_true_eq, decide_eq_false_iff_not, Bool.not_eq_true', Bool.not_eq_false', Bool.not_eq_eq_eq_not, Bool.not_true, Bool.not_false] at hc32)
              all_goals
               refine AW_exit ?_
               repeat (first | refine thenK_exit ?_ | refine loopK_exit ?_ | refine blockK_other (by decide) ?_)
               refine blockK_same ?_
               refine thenK_normal (hK22 _ ?_)
               try clear hK22
               refine AW_region ?_
               all_goals refine AOps_cons rfl (AOp_bin_int _ _ _ _ rfl rfl rfl ?_)
               all_goals (try simp only [push_cast, Nat.reduceAdd])
               all_goals (try rw [IntWalk.i64_in _ (by omega)])
               all_goals (try simp only [push_cast, Nat.reduceAdd])
               all_goals (refine AOps_cons rfl (AOp_move ?_) <;> try simp only [push_cast, Nat.reduceAdd])
               all_goals refine AOps_nil ?_
               all_goals
                refine loopK_normal ?_
                have hil : i < ss.length := by omega
                refine ⟨i + 1, ⟨by omega, all_take_true hi.2 hil ?_⟩, by (simp only [push_cast, Nat.reduceAdd]; refine weak_app 1 ?_ (by simp) (by simp [push_cast]); (repeat (first | exact SlotsOk.nil | refine SlotsOk.junk ?_ | refine SlotsOk.same (by first | (simp [push_cast]; done) | (simp [push_cast, Scoped, ScopedL, *]; done)) ?_ | refine SlotsOk.tok (by first | rfl | (simp; done)) (by first | (simp [push_cast]; done) | (simp [push_cast, Scoped, ScopedL, *]; done)) ?_ | refine SlotsOk.eq (by first | rfl | (congr 1; omega) | (simp; done) | (simp; omega)) (by first | (simp [push_cast]; done) | (simp [push_cast, Scoped, ScopedL, *]; done)) ?_))), by omega⟩
                unfold fitsAt
                have c1 : ¬ (ss[i].arity = 0 ∧ (ofP l ss[i].name).weight < unit) := by
                  rintro ⟨a, b⟩
                  first | contradiction | omega
                have c2 : ¬ ss[i].arity = 1 ∨ 0 < (ofP l ss[i].name).weight ∨ (ss.any fun g => decide (g ≠ ss[i]) && decide ((ofP l ss[i].name).rank ≤ (ofP l g.name).rank)) = false := by
                  first | exact .inl (by assumption) | exact .inr (.inl (by assumption)) | exact .inr (.inr (by assumption))
                cases hA : (decide (ss[i].arity = 0) && decide ((ofP l ss[i].name).weight < unit)) with
                | true => simp at hA; exact absurd hA c1
                | false =>
                  rw [Bool.not_false, Bool.true_and]
                  rcases c2 with h | h | h
                  · simp [h]
                  · simp [h]
                  · rw [h]; simp
          case' ht =>
           intro hc28
           try (exfalso; (first | (cases hc28; done) | (simp at hc28; done) | (simp at hc28; omega)); done)
           all_goals (try simp only [decide_eq_true_eq, decide_eq_false_iff_not, Bool.not_eq_true', Bool.not_eq_false', Bool.not_eq_eq_eq_not, Bool.not_true, Bool.not_false] at hc28)
           all_goals
            refine AW_seq_k (fun K36 hK36 => ?_)
            refine AW_region ?_
            all_goals (refine AOps_cons rfl (AOp_assign ?_) <;> try simp only [push_cast, Nat.reduceAdd])
            all_goals refine AOps_nil ?_
            all_goals
             refine thenK_normal (hK36 _ ?_)
             try clear hK36
             refine AW_ret ?_
             repeat (first | refine thenK_ret ?_ | refine loopK_ret ?_ | refine blockK_ret ?_)
             refine ⟨by first | exact .inl rfl | exact .inr rfl, _, rfl, (by first | exact outok_app 0 rfl (Nat.zero_le _) (by simp) | exact outok_self), by simp [push_cast], ?_⟩
             simp only [push_cast, Nat.reduceAdd]
             unfold fitsW
             first
               | (have hall : ss.take i = ss := List.take_of_length_le (by omega)
                  rw [hall] at hi
                  rw [hi.2]; simp; done)
               | (have hil : i < ss.length := (by omega)
                  have ha : ss[i].arity = 0 := (by assumption)
                  have hw : (ofP l ss[i].name).weight < unit := (by assumption)
                  have hf : fitsAt l unit ss ss[i] = false := (by unfold fitsAt; simp [ha, hw])
                  rw [all_get hil hf]; simp; done)
               | (have hil : i < ss.length := (by omega)
                  have ha : ss[i].arity = 1 := (by assumption)
                  have hw : ¬ 0 < (ofP l ss[i].name).weight := (by assumption)
                  have hq : (ss.any fun g => decide (g ≠ ss[i]) && decide ((ofP l ss[i].name).rank ≤ (ofP l g.name).rank)) = true := (by assumption)
                  have hf : fitsAt l unit ss ss[i] = false := (by unfold fitsAt; rw [hq]; simp [ha]; omega)
                  rw [all_get hil hf]; simp; done)
               | trace_state
end Ab
/- The reference's functions on names. -/
set_option maxRecDepth 10000
namespace Ab
open Go Go.Proofs
attribute [local push_cast] encT
theorem letter_ac (c : Int) (H : List AObj) : ACall Try.prog 77 [.int .u8 c] H (fun r H' => r = .bool (inName c) ∧ H' = H) := by
  refine ACall_intro (H.length) Try.func77 rfl ?_
  simp only [Try.ntmps77, List.length_cons, List.length_nil, List.replicate, List.cons_append, List.nil_append, Nat.reduceAdd, Nat.reduceSub, Nat.zero_add]
  refine AW_seq_k (fun K1 hK1 => ?_)
  refine AW_region ?_
  all_goals (refine AOps_cons rfl (AOp_assign ?_) <;> try simp only [push_cast, Nat.reduceAdd])
  all_goals refine AOps_nil ?_
  all_goals
   refine thenK_normal (hK1 _ ?_)
   try clear hK1
   refine AW_seq_k (fun K2 hK2 => ?_)
   refine AW_region ?_
   all_goals refine AOps_cons rfl (AOp_move ?_)
   all_goals (try simp only [push_cast, Nat.reduceAdd])
   all_goals (refine AOps_cons rfl (AOp_bin_int _ _ _ _ rfl rfl rfl ?_) <;> try simp only [push_cast, Nat.reduceAdd])
   all_goals refine AOps_cons rfl (AOp_move ?_)
   all_goals (try simp only [push_cast, Nat.reduceAdd])
   all_goals (try refine AOps_split 5 _ rfl (fun hg3 => ?_) (fun hg3 => ?_))
   all_goals (try (exfalso; (first | (cases hg3; done) | (simp at hg3; done) | (simp at hg3; omega)); done))
   all_goals (try simp only [decide_eq_true_eq, decide_eq_false_iff_not, Bool.not_eq_true', Bool.not_eq_false', Bool.not_eq_eq_eq_not, Bool.not_true, Bool.not_false] at hg3)
   all_goals first
    | refine AOps_skip rfl ?_
    | (refine AOps_cons rfl ?_
       refine AOp_move ?_)
   all_goals (try simp only [push_cast, Nat.reduceAdd])
   all_goals first
    | refine AOps_skip rfl ?_
    | (refine AOps_cons rfl ?_
       refine AOp_bin_int _ _ _ _ rfl rfl rfl ?_)
   all_goals (try simp only [push_cast, Nat.reduceAdd])
   all_goals refine AOps_cons rfl (AOp_pick _ rfl ?_)
   all_goals refine AOps_cons rfl (AOp_move ?_)
   all_goals (try simp only [push_cast, Nat.reduceAdd])
   all_goals (try refine AOps_split 9 _ rfl (fun hg4 => ?_) (fun hg4 => ?_))
   all_goals (try (exfalso; (first | (cases hg4; done) | (simp at hg4; done) | (simp at hg4; omega)); done))
   all_goals (try simp only [decide_eq_true_eq, decide_eq_false_iff_not, Bool.not_eq_true', Bool.not_eq_false', Bool.not_eq_eq_eq_not, Bool.not_true, Bool.not_false] at hg4)
   all_goals first
    | refine AOps_skip rfl ?_
    | (refine AOps_cons rfl ?_
       refine AOp_move ?_)
   all_goals (try simp only [push_cast, Nat.reduceAdd])
   all_goals first
    | refine AOps_skip rfl ?_
    | (refine AOps_cons rfl ?_
       refine AOp_bin_int _ _ _ _ rfl rfl rfl ?_)
   all_goals (try simp only [push_cast, Nat.reduceAdd])
   all_goals first
    | refine AOps_skip rfl ?_
    | (refine AOps_cons rfl ?_
       refine AOp_move ?_)
   all_goals (try simp only [push_cast, Nat.reduceAdd])
   all_goals (try refine AOps_split 12 _ rfl (fun hg5 => ?_) (fun hg5 => ?_))
   all_goals (try (exfalso; (first | (cases hg5; done) | (simp at hg5; done) | (simp at hg5; omega)); done))
   all_goals (try simp only [decide_eq_true_eq, decide_eq_false_iff_not, Bool.not_eq_true', Bool.not_eq_false', Bool.not_eq_eq_eq_not, Bool.not_true, Bool.not_false] at hg5)
   all_goals first
    | refine AOps_skip rfl ?_
    | (refine AOps_cons rfl ?_
       refine AOp_move ?_)
   all_goals (try simp only [push_cast, Nat.reduceAdd])
   all_goals first
    | refine AOps_skip rfl ?_
    | (refine AOps_cons rfl ?_
       refine AOp_bin_int _ _ _ _ rfl rfl rfl ?_)
   all_goals (try simp only [push_cast, Nat.reduceAdd])
   all_goals first
    | refine AOps_skip rfl ?_
    | (refine AOps_cons rfl ?_
       refine AOp_pick _ rfl ?_)
   all_goals (try simp only [push_cast, Nat.reduceAdd])
   all_goals refine AOps_cons rfl (AOp_pick _ rfl ?_)
   all_goals refine AOps_cons rfl (AOp_move ?_)
   all_goals (try simp only [push_cast, Nat.reduceAdd])
   all_goals (try refine AOps_split 17 _ rfl (fun hg6 => ?_) (fun hg6 => ?_))
   all_goals (try (exfalso; (first | (cases hg6; done) | (simp at hg6; done) | (simp at hg6; omega)); done))
   all_goals (try simp only [decide_eq_true_eq, decide_eq_false_iff_not, Bool.not_eq_true', Bool.not_eq_false', Bool.not_eq_eq_eq_not, Bool.not_true, Bool.not_false] at hg6)
   all_goals first
    | refine AOps_skip rfl ?_
    | (refine AOps_cons rfl ?_
       refine AOp_move ?_)
   all_goals (try simp only [push_cast, Nat.reduceAdd])
   all_goals first
    | refine AOps_skip rfl ?_
    | (refine AOps_cons rfl ?_
       refine AOp_bin_int _ _ _ _ rfl rfl rfl ?_)
   all_goals (try simp only [push_cast, Nat.reduceAdd])
   all_goals first
    | refine AOps_skip rfl ?_
    | (refine AOps_cons rfl ?_
       refine AOp_move ?_)
   all_goals (try simp only [push_cast, Nat.reduceAdd])
   all_goals (try refine AOps_split 20 _ rfl (fun hg7 => ?_) (fun hg7 => ?_))
   all_goals (try (exfalso; (first | (cases hg7; done) | (simp at hg7; done) | (simp at hg7; omega)); done))
   all_goals (try simp only [decide_eq_true_eq, decide_eq_false_iff_not, Bool.not_eq_true', Bool.not_eq_false', Bool.not_eq_eq_eq_not, Bool.not_true, Bool.not_false] at hg7)
   all_goals first
    | refine AOps_skip rfl ?_
    | (refine AOps_cons rfl ?_
       refine AOp_move ?_)
   all_goals (try simp only [push_cast, Nat.reduceAdd])
   all_goals first
    | refine AOps_skip rfl ?_
    | (refine AOps_cons rfl ?_
       refine AOp_bin_int _ _ _ _ rfl rfl rfl ?_)
   all_goals (try simp only [push_cast, Nat.reduceAdd])
   all_goals first
    | refine AOps_skip rfl ?_
    | (refine AOps_cons rfl ?_
       refine AOp_pick _ rfl ?_)
   all_goals (try simp only [push_cast, Nat.reduceAdd])
   all_goals refine AOps_cons rfl (AOp_pick _ rfl ?_)
   all_goals refine AOps_cons rfl (AOp_move ?_)
   all_goals (try simp only [push_cast, Nat.reduceAdd])
   all_goals (try refine AOps_split 25 _ rfl (fun hg8 => ?_) (fun hg8 => ?_))
   all_goals (try (exfalso; (first | (cases hg8; done) | (simp at hg8; done) | (simp at hg8; omega)); done))
   all_goals (try simp only [decide_eq_true_eq, decide_eq_false_iff_not, Bool.not_eq_true', Bool.not_eq_false', Bool.not_eq_eq_eq_not, Bool.not_true, Bool.not_false] at hg8)
   all_goals first
    | refine AOps_skip rfl ?_
    | (refine AOps_cons rfl ?_
       refine AOp_move ?_)
   all_goals (try simp only [push_cast, Nat.reduceAdd])
   all_goals first
    | refine AOps_skip rfl ?_
    | (refine AOps_cons rfl ?_
       refine AOp_bin_int _ _ _ _ rfl rfl rfl ?_)
   all_goals (try simp only [push_cast, Nat.reduceAdd])
   all_goals refine AOps_cons rfl (AOp_pick _ rfl ?_)
   all_goals refine AOps_cons rfl (AOp_move ?_)
   all_goals (try simp only [push_cast, Nat.reduceAdd])
   all_goals (try refine AOps_split 29 _ rfl (fun hg9 => ?_) (fun hg9 => ?_))
   all_goals (try (exfalso; (first | (cases hg9; done) | (simp at hg9; done) | (simp at hg9; omega)); done))
   all_goals (try simp only [decide_eq_true_eq, decide_eq_false_iff_not, Bool.not_eq_true', Bool.not_eq_false', Bool.not_eq_eq_eq_not, Bool.not_true, Bool.not_false] at hg9)
   all_goals first
    | refine AOps_skip rfl ?_
    | (refine AOps_cons rfl ?_
       refine AOp_move ?_)
   all_goals (try simp only [push_cast, Nat.reduceAdd])
   all_goals first
    | refine AOps_skip rfl ?_
    | (refine AOps_cons rfl ?_
       refine AOp_bin_int _ _ _ _ rfl rfl rfl ?_)
   all_goals (try simp only [push_cast, Nat.reduceAdd])
   all_goals refine AOps_cons rfl (AOp_pick _ rfl ?_)
   all_goals (refine AOps_cons rfl (AOp_assign ?_) <;> try simp only [push_cast, Nat.reduceAdd])
   all_goals refine AOps_nil ?_
   all_goals
    refine thenK_normal (hK2 _ ?_)
    try clear hK2
    refine AW_ret ?_
    repeat (first | refine thenK_ret ?_ | refine loopK_ret ?_ | refine blockK_ret ?_)
    refine ⟨by first | exact .inl rfl | exact .inr rfl, _, rfl, (by first | exact outok_app 0 rfl (Nat.zero_le _) (by simp) | exact outok_self), by simp [push_cast], ?_⟩
    simp only [push_cast, Nat.reduceAdd]
    unfold inName; (first | (simp [*]; done) | (simp; omega) | (simp [*]; omega))
theorem letters_ac (s : List UInt8) (hlen : s.length < 1099511627776) (H : List AObj) : ACall Try.prog 61 [.str s] H (fun r H' => r = .bool (s.all inNameB) ∧ H' = H) := by
  refine ACall_intro (H.length) Try.func61 rfl ?_
  simp only [Try.ntmps61, List.length_cons, List.length_nil, List.replicate, List.cons_append, List.nil_append, Nat.reduceAdd, Nat.reduceSub, Nat.zero_add]
  refine AW_seq_k (fun K10 hK10 => ?_)
  refine AW_region ?_
  all_goals (refine AOps_cons rfl (AOp_assign ?_) <;> try simp only [push_cast, Nat.reduceAdd])
  all_goals refine AOps_nil ?_
  all_goals
   refine thenK_normal (hK10 _ ?_)
   try clear hK10
   refine AW_seq_k (fun K11 hK11 => ?_)
   refine AW_seq_k (fun K12 hK12 => ?_)
   refine AW_region ?_
   all_goals refine AOps_cons rfl (AOp_move ?_)
   all_goals (try simp only [push_cast, Nat.reduceAdd])
   all_goals (refine AOps_cons rfl (AOp_len_str _ rfl un9 ?_) <;> try simp only [push_cast, Nat.reduceAdd])
   all_goals (refine AOps_cons rfl (AOp_move ?_) <;> try simp only [push_cast, Nat.reduceAdd])
   all_goals refine AOps_nil ?_
   all_goals
    refine thenK_normal (hK12 _ ?_)
    try clear hK12
    refine AW_block ?_
    refine AW_loopR (maskG 15 [0, 4, 0]) (fun (i : Nat) => [(6, .int .i64 i)]) (fun _ => _) (fun i => i ≤ s.length ∧ (s.take i).all inNameB = true) (fun i => s.length - i) 0 ⟨Nat.zero_le _, by simp⟩ (by (simp only [push_cast, Nat.reduceAdd]; (first | refine weak_app0 ?_ | refine weak_same ?_); (repeat (first | exact SlotsOk.nil | refine SlotsOk.junk ?_ | refine SlotsOk.same (by first | (simp [push_cast]; done) | (simp [push_cast, Scoped, ScopedL, *]; done)) ?_ | refine SlotsOk.tok (by first | rfl | (simp; done)) (by first | (simp [push_cast]; done) | (simp [push_cast, Scoped, ScopedL, *]; done)) ?_ | refine SlotsOk.eq (by first | rfl | (congr 1; omega) | (simp; done) | (simp; omega)) (by first | (simp [push_cast]; done) | (simp [push_cast, Scoped, ScopedL, *]; done)) ?_)))) (fun i hi => ?_)
    (try simp only [push_cast, Nat.reduceAdd])
    refine AW_seq_k (fun K13 hK13 => ?_)
    refine AW_region ?_
    all_goals (refine AOps_cons rfl (AOp_bin_int _ _ _ _ rfl rfl rfl ?_) <;> try simp only [push_cast, Nat.reduceAdd])
    all_goals refine AOps_nil ?_
    all_goals
     refine thenK_normal (hK13 _ ?_)
     try clear hK13
     refine AW_seq_k (fun K14 hK14 => ?_)
     apply AW_cond
     case' hc => exact rfl
     case' hf =>
      intro hc15
      try (exfalso; (first | (cases hc15; done) | (simp at hc15; done) | (simp at hc15; omega)); done)
      all_goals (try simp only [decide_eq_true_eq, decide_eq_false_iff_not, Bool.not_eq_true', Bool.not_eq_false', Bool.not_eq_eq_eq_not, Bool.not_true, Bool.not_false] at hc15)
      all_goals
       refine AW_exit ?_
       repeat (first | refine thenK_exit ?_ | refine loopK_exit ?_ | refine blockK_other (by decide) ?_)
       refine blockK_same ?_
       refine thenK_normal (hK11 _ ?_)
       try clear hK11
       refine AW_seq_k (fun K16 hK16 => ?_)
       refine AW_region ?_
       all_goals (refine AOps_cons rfl (AOp_assign ?_) <;> try simp only [push_cast, Nat.reduceAdd])
       all_goals refine AOps_nil ?_
       all_goals
        refine thenK_normal (hK16 _ ?_)
        try clear hK16
        refine AW_ret ?_
        repeat (first | refine thenK_ret ?_ | refine loopK_ret ?_ | refine blockK_ret ?_)
        refine ⟨by first | exact .inl rfl | exact .inr rfl, _, rfl, (by first | exact outok_app 0 rfl (Nat.zero_le _) (by simp) | exact outok_self), by simp [push_cast], ?_⟩
        simp only [push_cast, Nat.reduceAdd]
        have hs : s.take i = s := List.take_of_length_le (by omega)
        rw [hs] at hi
        rw [hi.2]; simp
     case' ht =>
      intro hc15
      try (exfalso; (first | (cases hc15; done) | (simp at hc15; done) | (simp at hc15; omega)); done)
      all_goals (try simp only [decide_eq_true_eq, decide_eq_false_iff_not, Bool.not_eq_true', Bool.not_eq_false', Bool.not_eq_eq_eq_not, Bool.not_true, Bool.not_false] at hc15)
      all_goals
       refine AW_skip ?_
       refine thenK_normal (hK14 _ ?_)
       try clear hK14
       refine AW_seq_k (fun K17 hK17 => ?_)
       refine AW_block ?_
       refine AW_seq_k (fun K18 hK18 => ?_)
       refine AW_region ?_
       all_goals refine AOps_cons rfl (AOp_move ?_)
       all_goals (refine AOps_cons rfl (AOp_assign ?_) <;> try simp only [push_cast, Nat.reduceAdd])
       all_goals refine AOps_nil ?_
       all_goals
        refine thenK_normal (hK18 _ ?_)
        try clear hK18
        refine AW_seq_k (fun K19 hK19 => ?_)
        refine AW_region ?_
        all_goals refine AOps_cons rfl (AOp_move ?_)
        all_goals refine AOps_cons rfl (AOp_move ?_)
        all_goals (try simp only [push_cast, Nat.reduceAdd])
        all_goals (refine AOps_cons rfl (AOp_index_str _ _ _ rfl rfl un9 (by first | omega | (simp; omega)) (by first | omega | (simp; omega)) ?_) <;> try simp only [push_cast, Nat.reduceAdd])
        all_goals refine AOps_cons rfl (AOp_call _ _ _ rfl rfl ok77 ?_)
        all_goals (try simp only [push_cast, Nat.reduceAdd])
        all_goals refine (letter_ac _ _).mono ?_
        all_goals rintro r H' ⟨rfl, rfl⟩
        all_goals (try simp only [push_cast, Nat.reduceAdd])
        all_goals (refine AOps_cons rfl (AOp_not _ rfl ?_) <;> try simp only [push_cast, Nat.reduceAdd])
        all_goals refine AOps_nil ?_
        all_goals
         refine thenK_normal (hK19 _ ?_)
         try clear hK19
         apply AW_cond
         case' hc => exact rfl
         case' hf =>
          intro hc20
          try (exfalso; (first | (cases hc20; done) | (simp at hc20; done) | (simp at hc20; omega)); done)
          all_goals (try simp only [decide_eq_true_eq, decide_eq_false_iff_not, Bool.not_eq_true', Bool.not_eq_false', Bool.not_eq_eq_eq_not, Bool.not_true, Bool.not_false] at hc20)
          all_goals
           refine AW_skip ?_
           refine blockK_normal ?_
           refine thenK_normal (hK17 _ ?_)
           try clear hK17
           refine AW_region ?_
           all_goals refine AOps_cons rfl (AOp_bin_int _ _ _ _ rfl rfl rfl ?_)
           all_goals (try simp only [push_cast, Nat.reduceAdd])
           all_goals (try rw [IntWalk.i64_in _ (by omega)])
           all_goals (try simp only [push_cast, Nat.reduceAdd])
           all_goals (refine AOps_cons rfl (AOp_move ?_) <;> try simp only [push_cast, Nat.reduceAdd])
           all_goals refine AOps_nil ?_
           all_goals
            refine loopK_normal ?_
            have hb : inNameB (s[i]'(by omega)) = true := by assumption
            exact ⟨i + 1, ⟨by omega, all_take_true hi.2 (by omega) hb⟩, by (simp only [push_cast, Nat.reduceAdd]; (first | refine weak_app0 ?_ | refine weak_same ?_); (repeat (first | exact SlotsOk.nil | refine SlotsOk.junk ?_ | refine SlotsOk.same (by first | (simp [push_cast]; done) | (simp [push_cast, Scoped, ScopedL, *]; done)) ?_ | refine SlotsOk.tok (by first | rfl | (simp; done)) (by first | (simp [push_cast]; done) | (simp [push_cast, Scoped, ScopedL, *]; done)) ?_ | refine SlotsOk.eq (by first | rfl | (congr 1; omega) | (simp; done) | (simp; omega)) (by first | (simp [push_cast]; done) | (simp [push_cast, Scoped, ScopedL, *]; done)) ?_))), by omega⟩
         case' ht =>
          intro hc20
          try (exfalso; (first | (cases hc20; done) | (simp at hc20; done) | (simp at hc20; omega)); done)
          all_goals (try simp only [decide_eq_true_eq, decide_eq_false_iff_not, Bool.not_eq_true', Bool.not_eq_false', Bool.not_eq_eq_eq_not, Bool.not_true, Bool.not_false] at hc20)
          all_goals
           refine AW_seq_k (fun K21 hK21 => ?_)
           refine AW_region ?_
           all_goals (refine AOps_cons rfl (AOp_assign ?_) <;> try simp only [push_cast, Nat.reduceAdd])
           all_goals refine AOps_nil ?_
           all_goals
            refine thenK_normal (hK21 _ ?_)
            try clear hK21
            refine AW_ret ?_
            repeat (first | refine thenK_ret ?_ | refine loopK_ret ?_ | refine blockK_ret ?_)
            refine ⟨by first | exact .inl rfl | exact .inr rfl, _, rfl, (by first | exact outok_app 0 rfl (Nat.zero_le _) (by simp) | exact outok_self), by simp [push_cast], ?_⟩
            simp only [push_cast, Nat.reduceAdd]
            have hb : inNameB (s[i]'(by omega)) = false := by assumption
            rw [all_get (i := i) (by omega) hb]; simp
def markedP (s : List UInt8) : Bool := decide (s.getLast? = some 35)
theorem markedR_ac (s : List UInt8) (hlen : s.length < 1099511627776) (H : List AObj) : ACall Try.prog 60 [.str s] H (fun r H' => r = .bool (markedP s) ∧ H' = H) := by
  rcases Nat.eq_zero_or_pos s.length with h0 | h0
  · have hn : s = [] := List.eq_nil_of_length_eq_zero h0
    subst hn
    refine ACall_intro (H.length) Try.func60 rfl ?_
    simp only [Try.ntmps60, List.length_cons, List.length_nil, List.replicate, List.cons_append, List.nil_append, Nat.reduceAdd, Nat.reduceSub, Nat.zero_add]
    refine AW_seq_k (fun K22 hK22 => ?_)
    refine AW_region ?_
    all_goals (refine AOps_cons rfl (AOp_assign ?_) <;> try simp only [push_cast, Nat.reduceAdd])
    all_goals refine AOps_nil ?_
    all_goals
     refine thenK_normal (hK22 _ ?_)
     try clear hK22
     refine AW_seq_k (fun K23 hK23 => ?_)
     refine AW_region ?_
     all_goals refine AOps_cons rfl (AOp_move ?_)
     all_goals (try simp only [push_cast, Nat.reduceAdd])
     all_goals (refine AOps_cons rfl (AOp_bin_str _ _ _ rfl rfl rfl ?_) <;> try simp only [push_cast, Nat.reduceAdd])
     all_goals refine AOps_cons rfl (AOp_move ?_)
     all_goals (try simp only [push_cast, Nat.reduceAdd])
     all_goals (try refine AOps_split 5 _ rfl (fun hg24 => ?_) (fun hg24 => ?_))
     all_goals (try (exfalso; (first | (cases hg24; done) | (simp at hg24; done) | (simp at hg24; omega)); done))
     all_goals (try simp only [decide_eq_true_eq, decide_eq_false_iff_not, Bool.not_eq_true', Bool.not_eq_false', Bool.not_eq_eq_eq_not, Bool.not_true, Bool.not_false] at hg24)
     all_goals first
      | refine AOps_skip rfl ?_
      | (refine AOps_cons rfl ?_
         refine AOp_move ?_)
     all_goals (try simp only [push_cast, Nat.reduceAdd])
     all_goals first
      | refine AOps_skip rfl ?_
      | (refine AOps_cons rfl ?_
         refine AOp_move ?_)
     all_goals (try simp only [push_cast, Nat.reduceAdd])
     all_goals first
      | refine AOps_skip rfl ?_
      | (refine AOps_cons rfl ?_
         refine AOp_len_str _ rfl un9 ?_)
     all_goals (try simp only [push_cast, Nat.reduceAdd])
     all_goals first
      | refine AOps_skip rfl ?_
      | (refine AOps_cons rfl ?_
         refine AOp_bin_int _ _ _ _ rfl rfl rfl ?_
         (try simp only [push_cast, Nat.reduceAdd])
         (try rw [IntWalk.i64_in _ (by omega)]))
     all_goals (try simp only [push_cast, Nat.reduceAdd])
     all_goals first
      | refine AOps_skip rfl ?_
      | (refine AOps_cons rfl ?_
         refine AOp_index_str _ _ _ rfl rfl un9 (by first | omega | (simp; omega)) (by first | omega | (simp; omega)) ?_)
     all_goals (try simp only [push_cast, Nat.reduceAdd])
     all_goals first
      | refine AOps_skip rfl ?_
      | (refine AOps_cons rfl ?_
         refine AOp_bin_int _ _ _ _ rfl rfl rfl ?_)
     all_goals (try simp only [push_cast, Nat.reduceAdd])
     all_goals refine AOps_cons rfl (AOp_pick _ rfl ?_)
     all_goals (refine AOps_cons rfl (AOp_assign ?_) <;> try simp only [push_cast, Nat.reduceAdd])
     all_goals refine AOps_nil ?_
     all_goals
      refine thenK_normal (hK23 _ ?_)
      try clear hK23
      refine AW_ret ?_
      repeat (first | refine thenK_ret ?_ | refine loopK_ret ?_ | refine blockK_ret ?_)
      refine ⟨by first | exact .inl rfl | exact .inr rfl, _, rfl, (by first | exact outok_app 0 rfl (Nat.zero_le _) (by simp) | exact outok_self), by simp [push_cast], ?_⟩
      simp only [push_cast, Nat.reduceAdd]
      simp [markedP]
  · have hn : ¬ s = [] := fun e => by subst e; simp at h0
    have hgl : s.getLast? = some (s[s.length - 1]'(by omega)) := by rw [List.getLast?_eq_getElem?, List.getElem?_eq_getElem]
    refine ACall_intro (H.length) Try.func60 rfl ?_
    simp only [Try.ntmps60, List.length_cons, List.length_nil, List.replicate, List.cons_append, List.nil_append, Nat.reduceAdd, Nat.reduceSub, Nat.zero_add]
    refine AW_seq_k (fun K25 hK25 => ?_)
    refine AW_region ?_
    all_goals (refine AOps_cons rfl (AOp_assign ?_) <;> try simp only [push_cast, Nat.reduceAdd])
    all_goals refine AOps_nil ?_
    all_goals
     refine thenK_normal (hK25 _ ?_)
     try clear hK25
     refine AW_seq_k (fun K26 hK26 => ?_)
     refine AW_region ?_
     all_goals refine AOps_cons rfl (AOp_move ?_)
     all_goals (try simp only [push_cast, Nat.reduceAdd])
     all_goals (refine AOps_cons rfl (AOp_bin_str _ _ _ rfl rfl rfl ?_) <;> try simp only [push_cast, Nat.reduceAdd])
     all_goals refine AOps_cons rfl (AOp_move ?_)
     all_goals (try simp only [push_cast, Nat.reduceAdd])
     all_goals (try refine AOps_split 5 _ rfl (fun hg27 => ?_) (fun hg27 => ?_))
     all_goals (try (exfalso; (first | (cases hg27; done) | (simp at hg27; done) | (simp at hg27; omega)); done))
     all_goals (try simp only [decide_eq_true_eq, decide_eq_false_iff_not, Bool.not_eq_true', Bool.not_eq_false', Bool.not_eq_eq_eq_not, Bool.not_true, Bool.not_false] at hg27)
     all_goals first
      | refine AOps_skip rfl ?_
      | (refine AOps_cons rfl ?_
         refine AOp_move ?_)
     all_goals (try simp only [push_cast, Nat.reduceAdd])
     all_goals first
      | refine AOps_skip rfl ?_
      | (refine AOps_cons rfl ?_
         refine AOp_move ?_)
     all_goals (try simp only [push_cast, Nat.reduceAdd])
     all_goals first
      | refine AOps_skip rfl ?_
      | (refine AOps_cons rfl ?_
         refine AOp_len_str _ rfl un9 ?_)
     all_goals (try simp only [push_cast, Nat.reduceAdd])
     all_goals first
      | refine AOps_skip rfl ?_
      | (refine AOps_cons rfl ?_
         refine AOp_bin_int _ _ _ _ rfl rfl rfl ?_
         (try simp only [push_cast, Nat.reduceAdd])
         (try rw [IntWalk.i64_in _ (by omega)]))
     all_goals (try simp only [push_cast, Nat.reduceAdd])
     all_goals first
      | refine AOps_skip rfl ?_
      | (refine AOps_cons rfl ?_
         refine AOp_index_str _ _ _ rfl rfl un9 (by first | omega | (simp; omega)) (by first | omega | (simp; omega)) ?_)
     all_goals (try simp only [push_cast, Nat.reduceAdd])
     all_goals first
      | refine AOps_skip rfl ?_
      | (refine AOps_cons rfl ?_
         refine AOp_bin_int _ _ _ _ rfl rfl rfl ?_)
     all_goals (try simp only [push_cast, Nat.reduceAdd])
     all_goals refine AOps_cons rfl (AOp_pick _ rfl ?_)
     all_goals (refine AOps_cons rfl (AOp_assign ?_) <;> try simp only [push_cast, Nat.reduceAdd])
     all_goals refine AOps_nil ?_
     all_goals
      refine thenK_normal (hK26 _ ?_)
      try clear hK26
      refine AW_ret ?_
      repeat (first | refine thenK_ret ?_ | refine loopK_ret ?_ | refine blockK_ret ?_)
      refine ⟨by first | exact .inl rfl | exact .inr rfl, _, rfl, (by first | exact outok_app 0 rfl (Nat.zero_le _) (by simp) | exact outok_self), by simp [push_cast], ?_⟩
      simp only [push_cast, Nat.reduceAdd]
      have hidx : ((s.length : Int) - 1).toNat = s.length - 1 := by omega
      simp only [hidx, markedP, hgl]
      have hq : (((s[s.length - 1]'(by omega)).toNat : Int) = 35) ↔ (some (s[s.length - 1]'(by omega)) = some (35 : UInt8)) := by
        constructor
        · intro h
          have : (s[s.length - 1]'(by omega)).toNat = (35 : UInt8).toNat := by show _ = 35; omega
          rw [UInt8.toNat_inj.1 this]
        · intro h; injection h with h; rw [h]; rfl
      first | exact absurd ‹s = []› hn | (simp only [hq]; simp; done) | (have hd := decide_eq_decide.2 hq; simp [hq]; done) | trace_state
end Ab
/- The reference's test of names. -/
set_option maxRecDepth 10000
namespace Ab
open Go Go.Proofs
theorem trim_marked (s : List UInt8) : trimSuffix s [35] = if markedP s then s.take (s.length - 1) else s := by
  unfold trimSuffix markedP
  rcases Nat.eq_zero_or_pos s.length with h0 | h0
  · have hn : s = [] := List.eq_nil_of_length_eq_zero h0
    subst hn; simp
  · have hd : s.drop (s.length - 1) = [s[s.length - 1]'(by omega)] := by
      rw [List.drop_eq_getElem_cons (show s.length - 1 < s.length by omega), List.drop_eq_nil_of_le (by omega)]
    have hgl : s.getLast? = some (s[s.length - 1]'(by omega)) := by rw [List.getLast?_eq_getElem?, List.getElem?_eq_getElem]
    have h1 : 1 ≤ s.length := h0
    simp [hd, hgl, h1]
theorem marked_pos (s : List UInt8) (h : markedP s = true) : 0 < s.length := by
  cases s with
  | nil => simp [markedP] at h
  | cons a r => simp
theorem all_not_any (s : List UInt8) : (!s.any fun c => !inNameB c) = s.all inNameB := by simp [List.not_any_eq_all_not]
theorem isNameR_ac (s : List UInt8) (m : Bool) (hlen : s.length < 1099511627776) (H : List AObj) : ACall Try.prog 36 [.str s, .bool m] H (fun r H' => r = .bool (isNameP s m) ∧ H' = H) := by
  have ht := trim_marked s
  refine ACall_intro (H.length) Try.func36 rfl ?_
  simp only [Try.ntmps36, List.length_cons, List.length_nil, List.replicate, List.cons_append, List.nil_append, Nat.reduceAdd, Nat.reduceSub, Nat.zero_add]
  refine AW_seq_k (fun K1 hK1 => ?_)
  refine AW_region ?_
  all_goals (refine AOps_cons rfl (AOp_assign ?_) <;> try simp only [push_cast, Nat.reduceAdd])
  all_goals refine AOps_nil ?_
  all_goals
   refine thenK_normal (hK1 _ ?_)
   try clear hK1
   refine AW_seq_k (fun K2 hK2 => ?_)
   refine AW_seq_k (fun K3 hK3 => ?_)
   refine AW_region ?_
   all_goals refine AOps_cons rfl (AOp_move ?_)
   all_goals (try simp only [push_cast, Nat.reduceAdd])
   all_goals (refine AOps_cons rfl (AOp_len_str _ rfl un9 ?_) <;> try simp only [push_cast, Nat.reduceAdd])
   all_goals (refine AOps_cons rfl (AOp_bin_int _ _ _ _ rfl rfl rfl ?_) <;> try simp only [push_cast, Nat.reduceAdd])
   all_goals refine AOps_nil ?_
   all_goals
    refine thenK_normal (hK3 _ ?_)
    try clear hK3
    apply AW_cond
    case' hc => exact rfl
    case' hf =>
     intro hc4
     try (exfalso; (first | (cases hc4; done) | (simp at hc4; done) | (simp at hc4; omega)); done)
     all_goals (try simp only [decide_eq_true_eq, decide_eq_false_iff_not, Bool.not_eq_true', Bool.not_eq_false', Bool.not_eq_eq_eq_not, Bool.not_true, Bool.not_false] at hc4)
     all_goals
      refine AW_skip ?_
      refine thenK_normal (hK2 _ ?_)
      try clear hK2
      refine AW_seq_k (fun K5 hK5 => ?_)
      refine AW_seq_k (fun K6 hK6 => ?_)
      refine AW_region ?_
      all_goals refine AOps_cons rfl (AOp_move ?_)
      all_goals refine AOps_cons rfl (AOp_move ?_)
      all_goals (try simp only [push_cast, Nat.reduceAdd])
      all_goals (try refine AOps_split 9 _ rfl (fun hg7 => ?_) (fun hg7 => ?_))
      all_goals (try (exfalso; (first | (cases hg7; done) | (simp at hg7; done) | (simp at hg7; omega)); done))
      all_goals (try simp only [decide_eq_true_eq, decide_eq_false_iff_not, Bool.not_eq_true', Bool.not_eq_false', Bool.not_eq_eq_eq_not, Bool.not_true, Bool.not_false] at hg7)
      all_goals first
       | refine AOps_skip rfl ?_
       | (refine AOps_cons rfl ?_
          refine AOp_move ?_)
      all_goals (try simp only [push_cast, Nat.reduceAdd])
      all_goals first
       | refine AOps_skip rfl ?_
       | (refine AOps_cons rfl ?_
          refine AOp_call _ _ _ rfl rfl ok60 ?_
          (try simp only [push_cast, Nat.reduceAdd])
          refine (markedR_ac s hlen _).mono ?_
          rintro r H' ⟨rfl, rfl⟩)
      all_goals (try simp only [push_cast, Nat.reduceAdd])
      all_goals (refine AOps_cons rfl (AOp_pick _ rfl ?_) <;> try simp only [push_cast, Nat.reduceAdd])
      all_goals refine AOps_nil ?_
      all_goals
       refine thenK_normal (hK6 _ ?_)
       try clear hK6
       apply AW_cond
       case' hc => exact rfl
       case' hf =>
        intro hc8
        try (exfalso; (first | (cases hc8; done) | (simp at hc8; done) | (simp at hc8; omega)); done)
        all_goals (try simp only [decide_eq_true_eq, decide_eq_false_iff_not, Bool.not_eq_true', Bool.not_eq_false', Bool.not_eq_eq_eq_not, Bool.not_true, Bool.not_false] at hc8)
        all_goals
         refine AW_skip ?_
       case' ht =>
        intro hc8
        try (exfalso; (first | (cases hc8; done) | (simp at hc8; done) | (simp at hc8; omega)); done)
        all_goals (try simp only [decide_eq_true_eq, decide_eq_false_iff_not, Bool.not_eq_true', Bool.not_eq_false', Bool.not_eq_eq_eq_not, Bool.not_true, Bool.not_false] at hc8)
        all_goals
         refine AW_region ?_
         all_goals refine AOps_cons rfl (AOp_move ?_)
         all_goals refine AOps_cons rfl (AOp_move ?_)
         all_goals (try simp only [push_cast, Nat.reduceAdd])
         all_goals (refine AOps_cons rfl (AOp_len_str _ rfl un9 ?_) <;> try simp only [push_cast, Nat.reduceAdd])
         all_goals refine AOps_cons rfl (AOp_bin_int _ _ _ _ rfl rfl rfl ?_)
         all_goals (try simp only [push_cast, Nat.reduceAdd])
         all_goals (try rw [IntWalk.i64_in _ (by omega)])
         all_goals (try simp only [push_cast, Nat.reduceAdd])
         all_goals refine AOps_cons rfl ?_
         all_goals have h0 : 0 < s.length := marked_pos s (by assumption)
         all_goals refine AOp_slice_str s 0 (s.length - 1) rfl un9 (.inl ⟨rfl, rfl⟩) (.inr ⟨_, .i64, rfl, by simp [push_cast]; omega⟩) (by omega) (by omega) ?_
         all_goals (try simp only [push_cast, Nat.reduceAdd])
         all_goals (refine AOps_cons rfl (AOp_assign ?_) <;> try simp only [push_cast, Nat.reduceAdd])
         all_goals refine AOps_nil ?_
       all_goals
        refine thenK_normal (hK5 _ ?_)
        try clear hK5
        refine AW_seq_k (fun K9 hK9 => ?_)
        refine AW_region ?_
        all_goals refine AOps_cons rfl (AOp_move ?_)
        all_goals (try simp only [push_cast, Nat.reduceAdd])
        all_goals (refine AOps_cons rfl (AOp_bin_str _ _ _ rfl rfl rfl ?_) <;> try simp only [push_cast, Nat.reduceAdd])
        all_goals refine AOps_cons rfl (AOp_move ?_)
        all_goals (try simp only [push_cast, Nat.reduceAdd])
        all_goals (try refine AOps_split 20 _ rfl (fun hg10 => ?_) (fun hg10 => ?_))
        all_goals (try (exfalso; (first | (cases hg10; done) | (simp at hg10; done) | (simp at hg10; omega)); done))
        all_goals (try simp only [decide_eq_true_eq, decide_eq_false_iff_not, Bool.not_eq_true', Bool.not_eq_false', Bool.not_eq_eq_eq_not, Bool.not_true, Bool.not_false] at hg10)
        all_goals first
         | refine AOps_skip rfl ?_
         | (refine AOps_cons rfl ?_
            refine AOp_move ?_)
        all_goals (try simp only [push_cast, Nat.reduceAdd])
        all_goals first
         | refine AOps_skip rfl ?_
         | (refine AOps_cons rfl ?_
            refine AOp_call _ _ _ rfl rfl ok61 ?_
            (try simp only [push_cast, Nat.reduceAdd])
            refine (letters_ac _ (by first | omega | (simp only [List.length_take]; omega)) _).mono ?_
            rintro r H' ⟨rfl, rfl⟩)
        all_goals (try simp only [push_cast, Nat.reduceAdd])
        all_goals refine AOps_cons rfl (AOp_pick _ rfl ?_)
        all_goals (refine AOps_cons rfl (AOp_assign ?_) <;> try simp only [push_cast, Nat.reduceAdd])
        all_goals refine AOps_nil ?_
        all_goals
         refine thenK_normal (hK9 _ ?_)
         try clear hK9
         refine AW_ret ?_
         repeat (first | refine thenK_ret ?_ | refine loopK_ret ?_ | refine blockK_ret ?_)
         refine ⟨by first | exact .inl rfl | exact .inr rfl, _, rfl, (by first | exact outok_app 0 rfl (Nat.zero_le _) (by simp) | exact outok_self), by simp [push_cast], ?_⟩
         simp only [push_cast, Nat.reduceAdd]
         first
           | (have h24 : ¬ s.length ≤ 24 := (by omega); simp [isNameP, h24]; done)
           | (have h24 : s.length ≤ 24 := (by omega); have hm : m = true := (by assumption); have hk : markedP s = true := (by assumption); simp only [Nat.sub_zero] at *; rw [hk] at ht; simp only [if_true] at ht; simp [isNameP, h24, hm, ht, *, all_not_any]; done)
           | (have h24 : s.length ≤ 24 := (by omega); have hm : m = true := (by assumption); have hk : markedP s = false := (by assumption); rw [hk] at ht; simp at ht; simp [isNameP, h24, hm, ht, *, all_not_any]; done)
           | (have h24 : s.length ≤ 24 := (by omega); have hm : m = false := (by assumption); simp [isNameP, h24, hm, *, all_not_any]; done)
           | (have he : s = [] := (by assumption); subst he; cases m <;> simp [isNameP, trimSuffix]; done)
           | trace_state
    case' ht =>
     intro hc4
     try (exfalso; (first | (cases hc4; done) | (simp at hc4; done) | (simp at hc4; omega)); done)
     all_goals (try simp only [decide_eq_true_eq, decide_eq_false_iff_not, Bool.not_eq_true', Bool.not_eq_false', Bool.not_eq_eq_eq_not, Bool.not_true, Bool.not_false] at hc4)
     all_goals
      refine AW_seq_k (fun K11 hK11 => ?_)
      refine AW_region ?_
      all_goals (refine AOps_cons rfl (AOp_assign ?_) <;> try simp only [push_cast, Nat.reduceAdd])
      all_goals refine AOps_nil ?_
      all_goals
       refine thenK_normal (hK11 _ ?_)
       try clear hK11
       refine AW_ret ?_
       repeat (first | refine thenK_ret ?_ | refine loopK_ret ?_ | refine blockK_ret ?_)
       refine ⟨by first | exact .inl rfl | exact .inr rfl, _, rfl, (by first | exact outok_app 0 rfl (Nat.zero_le _) (by simp) | exact outok_self), by simp [push_cast], ?_⟩
       simp only [push_cast, Nat.reduceAdd]
       first
         | (have h24 : ¬ s.length ≤ 24 := (by omega); simp [isNameP, h24]; done)
         | (have h24 : s.length ≤ 24 := (by omega); have hm : m = true := (by assumption); have hk : markedP s = true := (by assumption); simp only [Nat.sub_zero] at *; rw [hk] at ht; simp only [if_true] at ht; simp [isNameP, h24, hm, ht, *, all_not_any]; done)
         | (have h24 : s.length ≤ 24 := (by omega); have hm : m = true := (by assumption); have hk : markedP s = false := (by assumption); rw [hk] at ht; simp at ht; simp [isNameP, h24, hm, ht, *, all_not_any]; done)
         | (have h24 : s.length ≤ 24 := (by omega); have hm : m = false := (by assumption); simp [isNameP, h24, hm, *, all_not_any]; done)
         | (have he : s = [] := (by assumption); subst he; cases m <;> simp [isNameP, trimSuffix]; done)
         | trace_state
end Ab
/- The reference's functions on whole terms: size, depth, form, checks. -/
set_option maxRecDepth 10000
namespace Ab
open Go Go.Proofs
attribute [local push_cast] encT
theorem sizeR_ac (t : Term) : t.bulk ≤ 1099511627776 → ∀ H, ACall Try.prog 41 [encT t] H (fun r H' => r = .int .i64 t.size ∧ H' = H) := by
  refine Term.ind (p := fun t => t.bulk ≤ 1099511627776 → ∀ H, ACall Try.prog 41 [encT t] H (fun r H' => r = .int .i64 t.size ∧ H' = H)) (fun n v xs ih => ?_) t
  intro hb H
  have hs := (Term.mk n v xs).size_le
  have hlen := Term.len_le (n := n) (v := v) (xs := xs)
  rw [Term.size_mk] at hs ⊢
  simp only [encT, Term.name, Term.var, Term.args]
  refine ACall_intro (H.length) Try.func41 rfl ?_
  simp only [Try.ntmps41, List.length_cons, List.length_nil, List.replicate, List.cons_append, List.nil_append, Nat.reduceAdd, Nat.reduceSub, Nat.zero_add]
  refine AW_seq_k (fun K1 hK1 => ?_)
  refine AW_region ?_
  all_goals (refine AOps_cons rfl (AOp_box _ _ rfl rfl (by first | exact .inl rfl | exact .inr ⟨_, rfl⟩) (by simp [push_cast, AV.isCell]) ?_) <;> try simp only [push_cast, Nat.reduceAdd])
  all_goals (refine AOps_cons rfl (AOp_assign ?_) <;> try simp only [push_cast, Nat.reduceAdd])
  all_goals refine AOps_nil ?_
  all_goals
   refine thenK_normal (hK1 _ ?_)
   try clear hK1
   refine AW_seq_k (fun K2 hK2 => ?_)
   refine AW_region ?_
   all_goals (refine AOps_cons rfl (AOp_assign ?_) <;> try simp only [push_cast, Nat.reduceAdd])
   all_goals refine AOps_nil ?_
   all_goals
    refine thenK_normal (hK2 _ ?_)
    try clear hK2
    refine AW_seq_k (fun K3 hK3 => ?_)
    refine AW_seq_k (fun K4 hK4 => ?_)
    refine AW_region ?_
    all_goals (refine AOps_cons rfl (AOp_fieldAddr_ptr _ _ _ _ rfl fd27_2 (by decide) ?_) <;> try simp only [push_cast, Nat.reduceAdd])
    all_goals (refine AOps_cons rfl (AOp_load1_ptr _ _ _ _ _ rfl (by first | exact hget0 | exact hgetN _ rfl | assumption | exact hgetL (by assumption)) sz25 ag25 (by decide) (by simp [push_cast]) rfl ?_) <;> try simp only [push_cast, Nat.reduceAdd])
    all_goals (refine AOps_cons rfl (AOp_len_sl _ _ _ rfl sl25 ?_) <;> try simp only [push_cast, Nat.reduceAdd])
    all_goals (refine AOps_cons rfl (AOp_move ?_) <;> try simp only [push_cast, Nat.reduceAdd])
    all_goals refine AOps_nil ?_
    all_goals
     refine thenK_normal (hK4 _ ?_)
     try clear hK4
     refine AW_block ?_
     refine AW_loopR (maskG 19 [3, 3, 0, 0]) (fun (i : Nat) => [(9, .int .i64 i), (3, .int .i64 (1 + ((xs.take i).map Term.size).sum : Nat))]) (fun _ => _) (fun i => i ≤ xs.length) (fun i => xs.length - i) 0 (Nat.zero_le _) (by (simp only [push_cast, Nat.reduceAdd]; refine weak_app 1 ?_ (by simp) (by simp [push_cast]); (repeat (first | exact SlotsOk.nil | refine SlotsOk.junk ?_ | refine SlotsOk.same (by first | (simp [push_cast]; done) | (simp [push_cast, Scoped, ScopedL, *]; done)) ?_ | refine SlotsOk.tok (by first | rfl | (simp; done)) (by first | (simp [push_cast]; done) | (simp [push_cast, Scoped, ScopedL, *]; done)) ?_ | refine SlotsOk.eq (by first | rfl | (congr 1; omega) | (simp; done) | (simp; omega)) (by first | (simp [push_cast]; done) | (simp [push_cast, Scoped, ScopedL, *]; done)) ?_)))) (fun i hi => ?_)
     (try simp only [push_cast, Nat.reduceAdd])
     refine AW_seq_k (fun K5 hK5 => ?_)
     refine AW_region ?_
     all_goals (refine AOps_cons rfl (AOp_bin_int _ _ _ _ rfl rfl rfl ?_) <;> try simp only [push_cast, Nat.reduceAdd])
     all_goals refine AOps_nil ?_
     all_goals
      refine thenK_normal (hK5 _ ?_)
      try clear hK5
      refine AW_seq_k (fun K6 hK6 => ?_)
      apply AW_cond
      case' hc => exact rfl
      case' hf =>
       intro hc7
       try (exfalso; (first | (cases hc7; done) | (simp at hc7; done) | (simp at hc7; omega)); done)
       all_goals (try simp only [decide_eq_true_eq, decide_eq_false_iff_not, Bool.not_eq_true', Bool.not_eq_false', Bool.not_eq_eq_eq_not, Bool.not_true, Bool.not_false] at hc7)
       all_goals
        refine AW_exit ?_
        repeat (first | refine thenK_exit ?_ | refine loopK_exit ?_ | refine blockK_other (by decide) ?_)
        refine blockK_same ?_
        refine thenK_normal (hK3 _ ?_)
        try clear hK3
        refine AW_seq_k (fun K8 hK8 => ?_)
        refine AW_region ?_
        all_goals refine AOps_cons rfl (AOp_move ?_)
        all_goals (refine AOps_cons rfl (AOp_assign ?_) <;> try simp only [push_cast, Nat.reduceAdd])
        all_goals refine AOps_nil ?_
        all_goals
         refine thenK_normal (hK8 _ ?_)
         try clear hK8
         refine AW_ret ?_
         repeat (first | refine thenK_ret ?_ | refine loopK_ret ?_ | refine blockK_ret ?_)
         have e : xs.take i = xs := List.take_of_length_le (by omega)
         rw [e]
         refine ⟨by first | exact .inl rfl | exact .inr rfl, _, rfl, (by first | exact outok_app 0 rfl (Nat.zero_le _) (by simp) | exact outok_self), by simp [push_cast], ?_⟩
         simp only [push_cast, Nat.reduceAdd]
         (first | (simp; done) | (simp; omega) | omega)
      case' ht =>
       intro hc7
       try (exfalso; (first | (cases hc7; done) | (simp at hc7; done) | (simp at hc7; omega)); done)
       all_goals (try simp only [decide_eq_true_eq, decide_eq_false_iff_not, Bool.not_eq_true', Bool.not_eq_false', Bool.not_eq_eq_eq_not, Bool.not_true, Bool.not_false] at hc7)
       all_goals
        refine AW_skip ?_
        refine thenK_normal (hK6 _ ?_)
        try clear hK6
        refine AW_seq_k (fun K9 hK9 => ?_)
        refine AW_block ?_
        refine AW_seq_k (fun K10 hK10 => ?_)
        refine AW_region ?_
        all_goals (refine AOps_cons rfl (AOp_indexAddr_sl 27 _ _ _ _ _ rfl rfl sl25 sz27 (by decide) (by exact uni_encTs _) (by first | omega | (simp; omega)) (by first | omega | (simp [push_cast]; omega) | (simp [push_cast]; done)) ?_) <;> try simp only [push_cast, Nat.reduceAdd])
        all_goals (refine AOps_cons rfl (AOp_load_cptr _ _ rfl sz27 ag27 (by simp [push_cast]) ?_) <;> try simp only [push_cast, Nat.reduceAdd])
        all_goals (refine AOps_cons rfl (AOp_alloc _ zr27 (by simp [ofVal, AV.isCell, Value.oneCell']) ?_) <;> try simp only [push_cast, Nat.reduceAdd])
        all_goals (refine AOps_cons rfl (AOp_store _ _ _ _ _ rfl (by first | exact hget0 | exact hgetN _ rfl | assumption | exact hgetL (by assumption)) rfl rfl (by first | exact .inl rfl | exact .inr ⟨_, rfl⟩) (by simp [push_cast, AV.isCell]) sz27 (by simp [push_cast]) ?_) <;> try simp only [push_cast, Nat.reduceAdd])
        all_goals refine AOps_nil ?_
        all_goals
         refine thenK_normal (hK10 _ ?_)
         try clear hK10
         refine AW_region ?_
         all_goals refine AOps_cons rfl (AOp_move ?_)
         all_goals (try simp only [push_cast, Nat.reduceAdd])
         all_goals (refine AOps_cons rfl (AOp_load_ptr _ _ _ _ rfl (by first | exact hget0 | exact hgetN _ rfl | assumption | exact hgetL (by assumption)) sz27 ag27 (by simp [push_cast]) ?_) <;> try simp only [push_cast, Nat.reduceAdd])
         all_goals refine AOps_cons rfl (AOp_call _ _ _ rfl rfl ok41 ?_)
         all_goals (try simp only [push_cast, Nat.reduceAdd])
         all_goals have e := take_sum Term.size xs i (by omega)
         all_goals have hle := take_sum_le Term.size xs (i + 1)
         all_goals have hmem : xs[i]'(by omega) ∈ xs := by simp
         all_goals have hbx := Term.arg_le (n := n) (v := v) hmem
         all_goals refine (ih (xs[i]'(by omega)) hmem (by omega) _).mono ?_
         all_goals rintro r H' ⟨rfl, rfl⟩
         all_goals (try simp only [push_cast, Nat.reduceAdd])
         all_goals refine AOps_cons rfl (AOp_bin_int _ _ _ _ rfl rfl rfl ?_)
         all_goals (try simp only [push_cast, Nat.reduceAdd])
         all_goals (try rw [IntWalk.i64_in _ (by omega)])
         all_goals (try simp only [push_cast, Nat.reduceAdd])
         all_goals (refine AOps_cons rfl (AOp_assign ?_) <;> try simp only [push_cast, Nat.reduceAdd])
         all_goals refine AOps_nil ?_
         all_goals
          refine blockK_normal ?_
          refine thenK_normal (hK9 _ ?_)
          try clear hK9
          refine AW_region ?_
          all_goals refine AOps_cons rfl (AOp_bin_int _ _ _ _ rfl rfl rfl ?_)
          all_goals (try simp only [push_cast, Nat.reduceAdd])
          all_goals (try rw [IntWalk.i64_in _ (by omega)])
          all_goals (try simp only [push_cast, Nat.reduceAdd])
          all_goals (refine AOps_cons rfl (AOp_move ?_) <;> try simp only [push_cast, Nat.reduceAdd])
          all_goals refine AOps_nil ?_
          all_goals
           refine loopK_normal ?_
           exact ⟨i + 1, by omega, by (simp only [push_cast, Nat.reduceAdd]; refine weak_app 1 ?_ (by simp) (by simp [push_cast]); (repeat (first | exact SlotsOk.nil | refine SlotsOk.junk ?_ | refine SlotsOk.same (by first | (simp [push_cast]; done) | (simp [push_cast, Scoped, ScopedL, *]; done)) ?_ | refine SlotsOk.tok (by first | rfl | (simp; done)) (by first | (simp [push_cast]; done) | (simp [push_cast, Scoped, ScopedL, *]; done)) ?_ | refine SlotsOk.eq (by first | rfl | (congr 1; omega) | (simp; done) | (simp; omega)) (by first | (simp [push_cast]; done) | (simp [push_cast, Scoped, ScopedL, *]; done)) ?_))), by omega⟩
theorem depthR_ac (t : Term) : t.bulk ≤ 1099511627776 → ∀ H, ACall Try.prog 42 [encT t] H (fun r H' => r = .int .i64 t.depth ∧ H' = H) := by
  refine Term.ind (p := fun t => t.bulk ≤ 1099511627776 → ∀ H, ACall Try.prog 42 [encT t] H (fun r H' => r = .int .i64 t.depth ∧ H' = H)) (fun n v xs ih => ?_) t
  intro hb H
  have hs := (Term.mk n v xs).size_le
  have hd := (Term.mk n v xs).depth_le
  have hlen := Term.len_le (n := n) (v := v) (xs := xs)
  rw [Term.depth_mk] at hd ⊢
  simp only [encT, Term.name, Term.var, Term.args]
  refine ACall_intro (H.length) Try.func42 rfl ?_
  simp only [Try.ntmps42, List.length_cons, List.length_nil, List.replicate, List.cons_append, List.nil_append, Nat.reduceAdd, Nat.reduceSub, Nat.zero_add]
  refine AW_seq_k (fun K11 hK11 => ?_)
  refine AW_region ?_
  all_goals (refine AOps_cons rfl (AOp_box _ _ rfl rfl (by first | exact .inl rfl | exact .inr ⟨_, rfl⟩) (by simp [push_cast, AV.isCell]) ?_) <;> try simp only [push_cast, Nat.reduceAdd])
  all_goals (refine AOps_cons rfl (AOp_assign ?_) <;> try simp only [push_cast, Nat.reduceAdd])
  all_goals refine AOps_nil ?_
  all_goals
   refine thenK_normal (hK11 _ ?_)
   try clear hK11
   refine AW_seq_k (fun K12 hK12 => ?_)
   refine AW_region ?_
   all_goals (refine AOps_cons rfl (AOp_assign ?_) <;> try simp only [push_cast, Nat.reduceAdd])
   all_goals refine AOps_nil ?_
   all_goals
    refine thenK_normal (hK12 _ ?_)
    try clear hK12
    refine AW_seq_k (fun K13 hK13 => ?_)
    refine AW_seq_k (fun K14 hK14 => ?_)
    refine AW_region ?_
    all_goals (refine AOps_cons rfl (AOp_fieldAddr_ptr _ _ _ _ rfl fd27_2 (by decide) ?_) <;> try simp only [push_cast, Nat.reduceAdd])
    all_goals (refine AOps_cons rfl (AOp_load1_ptr _ _ _ _ _ rfl (by first | exact hget0 | exact hgetN _ rfl | assumption | exact hgetL (by assumption)) sz25 ag25 (by decide) (by simp [push_cast]) rfl ?_) <;> try simp only [push_cast, Nat.reduceAdd])
    all_goals (refine AOps_cons rfl (AOp_len_sl _ _ _ rfl sl25 ?_) <;> try simp only [push_cast, Nat.reduceAdd])
    all_goals (refine AOps_cons rfl (AOp_move ?_) <;> try simp only [push_cast, Nat.reduceAdd])
    all_goals refine AOps_nil ?_
    all_goals
     refine thenK_normal (hK14 _ ?_)
     try clear hK14
     refine AW_block ?_
     refine AW_loopR (maskG 20 [3, 3, 0, 0]) (fun (i : Nat) => [(9, .int .i64 i), (3, .int .i64 (((xs.take i).map Term.depth).foldl max 0 : Nat))]) (fun _ => _) (fun i => i ≤ xs.length ∧ ((xs.take i).map Term.depth).foldl max 0 ≤ 1099511627776) (fun i => xs.length - i) 0 ⟨Nat.zero_le _, by simp⟩ (by (simp only [push_cast, Nat.reduceAdd]; refine weak_app 1 ?_ (by simp) (by simp [push_cast]); (repeat (first | exact SlotsOk.nil | refine SlotsOk.junk ?_ | refine SlotsOk.same (by first | (simp [push_cast]; done) | (simp [push_cast, Scoped, ScopedL, *]; done)) ?_ | refine SlotsOk.tok (by first | rfl | (simp; done)) (by first | (simp [push_cast]; done) | (simp [push_cast, Scoped, ScopedL, *]; done)) ?_ | refine SlotsOk.eq (by first | rfl | (congr 1; omega) | (simp; done) | (simp; omega)) (by first | (simp [push_cast]; done) | (simp [push_cast, Scoped, ScopedL, *]; done)) ?_)))) (fun i hi => ?_)
     (try simp only [push_cast, Nat.reduceAdd])
     refine AW_seq_k (fun K15 hK15 => ?_)
     refine AW_region ?_
     all_goals (refine AOps_cons rfl (AOp_bin_int _ _ _ _ rfl rfl rfl ?_) <;> try simp only [push_cast, Nat.reduceAdd])
     all_goals refine AOps_nil ?_
     all_goals
      refine thenK_normal (hK15 _ ?_)
      try clear hK15
      refine AW_seq_k (fun K16 hK16 => ?_)
      apply AW_cond
      case' hc => exact rfl
      case' hf =>
       intro hc17
       try (exfalso; (first | (cases hc17; done) | (simp at hc17; done) | (simp at hc17; omega)); done)
       all_goals (try simp only [decide_eq_true_eq, decide_eq_false_iff_not, Bool.not_eq_true', Bool.not_eq_false', Bool.not_eq_eq_eq_not, Bool.not_true, Bool.not_false] at hc17)
       all_goals
        refine AW_exit ?_
        repeat (first | refine thenK_exit ?_ | refine loopK_exit ?_ | refine blockK_other (by decide) ?_)
        refine blockK_same ?_
        refine thenK_normal (hK13 _ ?_)
        try clear hK13
        refine AW_seq_k (fun K18 hK18 => ?_)
        refine AW_region ?_
        all_goals refine AOps_cons rfl (AOp_move ?_)
        all_goals (try simp only [push_cast, Nat.reduceAdd])
        all_goals refine AOps_cons rfl (AOp_bin_int _ _ _ _ rfl rfl rfl ?_)
        all_goals (try simp only [push_cast, Nat.reduceAdd])
        all_goals (try rw [IntWalk.i64_in _ (by omega)])
        all_goals (try simp only [push_cast, Nat.reduceAdd])
        all_goals (refine AOps_cons rfl (AOp_assign ?_) <;> try simp only [push_cast, Nat.reduceAdd])
        all_goals refine AOps_nil ?_
        all_goals
         refine thenK_normal (hK18 _ ?_)
         try clear hK18
         refine AW_ret ?_
         repeat (first | refine thenK_ret ?_ | refine loopK_ret ?_ | refine blockK_ret ?_)
         have e : xs.take i = xs := List.take_of_length_le (by omega)
         rw [e]
         refine ⟨by first | exact .inl rfl | exact .inr rfl, _, rfl, (by first | exact outok_app 0 rfl (Nat.zero_le _) (by simp) | exact outok_self), by simp [push_cast], ?_⟩
         simp only [push_cast, Nat.reduceAdd]
         (first | (simp; done) | (simp; omega) | omega)
      case' ht =>
       intro hc17
       try (exfalso; (first | (cases hc17; done) | (simp at hc17; done) | (simp at hc17; omega)); done)
       all_goals (try simp only [decide_eq_true_eq, decide_eq_false_iff_not, Bool.not_eq_true', Bool.not_eq_false', Bool.not_eq_eq_eq_not, Bool.not_true, Bool.not_false] at hc17)
       all_goals
        refine AW_skip ?_
        refine thenK_normal (hK16 _ ?_)
        try clear hK16
        refine AW_seq_k (fun K19 hK19 => ?_)
        refine AW_block ?_
        refine AW_seq_k (fun K20 hK20 => ?_)
        refine AW_region ?_
        all_goals (refine AOps_cons rfl (AOp_indexAddr_sl 27 _ _ _ _ _ rfl rfl sl25 sz27 (by decide) (by exact uni_encTs _) (by first | omega | (simp; omega)) (by first | omega | (simp [push_cast]; omega) | (simp [push_cast]; done)) ?_) <;> try simp only [push_cast, Nat.reduceAdd])
        all_goals (refine AOps_cons rfl (AOp_load_cptr _ _ rfl sz27 ag27 (by simp [push_cast]) ?_) <;> try simp only [push_cast, Nat.reduceAdd])
        all_goals (refine AOps_cons rfl (AOp_alloc _ zr27 (by simp [ofVal, AV.isCell, Value.oneCell']) ?_) <;> try simp only [push_cast, Nat.reduceAdd])
        all_goals (refine AOps_cons rfl (AOp_store _ _ _ _ _ rfl (by first | exact hget0 | exact hgetN _ rfl | assumption | exact hgetL (by assumption)) rfl rfl (by first | exact .inl rfl | exact .inr ⟨_, rfl⟩) (by simp [push_cast, AV.isCell]) sz27 (by simp [push_cast]) ?_) <;> try simp only [push_cast, Nat.reduceAdd])
        all_goals refine AOps_nil ?_
        all_goals
         refine thenK_normal (hK20 _ ?_)
         try clear hK20
         refine AW_region ?_
         all_goals refine AOps_cons rfl (AOp_move ?_)
         all_goals (try simp only [push_cast, Nat.reduceAdd])
         all_goals (refine AOps_cons rfl (AOp_load_ptr _ _ _ _ rfl (by first | exact hget0 | exact hgetN _ rfl | assumption | exact hgetL (by assumption)) sz27 ag27 (by simp [push_cast]) ?_) <;> try simp only [push_cast, Nat.reduceAdd])
         all_goals refine AOps_cons rfl (AOp_call _ _ _ rfl rfl ok42 ?_)
         all_goals (try simp only [push_cast, Nat.reduceAdd])
         all_goals have e : ((xs.take (i + 1)).map Term.depth).foldl max 0 = max (((xs.take i).map Term.depth).foldl max 0) (xs[i]'(by omega)).depth := by rw [List.take_succ_eq_append_getElem (by omega), List.map_append, List.foldl_append]; simp
         all_goals have hmem : xs[i]'(by omega) ∈ xs := by simp
         all_goals have hbx := Term.arg_le (n := n) (v := v) hmem
         all_goals have hdx := (xs[i]'(by omega)).depth_le
         all_goals have hsx := (xs[i]'(by omega)).size_le
         all_goals refine (ih (xs[i]'(by omega)) hmem (by omega) _).mono ?_
         all_goals rintro r H' ⟨rfl, rfl⟩
         all_goals (try simp only [push_cast, Nat.reduceAdd])
         all_goals (refine AOps_cons rfl (AOp_max _ _ _ rfl rfl ?_) <;> try simp only [push_cast, Nat.reduceAdd])
         all_goals (refine AOps_cons rfl (AOp_assign ?_) <;> try simp only [push_cast, Nat.reduceAdd])
         all_goals refine AOps_nil ?_
         all_goals
          refine blockK_normal ?_
          refine thenK_normal (hK19 _ ?_)
          try clear hK19
          refine AW_region ?_
          all_goals refine AOps_cons rfl (AOp_bin_int _ _ _ _ rfl rfl rfl ?_)
          all_goals (try simp only [push_cast, Nat.reduceAdd])
          all_goals (try rw [IntWalk.i64_in _ (by omega)])
          all_goals (try simp only [push_cast, Nat.reduceAdd])
          all_goals (refine AOps_cons rfl (AOp_move ?_) <;> try simp only [push_cast, Nat.reduceAdd])
          all_goals refine AOps_nil ?_
          all_goals
           refine loopK_normal ?_
           exact ⟨i + 1, ⟨by omega, by omega⟩, by (simp only [push_cast, Nat.reduceAdd]; refine weak_app 1 ?_ (by simp) (by simp [push_cast]); (repeat (first | exact SlotsOk.nil | refine SlotsOk.junk ?_ | refine SlotsOk.same (by first | (simp [push_cast]; done) | (simp [push_cast, Scoped, ScopedL, *]; done)) ?_ | refine SlotsOk.tok (by first | rfl | (simp; done)) (by first | (simp [push_cast]; done) | (simp [push_cast, Scoped, ScopedL, *]; done)) ?_ | refine SlotsOk.eq (by first | rfl | (congr 1; omega) | (simp; done) | (simp; omega)) (by first | (simp [push_cast]; done) | (simp [push_cast, Scoped, ScopedL, *]; done)) ?_))), by omega⟩
theorem formedR_ac (t : Term) : t.bulk ≤ 1099511627775 → ∀ H, ACall Try.prog 40 [encT t] H (fun r H' => r = .bool (formedP t) ∧ H' = H) := by
  refine Term.ind (p := fun t => t.bulk ≤ 1099511627775 → ∀ H, ACall Try.prog 40 [encT t] H (fun r H' => r = .bool (formedP t) ∧ H' = H)) (fun n v xs ih => ?_) t
  intro hb H
  have hlen := Term.len_le (n := n) (v := v) (xs := xs)
  have hnl := Term.name_le (n := n) (v := v) (xs := xs)
  rw [formedP_mk]
  simp only [encT, Term.name, Term.var, Term.args]
  refine ACall_intro (H.length) Try.func40 rfl ?_
  simp only [Try.ntmps40, List.length_cons, List.length_nil, List.replicate, List.cons_append, List.nil_append, Nat.reduceAdd, Nat.reduceSub, Nat.zero_add]
  refine AW_seq_k (fun K21 hK21 => ?_)
  refine AW_region ?_
  all_goals (refine AOps_cons rfl (AOp_box _ _ rfl rfl (by first | exact .inl rfl | exact .inr ⟨_, rfl⟩) (by simp [push_cast, AV.isCell]) ?_) <;> try simp only [push_cast, Nat.reduceAdd])
  all_goals (refine AOps_cons rfl (AOp_assign ?_) <;> try simp only [push_cast, Nat.reduceAdd])
  all_goals refine AOps_nil ?_
  all_goals
   refine thenK_normal (hK21 _ ?_)
   try clear hK21
   refine AW_seq_k (fun K22 hK22 => ?_)
   refine AW_seq_k (fun K23 hK23 => ?_)
   refine AW_region ?_
   all_goals (refine AOps_cons rfl (AOp_fieldAddr_ptr _ _ _ _ rfl fd27_1 (by decide) ?_) <;> try simp only [push_cast, Nat.reduceAdd])
   all_goals (refine AOps_cons rfl (AOp_load1_ptr _ _ _ _ _ rfl (by first | exact hget0 | exact hgetN _ rfl | assumption | exact hgetL (by assumption)) sz4 ag4 (by decide) (by simp [push_cast]) rfl ?_) <;> try simp only [push_cast, Nat.reduceAdd])
   all_goals refine AOps_nil ?_
   all_goals
    refine thenK_normal (hK23 _ ?_)
    try clear hK23
    apply AW_cond
    case' hc => exact rfl
    case' hf =>
     intro hc24
     try (exfalso; (first | (cases hc24; done) | (simp at hc24; done) | (simp at hc24; omega)); done)
     all_goals (try simp only [decide_eq_true_eq, decide_eq_false_iff_not, Bool.not_eq_true', Bool.not_eq_false', Bool.not_eq_eq_eq_not, Bool.not_true, Bool.not_false] at hc24)
     all_goals
      refine AW_skip ?_
      refine thenK_normal (hK22 _ ?_)
      try clear hK22
      refine AW_seq_k (fun K25 hK25 => ?_)
      refine AW_seq_k (fun K26 hK26 => ?_)
      refine AW_region ?_
      all_goals (refine AOps_cons rfl (AOp_fieldAddr_ptr _ _ _ _ rfl fd27_0 (by decide) ?_) <;> try simp only [push_cast, Nat.reduceAdd])
      all_goals (refine AOps_cons rfl (AOp_load1_ptr _ _ _ _ _ rfl (by first | exact hget0 | exact hgetN _ rfl | assumption | exact hgetL (by assumption)) sz9 ag9 (by decide) (by simp [push_cast]) rfl ?_) <;> try simp only [push_cast, Nat.reduceAdd])
      all_goals refine AOps_cons rfl (AOp_call _ _ _ rfl rfl ok36 ?_)
      all_goals (try simp only [push_cast, Nat.reduceAdd])
      all_goals refine (isNameR_ac n _ (by omega) _).mono ?_
      all_goals rintro r H' ⟨rfl, rfl⟩
      all_goals (try simp only [push_cast, Nat.reduceAdd])
      all_goals (refine AOps_cons rfl (AOp_not _ rfl ?_) <;> try simp only [push_cast, Nat.reduceAdd])
      all_goals refine AOps_cons rfl (AOp_move ?_)
      all_goals (try simp only [push_cast, Nat.reduceAdd])
      all_goals (try refine AOps_split 20 _ rfl (fun hg27 => ?_) (fun hg27 => ?_))
      all_goals (try (exfalso; (first | (cases hg27; done) | (simp at hg27; done) | (simp at hg27; omega)); done))
      all_goals (try simp only [decide_eq_true_eq, decide_eq_false_iff_not, Bool.not_eq_true', Bool.not_eq_false', Bool.not_eq_eq_eq_not, Bool.not_true, Bool.not_false] at hg27)
      all_goals first
       | refine AOps_skip rfl ?_
       | (refine AOps_cons rfl ?_
          refine AOp_fieldAddr_ptr _ _ _ _ rfl fd27_2 (by decide) ?_)
      all_goals (try simp only [push_cast, Nat.reduceAdd])
      all_goals first
       | refine AOps_skip rfl ?_
       | (refine AOps_cons rfl ?_
          refine AOp_load1_ptr _ _ _ _ _ rfl (by first | exact hget0 | exact hgetN _ rfl | assumption | exact hgetL (by assumption)) sz25 ag25 (by decide) (by simp [push_cast]) rfl ?_)
      all_goals (try simp only [push_cast, Nat.reduceAdd])
      all_goals first
       | refine AOps_skip rfl ?_
       | (refine AOps_cons rfl ?_
          refine AOp_len_sl _ _ _ rfl sl25 ?_)
      all_goals (try simp only [push_cast, Nat.reduceAdd])
      all_goals first
       | refine AOps_skip rfl ?_
       | (refine AOps_cons rfl ?_
          refine AOp_bin_int _ _ _ _ rfl rfl rfl ?_)
      all_goals (try simp only [push_cast, Nat.reduceAdd])
      all_goals (refine AOps_cons rfl (AOp_pick _ rfl ?_) <;> try simp only [push_cast, Nat.reduceAdd])
      all_goals refine AOps_nil ?_
      all_goals
       refine thenK_normal (hK26 _ ?_)
       try clear hK26
       apply AW_cond
       case' hc => exact rfl
       case' hf =>
        intro hc28
        try (exfalso; (first | (cases hc28; done) | (simp at hc28; done) | (simp at hc28; omega)); done)
        all_goals (try simp only [decide_eq_true_eq, decide_eq_false_iff_not, Bool.not_eq_true', Bool.not_eq_false', Bool.not_eq_eq_eq_not, Bool.not_true, Bool.not_false] at hc28)
        all_goals
         refine AW_skip ?_
         refine thenK_normal (hK25 _ ?_)
         try clear hK25
         refine AW_seq_k (fun K29 hK29 => ?_)
         refine AW_seq_k (fun K30 hK30 => ?_)
         refine AW_region ?_
         all_goals (refine AOps_cons rfl (AOp_fieldAddr_ptr _ _ _ _ rfl fd27_2 (by decide) ?_) <;> try simp only [push_cast, Nat.reduceAdd])
         all_goals (refine AOps_cons rfl (AOp_load1_ptr _ _ _ _ _ rfl (by first | exact hget0 | exact hgetN _ rfl | assumption | exact hgetL (by assumption)) sz25 ag25 (by decide) (by simp [push_cast]) rfl ?_) <;> try simp only [push_cast, Nat.reduceAdd])
         all_goals (refine AOps_cons rfl (AOp_len_sl _ _ _ rfl sl25 ?_) <;> try simp only [push_cast, Nat.reduceAdd])
         all_goals (refine AOps_cons rfl (AOp_move ?_) <;> try simp only [push_cast, Nat.reduceAdd])
         all_goals refine AOps_nil ?_
         all_goals
          refine thenK_normal (hK30 _ ?_)
          try clear hK30
          refine AW_block ?_
          refine AW_loopR (maskG 37 [27, 0, 0]) (fun (i : Nat) => [(29, .int .i64 i)]) (fun _ => _) (fun i => i ≤ xs.length ∧ (xs.take i).all formedP = true) (fun i => xs.length - i) 0 ⟨Nat.zero_le _, by simp⟩ (by (simp only [push_cast, Nat.reduceAdd]; (first | refine weak_app0 ?_ | refine weak_same ?_); (repeat (first | exact SlotsOk.nil | refine SlotsOk.junk ?_ | refine SlotsOk.same (by first | (simp [push_cast]; done) | (simp [push_cast, Scoped, ScopedL, *]; done)) ?_ | refine SlotsOk.tok (by first | rfl | (simp; done)) (by first | (simp [push_cast]; done) | (simp [push_cast, Scoped, ScopedL, *]; done)) ?_ | refine SlotsOk.eq (by first | rfl | (congr 1; omega) | (simp; done) | (simp; omega)) (by first | (simp [push_cast]; done) | (simp [push_cast, Scoped, ScopedL, *]; done)) ?_)))) (fun i hi => ?_)
          (try simp only [push_cast, Nat.reduceAdd])
          refine AW_seq_k (fun K31 hK31 => ?_)
          refine AW_region ?_
          all_goals (refine AOps_cons rfl (AOp_bin_int _ _ _ _ rfl rfl rfl ?_) <;> try simp only [push_cast, Nat.reduceAdd])
          all_goals refine AOps_nil ?_
          all_goals
           refine thenK_normal (hK31 _ ?_)
           try clear hK31
           refine AW_seq_k (fun K32 hK32 => ?_)
           apply AW_cond
           case' hc => exact rfl
           case' hf =>
            intro hc33
            try (exfalso; (first | (cases hc33; done) | (simp at hc33; done) | (simp at hc33; omega)); done)
            all_goals (try simp only [decide_eq_true_eq, decide_eq_false_iff_not, Bool.not_eq_true', Bool.not_eq_false', Bool.not_eq_eq_eq_not, Bool.not_true, Bool.not_false] at hc33)
            all_goals
             refine AW_exit ?_
             repeat (first | refine thenK_exit ?_ | refine loopK_exit ?_ | refine blockK_other (by decide) ?_)
             refine blockK_same ?_
             refine thenK_normal (hK29 _ ?_)
             try clear hK29
             refine AW_seq_k (fun K34 hK34 => ?_)
             refine AW_region ?_
             all_goals (refine AOps_cons rfl (AOp_assign ?_) <;> try simp only [push_cast, Nat.reduceAdd])
             all_goals refine AOps_nil ?_
             all_goals
              refine thenK_normal (hK34 _ ?_)
              try clear hK34
              refine AW_ret ?_
              repeat (first | refine thenK_ret ?_ | refine loopK_ret ?_ | refine blockK_ret ?_)
              refine ⟨by first | exact .inl rfl | exact .inr rfl, _, rfl, (by first | exact outok_app 0 rfl (Nat.zero_le _) (by simp) | exact outok_self), by simp [push_cast], ?_⟩
              simp only [push_cast, Nat.reduceAdd]
              first
                | (have hv : v = true := (by assumption); have hn : isNameP n false = true := (by assumption); subst hv; rw [hn]; by_cases h0 : xs.length = 0 <;> simp [h0]; done)
                | (have hv : v = true := (by assumption); have hn : isNameP n false = false := (by assumption); subst hv; rw [hn]; simp; done)
                | (have hv : v = false := (by assumption); have hn : isNameP n true = false := (by assumption); subst hv; rw [hn]; simp; done)
                | (have hv : v = false := (by assumption); have h8 : ¬ xs.length ≤ 8 := (by omega); subst hv; simp [h8]; done)
                | (have hv : v = false := (by assumption); have h8 : xs.length ≤ 8 := (by omega); have hn : isNameP n true = true := (by assumption); subst hv
                   have hs : xs.all formedP = true := (by have e : xs.take i = xs := List.take_of_length_le (by omega)
                                                          rw [e] at hi; exact hi.2)
                   rw [hn, hs]; simp [h8]; done)
                | (have hv : v = false := (by assumption); have hb2 : formedP (xs[i]'(by omega)) = false := (by assumption); subst hv
                   rw [all_get (i := i) (by omega) hb2]; simp; done)
                | trace_state
           case' ht =>
            intro hc33
            try (exfalso; (first | (cases hc33; done) | (simp at hc33; done) | (simp at hc33; omega)); done)
            all_goals (try simp only [decide_eq_true_eq, decide_eq_false_iff_not, Bool.not_eq_true', Bool.not_eq_false', Bool.not_eq_eq_eq_not, Bool.not_true, Bool.not_false] at hc33)
            all_goals
             refine AW_skip ?_
             refine thenK_normal (hK32 _ ?_)
             try clear hK32
             refine AW_seq_k (fun K35 hK35 => ?_)
             refine AW_block ?_
             refine AW_seq_k (fun K36 hK36 => ?_)
             refine AW_region ?_
             all_goals (refine AOps_cons rfl (AOp_indexAddr_sl 27 _ _ _ _ _ rfl rfl sl25 sz27 (by decide) (by exact uni_encTs _) (by first | omega | (simp; omega)) (by first | omega | (simp [push_cast]; omega) | (simp [push_cast]; done)) ?_) <;> try simp only [push_cast, Nat.reduceAdd])
             all_goals (refine AOps_cons rfl (AOp_load_cptr _ _ rfl sz27 ag27 (by simp [push_cast]) ?_) <;> try simp only [push_cast, Nat.reduceAdd])
             all_goals (refine AOps_cons rfl (AOp_alloc _ zr27 (by simp [ofVal, AV.isCell, Value.oneCell']) ?_) <;> try simp only [push_cast, Nat.reduceAdd])
             all_goals (refine AOps_cons rfl (AOp_store _ _ _ _ _ rfl (by first | exact hget0 | exact hgetN _ rfl | assumption | exact hgetL (by assumption)) rfl rfl (by first | exact .inl rfl | exact .inr ⟨_, rfl⟩) (by simp [push_cast, AV.isCell]) sz27 (by simp [push_cast]) ?_) <;> try simp only [push_cast, Nat.reduceAdd])
             all_goals refine AOps_nil ?_
             all_goals
              refine thenK_normal (hK36 _ ?_)
              try clear hK36
              refine AW_seq_k (fun K37 hK37 => ?_)
              refine AW_region ?_
              all_goals (refine AOps_cons rfl (AOp_load_ptr _ _ _ _ rfl (by first | exact hget0 | exact hgetN _ rfl | assumption | exact hgetL (by assumption)) sz27 ag27 (by simp [push_cast]) ?_) <;> try simp only [push_cast, Nat.reduceAdd])
              all_goals refine AOps_cons rfl (AOp_call _ _ _ rfl rfl ok40 ?_)
              all_goals (try simp only [push_cast, Nat.reduceAdd])
              all_goals have hmem : xs[i]'(by omega) ∈ xs := by simp
              all_goals have hbx := Term.arg_le (n := n) (v := v) hmem
              all_goals refine (ih (xs[i]'(by omega)) hmem (by omega) _).mono ?_
              all_goals rintro r H' ⟨rfl, rfl⟩
              all_goals (try simp only [push_cast, Nat.reduceAdd])
              all_goals (refine AOps_cons rfl (AOp_not _ rfl ?_) <;> try simp only [push_cast, Nat.reduceAdd])
              all_goals refine AOps_nil ?_
              all_goals
               refine thenK_normal (hK37 _ ?_)
               try clear hK37
               apply AW_cond
               case' hc => exact rfl
               case' hf =>
                intro hc38
                try (exfalso; (first | (cases hc38; done) | (simp at hc38; done) | (simp at hc38; omega)); done)
                all_goals (try simp only [decide_eq_true_eq, decide_eq_false_iff_not, Bool.not_eq_true', Bool.not_eq_false', Bool.not_eq_eq_eq_not, Bool.not_true, Bool.not_false] at hc38)
                all_goals
                 refine AW_skip ?_
                 refine blockK_normal ?_
                 refine thenK_normal (hK35 _ ?_)
                 try clear hK35
                 refine AW_region ?_
                 all_goals refine AOps_cons rfl (AOp_bin_int _ _ _ _ rfl rfl rfl ?_)
                 all_goals (try simp only [push_cast, Nat.reduceAdd])
                 all_goals (try rw [IntWalk.i64_in _ (by omega)])
                 all_goals (try simp only [push_cast, Nat.reduceAdd])
                 all_goals (refine AOps_cons rfl (AOp_move ?_) <;> try simp only [push_cast, Nat.reduceAdd])
                 all_goals refine AOps_nil ?_
                 all_goals
                  refine loopK_normal ?_
                  have hb : formedP (xs[i]'(by omega)) = true := by assumption
                  exact ⟨i + 1, ⟨by omega, all_take_true hi.2 (by omega) hb⟩, by (simp only [push_cast, Nat.reduceAdd]; (first | refine weak_app0 ?_ | refine weak_same ?_); (repeat (first | exact SlotsOk.nil | refine SlotsOk.junk ?_ | refine SlotsOk.same (by first | (simp [push_cast]; done) | (simp [push_cast, Scoped, ScopedL, *]; done)) ?_ | refine SlotsOk.tok (by first | rfl | (simp; done)) (by first | (simp [push_cast]; done) | (simp [push_cast, Scoped, ScopedL, *]; done)) ?_ | refine SlotsOk.eq (by first | rfl | (congr 1; omega) | (simp; done) | (simp; omega)) (by first | (simp [push_cast]; done) | (simp [push_cast, Scoped, ScopedL, *]; done)) ?_))), by omega⟩
               case' ht =>
                intro hc38
                try (exfalso; (first | (cases hc38; done) | (simp at hc38; done) | (simp at hc38; omega)); done)
                all_goals (try simp only [decide_eq_true_eq, decide_eq_false_iff_not, Bool.not_eq_true', Bool.not_eq_false', Bool.not_eq_eq_eq_not, Bool.not_true, Bool.not_false] at hc38)
                all_goals
                 refine AW_seq_k (fun K39 hK39 => ?_)
                 refine AW_region ?_
                 all_goals (refine AOps_cons rfl (AOp_assign ?_) <;> try simp only [push_cast, Nat.reduceAdd])
                 all_goals refine AOps_nil ?_
                 all_goals
                  refine thenK_normal (hK39 _ ?_)
                  try clear hK39
                  refine AW_ret ?_
                  repeat (first | refine thenK_ret ?_ | refine loopK_ret ?_ | refine blockK_ret ?_)
                  refine ⟨by first | exact .inl rfl | exact .inr rfl, _, rfl, (by first | exact outok_app 0 rfl (Nat.zero_le _) (by simp) | exact outok_self), by simp [push_cast], ?_⟩
                  simp only [push_cast, Nat.reduceAdd]
                  first
                    | (have hv : v = true := (by assumption); have hn : isNameP n false = true := (by assumption); subst hv; rw [hn]; by_cases h0 : xs.length = 0 <;> simp [h0]; done)
                    | (have hv : v = true := (by assumption); have hn : isNameP n false = false := (by assumption); subst hv; rw [hn]; simp; done)
                    | (have hv : v = false := (by assumption); have hn : isNameP n true = false := (by assumption); subst hv; rw [hn]; simp; done)
                    | (have hv : v = false := (by assumption); have h8 : ¬ xs.length ≤ 8 := (by omega); subst hv; simp [h8]; done)
                    | (have hv : v = false := (by assumption); have h8 : xs.length ≤ 8 := (by omega); have hn : isNameP n true = true := (by assumption); subst hv
                       have hs : xs.all formedP = true := (by have e : xs.take i = xs := List.take_of_length_le (by omega)
                                                              rw [e] at hi; exact hi.2)
                       rw [hn, hs]; simp [h8]; done)
                    | (have hv : v = false := (by assumption); have hb2 : formedP (xs[i]'(by omega)) = false := (by assumption); subst hv
                       rw [all_get (i := i) (by omega) hb2]; simp; done)
                    | trace_state
       case' ht =>
        intro hc28
        try (exfalso; (first | (cases hc28; done) | (simp at hc28; done) | (simp at hc28; omega)); done)
        all_goals (try simp only [decide_eq_true_eq, decide_eq_false_iff_not, Bool.not_eq_true', Bool.not_eq_false', Bool.not_eq_eq_eq_not, Bool.not_true, Bool.not_false] at hc28)
        all_goals
         refine AW_seq_k (fun K40 hK40 => ?_)
         refine AW_region ?_
         all_goals (refine AOps_cons rfl (AOp_assign ?_) <;> try simp only [push_cast, Nat.reduceAdd])
         all_goals refine AOps_nil ?_
         all_goals
          refine thenK_normal (hK40 _ ?_)
          try clear hK40
          refine AW_ret ?_
          repeat (first | refine thenK_ret ?_ | refine loopK_ret ?_ | refine blockK_ret ?_)
          refine ⟨by first | exact .inl rfl | exact .inr rfl, _, rfl, (by first | exact outok_app 0 rfl (Nat.zero_le _) (by simp) | exact outok_self), by simp [push_cast], ?_⟩
          simp only [push_cast, Nat.reduceAdd]
          first
            | (have hv : v = true := (by assumption); have hn : isNameP n false = true := (by assumption); subst hv; rw [hn]; by_cases h0 : xs.length = 0 <;> simp [h0]; done)
            | (have hv : v = true := (by assumption); have hn : isNameP n false = false := (by assumption); subst hv; rw [hn]; simp; done)
            | (have hv : v = false := (by assumption); have hn : isNameP n true = false := (by assumption); subst hv; rw [hn]; simp; done)
            | (have hv : v = false := (by assumption); have h8 : ¬ xs.length ≤ 8 := (by omega); subst hv; simp [h8]; done)
            | (have hv : v = false := (by assumption); have h8 : xs.length ≤ 8 := (by omega); have hn : isNameP n true = true := (by assumption); subst hv
               have hs : xs.all formedP = true := (by have e : xs.take i = xs := List.take_of_length_le (by omega)
                                                      rw [e] at hi; exact hi.2)
               rw [hn, hs]; simp [h8]; done)
            | (have hv : v = false := (by assumption); have hb2 : formedP (xs[i]'(by omega)) = false := (by assumption); subst hv
               rw [all_get (i := i) (by omega) hb2]; simp; done)
            | trace_state
    case' ht =>
     intro hc24
     try (exfalso; (first | (cases hc24; done) | (simp at hc24; done) | (simp at hc24; omega)); done)
     all_goals (try simp only [decide_eq_true_eq, decide_eq_false_iff_not, Bool.not_eq_true', Bool.not_eq_false', Bool.not_eq_eq_eq_not, Bool.not_true, Bool.not_false] at hc24)
     all_goals
      refine AW_seq_k (fun K41 hK41 => ?_)
      refine AW_region ?_
      all_goals (refine AOps_cons rfl (AOp_fieldAddr_ptr _ _ _ _ rfl fd27_0 (by decide) ?_) <;> try simp only [push_cast, Nat.reduceAdd])
      all_goals (refine AOps_cons rfl (AOp_load1_ptr _ _ _ _ _ rfl (by first | exact hget0 | exact hgetN _ rfl | assumption | exact hgetL (by assumption)) sz9 ag9 (by decide) (by simp [push_cast]) rfl ?_) <;> try simp only [push_cast, Nat.reduceAdd])
      all_goals refine AOps_cons rfl (AOp_call _ _ _ rfl rfl ok36 ?_)
      all_goals (try simp only [push_cast, Nat.reduceAdd])
      all_goals refine (isNameR_ac n _ (by omega) _).mono ?_
      all_goals rintro r H' ⟨rfl, rfl⟩
      all_goals (try simp only [push_cast, Nat.reduceAdd])
      all_goals refine AOps_cons rfl (AOp_move ?_)
      all_goals (try simp only [push_cast, Nat.reduceAdd])
      all_goals (try refine AOps_split 10 _ rfl (fun hg42 => ?_) (fun hg42 => ?_))
      all_goals (try (exfalso; (first | (cases hg42; done) | (simp at hg42; done) | (simp at hg42; omega)); done))
      all_goals (try simp only [decide_eq_true_eq, decide_eq_false_iff_not, Bool.not_eq_true', Bool.not_eq_false', Bool.not_eq_eq_eq_not, Bool.not_true, Bool.not_false] at hg42)
      all_goals first
       | refine AOps_skip rfl ?_
       | (refine AOps_cons rfl ?_
          refine AOp_fieldAddr_ptr _ _ _ _ rfl fd27_2 (by decide) ?_)
      all_goals (try simp only [push_cast, Nat.reduceAdd])
      all_goals first
       | refine AOps_skip rfl ?_
       | (refine AOps_cons rfl ?_
          refine AOp_load1_ptr _ _ _ _ _ rfl (by first | exact hget0 | exact hgetN _ rfl | assumption | exact hgetL (by assumption)) sz25 ag25 (by decide) (by simp [push_cast]) rfl ?_)
      all_goals (try simp only [push_cast, Nat.reduceAdd])
      all_goals first
       | refine AOps_skip rfl ?_
       | (refine AOps_cons rfl ?_
          refine AOp_len_sl _ _ _ rfl sl25 ?_)
      all_goals (try simp only [push_cast, Nat.reduceAdd])
      all_goals first
       | refine AOps_skip rfl ?_
       | (refine AOps_cons rfl ?_
          refine AOp_bin_int _ _ _ _ rfl rfl rfl ?_)
      all_goals (try simp only [push_cast, Nat.reduceAdd])
      all_goals refine AOps_cons rfl (AOp_pick _ rfl ?_)
      all_goals (refine AOps_cons rfl (AOp_assign ?_) <;> try simp only [push_cast, Nat.reduceAdd])
      all_goals refine AOps_nil ?_
      all_goals
       refine thenK_normal (hK41 _ ?_)
       try clear hK41
       refine AW_ret ?_
       repeat (first | refine thenK_ret ?_ | refine loopK_ret ?_ | refine blockK_ret ?_)
       refine ⟨by first | exact .inl rfl | exact .inr rfl, _, rfl, (by first | exact outok_app 0 rfl (Nat.zero_le _) (by simp) | exact outok_self), by simp [push_cast], ?_⟩
       simp only [push_cast, Nat.reduceAdd]
       first
         | (have hv : v = true := (by assumption); have hn : isNameP n false = true := (by assumption); subst hv; rw [hn]; by_cases h0 : xs.length = 0 <;> simp [h0]; done)
         | (have hv : v = true := (by assumption); have hn : isNameP n false = false := (by assumption); subst hv; rw [hn]; simp; done)
         | (have hv : v = false := (by assumption); have hn : isNameP n true = false := (by assumption); subst hv; rw [hn]; simp; done)
         | (have hv : v = false := (by assumption); have h8 : ¬ xs.length ≤ 8 := (by omega); subst hv; simp [h8]; done)
         | (have hv : v = false := (by assumption); have h8 : xs.length ≤ 8 := (by omega); have hn : isNameP n true = true := (by assumption); subst hv
            have hs : xs.all formedP = true := (by have e : xs.take i = xs := List.take_of_length_le (by omega)
                                                   rw [e] at hi; exact hi.2)
            rw [hn, hs]; simp [h8]; done)
         | (have hv : v = false := (by assumption); have hb2 : formedP (xs[i]'(by omega)) = false := (by assumption); subst hv
            rw [all_get (i := i) (by omega) hb2]; simp; done)
         | trace_state
theorem checkR_ac (t : Term) (hb : t.bulk ≤ 1099511627775) (H : List AObj) : ACall Try.prog 20 [encT t] H (fun r H' => r = .int .i64 (checkP t) ∧ H' = H) := by
  refine ACall_intro (H.length) Try.func20 rfl ?_
  simp only [Try.ntmps20, List.length_cons, List.length_nil, List.replicate, List.cons_append, List.nil_append, Nat.reduceAdd, Nat.reduceSub, Nat.zero_add]
  refine AW_seq_k (fun K43 hK43 => ?_)
  refine AW_region ?_
  all_goals (refine AOps_cons rfl (AOp_box _ _ rfl rfl (by first | exact .inl rfl | exact .inr ⟨_, rfl⟩) (by simp [push_cast, AV.isCell]) ?_) <;> try simp only [push_cast, Nat.reduceAdd])
  all_goals (refine AOps_cons rfl (AOp_assign ?_) <;> try simp only [push_cast, Nat.reduceAdd])
  all_goals refine AOps_nil ?_
  all_goals
   refine thenK_normal (hK43 _ ?_)
   try clear hK43
   refine AW_seq_k (fun K44 hK44 => ?_)
   refine AW_seq_k (fun K45 hK45 => ?_)
   refine AW_region ?_
   all_goals (refine AOps_cons rfl (AOp_load_ptr _ _ _ _ rfl (by first | exact hget0 | exact hgetN _ rfl | assumption | exact hgetL (by assumption)) sz27 ag27 (by simp [push_cast]) ?_) <;> try simp only [push_cast, Nat.reduceAdd])
   all_goals refine AOps_cons rfl (AOp_call _ _ _ rfl rfl ok40 ?_)
   all_goals (try simp only [push_cast, Nat.reduceAdd])
   all_goals refine (formedR_ac t (by omega) _).mono ?_
   all_goals rintro r H' ⟨rfl, rfl⟩
   all_goals (try simp only [push_cast, Nat.reduceAdd])
   all_goals (refine AOps_cons rfl (AOp_not _ rfl ?_) <;> try simp only [push_cast, Nat.reduceAdd])
   all_goals refine AOps_nil ?_
   all_goals
    refine thenK_normal (hK45 _ ?_)
    try clear hK45
    apply AW_cond
    case' hc => exact rfl
    case' hf =>
     intro hc46
     try (exfalso; (first | (cases hc46; done) | (simp at hc46; done) | (simp at hc46; omega)); done)
     all_goals (try simp only [decide_eq_true_eq, decide_eq_false_iff_not, Bool.not_eq_true', Bool.not_eq_false', Bool.not_eq_eq_eq_not, Bool.not_true, Bool.not_false] at hc46)
     all_goals
      refine AW_skip ?_
      refine thenK_normal (hK44 _ ?_)
      try clear hK44
      refine AW_seq_k (fun K47 hK47 => ?_)
      refine AW_seq_k (fun K48 hK48 => ?_)
      refine AW_region ?_
      all_goals (refine AOps_cons rfl (AOp_load_ptr _ _ _ _ rfl (by first | exact hget0 | exact hgetN _ rfl | assumption | exact hgetL (by assumption)) sz27 ag27 (by simp [push_cast]) ?_) <;> try simp only [push_cast, Nat.reduceAdd])
      all_goals refine AOps_cons rfl (AOp_call _ _ _ rfl rfl ok41 ?_)
      all_goals (try simp only [push_cast, Nat.reduceAdd])
      all_goals refine (sizeR_ac t (by omega) _).mono ?_
      all_goals rintro r H' ⟨rfl, rfl⟩
      all_goals (try simp only [push_cast, Nat.reduceAdd])
      all_goals (refine AOps_cons rfl (AOp_bin_int _ _ _ _ rfl rfl rfl ?_) <;> try simp only [push_cast, Nat.reduceAdd])
      all_goals refine AOps_cons rfl (AOp_move ?_)
      all_goals (try simp only [push_cast, Nat.reduceAdd])
      all_goals (try refine AOps_split 9 _ rfl (fun hg49 => ?_) (fun hg49 => ?_))
      all_goals (try (exfalso; (first | (cases hg49; done) | (simp at hg49; done) | (simp at hg49; omega)); done))
      all_goals (try simp only [decide_eq_true_eq, decide_eq_false_iff_not, Bool.not_eq_true', Bool.not_eq_false', Bool.not_eq_eq_eq_not, Bool.not_true, Bool.not_false] at hg49)
      all_goals first
       | refine AOps_skip rfl ?_
       | (refine AOps_cons rfl ?_
          refine AOp_load_ptr _ _ _ _ rfl (by first | exact hget0 | exact hgetN _ rfl | assumption | exact hgetL (by assumption)) sz27 ag27 (by simp [push_cast]) ?_)
      all_goals (try simp only [push_cast, Nat.reduceAdd])
      all_goals first
       | refine AOps_skip rfl ?_
       | (refine AOps_cons rfl ?_
          refine AOp_call _ _ _ rfl rfl ok42 ?_
          (try simp only [push_cast, Nat.reduceAdd])
          refine (depthR_ac t (by omega) _).mono ?_
          rintro r H' ⟨rfl, rfl⟩)
      all_goals (try simp only [push_cast, Nat.reduceAdd])
      all_goals first
       | refine AOps_skip rfl ?_
       | (refine AOps_cons rfl ?_
          refine AOp_bin_int _ _ _ _ rfl rfl rfl ?_)
      all_goals (try simp only [push_cast, Nat.reduceAdd])
      all_goals (refine AOps_cons rfl (AOp_pick _ rfl ?_) <;> try simp only [push_cast, Nat.reduceAdd])
      all_goals refine AOps_nil ?_
      all_goals
       refine thenK_normal (hK48 _ ?_)
       try clear hK48
       apply AW_cond
       case' hc => exact rfl
       case' hf =>
        intro hc50
        try (exfalso; (first | (cases hc50; done) | (simp at hc50; done) | (simp at hc50; omega)); done)
        all_goals (try simp only [decide_eq_true_eq, decide_eq_false_iff_not, Bool.not_eq_true', Bool.not_eq_false', Bool.not_eq_eq_eq_not, Bool.not_true, Bool.not_false] at hc50)
        all_goals
         refine AW_skip ?_
         refine thenK_normal (hK47 _ ?_)
         try clear hK47
         refine AW_seq_k (fun K51 hK51 => ?_)
         refine AW_region ?_
         all_goals (refine AOps_cons rfl (AOp_assign ?_) <;> try simp only [push_cast, Nat.reduceAdd])
         all_goals refine AOps_nil ?_
         all_goals
          refine thenK_normal (hK51 _ ?_)
          try clear hK51
          refine AW_ret ?_
          repeat (first | refine thenK_ret ?_ | refine loopK_ret ?_ | refine blockK_ret ?_)
          refine ⟨by first | exact .inl rfl | exact .inr rfl, _, rfl, (by first | exact outok_app 0 rfl (Nat.zero_le _) (by simp) | exact outok_self), by simp [push_cast], ?_⟩
          simp only [push_cast, Nat.reduceAdd]
          unfold checkP fitsP
          first
            | (have h1 : formedP t = false := (by assumption); simp [h1]; done)
            | (have h1 : formedP t = true := (by assumption); have h2 : t.size ≤ 4000 ∧ t.depth ≤ 200 := (by omega); simp [h1, h2]; done)
            | (have h1 : formedP t = true := (by assumption); have h2 : ¬ t.size ≤ 4000 := (by omega); simp [h1, h2]; done)
            | (have h1 : formedP t = true := (by assumption); have h2 : ¬ t.depth ≤ 200 := (by omega); simp [h1, h2]; done)
            | trace_state
       case' ht =>
        intro hc50
        try (exfalso; (first | (cases hc50; done) | (simp at hc50; done) | (simp at hc50; omega)); done)
        all_goals (try simp only [decide_eq_true_eq, decide_eq_false_iff_not, Bool.not_eq_true', Bool.not_eq_false', Bool.not_eq_eq_eq_not, Bool.not_true, Bool.not_false] at hc50)
        all_goals
         refine AW_seq_k (fun K52 hK52 => ?_)
         refine AW_region ?_
         all_goals (refine AOps_cons rfl (AOp_assign ?_) <;> try simp only [push_cast, Nat.reduceAdd])
         all_goals refine AOps_nil ?_
         all_goals
          refine thenK_normal (hK52 _ ?_)
          try clear hK52
          refine AW_ret ?_
          repeat (first | refine thenK_ret ?_ | refine loopK_ret ?_ | refine blockK_ret ?_)
          refine ⟨by first | exact .inl rfl | exact .inr rfl, _, rfl, (by first | exact outok_app 0 rfl (Nat.zero_le _) (by simp) | exact outok_self), by simp [push_cast], ?_⟩
          simp only [push_cast, Nat.reduceAdd]
          unfold checkP fitsP
          first
            | (have h1 : formedP t = false := (by assumption); simp [h1]; done)
            | (have h1 : formedP t = true := (by assumption); have h2 : t.size ≤ 4000 ∧ t.depth ≤ 200 := (by omega); simp [h1, h2]; done)
            | (have h1 : formedP t = true := (by assumption); have h2 : ¬ t.size ≤ 4000 := (by omega); simp [h1, h2]; done)
            | (have h1 : formedP t = true := (by assumption); have h2 : ¬ t.depth ≤ 200 := (by omega); simp [h1, h2]; done)
            | trace_state
    case' ht =>
     intro hc46
     try (exfalso; (first | (cases hc46; done) | (simp at hc46; done) | (simp at hc46; omega)); done)
     all_goals (try simp only [decide_eq_true_eq, decide_eq_false_iff_not, Bool.not_eq_true', Bool.not_eq_false', Bool.not_eq_eq_eq_not, Bool.not_true, Bool.not_false] at hc46)
     all_goals
      refine AW_seq_k (fun K53 hK53 => ?_)
      refine AW_region ?_
      all_goals (refine AOps_cons rfl (AOp_assign ?_) <;> try simp only [push_cast, Nat.reduceAdd])
      all_goals refine AOps_nil ?_
      all_goals
       refine thenK_normal (hK53 _ ?_)
       try clear hK53
       refine AW_ret ?_
       repeat (first | refine thenK_ret ?_ | refine loopK_ret ?_ | refine blockK_ret ?_)
       refine ⟨by first | exact .inl rfl | exact .inr rfl, _, rfl, (by first | exact outok_app 0 rfl (Nat.zero_le _) (by simp) | exact outok_self), by simp [push_cast], ?_⟩
       simp only [push_cast, Nat.reduceAdd]
       unfold checkP fitsP
       first
         | (have h1 : formedP t = false := (by assumption); simp [h1]; done)
         | (have h1 : formedP t = true := (by assumption); have h2 : t.size ≤ 4000 ∧ t.depth ≤ 200 := (by omega); simp [h1, h2]; done)
         | (have h1 : formedP t = true := (by assumption); have h2 : ¬ t.size ≤ 4000 := (by omega); simp [h1, h2]; done)
         | (have h1 : formedP t = true := (by assumption); have h2 : ¬ t.depth ≤ 200 := (by omega); simp [h1, h2]; done)
         | trace_state
theorem allR_ac (ts : List Term) (hb : (ts.map Term.bulk).sum ≤ 1099511627775) (H : List AObj) : ACall Try.prog 9 [.sl .none (encTs ts)] H (fun r H' => r = .int .i64 (firstErr ts) ∧ H' = H) := by
  have hlen := bulk_len ts
  refine ACall_intro (H.length) Try.func9 rfl ?_
  simp only [Try.ntmps9, List.length_cons, List.length_nil, List.replicate, List.cons_append, List.nil_append, Nat.reduceAdd, Nat.reduceSub, Nat.zero_add]
  refine AW_seq_k (fun K54 hK54 => ?_)
  refine AW_region ?_
  all_goals (refine AOps_cons rfl (AOp_assign ?_) <;> try simp only [push_cast, Nat.reduceAdd])
  all_goals refine AOps_nil ?_
  all_goals
   refine thenK_normal (hK54 _ ?_)
   try clear hK54
   refine AW_seq_k (fun K55 hK55 => ?_)
   refine AW_seq_k (fun K56 hK56 => ?_)
   refine AW_region ?_
   all_goals refine AOps_cons rfl (AOp_move ?_)
   all_goals (try simp only [push_cast, Nat.reduceAdd])
   all_goals (refine AOps_cons rfl (AOp_len_sl _ _ _ rfl sl25 ?_) <;> try simp only [push_cast, Nat.reduceAdd])
   all_goals (refine AOps_cons rfl (AOp_move ?_) <;> try simp only [push_cast, Nat.reduceAdd])
   all_goals refine AOps_nil ?_
   all_goals
    refine thenK_normal (hK56 _ ?_)
    try clear hK56
    refine AW_block ?_
    refine AW_loopR (maskG 18 [6, 0, 0]) (fun (i : Nat) => [(8, .int .i64 i)]) (fun _ => _) (fun i => i ≤ ts.length ∧ firstErr (ts.take i) = 0) (fun i => ts.length - i) 0 ⟨Nat.zero_le _, rfl⟩ (by (simp only [push_cast, Nat.reduceAdd]; (first | refine weak_app0 ?_ | refine weak_same ?_); (repeat (first | exact SlotsOk.nil | refine SlotsOk.junk ?_ | refine SlotsOk.same (by first | (simp [push_cast]; done) | (simp [push_cast, Scoped, ScopedL, *]; done)) ?_ | refine SlotsOk.tok (by first | rfl | (simp; done)) (by first | (simp [push_cast]; done) | (simp [push_cast, Scoped, ScopedL, *]; done)) ?_ | refine SlotsOk.eq (by first | rfl | (congr 1; omega) | (simp; done) | (simp; omega)) (by first | (simp [push_cast]; done) | (simp [push_cast, Scoped, ScopedL, *]; done)) ?_)))) (fun i hi => ?_)
    (try simp only [push_cast, Nat.reduceAdd])
    refine AW_seq_k (fun K57 hK57 => ?_)
    refine AW_region ?_
    all_goals (refine AOps_cons rfl (AOp_bin_int _ _ _ _ rfl rfl rfl ?_) <;> try simp only [push_cast, Nat.reduceAdd])
    all_goals refine AOps_nil ?_
    all_goals
     refine thenK_normal (hK57 _ ?_)
     try clear hK57
     refine AW_seq_k (fun K58 hK58 => ?_)
     apply AW_cond
     case' hc => exact rfl
     case' hf =>
      intro hc59
      try (exfalso; (first | (cases hc59; done) | (simp at hc59; done) | (simp at hc59; omega)); done)
      all_goals (try simp only [decide_eq_true_eq, decide_eq_false_iff_not, Bool.not_eq_true', Bool.not_eq_false', Bool.not_eq_eq_eq_not, Bool.not_true, Bool.not_false] at hc59)
      all_goals
       refine AW_exit ?_
       repeat (first | refine thenK_exit ?_ | refine loopK_exit ?_ | refine blockK_other (by decide) ?_)
       refine blockK_same ?_
       refine thenK_normal (hK55 _ ?_)
       try clear hK55
       refine AW_seq_k (fun K60 hK60 => ?_)
       refine AW_region ?_
       all_goals (refine AOps_cons rfl (AOp_assign ?_) <;> try simp only [push_cast, Nat.reduceAdd])
       all_goals refine AOps_nil ?_
       all_goals
        refine thenK_normal (hK60 _ ?_)
        try clear hK60
        refine AW_ret ?_
        repeat (first | refine thenK_ret ?_ | refine loopK_ret ?_ | refine blockK_ret ?_)
        refine ⟨by first | exact .inl rfl | exact .inr rfl, _, rfl, (by first | exact outok_app 0 rfl (Nat.zero_le _) (by simp) | exact outok_self), by simp [push_cast], ?_⟩
        simp only [push_cast, Nat.reduceAdd]
        have hs : ts.take i = ts := List.take_of_length_le (by omega)
        rw [hs] at hi
        rw [hi.2]; simp
     case' ht =>
      intro hc59
      try (exfalso; (first | (cases hc59; done) | (simp at hc59; done) | (simp at hc59; omega)); done)
      all_goals (try simp only [decide_eq_true_eq, decide_eq_false_iff_not, Bool.not_eq_true', Bool.not_eq_false', Bool.not_eq_eq_eq_not, Bool.not_true, Bool.not_false] at hc59)
      all_goals
       refine AW_skip ?_
       refine thenK_normal (hK58 _ ?_)
       try clear hK58
       refine AW_seq_k (fun K61 hK61 => ?_)
       refine AW_block ?_
       refine AW_seq_k (fun K62 hK62 => ?_)
       refine AW_region ?_
       all_goals (refine AOps_cons rfl (AOp_indexAddr_sl 27 _ _ _ _ _ rfl rfl sl25 sz27 (by decide) (by exact uni_encTs _) (by first | omega | (simp; omega)) (by first | omega | (simp [push_cast]; omega) | (simp [push_cast]; done)) ?_) <;> try simp only [push_cast, Nat.reduceAdd])
       all_goals (refine AOps_cons rfl (AOp_load_cptr _ _ rfl sz27 ag27 (by simp [push_cast]) ?_) <;> try simp only [push_cast, Nat.reduceAdd])
       all_goals (refine AOps_cons rfl (AOp_alloc _ zr27 (by simp [ofVal, AV.isCell, Value.oneCell']) ?_) <;> try simp only [push_cast, Nat.reduceAdd])
       all_goals (refine AOps_cons rfl (AOp_store _ _ _ _ _ rfl (by first | exact hget0 | exact hgetN _ rfl | assumption | exact hgetL (by assumption)) rfl rfl (by first | exact .inl rfl | exact .inr ⟨_, rfl⟩) (by simp [push_cast, AV.isCell]) sz27 (by simp [push_cast]) ?_) <;> try simp only [push_cast, Nat.reduceAdd])
       all_goals refine AOps_nil ?_
       all_goals
        refine thenK_normal (hK62 _ ?_)
        try clear hK62
        refine AW_seq_k (fun K63 hK63 => ?_)
        refine AW_region ?_
        all_goals (refine AOps_cons rfl (AOp_load_ptr _ _ _ _ rfl (by first | exact hget0 | exact hgetN _ rfl | assumption | exact hgetL (by assumption)) sz27 ag27 (by simp [push_cast]) ?_) <;> try simp only [push_cast, Nat.reduceAdd])
        all_goals refine AOps_cons rfl (AOp_call _ _ _ rfl rfl ok20 ?_)
        all_goals (try simp only [push_cast, Nat.reduceAdd])
        all_goals have hbx := le_sum Term.bulk ts (ts[i]'(by omega)) (by simp)
        all_goals refine (checkR_ac (ts[i]'(by omega)) (by omega) _).mono ?_
        all_goals rintro r H' ⟨rfl, rfl⟩
        all_goals (try simp only [push_cast, Nat.reduceAdd])
        all_goals (refine AOps_cons rfl (AOp_assign ?_) <;> try simp only [push_cast, Nat.reduceAdd])
        all_goals refine AOps_nil ?_
        all_goals
         refine thenK_normal (hK63 _ ?_)
         try clear hK63
         refine AW_seq_k (fun K64 hK64 => ?_)
         refine AW_region ?_
         all_goals refine AOps_cons rfl (AOp_move ?_)
         all_goals (try simp only [push_cast, Nat.reduceAdd])
         all_goals (refine AOps_cons rfl (AOp_bin_int _ _ _ _ rfl rfl rfl ?_) <;> try simp only [push_cast, Nat.reduceAdd])
         all_goals refine AOps_nil ?_
         all_goals
          refine thenK_normal (hK64 _ ?_)
          try clear hK64
          apply AW_cond
          case' hc => exact rfl
          case' hf =>
           intro hc65
           try (exfalso; (first | (cases hc65; done) | (simp at hc65; done) | (simp at hc65; omega)); done)
           all_goals (try simp only [decide_eq_true_eq, decide_eq_false_iff_not, Bool.not_eq_true', Bool.not_eq_false', Bool.not_eq_eq_eq_not, Bool.not_true, Bool.not_false] at hc65)
           all_goals
            refine AW_skip ?_
            refine blockK_normal ?_
            refine thenK_normal (hK61 _ ?_)
            try clear hK61
            refine AW_region ?_
            all_goals refine AOps_cons rfl (AOp_bin_int _ _ _ _ rfl rfl rfl ?_)
            all_goals (try simp only [push_cast, Nat.reduceAdd])
            all_goals (try rw [IntWalk.i64_in _ (by omega)])
            all_goals (try simp only [push_cast, Nat.reduceAdd])
            all_goals (refine AOps_cons rfl (AOp_move ?_) <;> try simp only [push_cast, Nat.reduceAdd])
            all_goals refine AOps_nil ?_
            all_goals
             refine loopK_normal ?_
             exact ⟨i + 1, ⟨by omega, firstErr_take ts i (by omega) hi.2 (by assumption)⟩, by (simp only [push_cast, Nat.reduceAdd]; (first | refine weak_app0 ?_ | refine weak_same ?_); (repeat (first | exact SlotsOk.nil | refine SlotsOk.junk ?_ | refine SlotsOk.same (by first | (simp [push_cast]; done) | (simp [push_cast, Scoped, ScopedL, *]; done)) ?_ | refine SlotsOk.tok (by first | rfl | (simp; done)) (by first | (simp [push_cast]; done) | (simp [push_cast, Scoped, ScopedL, *]; done)) ?_ | refine SlotsOk.eq (by first | rfl | (congr 1; omega) | (simp; done) | (simp; omega)) (by first | (simp [push_cast]; done) | (simp [push_cast, Scoped, ScopedL, *]; done)) ?_))), by omega⟩
          case' ht =>
           intro hc65
           try (exfalso; (first | (cases hc65; done) | (simp at hc65; done) | (simp at hc65; omega)); done)
           all_goals (try simp only [decide_eq_true_eq, decide_eq_false_iff_not, Bool.not_eq_true', Bool.not_eq_false', Bool.not_eq_eq_eq_not, Bool.not_true, Bool.not_false] at hc65)
           all_goals
            refine AW_seq_k (fun K66 hK66 => ?_)
            refine AW_region ?_
            all_goals refine AOps_cons rfl (AOp_move ?_)
            all_goals (refine AOps_cons rfl (AOp_assign ?_) <;> try simp only [push_cast, Nat.reduceAdd])
            all_goals refine AOps_nil ?_
            all_goals
             refine thenK_normal (hK66 _ ?_)
             try clear hK66
             refine AW_ret ?_
             repeat (first | refine thenK_ret ?_ | refine loopK_ret ?_ | refine blockK_ret ?_)
             refine ⟨by first | exact .inl rfl | exact .inr rfl, _, rfl, (by first | exact outok_app 0 rfl (Nat.zero_le _) (by simp) | exact outok_self), by simp [push_cast], ?_⟩
             simp only [push_cast, Nat.reduceAdd]
             have hf := firstErr_drop ts i hi.2
             rw [List.drop_eq_getElem_cons (by omega)] at hf
             have hne : ¬ checkP (ts[i]'(by omega)) = 0 := (by assumption)
             simp only [firstErr, hne, if_false] at hf
             rw [hf]; simp
end Ab
/- The reference's comparison of names; entries of a precedence. -/
set_option maxRecDepth 10000
namespace Ab
open Go Go.Proofs
attribute [local push_cast] encT encR scoped_encR
def cmpI (a b : Int) : Int := if a < b then -1 else if b < a then 1 else 0
theorem cmpInts_ac (a b : Int) (H : List AObj) : ACall Try.prog 62 [.int .i64 a, .int .i64 b] H (fun r H' => r = .int .i64 (cmpI a b) ∧ H' = H) := by
  refine ACall_intro (H.length) Try.func62 rfl ?_
  simp only [Try.ntmps62, List.length_cons, List.length_nil, List.replicate, List.cons_append, List.nil_append, Nat.reduceAdd, Nat.reduceSub, Nat.zero_add]
  refine AW_seq_k (fun K1 hK1 => ?_)
  refine AW_region ?_
  all_goals (refine AOps_cons rfl (AOp_assign ?_) <;> try simp only [push_cast, Nat.reduceAdd])
  all_goals refine AOps_nil ?_
  all_goals
   refine thenK_normal (hK1 _ ?_)
   try clear hK1
   refine AW_seq_k (fun K2 hK2 => ?_)
   refine AW_seq_k (fun K3 hK3 => ?_)
   refine AW_region ?_
   all_goals refine AOps_cons rfl (AOp_move ?_)
   all_goals refine AOps_cons rfl (AOp_move ?_)
   all_goals (try simp only [push_cast, Nat.reduceAdd])
   all_goals (refine AOps_cons rfl (AOp_bin_int _ _ _ _ rfl rfl rfl ?_) <;> try simp only [push_cast, Nat.reduceAdd])
   all_goals refine AOps_nil ?_
   all_goals
    refine thenK_normal (hK3 _ ?_)
    try clear hK3
    apply AW_cond
    case' hc => exact rfl
    case' hf =>
     intro hc4
     try (exfalso; (first | (cases hc4; done) | (simp at hc4; done) | (simp at hc4; omega)); done)
     all_goals (try simp only [decide_eq_true_eq, decide_eq_false_iff_not, Bool.not_eq_true', Bool.not_eq_false', Bool.not_eq_eq_eq_not, Bool.not_true, Bool.not_false] at hc4)
     all_goals
      refine AW_skip ?_
      refine thenK_normal (hK2 _ ?_)
      try clear hK2
      refine AW_seq_k (fun K5 hK5 => ?_)
      refine AW_seq_k (fun K6 hK6 => ?_)
      refine AW_region ?_
      all_goals refine AOps_cons rfl (AOp_move ?_)
      all_goals refine AOps_cons rfl (AOp_move ?_)
      all_goals (try simp only [push_cast, Nat.reduceAdd])
      all_goals (refine AOps_cons rfl (AOp_bin_int _ _ _ _ rfl rfl rfl ?_) <;> try simp only [push_cast, Nat.reduceAdd])
      all_goals refine AOps_nil ?_
      all_goals
       refine thenK_normal (hK6 _ ?_)
       try clear hK6
       apply AW_cond
       case' hc => exact rfl
       case' hf =>
        intro hc7
        try (exfalso; (first | (cases hc7; done) | (simp at hc7; done) | (simp at hc7; omega)); done)
        all_goals (try simp only [decide_eq_true_eq, decide_eq_false_iff_not, Bool.not_eq_true', Bool.not_eq_false', Bool.not_eq_eq_eq_not, Bool.not_true, Bool.not_false] at hc7)
        all_goals
         refine AW_skip ?_
         refine thenK_normal (hK5 _ ?_)
         try clear hK5
         refine AW_seq_k (fun K8 hK8 => ?_)
         refine AW_region ?_
         all_goals (refine AOps_cons rfl (AOp_assign ?_) <;> try simp only [push_cast, Nat.reduceAdd])
         all_goals refine AOps_nil ?_
         all_goals
          refine thenK_normal (hK8 _ ?_)
          try clear hK8
          refine AW_ret ?_
          repeat (first | refine thenK_ret ?_ | refine loopK_ret ?_ | refine blockK_ret ?_)
          refine ⟨by first | exact .inl rfl | exact .inr rfl, _, rfl, (by first | exact outok_app 0 rfl (Nat.zero_le _) (by simp) | exact outok_self), by simp [push_cast], ?_⟩
          simp only [push_cast, Nat.reduceAdd]
          unfold cmpI
          first
            | (have h1 : a < b := (by omega); simp [h1]; done)
            | (have h1 : ¬ a < b := (by omega); have h2 : b < a := (by omega); simp [h1, h2]; done)
            | (have h1 : ¬ a < b := (by omega); have h2 : ¬ b < a := (by omega); simp [h1, h2]; done)
       case' ht =>
        intro hc7
        try (exfalso; (first | (cases hc7; done) | (simp at hc7; done) | (simp at hc7; omega)); done)
        all_goals (try simp only [decide_eq_true_eq, decide_eq_false_iff_not, Bool.not_eq_true', Bool.not_eq_false', Bool.not_eq_eq_eq_not, Bool.not_true, Bool.not_false] at hc7)
        all_goals
         refine AW_seq_k (fun K9 hK9 => ?_)
         refine AW_region ?_
         all_goals (refine AOps_cons rfl (AOp_assign ?_) <;> try simp only [push_cast, Nat.reduceAdd])
         all_goals refine AOps_nil ?_
         all_goals
          refine thenK_normal (hK9 _ ?_)
          try clear hK9
          refine AW_ret ?_
          repeat (first | refine thenK_ret ?_ | refine loopK_ret ?_ | refine blockK_ret ?_)
          refine ⟨by first | exact .inl rfl | exact .inr rfl, _, rfl, (by first | exact outok_app 0 rfl (Nat.zero_le _) (by simp) | exact outok_self), by simp [push_cast], ?_⟩
          simp only [push_cast, Nat.reduceAdd]
          unfold cmpI
          first
            | (have h1 : a < b := (by omega); simp [h1]; done)
            | (have h1 : ¬ a < b := (by omega); have h2 : b < a := (by omega); simp [h1, h2]; done)
            | (have h1 : ¬ a < b := (by omega); have h2 : ¬ b < a := (by omega); simp [h1, h2]; done)
    case' ht =>
     intro hc4
     try (exfalso; (first | (cases hc4; done) | (simp at hc4; done) | (simp at hc4; omega)); done)
     all_goals (try simp only [decide_eq_true_eq, decide_eq_false_iff_not, Bool.not_eq_true', Bool.not_eq_false', Bool.not_eq_eq_eq_not, Bool.not_true, Bool.not_false] at hc4)
     all_goals
      refine AW_seq_k (fun K10 hK10 => ?_)
      refine AW_region ?_
      all_goals (refine AOps_cons rfl (AOp_assign ?_) <;> try simp only [push_cast, Nat.reduceAdd])
      all_goals refine AOps_nil ?_
      all_goals
       refine thenK_normal (hK10 _ ?_)
       try clear hK10
       refine AW_ret ?_
       repeat (first | refine thenK_ret ?_ | refine loopK_ret ?_ | refine blockK_ret ?_)
       refine ⟨by first | exact .inl rfl | exact .inr rfl, _, rfl, (by first | exact outok_app 0 rfl (Nat.zero_le _) (by simp) | exact outok_self), by simp [push_cast], ?_⟩
       simp only [push_cast, Nat.reduceAdd]
       unfold cmpI
       first
         | (have h1 : a < b := (by omega); simp [h1]; done)
         | (have h1 : ¬ a < b := (by omega); have h2 : b < a := (by omega); simp [h1, h2]; done)
         | (have h1 : ¬ a < b := (by omega); have h2 : ¬ b < a := (by omega); simp [h1, h2]; done)
theorem compareBytes_drop : ∀ (a b : List UInt8) (i : Nat), a.take i = b.take i → i ≤ a.length → i ≤ b.length → Lib.compareBytes a b = Lib.compareBytes (a.drop i) (b.drop i)
  | a, b, 0, _, _, _ => rfl
  | [], _, _ + 1, _, h, _ => by simp at h
  | _ :: _, [], _ + 1, _, _, h => by simp at h
  | x :: a, y :: b, i + 1, h, h1, h2 => by
    simp only [List.take_succ_cons, List.cons.injEq] at h
    rw [List.drop_succ_cons, List.drop_succ_cons, ← compareBytes_drop a b i h.2 (by simpa using h1) (by simpa using h2)]
    rw [h.1]
    have : ¬ y < y := by simp
    conv => lhs; unfold Lib.compareBytes
    simp [this]
theorem cmpNames_ac (a b : List UInt8) (ha : a.length < 1099511627776) (hb : b.length < 1099511627776) (H : List AObj) : ACall Try.prog 37 [.str a, .str b] H (fun r H' => r = .int .i64 (Lib.compareBytes a b) ∧ H' = H) := by
  refine ACall_intro (H.length) Try.func37 rfl ?_
  simp only [Try.ntmps37, List.length_cons, List.length_nil, List.replicate, List.cons_append, List.nil_append, Nat.reduceAdd, Nat.reduceSub, Nat.zero_add]
  refine AW_seq_k (fun K11 hK11 => ?_)
  refine AW_region ?_
  all_goals (refine AOps_cons rfl (AOp_assign ?_) <;> try simp only [push_cast, Nat.reduceAdd])
  all_goals refine AOps_nil ?_
  all_goals
   refine thenK_normal (hK11 _ ?_)
   try clear hK11
   refine AW_seq_k (fun K12 hK12 => ?_)
   refine AW_seq_k (fun K13 hK13 => ?_)
   refine AW_region ?_
   all_goals refine AOps_cons rfl (AOp_move ?_)
   all_goals (try simp only [push_cast, Nat.reduceAdd])
   all_goals (refine AOps_cons rfl (AOp_len_str _ rfl un9 ?_) <;> try simp only [push_cast, Nat.reduceAdd])
   all_goals refine AOps_cons rfl (AOp_move ?_)
   all_goals (try simp only [push_cast, Nat.reduceAdd])
   all_goals (refine AOps_cons rfl (AOp_len_str _ rfl un9 ?_) <;> try simp only [push_cast, Nat.reduceAdd])
   all_goals (refine AOps_cons rfl (AOp_min _ _ _ rfl rfl ?_) <;> try simp only [push_cast, Nat.reduceAdd])
   all_goals (refine AOps_cons rfl (AOp_move ?_) <;> try simp only [push_cast, Nat.reduceAdd])
   all_goals refine AOps_nil ?_
   all_goals
    refine thenK_normal (hK13 _ ?_)
    try clear hK13
    refine AW_block ?_
    refine AW_loopR (maskG 36 [0, 0, 8, 0]) (fun (i : Nat) => [(11, .int .i64 i)]) (fun _ => _) (fun i => i ≤ a.length ∧ i ≤ b.length ∧ a.take i = b.take i) (fun i => a.length - i) 0 ⟨Nat.zero_le _, Nat.zero_le _, by simp⟩ (by (simp only [push_cast, Nat.reduceAdd]; (first | refine weak_app0 ?_ | refine weak_same ?_); (repeat (first | exact SlotsOk.nil | refine SlotsOk.junk ?_ | refine SlotsOk.same (by first | (simp [push_cast]; done) | (simp [push_cast, Scoped, ScopedL, *]; done)) ?_ | refine SlotsOk.tok (by first | rfl | (simp; done)) (by first | (simp [push_cast]; done) | (simp [push_cast, Scoped, ScopedL, *]; done)) ?_ | refine SlotsOk.eq (by first | rfl | (congr 1; omega) | (simp; done) | (simp; omega)) (by first | (simp [push_cast]; done) | (simp [push_cast, Scoped, ScopedL, *]; done)) ?_)))) (fun i hi => ?_)
    (try simp only [push_cast, Nat.reduceAdd])
    refine AW_seq_k (fun K14 hK14 => ?_)
    refine AW_region ?_
    all_goals (refine AOps_cons rfl (AOp_bin_int _ _ _ _ rfl rfl rfl ?_) <;> try simp only [push_cast, Nat.reduceAdd])
    all_goals refine AOps_nil ?_
    all_goals
     refine thenK_normal (hK14 _ ?_)
     try clear hK14
     refine AW_seq_k (fun K15 hK15 => ?_)
     apply AW_cond
     case' hc => exact rfl
     case' hf =>
      intro hc16
      try (exfalso; (first | (cases hc16; done) | (simp at hc16; done) | (simp at hc16; omega)); done)
      all_goals (try simp only [decide_eq_true_eq, decide_eq_false_iff_not, Bool.not_eq_true', Bool.not_eq_false', Bool.not_eq_eq_eq_not, Bool.not_true, Bool.not_false] at hc16)
      all_goals
       refine AW_exit ?_
       repeat (first | refine thenK_exit ?_ | refine loopK_exit ?_ | refine blockK_other (by decide) ?_)
       refine blockK_same ?_
       refine thenK_normal (hK12 _ ?_)
       try clear hK12
       refine AW_seq_k (fun K17 hK17 => ?_)
       refine AW_region ?_
       all_goals refine AOps_cons rfl (AOp_move ?_)
       all_goals (try simp only [push_cast, Nat.reduceAdd])
       all_goals (refine AOps_cons rfl (AOp_len_str _ rfl un9 ?_) <;> try simp only [push_cast, Nat.reduceAdd])
       all_goals refine AOps_cons rfl (AOp_move ?_)
       all_goals (try simp only [push_cast, Nat.reduceAdd])
       all_goals (refine AOps_cons rfl (AOp_len_str _ rfl un9 ?_) <;> try simp only [push_cast, Nat.reduceAdd])
       all_goals refine AOps_cons rfl (AOp_call _ _ _ rfl rfl ok62 ?_)
       all_goals (try simp only [push_cast, Nat.reduceAdd])
       all_goals refine (cmpInts_ac _ _ _).mono ?_
       all_goals rintro r H' ⟨rfl, rfl⟩
       all_goals (try simp only [push_cast, Nat.reduceAdd])
       all_goals (refine AOps_cons rfl (AOp_assign ?_) <;> try simp only [push_cast, Nat.reduceAdd])
       all_goals refine AOps_nil ?_
       all_goals
        refine thenK_normal (hK17 _ ?_)
        try clear hK17
        refine AW_ret ?_
        repeat (first | refine thenK_ret ?_ | refine loopK_ret ?_ | refine blockK_ret ?_)
        refine ⟨by first | exact .inl rfl | exact .inr rfl, _, rfl, (by first | exact outok_app 0 rfl (Nat.zero_le _) (by simp) | exact outok_self), by simp [push_cast], ?_⟩
        simp only [push_cast, Nat.reduceAdd]
        rw [compareBytes_drop a b i hi.2.2 hi.1 hi.2.1]
        first
          | (have hil : i < a.length ∧ i < b.length := (by omega)
             have hne : ¬ (a[i]'hil.1).toNat = (b[i]'hil.2).toNat := (by omega)
             have hl1 := (a[i]'hil.1).toNat_lt
             have hl2 := (b[i]'hil.2).toNat_lt
             rw [IntWalk.i64_in _ (by omega), IntWalk.i64_in _ (by omega), List.drop_eq_getElem_cons hil.1, List.drop_eq_getElem_cons hil.2]
             unfold cmpI Lib.compareBytes
             simp only [UInt8.lt_iff_toNat_lt]
             rcases Nat.lt_or_gt_of_ne hne with h | h
             · have h' : ((a[i]'hil.1).toNat : Int) < (b[i]'hil.2).toNat := (by omega)
               simp [h]
             · have h' : ¬ (a[i]'hil.1).toNat < (b[i]'hil.2).toNat := (by omega)
               simp [h, h'])
          | (rcases Nat.lt_or_ge a.length b.length with h | h
             · have hia : i = a.length := (by omega)
               subst hia
               have hd : 0 < (b.drop a.length).length := (by simp; omega)
               cases hb2 : b.drop a.length with
               | nil => rw [hb2] at hd; simp at hd
               | cons y r => simp [cmpI, Lib.compareBytes, h]
             · rcases Nat.lt_or_ge b.length a.length with h2 | h2
               · have hib : i = b.length := (by omega)
                 subst hib
                 have hd : 0 < (a.drop b.length).length := (by simp; omega)
                 cases ha2 : a.drop b.length with
                 | nil => rw [ha2] at hd; simp at hd
                 | cons y r =>
                   have h3 : ¬ a.length < b.length := (by omega)
                   simp [cmpI, Lib.compareBytes, h2, h3]
               · have hl : a.length = b.length := (by omega)
                 have hia : i = a.length := (by omega)
                 subst hia
                 rw [List.drop_eq_nil_of_le (Nat.le_refl _), List.drop_eq_nil_of_le (by omega)]
                 simp [cmpI, Lib.compareBytes, hl])
          | trace_state
     case' ht =>
      intro hc16
      try (exfalso; (first | (cases hc16; done) | (simp at hc16; done) | (simp at hc16; omega)); done)
      all_goals (try simp only [decide_eq_true_eq, decide_eq_false_iff_not, Bool.not_eq_true', Bool.not_eq_false', Bool.not_eq_eq_eq_not, Bool.not_true, Bool.not_false] at hc16)
      all_goals
       refine AW_skip ?_
       refine thenK_normal (hK15 _ ?_)
       try clear hK15
       refine AW_seq_k (fun K18 hK18 => ?_)
       refine AW_block ?_
       refine AW_seq_k (fun K19 hK19 => ?_)
       refine AW_region ?_
       all_goals refine AOps_cons rfl (AOp_move ?_)
       all_goals (refine AOps_cons rfl (AOp_assign ?_) <;> try simp only [push_cast, Nat.reduceAdd])
       all_goals refine AOps_nil ?_
       all_goals
        refine thenK_normal (hK19 _ ?_)
        try clear hK19
        refine AW_seq_k (fun K20 hK20 => ?_)
        apply AW_drawE [some 14, some 15, some 16, some 17, some 18, some 19, some 20] [([], _)] [none, none, none, none, none, none, none] 0 [(0, [], [0]), (1, [], [5]), (2, [], [14, 0]), (3, [], [1]), (4, [], [5]), (5, [], [17, 0]), (6, [], [16, 2])] [_, _, _, _, _, _, _]
        case' hm => exact dr
        case' hn => rfl
        case' hok => rfl
        case' hlen => rfl
        case' hd => rfl
        case' h0 => rfl
        case' hstep =>
         simp only [DAllG, keepG, List.map_cons, List.map_nil, putD, stg, beqB, List.set_cons_zero, List.set_cons_succ, List.getD_cons_zero, List.getD_cons_succ, Option.isSome_some, Option.isSome_none]
         apply And.intro
         · apply DOne_do
           case' ho => rfl
           case' hw => rfl
           refine AOp_move ?_
           all_goals (try simp only [push_cast, Nat.reduceAdd])
           all_goals (constructor <;> first | rfl | trivial)
         apply And.intro
         · apply DOne_do
           case' ho => rfl
           case' hw => rfl
           refine AOp_move ?_
           all_goals (try simp only [push_cast, Nat.reduceAdd])
           all_goals (constructor <;> first | rfl | trivial)
         apply And.intro
         · apply DOne_do
           case' ho => rfl
           case' hw => rfl
           refine AOp_index_str _ _ _ rfl rfl un9 (by first | omega | (simp; omega)) (by first | omega | (simp; omega)) ?_
           all_goals (try simp only [push_cast, Nat.reduceAdd])
           all_goals (constructor <;> first | rfl | trivial)
         apply And.intro
         · apply DOne_do
           case' ho => rfl
           case' hw => rfl
           refine AOp_move ?_
           all_goals (try simp only [push_cast, Nat.reduceAdd])
           all_goals (constructor <;> first | rfl | trivial)
         apply And.intro
         · apply DOne_do
           case' ho => rfl
           case' hw => rfl
           refine AOp_move ?_
           all_goals (try simp only [push_cast, Nat.reduceAdd])
           all_goals (constructor <;> first | rfl | trivial)
         apply And.intro
         · apply DOne_do
           case' ho => rfl
           case' hw => rfl
           refine AOp_index_str _ _ _ rfl rfl un9 (by first | omega | (simp; omega)) (by first | omega | (simp; omega)) ?_
           all_goals (try simp only [push_cast, Nat.reduceAdd])
           all_goals (constructor <;> first | rfl | trivial)
         apply And.intro
         · apply DOne_do
           case' ho => rfl
           case' hw => rfl
           refine AOp_bin_int _ _ _ _ rfl rfl rfl ?_
           all_goals (try simp only [push_cast, Nat.reduceAdd])
           all_goals (constructor <;> first | rfl | trivial)
         exact trivial
        case' hQ => skip
        (try simp only [push_cast, putD, stg, beqB, List.replicate, Nat.reduceAdd, List.getD_cons_zero, List.getD_cons_succ])
        all_goals
         refine thenK_normal (hK20 _ ?_)
         try clear hK20
         apply AW_cond
         case' hc => exact rfl
         case' hf =>
          intro hc21
          try (exfalso; (first | (cases hc21; done) | (simp at hc21; done) | (simp at hc21; omega)); done)
          all_goals (try simp only [decide_eq_true_eq, decide_eq_false_iff_not, Bool.not_eq_true', Bool.not_eq_false', Bool.not_eq_eq_eq_not, Bool.not_true, Bool.not_false] at hc21)
          all_goals
           refine AW_skip ?_
           refine blockK_normal ?_
           refine thenK_normal (hK18 _ ?_)
           try clear hK18
           refine AW_region ?_
           all_goals refine AOps_cons rfl (AOp_bin_int _ _ _ _ rfl rfl rfl ?_)
           all_goals (try simp only [push_cast, Nat.reduceAdd])
           all_goals (try rw [IntWalk.i64_in _ (by omega)])
           all_goals (try simp only [push_cast, Nat.reduceAdd])
           all_goals (refine AOps_cons rfl (AOp_move ?_) <;> try simp only [push_cast, Nat.reduceAdd])
           all_goals refine AOps_nil ?_
           all_goals
            refine loopK_normal ?_
            refine ⟨i + 1, ⟨by omega, by omega, ?_⟩, by (simp only [push_cast, Nat.reduceAdd]; (first | refine weak_app0 ?_ | refine weak_same ?_); (repeat (first | exact SlotsOk.nil | refine SlotsOk.junk ?_ | refine SlotsOk.same (by first | (simp [push_cast]; done) | (simp [push_cast, Scoped, ScopedL, *]; done)) ?_ | refine SlotsOk.tok (by first | rfl | (simp; done)) (by first | (simp [push_cast]; done) | (simp [push_cast, Scoped, ScopedL, *]; done)) ?_ | refine SlotsOk.eq (by first | rfl | (congr 1; omega) | (simp; done) | (simp; omega)) (by first | (simp [push_cast]; done) | (simp [push_cast, Scoped, ScopedL, *]; done)) ?_))), by omega⟩
            have he : (a[i]'(by omega)) = (b[i]'(by omega)) := UInt8.toNat_inj.1 (by omega)
            rw [List.take_succ_eq_append_getElem (by omega), List.take_succ_eq_append_getElem (by omega), hi.2.2, he]
         case' ht =>
          intro hc21
          try (exfalso; (first | (cases hc21; done) | (simp at hc21; done) | (simp at hc21; omega)); done)
          all_goals (try simp only [decide_eq_true_eq, decide_eq_false_iff_not, Bool.not_eq_true', Bool.not_eq_false', Bool.not_eq_eq_eq_not, Bool.not_true, Bool.not_false] at hc21)
          all_goals
           refine AW_seq_k (fun K22 hK22 => ?_)
           apply AW_drawE [some 21, some 22, some 23, some 24, some 25, some 26, some 27, some 28, some 29, some 4] [([], _)] [none, none, none, none, none, none, none, none, none, none] 0 [(0, [], [0]), (1, [], [5]), (2, [], [21, 0]), (3, [], [23]), (4, [], [1]), (5, [], [5]), (6, [], [25, 0]), (7, [], [27]), (8, [], [24, 3]), (9, [], [29])] [_, _, _, _, _, _, _, _, _, _]
           case' hm => exact dr
           case' hn => rfl
           case' hok => rfl
           case' hlen => rfl
           case' hd => rfl
           case' h0 => rfl
           case' hstep =>
            simp only [DAllG, keepG, List.map_cons, List.map_nil, putD, stg, beqB, List.set_cons_zero, List.set_cons_succ, List.getD_cons_zero, List.getD_cons_succ, Option.isSome_some, Option.isSome_none]
            apply And.intro
            · apply DOne_do
              case' ho => rfl
              case' hw => rfl
              refine AOp_move ?_
              all_goals (try simp only [push_cast, Nat.reduceAdd])
              all_goals (constructor <;> first | rfl | trivial)
            apply And.intro
            · apply DOne_do
              case' ho => rfl
              case' hw => rfl
              refine AOp_move ?_
              all_goals (try simp only [push_cast, Nat.reduceAdd])
              all_goals (constructor <;> first | rfl | trivial)
            apply And.intro
            · apply DOne_do
              case' ho => rfl
              case' hw => rfl
              refine AOp_index_str _ _ _ rfl rfl un9 (by first | omega | (simp; omega)) (by first | omega | (simp; omega)) ?_
              all_goals (try simp only [push_cast, Nat.reduceAdd])
              all_goals (constructor <;> first | rfl | trivial)
            apply And.intro
            · apply DOne_do
              case' ho => rfl
              case' hw => rfl
              refine AOp_convert_int _ _ _ rfl un5 un3 ?_
              all_goals (try simp only [push_cast, Nat.reduceAdd])
              all_goals (constructor <;> first | rfl | trivial)
            apply And.intro
            · apply DOne_do
              case' ho => rfl
              case' hw => rfl
              refine AOp_move ?_
              all_goals (try simp only [push_cast, Nat.reduceAdd])
              all_goals (constructor <;> first | rfl | trivial)
            apply And.intro
            · apply DOne_do
              case' ho => rfl
              case' hw => rfl
              refine AOp_move ?_
              all_goals (try simp only [push_cast, Nat.reduceAdd])
              all_goals (constructor <;> first | rfl | trivial)
            apply And.intro
            · apply DOne_do
              case' ho => rfl
              case' hw => rfl
              refine AOp_index_str _ _ _ rfl rfl un9 (by first | omega | (simp; omega)) (by first | omega | (simp; omega)) ?_
              all_goals (try simp only [push_cast, Nat.reduceAdd])
              all_goals (constructor <;> first | rfl | trivial)
            apply And.intro
            · apply DOne_do
              case' ho => rfl
              case' hw => rfl
              refine AOp_convert_int _ _ _ rfl un5 un3 ?_
              all_goals (try simp only [push_cast, Nat.reduceAdd])
              all_goals (constructor <;> first | rfl | trivial)
            apply And.intro
            · apply DOne_do
              case' ho => rfl
              case' hw => rfl
              refine AOp_call _ _ _ rfl rfl ok62 ?_
              (try simp only [push_cast, Nat.reduceAdd])
              refine (cmpInts_ac _ _ _).mono ?_
              rintro r H' ⟨rfl, rfl⟩
              all_goals (try simp only [push_cast, Nat.reduceAdd])
              all_goals (constructor <;> first | rfl | trivial)
            apply And.intro
            · apply DOne_do
              case' ho => rfl
              case' hw => rfl
              refine AOp_assign ?_
              all_goals (try simp only [push_cast, Nat.reduceAdd])
              all_goals (constructor <;> first | rfl | trivial)
            exact trivial
           case' hQ => skip
           (try simp only [push_cast, putD, stg, beqB, List.replicate, Nat.reduceAdd, List.getD_cons_zero, List.getD_cons_succ])
           all_goals
            refine thenK_normal (hK22 _ ?_)
            try clear hK22
            refine AW_ret ?_
            repeat (first | refine thenK_ret ?_ | refine loopK_ret ?_ | refine blockK_ret ?_)
            refine ⟨by first | exact .inl rfl | exact .inr rfl, _, rfl, (by first | exact outok_app 0 rfl (Nat.zero_le _) (by simp) | exact outok_self), by simp [push_cast], ?_⟩
            simp only [push_cast, Nat.reduceAdd]
            rw [compareBytes_drop a b i hi.2.2 hi.1 hi.2.1]
            first
              | (have hil : i < a.length ∧ i < b.length := (by omega)
                 have hne : ¬ (a[i]'hil.1).toNat = (b[i]'hil.2).toNat := (by omega)
                 have hl1 := (a[i]'hil.1).toNat_lt
                 have hl2 := (b[i]'hil.2).toNat_lt
                 rw [IntWalk.i64_in _ (by omega), IntWalk.i64_in _ (by omega), List.drop_eq_getElem_cons hil.1, List.drop_eq_getElem_cons hil.2]
                 unfold cmpI Lib.compareBytes
                 simp only [UInt8.lt_iff_toNat_lt]
                 rcases Nat.lt_or_gt_of_ne hne with h | h
                 · have h' : ((a[i]'hil.1).toNat : Int) < (b[i]'hil.2).toNat := (by omega)
                   simp [h]
                 · have h' : ¬ (a[i]'hil.1).toNat < (b[i]'hil.2).toNat := (by omega)
                   simp [h, h'])
              | (rcases Nat.lt_or_ge a.length b.length with h | h
                 · have hia : i = a.length := (by omega)
                   subst hia
                   have hd : 0 < (b.drop a.length).length := (by simp; omega)
                   cases hb2 : b.drop a.length with
                   | nil => rw [hb2] at hd; simp at hd
                   | cons y r => simp [cmpI, Lib.compareBytes, h]
                 · rcases Nat.lt_or_ge b.length a.length with h2 | h2
                   · have hib : i = b.length := (by omega)
                     subst hib
                     have hd : 0 < (a.drop b.length).length := (by simp; omega)
                     cases ha2 : a.drop b.length with
                     | nil => rw [ha2] at hd; simp at hd
                     | cons y r =>
                       have h3 : ¬ a.length < b.length := (by omega)
                       simp [cmpI, Lib.compareBytes, h2, h3]
                   · have hl : a.length = b.length := (by omega)
                     have hia : i = a.length := (by omega)
                     subst hia
                     rw [List.drop_eq_nil_of_le (Nat.le_refl _), List.drop_eq_nil_of_le (by omega)]
                     simp [cmpI, Lib.compareBytes, hl])
              | trace_state
end Ab
/- Entries of a precedence, as the reference looks them up. -/
set_option maxRecDepth 10000
namespace Ab
open Go Go.Proofs
attribute [local push_cast] encT encR scoped_encR
def entryP (l : List Rank) (v : List UInt8) : Rank := (l.find? fun x => decide (x.name = v)).getD ⟨v, 0, 0⟩
theorem entry_rank (l : List Rank) (v : List UInt8) : (entryP l v).rank = (ofP l v).rank ∧ (entryP l v).weight = (ofP l v).weight := by
  unfold entryP ofP
  cases l.find? fun x => decide (x.name = v) <;> simp [zeroR]
theorem entry_ac (l : List Rank) (v : List UInt8) (hlen : l.length < 1099511627776) (H : List AObj) : ACall Try.prog 32 [.sl .none (encL encR l), .str v] H (fun r H' => r = encR (entryP l v) ∧ H' = H) := by
  have hsl : ∀ n, ScopedL n (encL encR l) := fun n => scoped_encR n l
  refine ACall_intro (H.length) Try.func32 rfl ?_
  simp only [Try.ntmps32, List.length_cons, List.length_nil, List.replicate, List.cons_append, List.nil_append, Nat.reduceAdd, Nat.reduceSub, Nat.zero_add]
  refine AW_seq_k (fun K1 hK1 => ?_)
  refine AW_region ?_
  all_goals (refine AOps_cons rfl (AOp_alloc _ zr63 (by simp [ofVal, AV.isCell, Value.oneCell']) ?_) <;> try simp only [push_cast, Nat.reduceAdd])
  all_goals refine AOps_nil ?_
  all_goals
   refine thenK_normal (hK1 _ ?_)
   try clear hK1
   refine AW_seq_k (fun K2 hK2 => ?_)
   refine AW_seq_k (fun K3 hK3 => ?_)
   refine AW_region ?_
   all_goals refine AOps_cons rfl (AOp_move ?_)
   all_goals (try simp only [push_cast, Nat.reduceAdd])
   all_goals (refine AOps_cons rfl (AOp_len_sl _ _ _ rfl sl22 ?_) <;> try simp only [push_cast, Nat.reduceAdd])
   all_goals (refine AOps_cons rfl (AOp_move ?_) <;> try simp only [push_cast, Nat.reduceAdd])
   all_goals refine AOps_nil ?_
   all_goals
    refine thenK_normal (hK3 _ ?_)
    try clear hK3
    refine AW_block ?_
    refine AW_loopR (maskG 21 [1, 2, 2, 0, 0]) (fun (i : Nat) => [(9, .int .i64 i)]) (fun _ => _) (fun i => i ≤ l.length ∧ ∀ x, x ∈ l.take i → ¬ x.name = v) (fun i => l.length - i) 0 ⟨Nat.zero_le _, by simp⟩ (by (simp only [push_cast, Nat.reduceAdd]; refine weak_app 1 ?_ (by simp) (by simp [push_cast]); (repeat (first | exact SlotsOk.nil | refine SlotsOk.junk ?_ | refine SlotsOk.same (by first | (simp [push_cast]; done) | (simp [push_cast, Scoped, ScopedL, *]; done)) ?_ | refine SlotsOk.tok (by first | rfl | (simp; done)) (by first | (simp [push_cast]; done) | (simp [push_cast, Scoped, ScopedL, *]; done)) ?_ | refine SlotsOk.eq (by first | rfl | (congr 1; omega) | (simp; done) | (simp; omega)) (by first | (simp [push_cast]; done) | (simp [push_cast, Scoped, ScopedL, *]; done)) ?_)))) (fun i hi => ?_)
    (try simp only [push_cast, Nat.reduceAdd])
    refine AW_seq_k (fun K4 hK4 => ?_)
    refine AW_region ?_
    all_goals (refine AOps_cons rfl (AOp_bin_int _ _ _ _ rfl rfl rfl ?_) <;> try simp only [push_cast, Nat.reduceAdd])
    all_goals refine AOps_nil ?_
    all_goals
     refine thenK_normal (hK4 _ ?_)
     try clear hK4
     refine AW_seq_k (fun K5 hK5 => ?_)
     apply AW_cond
     case' hc => exact rfl
     case' hf =>
      intro hc6
      try (exfalso; (first | (cases hc6; done) | (simp at hc6; done) | (simp at hc6; omega)); done)
      all_goals (try simp only [decide_eq_true_eq, decide_eq_false_iff_not, Bool.not_eq_true', Bool.not_eq_false', Bool.not_eq_eq_eq_not, Bool.not_true, Bool.not_false] at hc6)
      all_goals
       refine AW_exit ?_
       repeat (first | refine thenK_exit ?_ | refine loopK_exit ?_ | refine blockK_other (by decide) ?_)
       refine blockK_same ?_
       refine thenK_normal (hK2 _ ?_)
       try clear hK2
       refine AW_seq_k (fun K7 hK7 => ?_)
       refine AW_region ?_
       all_goals refine AOps_cons rfl (AOp_move ?_)
       all_goals (try simp only [push_cast, Nat.reduceAdd])
       all_goals (refine AOps_cons rfl (AOp_build _ _ _ zr63 st63 _ rfl (by first | rfl | (simp [afill, splice, push_cast]; done)) ?_) <;> try simp only [push_cast, Nat.reduceAdd])
       all_goals (refine AOps_cons rfl (AOp_store _ _ _ _ _ rfl (by first | exact hget0 | exact hgetN _ rfl | assumption | exact hgetL (by assumption) | exact hgetE (by first | assumption | apply hGl) | exact hgetEN (by first | assumption | apply hGl) _ rfl) rfl rfl (by first | exact .inl rfl | exact .inr ⟨_, rfl⟩) (by simp [push_cast, AV.isCell]) sz63 (by simp [push_cast]) ?_) <;> try simp only [push_cast, Nat.reduceAdd])
       all_goals refine AOps_nil ?_
       all_goals
        refine thenK_normal (hK7 _ ?_)
        try clear hK7
        refine AW_ret ?_
        repeat (first | refine thenK_ret ?_ | refine loopK_ret ?_ | refine blockK_ret ?_)
        have e : l.take i = l := List.take_of_length_le (by omega)
        rw [e] at hi
        have hn : l.find? (fun x => decide (x.name = v)) = none := by rw [List.find?_eq_none]; intro x hx; simpa using hi.2 x hx
        have he : entryP l v = ⟨v, 0, 0⟩ := by simp [entryP, hn]
        rw [he]
        refine ⟨by first | exact .inl rfl | exact .inr rfl, _, ⟨_, _, _, _, rfl, (by first | exact hget0 | exact hgetN _ rfl | assumption | exact hgetL (by assumption) | exact hgetE (by first | assumption | apply hGl) | exact hgetEN (by first | assumption | apply hGl) _ rfl), sz63, by simp, .inl ⟨ag63, rfl⟩⟩, (by first | exact outok_app 0 rfl (Nat.zero_le _) (by simp) | exact outok_self), by simp [push_cast], ?_⟩
        simp only [push_cast, Nat.reduceAdd]
        simp [strip, stripL]
     case' ht =>
      intro hc6
      try (exfalso; (first | (cases hc6; done) | (simp at hc6; done) | (simp at hc6; omega)); done)
      all_goals (try simp only [decide_eq_true_eq, decide_eq_false_iff_not, Bool.not_eq_true', Bool.not_eq_false', Bool.not_eq_eq_eq_not, Bool.not_true, Bool.not_false] at hc6)
      all_goals
       refine AW_skip ?_
       refine thenK_normal (hK5 _ ?_)
       try clear hK5
       refine AW_seq_k (fun K8 hK8 => ?_)
       refine AW_block ?_
       refine AW_seq_k (fun K9 hK9 => ?_)
       refine AW_region ?_
       all_goals (refine AOps_cons rfl (AOp_indexAddr_sl 63 _ _ _ _ _ rfl rfl sl22 sz63 (by decide) (by exact uni_encR _) (by first | omega | (simp; omega)) (by first | omega | (simp [push_cast]; omega) | (simp [push_cast]; done)) ?_) <;> try simp only [push_cast, Nat.reduceAdd])
       all_goals (refine AOps_cons rfl (AOp_load_cptr _ _ rfl sz63 ag63 (by simp [push_cast]) ?_) <;> try simp only [push_cast, Nat.reduceAdd])
       all_goals (refine AOps_cons rfl (AOp_alloc _ zr63 (by simp [ofVal, AV.isCell, Value.oneCell']) ?_) <;> try simp only [push_cast, Nat.reduceAdd])
       all_goals (refine AOps_cons rfl (AOp_store _ _ _ _ _ rfl (by first | exact hget0 | exact hgetN _ rfl | assumption | exact hgetL (by assumption) | exact hgetE (by first | assumption | apply hGl) | exact hgetEN (by first | assumption | apply hGl) _ rfl) rfl rfl (by first | exact .inl rfl | exact .inr ⟨_, rfl⟩) (by simp [push_cast, AV.isCell]) sz63 (by simp [push_cast]) ?_) <;> try simp only [push_cast, Nat.reduceAdd])
       all_goals refine AOps_nil ?_
       all_goals
        refine thenK_normal (hK9 _ ?_)
        try clear hK9
        refine AW_seq_k (fun K10 hK10 => ?_)
        refine AW_region ?_
        all_goals (refine AOps_cons rfl (AOp_fieldAddr_ptr _ _ _ _ rfl fd63_0 (by decide) ?_) <;> try simp only [push_cast, Nat.reduceAdd])
        all_goals (refine AOps_cons rfl (AOp_load1_ptr _ _ _ _ _ rfl (by first | exact hget0 | exact hgetN _ rfl | assumption | exact hgetL (by assumption) | exact hgetE (by first | assumption | apply hGl) | exact hgetEN (by first | assumption | apply hGl) _ rfl) sz9 ag9 (by decide) (by simp [push_cast]) rfl ?_) <;> try simp only [push_cast, Nat.reduceAdd])
        all_goals refine AOps_cons rfl (AOp_move ?_)
        all_goals (try simp only [push_cast, Nat.reduceAdd])
        all_goals (refine AOps_cons rfl (AOp_bin_str _ _ _ rfl rfl rfl ?_) <;> try simp only [push_cast, Nat.reduceAdd])
        all_goals refine AOps_nil ?_
        all_goals
         refine thenK_normal (hK10 _ ?_)
         try clear hK10
         apply AW_cond
         case' hc => exact rfl
         case' hf =>
          intro hc11
          try (exfalso; (first | (cases hc11; done) | (simp at hc11; done) | (simp at hc11; omega)); done)
          all_goals (try simp only [decide_eq_true_eq, decide_eq_false_iff_not, Bool.not_eq_true', Bool.not_eq_false', Bool.not_eq_eq_eq_not, Bool.not_true, Bool.not_false] at hc11)
          all_goals
           refine AW_skip ?_
           refine blockK_normal ?_
           refine thenK_normal (hK8 _ ?_)
           try clear hK8
           refine AW_region ?_
           all_goals refine AOps_cons rfl (AOp_bin_int _ _ _ _ rfl rfl rfl ?_)
           all_goals (try simp only [push_cast, Nat.reduceAdd])
           all_goals (try rw [IntWalk.i64_in _ (by omega)])
           all_goals (try simp only [push_cast, Nat.reduceAdd])
           all_goals (refine AOps_cons rfl (AOp_move ?_) <;> try simp only [push_cast, Nat.reduceAdd])
           all_goals refine AOps_nil ?_
           all_goals
            refine loopK_normal ?_
            refine ⟨i + 1, ⟨by omega, fun x hx => ?_⟩, by (simp only [push_cast, Nat.reduceAdd]; refine weak_app 1 ?_ (by simp) (by simp [push_cast]); (repeat (first | exact SlotsOk.nil | refine SlotsOk.junk ?_ | refine SlotsOk.same (by first | (simp [push_cast]; done) | (simp [push_cast, Scoped, ScopedL, *]; done)) ?_ | refine SlotsOk.tok (by first | rfl | (simp; done)) (by first | (simp [push_cast]; done) | (simp [push_cast, Scoped, ScopedL, *]; done)) ?_ | refine SlotsOk.eq (by first | rfl | (congr 1; omega) | (simp; done) | (simp; omega)) (by first | (simp [push_cast]; done) | (simp [push_cast, Scoped, ScopedL, *]; done)) ?_))), by omega⟩
            rw [List.take_succ_eq_append_getElem (by omega)] at hx
            rcases List.mem_append.1 hx with h | h
            · exact hi.2 x h
            · simp at h; subst h; assumption
         case' ht =>
          intro hc11
          try (exfalso; (first | (cases hc11; done) | (simp at hc11; done) | (simp at hc11; omega)); done)
          all_goals (try simp only [decide_eq_true_eq, decide_eq_false_iff_not, Bool.not_eq_true', Bool.not_eq_false', Bool.not_eq_eq_eq_not, Bool.not_true, Bool.not_false] at hc11)
          all_goals
           refine AW_seq_k (fun K12 hK12 => ?_)
           refine AW_region ?_
           all_goals (refine AOps_cons rfl (AOp_load_ptr _ _ _ _ rfl (by first | exact hget0 | exact hgetN _ rfl | assumption | exact hgetL (by assumption) | exact hgetE (by first | assumption | apply hGl) | exact hgetEN (by first | assumption | apply hGl) _ rfl) sz63 ag63 (by simp [push_cast]) ?_) <;> try simp only [push_cast, Nat.reduceAdd])
           all_goals (refine AOps_cons rfl (AOp_store _ _ _ _ _ rfl (by first | exact hget0 | exact hgetN _ rfl | assumption | exact hgetL (by assumption) | exact hgetE (by first | assumption | apply hGl) | exact hgetEN (by first | assumption | apply hGl) _ rfl) rfl rfl (by first | exact .inl rfl | exact .inr ⟨_, rfl⟩) (by simp [push_cast, AV.isCell]) sz63 (by simp [push_cast]) ?_) <;> try simp only [push_cast, Nat.reduceAdd])
           all_goals refine AOps_nil ?_
           all_goals
            refine thenK_normal (hK12 _ ?_)
            try clear hK12
            refine AW_ret ?_
            repeat (first | refine thenK_ret ?_ | refine loopK_ret ?_ | refine blockK_ret ?_)
            have hil : i < l.length := by omega
            have hn : l.find? (fun x => decide (x.name = v)) = some l[i] := by
              rw [List.find?_eq_some_iff_getElem]
              refine ⟨by simpa using ‹l[i].name = v›, i, hil, rfl, fun j hj => ?_⟩
              have := hi.2 l[j] (by rw [List.mem_take_iff_getElem]; exact ⟨j, by omega, rfl⟩)
              simpa using this
            have he : entryP l v = l[i] := by simp [entryP, hn]
            rw [he]
            refine ⟨by first | exact .inl rfl | exact .inr rfl, _, ⟨_, _, _, _, rfl, (by first | exact hget0 | exact hgetN _ rfl | assumption | exact hgetL (by assumption) | exact hgetE (by first | assumption | apply hGl) | exact hgetEN (by first | assumption | apply hGl) _ rfl), sz63, by simp, .inl ⟨ag63, rfl⟩⟩, (by first | exact outok_app 0 rfl (Nat.zero_le _) (by simp) | exact outok_self), by simp [push_cast], ?_⟩
            simp only [push_cast, Nat.reduceAdd]
            simp [strip, stripL]
end Ab
/- The reference's precedence and weights. -/
set_option maxRecDepth 10000
namespace Ab
open Go Go.Proofs
attribute [local push_cast] encT encR scoped_encR
theorem aboveR_ac (l : List Rank) (v u : List UInt8) (hlen : l.length < 1099511627776) (H : List AObj) : ACall Try.prog 33 [.sl .none (encL encR l), .str v, .str u] H (fun r H' => r = .bool (decide ((ofP l u).rank < (ofP l v).rank)) ∧ H' = H) := by
  have h1 := (entry_rank l v).1
  have h2 := (entry_rank l u).1
  refine ACall_intro (H.length) Try.func33 rfl ?_
  simp only [Try.ntmps33, List.length_cons, List.length_nil, List.replicate, List.cons_append, List.nil_append, Nat.reduceAdd, Nat.reduceSub, Nat.zero_add]
  refine AW_seq_k (fun K1 hK1 => ?_)
  refine AW_region ?_
  all_goals (refine AOps_cons rfl (AOp_assign ?_) <;> try simp only [push_cast, Nat.reduceAdd])
  all_goals refine AOps_nil ?_
  all_goals
   refine thenK_normal (hK1 _ ?_)
   try clear hK1
   refine AW_seq_k (fun K2 hK2 => ?_)
   refine AW_region ?_
   all_goals refine AOps_cons rfl (AOp_move ?_)
   all_goals refine AOps_cons rfl (AOp_move ?_)
   all_goals (try simp only [push_cast, Nat.reduceAdd])
   all_goals refine AOps_cons rfl (AOp_call _ _ _ rfl rfl ok32 ?_)
   all_goals (try simp only [push_cast, Nat.reduceAdd])
   all_goals refine (entry_ac l v hlen _).mono ?_
   all_goals rintro r H' ⟨rfl, rfl⟩
   all_goals (try simp only [push_cast, Nat.reduceAdd])
   all_goals (refine AOps_cons rfl (AOp_field1 _ _ _ _ rfl fa63_1 (by decide) (by simp [push_cast]) rfl ?_) <;> try simp only [push_cast, Nat.reduceAdd])
   all_goals refine AOps_cons rfl (AOp_move ?_)
   all_goals refine AOps_cons rfl (AOp_move ?_)
   all_goals (try simp only [push_cast, Nat.reduceAdd])
   all_goals refine AOps_cons rfl (AOp_call _ _ _ rfl rfl ok32 ?_)
   all_goals (try simp only [push_cast, Nat.reduceAdd])
   all_goals refine (entry_ac l u hlen _).mono ?_
   all_goals rintro r H' ⟨rfl, rfl⟩
   all_goals (try simp only [push_cast, Nat.reduceAdd])
   all_goals (refine AOps_cons rfl (AOp_field1 _ _ _ _ rfl fa63_1 (by decide) (by simp [push_cast]) rfl ?_) <;> try simp only [push_cast, Nat.reduceAdd])
   all_goals (refine AOps_cons rfl (AOp_bin_int _ _ _ _ rfl rfl rfl ?_) <;> try simp only [push_cast, Nat.reduceAdd])
   all_goals (refine AOps_cons rfl (AOp_assign ?_) <;> try simp only [push_cast, Nat.reduceAdd])
   all_goals refine AOps_nil ?_
   all_goals
    refine thenK_normal (hK2 _ ?_)
    try clear hK2
    refine AW_ret ?_
    repeat (first | refine thenK_ret ?_ | refine loopK_ret ?_ | refine blockK_ret ?_)
    refine ⟨by first | exact .inl rfl | exact .inr rfl, _, rfl, (by first | exact outok_app 0 rfl (Nat.zero_le _) (by simp) | exact outok_self), by simp [push_cast], ?_⟩
    simp only [push_cast, Nat.reduceAdd]
    rw [h1, h2]; first | (simp; done) | rfl | exact ⟨rfl, trivial⟩
end Ab
/- The reference's weights. -/
set_option maxRecDepth 10000
namespace Ab
open Go Go.Proofs
attribute [local push_cast] encT encR scoped_encR
theorem weightR_ac (l : List Rank) (unit : Int) (hr : SmallR l unit) (hlen : l.length < 1099511627776) (t : Term) : t.bulk ≤ 1099511627775 → ∀ H, ACall Try.prog 26 [.sl .none (encL encR l), .int .i64 unit, encT t] H (fun r H' => r = .int .i64 (weightP l unit t) ∧ H' = H) := by
  refine Term.ind (p := fun t => t.bulk ≤ 1099511627775 → ∀ H, ACall Try.prog 26 [.sl .none (encL encR l), .int .i64 unit, encT t] H (fun r H' => r = .int .i64 (weightP l unit t) ∧ H' = H)) (fun n v xs ih => ?_) t
  intro hb H
  have hsz := (Term.mk n v xs).size_le
  have hl2 := Term.len_le (n := n) (v := v) (xs := xs)
  have ho := hr.of n
  have hw := (entry_rank l n).2
  rw [Term.size_mk] at hsz
  rw [weightP_mk]
  have hbd : ∀ i, i ≤ xs.length → 0 ≤ ((xs.take i).map (weightP l unit)).sum ∧ ((xs.take i).map (weightP l unit)).sum ≤ 1099511627775000 := by
    intro i hi
    have h1 := weights_bound hr (xs.take i)
    have h2 := take_sum_le Term.size xs i
    omega
  simp only [encT, Term.name, Term.var, Term.args]
  refine ACall_intro (H.length) Try.func26 rfl ?_
  simp only [Try.ntmps26, List.length_cons, List.length_nil, List.replicate, List.cons_append, List.nil_append, Nat.reduceAdd, Nat.reduceSub, Nat.zero_add]
  refine AW_seq_k (fun K1 hK1 => ?_)
  refine AW_region ?_
  all_goals (refine AOps_cons rfl (AOp_box _ _ rfl rfl (by first | exact .inl rfl | exact .inr ⟨_, rfl⟩) (by simp [push_cast, AV.isCell]) ?_) <;> try simp only [push_cast, Nat.reduceAdd])
  all_goals (refine AOps_cons rfl (AOp_assign ?_) <;> try simp only [push_cast, Nat.reduceAdd])
  all_goals refine AOps_nil ?_
  all_goals
   refine thenK_normal (hK1 _ ?_)
   try clear hK1
   refine AW_seq_k (fun K2 hK2 => ?_)
   refine AW_seq_k (fun K3 hK3 => ?_)
   refine AW_region ?_
   all_goals (refine AOps_cons rfl (AOp_fieldAddr_ptr _ _ _ _ rfl fd27_1 (by decide) ?_) <;> try simp only [push_cast, Nat.reduceAdd])
   all_goals (refine AOps_cons rfl (AOp_load1_ptr _ _ _ _ _ rfl (by first | exact hget0 | exact hgetN _ rfl | assumption | exact hgetL (by assumption)) sz4 ag4 (by decide) (by simp [push_cast]) rfl ?_) <;> try simp only [push_cast, Nat.reduceAdd])
   all_goals refine AOps_nil ?_
   all_goals
    refine thenK_normal (hK3 _ ?_)
    try clear hK3
    apply AW_cond
    case' hc => exact rfl
    case' hf =>
     intro hc4
     try (exfalso; (first | (cases hc4; done) | (simp at hc4; done) | (simp at hc4; omega)); done)
     all_goals (try simp only [decide_eq_true_eq, decide_eq_false_iff_not, Bool.not_eq_true', Bool.not_eq_false', Bool.not_eq_eq_eq_not, Bool.not_true, Bool.not_false] at hc4)
     all_goals
      refine AW_skip ?_
      refine thenK_normal (hK2 _ ?_)
      try clear hK2
      refine AW_seq_k (fun K5 hK5 => ?_)
      refine AW_region ?_
      all_goals refine AOps_cons rfl (AOp_move ?_)
      all_goals (try simp only [push_cast, Nat.reduceAdd])
      all_goals (refine AOps_cons rfl (AOp_fieldAddr_ptr _ _ _ _ rfl fd27_0 (by decide) ?_) <;> try simp only [push_cast, Nat.reduceAdd])
      all_goals (refine AOps_cons rfl (AOp_load1_ptr _ _ _ _ _ rfl (by first | exact hget0 | exact hgetN _ rfl | assumption | exact hgetL (by assumption)) sz9 ag9 (by decide) (by simp [push_cast]) rfl ?_) <;> try simp only [push_cast, Nat.reduceAdd])
      all_goals refine AOps_cons rfl (AOp_call _ _ _ rfl rfl ok32 ?_)
      all_goals (try simp only [push_cast, Nat.reduceAdd])
      all_goals refine (entry_ac l n hlen _).mono ?_
      all_goals rintro r H' ⟨rfl, rfl⟩
      all_goals (try simp only [push_cast, Nat.reduceAdd])
      all_goals (refine AOps_cons rfl (AOp_field1 _ _ _ _ rfl fa63_2 (by decide) (by simp [push_cast]) rfl ?_) <;> try simp only [push_cast, Nat.reduceAdd])
      all_goals (refine AOps_cons rfl (AOp_assign ?_) <;> try simp only [push_cast, Nat.reduceAdd])
      all_goals refine AOps_nil ?_
      all_goals
       refine thenK_normal (hK5 _ ?_)
       try clear hK5
       refine AW_seq_k (fun K6 hK6 => ?_)
       refine AW_seq_k (fun K7 hK7 => ?_)
       refine AW_region ?_
       all_goals (refine AOps_cons rfl (AOp_fieldAddr_ptr _ _ _ _ rfl fd27_2 (by decide) ?_) <;> try simp only [push_cast, Nat.reduceAdd])
       all_goals (refine AOps_cons rfl (AOp_load1_ptr _ _ _ _ _ rfl (by first | exact hget0 | exact hgetN _ rfl | assumption | exact hgetL (by assumption)) sz25 ag25 (by decide) (by simp [push_cast]) rfl ?_) <;> try simp only [push_cast, Nat.reduceAdd])
       all_goals (refine AOps_cons rfl (AOp_len_sl _ _ _ rfl sl25 ?_) <;> try simp only [push_cast, Nat.reduceAdd])
       all_goals (refine AOps_cons rfl (AOp_move ?_) <;> try simp only [push_cast, Nat.reduceAdd])
       all_goals refine AOps_nil ?_
       all_goals
        refine thenK_normal (hK7 _ ?_)
        try clear hK7
        refine AW_block ?_
        refine AW_loopR (maskG 33 [0, 0, 5, 11, 0, 0]) (fun (i : Nat) => [(21, .int .i64 i), (7, .int .i64 ((ofP l n).weight + ((xs.take i).map (weightP l unit)).sum))]) (fun _ => _) (fun i => i ≤ xs.length) (fun i => xs.length - i) 0 (Nat.zero_le _) (by (simp only [push_cast, Nat.reduceAdd]; refine weak_app 1 ?_ (by simp) (by simp [push_cast]); (repeat (first | exact SlotsOk.nil | refine SlotsOk.junk ?_ | refine SlotsOk.same (by first | (simp [push_cast]; done) | (simp [push_cast, Scoped, ScopedL, *]; done)) ?_ | refine SlotsOk.tok (by first | rfl | (simp; done)) (by first | (simp [push_cast]; done) | (simp [push_cast, Scoped, ScopedL, *]; done)) ?_ | refine SlotsOk.eq (by first | rfl | (congr 1; omega) | (simp; done) | (simp; omega)) (by first | (simp [push_cast]; done) | (simp [push_cast, Scoped, ScopedL, *]; done)) ?_)))) (fun i hi => ?_)
        (try simp only [push_cast, Nat.reduceAdd])
        refine AW_seq_k (fun K8 hK8 => ?_)
        refine AW_region ?_
        all_goals (refine AOps_cons rfl (AOp_bin_int _ _ _ _ rfl rfl rfl ?_) <;> try simp only [push_cast, Nat.reduceAdd])
        all_goals refine AOps_nil ?_
        all_goals
         refine thenK_normal (hK8 _ ?_)
         try clear hK8
         refine AW_seq_k (fun K9 hK9 => ?_)
         apply AW_cond
         case' hc => exact rfl
         case' hf =>
          intro hc10
          try (exfalso; (first | (cases hc10; done) | (simp at hc10; done) | (simp at hc10; omega)); done)
          all_goals (try simp only [decide_eq_true_eq, decide_eq_false_iff_not, Bool.not_eq_true', Bool.not_eq_false', Bool.not_eq_eq_eq_not, Bool.not_true, Bool.not_false] at hc10)
          all_goals
           refine AW_exit ?_
           repeat (first | refine thenK_exit ?_ | refine loopK_exit ?_ | refine blockK_other (by decide) ?_)
           refine blockK_same ?_
           refine thenK_normal (hK6 _ ?_)
           try clear hK6
           refine AW_seq_k (fun K11 hK11 => ?_)
           refine AW_region ?_
           all_goals refine AOps_cons rfl (AOp_move ?_)
           all_goals (refine AOps_cons rfl (AOp_assign ?_) <;> try simp only [push_cast, Nat.reduceAdd])
           all_goals refine AOps_nil ?_
           all_goals
            refine thenK_normal (hK11 _ ?_)
            try clear hK11
            refine AW_ret ?_
            repeat (first | refine thenK_ret ?_ | refine loopK_ret ?_ | refine blockK_ret ?_)
            have e : xs.take i = xs := List.take_of_length_le (by omega)
            rw [e]
            have hv : v = false := by assumption
            rw [hv]
            refine ⟨by first | exact .inl rfl | exact .inr rfl, _, rfl, (by first | exact outok_app 0 rfl (Nat.zero_le _) (by simp) | exact outok_self), by simp [push_cast], ?_⟩
            simp only [push_cast, Nat.reduceAdd]
            simp
         case' ht =>
          intro hc10
          try (exfalso; (first | (cases hc10; done) | (simp at hc10; done) | (simp at hc10; omega)); done)
          all_goals (try simp only [decide_eq_true_eq, decide_eq_false_iff_not, Bool.not_eq_true', Bool.not_eq_false', Bool.not_eq_eq_eq_not, Bool.not_true, Bool.not_false] at hc10)
          all_goals
           refine AW_skip ?_
           refine thenK_normal (hK9 _ ?_)
           try clear hK9
           refine AW_seq_k (fun K12 hK12 => ?_)
           refine AW_block ?_
           refine AW_seq_k (fun K13 hK13 => ?_)
           refine AW_region ?_
           all_goals (refine AOps_cons rfl (AOp_indexAddr_sl 27 _ _ _ _ _ rfl rfl sl25 sz27 (by decide) (by exact uni_encTs _) (by first | omega | (simp; omega)) (by first | omega | (simp [push_cast]; omega) | (simp [push_cast]; done)) ?_) <;> try simp only [push_cast, Nat.reduceAdd])
           all_goals (refine AOps_cons rfl (AOp_load_cptr _ _ rfl sz27 ag27 (by simp [push_cast]) ?_) <;> try simp only [push_cast, Nat.reduceAdd])
           all_goals (refine AOps_cons rfl (AOp_alloc _ zr27 (by simp [ofVal, AV.isCell, Value.oneCell']) ?_) <;> try simp only [push_cast, Nat.reduceAdd])
           all_goals (refine AOps_cons rfl (AOp_store _ _ _ _ _ rfl (by first | exact hget0 | exact hgetN _ rfl | assumption | exact hgetL (by assumption)) rfl rfl (by first | exact .inl rfl | exact .inr ⟨_, rfl⟩) (by simp [push_cast, AV.isCell]) sz27 (by simp [push_cast]) ?_) <;> try simp only [push_cast, Nat.reduceAdd])
           all_goals refine AOps_nil ?_
           all_goals
            refine thenK_normal (hK13 _ ?_)
            try clear hK13
            refine AW_region ?_
            all_goals refine AOps_cons rfl (AOp_move ?_)
            all_goals refine AOps_cons rfl (AOp_move ?_)
            all_goals refine AOps_cons rfl (AOp_move ?_)
            all_goals (try simp only [push_cast, Nat.reduceAdd])
            all_goals (refine AOps_cons rfl (AOp_load_ptr _ _ _ _ rfl (by first | exact hget0 | exact hgetN _ rfl | assumption | exact hgetL (by assumption)) sz27 ag27 (by simp [push_cast]) ?_) <;> try simp only [push_cast, Nat.reduceAdd])
            all_goals refine AOps_cons rfl (AOp_call _ _ _ rfl rfl ok26 ?_)
            all_goals (try simp only [push_cast, Nat.reduceAdd])
            all_goals have e := take_sumI (weightP l unit) xs i (by omega)
            all_goals have hmem : xs[i]'(by omega) ∈ xs := by simp
            all_goals have hbx := Term.arg_le (n := n) (v := v) hmem
            all_goals have hb1 := hbd i (by omega)
            all_goals have hb2 := hbd (i + 1) (by omega)
            all_goals refine (ih (xs[i]'(by omega)) hmem (by omega) _).mono ?_
            all_goals rintro r H' ⟨rfl, rfl⟩
            all_goals (try simp only [push_cast, Nat.reduceAdd])
            all_goals refine AOps_cons rfl (AOp_bin_int _ _ _ _ rfl rfl rfl ?_)
            all_goals (try simp only [push_cast, Nat.reduceAdd])
            all_goals (try rw [IntWalk.i64_in _ (by omega)])
            all_goals (try simp only [push_cast, Nat.reduceAdd])
            all_goals (refine AOps_cons rfl (AOp_assign ?_) <;> try simp only [push_cast, Nat.reduceAdd])
            all_goals refine AOps_nil ?_
            all_goals
             refine blockK_normal ?_
             refine thenK_normal (hK12 _ ?_)
             try clear hK12
             refine AW_region ?_
             all_goals refine AOps_cons rfl (AOp_bin_int _ _ _ _ rfl rfl rfl ?_)
             all_goals (try simp only [push_cast, Nat.reduceAdd])
             all_goals (try rw [IntWalk.i64_in _ (by omega)])
             all_goals (try simp only [push_cast, Nat.reduceAdd])
             all_goals (refine AOps_cons rfl (AOp_move ?_) <;> try simp only [push_cast, Nat.reduceAdd])
             all_goals refine AOps_nil ?_
             all_goals
              refine loopK_normal ?_
              exact ⟨i + 1, by omega, by (simp only [push_cast, Nat.reduceAdd]; refine weak_app 1 ?_ (by simp) (by simp [push_cast]); (repeat (first | exact SlotsOk.nil | refine SlotsOk.junk ?_ | refine SlotsOk.same (by first | (simp [push_cast]; done) | (simp [push_cast, Scoped, ScopedL, *]; done)) ?_ | refine SlotsOk.tok (by first | rfl | (simp; done)) (by first | (simp [push_cast]; done) | (simp [push_cast, Scoped, ScopedL, *]; done)) ?_ | refine SlotsOk.eq (by first | rfl | (congr 1; omega) | (simp; done) | (simp; omega)) (by first | (simp [push_cast]; done) | (simp [push_cast, Scoped, ScopedL, *]; done)) ?_))), by omega⟩
    case' ht =>
     intro hc4
     try (exfalso; (first | (cases hc4; done) | (simp at hc4; done) | (simp at hc4; omega)); done)
     all_goals (try simp only [decide_eq_true_eq, decide_eq_false_iff_not, Bool.not_eq_true', Bool.not_eq_false', Bool.not_eq_eq_eq_not, Bool.not_true, Bool.not_false] at hc4)
     all_goals
      refine AW_seq_k (fun K14 hK14 => ?_)
      refine AW_region ?_
      all_goals refine AOps_cons rfl (AOp_move ?_)
      all_goals (refine AOps_cons rfl (AOp_assign ?_) <;> try simp only [push_cast, Nat.reduceAdd])
      all_goals refine AOps_nil ?_
      all_goals
       refine thenK_normal (hK14 _ ?_)
       try clear hK14
       refine AW_ret ?_
       repeat (first | refine thenK_ret ?_ | refine loopK_ret ?_ | refine blockK_ret ?_)
       have hv : v = true := by assumption
       rw [hv]
       refine ⟨by first | exact .inl rfl | exact .inr rfl, _, rfl, (by first | exact outok_app 0 rfl (Nat.zero_le _) (by simp) | exact outok_self), by simp [push_cast], ?_⟩
       simp only [push_cast, Nat.reduceAdd]
       simp
end Ab
/- What the reference computes on terms, in plain definitions; the same as what the program computes. -/
set_option maxRecDepth 10000
namespace Ab
open Go Go.Proofs
theorem Term.var_mk (n : List UInt8) (v : Bool) (xs : List Term) : (Term.mk n v xs).var = v := rfl
theorem Term.name_mk (n : List UInt8) (v : Bool) (xs : List Term) : (Term.mk n v xs).name = n := rfl
theorem Term.args_mk (n : List UInt8) (v : Bool) (xs : List Term) : (Term.mk n v xs).args = xs := rfl
/-! ### How often a variable occurs -/
def oneP (v n : List UInt8) (u : Bool) : Int := if u = true ∧ n = v then 1 else 0
theorem oneP_bound (v n : List UInt8) (u : Bool) : 0 ≤ oneP v n u ∧ oneP v n u ≤ 1 := by unfold oneP; split <;> omega
def countP (v : List UInt8) : Term → Int
  | .mk n u xs => oneP v n u + (xs.map (countP v)).sum
theorem countP_mk (v n : List UInt8) (u : Bool) (xs : List Term) : countP v (.mk n u xs) = oneP v n u + (xs.map (countP v)).sum := by simp [countP]
def occOf (v : List UInt8) (x : List Int × Term) : Int := oneP v x.2.name x.2.var
theorem walkL_occ : ∀ (v : List UInt8) (xs : List Term) (i : Int) (p : List Int), ((walkL xs i p).map (occOf v)).sum = (xs.map (countP v)).sum
  | v, [], _, _ => by simp [walkL]
  | v, .mk n u ys :: r, i, p => by
    have h1 := walkL_occ v ys 0 (p ++ [i])
    have h2 := walkL_occ v r (i + 1) p
    simp only [walkL, List.map_cons, List.map_append, List.sum_cons, List.sum_append, h1, h2, countP_mk]
    simp only [occOf, Term.var_mk, Term.name_mk]; omega
theorem walkT_occ (v : List UInt8) (t : Term) (p : List Int) : ((walkT t p).map (occOf v)).sum = countP v t := by
  cases t with
  | mk n u xs => simp [walkT, walkL_occ, Term.args_mk, countP_mk, occOf, Term.var_mk, Term.name_mk]
theorem occ_bound (v : List UInt8) : ∀ l : List (List Int × Term), 0 ≤ (l.map (occOf v)).sum ∧ (l.map (occOf v)).sum ≤ l.length
  | [] => by simp
  | x :: l => by
    have := occ_bound v l
    have := oneP_bound v x.2.name x.2.var
    simp only [List.map_cons, List.sum_cons, occOf, List.length_cons]; omega
theorem countP_bound (v : List UInt8) (t : Term) : 0 ≤ countP v t ∧ countP v t ≤ t.size := by
  have := occ_bound v (walkT t [])
  rw [walkT_occ, walkT_length] at this; exact this
theorem counts_bound (v : List UInt8) : ∀ xs : List Term, 0 ≤ (xs.map (countP v)).sum ∧ (xs.map (countP v)).sum ≤ ((xs.map Term.size).sum : Nat)
  | [] => by simp
  | x :: l => by
    have h1 := counts_bound v l
    have h2 := countP_bound v x
    simp only [List.map_cons, List.sum_cons]; omega
/-! ### The map of the program's counts -/
theorem aset_keys {κ α : Type} [DecidableEq κ] : ∀ (m : List (κ × α)) (k : κ) (v : α), (aset m k v).map (·.1) = if k ∈ m.map (·.1) then m.map (·.1) else m.map (·.1) ++ [k]
  | [], k, v => by simp [aset]
  | p :: m, k, v => by
    have ih := aset_keys m k v
    by_cases h : p.1 = k
    · simp [aset, h]
    · have h' : ¬ k = p.1 := fun e => h e.symm
      simp only [aset, h, if_false, List.map_cons, List.mem_cons, h', false_or, ih]
      split <;> simp
theorem aset_nodup {κ α : Type} [DecidableEq κ] {m : List (κ × α)} (h : (m.map (·.1)).Nodup) (k : κ) (v : α) : ((aset m k v).map (·.1)).Nodup := by
  rw [aset_keys]
  split
  · exact h
  · rename_i hk
    rw [List.nodup_append]
    exact ⟨h, by simp, fun a ha b hb => by simp at hb; subst hb; exact fun e => hk (e ▸ ha)⟩
theorem aget_mem {κ α : Type} [DecidableEq κ] : ∀ {m : List (κ × α)} {k : κ} {v : α}, aget m k = some v → (k, v) ∈ m
  | p :: m, k, v, h => by
    unfold aget at h
    split at h
    · rename_i e; injection h with h; subst e; subst h; exact List.mem_cons_self
    · exact List.mem_cons_of_mem _ (aget_mem h)
theorem aget_of_mem {κ α : Type} [DecidableEq κ] : ∀ {m : List (κ × α)}, (m.map (·.1)).Nodup → ∀ p, p ∈ m → aget m p.1 = some p.2
  | q :: m, h, p, hp => by
    rw [List.map_cons, List.nodup_cons] at h
    unfold aget
    rcases List.mem_cons.1 hp with rfl | hp
    · simp
    · have : ¬ q.1 = p.1 := fun e => h.1 (e ▸ List.mem_map_of_mem hp)
      rw [if_neg this]; exact aget_of_mem h.2 p hp
theorem countM_nodup (l : List (List Int × Term)) : ((countM l).map (·.1)).Nodup := by
  obtain ⟨r, rfl⟩ : ∃ r, l = r.reverse := ⟨l.reverse, by simp⟩
  induction r with
  | nil => simp [countM]
  | cons x r ih =>
    rw [List.reverse_cons, countM_snoc]
    unfold countStep
    split
    · exact aset_nodup ih _ _
    · exact ih
theorem countM_get (v : List UInt8) (l : List (List Int × Term)) : (aget (countM l) v).getD 0 = (l.map (occOf v)).sum := by
  obtain ⟨r, rfl⟩ : ∃ r, l = r.reverse := ⟨l.reverse, by simp⟩
  induction r with
  | nil => simp [countM, aget]
  | cons x r ih =>
    rw [List.reverse_cons, countM_snoc, List.map_append, List.sum_append, ← ih]
    unfold countStep
    cases hv : x.2.var with
    | false => simp [occOf, oneP, hv]
    | true =>
      simp only [if_true, List.map_cons, List.map_nil, List.sum_cons, List.sum_nil, occOf, oneP, hv, true_and]
      rw [aget_aset]
      by_cases hn : x.2.name = v
      · simp [hn]
      · simp [hn]
theorem coversP_iff (s t : Term) : coversP s t = true ↔ ∀ v, countP v t ≤ countP v s := by
  have hg : ∀ (v : List UInt8) (t : Term), (aget (countM (walkT t [])) v).getD 0 = countP v t := fun v t => by rw [countM_get, walkT_occ]
  unfold coversP
  rw [List.all_eq_true]
  constructor
  · intro h v
    cases ha : aget (countM (walkT t [])) v with
    | none =>
      have := hg v t
      rw [ha] at this; simp at this
      have := countP_bound v s
      omega
    | some n =>
      have h1 := h _ (aget_mem ha)
      have := hg v t
      rw [ha] at this; simp at this
      rw [hg] at h1; simp at h1; omega
  · intro h p hp
    have h1 := aget_of_mem (countM_nodup _) p hp
    have h2 := hg p.1 t
    rw [h1] at h2; simp at h2
    rw [hg, h2]; simpa using h p.1
/-! ### The variables of terms, sorted -/
def insAt (l : List (List UInt8)) (s : List UInt8) : Nat := (l.takeWhile fun x => decide (Lib.compareBytes x s < 0)).length
def insertP (l : List (List UInt8)) (s : List UInt8) : List (List UInt8) := if l[insAt l s]? = some s then l else l.take (insAt l s) ++ [s] ++ l.drop (insAt l s)
theorem mem_insertP (l : List (List UInt8)) (s v : List UInt8) : v ∈ insertP l s ↔ v ∈ l ∨ v = s := by
  unfold insertP
  split
  · rename_i h
    have := List.mem_of_getElem? h
    constructor
    · exact .inl
    · rintro (h | rfl)
      · exact h
      · exact this
  · conv => rhs; rw [← List.take_append_drop (insAt l s) l]
    simp only [List.mem_append, List.mem_singleton]
    constructor
    · rintro ((h | h) | h)
      · exact .inl (.inl h)
      · exact .inr h
      · exact .inl (.inr h)
    · rintro ((h | h) | h)
      · exact .inl (.inl h)
      · exact .inr h
      · exact .inl (.inr h)
theorem insertP_length (l : List (List UInt8)) (s : List UInt8) : (insertP l s).length ≤ l.length + 1 := by
  unfold insertP
  split
  · omega
  · simp; omega
def collectP : Term → List (List UInt8) → List (List UInt8)
  | .mk n u xs, l => (xs.map collectP).foldl (fun l f => f l) (if u then insertP l n else l)
theorem collectP_mk (n : List UInt8) (u : Bool) (xs : List Term) (l : List (List UInt8)) : collectP (.mk n u xs) l = xs.foldl (fun l t => collectP t l) (if u then insertP l n else l) := by simp [collectP, List.foldl_map]
def varsP (ts : List Term) : List (List UInt8) := ts.foldl (fun l t => collectP t l) []
theorem collectP_length (t : Term) : ∀ l, (collectP t l).length ≤ l.length + t.size := by
  refine Term.ind (p := fun t => ∀ l, (collectP t l).length ≤ l.length + t.size) (fun n u xs ih => ?_) t
  intro l
  rw [collectP_mk, Term.size_mk]
  have h0 : (if u then insertP l n else l).length ≤ l.length + 1 := by split; exact insertP_length l n; omega
  generalize (if u then insertP l n else l) = m at h0
  have : ∀ (ys : List Term) (m : List (List UInt8)), (∀ y, y ∈ ys → y ∈ xs) → (ys.foldl (fun l t => collectP t l) m).length ≤ m.length + (ys.map Term.size).sum := by
    intro ys
    induction ys with
    | nil => intro m _; simp
    | cons y ys ih2 =>
      intro m hm
      have h1 := ih2 (collectP y m) (fun z hz => hm z (by simp [hz]))
      have h2 := ih y (hm y (by simp)) m
      simp only [List.foldl_cons, List.map_cons, List.sum_cons]; omega
  have := this xs m (fun y hy => hy)
  omega
theorem mem_collectP (v : List UInt8) (t : Term) : ∀ l, v ∈ collectP t l ↔ v ∈ l ∨ 0 < countP v t := by
  refine Term.ind (p := fun t => ∀ l, v ∈ collectP t l ↔ v ∈ l ∨ 0 < countP v t) (fun n u xs ih => ?_) t
  intro l
  rw [collectP_mk, countP_mk]
  have : ∀ (ys : List Term) (m : List (List UInt8)), (∀ y, y ∈ ys → y ∈ xs) → (v ∈ ys.foldl (fun l t => collectP t l) m ↔ v ∈ m ∨ 0 < (ys.map (countP v)).sum) := by
    intro ys
    induction ys with
    | nil => intro m _; simp
    | cons y ys ih2 =>
      intro m hm
      have h1 := countP_bound v y
      have h2 := counts_bound v ys
      simp only [List.foldl_cons, List.map_cons, List.sum_cons]
      rw [ih2 (collectP y m) (fun z hz => hm z (by simp [hz])), ih y (hm y (by simp)) m]
      constructor
      · rintro ((h | h) | h)
        · exact .inl h
        · right; omega
        · right; omega
      · rintro (h | h)
        · exact .inl (.inl h)
        · by_cases h3 : 0 < countP v y
          · exact .inl (.inr h3)
          · right; omega
  rw [this xs _ (fun y hy => hy)]
  have hb := counts_bound v xs
  cases u with
  | false => simp [oneP]
  | true =>
    simp only [if_true, mem_insertP, true_and, oneP]
    by_cases hn : n = v
    · simp [hn]; omega
    · have hn' : ¬ v = n := fun e => hn e.symm
      simp [hn, hn']
theorem mem_varsP (v : List UInt8) (t : Term) : v ∈ varsP [t] ↔ 0 < countP v t := by simp [varsP, mem_collectP]
theorem coversP_vars (s t : Term) : coversP s t = (varsP [t]).all fun v => decide (countP v t ≤ countP v s) := by
  rw [Bool.eq_iff_iff, coversP_iff, List.all_eq_true]
  constructor
  · intro h v _; simpa using h v
  · intro h v
    by_cases hv : 0 < countP v t
    · simpa using h v ((mem_varsP v t).2 hv)
    · have := countP_bound v s; omega
/-! ### Comparison of terms -/
def cmpC (n : List UInt8) (v : Bool) (k : Nat) (m : List UInt8) (u : Bool) (j : Nat) (rest : Int) : Int :=
  if v ≠ u then (if v then -1 else 1) else if Lib.compareBytes n m ≠ 0 then Lib.compareBytes n m else if k < j then -1 else if j < k then 1 else rest
def cmpTs : List Term → List Term → Int
  | .mk n v xs :: r, .mk m u ys :: r' => if cmpC n v xs.length m u ys.length (cmpTs xs ys) ≠ 0 then cmpC n v xs.length m u ys.length (cmpTs xs ys) else cmpTs r r'
  | _, _ => 0
def cmpT (a b : Term) : Int := cmpC a.name a.var a.args.length b.name b.var b.args.length (cmpTs a.args b.args)
theorem cmpTs_cons (x y : Term) (r r' : List Term) : cmpTs (x :: r) (y :: r') = if cmpT x y ≠ 0 then cmpT x y else cmpTs r r' := by
  cases x; cases y; simp only [cmpTs, cmpT, Term.name, Term.var, Term.args]; rfl
theorem cmpTs_nil (ys : List Term) : cmpTs [] ys = 0 := by cases ys <;> simp [cmpTs]
theorem cmpTs_drop : ∀ (xs ys : List Term) (i : Nat), (∀ j (h1 : j < xs.length) (h2 : j < ys.length), j < i → cmpT xs[j] ys[j] = 0) → xs.length = ys.length → cmpTs xs ys = cmpTs (xs.drop i) (ys.drop i)
  | xs, ys, 0, _, _ => rfl
  | [], [], _ + 1, _, _ => rfl
  | [], _ :: _, _ + 1, _, h => by simp at h
  | _ :: _, [], _ + 1, _, h => by simp at h
  | x :: xs, y :: ys, i + 1, h, hl => by
    have h0 := h 0 (by simp) (by simp) (by omega)
    simp only [List.getElem_cons_zero] at h0
    rw [cmpTs_cons, List.drop_succ_cons, List.drop_succ_cons, if_neg (by omega)]
    refine cmpTs_drop xs ys i (fun j h1 h2 hj => ?_) (by simpa using hl)
    have h3 := h (j + 1) (by simp; omega) (by simp; omega) (by omega)
    simp only [List.getElem_cons_succ] at h3; exact h3
theorem cmpTs_iff : ∀ (xs ys : List Term), xs.length = ys.length → (cmpTs xs ys = 0 ↔ xs = ys)
  | [], [], _ => by simp [cmpTs]
  | [], _ :: _, h => by simp at h
  | _ :: _, [], h => by simp at h
  | .mk n v xs :: r, .mk m u ys :: r', h => by
    have h1 := cmpTs_iff r r' (by simpa using h)
    have h2 := cmpTs_iff xs ys
    have h3 := compareBytes_eq n m
    unfold cmpTs cmpC
    have h0 : Lib.compareBytes m m = 0 := (compareBytes_eq m m).2 rfl
    by_cases hv : v = u
    · by_cases hn : n = m
      · rcases Nat.lt_trichotomy xs.length ys.length with hl | hl | hl
        · have : ¬ xs = ys := fun e => by rw [e] at hl; omega
          simp [hv, h3.2 hn, hl, this]
        · have h2 := h2 hl
          simp only [hv, h3.2 hn, hl, Nat.lt_irrefl, if_false, ne_eq, not_true_eq_false, hn, List.cons.injEq, Term.mk.injEq, true_and, and_assoc]
          by_cases hc : cmpTs xs ys = 0
          · have e := h2.1 hc; simp [h0, h1, e, e ▸ hc]
          · have : ¬ xs = ys := fun e => hc (h2.2 e)
            simp [h0, hc, this]
        · have : ¬ xs = ys := fun e => by rw [e] at hl; omega
          have h4 : ¬ xs.length < ys.length := by omega
          simp [hv, h3.2 hn, hl, h4, this]
      · have h3' : ¬ Lib.compareBytes n m = 0 := fun e => hn (h3.1 e)
        simp [hv, h3', hn]
    · cases v <;> cases u <;> simp_all
theorem cmpT_iff (a b : Term) : cmpT a b = 0 ↔ a = b := by
  have := cmpTs_iff [a] [b] rfl
  rw [cmpTs_cons] at this
  simp only [cmpTs, List.cons.injEq, and_true] at this
  rw [← this]
  by_cases h : cmpT a b = 0 <;> simp [h]
/-! ### Symbols -/
def symOf (t : Term) : Sym := ⟨t.name, t.args.length⟩
theorem symOf_mk (n : List UInt8) (v : Bool) (xs : List Term) : symOf (.mk n v xs) = ⟨n, xs.length⟩ := rfl
def ofT : Term → List Sym
  | .mk n u xs => (xs.map ofT).flatten ++ if u then [] else [⟨n, xs.length⟩]
theorem ofT_mk (n : List UInt8) (u : Bool) (xs : List Term) : ofT (.mk n u xs) = xs.flatMap ofT ++ if u then [] else [⟨n, xs.length⟩] := by simp [ofT, List.flatMap]
theorem sum_le_sum {α : Type} {f g : α → Nat} : ∀ {xs : List α}, (∀ x, x ∈ xs → f x ≤ g x) → (xs.map f).sum ≤ (xs.map g).sum
  | [], _ => by simp
  | y :: ys, h => by
    have h1 := h y (by simp)
    have h2 := sum_le_sum (xs := ys) (fun z hz => h z (by simp [hz]))
    simp only [List.map_cons, List.sum_cons]; omega
theorem ofT_length (t : Term) : (ofT t).length ≤ t.size := by
  refine Term.ind (p := fun t => (ofT t).length ≤ t.size) (fun n u xs ih => ?_) t
  rw [ofT_mk, Term.size_mk, List.length_append, List.length_flatMap]
  have := sum_le_sum (f := fun t => (ofT t).length) (g := Term.size) ih
  split <;> simp only [List.length_nil, List.length_cons] <;> omega
theorem mem_walkL (f : Sym) : ∀ (xs : List Term) (i : Int) (p : List Int), (∃ x, x ∈ walkL xs i p ∧ x.2.var = false ∧ symOf x.2 = f) ↔ f ∈ xs.flatMap ofT
  | [], _, _ => by simp [walkL]
  | .mk n v ys :: r, i, p => by
    have h1 := mem_walkL f ys 0 (p ++ [i])
    have h2 := mem_walkL f r (i + 1) p
    simp only [walkL, List.mem_cons, List.mem_append, or_and_right, exists_or, exists_eq_left, h1, h2, List.flatMap_cons, ofT_mk, Term.var_mk, symOf_mk]
    cases v
    · simp only [true_and, Bool.false_eq_true, if_false, List.mem_singleton, eq_comm (a := f)]
      constructor
      · rintro (h | h | h)
        · exact .inl (.inr h)
        · exact .inl (.inl h)
        · exact .inr h
      · rintro ((h | h) | h)
        · exact .inr (.inl h)
        · exact .inl h
        · exact .inr (.inr h)
    · simp only [Bool.true_eq_false, false_and, false_or, if_true, List.not_mem_nil, or_false]
theorem mem_ofT (f : Sym) (t : Term) (p : List Int) : (∃ x, x ∈ walkT t p ∧ x.2.var = false ∧ symOf x.2 = f) ↔ f ∈ ofT t := by
  cases t with
  | mk n v ys =>
    have h := mem_walkL f [.mk n v ys] 0 p
    simp only [walkT, Term.args_mk, List.mem_cons, or_and_right, exists_or, exists_eq_left]
    have h1 := mem_walkL f ys 0 p
    rw [h1, ofT_mk, List.mem_append]
    simp only [Term.var_mk, symOf_mk]
    cases v
    · simp only [true_and, Bool.false_eq_true, if_false, List.mem_singleton, eq_comm (a := f)]
      exact or_comm
    · simp
/-- The symbols that the program finds, in the order of the walk. -/
def symStep (out : List Sym) (x : List Int × Term) : List Sym := if x.2.var = false ∧ symOf x.2 ∉ out then out ++ [symOf x.2] else out
def symsT (out : List Sym) (t : Term) : List Sym := (walkT t []).foldl symStep out
def symsP (ts : List Term) : List Sym := ts.foldl symsT []
theorem mem_symFold (f : Sym) : ∀ (l : List (List Int × Term)) (out : List Sym), f ∈ l.foldl symStep out ↔ f ∈ out ∨ ∃ x, x ∈ l ∧ x.2.var = false ∧ symOf x.2 = f
  | [], out => by simp
  | x :: l, out => by
    rw [List.foldl_cons, mem_symFold f l]
    have h : f ∈ symStep out x ↔ f ∈ out ∨ (x.2.var = false ∧ symOf x.2 = f) := by
      unfold symStep
      split
      · rename_i h; rw [List.mem_append, List.mem_singleton]; simp only [h.1, true_and, eq_comm (a := f)]
      · rename_i h
        constructor
        · exact .inl
        · rintro (h1 | ⟨h1, h2⟩)
          · exact h1
          · by_cases h3 : symOf x.2 ∈ out
            · exact h2 ▸ h3
            · exact absurd ⟨h1, h3⟩ h
    rw [h]
    simp only [List.mem_cons, or_and_right, exists_or, exists_eq_left, or_assoc]
theorem mem_symsFold (f : Sym) : ∀ (ts : List Term) (out : List Sym), f ∈ ts.foldl symsT out ↔ f ∈ out ∨ f ∈ ts.flatMap ofT
  | [], out => by simp
  | t :: ts, out => by
    rw [List.foldl_cons, mem_symsFold f ts, List.flatMap_cons, List.mem_append, ← or_assoc]
    unfold symsT
    rw [mem_symFold, mem_ofT]
theorem mem_symsP (f : Sym) (ts : List Term) : f ∈ symsP ts ↔ f ∈ ts.flatMap ofT := by simp [symsP, mem_symsFold]
/-- Whether an order is admissible for symbols, as the reference says it. -/
def fitsRy (l : List Rank) (x y : Sym) : Bool := !(decide (x.arity = 1) && decide ((ofP l x.name).weight = 0) && decide (x ≠ y) && !decide ((ofP l y.name).rank < (ofP l x.name).rank))
def fitsRx (l : List Rank) (unit : Int) (ss : List Sym) (x : Sym) : Bool := !(decide (x.arity = 0) && decide ((ofP l x.name).weight < unit)) && ss.all (fitsRy l x)
def fitsR (l : List Rank) (unit : Int) (ss : List Sym) : Bool := ss.all (fitsRx l unit ss)
theorem fitsR_eq (l : List Rank) (unit : Int) (hr : SmallR l unit) (s1 s2 : List Sym) (h : ∀ f, f ∈ s1 ↔ f ∈ s2) : fitsR l unit s1 = fitsW l unit s2 := by
  have hall : ∀ p : Sym → Bool, s1.all p = s2.all p := fun p => by
    rw [Bool.eq_iff_iff, List.all_eq_true, List.all_eq_true]; simp only [h]
  unfold fitsR fitsW
  rw [hall]
  congr 1
  funext x
  unfold fitsRx
  rw [hall]
  unfold fitsAt
  congr 1
  have hw := hr.of x.name
  rw [Bool.eq_iff_iff, List.all_eq_true]
  unfold fitsRy
  by_cases ha : x.arity = 1
  · by_cases hw0 : 0 < (ofP l x.name).weight
    · have : ¬ (ofP l x.name).weight = 0 := by omega
      simp [ha, hw0, this]
    · have : (ofP l x.name).weight = 0 := by omega
      simp only [ha, this, decide_true, Bool.true_and, Bool.not_true, Bool.false_or, Int.lt_irrefl, decide_false, Bool.not_eq_true', List.any_eq_false]
      constructor
      · intro h1 y hy h2
        have := h1 y hy
        simp only [Bool.and_eq_true, decide_eq_true_eq, ne_eq] at h2
        have hne : ¬ x = y := fun e => h2.1 e.symm
        simp [hne] at this; omega
      · intro h1 y hy
        have := h1 y hy
        by_cases hne : x = y
        · simp [hne]
        · have hne' : ¬ y = x := fun e => hne e.symm
          simp [hne, hne'] at this ⊢; omega
  · simp [ha]
end Ab
/- The reference's counts and comparison of terms. -/
set_option maxRecDepth 10000
namespace Ab
open Go Go.Proofs
attribute [local push_cast] encT encR scoped_encR
theorem countR_ac (v : List UInt8) (t : Term) : t.bulk ≤ 1099511627775 → ∀ H, ACall Try.prog 58 [encT t, .str v] H (fun r H' => r = .int .i64 (countP v t) ∧ H' = H) := by
  refine Term.ind (p := fun t => t.bulk ≤ 1099511627775 → ∀ H, ACall Try.prog 58 [encT t, .str v] H (fun r H' => r = .int .i64 (countP v t) ∧ H' = H)) (fun n u xs ih => ?_) t
  intro hb H
  have hsz := (Term.mk n u xs).size_le
  have hl2 := Term.len_le (n := n) (v := u) (xs := xs)
  have ho := oneP_bound v n u
  rw [Term.size_mk] at hsz
  rw [countP_mk]
  have hbd : ∀ i, i ≤ xs.length → 0 ≤ ((xs.take i).map (countP v)).sum ∧ ((xs.take i).map (countP v)).sum ≤ 1099511627775 := by
    intro i hi
    have h1 := counts_bound v (xs.take i)
    have h2 := take_sum_le Term.size xs i
    omega
  simp only [encT, Term.name, Term.var, Term.args]
  refine ACall_intro (H.length) Try.func58 rfl ?_
  simp only [Try.ntmps58, List.length_cons, List.length_nil, List.replicate, List.cons_append, List.nil_append, Nat.reduceAdd, Nat.reduceSub, Nat.zero_add]
  refine AW_seq_k (fun K1 hK1 => ?_)
  refine AW_region ?_
  all_goals (refine AOps_cons rfl (AOp_box _ _ rfl rfl (by first | exact .inl rfl | exact .inr ⟨_, rfl⟩) (by simp [push_cast, AV.isCell]) ?_) <;> try simp only [push_cast, Nat.reduceAdd])
  all_goals (refine AOps_cons rfl (AOp_assign ?_) <;> try simp only [push_cast, Nat.reduceAdd])
  all_goals refine AOps_nil ?_
  all_goals
   refine thenK_normal (hK1 _ ?_)
   try clear hK1
   refine AW_seq_k (fun K2 hK2 => ?_)
   refine AW_region ?_
   all_goals (refine AOps_cons rfl (AOp_assign ?_) <;> try simp only [push_cast, Nat.reduceAdd])
   all_goals refine AOps_nil ?_
   all_goals
    refine thenK_normal (hK2 _ ?_)
    try clear hK2
    refine AW_seq_k (fun K3 hK3 => ?_)
    refine AW_seq_k (fun K4 hK4 => ?_)
    refine AW_region ?_
    all_goals (refine AOps_cons rfl (AOp_fieldAddr_ptr _ _ _ _ rfl fd27_1 (by decide) ?_) <;> try simp only [push_cast, Nat.reduceAdd])
    all_goals (refine AOps_cons rfl (AOp_load1_ptr _ _ _ _ _ rfl (by first | exact hget0 | exact hgetN _ rfl | assumption | exact hgetL (by assumption)) sz4 ag4 (by decide) (by simp [push_cast]) rfl ?_) <;> try simp only [push_cast, Nat.reduceAdd])
    all_goals refine AOps_cons rfl (AOp_move ?_)
    all_goals (try simp only [push_cast, Nat.reduceAdd])
    all_goals (try refine AOps_split 10 _ rfl (fun hg5 => ?_) (fun hg5 => ?_))
    all_goals (try (exfalso; (first | (cases hg5; done) | (simp at hg5; done) | (simp at hg5; omega)); done))
    all_goals (try simp only [decide_eq_true_eq, decide_eq_false_iff_not, Bool.not_eq_true', Bool.not_eq_false', Bool.not_eq_eq_eq_not, Bool.not_true, Bool.not_false] at hg5)
    all_goals first
     | refine AOps_skip rfl ?_
     | (refine AOps_cons rfl ?_
        refine AOp_fieldAddr_ptr _ _ _ _ rfl fd27_0 (by decide) ?_)
    all_goals (try simp only [push_cast, Nat.reduceAdd])
    all_goals first
     | refine AOps_skip rfl ?_
     | (refine AOps_cons rfl ?_
        refine AOp_load1_ptr _ _ _ _ _ rfl (by first | exact hget0 | exact hgetN _ rfl | assumption | exact hgetL (by assumption)) sz9 ag9 (by decide) (by simp [push_cast]) rfl ?_)
    all_goals (try simp only [push_cast, Nat.reduceAdd])
    all_goals first
     | refine AOps_skip rfl ?_
     | (refine AOps_cons rfl ?_
        refine AOp_move ?_)
    all_goals (try simp only [push_cast, Nat.reduceAdd])
    all_goals first
     | refine AOps_skip rfl ?_
     | (refine AOps_cons rfl ?_
        refine AOp_bin_str _ _ _ rfl rfl rfl ?_)
    all_goals (try simp only [push_cast, Nat.reduceAdd])
    all_goals (refine AOps_cons rfl (AOp_pick _ rfl ?_) <;> try simp only [push_cast, Nat.reduceAdd])
    all_goals refine AOps_nil ?_
    all_goals
     refine thenK_normal (hK4 _ ?_)
     try clear hK4
     apply AW_cond
     case' hc => exact rfl
     case' hf =>
      intro hc6
      try (exfalso; (first | (cases hc6; done) | (simp at hc6; done) | (simp at hc6; omega)); done)
      all_goals (try simp only [decide_eq_true_eq, decide_eq_false_iff_not, Bool.not_eq_true', Bool.not_eq_false', Bool.not_eq_eq_eq_not, Bool.not_true, Bool.not_false] at hc6)
      all_goals
       refine AW_skip ?_
     case' ht =>
      intro hc6
      try (exfalso; (first | (cases hc6; done) | (simp at hc6; done) | (simp at hc6; omega)); done)
      all_goals (try simp only [decide_eq_true_eq, decide_eq_false_iff_not, Bool.not_eq_true', Bool.not_eq_false', Bool.not_eq_eq_eq_not, Bool.not_true, Bool.not_false] at hc6)
      all_goals
       refine AW_region ?_
       all_goals (refine AOps_cons rfl (AOp_assign ?_) <;> try simp only [push_cast, Nat.reduceAdd])
       all_goals refine AOps_nil ?_
     all_goals
      refine thenK_normal (hK3 _ ?_)
      try clear hK3
      refine AW_seq_k (fun K7 hK7 => ?_)
      refine AW_seq_k (fun K8 hK8 => ?_)
      refine AW_region ?_
      all_goals (refine AOps_cons rfl (AOp_fieldAddr_ptr _ _ _ _ rfl fd27_2 (by decide) ?_) <;> try simp only [push_cast, Nat.reduceAdd])
      all_goals (refine AOps_cons rfl (AOp_load1_ptr _ _ _ _ _ rfl (by first | exact hget0 | exact hgetN _ rfl | assumption | exact hgetL (by assumption)) sz25 ag25 (by decide) (by simp [push_cast]) rfl ?_) <;> try simp only [push_cast, Nat.reduceAdd])
      all_goals (refine AOps_cons rfl (AOp_len_sl _ _ _ rfl sl25 ?_) <;> try simp only [push_cast, Nat.reduceAdd])
      all_goals (refine AOps_cons rfl (AOp_move ?_) <;> try simp only [push_cast, Nat.reduceAdd])
      all_goals refine AOps_nil ?_
      all_goals
       refine thenK_normal (hK8 _ ?_)
       try clear hK8
       refine AW_block ?_
       first
         | (have h01 : oneP v n u = 1 := (by have a : u = true := (by assumption); have b : n = v := (by assumption); simp [oneP, a, b]))
         | (have h01 : oneP v n u = 0 := (by have a : u = true := (by assumption); have b : ¬ n = v := (by assumption); simp [oneP, b]))
         | (have h01 : oneP v n u = 0 := (by have a : u = false := (by assumption); simp [oneP, a]))
       refine AW_loopR (maskG 30 [1, 3, 11, 0, 0]) (fun (i : Nat) => [(19, .int .i64 i), (5, .int .i64 (oneP v n u + ((xs.take i).map (countP v)).sum))]) (fun _ => _) (fun i => i ≤ xs.length) (fun i => xs.length - i) 0 (Nat.zero_le _) (by (simp only [push_cast, Nat.reduceAdd]; refine weak_app 1 ?_ (by simp) (by simp [push_cast]); (repeat (first | exact SlotsOk.nil | refine SlotsOk.junk ?_ | refine SlotsOk.same (by first | (simp [push_cast]; done) | (simp [push_cast, Scoped, ScopedL, *]; done)) ?_ | refine SlotsOk.tok (by first | rfl | (simp; done)) (by first | (simp [push_cast]; done) | (simp [push_cast, Scoped, ScopedL, *]; done)) ?_ | refine SlotsOk.eq (by first | rfl | (congr 1; omega) | (simp; done) | (simp; omega)) (by first | (simp [push_cast]; done) | (simp [push_cast, Scoped, ScopedL, *]; done)) ?_)))) (fun i hi => ?_)
       (try simp only [push_cast, Nat.reduceAdd])
       refine AW_seq_k (fun K9 hK9 => ?_)
       refine AW_region ?_
       all_goals (refine AOps_cons rfl (AOp_bin_int _ _ _ _ rfl rfl rfl ?_) <;> try simp only [push_cast, Nat.reduceAdd])
       all_goals refine AOps_nil ?_
       all_goals
        refine thenK_normal (hK9 _ ?_)
        try clear hK9
        refine AW_seq_k (fun K10 hK10 => ?_)
        apply AW_cond
        case' hc => exact rfl
        case' hf =>
         intro hc11
         try (exfalso; (first | (cases hc11; done) | (simp at hc11; done) | (simp at hc11; omega)); done)
         all_goals (try simp only [decide_eq_true_eq, decide_eq_false_iff_not, Bool.not_eq_true', Bool.not_eq_false', Bool.not_eq_eq_eq_not, Bool.not_true, Bool.not_false] at hc11)
         all_goals
          refine AW_exit ?_
          repeat (first | refine thenK_exit ?_ | refine loopK_exit ?_ | refine blockK_other (by decide) ?_)
          refine blockK_same ?_
          refine thenK_normal (hK7 _ ?_)
          try clear hK7
          refine AW_seq_k (fun K12 hK12 => ?_)
          refine AW_region ?_
          all_goals refine AOps_cons rfl (AOp_move ?_)
          all_goals (refine AOps_cons rfl (AOp_assign ?_) <;> try simp only [push_cast, Nat.reduceAdd])
          all_goals refine AOps_nil ?_
          all_goals
           refine thenK_normal (hK12 _ ?_)
           try clear hK12
           refine AW_ret ?_
           repeat (first | refine thenK_ret ?_ | refine loopK_ret ?_ | refine blockK_ret ?_)
           have e : xs.take i = xs := List.take_of_length_le (by omega)
           rw [e]
           refine ⟨by first | exact .inl rfl | exact .inr rfl, _, rfl, (by first | exact outok_app 0 rfl (Nat.zero_le _) (by simp) | exact outok_self), by simp [push_cast], ?_⟩
           simp only [push_cast, Nat.reduceAdd]
           simp
        case' ht =>
         intro hc11
         try (exfalso; (first | (cases hc11; done) | (simp at hc11; done) | (simp at hc11; omega)); done)
         all_goals (try simp only [decide_eq_true_eq, decide_eq_false_iff_not, Bool.not_eq_true', Bool.not_eq_false', Bool.not_eq_eq_eq_not, Bool.not_true, Bool.not_false] at hc11)
         all_goals
          refine AW_skip ?_
          refine thenK_normal (hK10 _ ?_)
          try clear hK10
          refine AW_seq_k (fun K13 hK13 => ?_)
          refine AW_block ?_
          refine AW_seq_k (fun K14 hK14 => ?_)
          refine AW_region ?_
          all_goals (refine AOps_cons rfl (AOp_indexAddr_sl 27 _ _ _ _ _ rfl rfl sl25 sz27 (by decide) (by exact uni_encTs _) (by first | omega | (simp; omega)) (by first | omega | (simp [push_cast]; omega) | (simp [push_cast]; done)) ?_) <;> try simp only [push_cast, Nat.reduceAdd])
          all_goals (refine AOps_cons rfl (AOp_load_cptr _ _ rfl sz27 ag27 (by simp [push_cast]) ?_) <;> try simp only [push_cast, Nat.reduceAdd])
          all_goals (refine AOps_cons rfl (AOp_alloc _ zr27 (by simp [ofVal, AV.isCell, Value.oneCell']) ?_) <;> try simp only [push_cast, Nat.reduceAdd])
          all_goals (refine AOps_cons rfl (AOp_store _ _ _ _ _ rfl (by first | exact hget0 | exact hgetN _ rfl | assumption | exact hgetL (by assumption)) rfl rfl (by first | exact .inl rfl | exact .inr ⟨_, rfl⟩) (by simp [push_cast, AV.isCell]) sz27 (by simp [push_cast]) ?_) <;> try simp only [push_cast, Nat.reduceAdd])
          all_goals refine AOps_nil ?_
          all_goals
           refine thenK_normal (hK14 _ ?_)
           try clear hK14
           refine AW_region ?_
           all_goals refine AOps_cons rfl (AOp_move ?_)
           all_goals (try simp only [push_cast, Nat.reduceAdd])
           all_goals (refine AOps_cons rfl (AOp_load_ptr _ _ _ _ rfl (by first | exact hget0 | exact hgetN _ rfl | assumption | exact hgetL (by assumption)) sz27 ag27 (by simp [push_cast]) ?_) <;> try simp only [push_cast, Nat.reduceAdd])
           all_goals refine AOps_cons rfl (AOp_move ?_)
           all_goals (try simp only [push_cast, Nat.reduceAdd])
           all_goals refine AOps_cons rfl (AOp_call _ _ _ rfl rfl ok58 ?_)
           all_goals (try simp only [push_cast, Nat.reduceAdd])
           all_goals have e := take_sumI (countP v) xs i (by omega)
           all_goals have hmem : xs[i]'(by omega) ∈ xs := by simp
           all_goals have hbx := Term.arg_le (n := n) (v := u) hmem
           all_goals have hb1 := hbd i (by omega)
           all_goals have hb2 := hbd (i + 1) (by omega)
           all_goals refine (ih (xs[i]'(by omega)) hmem (by omega) _).mono ?_
           all_goals rintro r H' ⟨rfl, rfl⟩
           all_goals (try simp only [push_cast, Nat.reduceAdd])
           all_goals refine AOps_cons rfl (AOp_bin_int _ _ _ _ rfl rfl rfl ?_)
           all_goals (try simp only [push_cast, Nat.reduceAdd])
           all_goals (try rw [IntWalk.i64_in _ (by omega)])
           all_goals (try simp only [push_cast, Nat.reduceAdd])
           all_goals (refine AOps_cons rfl (AOp_assign ?_) <;> try simp only [push_cast, Nat.reduceAdd])
           all_goals refine AOps_nil ?_
           all_goals
            refine blockK_normal ?_
            refine thenK_normal (hK13 _ ?_)
            try clear hK13
            refine AW_region ?_
            all_goals refine AOps_cons rfl (AOp_bin_int _ _ _ _ rfl rfl rfl ?_)
            all_goals (try simp only [push_cast, Nat.reduceAdd])
            all_goals (try rw [IntWalk.i64_in _ (by omega)])
            all_goals (try simp only [push_cast, Nat.reduceAdd])
            all_goals (refine AOps_cons rfl (AOp_move ?_) <;> try simp only [push_cast, Nat.reduceAdd])
            all_goals refine AOps_nil ?_
            all_goals
             refine loopK_normal ?_
             exact ⟨i + 1, by omega, by (simp only [push_cast, Nat.reduceAdd]; refine weak_app 1 ?_ (by simp) (by simp [push_cast]); (repeat (first | exact SlotsOk.nil | refine SlotsOk.junk ?_ | refine SlotsOk.same (by first | (simp [push_cast]; done) | (simp [push_cast, Scoped, ScopedL, *]; done)) ?_ | refine SlotsOk.tok (by first | rfl | (simp; done)) (by first | (simp [push_cast]; done) | (simp [push_cast, Scoped, ScopedL, *]; done)) ?_ | refine SlotsOk.eq (by first | rfl | (congr 1; omega) | (simp; done) | (simp; omega)) (by first | (simp [push_cast]; done) | (simp [push_cast, Scoped, ScopedL, *]; done)) ?_))), by omega⟩
end Ab
/- The reference's comparison of terms. -/
set_option maxRecDepth 10000
namespace Ab
open Go Go.Proofs
attribute [local push_cast] encT encR scoped_encR
theorem cmpI_len (a b : Nat) : (cmpI a b = 0 ↔ a = b) ∧ (¬ cmpI a b = 0 → ∀ r : Int, (if a < b then -1 else if b < a then 1 else r) = cmpI a b) := by
  unfold cmpI
  constructor
  · split
    · simp; omega
    · split
      · simp; omega
      · simp; omega
  · intro h r
    rcases Nat.lt_trichotomy a b with hl | hl | hl
    · simp [hl]
    · simp [hl] at h
    · have h2 : ¬ a < b := by omega
      simp [hl, h2]
theorem compareR_ac (s : Term) : ∀ t : Term, s.bulk ≤ 1099511627775 → t.bulk ≤ 1099511627775 → ∀ H, ACall Try.prog 59 [encT s, encT t] H (fun r H' => r = .int .i64 (cmpT s t) ∧ H' = H) := by
  refine Term.ind (p := fun s => ∀ t : Term, s.bulk ≤ 1099511627775 → t.bulk ≤ 1099511627775 → ∀ H, ACall Try.prog 59 [encT s, encT t] H (fun r H' => r = .int .i64 (cmpT s t) ∧ H' = H)) (fun n v xs ih => ?_) s
  rintro ⟨m, u, ys⟩ hb hb2 H
  have hl1 := Term.len_le (n := n) (v := v) (xs := xs)
  have hl2 := Term.len_le (n := m) (v := u) (xs := ys)
  have hn1 := Term.name_le (n := n) (v := v) (xs := xs)
  have hn2 := Term.name_le (n := m) (v := u) (xs := ys)
  have hci := cmpI_len xs.length ys.length
  have hcm : cmpT (.mk n v xs) (.mk m u ys) = cmpC n v xs.length m u ys.length (cmpTs xs ys) := rfl
  simp only [encT, Term.name, Term.var, Term.args]
  refine ACall_intro (H.length) Try.func59 rfl ?_
  simp only [Try.ntmps59, List.length_cons, List.length_nil, List.replicate, List.cons_append, List.nil_append, Nat.reduceAdd, Nat.reduceSub, Nat.zero_add]
  refine AW_seq_k (fun K1 hK1 => ?_)
  refine AW_region ?_
  all_goals (refine AOps_cons rfl (AOp_box _ _ rfl rfl (by first | exact .inl rfl | exact .inr ⟨_, rfl⟩) (by simp [push_cast, AV.isCell]) ?_) <;> try simp only [push_cast, Nat.reduceAdd])
  all_goals (refine AOps_cons rfl (AOp_box _ _ rfl rfl (by first | exact .inl rfl | exact .inr ⟨_, rfl⟩) (by simp [push_cast, AV.isCell]) ?_) <;> try simp only [push_cast, Nat.reduceAdd])
  all_goals (refine AOps_cons rfl (AOp_assign ?_) <;> try simp only [push_cast, Nat.reduceAdd])
  all_goals refine AOps_nil ?_
  all_goals
   refine thenK_normal (hK1 _ ?_)
   try clear hK1
   refine AW_seq_k (fun K2 hK2 => ?_)
   refine AW_seq_k (fun K3 hK3 => ?_)
   refine AW_region ?_
   all_goals (refine AOps_cons rfl (AOp_fieldAddr_ptr _ _ _ _ rfl fd27_1 (by decide) ?_) <;> try simp only [push_cast, Nat.reduceAdd])
   all_goals (refine AOps_cons rfl (AOp_load1_ptr _ _ _ _ _ rfl (by first | exact hget0 | exact hgetN _ rfl | assumption | exact hgetL (by assumption)) sz4 ag4 (by decide) (by simp [push_cast]) rfl ?_) <;> try simp only [push_cast, Nat.reduceAdd])
   all_goals (refine AOps_cons rfl (AOp_fieldAddr_ptr _ _ _ _ rfl fd27_1 (by decide) ?_) <;> try simp only [push_cast, Nat.reduceAdd])
   all_goals (refine AOps_cons rfl (AOp_load1_ptr _ _ _ _ _ rfl (by first | exact hget0 | exact hgetN _ rfl | assumption | exact hgetL (by assumption)) sz4 ag4 (by decide) (by simp [push_cast]) rfl ?_) <;> try simp only [push_cast, Nat.reduceAdd])
   all_goals (refine AOps_cons rfl (AOp_neq_bool _ _ rfl rfl un4 ?_) <;> try simp only [push_cast, Nat.reduceAdd])
   all_goals refine AOps_nil ?_
   all_goals
    refine thenK_normal (hK3 _ ?_)
    try clear hK3
    apply AW_cond
    case' hc => exact rfl
    case' hf =>
     intro hc4
     try (exfalso; (first | (cases hc4; done) | (simp at hc4; done) | (simp at hc4; omega)); done)
     all_goals (try simp only [decide_eq_true_eq, decide_eq_false_iff_not, Bool.not_eq_true', Bool.not_eq_false', Bool.not_eq_eq_eq_not, Bool.not_true, Bool.not_false] at hc4)
     all_goals
      refine AW_skip ?_
      refine thenK_normal (hK2 _ ?_)
      try clear hK2
      refine AW_seq_k (fun K5 hK5 => ?_)
      refine AW_seq_k (fun K6 hK6 => ?_)
      refine AW_region ?_
      all_goals (refine AOps_cons rfl (AOp_fieldAddr_ptr _ _ _ _ rfl fd27_0 (by decide) ?_) <;> try simp only [push_cast, Nat.reduceAdd])
      all_goals (refine AOps_cons rfl (AOp_load1_ptr _ _ _ _ _ rfl (by first | exact hget0 | exact hgetN _ rfl | assumption | exact hgetL (by assumption)) sz9 ag9 (by decide) (by simp [push_cast]) rfl ?_) <;> try simp only [push_cast, Nat.reduceAdd])
      all_goals (refine AOps_cons rfl (AOp_fieldAddr_ptr _ _ _ _ rfl fd27_0 (by decide) ?_) <;> try simp only [push_cast, Nat.reduceAdd])
      all_goals (refine AOps_cons rfl (AOp_load1_ptr _ _ _ _ _ rfl (by first | exact hget0 | exact hgetN _ rfl | assumption | exact hgetL (by assumption)) sz9 ag9 (by decide) (by simp [push_cast]) rfl ?_) <;> try simp only [push_cast, Nat.reduceAdd])
      all_goals refine AOps_cons rfl (AOp_call _ _ _ rfl rfl ok37 ?_)
      all_goals (try simp only [push_cast, Nat.reduceAdd])
      all_goals refine (cmpNames_ac n m (by omega) (by omega) _).mono ?_
      all_goals rintro r H' ⟨rfl, rfl⟩
      all_goals (try simp only [push_cast, Nat.reduceAdd])
      all_goals (refine AOps_cons rfl (AOp_assign ?_) <;> try simp only [push_cast, Nat.reduceAdd])
      all_goals refine AOps_nil ?_
      all_goals
       refine thenK_normal (hK6 _ ?_)
       try clear hK6
       refine AW_seq_k (fun K7 hK7 => ?_)
       refine AW_region ?_
       all_goals refine AOps_cons rfl (AOp_move ?_)
       all_goals (try simp only [push_cast, Nat.reduceAdd])
       all_goals (refine AOps_cons rfl (AOp_bin_int _ _ _ _ rfl rfl rfl ?_) <;> try simp only [push_cast, Nat.reduceAdd])
       all_goals refine AOps_nil ?_
       all_goals
        refine thenK_normal (hK7 _ ?_)
        try clear hK7
        apply AW_cond
        case' hc => exact rfl
        case' hf =>
         intro hc8
         try (exfalso; (first | (cases hc8; done) | (simp at hc8; done) | (simp at hc8; omega)); done)
         all_goals (try simp only [decide_eq_true_eq, decide_eq_false_iff_not, Bool.not_eq_true', Bool.not_eq_false', Bool.not_eq_eq_eq_not, Bool.not_true, Bool.not_false] at hc8)
         all_goals
          refine AW_skip ?_
          refine thenK_normal (hK5 _ ?_)
          try clear hK5
          refine AW_seq_k (fun K9 hK9 => ?_)
          refine AW_seq_k (fun K10 hK10 => ?_)
          refine AW_region ?_
          all_goals (refine AOps_cons rfl (AOp_fieldAddr_ptr _ _ _ _ rfl fd27_2 (by decide) ?_) <;> try simp only [push_cast, Nat.reduceAdd])
          all_goals (refine AOps_cons rfl (AOp_load1_ptr _ _ _ _ _ rfl (by first | exact hget0 | exact hgetN _ rfl | assumption | exact hgetL (by assumption)) sz25 ag25 (by decide) (by simp [push_cast]) rfl ?_) <;> try simp only [push_cast, Nat.reduceAdd])
          all_goals (refine AOps_cons rfl (AOp_len_sl _ _ _ rfl sl25 ?_) <;> try simp only [push_cast, Nat.reduceAdd])
          all_goals (refine AOps_cons rfl (AOp_fieldAddr_ptr _ _ _ _ rfl fd27_2 (by decide) ?_) <;> try simp only [push_cast, Nat.reduceAdd])
          all_goals (refine AOps_cons rfl (AOp_load1_ptr _ _ _ _ _ rfl (by first | exact hget0 | exact hgetN _ rfl | assumption | exact hgetL (by assumption)) sz25 ag25 (by decide) (by simp [push_cast]) rfl ?_) <;> try simp only [push_cast, Nat.reduceAdd])
          all_goals (refine AOps_cons rfl (AOp_len_sl _ _ _ rfl sl25 ?_) <;> try simp only [push_cast, Nat.reduceAdd])
          all_goals refine AOps_cons rfl (AOp_call _ _ _ rfl rfl ok62 ?_)
          all_goals (try simp only [push_cast, Nat.reduceAdd])
          all_goals refine (cmpInts_ac _ _ _).mono ?_
          all_goals rintro r H' ⟨rfl, rfl⟩
          all_goals (try simp only [push_cast, Nat.reduceAdd])
          all_goals (refine AOps_cons rfl (AOp_assign ?_) <;> try simp only [push_cast, Nat.reduceAdd])
          all_goals refine AOps_nil ?_
          all_goals
           refine thenK_normal (hK10 _ ?_)
           try clear hK10
           refine AW_seq_k (fun K11 hK11 => ?_)
           refine AW_region ?_
           all_goals refine AOps_cons rfl (AOp_move ?_)
           all_goals (try simp only [push_cast, Nat.reduceAdd])
           all_goals (refine AOps_cons rfl (AOp_bin_int _ _ _ _ rfl rfl rfl ?_) <;> try simp only [push_cast, Nat.reduceAdd])
           all_goals refine AOps_nil ?_
           all_goals
            refine thenK_normal (hK11 _ ?_)
            try clear hK11
            apply AW_cond
            case' hc => exact rfl
            case' hf =>
             intro hc12
             try (exfalso; (first | (cases hc12; done) | (simp at hc12; done) | (simp at hc12; omega)); done)
             all_goals (try simp only [decide_eq_true_eq, decide_eq_false_iff_not, Bool.not_eq_true', Bool.not_eq_false', Bool.not_eq_eq_eq_not, Bool.not_true, Bool.not_false] at hc12)
             all_goals
              refine AW_skip ?_
              refine thenK_normal (hK9 _ ?_)
              try clear hK9
              refine AW_seq_k (fun K13 hK13 => ?_)
              refine AW_seq_k (fun K14 hK14 => ?_)
              refine AW_region ?_
              all_goals (refine AOps_cons rfl (AOp_fieldAddr_ptr _ _ _ _ rfl fd27_2 (by decide) ?_) <;> try simp only [push_cast, Nat.reduceAdd])
              all_goals (refine AOps_cons rfl (AOp_load1_ptr _ _ _ _ _ rfl (by first | exact hget0 | exact hgetN _ rfl | assumption | exact hgetL (by assumption)) sz25 ag25 (by decide) (by simp [push_cast]) rfl ?_) <;> try simp only [push_cast, Nat.reduceAdd])
              all_goals (refine AOps_cons rfl (AOp_len_sl _ _ _ rfl sl25 ?_) <;> try simp only [push_cast, Nat.reduceAdd])
              all_goals (refine AOps_cons rfl (AOp_move ?_) <;> try simp only [push_cast, Nat.reduceAdd])
              all_goals refine AOps_nil ?_
              all_goals
               refine thenK_normal (hK14 _ ?_)
               try clear hK14
               refine AW_block ?_
               have hll : xs.length = ys.length := hci.1.1 (by assumption)
               refine AW_loopR (maskG 55 [2, 0, 32, 0]) (fun (i : Nat) => [(37, .int .i64 i)]) (fun _ => _) (fun i => i ≤ xs.length ∧ ∀ j (h1 : j < xs.length) (h2 : j < ys.length), j < i → cmpT xs[j] ys[j] = 0) (fun i => xs.length - i) 0 ⟨Nat.zero_le _, fun j h1 h2 h => by omega⟩ (by (simp only [push_cast, Nat.reduceAdd]; refine weak_app 2 ?_ (by simp) (by simp [push_cast]); (repeat (first | exact SlotsOk.nil | refine SlotsOk.junk ?_ | refine SlotsOk.same (by first | (simp [push_cast]; done) | (simp [push_cast, Scoped, ScopedL, *]; done)) ?_ | refine SlotsOk.tok (by first | rfl | (simp; done)) (by first | (simp [push_cast]; done) | (simp [push_cast, Scoped, ScopedL, *]; done)) ?_ | refine SlotsOk.eq (by first | rfl | (congr 1; omega) | (simp; done) | (simp; omega)) (by first | (simp [push_cast]; done) | (simp [push_cast, Scoped, ScopedL, *]; done)) ?_)))) (fun i hi => ?_)
               (try simp only [push_cast, Nat.reduceAdd])
               refine AW_seq_k (fun K15 hK15 => ?_)
               refine AW_region ?_
               all_goals (refine AOps_cons rfl (AOp_bin_int _ _ _ _ rfl rfl rfl ?_) <;> try simp only [push_cast, Nat.reduceAdd])
               all_goals refine AOps_nil ?_
               all_goals
                refine thenK_normal (hK15 _ ?_)
                try clear hK15
                refine AW_seq_k (fun K16 hK16 => ?_)
                apply AW_cond
                case' hc => exact rfl
                case' hf =>
                 intro hc17
                 try (exfalso; (first | (cases hc17; done) | (simp at hc17; done) | (simp at hc17; omega)); done)
                 all_goals (try simp only [decide_eq_true_eq, decide_eq_false_iff_not, Bool.not_eq_true', Bool.not_eq_false', Bool.not_eq_eq_eq_not, Bool.not_true, Bool.not_false] at hc17)
                 all_goals
                  refine AW_exit ?_
                  repeat (first | refine thenK_exit ?_ | refine loopK_exit ?_ | refine blockK_other (by decide) ?_)
                  refine blockK_same ?_
                  refine thenK_normal (hK13 _ ?_)
                  try clear hK13
                  refine AW_seq_k (fun K18 hK18 => ?_)
                  refine AW_region ?_
                  all_goals (refine AOps_cons rfl (AOp_assign ?_) <;> try simp only [push_cast, Nat.reduceAdd])
                  all_goals refine AOps_nil ?_
                  all_goals
                   refine thenK_normal (hK18 _ ?_)
                   try clear hK18
                   refine AW_ret ?_
                   repeat (first | refine thenK_ret ?_ | refine loopK_ret ?_ | refine blockK_ret ?_)
                   refine ⟨by first | exact .inl rfl | exact .inr rfl, _, rfl, (by first | exact outok_app 0 rfl (Nat.zero_le _) (by simp) | exact outok_self), by simp [push_cast], ?_⟩
                   simp only [push_cast, Nat.reduceAdd]
                   rw [hcm]
                   first
                     | (have h1 : ¬ v = u := (by simpa using (show (v == u) = false by assumption)); cases v <;> cases u <;> first | exact absurd rfl h1 | (simp [cmpC]; done) | contradiction)
                     | (have h1 : v = u := (by simpa using (show (v == u) = true by assumption)); have h2 : ¬ Lib.compareBytes n m = 0 := (by assumption); simp [cmpC, h1, h2]; done)
                     | (have h1 : v = u := (by simpa using (show (v == u) = true by assumption)); have h2 : Lib.compareBytes n m = 0 := (by assumption); have h3 : ¬ cmpI xs.length ys.length = 0 := (by assumption); have h4 := hci.2 h3 (cmpTs xs ys); simp only [cmpC, h1, h2, h4, ne_eq, not_true_eq_false, if_false]; simp; done)
                     | (have h1 : v = u := (by simpa using (show (v == u) = true by assumption)); have h2 : Lib.compareBytes n m = 0 := (by assumption)
                        have h5 : ¬ cmpT (xs[i]'(by omega)) (ys[i]'(by omega)) = 0 := (by assumption)
                        have hq : cmpTs xs ys = cmpT (xs[i]'(by omega)) (ys[i]'(by omega)) := (by rw [cmpTs_drop xs ys i hi.2 hll, List.drop_eq_getElem_cons (show i < xs.length by omega), List.drop_eq_getElem_cons (show i < ys.length by omega), cmpTs_cons, if_pos h5])
                        simp [cmpC, h1, h2, hll, hq]; done)
                     | (have h1 : v = u := (by simpa using (show (v == u) = true by assumption)); have h2 : Lib.compareBytes n m = 0 := (by assumption)
                        have hq : cmpTs xs ys = 0 := (by rw [cmpTs_drop xs ys i hi.2 hll, List.drop_eq_nil_of_le (show xs.length ≤ i by omega)]; exact cmpTs_nil _)
                        simp [cmpC, h1, h2, hll, hq]; done)
                     | fail "ret"
                case' ht =>
                 intro hc17
                 try (exfalso; (first | (cases hc17; done) | (simp at hc17; done) | (simp at hc17; omega)); done)
                 all_goals (try simp only [decide_eq_true_eq, decide_eq_false_iff_not, Bool.not_eq_true', Bool.not_eq_false', Bool.not_eq_eq_eq_not, Bool.not_true, Bool.not_false] at hc17)
                 all_goals
                  refine AW_skip ?_
                  refine thenK_normal (hK16 _ ?_)
                  try clear hK16
                  refine AW_seq_k (fun K19 hK19 => ?_)
                  refine AW_block ?_
                  refine AW_seq_k (fun K20 hK20 => ?_)
                  refine AW_region ?_
                  all_goals refine AOps_cons rfl (AOp_move ?_)
                  all_goals (refine AOps_cons rfl (AOp_assign ?_) <;> try simp only [push_cast, Nat.reduceAdd])
                  all_goals refine AOps_nil ?_
                  all_goals
                   refine thenK_normal (hK20 _ ?_)
                   try clear hK20
                   refine AW_seq_k (fun K21 hK21 => ?_)
                   apply AW_drawE [some 40, some 41, some 42, some 43, some 44, some 45, some 46, some 47, some 48, some 49, some 50, some 8] [([], _)] [none, none, none, none, none, none, none, none, none, none, none, none] 0 [(0, [], [2]), (1, [], [40]), (2, [], [7]), (3, [], [41, 0]), (4, [], [43]), (5, [], [3]), (6, [], [45]), (7, [], [7]), (8, [], [46, 0]), (9, [], [48]), (10, [], [44, 4]), (11, [], [50])] [_, _, _, _, _, _, _, _, _, _, _, _]
                   case' hm => exact dr
                   case' hn => rfl
                   case' hok => rfl
                   case' hlen => rfl
                   case' hd => rfl
                   case' h0 => rfl
                   case' hstep =>
                    simp only [DAllG, keepG, List.map_cons, List.map_nil, putD, stg, beqB, List.set_cons_zero, List.set_cons_succ, List.getD_cons_zero, List.getD_cons_succ, Option.isSome_some, Option.isSome_none]
                    apply And.intro
                    · apply DOne_do
                      case' ho => rfl
                      case' hw => rfl
                      refine AOp_fieldAddr_ptr _ _ _ _ rfl fd27_2 (by decide) ?_
                      all_goals (try simp only [push_cast, Nat.reduceAdd])
                      all_goals (constructor <;> first | rfl | trivial)
                    apply And.intro
                    · apply DOne_do
                      case' ho => rfl
                      case' hw => rfl
                      refine AOp_load1_ptr _ _ _ _ _ rfl (by first | exact hget0 | exact hgetN _ rfl | assumption | exact hgetL (by assumption)) sz25 ag25 (by decide) (by simp [push_cast]) rfl ?_
                      all_goals (try simp only [push_cast, Nat.reduceAdd])
                      all_goals (constructor <;> first | rfl | trivial)
                    apply And.intro
                    · apply DOne_do
                      case' ho => rfl
                      case' hw => rfl
                      refine AOp_move ?_
                      all_goals (try simp only [push_cast, Nat.reduceAdd])
                      all_goals (constructor <;> first | rfl | trivial)
                    apply And.intro
                    · apply DOne_do
                      case' ho => rfl
                      case' hw => rfl
                      refine AOp_indexAddr_sl 27 _ _ _ _ _ rfl rfl sl25 sz27 (by decide) (by exact uni_encTs _) (by first | omega | (simp; omega)) (by first | omega | (simp [push_cast]; omega) | (simp [push_cast]; done)) ?_
                      all_goals (try simp only [push_cast, Nat.reduceAdd])
                      all_goals (constructor <;> first | rfl | trivial)
                    apply And.intro
                    · apply DOne_do
                      case' ho => rfl
                      case' hw => rfl
                      refine AOp_load_cptr _ _ rfl sz27 ag27 (by simp [push_cast]) ?_
                      all_goals (try simp only [push_cast, Nat.reduceAdd])
                      all_goals (constructor <;> first | rfl | trivial)
                    apply And.intro
                    · apply DOne_do
                      case' ho => rfl
                      case' hw => rfl
                      refine AOp_fieldAddr_ptr _ _ _ _ rfl fd27_2 (by decide) ?_
                      all_goals (try simp only [push_cast, Nat.reduceAdd])
                      all_goals (constructor <;> first | rfl | trivial)
                    apply And.intro
                    · apply DOne_do
                      case' ho => rfl
                      case' hw => rfl
                      refine AOp_load1_ptr _ _ _ _ _ rfl (by first | exact hget0 | exact hgetN _ rfl | assumption | exact hgetL (by assumption)) sz25 ag25 (by decide) (by simp [push_cast]) rfl ?_
                      all_goals (try simp only [push_cast, Nat.reduceAdd])
                      all_goals (constructor <;> first | rfl | trivial)
                    apply And.intro
                    · apply DOne_do
                      case' ho => rfl
                      case' hw => rfl
                      refine AOp_move ?_
                      all_goals (try simp only [push_cast, Nat.reduceAdd])
                      all_goals (constructor <;> first | rfl | trivial)
                    apply And.intro
                    · apply DOne_do
                      case' ho => rfl
                      case' hw => rfl
                      refine AOp_indexAddr_sl 27 _ _ _ _ _ rfl rfl sl25 sz27 (by decide) (by exact uni_encTs _) (by first | omega | (simp; omega)) (by first | omega | (simp [push_cast]; omega) | (simp [push_cast]; done)) ?_
                      all_goals (try simp only [push_cast, Nat.reduceAdd])
                      all_goals (constructor <;> first | rfl | trivial)
                    apply And.intro
                    · apply DOne_do
                      case' ho => rfl
                      case' hw => rfl
                      refine AOp_load_cptr _ _ rfl sz27 ag27 (by simp [push_cast]) ?_
                      all_goals (try simp only [push_cast, Nat.reduceAdd])
                      all_goals (constructor <;> first | rfl | trivial)
                    apply And.intro
                    · apply DOne_do
                      case' ho => rfl
                      case' hw => rfl
                      refine AOp_call _ _ _ rfl rfl ok59 ?_
                      (try simp only [push_cast, Nat.reduceAdd])
                      have b1 := Term.arg_le (n := n) (v := v) (show xs[i]'(by omega) ∈ xs by simp)
                      have b2 := Term.arg_le (n := m) (v := u) (show ys[i]'(by omega) ∈ ys by simp)
                      refine (ih (xs[i]'(by omega)) (by simp) (ys[i]'(by omega)) (by omega) (by omega) _).mono ?_
                      rintro r H' ⟨rfl, rfl⟩
                      all_goals (try simp only [push_cast, Nat.reduceAdd])
                      all_goals (constructor <;> first | rfl | trivial)
                    apply And.intro
                    · apply DOne_do
                      case' ho => rfl
                      case' hw => rfl
                      refine AOp_assign ?_
                      all_goals (try simp only [push_cast, Nat.reduceAdd])
                      all_goals (constructor <;> first | rfl | trivial)
                    exact trivial
                   case' hQ => skip
                   (try simp only [push_cast, putD, stg, beqB, List.replicate, Nat.reduceAdd, List.getD_cons_zero, List.getD_cons_succ])
                   all_goals
                    refine thenK_normal (hK21 _ ?_)
                    try clear hK21
                    refine AW_seq_k (fun K22 hK22 => ?_)
                    refine AW_region ?_
                    all_goals refine AOps_cons rfl (AOp_move ?_)
                    all_goals (try simp only [push_cast, Nat.reduceAdd])
                    all_goals (refine AOps_cons rfl (AOp_bin_int _ _ _ _ rfl rfl rfl ?_) <;> try simp only [push_cast, Nat.reduceAdd])
                    all_goals refine AOps_nil ?_
                    all_goals
                     refine thenK_normal (hK22 _ ?_)
                     try clear hK22
                     apply AW_cond
                     case' hc => exact rfl
                     case' hf =>
                      intro hc23
                      try (exfalso; (first | (cases hc23; done) | (simp at hc23; done) | (simp at hc23; omega)); done)
                      all_goals (try simp only [decide_eq_true_eq, decide_eq_false_iff_not, Bool.not_eq_true', Bool.not_eq_false', Bool.not_eq_eq_eq_not, Bool.not_true, Bool.not_false] at hc23)
                      all_goals
                       refine AW_skip ?_
                       refine blockK_normal ?_
                       refine thenK_normal (hK19 _ ?_)
                       try clear hK19
                       refine AW_region ?_
                       all_goals refine AOps_cons rfl (AOp_bin_int _ _ _ _ rfl rfl rfl ?_)
                       all_goals (try simp only [push_cast, Nat.reduceAdd])
                       all_goals (try rw [IntWalk.i64_in _ (by omega)])
                       all_goals (try simp only [push_cast, Nat.reduceAdd])
                       all_goals (refine AOps_cons rfl (AOp_move ?_) <;> try simp only [push_cast, Nat.reduceAdd])
                       all_goals refine AOps_nil ?_
                       all_goals
                        refine loopK_normal ?_
                        refine ⟨i + 1, ⟨by omega, fun j h1 h2 h => ?_⟩, by (simp only [push_cast, Nat.reduceAdd]; refine weak_app 2 ?_ (by simp) (by simp [push_cast]); (repeat (first | exact SlotsOk.nil | refine SlotsOk.junk ?_ | refine SlotsOk.same (by first | (simp [push_cast]; done) | (simp [push_cast, Scoped, ScopedL, *]; done)) ?_ | refine SlotsOk.tok (by first | rfl | (simp; done)) (by first | (simp [push_cast]; done) | (simp [push_cast, Scoped, ScopedL, *]; done)) ?_ | refine SlotsOk.eq (by first | rfl | (congr 1; omega) | (simp; done) | (simp; omega)) (by first | (simp [push_cast]; done) | (simp [push_cast, Scoped, ScopedL, *]; done)) ?_))), by omega⟩
                        rcases Nat.lt_or_ge j i with hj | hj
                        · exact hi.2 j h1 h2 hj
                        · have hji : j = i := by omega
                          subst hji; assumption
                     case' ht =>
                      intro hc23
                      try (exfalso; (first | (cases hc23; done) | (simp at hc23; done) | (simp at hc23; omega)); done)
                      all_goals (try simp only [decide_eq_true_eq, decide_eq_false_iff_not, Bool.not_eq_true', Bool.not_eq_false', Bool.not_eq_eq_eq_not, Bool.not_true, Bool.not_false] at hc23)
                      all_goals
                       refine AW_seq_k (fun K24 hK24 => ?_)
                       refine AW_region ?_
                       all_goals refine AOps_cons rfl (AOp_move ?_)
                       all_goals (refine AOps_cons rfl (AOp_assign ?_) <;> try simp only [push_cast, Nat.reduceAdd])
                       all_goals refine AOps_nil ?_
                       all_goals
                        refine thenK_normal (hK24 _ ?_)
                        try clear hK24
                        refine AW_ret ?_
                        repeat (first | refine thenK_ret ?_ | refine loopK_ret ?_ | refine blockK_ret ?_)
                        refine ⟨by first | exact .inl rfl | exact .inr rfl, _, rfl, (by first | exact outok_app 0 rfl (Nat.zero_le _) (by simp) | exact outok_self), by simp [push_cast], ?_⟩
                        simp only [push_cast, Nat.reduceAdd]
                        rw [hcm]
                        first
                          | (have h1 : ¬ v = u := (by simpa using (show (v == u) = false by assumption)); cases v <;> cases u <;> first | exact absurd rfl h1 | (simp [cmpC]; done) | contradiction)
                          | (have h1 : v = u := (by simpa using (show (v == u) = true by assumption)); have h2 : ¬ Lib.compareBytes n m = 0 := (by assumption); simp [cmpC, h1, h2]; done)
                          | (have h1 : v = u := (by simpa using (show (v == u) = true by assumption)); have h2 : Lib.compareBytes n m = 0 := (by assumption); have h3 : ¬ cmpI xs.length ys.length = 0 := (by assumption); have h4 := hci.2 h3 (cmpTs xs ys); simp only [cmpC, h1, h2, h4, ne_eq, not_true_eq_false, if_false]; simp; done)
                          | (have h1 : v = u := (by simpa using (show (v == u) = true by assumption)); have h2 : Lib.compareBytes n m = 0 := (by assumption)
                             have h5 : ¬ cmpT (xs[i]'(by omega)) (ys[i]'(by omega)) = 0 := (by assumption)
                             have hq : cmpTs xs ys = cmpT (xs[i]'(by omega)) (ys[i]'(by omega)) := (by rw [cmpTs_drop xs ys i hi.2 hll, List.drop_eq_getElem_cons (show i < xs.length by omega), List.drop_eq_getElem_cons (show i < ys.length by omega), cmpTs_cons, if_pos h5])
                             simp [cmpC, h1, h2, hll, hq]; done)
                          | (have h1 : v = u := (by simpa using (show (v == u) = true by assumption)); have h2 : Lib.compareBytes n m = 0 := (by assumption)
                             have hq : cmpTs xs ys = 0 := (by rw [cmpTs_drop xs ys i hi.2 hll, List.drop_eq_nil_of_le (show xs.length ≤ i by omega)]; exact cmpTs_nil _)
                             simp [cmpC, h1, h2, hll, hq]; done)
                          | fail "ret"
            case' ht =>
             intro hc12
             try (exfalso; (first | (cases hc12; done) | (simp at hc12; done) | (simp at hc12; omega)); done)
             all_goals (try simp only [decide_eq_true_eq, decide_eq_false_iff_not, Bool.not_eq_true', Bool.not_eq_false', Bool.not_eq_eq_eq_not, Bool.not_true, Bool.not_false] at hc12)
             all_goals
              refine AW_seq_k (fun K25 hK25 => ?_)
              refine AW_region ?_
              all_goals refine AOps_cons rfl (AOp_move ?_)
              all_goals (refine AOps_cons rfl (AOp_assign ?_) <;> try simp only [push_cast, Nat.reduceAdd])
              all_goals refine AOps_nil ?_
              all_goals
               refine thenK_normal (hK25 _ ?_)
               try clear hK25
               refine AW_ret ?_
               repeat (first | refine thenK_ret ?_ | refine loopK_ret ?_ | refine blockK_ret ?_)
               refine ⟨by first | exact .inl rfl | exact .inr rfl, _, rfl, (by first | exact outok_app 0 rfl (Nat.zero_le _) (by simp) | exact outok_self), by simp [push_cast], ?_⟩
               simp only [push_cast, Nat.reduceAdd]
               rw [hcm]
               first
                 | (have h1 : ¬ v = u := (by simpa using (show (v == u) = false by assumption)); cases v <;> cases u <;> first | exact absurd rfl h1 | (simp [cmpC]; done) | contradiction)
                 | (have h1 : v = u := (by simpa using (show (v == u) = true by assumption)); have h2 : ¬ Lib.compareBytes n m = 0 := (by assumption); simp [cmpC, h1, h2]; done)
                 | (have h1 : v = u := (by simpa using (show (v == u) = true by assumption)); have h2 : Lib.compareBytes n m = 0 := (by assumption); have h3 : ¬ cmpI xs.length ys.length = 0 := (by assumption); have h4 := hci.2 h3 (cmpTs xs ys); simp only [cmpC, h1, h2, h4, ne_eq, not_true_eq_false, if_false]; simp; done)
                 | (have h1 : v = u := (by simpa using (show (v == u) = true by assumption)); have h2 : Lib.compareBytes n m = 0 := (by assumption)
                    have h5 : ¬ cmpT (xs[i]'(by omega)) (ys[i]'(by omega)) = 0 := (by assumption)
                    have hq : cmpTs xs ys = cmpT (xs[i]'(by omega)) (ys[i]'(by omega)) := (by rw [cmpTs_drop xs ys i hi.2 hll, List.drop_eq_getElem_cons (show i < xs.length by omega), List.drop_eq_getElem_cons (show i < ys.length by omega), cmpTs_cons, if_pos h5])
                    simp [cmpC, h1, h2, hll, hq]; done)
                 | (have h1 : v = u := (by simpa using (show (v == u) = true by assumption)); have h2 : Lib.compareBytes n m = 0 := (by assumption)
                    have hq : cmpTs xs ys = 0 := (by rw [cmpTs_drop xs ys i hi.2 hll, List.drop_eq_nil_of_le (show xs.length ≤ i by omega)]; exact cmpTs_nil _)
                    simp [cmpC, h1, h2, hll, hq]; done)
                 | fail "ret"
        case' ht =>
         intro hc8
         try (exfalso; (first | (cases hc8; done) | (simp at hc8; done) | (simp at hc8; omega)); done)
         all_goals (try simp only [decide_eq_true_eq, decide_eq_false_iff_not, Bool.not_eq_true', Bool.not_eq_false', Bool.not_eq_eq_eq_not, Bool.not_true, Bool.not_false] at hc8)
         all_goals
          refine AW_seq_k (fun K26 hK26 => ?_)
          refine AW_region ?_
          all_goals refine AOps_cons rfl (AOp_move ?_)
          all_goals (refine AOps_cons rfl (AOp_assign ?_) <;> try simp only [push_cast, Nat.reduceAdd])
          all_goals refine AOps_nil ?_
          all_goals
           refine thenK_normal (hK26 _ ?_)
           try clear hK26
           refine AW_ret ?_
           repeat (first | refine thenK_ret ?_ | refine loopK_ret ?_ | refine blockK_ret ?_)
           refine ⟨by first | exact .inl rfl | exact .inr rfl, _, rfl, (by first | exact outok_app 0 rfl (Nat.zero_le _) (by simp) | exact outok_self), by simp [push_cast], ?_⟩
           simp only [push_cast, Nat.reduceAdd]
           rw [hcm]
           first
             | (have h1 : ¬ v = u := (by simpa using (show (v == u) = false by assumption)); cases v <;> cases u <;> first | exact absurd rfl h1 | (simp [cmpC]; done) | contradiction)
             | (have h1 : v = u := (by simpa using (show (v == u) = true by assumption)); have h2 : ¬ Lib.compareBytes n m = 0 := (by assumption); simp [cmpC, h1, h2]; done)
             | (have h1 : v = u := (by simpa using (show (v == u) = true by assumption)); have h2 : Lib.compareBytes n m = 0 := (by assumption); have h3 : ¬ cmpI xs.length ys.length = 0 := (by assumption); have h4 := hci.2 h3 (cmpTs xs ys); simp only [cmpC, h1, h2, h4, ne_eq, not_true_eq_false, if_false]; simp; done)
             | (have h1 : v = u := (by simpa using (show (v == u) = true by assumption)); have h2 : Lib.compareBytes n m = 0 := (by assumption)
                have h5 : ¬ cmpT (xs[i]'(by omega)) (ys[i]'(by omega)) = 0 := (by assumption)
                have hq : cmpTs xs ys = cmpT (xs[i]'(by omega)) (ys[i]'(by omega)) := (by rw [cmpTs_drop xs ys i hi.2 hll, List.drop_eq_getElem_cons (show i < xs.length by omega), List.drop_eq_getElem_cons (show i < ys.length by omega), cmpTs_cons, if_pos h5])
                simp [cmpC, h1, h2, hll, hq]; done)
             | (have h1 : v = u := (by simpa using (show (v == u) = true by assumption)); have h2 : Lib.compareBytes n m = 0 := (by assumption)
                have hq : cmpTs xs ys = 0 := (by rw [cmpTs_drop xs ys i hi.2 hll, List.drop_eq_nil_of_le (show xs.length ≤ i by omega)]; exact cmpTs_nil _)
                simp [cmpC, h1, h2, hll, hq]; done)
             | fail "ret"
    case' ht =>
     intro hc4
     try (exfalso; (first | (cases hc4; done) | (simp at hc4; done) | (simp at hc4; omega)); done)
     all_goals (try simp only [decide_eq_true_eq, decide_eq_false_iff_not, Bool.not_eq_true', Bool.not_eq_false', Bool.not_eq_eq_eq_not, Bool.not_true, Bool.not_false] at hc4)
     all_goals
      refine AW_seq_k (fun K27 hK27 => ?_)
      refine AW_seq_k (fun K28 hK28 => ?_)
      refine AW_region ?_
      all_goals (refine AOps_cons rfl (AOp_fieldAddr_ptr _ _ _ _ rfl fd27_1 (by decide) ?_) <;> try simp only [push_cast, Nat.reduceAdd])
      all_goals (refine AOps_cons rfl (AOp_load1_ptr _ _ _ _ _ rfl (by first | exact hget0 | exact hgetN _ rfl | assumption | exact hgetL (by assumption)) sz4 ag4 (by decide) (by simp [push_cast]) rfl ?_) <;> try simp only [push_cast, Nat.reduceAdd])
      all_goals refine AOps_nil ?_
      all_goals
       refine thenK_normal (hK28 _ ?_)
       try clear hK28
       apply AW_cond
       case' hc => exact rfl
       case' hf =>
        intro hc29
        try (exfalso; (first | (cases hc29; done) | (simp at hc29; done) | (simp at hc29; omega)); done)
        all_goals (try simp only [decide_eq_true_eq, decide_eq_false_iff_not, Bool.not_eq_true', Bool.not_eq_false', Bool.not_eq_eq_eq_not, Bool.not_true, Bool.not_false] at hc29)
        all_goals
         refine AW_skip ?_
         refine thenK_normal (hK27 _ ?_)
         try clear hK27
         refine AW_seq_k (fun K30 hK30 => ?_)
         refine AW_region ?_
         all_goals (refine AOps_cons rfl (AOp_assign ?_) <;> try simp only [push_cast, Nat.reduceAdd])
         all_goals refine AOps_nil ?_
         all_goals
          refine thenK_normal (hK30 _ ?_)
          try clear hK30
          refine AW_ret ?_
          repeat (first | refine thenK_ret ?_ | refine loopK_ret ?_ | refine blockK_ret ?_)
          refine ⟨by first | exact .inl rfl | exact .inr rfl, _, rfl, (by first | exact outok_app 0 rfl (Nat.zero_le _) (by simp) | exact outok_self), by simp [push_cast], ?_⟩
          simp only [push_cast, Nat.reduceAdd]
          rw [hcm]
          first
            | (have h1 : ¬ v = u := (by simpa using (show (v == u) = false by assumption)); cases v <;> cases u <;> first | exact absurd rfl h1 | (simp [cmpC]; done) | contradiction)
            | (have h1 : v = u := (by simpa using (show (v == u) = true by assumption)); have h2 : ¬ Lib.compareBytes n m = 0 := (by assumption); simp [cmpC, h1, h2]; done)
            | (have h1 : v = u := (by simpa using (show (v == u) = true by assumption)); have h2 : Lib.compareBytes n m = 0 := (by assumption); have h3 : ¬ cmpI xs.length ys.length = 0 := (by assumption); have h4 := hci.2 h3 (cmpTs xs ys); simp only [cmpC, h1, h2, h4, ne_eq, not_true_eq_false, if_false]; simp; done)
            | (have h1 : v = u := (by simpa using (show (v == u) = true by assumption)); have h2 : Lib.compareBytes n m = 0 := (by assumption)
               have h5 : ¬ cmpT (xs[i]'(by omega)) (ys[i]'(by omega)) = 0 := (by assumption)
               have hq : cmpTs xs ys = cmpT (xs[i]'(by omega)) (ys[i]'(by omega)) := (by rw [cmpTs_drop xs ys i hi.2 hll, List.drop_eq_getElem_cons (show i < xs.length by omega), List.drop_eq_getElem_cons (show i < ys.length by omega), cmpTs_cons, if_pos h5])
               simp [cmpC, h1, h2, hll, hq]; done)
            | (have h1 : v = u := (by simpa using (show (v == u) = true by assumption)); have h2 : Lib.compareBytes n m = 0 := (by assumption)
               have hq : cmpTs xs ys = 0 := (by rw [cmpTs_drop xs ys i hi.2 hll, List.drop_eq_nil_of_le (show xs.length ≤ i by omega)]; exact cmpTs_nil _)
               simp [cmpC, h1, h2, hll, hq]; done)
            | fail "ret"
       case' ht =>
        intro hc29
        try (exfalso; (first | (cases hc29; done) | (simp at hc29; done) | (simp at hc29; omega)); done)
        all_goals (try simp only [decide_eq_true_eq, decide_eq_false_iff_not, Bool.not_eq_true', Bool.not_eq_false', Bool.not_eq_eq_eq_not, Bool.not_true, Bool.not_false] at hc29)
        all_goals
         refine AW_seq_k (fun K31 hK31 => ?_)
         refine AW_region ?_
         all_goals (refine AOps_cons rfl (AOp_assign ?_) <;> try simp only [push_cast, Nat.reduceAdd])
         all_goals refine AOps_nil ?_
         all_goals
          refine thenK_normal (hK31 _ ?_)
          try clear hK31
          refine AW_ret ?_
          repeat (first | refine thenK_ret ?_ | refine loopK_ret ?_ | refine blockK_ret ?_)
          refine ⟨by first | exact .inl rfl | exact .inr rfl, _, rfl, (by first | exact outok_app 0 rfl (Nat.zero_le _) (by simp) | exact outok_self), by simp [push_cast], ?_⟩
          simp only [push_cast, Nat.reduceAdd]
          rw [hcm]
          first
            | (have h1 : ¬ v = u := (by simpa using (show (v == u) = false by assumption)); cases v <;> cases u <;> first | exact absurd rfl h1 | (simp [cmpC]; done) | contradiction)
            | (have h1 : v = u := (by simpa using (show (v == u) = true by assumption)); have h2 : ¬ Lib.compareBytes n m = 0 := (by assumption); simp [cmpC, h1, h2]; done)
            | (have h1 : v = u := (by simpa using (show (v == u) = true by assumption)); have h2 : Lib.compareBytes n m = 0 := (by assumption); have h3 : ¬ cmpI xs.length ys.length = 0 := (by assumption); have h4 := hci.2 h3 (cmpTs xs ys); simp only [cmpC, h1, h2, h4, ne_eq, not_true_eq_false, if_false]; simp; done)
            | (have h1 : v = u := (by simpa using (show (v == u) = true by assumption)); have h2 : Lib.compareBytes n m = 0 := (by assumption)
               have h5 : ¬ cmpT (xs[i]'(by omega)) (ys[i]'(by omega)) = 0 := (by assumption)
               have hq : cmpTs xs ys = cmpT (xs[i]'(by omega)) (ys[i]'(by omega)) := (by rw [cmpTs_drop xs ys i hi.2 hll, List.drop_eq_getElem_cons (show i < xs.length by omega), List.drop_eq_getElem_cons (show i < ys.length by omega), cmpTs_cons, if_pos h5])
               simp [cmpC, h1, h2, hll, hq]; done)
            | (have h1 : v = u := (by simpa using (show (v == u) = true by assumption)); have h2 : Lib.compareBytes n m = 0 := (by assumption)
               have hq : cmpTs xs ys = 0 := (by rw [cmpTs_drop xs ys i hi.2 hll, List.drop_eq_nil_of_le (show xs.length ≤ i by omega)]; exact cmpTs_nil _)
               simp [cmpC, h1, h2, hll, hq]; done)
            | fail "ret"
theorem equalR_ac (s t : Term) (h1 : s.bulk ≤ 1099511627775) (h2 : t.bulk ≤ 1099511627775) (H : List AObj) : ACall Try.prog 35 [encT s, encT t] H (fun r H' => r = .bool (decide (s = t)) ∧ H' = H) := by
  have he := cmpT_iff s t
  refine ACall_intro (H.length) Try.func35 rfl ?_
  simp only [Try.ntmps35, List.length_cons, List.length_nil, List.replicate, List.cons_append, List.nil_append, Nat.reduceAdd, Nat.reduceSub, Nat.zero_add]
  refine AW_seq_k (fun K32 hK32 => ?_)
  refine AW_region ?_
  all_goals (refine AOps_cons rfl (AOp_box _ _ rfl rfl (by first | exact .inl rfl | exact .inr ⟨_, rfl⟩) (by simp [push_cast, AV.isCell]) ?_) <;> try simp only [push_cast, Nat.reduceAdd])
  all_goals (refine AOps_cons rfl (AOp_box _ _ rfl rfl (by first | exact .inl rfl | exact .inr ⟨_, rfl⟩) (by simp [push_cast, AV.isCell]) ?_) <;> try simp only [push_cast, Nat.reduceAdd])
  all_goals (refine AOps_cons rfl (AOp_assign ?_) <;> try simp only [push_cast, Nat.reduceAdd])
  all_goals refine AOps_nil ?_
  all_goals
   refine thenK_normal (hK32 _ ?_)
   try clear hK32
   refine AW_seq_k (fun K33 hK33 => ?_)
   refine AW_region ?_
   all_goals (refine AOps_cons rfl (AOp_load_ptr _ _ _ _ rfl (by first | exact hget0 | exact hgetN _ rfl | assumption | exact hgetL (by assumption)) sz27 ag27 (by simp [push_cast]) ?_) <;> try simp only [push_cast, Nat.reduceAdd])
   all_goals (refine AOps_cons rfl (AOp_load_ptr _ _ _ _ rfl (by first | exact hget0 | exact hgetN _ rfl | assumption | exact hgetL (by assumption)) sz27 ag27 (by simp [push_cast]) ?_) <;> try simp only [push_cast, Nat.reduceAdd])
   all_goals refine AOps_cons rfl (AOp_call _ _ _ rfl rfl ok59 ?_)
   all_goals (try simp only [push_cast, Nat.reduceAdd])
   all_goals refine (compareR_ac s t h1 h2 _).mono ?_
   all_goals rintro r H' ⟨rfl, rfl⟩
   all_goals (try simp only [push_cast, Nat.reduceAdd])
   all_goals (refine AOps_cons rfl (AOp_bin_int _ _ _ _ rfl rfl rfl ?_) <;> try simp only [push_cast, Nat.reduceAdd])
   all_goals (refine AOps_cons rfl (AOp_assign ?_) <;> try simp only [push_cast, Nat.reduceAdd])
   all_goals refine AOps_nil ?_
   all_goals
    refine thenK_normal (hK33 _ ?_)
    try clear hK33
    refine AW_ret ?_
    repeat (first | refine thenK_ret ?_ | refine loopK_ret ?_ | refine blockK_ret ?_)
    refine ⟨by first | exact .inl rfl | exact .inr rfl, _, rfl, (by first | exact outok_app 0 rfl (Nat.zero_le _) (by simp) | exact outok_self), by simp [push_cast], ?_⟩
    simp only [push_cast, Nat.reduceAdd]
    simp only [he]; simp
end Ab
