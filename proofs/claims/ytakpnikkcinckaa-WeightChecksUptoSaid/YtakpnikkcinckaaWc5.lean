/- Part 5 of 5 of a proof. What is proved: the law WeightChecks returns true and leaves its arguments as they were, for every input of bulk at most 1048576. -/
import Derived.Test.YtakpnikkcinckaaWc4
import Derived.Carry
import Derived.OpenShut
import Derived.JoinedCond
import Derived.Test.YtakpnikkcinckaaRows
import Derived.WalkKit
import Derived.ProofKit
import Derived.KernelRfl
set_option linter.unusedVariables false
set_option linter.unusedSimpArgs false
set_option maxRecDepth 10000
namespace Ab
open Go Go.Proofs
attribute [local push_cast] encT encR scoped_encR encS scoped_encS
theorem symsC1_ac (f : Sym) (hn : f.name.length < 1099511627776) (H : List AObj) : ACall Try.prog 63 [encS f] H (fun r H' => r = .bool (!isNameP f.name true) ∧ H' = H) := by
  refine ACall_intro (H.length) Try.func63 rfl ?_
  simp only [Try.ntmps63, List.length_cons, List.length_nil, List.replicate, List.cons_append, List.nil_append, Nat.reduceAdd, Nat.reduceSub, Nat.zero_add]
  refine AW_seq_k (fun K1 hK1 => ?_)
  refine AW_region ?_
  all_goals (refine AOps_cons rfl (AOp_box _ _ rfl rfl (by first | exact .inl rfl | exact .inr ⟨_, rfl⟩) (by simp [push_cast, AV.isCell]) ?_) <;> try simp only [push_cast, Nat.reduceAdd])
  all_goals (refine AOps_cons rfl (AOp_assign ?_) <;> try simp only [push_cast, Nat.reduceAdd])
  all_goals refine AOps_nil ?_
  all_goals
   refine thenK_normal (hK1 _ ?_)
   try clear hK1
   refine AW_seq_k (fun K2 hK2 => ?_)
   refine AW_region ?_
   all_goals (refine AOps_cons rfl (AOp_fieldAddr_ptr _ _ _ _ rfl fd65_0 (by decide) ?_) <;> try simp only [push_cast, Nat.reduceAdd])
   all_goals (refine AOps_cons rfl (AOp_load1_ptr _ _ _ _ _ rfl (by first | exact hget0 | exact hgetN _ rfl | assumption | exact hgetL (by assumption)) sz9 ag9 (by decide) (by simp [push_cast]) rfl ?_) <;> try simp only [push_cast, Nat.reduceAdd])
   all_goals refine AOps_cons rfl (AOp_call _ _ _ rfl rfl ok64 ?_)
   all_goals (try simp only [push_cast, Nat.reduceAdd])
   all_goals refine (isName_ac _ _ _ hn).mono ?_
   all_goals rintro r H' ⟨rfl, rfl⟩
   all_goals (try simp only [push_cast, Nat.reduceAdd])
   all_goals (refine AOps_cons rfl (AOp_not _ rfl ?_) <;> try simp only [push_cast, Nat.reduceAdd])
   all_goals (refine AOps_cons rfl (AOp_assign ?_) <;> try simp only [push_cast, Nat.reduceAdd])
   all_goals refine AOps_nil ?_
   all_goals
    refine thenK_normal (hK2 _ ?_)
    try clear hK2
    refine AW_ret ?_
    repeat (first | refine thenK_ret ?_ | refine loopK_ret ?_ | refine blockK_ret ?_)
    refine ⟨by first | exact .inl rfl | exact .inr rfl, _, rfl, (by first | exact outok_app 0 rfl (Nat.zero_le _) (by simp) | exact outok_self), by simp [push_cast], ?_⟩
    simp only [push_cast, Nat.reduceAdd]
    (first | (simp; done) | (simp; omega) | omega)
theorem symsC2_ac (f : Sym) (H : List AObj) : ACall Try.prog 65 [encS f] H (fun r H' => r = .bool (decide (f.arity < 0) || decide (8 < f.arity)) ∧ H' = H) := by
  refine ACall_intro (H.length) Try.func65 rfl ?_
  simp only [Try.ntmps65, List.length_cons, List.length_nil, List.replicate, List.cons_append, List.nil_append, Nat.reduceAdd, Nat.reduceSub, Nat.zero_add]
  refine AW_seq_k (fun K3 hK3 => ?_)
  refine AW_region ?_
  all_goals (refine AOps_cons rfl (AOp_box _ _ rfl rfl (by first | exact .inl rfl | exact .inr ⟨_, rfl⟩) (by simp [push_cast, AV.isCell]) ?_) <;> try simp only [push_cast, Nat.reduceAdd])
  all_goals (refine AOps_cons rfl (AOp_assign ?_) <;> try simp only [push_cast, Nat.reduceAdd])
  all_goals refine AOps_nil ?_
  all_goals
   refine thenK_normal (hK3 _ ?_)
   try clear hK3
   refine AW_seq_k (fun K4 hK4 => ?_)
   refine AW_region ?_
   all_goals (refine AOps_cons rfl (AOp_fieldAddr_ptr _ _ _ _ rfl fd65_1 (by decide) ?_) <;> try simp only [push_cast, Nat.reduceAdd])
   all_goals (refine AOps_cons rfl (AOp_load1_ptr _ _ _ _ _ rfl (by first | exact hget0 | exact hgetN _ rfl | assumption | exact hgetL (by assumption)) sz3 ag3 (by decide) (by simp [push_cast]) rfl ?_) <;> try simp only [push_cast, Nat.reduceAdd])
   all_goals (refine AOps_cons rfl (AOp_bin_int _ _ _ _ rfl rfl rfl ?_) <;> try simp only [push_cast, Nat.reduceAdd])
   all_goals refine AOps_cons rfl (AOp_move ?_)
   all_goals (try simp only [push_cast, Nat.reduceAdd])
   all_goals (try refine AOps_split 6 _ rfl (fun hg5 => ?_) (fun hg5 => ?_))
   all_goals (try (exfalso; (first | (cases hg5; done) | (simp at hg5; done) | (simp at hg5; omega)); done))
   all_goals (try simp only [decide_eq_true_eq, decide_eq_false_iff_not, Bool.not_eq_true', Bool.not_eq_false', Bool.not_eq_eq_eq_not, Bool.not_true, Bool.not_false] at hg5)
   all_goals first
    | refine AOps_skip rfl ?_
    | (refine AOps_cons rfl ?_
       refine AOp_fieldAddr_ptr _ _ _ _ rfl fd65_1 (by decide) ?_)
   all_goals (try simp only [push_cast, Nat.reduceAdd])
   all_goals first
    | refine AOps_skip rfl ?_
    | (refine AOps_cons rfl ?_
       refine AOp_load1_ptr _ _ _ _ _ rfl (by first | exact hget0 | exact hgetN _ rfl | assumption | exact hgetL (by assumption)) sz3 ag3 (by decide) (by simp [push_cast]) rfl ?_)
   all_goals (try simp only [push_cast, Nat.reduceAdd])
   all_goals first
    | refine AOps_skip rfl ?_
    | (refine AOps_cons rfl ?_
       refine AOp_bin_int _ _ _ _ rfl rfl rfl ?_)
   all_goals (try simp only [push_cast, Nat.reduceAdd])
   all_goals refine AOps_cons rfl (AOp_pick _ rfl ?_)
   all_goals (refine AOps_cons rfl (AOp_assign ?_) <;> try simp only [push_cast, Nat.reduceAdd])
   all_goals refine AOps_nil ?_
   all_goals
    refine thenK_normal (hK4 _ ?_)
    try clear hK4
    refine AW_ret ?_
    repeat (first | refine thenK_ret ?_ | refine loopK_ret ?_ | refine blockK_ret ?_)
    refine ⟨by first | exact .inl rfl | exact .inr rfl, _, rfl, (by first | exact outok_app 0 rfl (Nat.zero_le _) (by simp) | exact outok_self), by simp [push_cast], ?_⟩
    simp only [push_cast, Nat.reduceAdd]
    first
      | (have h1 : f.arity < 0 := (by assumption); simp [h1]; done)
      | (have h1 : ¬ f.arity < 0 := (by assumption); simp [h1]; done)
def symsCheck (ss : List Sym) : Int := if ss.any (fun f => !isNameP f.name true) then 4 else if ss.any (fun f => decide (f.arity < 0) || decide (8 < f.arity)) then 2 else 0
theorem pathSymbols_ac (ss : List Sym) (hlen : ss.length < 1099511627776) (hn : ∀ f, f ∈ ss → f.name.length < 1099511627776) (H : List AObj) : ACall Try.prog 43 [.sl .none (encL encS ss)] H (fun r H' => r = .int .i64 (symsCheck ss) ∧ H' = H) := by
  refine ACall_intro (H.length) Try.func43 rfl ?_
  simp only [Try.ntmps43, List.length_cons, List.length_nil, List.replicate, List.cons_append, List.nil_append, Nat.reduceAdd, Nat.reduceSub, Nat.zero_add]
  refine AW_seq_k (fun K6 hK6 => ?_)
  refine AW_region ?_
  all_goals (refine AOps_cons rfl (AOp_assign ?_) <;> try simp only [push_cast, Nat.reduceAdd])
  all_goals refine AOps_nil ?_
  all_goals
   refine thenK_normal (hK6 _ ?_)
   try clear hK6
   refine AW_seq_k (fun K7 hK7 => ?_)
   refine AW_block ?_
   refine AW_seq_k (fun K8 hK8 => ?_)
   refine AW_region ?_
   all_goals refine AOps_cons rfl (AOp_move ?_)
   all_goals (try simp only [push_cast, Nat.reduceAdd])
   all_goals refine AOps_cons rfl (AOp_call _ _ _ rfl rfl ok52 ?_)
   all_goals (try simp only [push_cast, Nat.reduceAdd])
   all_goals refine (containsS_ac ss 63 [] (fun f => !isNameP f.name true) _ hlen ok63 (by simp [ScopedL]) (fun i h X => symsC1_ac _ (hn _ (by simp)) _)).mono ?_
   all_goals rintro r H' ⟨rfl, rfl⟩
   all_goals (try simp only [push_cast, Nat.reduceAdd])
   all_goals (refine AOps_cons rfl (AOp_assign ?_) <;> try simp only [push_cast, Nat.reduceAdd])
   all_goals refine AOps_nil ?_
   all_goals
    refine thenK_normal (hK8 _ ?_)
    try clear hK8
    apply AW_cond
    case' hc => exact rfl
    case' hf =>
     intro hc9
     try (exfalso; (first | (cases hc9; done) | (simp at hc9; done) | (simp at hc9; omega)); done)
     all_goals (try simp only [decide_eq_true_eq, decide_eq_false_iff_not, Bool.not_eq_true', Bool.not_eq_false', Bool.not_eq_eq_eq_not, Bool.not_true, Bool.not_false] at hc9)
     all_goals
      refine AW_seq_k (fun K10 hK10 => ?_)
      refine AW_region ?_
      all_goals refine AOps_cons rfl (AOp_move ?_)
      all_goals (try simp only [push_cast, Nat.reduceAdd])
      all_goals refine AOps_cons rfl (AOp_call _ _ _ rfl rfl ok52 ?_)
      all_goals (try simp only [push_cast, Nat.reduceAdd])
      all_goals refine (containsS_ac ss 65 [] (fun f => decide (f.arity < 0) || decide (8 < f.arity)) _ hlen ok65 (by simp [ScopedL]) (fun i h X => symsC2_ac _ _)).mono ?_
      all_goals rintro r H' ⟨rfl, rfl⟩
      all_goals (try simp only [push_cast, Nat.reduceAdd])
      all_goals (refine AOps_cons rfl (AOp_assign ?_) <;> try simp only [push_cast, Nat.reduceAdd])
      all_goals refine AOps_nil ?_
      all_goals
       refine thenK_normal (hK10 _ ?_)
       try clear hK10
       apply AW_cond
       case' hc => exact rfl
       case' hf =>
        intro hc11
        try (exfalso; (first | (cases hc11; done) | (simp at hc11; done) | (simp at hc11; omega)); done)
        all_goals (try simp only [decide_eq_true_eq, decide_eq_false_iff_not, Bool.not_eq_true', Bool.not_eq_false', Bool.not_eq_eq_eq_not, Bool.not_true, Bool.not_false] at hc11)
        all_goals
         refine AW_skip ?_
         refine blockK_normal ?_
         refine thenK_normal (hK7 _ ?_)
         try clear hK7
         refine AW_seq_k (fun K12 hK12 => ?_)
         refine AW_region ?_
         all_goals (refine AOps_cons rfl (AOp_assign ?_) <;> try simp only [push_cast, Nat.reduceAdd])
         all_goals refine AOps_nil ?_
         all_goals
          refine thenK_normal (hK12 _ ?_)
          try clear hK12
          refine AW_ret ?_
          repeat (first | refine thenK_ret ?_ | refine loopK_ret ?_ | refine blockK_ret ?_)
          refine ⟨by first | exact .inl rfl | exact .inr rfl, _, rfl, (by first | exact outok_app 0 rfl (Nat.zero_le _) (by simp) | exact outok_self), by simp [push_cast], ?_⟩
          simp only [push_cast, Nat.reduceAdd]
          unfold symsCheck
          first
            | (have h1 : (ss.any fun f => !isNameP f.name true) = true := (by assumption); rw [h1]; simp; done)
            | (have h1 : (ss.any fun f => !isNameP f.name true) = false := (by assumption)
               first
                 | (have h2 : (ss.any fun f => decide (f.arity < 0) || decide (8 < f.arity)) = true := (by assumption); rw [h1, h2]; simp; done)
                 | (have h2 : (ss.any fun f => decide (f.arity < 0) || decide (8 < f.arity)) = false := (by assumption); rw [h1, h2]; simp; done))
            | fail "ret"
       case' ht =>
        intro hc11
        try (exfalso; (first | (cases hc11; done) | (simp at hc11; done) | (simp at hc11; omega)); done)
        all_goals (try simp only [decide_eq_true_eq, decide_eq_false_iff_not, Bool.not_eq_true', Bool.not_eq_false', Bool.not_eq_eq_eq_not, Bool.not_true, Bool.not_false] at hc11)
        all_goals
         refine AW_seq_k (fun K13 hK13 => ?_)
         refine AW_region ?_
         all_goals (refine AOps_cons rfl (AOp_assign ?_) <;> try simp only [push_cast, Nat.reduceAdd])
         all_goals refine AOps_nil ?_
         all_goals
          refine thenK_normal (hK13 _ ?_)
          try clear hK13
          refine AW_ret ?_
          repeat (first | refine thenK_ret ?_ | refine loopK_ret ?_ | refine blockK_ret ?_)
          refine ⟨by first | exact .inl rfl | exact .inr rfl, _, rfl, (by first | exact outok_app 0 rfl (Nat.zero_le _) (by simp) | exact outok_self), by simp [push_cast], ?_⟩
          simp only [push_cast, Nat.reduceAdd]
          unfold symsCheck
          first
            | (have h1 : (ss.any fun f => !isNameP f.name true) = true := (by assumption); rw [h1]; simp; done)
            | (have h1 : (ss.any fun f => !isNameP f.name true) = false := (by assumption)
               first
                 | (have h2 : (ss.any fun f => decide (f.arity < 0) || decide (8 < f.arity)) = true := (by assumption); rw [h1, h2]; simp; done)
                 | (have h2 : (ss.any fun f => decide (f.arity < 0) || decide (8 < f.arity)) = false := (by assumption); rw [h1, h2]; simp; done))
            | fail "ret"
    case' ht =>
     intro hc9
     try (exfalso; (first | (cases hc9; done) | (simp at hc9; done) | (simp at hc9; omega)); done)
     all_goals (try simp only [decide_eq_true_eq, decide_eq_false_iff_not, Bool.not_eq_true', Bool.not_eq_false', Bool.not_eq_eq_eq_not, Bool.not_true, Bool.not_false] at hc9)
     all_goals
      refine AW_seq_k (fun K14 hK14 => ?_)
      refine AW_region ?_
      all_goals (refine AOps_cons rfl (AOp_assign ?_) <;> try simp only [push_cast, Nat.reduceAdd])
      all_goals refine AOps_nil ?_
      all_goals
       refine thenK_normal (hK14 _ ?_)
       try clear hK14
       refine AW_ret ?_
       repeat (first | refine thenK_ret ?_ | refine loopK_ret ?_ | refine blockK_ret ?_)
       refine ⟨by first | exact .inl rfl | exact .inr rfl, _, rfl, (by first | exact outok_app 0 rfl (Nat.zero_le _) (by simp) | exact outok_self), by simp [push_cast], ?_⟩
       simp only [push_cast, Nat.reduceAdd]
       unfold symsCheck
       first
         | (have h1 : (ss.any fun f => !isNameP f.name true) = true := (by assumption); rw [h1]; simp; done)
         | (have h1 : (ss.any fun f => !isNameP f.name true) = false := (by assumption)
            first
              | (have h2 : (ss.any fun f => decide (f.arity < 0) || decide (8 < f.arity)) = true := (by assumption); rw [h1, h2]; simp; done)
              | (have h2 : (ss.any fun f => decide (f.arity < 0) || decide (8 < f.arity)) = false := (by assumption); rw [h1, h2]; simp; done))
         | fail "ret"
def admP (l : List Rank) (unit : Int) (ss : List Sym) : Bool × Int := if wcheckP l unit ≠ 0 then (false, wcheckP l unit) else if symsCheck ss ≠ 0 then (false, symsCheck ss) else (fitsW l unit ss, 0)
theorem admissible_ac (l : List Rank) (unit : Int) (ss : List Sym) (hlen : l.length < 1099511627776) (hnl : ∀ x, x ∈ l → x.name.length < 1099511627776) (hlen2 : ss.length < 1099511627776) (hn : ∀ f, f ∈ ss → f.name.length < 1099511627776) (H : List AObj) :
    ACall Try.prog 22 [.sl .none (encL encR l), .int .i64 unit, .sl .none (encL encS ss)] H (fun r H' => r = .tup [.bool (admP l unit ss).1, .int .i64 (admP l unit ss).2] ∧ H' = H) := by
  refine ACall_intro (H.length) Try.func22 rfl ?_
  simp only [Try.ntmps22, List.length_cons, List.length_nil, List.replicate, List.cons_append, List.nil_append, Nat.reduceAdd, Nat.reduceSub, Nat.zero_add]
  refine AW_seq_k (fun K15 hK15 => ?_)
  refine AW_region ?_
  all_goals refine AOps_cons rfl (AOp_assign ?_)
  all_goals (refine AOps_cons rfl (AOp_assign ?_) <;> try simp only [push_cast, Nat.reduceAdd])
  all_goals refine AOps_nil ?_
  all_goals
   refine thenK_normal (hK15 _ ?_)
   try clear hK15
   refine AW_seq_k (fun K16 hK16 => ?_)
   refine AW_seq_k (fun K17 hK17 => ?_)
   refine AW_region ?_
   all_goals refine AOps_cons rfl (AOp_move ?_)
   all_goals refine AOps_cons rfl (AOp_move ?_)
   all_goals (try simp only [push_cast, Nat.reduceAdd])
   all_goals refine AOps_cons rfl (AOp_call _ _ _ rfl rfl ok24 ?_)
   all_goals (try simp only [push_cast, Nat.reduceAdd])
   all_goals refine (wcheck_ac l unit hlen hnl _).mono ?_
   all_goals rintro r H' ⟨rfl, rfl⟩
   all_goals (try simp only [push_cast, Nat.reduceAdd])
   all_goals (refine AOps_cons rfl (AOp_assign ?_) <;> try simp only [push_cast, Nat.reduceAdd])
   all_goals refine AOps_nil ?_
   all_goals
    refine thenK_normal (hK17 _ ?_)
    try clear hK17
    refine AW_seq_k (fun K18 hK18 => ?_)
    refine AW_region ?_
    all_goals refine AOps_cons rfl (AOp_move ?_)
    all_goals (try simp only [push_cast, Nat.reduceAdd])
    all_goals (refine AOps_cons rfl (AOp_bin_int _ _ _ _ rfl rfl rfl ?_) <;> try simp only [push_cast, Nat.reduceAdd])
    all_goals refine AOps_nil ?_
    all_goals
     refine thenK_normal (hK18 _ ?_)
     try clear hK18
     apply AW_cond
     case' hc => exact rfl
     case' hf =>
      intro hc19
      try (exfalso; (first | (cases hc19; done) | (simp at hc19; done) | (simp at hc19; omega)); done)
      all_goals (try simp only [decide_eq_true_eq, decide_eq_false_iff_not, Bool.not_eq_true', Bool.not_eq_false', Bool.not_eq_eq_eq_not, Bool.not_true, Bool.not_false] at hc19)
      all_goals
       refine AW_skip ?_
       refine thenK_normal (hK16 _ ?_)
       try clear hK16
       refine AW_seq_k (fun K20 hK20 => ?_)
       refine AW_seq_k (fun K21 hK21 => ?_)
       refine AW_region ?_
       all_goals refine AOps_cons rfl (AOp_move ?_)
       all_goals (try simp only [push_cast, Nat.reduceAdd])
       all_goals refine AOps_cons rfl (AOp_call _ _ _ rfl rfl ok43 ?_)
       all_goals (try simp only [push_cast, Nat.reduceAdd])
       all_goals refine (pathSymbols_ac ss hlen2 hn _).mono ?_
       all_goals rintro r H' ⟨rfl, rfl⟩
       all_goals (try simp only [push_cast, Nat.reduceAdd])
       all_goals (refine AOps_cons rfl (AOp_assign ?_) <;> try simp only [push_cast, Nat.reduceAdd])
       all_goals refine AOps_nil ?_
       all_goals
        refine thenK_normal (hK21 _ ?_)
        try clear hK21
        refine AW_seq_k (fun K22 hK22 => ?_)
        refine AW_region ?_
        all_goals refine AOps_cons rfl (AOp_move ?_)
        all_goals (try simp only [push_cast, Nat.reduceAdd])
        all_goals (refine AOps_cons rfl (AOp_bin_int _ _ _ _ rfl rfl rfl ?_) <;> try simp only [push_cast, Nat.reduceAdd])
        all_goals refine AOps_nil ?_
        all_goals
         refine thenK_normal (hK22 _ ?_)
         try clear hK22
         apply AW_cond
         case' hc => exact rfl
         case' hf =>
          intro hc23
          try (exfalso; (first | (cases hc23; done) | (simp at hc23; done) | (simp at hc23; omega)); done)
          all_goals (try simp only [decide_eq_true_eq, decide_eq_false_iff_not, Bool.not_eq_true', Bool.not_eq_false', Bool.not_eq_eq_eq_not, Bool.not_true, Bool.not_false] at hc23)
          all_goals
           refine AW_skip ?_
           refine thenK_normal (hK20 _ ?_)
           try clear hK20
           refine AW_seq_k (fun K24 hK24 => ?_)
           refine AW_region ?_
           all_goals refine AOps_cons rfl (AOp_move ?_)
           all_goals refine AOps_cons rfl (AOp_move ?_)
           all_goals refine AOps_cons rfl (AOp_move ?_)
           all_goals (try simp only [push_cast, Nat.reduceAdd])
           all_goals refine AOps_cons rfl (AOp_call _ _ _ rfl rfl ok28 ?_)
           all_goals (try simp only [push_cast, Nat.reduceAdd])
           all_goals refine (fitsW_ac l (good_of_check (by assumption)).1 hlen unit ss hlen2 _).mono ?_
           all_goals rintro r H' ⟨rfl, rfl⟩
           all_goals (try simp only [push_cast, Nat.reduceAdd])
           all_goals refine AOps_cons rfl (AOp_assign ?_)
           all_goals (refine AOps_cons rfl (AOp_assign ?_) <;> try simp only [push_cast, Nat.reduceAdd])
           all_goals refine AOps_nil ?_
           all_goals
            refine thenK_normal (hK24 _ ?_)
            try clear hK24
            refine AW_ret ?_
            repeat (first | refine thenK_ret ?_ | refine loopK_ret ?_ | refine blockK_ret ?_)
            refine ⟨by first | exact .inl rfl | exact .inr rfl, _, ⟨[_, _], rfl, rfl, rfl, trivial⟩, (by first | exact outok_app 0 rfl (Nat.zero_le _) (by simp) | exact outok_self), by simp [push_cast], ?_⟩
            simp only [push_cast, Nat.reduceAdd]
            unfold admP
            first
              | (have h1 : ¬ wcheckP l unit = 0 := (by assumption); simp [h1]; done)
              | (have h1 : wcheckP l unit = 0 := (by assumption); have h2 : ¬ symsCheck ss = 0 := (by assumption); simp [h1, h2]; done)
              | (have h1 : wcheckP l unit = 0 := (by assumption); have h2 : symsCheck ss = 0 := (by assumption); simp [h1, h2]; done)
              | fail "ret"
         case' ht =>
          intro hc23
          try (exfalso; (first | (cases hc23; done) | (simp at hc23; done) | (simp at hc23; omega)); done)
          all_goals (try simp only [decide_eq_true_eq, decide_eq_false_iff_not, Bool.not_eq_true', Bool.not_eq_false', Bool.not_eq_eq_eq_not, Bool.not_true, Bool.not_false] at hc23)
          all_goals
           refine AW_seq_k (fun K25 hK25 => ?_)
           refine AW_region ?_
           all_goals refine AOps_cons rfl (AOp_move ?_)
           all_goals refine AOps_cons rfl (AOp_assign ?_)
           all_goals (refine AOps_cons rfl (AOp_assign ?_) <;> try simp only [push_cast, Nat.reduceAdd])
           all_goals refine AOps_nil ?_
           all_goals
            refine thenK_normal (hK25 _ ?_)
            try clear hK25
            refine AW_ret ?_
            repeat (first | refine thenK_ret ?_ | refine loopK_ret ?_ | refine blockK_ret ?_)
            refine ⟨by first | exact .inl rfl | exact .inr rfl, _, ⟨[_, _], rfl, rfl, rfl, trivial⟩, (by first | exact outok_app 0 rfl (Nat.zero_le _) (by simp) | exact outok_self), by simp [push_cast], ?_⟩
            simp only [push_cast, Nat.reduceAdd]
            unfold admP
            first
              | (have h1 : ¬ wcheckP l unit = 0 := (by assumption); simp [h1]; done)
              | (have h1 : wcheckP l unit = 0 := (by assumption); have h2 : ¬ symsCheck ss = 0 := (by assumption); simp [h1, h2]; done)
              | (have h1 : wcheckP l unit = 0 := (by assumption); have h2 : symsCheck ss = 0 := (by assumption); simp [h1, h2]; done)
              | fail "ret"
     case' ht =>
      intro hc19
      try (exfalso; (first | (cases hc19; done) | (simp at hc19; done) | (simp at hc19; omega)); done)
      all_goals (try simp only [decide_eq_true_eq, decide_eq_false_iff_not, Bool.not_eq_true', Bool.not_eq_false', Bool.not_eq_eq_eq_not, Bool.not_true, Bool.not_false] at hc19)
      all_goals
       refine AW_seq_k (fun K26 hK26 => ?_)
       refine AW_region ?_
       all_goals refine AOps_cons rfl (AOp_move ?_)
       all_goals refine AOps_cons rfl (AOp_assign ?_)
       all_goals (refine AOps_cons rfl (AOp_assign ?_) <;> try simp only [push_cast, Nat.reduceAdd])
       all_goals refine AOps_nil ?_
       all_goals
        refine thenK_normal (hK26 _ ?_)
        try clear hK26
        refine AW_ret ?_
        repeat (first | refine thenK_ret ?_ | refine loopK_ret ?_ | refine blockK_ret ?_)
        refine ⟨by first | exact .inl rfl | exact .inr rfl, _, ⟨[_, _], rfl, rfl, rfl, trivial⟩, (by first | exact outok_app 0 rfl (Nat.zero_le _) (by simp) | exact outok_self), by simp [push_cast], ?_⟩
        simp only [push_cast, Nat.reduceAdd]
        unfold admP
        first
          | (have h1 : ¬ wcheckP l unit = 0 := (by assumption); simp [h1]; done)
          | (have h1 : wcheckP l unit = 0 := (by assumption); have h2 : ¬ symsCheck ss = 0 := (by assumption); simp [h1, h2]; done)
          | (have h1 : wcheckP l unit = 0 := (by assumption); have h2 : symsCheck ss = 0 := (by assumption); simp [h1, h2]; done)
          | fail "ret"
def weighP (l : List Rank) (unit : Int) (t : Term) : Int × Int := if wcheckP l unit ≠ 0 then (0, wcheckP l unit) else if checkP t ≠ 0 then (0, checkP t) else (weightP l unit t, 0)
theorem weigh_ac (l : List Rank) (unit : Int) (t : Term) (hlen : l.length < 1099511627776) (hnl : ∀ x, x ∈ l → x.name.length < 1099511627776) (hb : t.bulk ≤ 1099511627775) (H : List AObj) :
    ACall Try.prog 23 [.sl .none (encL encR l), .int .i64 unit, encT t] H (fun r H' => r = .tup [.int .i64 (weighP l unit t).1, .int .i64 (weighP l unit t).2] ∧ H' = H) := by
  refine ACall_intro (H.length) Try.func23 rfl ?_
  simp only [Try.ntmps23, List.length_cons, List.length_nil, List.replicate, List.cons_append, List.nil_append, Nat.reduceAdd, Nat.reduceSub, Nat.zero_add]
  refine AW_seq_k (fun K27 hK27 => ?_)
  refine AW_region ?_
  all_goals (refine AOps_cons rfl (AOp_box _ _ rfl rfl (by first | exact .inl rfl | exact .inr ⟨_, rfl⟩) (by simp [push_cast, AV.isCell]) ?_) <;> try simp only [push_cast, Nat.reduceAdd])
  all_goals refine AOps_cons rfl (AOp_assign ?_)
  all_goals (refine AOps_cons rfl (AOp_assign ?_) <;> try simp only [push_cast, Nat.reduceAdd])
  all_goals refine AOps_nil ?_
  all_goals
   refine thenK_normal (hK27 _ ?_)
   try clear hK27
   refine AW_seq_k (fun K28 hK28 => ?_)
   refine AW_seq_k (fun K29 hK29 => ?_)
   refine AW_region ?_
   all_goals refine AOps_cons rfl (AOp_move ?_)
   all_goals refine AOps_cons rfl (AOp_move ?_)
   all_goals (try simp only [push_cast, Nat.reduceAdd])
   all_goals refine AOps_cons rfl (AOp_call _ _ _ rfl rfl ok24 ?_)
   all_goals (try simp only [push_cast, Nat.reduceAdd])
   all_goals refine (wcheck_ac l unit hlen hnl _).mono ?_
   all_goals rintro r H' ⟨rfl, rfl⟩
   all_goals (try simp only [push_cast, Nat.reduceAdd])
   all_goals (refine AOps_cons rfl (AOp_assign ?_) <;> try simp only [push_cast, Nat.reduceAdd])
   all_goals refine AOps_nil ?_
   all_goals
    refine thenK_normal (hK29 _ ?_)
    try clear hK29
    refine AW_seq_k (fun K30 hK30 => ?_)
    refine AW_region ?_
    all_goals refine AOps_cons rfl (AOp_move ?_)
    all_goals (try simp only [push_cast, Nat.reduceAdd])
    all_goals (refine AOps_cons rfl (AOp_bin_int _ _ _ _ rfl rfl rfl ?_) <;> try simp only [push_cast, Nat.reduceAdd])
    all_goals refine AOps_nil ?_
    all_goals
     refine thenK_normal (hK30 _ ?_)
     try clear hK30
     apply AW_cond
     case' hc => exact rfl
     case' hf =>
      intro hc31
      try (exfalso; (first | (cases hc31; done) | (simp at hc31; done) | (simp at hc31; omega)); done)
      all_goals (try simp only [decide_eq_true_eq, decide_eq_false_iff_not, Bool.not_eq_true', Bool.not_eq_false', Bool.not_eq_eq_eq_not, Bool.not_true, Bool.not_false] at hc31)
      all_goals
       refine AW_skip ?_
       refine thenK_normal (hK28 _ ?_)
       try clear hK28
       refine AW_seq_k (fun K32 hK32 => ?_)
       refine AW_seq_k (fun K33 hK33 => ?_)
       refine AW_region ?_
       all_goals (refine AOps_cons rfl (AOp_load_ptr _ _ _ _ rfl (by first | exact hget0 | exact hgetN _ rfl | assumption | exact hgetL (by assumption)) sz27 ag27 (by simp [push_cast]) ?_) <;> try simp only [push_cast, Nat.reduceAdd])
       all_goals refine AOps_cons rfl (AOp_call _ _ _ rfl rfl ok44 ?_)
       all_goals (try simp only [push_cast, Nat.reduceAdd])
       all_goals refine (check_ac t hb _).mono ?_
       all_goals rintro r H' ⟨rfl, rfl⟩
       all_goals (try simp only [push_cast, Nat.reduceAdd])
       all_goals (refine AOps_cons rfl (AOp_assign ?_) <;> try simp only [push_cast, Nat.reduceAdd])
       all_goals refine AOps_nil ?_
       all_goals
        refine thenK_normal (hK33 _ ?_)
        try clear hK33
        refine AW_seq_k (fun K34 hK34 => ?_)
        refine AW_region ?_
        all_goals refine AOps_cons rfl (AOp_move ?_)
        all_goals (try simp only [push_cast, Nat.reduceAdd])
        all_goals (refine AOps_cons rfl (AOp_bin_int _ _ _ _ rfl rfl rfl ?_) <;> try simp only [push_cast, Nat.reduceAdd])
        all_goals refine AOps_nil ?_
        all_goals
         refine thenK_normal (hK34 _ ?_)
         try clear hK34
         apply AW_cond
         case' hc => exact rfl
         case' hf =>
          intro hc35
          try (exfalso; (first | (cases hc35; done) | (simp at hc35; done) | (simp at hc35; omega)); done)
          all_goals (try simp only [decide_eq_true_eq, decide_eq_false_iff_not, Bool.not_eq_true', Bool.not_eq_false', Bool.not_eq_eq_eq_not, Bool.not_true, Bool.not_false] at hc35)
          all_goals
           refine AW_skip ?_
           refine thenK_normal (hK32 _ ?_)
           try clear hK32
           refine AW_seq_k (fun K36 hK36 => ?_)
           refine AW_region ?_
           all_goals refine AOps_cons rfl (AOp_move ?_)
           all_goals refine AOps_cons rfl (AOp_move ?_)
           all_goals (try simp only [push_cast, Nat.reduceAdd])
           all_goals (refine AOps_cons rfl (AOp_load_ptr _ _ _ _ rfl (by first | exact hget0 | exact hgetN _ rfl | assumption | exact hgetL (by assumption)) sz27 ag27 (by simp [push_cast]) ?_) <;> try simp only [push_cast, Nat.reduceAdd])
           all_goals refine AOps_cons rfl (AOp_call _ _ _ rfl rfl ok45 ?_)
           all_goals (try simp only [push_cast, Nat.reduceAdd])
           all_goals have hg := good_of_check (show wcheckP l unit = 0 by assumption)
           all_goals refine (weight_ac l unit hg.1 hg.2 hlen t hb _).mono ?_
           all_goals rintro r H' ⟨rfl, rfl⟩
           all_goals (try simp only [push_cast, Nat.reduceAdd])
           all_goals refine AOps_cons rfl (AOp_assign ?_)
           all_goals (refine AOps_cons rfl (AOp_assign ?_) <;> try simp only [push_cast, Nat.reduceAdd])
           all_goals refine AOps_nil ?_
           all_goals
            refine thenK_normal (hK36 _ ?_)
            try clear hK36
            refine AW_ret ?_
            repeat (first | refine thenK_ret ?_ | refine loopK_ret ?_ | refine blockK_ret ?_)
            refine ⟨by first | exact .inl rfl | exact .inr rfl, _, ⟨[_, _], rfl, rfl, rfl, trivial⟩, (by first | exact outok_app 0 rfl (Nat.zero_le _) (by simp) | exact outok_self), by simp [push_cast], ?_⟩
            simp only [push_cast, Nat.reduceAdd]
            unfold weighP
            first
              | (have h1 : ¬ wcheckP l unit = 0 := (by assumption); simp [h1]; done)
              | (have h1 : wcheckP l unit = 0 := (by assumption); have h2 : ¬ checkP t = 0 := (by assumption); simp [h1, h2]; done)
              | (have h1 : wcheckP l unit = 0 := (by assumption); have h2 : checkP t = 0 := (by assumption); simp [h1, h2]; done)
              | fail "ret"
         case' ht =>
          intro hc35
          try (exfalso; (first | (cases hc35; done) | (simp at hc35; done) | (simp at hc35; omega)); done)
          all_goals (try simp only [decide_eq_true_eq, decide_eq_false_iff_not, Bool.not_eq_true', Bool.not_eq_false', Bool.not_eq_eq_eq_not, Bool.not_true, Bool.not_false] at hc35)
          all_goals
           refine AW_seq_k (fun K37 hK37 => ?_)
           refine AW_region ?_
           all_goals refine AOps_cons rfl (AOp_move ?_)
           all_goals refine AOps_cons rfl (AOp_assign ?_)
           all_goals (refine AOps_cons rfl (AOp_assign ?_) <;> try simp only [push_cast, Nat.reduceAdd])
           all_goals refine AOps_nil ?_
           all_goals
            refine thenK_normal (hK37 _ ?_)
            try clear hK37
            refine AW_ret ?_
            repeat (first | refine thenK_ret ?_ | refine loopK_ret ?_ | refine blockK_ret ?_)
            refine ⟨by first | exact .inl rfl | exact .inr rfl, _, ⟨[_, _], rfl, rfl, rfl, trivial⟩, (by first | exact outok_app 0 rfl (Nat.zero_le _) (by simp) | exact outok_self), by simp [push_cast], ?_⟩
            simp only [push_cast, Nat.reduceAdd]
            unfold weighP
            first
              | (have h1 : ¬ wcheckP l unit = 0 := (by assumption); simp [h1]; done)
              | (have h1 : wcheckP l unit = 0 := (by assumption); have h2 : ¬ checkP t = 0 := (by assumption); simp [h1, h2]; done)
              | (have h1 : wcheckP l unit = 0 := (by assumption); have h2 : checkP t = 0 := (by assumption); simp [h1, h2]; done)
              | fail "ret"
     case' ht =>
      intro hc31
      try (exfalso; (first | (cases hc31; done) | (simp at hc31; done) | (simp at hc31; omega)); done)
      all_goals (try simp only [decide_eq_true_eq, decide_eq_false_iff_not, Bool.not_eq_true', Bool.not_eq_false', Bool.not_eq_eq_eq_not, Bool.not_true, Bool.not_false] at hc31)
      all_goals
       refine AW_seq_k (fun K38 hK38 => ?_)
       refine AW_region ?_
       all_goals refine AOps_cons rfl (AOp_move ?_)
       all_goals refine AOps_cons rfl (AOp_assign ?_)
       all_goals (refine AOps_cons rfl (AOp_assign ?_) <;> try simp only [push_cast, Nat.reduceAdd])
       all_goals refine AOps_nil ?_
       all_goals
        refine thenK_normal (hK38 _ ?_)
        try clear hK38
        refine AW_ret ?_
        repeat (first | refine thenK_ret ?_ | refine loopK_ret ?_ | refine blockK_ret ?_)
        refine ⟨by first | exact .inl rfl | exact .inr rfl, _, ⟨[_, _], rfl, rfl, rfl, trivial⟩, (by first | exact outok_app 0 rfl (Nat.zero_le _) (by simp) | exact outok_self), by simp [push_cast], ?_⟩
        simp only [push_cast, Nat.reduceAdd]
        unfold weighP
        first
          | (have h1 : ¬ wcheckP l unit = 0 := (by assumption); simp [h1]; done)
          | (have h1 : wcheckP l unit = 0 := (by assumption); have h2 : ¬ checkP t = 0 := (by assumption); simp [h1, h2]; done)
          | (have h1 : wcheckP l unit = 0 := (by assumption); have h2 : checkP t = 0 := (by assumption); simp [h1, h2]; done)
          | fail "ret"
def greaterP (l : List Rank) (unit : Int) (s t : Term) : Bool × Int :=
  if wcheckP l unit ≠ 0 then (false, wcheckP l unit) else if firstErr [s, t] ≠ 0 then (false, firstErr [s, t]) else if fitsW l unit (symsP [s, t]) = false then (false, 10) else (aboveP l unit s t, 0)
theorem greater_ac (l : List Rank) (unit : Int) (s t : Term) (hlen : l.length < 1099511627776) (hnl : ∀ x, x ∈ l → x.name.length < 1099511627776) (hb : s.bulk + t.bulk ≤ 1099511627775) (H : List AObj) :
    ACall Try.prog 7 [.sl .none (encL encR l), .int .i64 unit, encT s, encT t] H (fun r H' => r = .tup [.bool (greaterP l unit s t).1, .int .i64 (greaterP l unit s t).2] ∧ H' = H) := by
  have hs1 := s.size_le
  have hs2 := t.size_le
  have hev : [AV.agg [.str s.name, .bool s.var, .sl .none (encTs s.args)], AV.agg [.str t.name, .bool t.var, .sl .none (encTs t.args)]] = encTs [s, t] := by rw [encTs_cons, encTs_cons]; simp [encTs]
  have hbl : ∀ x, x ∈ [s, t] → x.bulk ≤ 1099511627775 := by intro x hx; simp at hx; rcases hx with rfl | rfl <;> omega
  have hsy : (symsP [s, t]).length < 1099511627776 := by have := symsFold_length [s, t] []; simp only [List.map_cons, List.map_nil, List.sum_cons, List.sum_nil, List.length_nil] at this; unfold symsP; omega
  refine ACall_intro (H.length) Try.func7 rfl ?_
  simp only [Try.ntmps7, List.length_cons, List.length_nil, List.replicate, List.cons_append, List.nil_append, Nat.reduceAdd, Nat.reduceSub, Nat.zero_add]
  refine AW_seq_k (fun K39 hK39 => ?_)
  refine AW_region ?_
  all_goals (refine AOps_cons rfl (AOp_box _ _ rfl rfl (by first | exact .inl rfl | exact .inr ⟨_, rfl⟩) (by simp [push_cast, AV.isCell]) ?_) <;> try simp only [push_cast, Nat.reduceAdd])
  all_goals (refine AOps_cons rfl (AOp_box _ _ rfl rfl (by first | exact .inl rfl | exact .inr ⟨_, rfl⟩) (by simp [push_cast, AV.isCell]) ?_) <;> try simp only [push_cast, Nat.reduceAdd])
  all_goals refine AOps_cons rfl (AOp_assign ?_)
  all_goals (refine AOps_cons rfl (AOp_assign ?_) <;> try simp only [push_cast, Nat.reduceAdd])
  all_goals refine AOps_nil ?_
  all_goals
   refine thenK_normal (hK39 _ ?_)
   try clear hK39
   refine AW_seq_k (fun K40 hK40 => ?_)
   refine AW_seq_k (fun K41 hK41 => ?_)
   refine AW_region ?_
   all_goals refine AOps_cons rfl (AOp_move ?_)
   all_goals refine AOps_cons rfl (AOp_move ?_)
   all_goals (try simp only [push_cast, Nat.reduceAdd])
   all_goals refine AOps_cons rfl (AOp_call _ _ _ rfl rfl ok24 ?_)
   all_goals (try simp only [push_cast, Nat.reduceAdd])
   all_goals refine (wcheck_ac l unit hlen hnl _).mono ?_
   all_goals rintro r H' ⟨rfl, rfl⟩
   all_goals (try simp only [push_cast, Nat.reduceAdd])
   all_goals (refine AOps_cons rfl (AOp_assign ?_) <;> try simp only [push_cast, Nat.reduceAdd])
   all_goals refine AOps_nil ?_
   all_goals
    refine thenK_normal (hK41 _ ?_)
    try clear hK41
    refine AW_seq_k (fun K42 hK42 => ?_)
    refine AW_region ?_
    all_goals refine AOps_cons rfl (AOp_move ?_)
    all_goals (try simp only [push_cast, Nat.reduceAdd])
    all_goals (refine AOps_cons rfl (AOp_bin_int _ _ _ _ rfl rfl rfl ?_) <;> try simp only [push_cast, Nat.reduceAdd])
    all_goals refine AOps_nil ?_
    all_goals
     refine thenK_normal (hK42 _ ?_)
     try clear hK42
     apply AW_cond
     case' hc => exact rfl
     case' hf =>
      intro hc43
      try (exfalso; (first | (cases hc43; done) | (simp at hc43; done) | (simp at hc43; omega)); done)
      all_goals (try simp only [decide_eq_true_eq, decide_eq_false_iff_not, Bool.not_eq_true', Bool.not_eq_false', Bool.not_eq_eq_eq_not, Bool.not_true, Bool.not_false] at hc43)
      all_goals
       refine AW_skip ?_
       refine thenK_normal (hK40 _ ?_)
       try clear hK40
       refine AW_seq_k (fun K44 hK44 => ?_)
       refine AW_seq_k (fun K45 hK45 => ?_)
       refine AW_region ?_
       all_goals (refine AOps_cons rfl (AOp_load_ptr _ _ _ _ rfl (by first | exact hget0 | exact hgetN _ rfl | assumption | exact hgetL (by assumption)) sz27 ag27 (by simp [push_cast]) ?_) <;> try simp only [push_cast, Nat.reduceAdd])
       all_goals (refine AOps_cons rfl (AOp_load_ptr _ _ _ _ rfl (by first | exact hget0 | exact hgetN _ rfl | assumption | exact hgetL (by assumption)) sz27 ag27 (by simp [push_cast]) ?_) <;> try simp only [push_cast, Nat.reduceAdd])
       all_goals (refine AOps_cons rfl (AOp_buildRow _ [_, _] sl25 sz27 zr27 rfl rfl (by simp [AV.cells, AV.isCell, AV.isAgg, push_cast]) (by decide) rfl ?_) <;> try simp only [push_cast, Nat.reduceAdd])
       all_goals refine AOps_cons rfl (AOp_call _ _ _ rfl rfl ok27 ?_)
       all_goals (try simp only [push_cast, Nat.reduceAdd])
       all_goals simp only [hev]
       all_goals refine (all_ac [s, t] (by simp; omega) _).mono ?_
       all_goals rintro r H' ⟨rfl, rfl⟩
       all_goals (try simp only [push_cast, Nat.reduceAdd])
       all_goals (refine AOps_cons rfl (AOp_assign ?_) <;> try simp only [push_cast, Nat.reduceAdd])
       all_goals refine AOps_nil ?_
       all_goals
        refine thenK_normal (hK45 _ ?_)
        try clear hK45
        refine AW_seq_k (fun K46 hK46 => ?_)
        refine AW_region ?_
        all_goals refine AOps_cons rfl (AOp_move ?_)
        all_goals (try simp only [push_cast, Nat.reduceAdd])
        all_goals (refine AOps_cons rfl (AOp_bin_int _ _ _ _ rfl rfl rfl ?_) <;> try simp only [push_cast, Nat.reduceAdd])
        all_goals refine AOps_nil ?_
        all_goals
         refine thenK_normal (hK46 _ ?_)
         try clear hK46
         apply AW_cond
         case' hc => exact rfl
         case' hf =>
          intro hc47
          try (exfalso; (first | (cases hc47; done) | (simp at hc47; done) | (simp at hc47; omega)); done)
          all_goals (try simp only [decide_eq_true_eq, decide_eq_false_iff_not, Bool.not_eq_true', Bool.not_eq_false', Bool.not_eq_eq_eq_not, Bool.not_true, Bool.not_false] at hc47)
          all_goals
           refine AW_skip ?_
           refine thenK_normal (hK44 _ ?_)
           try clear hK44
           refine AW_seq_k (fun K48 hK48 => ?_)
           refine AW_seq_k (fun K49 hK49 => ?_)
           refine AW_region ?_
           all_goals refine AOps_cons rfl (AOp_move ?_)
           all_goals refine AOps_cons rfl (AOp_move ?_)
           all_goals (try simp only [push_cast, Nat.reduceAdd])
           all_goals (refine AOps_cons rfl (AOp_load_ptr _ _ _ _ rfl (by first | exact hget0 | exact hgetN _ rfl | assumption | exact hgetL (by assumption)) sz27 ag27 (by simp [push_cast]) ?_) <;> try simp only [push_cast, Nat.reduceAdd])
           all_goals (refine AOps_cons rfl (AOp_load_ptr _ _ _ _ rfl (by first | exact hget0 | exact hgetN _ rfl | assumption | exact hgetL (by assumption)) sz27 ag27 (by simp [push_cast]) ?_) <;> try simp only [push_cast, Nat.reduceAdd])
           all_goals (refine AOps_cons rfl (AOp_buildRow _ [_, _] sl25 sz27 zr27 rfl rfl (by simp [AV.cells, AV.isCell, AV.isAgg, push_cast]) (by decide) rfl ?_) <;> try simp only [push_cast, Nat.reduceAdd])
           all_goals refine AOps_cons rfl (AOp_call _ _ _ rfl rfl ok29 ?_)
           all_goals (try simp only [push_cast, Nat.reduceAdd])
           all_goals simp only [hev]
           all_goals refine (symsW_ac [s, t] (by simp) hbl (by simp; omega) _).mono ?_
           all_goals rintro r H' ⟨rfl, rfl⟩
           all_goals (try simp only [push_cast, Nat.reduceAdd])
           all_goals refine AOps_cons rfl (AOp_call _ _ _ rfl rfl ok28 ?_)
           all_goals (try simp only [push_cast, Nat.reduceAdd])
           all_goals refine (fitsW_ac l (good_of_check (by assumption)).1 hlen unit (symsP [s, t]) hsy _).mono ?_
           all_goals rintro r H' ⟨rfl, rfl⟩
           all_goals (try simp only [push_cast, Nat.reduceAdd])
           all_goals (refine AOps_cons rfl (AOp_not _ rfl ?_) <;> try simp only [push_cast, Nat.reduceAdd])
           all_goals refine AOps_nil ?_
           all_goals
            refine thenK_normal (hK49 _ ?_)
            try clear hK49
            apply AW_cond
            case' hc => exact rfl
            case' hf =>
             intro hc50
             try (exfalso; (first | (cases hc50; done) | (simp at hc50; done) | (simp at hc50; omega)); done)
             all_goals (try simp only [decide_eq_true_eq, decide_eq_false_iff_not, Bool.not_eq_true', Bool.not_eq_false', Bool.not_eq_eq_eq_not, Bool.not_true, Bool.not_false] at hc50)
             all_goals
              refine AW_skip ?_
              refine thenK_normal (hK48 _ ?_)
              try clear hK48
              refine AW_seq_k (fun K51 hK51 => ?_)
              refine AW_region ?_
              all_goals refine AOps_cons rfl (AOp_move ?_)
              all_goals refine AOps_cons rfl (AOp_move ?_)
              all_goals (try simp only [push_cast, Nat.reduceAdd])
              all_goals (refine AOps_cons rfl (AOp_load_ptr _ _ _ _ rfl (by first | exact hget0 | exact hgetN _ rfl | assumption | exact hgetL (by assumption)) sz27 ag27 (by simp [push_cast]) ?_) <;> try simp only [push_cast, Nat.reduceAdd])
              all_goals (refine AOps_cons rfl (AOp_load_ptr _ _ _ _ rfl (by first | exact hget0 | exact hgetN _ rfl | assumption | exact hgetL (by assumption)) sz27 ag27 (by simp [push_cast]) ?_) <;> try simp only [push_cast, Nat.reduceAdd])
              all_goals refine AOps_cons rfl (AOp_call _ _ _ rfl rfl ok30 ?_)
              all_goals (try simp only [push_cast, Nat.reduceAdd])
              all_goals have hg := good_of_check (show wcheckP l unit = 0 by assumption)
              all_goals refine (above_ac l unit hg.1 hg.2 hlen s t (by omega) (by omega) _).mono ?_
              all_goals rintro r H' ⟨rfl, rfl⟩
              all_goals (try simp only [push_cast, Nat.reduceAdd])
              all_goals refine AOps_cons rfl (AOp_assign ?_)
              all_goals (refine AOps_cons rfl (AOp_assign ?_) <;> try simp only [push_cast, Nat.reduceAdd])
              all_goals refine AOps_nil ?_
              all_goals
               refine thenK_normal (hK51 _ ?_)
               try clear hK51
               refine AW_ret ?_
               repeat (first | refine thenK_ret ?_ | refine loopK_ret ?_ | refine blockK_ret ?_)
               refine ⟨by first | exact .inl rfl | exact .inr rfl, _, ⟨[_, _], rfl, rfl, rfl, trivial⟩, (by first | exact outok_app 0 rfl (Nat.zero_le _) (by simp) | exact outok_self), by simp [push_cast], ?_⟩
               simp only [push_cast, Nat.reduceAdd]
               unfold greaterP
               first
                 | (have h1 : ¬ wcheckP l unit = 0 := (by assumption); simp [h1]; done)
                 | (have h1 : wcheckP l unit = 0 := (by assumption); have h2 : ¬ firstErr [s, t] = 0 := (by assumption); simp [h1, h2]; done)
                 | (have h1 : wcheckP l unit = 0 := (by assumption); have h2 : firstErr [s, t] = 0 := (by assumption); have h3 : fitsW l unit (symsP [s, t]) = false := (by assumption); simp [h1, h2, h3]; done)
                 | (have h1 : wcheckP l unit = 0 := (by assumption); have h2 : firstErr [s, t] = 0 := (by assumption); have h3 : fitsW l unit (symsP [s, t]) = true := (by assumption); simp [h1, h2, h3]; done)
                 | fail "ret"
            case' ht =>
             intro hc50
             try (exfalso; (first | (cases hc50; done) | (simp at hc50; done) | (simp at hc50; omega)); done)
             all_goals (try simp only [decide_eq_true_eq, decide_eq_false_iff_not, Bool.not_eq_true', Bool.not_eq_false', Bool.not_eq_eq_eq_not, Bool.not_true, Bool.not_false] at hc50)
             all_goals
              refine AW_seq_k (fun K52 hK52 => ?_)
              refine AW_region ?_
              all_goals refine AOps_cons rfl (AOp_assign ?_)
              all_goals (refine AOps_cons rfl (AOp_assign ?_) <;> try simp only [push_cast, Nat.reduceAdd])
              all_goals refine AOps_nil ?_
              all_goals
               refine thenK_normal (hK52 _ ?_)
               try clear hK52
               refine AW_ret ?_
               repeat (first | refine thenK_ret ?_ | refine loopK_ret ?_ | refine blockK_ret ?_)
               refine ⟨by first | exact .inl rfl | exact .inr rfl, _, ⟨[_, _], rfl, rfl, rfl, trivial⟩, (by first | exact outok_app 0 rfl (Nat.zero_le _) (by simp) | exact outok_self), by simp [push_cast], ?_⟩
               simp only [push_cast, Nat.reduceAdd]
               unfold greaterP
               first
                 | (have h1 : ¬ wcheckP l unit = 0 := (by assumption); simp [h1]; done)
                 | (have h1 : wcheckP l unit = 0 := (by assumption); have h2 : ¬ firstErr [s, t] = 0 := (by assumption); simp [h1, h2]; done)
                 | (have h1 : wcheckP l unit = 0 := (by assumption); have h2 : firstErr [s, t] = 0 := (by assumption); have h3 : fitsW l unit (symsP [s, t]) = false := (by assumption); simp [h1, h2, h3]; done)
                 | (have h1 : wcheckP l unit = 0 := (by assumption); have h2 : firstErr [s, t] = 0 := (by assumption); have h3 : fitsW l unit (symsP [s, t]) = true := (by assumption); simp [h1, h2, h3]; done)
                 | fail "ret"
         case' ht =>
          intro hc47
          try (exfalso; (first | (cases hc47; done) | (simp at hc47; done) | (simp at hc47; omega)); done)
          all_goals (try simp only [decide_eq_true_eq, decide_eq_false_iff_not, Bool.not_eq_true', Bool.not_eq_false', Bool.not_eq_eq_eq_not, Bool.not_true, Bool.not_false] at hc47)
          all_goals
           refine AW_seq_k (fun K53 hK53 => ?_)
           refine AW_region ?_
           all_goals refine AOps_cons rfl (AOp_move ?_)
           all_goals refine AOps_cons rfl (AOp_assign ?_)
           all_goals (refine AOps_cons rfl (AOp_assign ?_) <;> try simp only [push_cast, Nat.reduceAdd])
           all_goals refine AOps_nil ?_
           all_goals
            refine thenK_normal (hK53 _ ?_)
            try clear hK53
            refine AW_ret ?_
            repeat (first | refine thenK_ret ?_ | refine loopK_ret ?_ | refine blockK_ret ?_)
            refine ⟨by first | exact .inl rfl | exact .inr rfl, _, ⟨[_, _], rfl, rfl, rfl, trivial⟩, (by first | exact outok_app 0 rfl (Nat.zero_le _) (by simp) | exact outok_self), by simp [push_cast], ?_⟩
            simp only [push_cast, Nat.reduceAdd]
            unfold greaterP
            first
              | (have h1 : ¬ wcheckP l unit = 0 := (by assumption); simp [h1]; done)
              | (have h1 : wcheckP l unit = 0 := (by assumption); have h2 : ¬ firstErr [s, t] = 0 := (by assumption); simp [h1, h2]; done)
              | (have h1 : wcheckP l unit = 0 := (by assumption); have h2 : firstErr [s, t] = 0 := (by assumption); have h3 : fitsW l unit (symsP [s, t]) = false := (by assumption); simp [h1, h2, h3]; done)
              | (have h1 : wcheckP l unit = 0 := (by assumption); have h2 : firstErr [s, t] = 0 := (by assumption); have h3 : fitsW l unit (symsP [s, t]) = true := (by assumption); simp [h1, h2, h3]; done)
              | fail "ret"
     case' ht =>
      intro hc43
      try (exfalso; (first | (cases hc43; done) | (simp at hc43; done) | (simp at hc43; omega)); done)
      all_goals (try simp only [decide_eq_true_eq, decide_eq_false_iff_not, Bool.not_eq_true', Bool.not_eq_false', Bool.not_eq_eq_eq_not, Bool.not_true, Bool.not_false] at hc43)
      all_goals
       refine AW_seq_k (fun K54 hK54 => ?_)
       refine AW_region ?_
       all_goals refine AOps_cons rfl (AOp_move ?_)
       all_goals refine AOps_cons rfl (AOp_assign ?_)
       all_goals (refine AOps_cons rfl (AOp_assign ?_) <;> try simp only [push_cast, Nat.reduceAdd])
       all_goals refine AOps_nil ?_
       all_goals
        refine thenK_normal (hK54 _ ?_)
        try clear hK54
        refine AW_ret ?_
        repeat (first | refine thenK_ret ?_ | refine loopK_ret ?_ | refine blockK_ret ?_)
        refine ⟨by first | exact .inl rfl | exact .inr rfl, _, ⟨[_, _], rfl, rfl, rfl, trivial⟩, (by first | exact outok_app 0 rfl (Nat.zero_le _) (by simp) | exact outok_self), by simp [push_cast], ?_⟩
        simp only [push_cast, Nat.reduceAdd]
        unfold greaterP
        first
          | (have h1 : ¬ wcheckP l unit = 0 := (by assumption); simp [h1]; done)
          | (have h1 : wcheckP l unit = 0 := (by assumption); have h2 : ¬ firstErr [s, t] = 0 := (by assumption); simp [h1, h2]; done)
          | (have h1 : wcheckP l unit = 0 := (by assumption); have h2 : firstErr [s, t] = 0 := (by assumption); have h3 : fitsW l unit (symsP [s, t]) = false := (by assumption); simp [h1, h2, h3]; done)
          | (have h1 : wcheckP l unit = 0 := (by assumption); have h2 : firstErr [s, t] = 0 := (by assumption); have h3 : fitsW l unit (symsP [s, t]) = true := (by assumption); simp [h1, h2, h3]; done)
          | fail "ret"
end Ab
set_option maxRecDepth 10000
namespace Ab
open Go Go.Proofs
attribute [local push_cast] encT encR scoped_encR encS scoped_encS
theorem Forget.agg {cs cs' : List AV} (h : ForgetL cs cs') : Forget (.agg cs) (.agg cs') := fun C x hx => by
  obtain ⟨h1, h2⟩ := h.spec
  cases hx with
  | agg _ vs hsz hrel => exact .agg _ vs (by omega) (fun i hi => h2 i (by omega) hi C _ (hrel i (by omega)))
theorem Forget.row {xs xs' : List AV} (t : Tok) (hl : xs.length = xs'.length) (h : ForgetL (flat xs) (flat xs')) : Forget (.sl t xs) (.sl .none xs') := fun C x hx => by
  obtain ⟨h1, h2⟩ := h.spec
  cases hx with
  | sl _ _ a n c f hn hc hrow hrel htok =>
    refine .sl .none xs' a n c f (by omega) hc (fun hne => ?_) (fun j hj => h2 j (by omega) hj C _ (hrel j (by omega))) trivial
    obtain ⟨b, o, e1, e2⟩ := hrow (fun e => hne (List.eq_nil_of_length_eq_zero (by rw [← h1, e]; rfl)))
    exact ⟨b, o, e1, by rw [← h1]; exact e2⟩
def exL1 : List Rank := [⟨[97], 0, 1⟩, ⟨[102], 1, 0⟩]
def exL2 : List Rank := [⟨[97], 1, 1⟩, ⟨[102], 1, 0⟩]
def exA : Term := .mk [97] false []
def exF : Term := .mk [102] false [exA]
def exS : List Sym := [⟨[97], 0⟩, ⟨[102], 1⟩]
theorem ex_adm : admP exL2 1 exS = (false, 0) := by kernel_rfl
theorem ex_check : wcheckP exL1 1 = 0 := by kernel_rfl
theorem ex_name : isNameP [97] true = true ∧ isNameP [102] true = true := ⟨by kernel_rfl, by kernel_rfl⟩
theorem ex_checkA : checkP exA = 0 := by simp [checkP, exA, formedP_mk, ex_name.1, fitsP, Term.size_mk, Term.depth_mk]
theorem ex_checkF : checkP exF = 0 := by simp [checkP, exF, exA, formedP_mk, ex_name.1, ex_name.2, fitsP, Term.size_mk, Term.depth_mk]
theorem ex_walkA : walkT exA [] = [([], exA)] := by simp [walkT, walkL, exA, Term.args]
theorem ex_walkF : walkT exF [] = [([], exF), ([0], exA)] := by simp [walkT, walkL, exF, exA, Term.args]
theorem ex_syms : symsP [exF, exA] = [⟨[102], 1⟩, ⟨[97], 0⟩] := by
  simp only [symsP, List.foldl_cons, List.foldl_nil, symsT, ex_walkF, ex_walkA]; kernel_rfl
theorem ex_fits : fitsW exL1 1 (symsP [exF, exA]) = true := by rw [ex_syms]; kernel_rfl
theorem ex_above : aboveP exL1 1 exF exA = true := by
  have h1 : coversP exF exA = true := by unfold coversP; rw [ex_walkA, ex_walkF]; kernel_rfl
  have h2 : weightP exL1 1 exA = 1 := by rw [exA, weightP_mk]; kernel_rfl
  have h3 : weightP exL1 1 exF = 1 := by rw [exF, weightP_mk]; simp only [List.map_cons, List.map_nil, h2]; kernel_rfl
  have h4 : (ofP exL1 exF.name).rank = 1 := by kernel_rfl
  have h5 : (ofP exL1 exA.name).rank = 0 := by kernel_rfl
  have h6 : exF.var = false := rfl
  have h7 : exA.var = false := rfl
  have h8 : ¬ exF.name = exA.name := by decide
  simp [aboveP, kboC, h1, h2, h3, h4, h5, h6, h7, h8]
theorem ex_greater : greaterP exL1 1 exF exA = (true, 0) := by
  simp [greaterP, ex_check, firstErr, ex_checkA, ex_checkF, ex_fits, ex_above]
theorem alive_ac (H : List AObj) : ACall Try.prog 12 [] H (fun r H' => r = .bool true ∧ H' = H) := by
  have hA : encTs exA.args = [] := by simp [exA, Term.args, encTs]
  refine ACall_intro (H.length) Try.func12 rfl ?_
  simp only [Try.ntmps12, List.length_cons, List.length_nil, List.replicate, List.cons_append, List.nil_append, Nat.reduceAdd, Nat.reduceSub, Nat.zero_add]
  refine AW_seq_k (fun K1 hK1 => ?_)
  refine AW_region ?_
  all_goals (refine AOps_cons rfl (AOp_assign ?_) <;> try simp only [push_cast, Nat.reduceAdd])
  all_goals refine AOps_nil ?_
  all_goals
   refine thenK_normal (hK1 _ ?_)
   try clear hK1
   refine AW_seq_k (fun K2 hK2 => ?_)
   refine AW_region ?_
   all_goals (refine AOps_cons rfl (AOp_build _ _ _ zr63 st63 _ rfl (by first | rfl | (simp [afill, splice, push_cast]; done)) ?_) <;> try simp only [push_cast, Nat.reduceAdd])
   all_goals (refine AOps_cons rfl (AOp_build _ _ _ zr63 st63 _ rfl (by first | rfl | (simp [afill, splice, push_cast]; done)) ?_) <;> try simp only [push_cast, Nat.reduceAdd])
   all_goals (refine AOps_cons rfl (AOp_buildRow _ [_, _] sl22 sz63 zr63 rfl rfl (by simp [AV.cells, AV.isCell, AV.isAgg, push_cast]) (by decide) rfl ?_) <;> try simp only [push_cast, Nat.reduceAdd])
   all_goals (refine AOps_cons rfl (AOp_assign ?_) <;> try simp only [push_cast, Nat.reduceAdd])
   all_goals refine AOps_nil ?_
   all_goals
    refine thenK_normal (hK2 _ ?_)
    try clear hK2
    refine AW_seq_k (fun K3 hK3 => ?_)
    refine AW_region ?_
    all_goals (refine AOps_cons rfl (AOp_build _ _ _ zr27 st27 _ rfl (by first | rfl | (simp [afill, splice, push_cast]; done)) ?_) <;> try simp only [push_cast, Nat.reduceAdd])
    all_goals (refine AOps_cons rfl (AOp_alloc _ zr27 (by simp [ofVal, AV.isCell, Value.oneCell']) ?_) <;> try simp only [push_cast, Nat.reduceAdd])
    all_goals (refine AOps_cons rfl (AOp_store _ _ _ _ _ rfl (by first | exact hget0 | exact hgetN _ rfl | assumption | exact hgetL (by assumption)) rfl rfl (by first | exact .inl rfl | exact .inr ⟨_, rfl⟩) (by simp [push_cast, AV.isCell]) sz27 (by simp [push_cast]) ?_) <;> try simp only [push_cast, Nat.reduceAdd])
    all_goals refine AOps_nil ?_
    all_goals
     refine thenK_normal (hK3 _ ?_)
     try clear hK3
     refine AW_seq_k (fun K4 hK4 => ?_)
     refine AW_region ?_
     all_goals refine AOps_cons rfl (AOp_move ?_)
     all_goals (try simp only [push_cast, Nat.reduceAdd])
     all_goals (refine AOps_cons rfl (AOp_load_ptr _ _ _ _ rfl (by first | exact hget0 | exact hgetN _ rfl | assumption | exact hgetL (by assumption)) sz27 ag27 (by simp [push_cast]) ?_) <;> try simp only [push_cast, Nat.reduceAdd])
     all_goals (refine AOps_cons rfl (AOp_buildRow _ [_] sl25 sz27 zr27 rfl rfl (by simp [AV.cells, AV.isCell, AV.isAgg, push_cast]) (by decide) rfl ?_) <;> try simp only [push_cast, Nat.reduceAdd])
     all_goals (refine AOps_cons rfl (AOp_build _ _ _ zr27 st27 _ rfl (by first | rfl | (simp [afill, splice, push_cast]; done)) ?_) <;> try simp only [push_cast, Nat.reduceAdd])
     all_goals (refine AOps_cons rfl (AOp_load_ptr _ _ _ _ rfl (by first | exact hget0 | exact hgetN _ rfl | assumption | exact hgetL (by assumption)) sz27 ag27 (by simp [push_cast]) ?_) <;> try simp only [push_cast, Nat.reduceAdd])
     all_goals refine AOps_cons rfl (AOp_call _ _ _ rfl rfl ok7 ?_)
     all_goals (try simp only [push_cast, Nat.reduceAdd])
     all_goals refine ACall.forget (args' := [.sl .none (encL encR exL1), .int .i64 1, encT exF, encT exA]) ⟨Forget.refl _, Forget.refl _, Forget.agg ⟨Forget.refl _, Forget.refl _, ?_, trivial⟩, ?_, trivial⟩ ?_
     · have : exF.args = [exA] := rfl
       have hN : encTs [] = [] := by simp [encTs]
       rw [this, encTs_cons, encT, hA, hN]
       exact Forget.row _ (by simp [encTs]) ⟨Forget.refl _, Forget.refl _, Forget.tok _ _, trivial⟩
     · rw [encT, hA]; exact Forget.agg3 (Forget.tok _ _)
     all_goals refine (greater_ac exL1 1 exF exA (by decide) (fun x hx => by simp [exL1] at hx; rcases hx with rfl | rfl <;> decide) (by simp [exF, exA, Term.bulk_mk]) _).mono ?_
     all_goals rintro r H' ⟨rfl, rfl⟩
     all_goals simp only [ex_greater]
     all_goals (try simp only [push_cast, Nat.reduceAdd])
     all_goals refine AOps_cons rfl (AOp_move ?_)
     all_goals (try simp only [push_cast, Nat.reduceAdd])
     all_goals (refine AOps_cons rfl (AOp_extract _ _ rfl rfl ?_) <;> try simp only [push_cast, Nat.reduceAdd])
     all_goals (refine AOps_cons rfl (AOp_extract _ _ rfl rfl ?_) <;> try simp only [push_cast, Nat.reduceAdd])
     all_goals refine AOps_cons rfl (AOp_assign ?_)
     all_goals (refine AOps_cons rfl (AOp_assign ?_) <;> try simp only [push_cast, Nat.reduceAdd])
     all_goals refine AOps_nil ?_
     all_goals
      refine thenK_normal (hK4 _ ?_)
      try clear hK4
      refine AW_seq_k (fun K5 hK5 => ?_)
      refine AW_region ?_
      all_goals (refine AOps_cons rfl (AOp_build _ _ _ zr63 st63 _ rfl (by first | rfl | (simp [afill, splice, push_cast]; done)) ?_) <;> try simp only [push_cast, Nat.reduceAdd])
      all_goals (refine AOps_cons rfl (AOp_build _ _ _ zr63 st63 _ rfl (by first | rfl | (simp [afill, splice, push_cast]; done)) ?_) <;> try simp only [push_cast, Nat.reduceAdd])
      all_goals (refine AOps_cons rfl (AOp_buildRow _ [_, _] sl22 sz63 zr63 rfl rfl (by simp [AV.cells, AV.isCell, AV.isAgg, push_cast]) (by decide) rfl ?_) <;> try simp only [push_cast, Nat.reduceAdd])
      all_goals (refine AOps_cons rfl (AOp_build _ _ _ zr65 st65 _ rfl (by first | rfl | (simp [afill, splice, push_cast]; done)) ?_) <;> try simp only [push_cast, Nat.reduceAdd])
      all_goals (refine AOps_cons rfl (AOp_build _ _ _ zr65 st65 _ rfl (by first | rfl | (simp [afill, splice, push_cast]; done)) ?_) <;> try simp only [push_cast, Nat.reduceAdd])
      all_goals (refine AOps_cons rfl (AOp_buildRow _ [_, _] sl34 sz65 zr65 rfl rfl (by simp [AV.cells, AV.isCell, AV.isAgg, push_cast]) (by decide) rfl ?_) <;> try simp only [push_cast, Nat.reduceAdd])
      all_goals refine AOps_cons rfl (AOp_call _ _ _ rfl rfl ok22 ?_)
      all_goals (try simp only [push_cast, Nat.reduceAdd])
      all_goals refine (admissible_ac exL2 1 exS (by decide) (fun x hx => by simp [exL2] at hx; rcases hx with rfl | rfl <;> decide) (by decide) (fun x hx => by simp [exS] at hx; rcases hx with rfl | rfl <;> decide) _).mono ?_
      all_goals rintro r H' ⟨rfl, rfl⟩
      all_goals simp only [ex_adm]
      all_goals (try simp only [push_cast, Nat.reduceAdd])
      all_goals refine AOps_cons rfl (AOp_move ?_)
      all_goals (try simp only [push_cast, Nat.reduceAdd])
      all_goals (refine AOps_cons rfl (AOp_extract _ _ rfl rfl ?_) <;> try simp only [push_cast, Nat.reduceAdd])
      all_goals (refine AOps_cons rfl (AOp_extract _ _ rfl rfl ?_) <;> try simp only [push_cast, Nat.reduceAdd])
      all_goals refine AOps_cons rfl (AOp_assign ?_)
      all_goals (refine AOps_cons rfl (AOp_assign ?_) <;> try simp only [push_cast, Nat.reduceAdd])
      all_goals refine AOps_nil ?_
      all_goals
       refine thenK_normal (hK5 _ ?_)
       try clear hK5
       refine AW_seq_k (fun K6 hK6 => ?_)
       refine AW_region ?_
       all_goals refine AOps_cons rfl (AOp_move ?_)
       all_goals (try simp only [push_cast, Nat.reduceAdd])
       all_goals (refine AOps_cons rfl (AOp_bin_int _ _ _ _ rfl rfl rfl ?_) <;> try simp only [push_cast, Nat.reduceAdd])
       all_goals refine AOps_cons rfl (AOp_move ?_)
       all_goals (try simp only [push_cast, Nat.reduceAdd])
       all_goals (try refine AOps_split 32 _ rfl (fun hg7 => ?_) (fun hg7 => ?_))
       all_goals (try (exfalso; (first | (cases hg7; done) | (simp at hg7; done) | (simp at hg7; omega)); done))
       all_goals (try simp only [decide_eq_true_eq, decide_eq_false_iff_not, Bool.not_eq_true', Bool.not_eq_false', Bool.not_eq_eq_eq_not, Bool.not_true, Bool.not_false] at hg7)
       all_goals first
        | refine AOps_skip rfl ?_
        | (refine AOps_cons rfl ?_
           refine AOp_move ?_)
       all_goals (try simp only [push_cast, Nat.reduceAdd])
       all_goals refine AOps_cons rfl (AOp_pick _ rfl ?_)
       all_goals refine AOps_cons rfl (AOp_move ?_)
       all_goals (try simp only [push_cast, Nat.reduceAdd])
       all_goals (try refine AOps_split 35 _ rfl (fun hg8 => ?_) (fun hg8 => ?_))
       all_goals (try (exfalso; (first | (cases hg8; done) | (simp at hg8; done) | (simp at hg8; omega)); done))
       all_goals (try simp only [decide_eq_true_eq, decide_eq_false_iff_not, Bool.not_eq_true', Bool.not_eq_false', Bool.not_eq_eq_eq_not, Bool.not_true, Bool.not_false] at hg8)
       all_goals first
        | refine AOps_skip rfl ?_
        | (refine AOps_cons rfl ?_
           refine AOp_move ?_)
       all_goals (try simp only [push_cast, Nat.reduceAdd])
       all_goals first
        | refine AOps_skip rfl ?_
        | (refine AOps_cons rfl ?_
           refine AOp_bin_int _ _ _ _ rfl rfl rfl ?_)
       all_goals (try simp only [push_cast, Nat.reduceAdd])
       all_goals refine AOps_cons rfl (AOp_pick _ rfl ?_)
       all_goals refine AOps_cons rfl (AOp_move ?_)
       all_goals (try simp only [push_cast, Nat.reduceAdd])
       all_goals (try refine AOps_split 39 _ rfl (fun hg9 => ?_) (fun hg9 => ?_))
       all_goals (try (exfalso; (first | (cases hg9; done) | (simp at hg9; done) | (simp at hg9; omega)); done))
       all_goals (try simp only [decide_eq_true_eq, decide_eq_false_iff_not, Bool.not_eq_true', Bool.not_eq_false', Bool.not_eq_eq_eq_not, Bool.not_true, Bool.not_false] at hg9)
       all_goals first
        | refine AOps_skip rfl ?_
        | (refine AOps_cons rfl ?_
           refine AOp_move ?_)
       all_goals (try simp only [push_cast, Nat.reduceAdd])
       all_goals first
        | refine AOps_skip rfl ?_
        | (refine AOps_cons rfl ?_
           refine AOp_not _ rfl ?_)
       all_goals (try simp only [push_cast, Nat.reduceAdd])
       all_goals refine AOps_cons rfl (AOp_pick _ rfl ?_)
       all_goals (refine AOps_cons rfl (AOp_assign ?_) <;> try simp only [push_cast, Nat.reduceAdd])
       all_goals refine AOps_nil ?_
       all_goals
        refine thenK_normal (hK6 _ ?_)
        try clear hK6
        refine AW_ret ?_
        repeat (first | refine thenK_ret ?_ | refine loopK_ret ?_ | refine blockK_ret ?_)
        refine ⟨by first | exact .inl rfl | exact .inr rfl, _, rfl, (by first | exact outok_app 0 rfl (Nat.zero_le _) (by simp) | exact outok_self), by simp [push_cast], ?_⟩
        simp only [push_cast, Nat.reduceAdd]
        simp
end Ab
set_option maxRecDepth 10000
namespace Ab
open Go Go.Proofs
attribute [local push_cast] encT encR scoped_encR encS scoped_encS
theorem symbolsR_ac (ss : List Sym) (hlen : ss.length < 1099511627776) (hn : ∀ f, f ∈ ss → f.name.length < 1099511627776) (H : List AObj) : ACall Try.prog 25 [.sl .none (encL encS ss)] H (fun r H' => r = .int .i64 (symsCheck ss) ∧ H' = H) := by
  refine ACall_intro (H.length) Try.func25 rfl ?_
  simp only [Try.ntmps25, List.length_cons, List.length_nil, List.replicate, List.cons_append, List.nil_append, Nat.reduceAdd, Nat.reduceSub, Nat.zero_add]
  refine AW_seq_k (fun K1 hK1 => ?_)
  refine AW_region ?_
  all_goals (refine AOps_cons rfl (AOp_assign ?_) <;> try simp only [push_cast, Nat.reduceAdd])
  all_goals refine AOps_nil ?_
  all_goals
   refine thenK_normal (hK1 _ ?_)
   try clear hK1
   refine AW_seq_k (fun K2 hK2 => ?_)
   refine AW_seq_k (fun K3 hK3 => ?_)
   refine AW_region ?_
   all_goals refine AOps_cons rfl (AOp_move ?_)
   all_goals (try simp only [push_cast, Nat.reduceAdd])
   all_goals (refine AOps_cons rfl (AOp_len_sl _ _ _ rfl sl34 ?_) <;> try simp only [push_cast, Nat.reduceAdd])
   all_goals (refine AOps_cons rfl (AOp_move ?_) <;> try simp only [push_cast, Nat.reduceAdd])
   all_goals refine AOps_nil ?_
   all_goals
    refine thenK_normal (hK3 _ ?_)
    try clear hK3
    refine AW_block ?_
    refine AW_loopR (maskG 33 [0, 6, 0, 0]) (fun (i : Nat) => [(9, .int .i64 i)]) (fun _ => _) (fun i => i ≤ ss.length ∧ (ss.take i).any (fun f => !isNameP f.name true) = false) (fun i => ss.length - i) 0 ⟨Nat.zero_le _, by simp⟩ (by (simp only [push_cast, Nat.reduceAdd]; (first | refine weak_app0 ?_ | refine weak_same ?_); (repeat (first | exact SlotsOk.nil | refine SlotsOk.junk ?_ | refine SlotsOk.same (by first | (simp [push_cast]; done) | (simp [push_cast, Scoped, ScopedL, *]; done)) ?_ | refine SlotsOk.tok (by first | rfl | (simp; done)) (by first | (simp [push_cast]; done) | (simp [push_cast, Scoped, ScopedL, *]; done)) ?_ | refine SlotsOk.eq (by first | rfl | (congr 1; omega) | (simp; done) | (simp; omega)) (by first | (simp [push_cast]; done) | (simp [push_cast, Scoped, ScopedL, *]; done)) ?_)))) (fun i hi => ?_)
    (try simp only [push_cast, Nat.reduceAdd])
    refine AW_seq_k (fun K4 hK4 => ?_)
    refine AW_region ?_
    all_goals (refine AOps_cons rfl (AOp_bin_int _ _ _ _ rfl rfl rfl ?_) <;> try simp only [push_cast, Nat.reduceAdd])
    all_goals refine AOps_nil ?_
    all_goals
     refine thenK_normal (hK4 _ ?_)
     try clear hK4
     refine AW_seq_k (fun K5 hK5 => ?_)
     apply AW_cond
     case' hc => exact rfl
     case' hf =>
      intro hc6
      try (exfalso; (first | (cases hc6; done) | (simp at hc6; done) | (simp at hc6; omega)); done)
      all_goals (try simp only [decide_eq_true_eq, decide_eq_false_iff_not, Bool.not_eq_true', Bool.not_eq_false', Bool.not_eq_eq_eq_not, Bool.not_true, Bool.not_false] at hc6)
      all_goals
       refine AW_exit ?_
       repeat (first | refine thenK_exit ?_ | refine loopK_exit ?_ | refine blockK_other (by decide) ?_)
       refine blockK_same ?_
       refine thenK_normal (hK2 _ ?_)
       try clear hK2
       refine AW_seq_k (fun K7 hK7 => ?_)
       refine AW_seq_k (fun K8 hK8 => ?_)
       refine AW_region ?_
       all_goals refine AOps_cons rfl (AOp_move ?_)
       all_goals (try simp only [push_cast, Nat.reduceAdd])
       all_goals (refine AOps_cons rfl (AOp_len_sl _ _ _ rfl sl34 ?_) <;> try simp only [push_cast, Nat.reduceAdd])
       all_goals (refine AOps_cons rfl (AOp_move ?_) <;> try simp only [push_cast, Nat.reduceAdd])
       all_goals refine AOps_nil ?_
       all_goals
        refine thenK_normal (hK8 _ ?_)
        try clear hK8
        refine AW_block ?_
        have hall : ss.take i = ss := List.take_of_length_le (by omega)
        rw [hall] at hi
        refine AW_loopR (maskG 33 [18, 0, 0]) (fun (j : Nat) => [(20, .int .i64 j)]) (fun _ => _) (fun j => j ≤ ss.length ∧ (ss.take j).any (fun f => decide (f.arity < 0) || decide (8 < f.arity)) = false) (fun j => ss.length - j) 0 ⟨Nat.zero_le _, by simp⟩ (by (simp only [push_cast, Nat.reduceAdd]; (first | refine weak_app0 ?_ | refine weak_same ?_); (repeat (first | exact SlotsOk.nil | refine SlotsOk.junk ?_ | refine SlotsOk.same (by first | (simp [push_cast]; done) | (simp [push_cast, Scoped, ScopedL, *]; done)) ?_ | refine SlotsOk.tok (by first | rfl | (simp; done)) (by first | (simp [push_cast]; done) | (simp [push_cast, Scoped, ScopedL, *]; done)) ?_ | refine SlotsOk.eq (by first | rfl | (congr 1; omega) | (simp; done) | (simp; omega)) (by first | (simp [push_cast]; done) | (simp [push_cast, Scoped, ScopedL, *]; done)) ?_)))) (fun j hj => ?_)
        (try simp only [push_cast, Nat.reduceAdd])
        refine AW_seq_k (fun K9 hK9 => ?_)
        refine AW_region ?_
        all_goals (refine AOps_cons rfl (AOp_bin_int _ _ _ _ rfl rfl rfl ?_) <;> try simp only [push_cast, Nat.reduceAdd])
        all_goals refine AOps_nil ?_
        all_goals
         refine thenK_normal (hK9 _ ?_)
         try clear hK9
         refine AW_seq_k (fun K10 hK10 => ?_)
         apply AW_cond
         case' hc => exact rfl
         case' hf =>
          intro hc11
          try (exfalso; (first | (cases hc11; done) | (simp at hc11; done) | (simp at hc11; omega)); done)
          all_goals (try simp only [decide_eq_true_eq, decide_eq_false_iff_not, Bool.not_eq_true', Bool.not_eq_false', Bool.not_eq_eq_eq_not, Bool.not_true, Bool.not_false] at hc11)
          all_goals
           refine AW_exit ?_
           repeat (first | refine thenK_exit ?_ | refine loopK_exit ?_ | refine blockK_other (by decide) ?_)
           refine blockK_same ?_
           refine thenK_normal (hK7 _ ?_)
           try clear hK7
           refine AW_seq_k (fun K12 hK12 => ?_)
           refine AW_region ?_
           all_goals (refine AOps_cons rfl (AOp_assign ?_) <;> try simp only [push_cast, Nat.reduceAdd])
           all_goals refine AOps_nil ?_
           all_goals
            refine thenK_normal (hK12 _ ?_)
            try clear hK12
            refine AW_ret ?_
            repeat (first | refine thenK_ret ?_ | refine loopK_ret ?_ | refine blockK_ret ?_)
            refine ⟨by first | exact .inl rfl | exact .inr rfl, _, rfl, (by first | exact outok_app 0 rfl (Nat.zero_le _) (by simp) | exact outok_self), by simp [push_cast], ?_⟩
            simp only [push_cast, Nat.reduceAdd]
            unfold symsCheck
            first
              | (have hb : isNameP (ss[i]'(by omega)).name true = false := (by assumption)
                 have h1 : (ss.any fun f => !isNameP f.name true) = true := any_get (i := i) (by omega) (by rw [hb]; rfl)
                 rw [h1]; simp; done)
              | (have hall2 : ss.take j = ss := List.take_of_length_le (by omega)
                 rw [hall2] at hj
                 rw [hi.2, hj.2]; simp; done)
              | (have h2 : (ss.any fun f => decide (f.arity < 0) || decide (8 < f.arity)) = true := any_get (i := j) (by omega) (by simp only [Bool.or_eq_true, decide_eq_true_eq]; omega)
                 rw [hi.2, h2]; simp; done)
              | fail "ret"
         case' ht =>
          intro hc11
          try (exfalso; (first | (cases hc11; done) | (simp at hc11; done) | (simp at hc11; omega)); done)
          all_goals (try simp only [decide_eq_true_eq, decide_eq_false_iff_not, Bool.not_eq_true', Bool.not_eq_false', Bool.not_eq_eq_eq_not, Bool.not_true, Bool.not_false] at hc11)
          all_goals
           refine AW_skip ?_
           refine thenK_normal (hK10 _ ?_)
           try clear hK10
           refine AW_seq_k (fun K13 hK13 => ?_)
           refine AW_block ?_
           refine AW_seq_k (fun K14 hK14 => ?_)
           refine AW_region ?_
           all_goals (refine AOps_cons rfl (AOp_indexAddr_sl 65 _ _ _ _ _ rfl rfl sl34 sz65 (by decide) (by exact uni_encS _) (by first | omega | (simp; omega)) (by first | omega | (simp [push_cast]; omega) | (simp [push_cast]; done)) ?_) <;> try simp only [push_cast, Nat.reduceAdd])
           all_goals (refine AOps_cons rfl (AOp_load_cptr _ _ rfl sz65 ag65 (by simp [push_cast]) ?_) <;> try simp only [push_cast, Nat.reduceAdd])
           all_goals (refine AOps_cons rfl (AOp_alloc _ zr65 (by simp [ofVal, AV.isCell, Value.oneCell']) ?_) <;> try simp only [push_cast, Nat.reduceAdd])
           all_goals (refine AOps_cons rfl (AOp_store _ _ _ _ _ rfl (by first | exact hget0 | exact hgetN _ rfl | assumption | exact hgetL (by assumption)) rfl rfl (by first | exact .inl rfl | exact .inr ⟨_, rfl⟩) (by simp [push_cast, AV.isCell]) sz65 (by simp [push_cast]) ?_) <;> try simp only [push_cast, Nat.reduceAdd])
           all_goals refine AOps_nil ?_
           all_goals
            refine thenK_normal (hK14 _ ?_)
            try clear hK14
            refine AW_seq_k (fun K15 hK15 => ?_)
            refine AW_region ?_
            all_goals (refine AOps_cons rfl (AOp_fieldAddr_ptr _ _ _ _ rfl fd65_1 (by decide) ?_) <;> try simp only [push_cast, Nat.reduceAdd])
            all_goals (refine AOps_cons rfl (AOp_load1_ptr _ _ _ _ _ rfl (by first | exact hget0 | exact hgetN _ rfl | assumption | exact hgetL (by assumption)) sz3 ag3 (by decide) (by simp [push_cast]) rfl ?_) <;> try simp only [push_cast, Nat.reduceAdd])
            all_goals (refine AOps_cons rfl (AOp_bin_int _ _ _ _ rfl rfl rfl ?_) <;> try simp only [push_cast, Nat.reduceAdd])
            all_goals refine AOps_cons rfl (AOp_move ?_)
            all_goals (try simp only [push_cast, Nat.reduceAdd])
            all_goals (try refine AOps_split 27 _ rfl (fun hg16 => ?_) (fun hg16 => ?_))
            all_goals (try (exfalso; (first | (cases hg16; done) | (simp at hg16; done) | (simp at hg16; omega)); done))
            all_goals (try simp only [decide_eq_true_eq, decide_eq_false_iff_not, Bool.not_eq_true', Bool.not_eq_false', Bool.not_eq_eq_eq_not, Bool.not_true, Bool.not_false] at hg16)
            all_goals first
             | refine AOps_skip rfl ?_
             | (refine AOps_cons rfl ?_
                refine AOp_fieldAddr_ptr _ _ _ _ rfl fd65_1 (by decide) ?_)
            all_goals (try simp only [push_cast, Nat.reduceAdd])
            all_goals first
             | refine AOps_skip rfl ?_
             | (refine AOps_cons rfl ?_
                refine AOp_load1_ptr _ _ _ _ _ rfl (by first | exact hget0 | exact hgetN _ rfl | assumption | exact hgetL (by assumption)) sz3 ag3 (by decide) (by simp [push_cast]) rfl ?_)
            all_goals (try simp only [push_cast, Nat.reduceAdd])
            all_goals first
             | refine AOps_skip rfl ?_
             | (refine AOps_cons rfl ?_
                refine AOp_bin_int _ _ _ _ rfl rfl rfl ?_)
            all_goals (try simp only [push_cast, Nat.reduceAdd])
            all_goals (refine AOps_cons rfl (AOp_pick _ rfl ?_) <;> try simp only [push_cast, Nat.reduceAdd])
            all_goals refine AOps_nil ?_
            all_goals
             refine thenK_normal (hK15 _ ?_)
             try clear hK15
             apply AW_cond
             case' hc => exact rfl
             case' hf =>
              intro hc17
              try (exfalso; (first | (cases hc17; done) | (simp at hc17; done) | (simp at hc17; omega)); done)
              all_goals (try simp only [decide_eq_true_eq, decide_eq_false_iff_not, Bool.not_eq_true', Bool.not_eq_false', Bool.not_eq_eq_eq_not, Bool.not_true, Bool.not_false] at hc17)
              all_goals
               refine AW_skip ?_
               refine blockK_normal ?_
               refine thenK_normal (hK13 _ ?_)
               try clear hK13
               refine AW_region ?_
               all_goals refine AOps_cons rfl (AOp_bin_int _ _ _ _ rfl rfl rfl ?_)
               all_goals (try simp only [push_cast, Nat.reduceAdd])
               all_goals (try rw [IntWalk.i64_in _ (by omega)])
               all_goals (try simp only [push_cast, Nat.reduceAdd])
               all_goals (refine AOps_cons rfl (AOp_move ?_) <;> try simp only [push_cast, Nat.reduceAdd])
               all_goals refine AOps_nil ?_
               all_goals
                refine loopK_normal ?_
                refine ⟨j + 1, ⟨by omega, any_take_false hj.2 (by omega) ?_⟩, by (simp only [push_cast, Nat.reduceAdd]; (first | refine weak_app0 ?_ | refine weak_same ?_); (repeat (first | exact SlotsOk.nil | refine SlotsOk.junk ?_ | refine SlotsOk.same (by first | (simp [push_cast]; done) | (simp [push_cast, Scoped, ScopedL, *]; done)) ?_ | refine SlotsOk.tok (by first | rfl | (simp; done)) (by first | (simp [push_cast]; done) | (simp [push_cast, Scoped, ScopedL, *]; done)) ?_ | refine SlotsOk.eq (by first | rfl | (congr 1; omega) | (simp; done) | (simp; omega)) (by first | (simp [push_cast]; done) | (simp [push_cast, Scoped, ScopedL, *]; done)) ?_))), by omega⟩
                simp only [Bool.or_eq_false_iff, decide_eq_false_iff_not]; constructor <;> omega
             case' ht =>
              intro hc17
              try (exfalso; (first | (cases hc17; done) | (simp at hc17; done) | (simp at hc17; omega)); done)
              all_goals (try simp only [decide_eq_true_eq, decide_eq_false_iff_not, Bool.not_eq_true', Bool.not_eq_false', Bool.not_eq_eq_eq_not, Bool.not_true, Bool.not_false] at hc17)
              all_goals
               refine AW_seq_k (fun K18 hK18 => ?_)
               refine AW_region ?_
               all_goals (refine AOps_cons rfl (AOp_assign ?_) <;> try simp only [push_cast, Nat.reduceAdd])
               all_goals refine AOps_nil ?_
               all_goals
                refine thenK_normal (hK18 _ ?_)
                try clear hK18
                refine AW_ret ?_
                repeat (first | refine thenK_ret ?_ | refine loopK_ret ?_ | refine blockK_ret ?_)
                refine ⟨by first | exact .inl rfl | exact .inr rfl, _, rfl, (by first | exact outok_app 0 rfl (Nat.zero_le _) (by simp) | exact outok_self), by simp [push_cast], ?_⟩
                simp only [push_cast, Nat.reduceAdd]
                unfold symsCheck
                first
                  | (have hb : isNameP (ss[i]'(by omega)).name true = false := (by assumption)
                     have h1 : (ss.any fun f => !isNameP f.name true) = true := any_get (i := i) (by omega) (by rw [hb]; rfl)
                     rw [h1]; simp; done)
                  | (have hall2 : ss.take j = ss := List.take_of_length_le (by omega)
                     rw [hall2] at hj
                     rw [hi.2, hj.2]; simp; done)
                  | (have h2 : (ss.any fun f => decide (f.arity < 0) || decide (8 < f.arity)) = true := any_get (i := j) (by omega) (by simp only [Bool.or_eq_true, decide_eq_true_eq]; omega)
                     rw [hi.2, h2]; simp; done)
                  | fail "ret"
     case' ht =>
      intro hc6
      try (exfalso; (first | (cases hc6; done) | (simp at hc6; done) | (simp at hc6; omega)); done)
      all_goals (try simp only [decide_eq_true_eq, decide_eq_false_iff_not, Bool.not_eq_true', Bool.not_eq_false', Bool.not_eq_eq_eq_not, Bool.not_true, Bool.not_false] at hc6)
      all_goals
       refine AW_skip ?_
       refine thenK_normal (hK5 _ ?_)
       try clear hK5
       refine AW_seq_k (fun K19 hK19 => ?_)
       refine AW_block ?_
       refine AW_seq_k (fun K20 hK20 => ?_)
       refine AW_region ?_
       all_goals (refine AOps_cons rfl (AOp_indexAddr_sl 65 _ _ _ _ _ rfl rfl sl34 sz65 (by decide) (by exact uni_encS _) (by first | omega | (simp; omega)) (by first | omega | (simp [push_cast]; omega) | (simp [push_cast]; done)) ?_) <;> try simp only [push_cast, Nat.reduceAdd])
       all_goals (refine AOps_cons rfl (AOp_load_cptr _ _ rfl sz65 ag65 (by simp [push_cast]) ?_) <;> try simp only [push_cast, Nat.reduceAdd])
       all_goals (refine AOps_cons rfl (AOp_alloc _ zr65 (by simp [ofVal, AV.isCell, Value.oneCell']) ?_) <;> try simp only [push_cast, Nat.reduceAdd])
       all_goals (refine AOps_cons rfl (AOp_store _ _ _ _ _ rfl (by first | exact hget0 | exact hgetN _ rfl | assumption | exact hgetL (by assumption)) rfl rfl (by first | exact .inl rfl | exact .inr ⟨_, rfl⟩) (by simp [push_cast, AV.isCell]) sz65 (by simp [push_cast]) ?_) <;> try simp only [push_cast, Nat.reduceAdd])
       all_goals refine AOps_nil ?_
       all_goals
        refine thenK_normal (hK20 _ ?_)
        try clear hK20
        refine AW_seq_k (fun K21 hK21 => ?_)
        refine AW_region ?_
        all_goals (refine AOps_cons rfl (AOp_fieldAddr_ptr _ _ _ _ rfl fd65_0 (by decide) ?_) <;> try simp only [push_cast, Nat.reduceAdd])
        all_goals (refine AOps_cons rfl (AOp_load1_ptr _ _ _ _ _ rfl (by first | exact hget0 | exact hgetN _ rfl | assumption | exact hgetL (by assumption)) sz9 ag9 (by decide) (by simp [push_cast]) rfl ?_) <;> try simp only [push_cast, Nat.reduceAdd])
        all_goals refine AOps_cons rfl (AOp_call _ _ _ rfl rfl ok36 ?_)
        all_goals (try simp only [push_cast, Nat.reduceAdd])
        all_goals refine (isNameR_ac _ _ (hn _ (by simp)) _).mono ?_
        all_goals rintro r H' ⟨rfl, rfl⟩
        all_goals (try simp only [push_cast, Nat.reduceAdd])
        all_goals (refine AOps_cons rfl (AOp_not _ rfl ?_) <;> try simp only [push_cast, Nat.reduceAdd])
        all_goals refine AOps_nil ?_
        all_goals
         refine thenK_normal (hK21 _ ?_)
         try clear hK21
         apply AW_cond
         case' hc => exact rfl
         case' hf =>
          intro hc22
          try (exfalso; (first | (cases hc22; done) | (simp at hc22; done) | (simp at hc22; omega)); done)
          all_goals (try simp only [decide_eq_true_eq, decide_eq_false_iff_not, Bool.not_eq_true', Bool.not_eq_false', Bool.not_eq_eq_eq_not, Bool.not_true, Bool.not_false] at hc22)
          all_goals
           refine AW_skip ?_
           refine blockK_normal ?_
           refine thenK_normal (hK19 _ ?_)
           try clear hK19
           refine AW_region ?_
           all_goals refine AOps_cons rfl (AOp_bin_int _ _ _ _ rfl rfl rfl ?_)
           all_goals (try simp only [push_cast, Nat.reduceAdd])
           all_goals (try rw [IntWalk.i64_in _ (by omega)])
           all_goals (try simp only [push_cast, Nat.reduceAdd])
           all_goals (refine AOps_cons rfl (AOp_move ?_) <;> try simp only [push_cast, Nat.reduceAdd])
           all_goals refine AOps_nil ?_
           all_goals
            refine loopK_normal ?_
            refine ⟨i + 1, ⟨by omega, any_take_false hi.2 (by omega) ?_⟩, by (simp only [push_cast, Nat.reduceAdd]; (first | refine weak_app0 ?_ | refine weak_same ?_); (repeat (first | exact SlotsOk.nil | refine SlotsOk.junk ?_ | refine SlotsOk.same (by first | (simp [push_cast]; done) | (simp [push_cast, Scoped, ScopedL, *]; done)) ?_ | refine SlotsOk.tok (by first | rfl | (simp; done)) (by first | (simp [push_cast]; done) | (simp [push_cast, Scoped, ScopedL, *]; done)) ?_ | refine SlotsOk.eq (by first | rfl | (congr 1; omega) | (simp; done) | (simp; omega)) (by first | (simp [push_cast]; done) | (simp [push_cast, Scoped, ScopedL, *]; done)) ?_))), by omega⟩
            have hb : isNameP (ss[i]'(by omega)).name true = true := by assumption
            rw [hb]; rfl
         case' ht =>
          intro hc22
          try (exfalso; (first | (cases hc22; done) | (simp at hc22; done) | (simp at hc22; omega)); done)
          all_goals (try simp only [decide_eq_true_eq, decide_eq_false_iff_not, Bool.not_eq_true', Bool.not_eq_false', Bool.not_eq_eq_eq_not, Bool.not_true, Bool.not_false] at hc22)
          all_goals
           refine AW_seq_k (fun K23 hK23 => ?_)
           refine AW_region ?_
           all_goals (refine AOps_cons rfl (AOp_assign ?_) <;> try simp only [push_cast, Nat.reduceAdd])
           all_goals refine AOps_nil ?_
           all_goals
            refine thenK_normal (hK23 _ ?_)
            try clear hK23
            refine AW_ret ?_
            repeat (first | refine thenK_ret ?_ | refine loopK_ret ?_ | refine blockK_ret ?_)
            refine ⟨by first | exact .inl rfl | exact .inr rfl, _, rfl, (by first | exact outok_app 0 rfl (Nat.zero_le _) (by simp) | exact outok_self), by simp [push_cast], ?_⟩
            simp only [push_cast, Nat.reduceAdd]
            unfold symsCheck
            first
              | (have hb : isNameP (ss[i]'(by omega)).name true = false := (by assumption)
                 have h1 : (ss.any fun f => !isNameP f.name true) = true := any_get (i := i) (by omega) (by rw [hb]; rfl)
                 rw [h1]; simp; done)
              | (have hall2 : ss.take j = ss := List.take_of_length_le (by omega)
                 rw [hall2] at hj
                 rw [hi.2, hj.2]; simp; done)
              | (have h2 : (ss.any fun f => decide (f.arity < 0) || decide (8 < f.arity)) = true := any_get (i := j) (by omega) (by simp only [Bool.or_eq_true, decide_eq_true_eq]; omega)
                 rw [hi.2, h2]; simp; done)
              | fail "ret"
end Ab
set_option maxRecDepth 10000
namespace Ab
open Go Go.Proofs
attribute [local push_cast] encT encR scoped_encR encS scoped_encS
set_option maxHeartbeats 3200000 in
theorem checksLaw_ac (l : List Rank) (unit : Int) (ss : List Sym) (t : Term) (hlen : l.length < 1099511627776) (hnl : ∀ x, x ∈ l → x.name.length < 1099511627776) (hlen2 : ss.length < 1099511627776) (hn : ∀ f, f ∈ ss → f.name.length < 1099511627776) (hb : t.bulk ≤ 1099511627775) (H : List AObj) :
    ACall Try.prog 6 [.agg [.sl .none (encL encR l), .int .i64 unit], .sl .none (encL encS ss), encT t] H (fun r H' => r = .bool true ∧ H' = H) := by
  obtain ⟨g, e, hge⟩ : ∃ g e, admP l unit ss = (g, e) := ⟨_, _, rfl⟩
  obtain ⟨m, f, hmf⟩ : ∃ m f, weighP l unit t = (m, f) := ⟨_, _, rfl⟩
  have hfo := fun h => fitsR_eq l unit (good_of_check (l := l) (unit := unit) h).2 ss ss (fun f => Iff.rfl)
  unfold admP at hge
  unfold weighP at hmf
  refine ACall_intro (H.length) Try.func6 rfl ?_
  simp only [Try.ntmps6, List.length_cons, List.length_nil, List.replicate, List.cons_append, List.nil_append, Nat.reduceAdd, Nat.reduceSub, Nat.zero_add]
  refine AW_seq_k (fun K1 hK1 => ?_)
  refine AW_region ?_
  all_goals (refine AOps_cons rfl (AOp_box _ _ rfl rfl (by first | exact .inl rfl | exact .inr ⟨_, rfl⟩) (by simp [push_cast, AV.isCell]) ?_) <;> try simp only [push_cast, Nat.reduceAdd])
  all_goals (refine AOps_cons rfl (AOp_box _ _ rfl rfl (by first | exact .inl rfl | exact .inr ⟨_, rfl⟩) (by simp [push_cast, AV.isCell]) ?_) <;> try simp only [push_cast, Nat.reduceAdd])
  all_goals (refine AOps_cons rfl (AOp_assign ?_) <;> try simp only [push_cast, Nat.reduceAdd])
  all_goals refine AOps_nil ?_
  all_goals
   refine thenK_normal (hK1 _ ?_)
   try clear hK1
   refine AW_seq_k (fun K2 hK2 => ?_)
   refine AW_region ?_
   all_goals (refine AOps_cons rfl (AOp_fieldAddr_ptr _ _ _ _ rfl fd24_0 (by decide) ?_) <;> try simp only [push_cast, Nat.reduceAdd])
   all_goals (refine AOps_cons rfl (AOp_load1_ptr _ _ _ _ _ rfl (by first | exact hget0 | exact hgetN _ rfl | assumption | exact hgetL (by assumption)) sz22 ag22 (by decide) (by simp [push_cast]) rfl ?_) <;> try simp only [push_cast, Nat.reduceAdd])
   all_goals (refine AOps_cons rfl (AOp_fieldAddr_ptr _ _ _ _ rfl fd24_1 (by decide) ?_) <;> try simp only [push_cast, Nat.reduceAdd])
   all_goals (refine AOps_cons rfl (AOp_load1_ptr _ _ _ _ _ rfl (by first | exact hget0 | exact hgetN _ rfl | assumption | exact hgetL (by assumption)) sz3 ag3 (by decide) (by simp [push_cast]) rfl ?_) <;> try simp only [push_cast, Nat.reduceAdd])
   all_goals refine AOps_cons rfl (AOp_call _ _ _ rfl rfl ok8 ?_)
   all_goals (try simp only [push_cast, Nat.reduceAdd])
   all_goals refine (checkR7_ac l unit hlen hnl _).mono ?_
   all_goals rintro r H' ⟨rfl, rfl⟩
   all_goals (try simp only [push_cast, Nat.reduceAdd])
   all_goals (refine AOps_cons rfl (AOp_assign ?_) <;> try simp only [push_cast, Nat.reduceAdd])
   all_goals refine AOps_nil ?_
   all_goals
    refine thenK_normal (hK2 _ ?_)
    try clear hK2
    refine AW_seq_k (fun K3 hK3 => ?_)
    refine AW_region ?_
    all_goals (refine AOps_cons rfl (AOp_fieldAddr_ptr _ _ _ _ rfl fd24_0 (by decide) ?_) <;> try simp only [push_cast, Nat.reduceAdd])
    all_goals (refine AOps_cons rfl (AOp_load1_ptr _ _ _ _ _ rfl (by first | exact hget0 | exact hgetN _ rfl | assumption | exact hgetL (by assumption)) sz22 ag22 (by decide) (by simp [push_cast]) rfl ?_) <;> try simp only [push_cast, Nat.reduceAdd])
    all_goals (refine AOps_cons rfl (AOp_fieldAddr_ptr _ _ _ _ rfl fd24_1 (by decide) ?_) <;> try simp only [push_cast, Nat.reduceAdd])
    all_goals (refine AOps_cons rfl (AOp_load1_ptr _ _ _ _ _ rfl (by first | exact hget0 | exact hgetN _ rfl | assumption | exact hgetL (by assumption)) sz3 ag3 (by decide) (by simp [push_cast]) rfl ?_) <;> try simp only [push_cast, Nat.reduceAdd])
    all_goals refine AOps_cons rfl (AOp_move ?_)
    all_goals (try simp only [push_cast, Nat.reduceAdd])
    all_goals refine AOps_cons rfl (AOp_call _ _ _ rfl rfl ok22 ?_)
    all_goals (try simp only [push_cast, Nat.reduceAdd])
    all_goals refine (admissible_ac l unit ss hlen hnl hlen2 hn _).mono ?_
    all_goals rintro r H' ⟨rfl, rfl⟩
    all_goals unfold admP
    all_goals simp only [hge]
    all_goals (try simp only [push_cast, Nat.reduceAdd])
    all_goals refine AOps_cons rfl (AOp_move ?_)
    all_goals (try simp only [push_cast, Nat.reduceAdd])
    all_goals (refine AOps_cons rfl (AOp_extract _ _ rfl rfl ?_) <;> try simp only [push_cast, Nat.reduceAdd])
    all_goals (refine AOps_cons rfl (AOp_extract _ _ rfl rfl ?_) <;> try simp only [push_cast, Nat.reduceAdd])
    all_goals refine AOps_cons rfl (AOp_assign ?_)
    all_goals (refine AOps_cons rfl (AOp_assign ?_) <;> try simp only [push_cast, Nat.reduceAdd])
    all_goals refine AOps_nil ?_
    all_goals
     refine thenK_normal (hK3 _ ?_)
     try clear hK3
     refine AW_seq_k (fun K4 hK4 => ?_)
     refine AW_region ?_
     all_goals (refine AOps_cons rfl (AOp_fieldAddr_ptr _ _ _ _ rfl fd24_0 (by decide) ?_) <;> try simp only [push_cast, Nat.reduceAdd])
     all_goals (refine AOps_cons rfl (AOp_load1_ptr _ _ _ _ _ rfl (by first | exact hget0 | exact hgetN _ rfl | assumption | exact hgetL (by assumption)) sz22 ag22 (by decide) (by simp [push_cast]) rfl ?_) <;> try simp only [push_cast, Nat.reduceAdd])
     all_goals (refine AOps_cons rfl (AOp_fieldAddr_ptr _ _ _ _ rfl fd24_1 (by decide) ?_) <;> try simp only [push_cast, Nat.reduceAdd])
     all_goals (refine AOps_cons rfl (AOp_load1_ptr _ _ _ _ _ rfl (by first | exact hget0 | exact hgetN _ rfl | assumption | exact hgetL (by assumption)) sz3 ag3 (by decide) (by simp [push_cast]) rfl ?_) <;> try simp only [push_cast, Nat.reduceAdd])
     all_goals (refine AOps_cons rfl (AOp_load_ptr _ _ _ _ rfl (by first | exact hget0 | exact hgetN _ rfl | assumption | exact hgetL (by assumption)) sz27 ag27 (by simp [push_cast]) ?_) <;> try simp only [push_cast, Nat.reduceAdd])
     all_goals refine AOps_cons rfl (AOp_call _ _ _ rfl rfl ok23 ?_)
     all_goals (try simp only [push_cast, Nat.reduceAdd])
     all_goals refine (weigh_ac l unit t hlen hnl hb _).mono ?_
     all_goals rintro r H' ⟨rfl, rfl⟩
     all_goals unfold weighP
     all_goals simp only [hmf]
     all_goals (try simp only [push_cast, Nat.reduceAdd])
     all_goals refine AOps_cons rfl (AOp_move ?_)
     all_goals (try simp only [push_cast, Nat.reduceAdd])
     all_goals (refine AOps_cons rfl (AOp_extract _ _ rfl rfl ?_) <;> try simp only [push_cast, Nat.reduceAdd])
     all_goals (refine AOps_cons rfl (AOp_extract _ _ rfl rfl ?_) <;> try simp only [push_cast, Nat.reduceAdd])
     all_goals refine AOps_cons rfl (AOp_assign ?_)
     all_goals (refine AOps_cons rfl (AOp_assign ?_) <;> try simp only [push_cast, Nat.reduceAdd])
     all_goals refine AOps_nil ?_
     all_goals
      refine thenK_normal (hK4 _ ?_)
      try clear hK4
      refine AW_seq_k (fun K5 hK5 => ?_)
      refine AW_seq_k (fun K6 hK6 => ?_)
      refine AW_region ?_
      all_goals (refine AOps_cons rfl (AOp_fieldAddr_ptr _ _ _ _ rfl fd24_0 (by decide) ?_) <;> try simp only [push_cast, Nat.reduceAdd])
      all_goals (refine AOps_cons rfl (AOp_load1_ptr _ _ _ _ _ rfl (by first | exact hget0 | exact hgetN _ rfl | assumption | exact hgetL (by assumption)) sz22 ag22 (by decide) (by simp [push_cast]) rfl ?_) <;> try simp only [push_cast, Nat.reduceAdd])
      all_goals (refine AOps_cons rfl (AOp_fieldAddr_ptr _ _ _ _ rfl fd24_1 (by decide) ?_) <;> try simp only [push_cast, Nat.reduceAdd])
      all_goals (refine AOps_cons rfl (AOp_load1_ptr _ _ _ _ _ rfl (by first | exact hget0 | exact hgetN _ rfl | assumption | exact hgetL (by assumption)) sz3 ag3 (by decide) (by simp [push_cast]) rfl ?_) <;> try simp only [push_cast, Nat.reduceAdd])
      all_goals refine AOps_cons rfl (AOp_call _ _ _ rfl rfl ok24 ?_)
      all_goals (try simp only [push_cast, Nat.reduceAdd])
      all_goals refine (wcheck_ac l unit hlen hnl _).mono ?_
      all_goals rintro r H' ⟨rfl, rfl⟩
      all_goals (try simp only [push_cast, Nat.reduceAdd])
      all_goals refine AOps_cons rfl (AOp_move ?_)
      all_goals (try simp only [push_cast, Nat.reduceAdd])
      all_goals (refine AOps_cons rfl (AOp_bin_int _ _ _ _ rfl rfl rfl ?_) <;> try simp only [push_cast, Nat.reduceAdd])
      all_goals refine AOps_nil ?_
      all_goals
       refine thenK_normal (hK6 _ ?_)
       try clear hK6
       apply AW_cond
       case' hc => exact rfl
       case' hf =>
        intro hc7
        try (exfalso; (first | (cases hc7; done) | (simp at hc7; done) | (simp at hc7; omega)); done)
        all_goals (try simp only [decide_eq_true_eq, decide_eq_false_iff_not, Bool.not_eq_true', Bool.not_eq_false', Bool.not_eq_eq_eq_not, Bool.not_true, Bool.not_false] at hc7)
        all_goals
         refine AW_skip ?_
         refine thenK_normal (hK5 _ ?_)
         try clear hK5
         refine AW_seq_k (fun K8 hK8 => ?_)
         refine AW_region ?_
         all_goals refine AOps_cons rfl (AOp_move ?_)
         all_goals refine AOps_cons rfl (AOp_move ?_)
         all_goals refine AOps_cons rfl (AOp_assign ?_)
         all_goals (refine AOps_cons rfl (AOp_assign ?_) <;> try simp only [push_cast, Nat.reduceAdd])
         all_goals refine AOps_nil ?_
         all_goals
          refine thenK_normal (hK8 _ ?_)
          try clear hK8
          refine AW_seq_k (fun K9 hK9 => ?_)
          refine AW_seq_k (fun K10 hK10 => ?_)
          refine AW_region ?_
          all_goals refine AOps_cons rfl (AOp_move ?_)
          all_goals (try simp only [push_cast, Nat.reduceAdd])
          all_goals (refine AOps_cons rfl (AOp_bin_int _ _ _ _ rfl rfl rfl ?_) <;> try simp only [push_cast, Nat.reduceAdd])
          all_goals refine AOps_nil ?_
          all_goals
           refine thenK_normal (hK10 _ ?_)
           try clear hK10
           apply AW_cond
           case' hc => exact rfl
           case' hf =>
            intro hc11
            try (exfalso; (first | (cases hc11; done) | (simp at hc11; done) | (simp at hc11; omega)); done)
            all_goals (try simp only [decide_eq_true_eq, decide_eq_false_iff_not, Bool.not_eq_true', Bool.not_eq_false', Bool.not_eq_eq_eq_not, Bool.not_true, Bool.not_false] at hc11)
            all_goals
             refine AW_skip ?_
           case' ht =>
            intro hc11
            try (exfalso; (first | (cases hc11; done) | (simp at hc11; done) | (simp at hc11; omega)); done)
            all_goals (try simp only [decide_eq_true_eq, decide_eq_false_iff_not, Bool.not_eq_true', Bool.not_eq_false', Bool.not_eq_eq_eq_not, Bool.not_true, Bool.not_false] at hc11)
            all_goals
             apply AW_drawE [some 48, some 49, some 50, some 51, some 12, some 13] [([], _)] [none, none, none, none, none, none] 0 [(0, [], [1]), (1, [], [48]), (2, [], [5]), (3, [], [50]), (4, [], [49]), (5, [], [51])] [_, _, _, _, _, _]
             case' hm => exact dr
             case' hn => rfl
             case' hok => rfl
             case' hlen => rfl
             case' hd => rfl
             case' h0 => rfl
             case' hstep =>
              simp only [DAllG, keepG, List.map_cons, List.map_nil, putD, stg, beqB, List.set_cons_zero, List.set_cons_succ, List.getD_cons_zero, List.getD_cons_succ, Option.isSome_some, Option.isSome_none]
              apply And.intro
              · apply DOne_do
                case' ho => rfl
                case' hw => rfl
                refine AOp_move ?_
                all_goals (try simp only [push_cast, Nat.reduceAdd])
                all_goals (constructor <;> first | rfl | trivial)
              apply And.intro
              · apply DOne_do
                case' ho => rfl
                case' hw => rfl
                refine AOp_call _ _ _ rfl rfl ok25 ?_
                (try simp only [push_cast, Nat.reduceAdd])
                refine (symbolsR_ac ss hlen2 hn _).mono ?_
                rintro r H' ⟨rfl, rfl⟩
                all_goals (try simp only [push_cast, Nat.reduceAdd])
                all_goals (constructor <;> first | rfl | trivial)
              apply And.intro
              · apply DOne_do
                case' ho => rfl
                case' hw => rfl
                refine AOp_load_ptr _ _ _ _ rfl (by first | exact hget0 | exact hgetN _ rfl | assumption | exact hgetL (by assumption)) sz27 ag27 (by simp [push_cast]) ?_
                all_goals (try simp only [push_cast, Nat.reduceAdd])
                all_goals (constructor <;> first | rfl | trivial)
              apply And.intro
              · apply DOne_do
                case' ho => rfl
                case' hw => rfl
                refine AOp_call _ _ _ rfl rfl ok20 ?_
                (try simp only [push_cast, Nat.reduceAdd])
                refine (checkR_ac t hb _).mono ?_
                rintro r H' ⟨rfl, rfl⟩
                all_goals (try simp only [push_cast, Nat.reduceAdd])
                all_goals (constructor <;> first | rfl | trivial)
              apply And.intro
              · apply DOne_do
                case' ho => rfl
                case' hw => rfl
                refine AOp_assign ?_
                all_goals (try simp only [push_cast, Nat.reduceAdd])
                all_goals (constructor <;> first | rfl | trivial)
              apply And.intro
              · apply DOne_do
                case' ho => rfl
                case' hw => rfl
                refine AOp_assign ?_
                all_goals (try simp only [push_cast, Nat.reduceAdd])
                all_goals (constructor <;> first | rfl | trivial)
              exact trivial
             case' hQ => skip
             (try simp only [push_cast, putD, stg, beqB, List.replicate, Nat.reduceAdd, List.getD_cons_zero, List.getD_cons_succ])
           all_goals
            refine thenK_normal (hK9 _ ?_)
            try clear hK9
            refine AW_seq_k (fun K12 hK12 => ?_)
            refine AW_seq_k (fun K13 hK13 => ?_)
            refine AW_region ?_
            all_goals refine AOps_cons rfl (AOp_move ?_)
            all_goals (try simp only [push_cast, Nat.reduceAdd])
            all_goals (refine AOps_cons rfl (AOp_bin_int _ _ _ _ rfl rfl rfl ?_) <;> try simp only [push_cast, Nat.reduceAdd])
            all_goals refine AOps_cons rfl (AOp_move ?_)
            all_goals (try simp only [push_cast, Nat.reduceAdd])
            all_goals (try refine AOps_split 54 _ rfl (fun hg14 => ?_) (fun hg14 => ?_))
            all_goals (try (exfalso; (first | (cases hg14; done) | (simp at hg14; done) | (simp at hg14; omega)); done))
            all_goals (try simp only [decide_eq_true_eq, decide_eq_false_iff_not, Bool.not_eq_true', Bool.not_eq_false', Bool.not_eq_eq_eq_not, Bool.not_true, Bool.not_false] at hg14)
            all_goals first
             | refine AOps_skip rfl ?_
             | (refine AOps_cons rfl ?_
                refine AOp_move ?_)
            all_goals (try simp only [push_cast, Nat.reduceAdd])
            all_goals first
             | refine AOps_skip rfl ?_
             | (refine AOps_cons rfl ?_
                refine AOp_move ?_)
            all_goals (try simp only [push_cast, Nat.reduceAdd])
            all_goals (try refine AOps_split 56 _ rfl (fun hg15 => ?_) (fun hg15 => ?_))
            all_goals (try (exfalso; (first | (cases hg15; done) | (simp at hg15; done) | (simp at hg15; omega)); done))
            all_goals (try simp only [decide_eq_true_eq, decide_eq_false_iff_not, Bool.not_eq_true', Bool.not_eq_false', Bool.not_eq_eq_eq_not, Bool.not_true, Bool.not_false] at hg15)
            all_goals first
             | refine AOps_skip rfl ?_
             | (refine AOps_cons rfl ?_
                refine AOp_move ?_)
            all_goals (try simp only [push_cast, Nat.reduceAdd])
            all_goals first
             | refine AOps_skip rfl ?_
             | (refine AOps_cons rfl ?_
                refine AOp_move ?_)
            all_goals (try simp only [push_cast, Nat.reduceAdd])
            all_goals first
             | refine AOps_skip rfl ?_
             | (refine AOps_cons rfl ?_
                refine AOp_bin_int _ _ _ _ rfl rfl rfl ?_)
            all_goals (try simp only [push_cast, Nat.reduceAdd])
            all_goals first
             | refine AOps_skip rfl ?_
             | (refine AOps_cons rfl ?_
                refine AOp_pick _ rfl ?_)
            all_goals (try simp only [push_cast, Nat.reduceAdd])
            all_goals refine AOps_cons rfl (AOp_pick _ rfl ?_)
            all_goals refine AOps_cons rfl (AOp_move ?_)
            all_goals (try simp only [push_cast, Nat.reduceAdd])
            all_goals (try refine AOps_split 62 _ rfl (fun hg16 => ?_) (fun hg16 => ?_))
            all_goals (try (exfalso; (first | (cases hg16; done) | (simp at hg16; done) | (simp at hg16; omega)); done))
            all_goals (try simp only [decide_eq_true_eq, decide_eq_false_iff_not, Bool.not_eq_true', Bool.not_eq_false', Bool.not_eq_eq_eq_not, Bool.not_true, Bool.not_false] at hg16)
            all_goals first
             | refine AOps_skip rfl ?_
             | (refine AOps_cons rfl ?_
                refine AOp_move ?_)
            all_goals (try simp only [push_cast, Nat.reduceAdd])
            all_goals first
             | refine AOps_skip rfl ?_
             | (refine AOps_cons rfl ?_
                refine AOp_bin_int _ _ _ _ rfl rfl rfl ?_)
            all_goals (try simp only [push_cast, Nat.reduceAdd])
            all_goals first
             | refine AOps_skip rfl ?_
             | (refine AOps_cons rfl ?_
                refine AOp_move ?_)
            all_goals (try simp only [push_cast, Nat.reduceAdd])
            all_goals (try refine AOps_split 65 _ rfl (fun hg17 => ?_) (fun hg17 => ?_))
            all_goals (try (exfalso; (first | (cases hg17; done) | (simp at hg17; done) | (simp at hg17; omega)); done))
            all_goals (try simp only [decide_eq_true_eq, decide_eq_false_iff_not, Bool.not_eq_true', Bool.not_eq_false', Bool.not_eq_eq_eq_not, Bool.not_true, Bool.not_false] at hg17)
            all_goals first
             | refine AOps_skip rfl ?_
             | (refine AOps_cons rfl ?_
                refine AOp_move ?_)
            all_goals (try simp only [push_cast, Nat.reduceAdd])
            all_goals first
             | refine AOps_skip rfl ?_
             | (refine AOps_cons rfl ?_
                refine AOp_bin_int _ _ _ _ rfl rfl rfl ?_)
            all_goals (try simp only [push_cast, Nat.reduceAdd])
            all_goals first
             | refine AOps_skip rfl ?_
             | (refine AOps_cons rfl ?_
                refine AOp_move ?_)
            all_goals (try simp only [push_cast, Nat.reduceAdd])
            all_goals (try refine AOps_split 68 _ rfl (fun hg18 => ?_) (fun hg18 => ?_))
            all_goals (try (exfalso; (first | (cases hg18; done) | (simp at hg18; done) | (simp at hg18; omega)); done))
            all_goals (try simp only [decide_eq_true_eq, decide_eq_false_iff_not, Bool.not_eq_true', Bool.not_eq_false', Bool.not_eq_eq_eq_not, Bool.not_true, Bool.not_false] at hg18)
            all_goals first
             | refine AOps_skip rfl ?_
             | (refine AOps_cons rfl ?_
                refine AOp_move ?_)
            all_goals (try simp only [push_cast, Nat.reduceAdd])
            all_goals first
             | refine AOps_skip rfl ?_
             | (refine AOps_cons rfl ?_
                refine AOp_fieldAddr_ptr _ _ _ _ rfl fd24_0 (by decide) ?_)
            all_goals (try simp only [push_cast, Nat.reduceAdd])
            all_goals first
             | refine AOps_skip rfl ?_
             | (refine AOps_cons rfl ?_
                refine AOp_load1_ptr _ _ _ _ _ rfl (by first | exact hget0 | exact hgetN _ rfl | assumption | exact hgetL (by assumption)) sz22 ag22 (by decide) (by simp [push_cast]) rfl ?_)
            all_goals (try simp only [push_cast, Nat.reduceAdd])
            all_goals first
             | refine AOps_skip rfl ?_
             | (refine AOps_cons rfl ?_
                refine AOp_fieldAddr_ptr _ _ _ _ rfl fd24_1 (by decide) ?_)
            all_goals (try simp only [push_cast, Nat.reduceAdd])
            all_goals first
             | refine AOps_skip rfl ?_
             | (refine AOps_cons rfl ?_
                refine AOp_load1_ptr _ _ _ _ _ rfl (by first | exact hget0 | exact hgetN _ rfl | assumption | exact hgetL (by assumption)) sz3 ag3 (by decide) (by simp [push_cast]) rfl ?_)
            all_goals (try simp only [push_cast, Nat.reduceAdd])
            all_goals first
             | refine AOps_skip rfl ?_
             | (refine AOps_cons rfl ?_
                refine AOp_move ?_)
            all_goals (try simp only [push_cast, Nat.reduceAdd])
            all_goals first
             | refine AOps_skip rfl ?_
             | (refine AOps_cons rfl ?_
                refine AOp_call _ _ _ rfl rfl ok10 ?_
                (try simp only [push_cast, Nat.reduceAdd])
                refine (admissibleR_ac l unit ss hlen hlen2 _).mono ?_
                rintro r H' ⟨rfl, rfl⟩)
            all_goals (try simp only [push_cast, Nat.reduceAdd])
            all_goals first
             | refine AOps_skip rfl ?_
             | (refine AOps_cons rfl ?_
                refine AOp_neq_bool _ _ rfl rfl un4 ?_)
            all_goals (try simp only [push_cast, Nat.reduceAdd])
            all_goals first
             | refine AOps_skip rfl ?_
             | (refine AOps_cons rfl ?_
                refine AOp_pick _ rfl ?_)
            all_goals (try simp only [push_cast, Nat.reduceAdd])
            all_goals first
             | refine AOps_skip rfl ?_
             | (refine AOps_cons rfl ?_
                refine AOp_pick _ rfl ?_)
            all_goals (try simp only [push_cast, Nat.reduceAdd])
            all_goals (refine AOps_cons rfl (AOp_pick _ rfl ?_) <;> try simp only [push_cast, Nat.reduceAdd])
            all_goals refine AOps_nil ?_
            all_goals
             refine thenK_normal (hK13 _ ?_)
             try clear hK13
             apply AW_cond
             case' hc => exact rfl
             case' hf =>
              intro hc19
              try (exfalso; (first | (cases hc19; done) | (simp at hc19; done) | (simp at hc19; omega)); done)
              all_goals (try simp only [decide_eq_true_eq, decide_eq_false_iff_not, Bool.not_eq_true', Bool.not_eq_false', Bool.not_eq_eq_eq_not, Bool.not_true, Bool.not_false] at hc19)
              all_goals
               refine AW_skip ?_
               refine thenK_normal (hK12 _ ?_)
               try clear hK12
               refine AW_seq_k (fun K20 hK20 => ?_)
               refine AW_seq_k (fun K21 hK21 => ?_)
               refine AW_region ?_
               all_goals refine AOps_cons rfl (AOp_move ?_)
               all_goals (try simp only [push_cast, Nat.reduceAdd])
               all_goals (refine AOps_cons rfl (AOp_bin_int _ _ _ _ rfl rfl rfl ?_) <;> try simp only [push_cast, Nat.reduceAdd])
               all_goals refine AOps_nil ?_
               all_goals
                refine thenK_normal (hK21 _ ?_)
                try clear hK21
                apply AW_cond
                case' hc => exact rfl
                case' hf =>
                 intro hc22
                 try (exfalso; (first | (cases hc22; done) | (simp at hc22; done) | (simp at hc22; omega)); done)
                 all_goals (try simp only [decide_eq_true_eq, decide_eq_false_iff_not, Bool.not_eq_true', Bool.not_eq_false', Bool.not_eq_eq_eq_not, Bool.not_true, Bool.not_false] at hc22)
                 all_goals
                  refine AW_skip ?_
                  refine thenK_normal (hK20 _ ?_)
                  try clear hK20
                  refine AW_seq_k (fun K23 hK23 => ?_)
                  refine AW_region ?_
                  all_goals refine AOps_cons rfl (AOp_move ?_)
                  all_goals (try simp only [push_cast, Nat.reduceAdd])
                  all_goals (refine AOps_cons rfl (AOp_bin_int _ _ _ _ rfl rfl rfl ?_) <;> try simp only [push_cast, Nat.reduceAdd])
                  all_goals refine AOps_cons rfl (AOp_move ?_)
                  all_goals (try simp only [push_cast, Nat.reduceAdd])
                  all_goals (try refine AOps_split 94 _ rfl (fun hg24 => ?_) (fun hg24 => ?_))
                  all_goals (try (exfalso; (first | (cases hg24; done) | (simp at hg24; done) | (simp at hg24; omega)); done))
                  all_goals (try simp only [decide_eq_true_eq, decide_eq_false_iff_not, Bool.not_eq_true', Bool.not_eq_false', Bool.not_eq_eq_eq_not, Bool.not_true, Bool.not_false] at hg24)
                  all_goals first
                   | refine AOps_skip rfl ?_
                   | (refine AOps_cons rfl ?_
                      refine AOp_move ?_)
                  all_goals (try simp only [push_cast, Nat.reduceAdd])
                  all_goals first
                   | refine AOps_skip rfl ?_
                   | (refine AOps_cons rfl ?_
                      refine AOp_fieldAddr_ptr _ _ _ _ rfl fd24_0 (by decide) ?_)
                  all_goals (try simp only [push_cast, Nat.reduceAdd])
                  all_goals first
                   | refine AOps_skip rfl ?_
                   | (refine AOps_cons rfl ?_
                      refine AOp_load1_ptr _ _ _ _ _ rfl (by first | exact hget0 | exact hgetN _ rfl | assumption | exact hgetL (by assumption)) sz22 ag22 (by decide) (by simp [push_cast]) rfl ?_)
                  all_goals (try simp only [push_cast, Nat.reduceAdd])
                  all_goals first
                   | refine AOps_skip rfl ?_
                   | (refine AOps_cons rfl ?_
                      refine AOp_fieldAddr_ptr _ _ _ _ rfl fd24_1 (by decide) ?_)
                  all_goals (try simp only [push_cast, Nat.reduceAdd])
                  all_goals first
                   | refine AOps_skip rfl ?_
                   | (refine AOps_cons rfl ?_
                      refine AOp_load1_ptr _ _ _ _ _ rfl (by first | exact hget0 | exact hgetN _ rfl | assumption | exact hgetL (by assumption)) sz3 ag3 (by decide) (by simp [push_cast]) rfl ?_)
                  all_goals (try simp only [push_cast, Nat.reduceAdd])
                  all_goals first
                   | refine AOps_skip rfl ?_
                   | (refine AOps_cons rfl ?_
                      refine AOp_load_ptr _ _ _ _ rfl (by first | exact hget0 | exact hgetN _ rfl | assumption | exact hgetL (by assumption)) sz27 ag27 (by simp [push_cast]) ?_)
                  all_goals (try simp only [push_cast, Nat.reduceAdd])
                  all_goals first
                   | refine AOps_skip rfl ?_
                   | (refine AOps_cons rfl ?_
                      refine AOp_call _ _ _ rfl rfl ok26 ?_
                      (try simp only [push_cast, Nat.reduceAdd])
                      refine (weightR_ac l unit (good_of_check (by assumption)).2 hlen t hb _).mono ?_
                      rintro r H' ⟨rfl, rfl⟩)
                  all_goals (try simp only [push_cast, Nat.reduceAdd])
                  all_goals first
                   | refine AOps_skip rfl ?_
                   | (refine AOps_cons rfl ?_
                      refine AOp_bin_int _ _ _ _ rfl rfl rfl ?_)
                  all_goals (try simp only [push_cast, Nat.reduceAdd])
                  all_goals refine AOps_cons rfl (AOp_pick _ rfl ?_)
                  all_goals refine AOps_cons rfl (AOp_move ?_)
                  all_goals (try simp only [push_cast, Nat.reduceAdd])
                  all_goals (try refine AOps_split 104 _ rfl (fun hg25 => ?_) (fun hg25 => ?_))
                  all_goals (try (exfalso; (first | (cases hg25; done) | (simp at hg25; done) | (simp at hg25; omega)); done))
                  all_goals (try simp only [decide_eq_true_eq, decide_eq_false_iff_not, Bool.not_eq_true', Bool.not_eq_false', Bool.not_eq_eq_eq_not, Bool.not_true, Bool.not_false] at hg25)
                  all_goals first
                   | refine AOps_skip rfl ?_
                   | (refine AOps_cons rfl ?_
                      refine AOp_call _ _ _ rfl rfl ok12 ?_
                      (try simp only [push_cast, Nat.reduceAdd])
                      refine (alive_ac _).mono ?_
                      rintro r H' ⟨rfl, rfl⟩)
                  all_goals (try simp only [push_cast, Nat.reduceAdd])
                  all_goals refine AOps_cons rfl (AOp_pick _ rfl ?_)
                  all_goals (refine AOps_cons rfl (AOp_assign ?_) <;> try simp only [push_cast, Nat.reduceAdd])
                  all_goals refine AOps_nil ?_
                  all_goals
                   refine thenK_normal (hK23 _ ?_)
                   try clear hK23
                   refine AW_ret ?_
                   repeat (first | refine thenK_ret ?_ | refine loopK_ret ?_ | refine blockK_ret ?_)
                   refine ⟨by first | exact .inl rfl | exact .inr rfl, _, rfl, (by first | exact outok_app 0 rfl (Nat.zero_le _) (by simp) | exact outok_self), by simp [push_cast], ?_⟩
                   simp only [push_cast, Nat.reduceAdd]
                   first
                     | (simp; done)
                     | (exfalso; first | (have hff := hfo (by assumption); simp_all; done) | (simp_all; done))
                     | (first | (have hff := hfo (by assumption); simp_all; done) | (simp_all; done))
                     | fail "ret"
                case' ht =>
                 intro hc22
                 try (exfalso; (first | (cases hc22; done) | (simp at hc22; done) | (simp at hc22; omega)); done)
                 all_goals (try simp only [decide_eq_true_eq, decide_eq_false_iff_not, Bool.not_eq_true', Bool.not_eq_false', Bool.not_eq_eq_eq_not, Bool.not_true, Bool.not_false] at hc22)
                 all_goals
                  refine AW_seq_k (fun K26 hK26 => ?_)
                  refine AW_region ?_
                  all_goals refine AOps_cons rfl (AOp_move ?_)
                  all_goals (try simp only [push_cast, Nat.reduceAdd])
                  all_goals (refine AOps_cons rfl (AOp_bin_int _ _ _ _ rfl rfl rfl ?_) <;> try simp only [push_cast, Nat.reduceAdd])
                  all_goals refine AOps_cons rfl (AOp_move ?_)
                  all_goals (try simp only [push_cast, Nat.reduceAdd])
                  all_goals (try refine AOps_split 84 _ rfl (fun hg27 => ?_) (fun hg27 => ?_))
                  all_goals (try (exfalso; (first | (cases hg27; done) | (simp at hg27; done) | (simp at hg27; omega)); done))
                  all_goals (try simp only [decide_eq_true_eq, decide_eq_false_iff_not, Bool.not_eq_true', Bool.not_eq_false', Bool.not_eq_eq_eq_not, Bool.not_true, Bool.not_false] at hg27)
                  all_goals first
                   | refine AOps_skip rfl ?_
                   | (refine AOps_cons rfl ?_
                      refine AOp_move ?_)
                  all_goals (try simp only [push_cast, Nat.reduceAdd])
                  all_goals first
                   | refine AOps_skip rfl ?_
                   | (refine AOps_cons rfl ?_
                      refine AOp_move ?_)
                  all_goals (try simp only [push_cast, Nat.reduceAdd])
                  all_goals first
                   | refine AOps_skip rfl ?_
                   | (refine AOps_cons rfl ?_
                      refine AOp_bin_int _ _ _ _ rfl rfl rfl ?_)
                  all_goals (try simp only [push_cast, Nat.reduceAdd])
                  all_goals refine AOps_cons rfl (AOp_pick _ rfl ?_)
                  all_goals refine AOps_cons rfl (AOp_move ?_)
                  all_goals (try simp only [push_cast, Nat.reduceAdd])
                  all_goals (try refine AOps_split 89 _ rfl (fun hg28 => ?_) (fun hg28 => ?_))
                  all_goals (try (exfalso; (first | (cases hg28; done) | (simp at hg28; done) | (simp at hg28; omega)); done))
                  all_goals (try simp only [decide_eq_true_eq, decide_eq_false_iff_not, Bool.not_eq_true', Bool.not_eq_false', Bool.not_eq_eq_eq_not, Bool.not_true, Bool.not_false] at hg28)
                  all_goals first
                   | refine AOps_skip rfl ?_
                   | (refine AOps_cons rfl ?_
                      refine AOp_call _ _ _ rfl rfl ok12 ?_
                      (try simp only [push_cast, Nat.reduceAdd])
                      refine (alive_ac _).mono ?_
                      rintro r H' ⟨rfl, rfl⟩)
                  all_goals (try simp only [push_cast, Nat.reduceAdd])
                  all_goals refine AOps_cons rfl (AOp_pick _ rfl ?_)
                  all_goals (refine AOps_cons rfl (AOp_assign ?_) <;> try simp only [push_cast, Nat.reduceAdd])
                  all_goals refine AOps_nil ?_
                  all_goals
                   refine thenK_normal (hK26 _ ?_)
                   try clear hK26
                   refine AW_ret ?_
                   repeat (first | refine thenK_ret ?_ | refine loopK_ret ?_ | refine blockK_ret ?_)
                   refine ⟨by first | exact .inl rfl | exact .inr rfl, _, rfl, (by first | exact outok_app 0 rfl (Nat.zero_le _) (by simp) | exact outok_self), by simp [push_cast], ?_⟩
                   simp only [push_cast, Nat.reduceAdd]
                   first
                     | (simp; done)
                     | (exfalso; first | (have hff := hfo (by assumption); simp_all; done) | (simp_all; done))
                     | (first | (have hff := hfo (by assumption); simp_all; done) | (simp_all; done))
                     | fail "ret"
             case' ht =>
              intro hc19
              try (exfalso; (first | (cases hc19; done) | (simp at hc19; done) | (simp at hc19; omega)); done)
              all_goals (try simp only [decide_eq_true_eq, decide_eq_false_iff_not, Bool.not_eq_true', Bool.not_eq_false', Bool.not_eq_eq_eq_not, Bool.not_true, Bool.not_false] at hc19)
              all_goals
               refine AW_seq_k (fun K29 hK29 => ?_)
               refine AW_region ?_
               all_goals (refine AOps_cons rfl (AOp_assign ?_) <;> try simp only [push_cast, Nat.reduceAdd])
               all_goals refine AOps_nil ?_
               all_goals
                refine thenK_normal (hK29 _ ?_)
                try clear hK29
                refine AW_ret ?_
                repeat (first | refine thenK_ret ?_ | refine loopK_ret ?_ | refine blockK_ret ?_)
                refine ⟨by first | exact .inl rfl | exact .inr rfl, _, rfl, (by first | exact outok_app 0 rfl (Nat.zero_le _) (by simp) | exact outok_self), by simp [push_cast], ?_⟩
                simp only [push_cast, Nat.reduceAdd]
                first
                  | (simp; done)
                  | (exfalso; first | (have hff := hfo (by assumption); simp_all; done) | (simp_all; done))
                  | (first | (have hff := hfo (by assumption); simp_all; done) | (simp_all; done))
                  | fail "ret"
       case' ht =>
        intro hc7
        try (exfalso; (first | (cases hc7; done) | (simp at hc7; done) | (simp at hc7; omega)); done)
        all_goals (try simp only [decide_eq_true_eq, decide_eq_false_iff_not, Bool.not_eq_true', Bool.not_eq_false', Bool.not_eq_eq_eq_not, Bool.not_true, Bool.not_false] at hc7)
        all_goals
         refine AW_seq_k (fun K30 hK30 => ?_)
         refine AW_region ?_
         all_goals (refine AOps_cons rfl (AOp_assign ?_) <;> try simp only [push_cast, Nat.reduceAdd])
         all_goals refine AOps_nil ?_
         all_goals
          refine thenK_normal (hK30 _ ?_)
          try clear hK30
          refine AW_ret ?_
          repeat (first | refine thenK_ret ?_ | refine loopK_ret ?_ | refine blockK_ret ?_)
          refine ⟨by first | exact .inl rfl | exact .inr rfl, _, rfl, (by first | exact outok_app 0 rfl (Nat.zero_le _) (by simp) | exact outok_self), by simp [push_cast], ?_⟩
          simp only [push_cast, Nat.reduceAdd]
          first
            | (simp; done)
            | (exfalso; first | (have hff := hfo (by assumption); simp_all; done) | (simp_all; done))
            | (first | (have hff := hfo (by assumption); simp_all; done) | (simp_all; done))
            | fail "ret"
end Ab
namespace Ab
open Go
theorem mapM_get {α β : Type} {f : α → Option β} : ∀ {l : List α} {r : List β}, l.mapM f = some r → r.length = l.length ∧ ∀ i (h : i < l.length) (h' : i < r.length), f l[i] = some r[i]
  | [], r, h => by simp at h; subst h; simp
  | a :: l, r, h => by
    rw [List.mapM_cons] at h
    cases ha : f a with
    | none => simp [ha] at h
    | some b =>
      cases hl : l.mapM f with
      | none => simp [ha, hl] at h
      | some r' =>
        simp [ha, hl] at h
        subst h
        obtain ⟨h1, h2⟩ := mapM_get hl
        refine ⟨by simp [h1], fun i hi hi' => ?_⟩
        cases i with
        | zero => simpa using ha
        | succ i => simpa using h2 i (by simpa using hi) (by simpa using hi')
theorem mapM_mk {α β : Type} {f : α → Option β} : ∀ {l : List α} {r : List β}, r.length = l.length → (∀ i (h : i < l.length) (h' : i < r.length), f l[i] = some r[i]) → l.mapM f = some r
  | [], r, h, _ => by cases r with | nil => rfl | cons _ _ => simp at h
  | a :: l, [], h, _ => by simp at h
  | a :: l, b :: r, h, hf => by
    rw [List.mapM_cons]
    have h0 := hf 0 (by simp) (by simp)
    simp only [List.getElem_cons_zero] at h0
    rw [h0, mapM_mk (f := f) (l := l) (r := r) (by simpa using h) (fun i h1 h2 => by have := hf (i + 1) (by simp; omega) (by simp; omega); simpa only [List.getElem_cons_succ] using this)]
    rfl
inductive Kd where
  | bool
  | int (k : IntKind)
  | str
  | slice (e : TypeId)
  | struct (l : List TypeId)
  | array (n : Nat) (e : TypeId)
  | other
def kindOf (P : Program) (t : TypeId) : Kd := match P.underlying t with
  | some .bool => .bool
  | some (.int k) => .int k
  | some .string => .str
  | some (.slice e) => .slice e
  | some (.struct fs) => .struct (fs.toList.map (·.type))
  | some (.array n e) => .array n e
  | _ => .other
def layL (P : Program) : List (TypeId × Nat) → Nat → Option Nat
  | [], k => some k
  | f :: fs, k => if f.2 = k then layL P fs (k + P.cellsOf f.1) else none
def layOk (P : Program) (t : TypeId) : Bool := match P.underlying t with
  | some (.struct fs) => decide (layL P (fs.toList.map fun f => (f.type, f.offset)) 0 = some (P.cellsOf t))
  | some (.array n e) => decide (n * P.cellsOf e = P.cellsOf t)
  | _ => true
def aggK (P : Program) (t : TypeId) : Bool := match kindOf P t with
  | .struct _ => true
  | .array _ _ => true
  | _ => false
def closedK (P : Program) (ts : List TypeId) : Bool := ts.all fun t => layOk P t && match kindOf P t with
  | .bool => true
  | .int _ => true
  | .str => true
  | .slice e => ts.contains e
  | .struct l => l.all fun t' => ts.contains t'
  | .array _ e => ts.contains e
  | .other => false
def pack (b : Bool) (l : List AV) : AV := if b then .agg l else l.headD .junk
def toAV {H : Type} (P : Program) : Nat → TypeId → DataW H → Option (List AV)
  | 0, _, _ => none
  | n + 1, t, d => match kindOf P t, d with
    | .bool, .lit (.bool b) => some [.bool b]
    | .int k, .lit (.int k' i) => if k' = k then some [.int k i] else none
    | .str, .lit (.string bs) => some [.str bs]
    | .slice _, .nil => some [.sl .none []]
    | .slice e, .slice elems _ => (elems.mapM (toAV P n e)).map fun xss => [.sl .none (xss.map (pack (aggK P e)))]
    | .struct l, .agg parts => if l.length = parts.length then ((l.zip parts).mapM fun p => toAV P n p.1 p.2).map List.flatten else none
    | .array k e, .agg parts => if k = parts.length then (parts.mapM (toAV P n e)).map List.flatten else none
    | _, _ => none
structure CellsR (C : Ctx) (avs : List AV) (cs : List Value) : Prop where
  len : avs.length = cs.length
  rel : ∀ i (h : i < avs.length) (h' : i < cs.length), VRel C avs[i] cs[i]
  cell : ∀ a, a ∈ avs → a.isCell = true
theorem CellsR.nil {C : Ctx} : CellsR C [] [] := ⟨rfl, fun i h => absurd h (by simp), fun a h => by simp at h⟩
theorem CellsR.one {C : Ctx} {a : AV} {v : Value} (h : VRel C a v) (hc : a.isCell = true) : CellsR C [a] [v] := ⟨rfl, fun i h1 h2 => by
  have : i = 0 := by simp at h1; omega
  subst this; simpa using h, fun b hb => by simp at hb; subst hb; exact hc⟩
theorem CellsR.append {C : Ctx} {a b : List AV} {x y : List Value} (h1 : CellsR C a x) (h2 : CellsR C b y) : CellsR C (a ++ b) (x ++ y) := by
  refine ⟨by simp [h1.len, h2.len], fun i hi hi' => ?_, fun z hz => ?_⟩
  · rw [List.getElem_append, List.getElem_append]
    by_cases h : i < a.length
    · have h' : i < x.length := by rw [← h1.len]; exact h
      rw [dif_pos h, dif_pos h']; exact h1.rel i h h'
    · have h' : ¬ i < x.length := by rw [← h1.len]; exact h
      rw [dif_neg h, dif_neg h']
      simp only [h1.len]
      exact h2.rel _ (by simp at hi; have := h1.len; omega) (by simp at hi'; omega)
  · rcases List.mem_append.1 hz with h | h
    · exact h1.cell z h
    · exact h2.cell z h
theorem cells_isCell {a : AV} (h : a.isCell = true) : a.cells = [a] := by cases a <;> first | rfl | (simp [AV.isCell] at h)
section
variable {H : Type} {enc : TypeId × Value → H} {P : Program} {base : Nat} {spare : Nat → Bool} {held : Bool} {C : Ctx}
theorem toAV_one {n : Nat} {t : TypeId} {d : DataW H} {avs : List AV} (hk : aggK P t = false) (h : toAV P n t d = some avs) : ∃ a, avs = [a] := by
  cases n with
  | zero => simp [toAV] at h
  | succ n =>
    unfold toAV at h
    unfold aggK at hk
    split at h
    · simp at h; exact ⟨_, h.symm⟩
    · split at h
      · simp at h; exact ⟨_, h.symm⟩
      · cases h
    · simp at h; exact ⟨_, h.symm⟩
    · simp at h; exact ⟨_, h.symm⟩
    · rw [Option.map_eq_some_iff] at h; obtain ⟨x, _, rfl⟩ := h; exact ⟨_, rfl⟩
    · simp_all
    · simp_all
    · cases h
theorem row_rel (b sz : Nat) : ∀ (xss : List (List AV)) (o : Nat), (∀ i (h : i < xss.length), ∃ cs, CellsR C xss[i] cs ∧ cs.length = sz ∧ ∀ j (hj : j < cs.length), C.w.cell? ⟨b, o + i * sz + j, none⟩ = some cs[j]) →
    ∀ j (hj : j < xss.flatten.length), ∃ v, C.w.cell? ⟨b, o + j, none⟩ = some v ∧ VRel C xss.flatten[j] v
  | [], o, _, j, hj => by simp at hj
  | xs :: xss, o, h, j, hj => by
    obtain ⟨cs, h1, h2, h3⟩ := h 0 (by simp)
    simp only [List.getElem_cons_zero, Nat.zero_mul, Nat.add_zero] at h1 h3
    have hl := h1.len
    by_cases hjx : j < xs.length
    · refine ⟨cs[j]'(by omega), h3 j (by omega), ?_⟩
      have e : (xs :: xss).flatten[j] = xs[j] := by simp only [List.flatten_cons]; rw [List.getElem_append_left hjx]
      rw [e]; exact h1.rel j hjx (by omega)
    · have hj' : j - xs.length < xss.flatten.length := by simp only [List.flatten_cons, List.length_append] at hj; omega
      obtain ⟨v, e1, e2⟩ := row_rel b sz xss (o + sz) (fun i hi => by
        obtain ⟨cs', a1, a2, a3⟩ := h (i + 1) (by simp; omega)
        simp only [List.getElem_cons_succ] at a1
        refine ⟨cs', a1, a2, fun j hj => ?_⟩
        rw [← a3 j hj]; congr 2; rw [Nat.add_mul]; omega) (j - xs.length) hj'
      refine ⟨v, ?_, ?_⟩
      · rw [← e1]; congr 2; omega
      · have e : (xs :: xss).flatten[j] = xss.flatten[j - xs.length] := by simp only [List.flatten_cons]; rw [List.getElem_append_right (by omega)]
        rw [e]; exact e2
theorem flat_pack {b : Bool} : ∀ {xss : List (List AV)}, (∀ xs, xs ∈ xss → (∀ a, a ∈ xs → a.isCell = true) ∧ (b = false → ∃ a, xs = [a])) → flat (xss.map (pack b)) = xss.flatten
  | [], _ => rfl
  | xs :: xss, h => by
    have h1 := h xs (by simp)
    have ih := flat_pack (b := b) (xss := xss) (fun ys hy => h ys (by simp [hy]))
    have e : (pack b xs).cells = xs := by
      cases b with
      | true => rfl
      | false =>
        obtain ⟨a, rfl⟩ := h1.2 rfl
        exact cells_isCell (h1.1 a (by simp))
    have : flat (List.map (pack b) (xs :: xss)) = (pack b xs).cells ++ flat (List.map (pack b) xss) := by simp [flat]
    rw [this, ih, e]; rfl
theorem cells_read {w : World} {a : Addr} {n : Nat} {cs : List Value} (h : w.cells? base a n = some cs) : cs.length = n ∧ ∀ j (hj : j < cs.length), w.cell? (a.add j) = some cs[j] := by
  unfold World.cells? at h
  split at h
  · obtain ⟨h1, h2⟩ := mapM_get h
    refine ⟨by simpa using h1, fun j hj => ?_⟩
    have := h2 j (by rw [← h1]; exact hj) hj
    simpa using this
  · cases h
theorem struct_av {ts : List TypeId} {cs : List Value} {n : Nat} (ih : ∀ t cs d ps, DataW.trod enc P C.w base spare held n t cs = some (d, ps) → t ∈ ts → ∃ avs, toAV P n t d = some avs ∧ CellsR C avs cs) :
    ∀ (fs : List (TypeId × Nat)) (k total : Nat) (xs : List (DataW H × List MemPlace)), (∀ f, f ∈ fs → f.1 ∈ ts) → layL P fs k = some total → total ≤ cs.length →
      fs.mapM (fun f => DataW.trod enc P C.w base spare held n f.1 ((cs.drop f.2).take (P.cellsOf f.1))) = some xs →
      ∃ avs, ((fs.map (·.1)).zip (xs.map (·.1))).mapM (fun p => toAV P n p.1 p.2) = some avs ∧ CellsR C avs.flatten ((cs.drop k).take (total - k)) ∧ xs.length = fs.length ∧ k ≤ total
  | [], k, total, xs, _, hl, _, h => by
    simp [layL] at hl
    subst hl
    simp at h
    subst h
    exact ⟨[], rfl, by simp; exact CellsR.nil, rfl, Nat.le_refl _⟩
  | f :: fs, k, total, xs, hf, hl, ht, h => by
    unfold layL at hl
    split at hl
    · rename_i hk
      rw [List.mapM_cons] at h
      cases h1 : DataW.trod enc P C.w base spare held n f.1 ((cs.drop f.2).take (P.cellsOf f.1)) with
      | none => simp [h1] at h
      | some x =>
        cases h2 : fs.mapM (fun f => DataW.trod enc P C.w base spare held n f.1 ((cs.drop f.2).take (P.cellsOf f.1))) with
        | none => simp [h1, h2] at h
        | some xs' =>
          simp [h1, h2] at h
          subst h
          obtain ⟨d, ps⟩ := x
          obtain ⟨avs, a1, a2⟩ := ih _ _ _ _ h1 (hf f (by simp))
          obtain ⟨avss, b1, b2, b3, b4⟩ := struct_av ih fs _ total xs' (fun g hg => hf g (by simp [hg])) hl ht h2
          refine ⟨avs :: avss, ?_, ?_, by simp [b3], by omega⟩
          · simp only [List.map_cons, List.zip_cons_cons, List.mapM_cons, a1, b1]; rfl
          · have hs : (cs.drop k).take (total - k) = (cs.drop k).take (P.cellsOf f.1) ++ (cs.drop (k + P.cellsOf f.1)).take (total - (k + P.cellsOf f.1)) := by
              rw [← List.drop_drop, ← List.take_append_drop (P.cellsOf f.1) ((cs.drop k).take (total - k)), List.take_take, List.drop_take, Nat.min_eq_left (by omega)]
              congr 2; omega
            rw [hs, List.flatten_cons]
            rw [hk] at a2
            exact a2.append b2
    · cases hl
  termination_by fs => fs.length
theorem mapM_map2 {α β γ : Type} {f : α → Option β} {g : α → γ} {f' : γ → Option β} (h : ∀ a, f' (g a) = f a) {l : List α} {r : List β} (hm : l.mapM f = some r) : (l.map g).mapM f' = some r := by
  obtain ⟨h1, h2⟩ := mapM_get hm
  exact mapM_mk (by simp [h1]) (fun i hi hi' => by simp only [List.getElem_map, h]; exact h2 i (by simpa using hi) hi')
def offs (e : TypeId) (sz : Nat) : Nat → Nat → List (TypeId × Nat)
  | 0, _ => []
  | n + 1, i => (e, i * sz) :: offs e sz n (i + 1)
theorem offs_length (e : TypeId) (sz : Nat) : ∀ n i, (offs e sz n i).length = n
  | 0, _ => rfl
  | n + 1, i => by simp [offs, offs_length e sz n]
theorem offs_get (e : TypeId) (sz : Nat) : ∀ (n i j : Nat) (h : j < (offs e sz n i).length), (offs e sz n i)[j] = (e, (i + j) * sz)
  | 0, _, j, h => by simp [offs] at h
  | n + 1, i, 0, h => by simp [offs]
  | n + 1, i, j + 1, h => by
    simp only [offs, List.getElem_cons_succ]
    rw [offs_get e sz n (i + 1) j]; congr 2; omega
theorem offs_lay (P : Program) (e : TypeId) : ∀ n i, layL P (offs e (P.cellsOf e) n i) (i * P.cellsOf e) = some ((i + n) * P.cellsOf e)
  | 0, i => by simp [offs, layL]
  | n + 1, i => by
    have := offs_lay P e n (i + 1)
    simp only [offs, layL, if_true]
    rw [show i * P.cellsOf e + P.cellsOf e = (i + 1) * P.cellsOf e by rw [Nat.add_mul]; omega, this]
    congr 2; omega
theorem offs_fst (e : TypeId) (sz : Nat) : ∀ n i, (offs e sz n i).map (·.1) = List.replicate n e
  | 0, _ => rfl
  | n + 1, i => by simp [offs, offs_fst e sz n, List.replicate_succ]
theorem zip_rep {α β : Type} (e : α) : ∀ (l : List β), (List.replicate l.length e).zip l = l.map fun d => (e, d)
  | [] => rfl
  | d :: l => by simp [List.replicate_succ, zip_rep e l]
theorem closedK_mem {ts : List TypeId} (hts : closedK P ts = true) {t : TypeId} (ht : t ∈ ts) : layOk P t = true ∧ match kindOf P t with
    | .bool => True
    | .int _ => True
    | .str => True
    | .slice e => e ∈ ts
    | .struct l => ∀ t', t' ∈ l → t' ∈ ts
    | .array _ e => e ∈ ts
    | .other => False := by
  unfold closedK at hts
  rw [List.all_eq_true] at hts
  have := hts t ht
  rw [Bool.and_eq_true] at this
  refine ⟨this.1, ?_⟩
  have h2 := this.2
  cases hk : kindOf P t <;> simp only [hk] at h2 ⊢
  · simpa using h2
  · intro t' ht'
    rw [List.all_eq_true] at h2
    simpa using h2 t' ht'
  · simpa using h2
  · cases h2
theorem add_none {a : Addr} (h : a.spot = none) (i : Nat) : a.add i = ⟨a.block, a.off + i, none⟩ := by
  unfold Addr.add
  split
  · rename_i h0; subst h0; cases a; simp_all
  · rfl
theorem trod_av (hS : ∀ b o v, C.w.cell? ⟨b, o, none⟩ = some v → o < C.S b) {ts : List TypeId} (hts : closedK P ts = true) :
    ∀ (n : Nat) (t : TypeId) (cs : List Value) (d : DataW H) (ps : List MemPlace), DataW.trod enc P C.w base spare held n t cs = some (d, ps) → t ∈ ts → ∃ avs, toAV P n t d = some avs ∧ CellsR C avs cs := by
  intro n
  induction n with
  | zero => intro t cs d ps h _; simp [DataW.trod] at h
  | succ n ih =>
    intro t cs d ps h ht
    obtain ⟨hlay, hk⟩ := closedK_mem hts ht
    unfold DataW.trod at h
    unfold toAV
    unfold kindOf at hk ⊢
    split at h
    case h_1 b hu => simp only [hu] at hk ⊢; simp at h; obtain ⟨rfl, rfl⟩ := h; exact ⟨_, rfl, .one (.bool _) rfl⟩
    case h_2 k k' i hu =>
      simp only [hu] at hk ⊢
      split at h
      · rename_i hc; simp at h; obtain ⟨rfl, rfl⟩ := h; simp only [if_true]; exact ⟨_, rfl, by rw [hc.1]; exact .one (.int _ _) rfl⟩
      · cases h
    case h_3 hu => simp only [hu] at hk
    case h_4 s hu =>
      simp only [hu] at hk ⊢
      split at h
      · simp at h; obtain ⟨rfl, rfl⟩ := h
        refine ⟨_, rfl, .one ?_ rfl⟩
        have := VRel.str (C := C) s.data.toList
        simpa using this
      · cases h
    case h_5 hu => simp only [hu] at hk
    case h_6 hu => simp only [hu] at hk
    case h_7 e hu =>
      simp only [hu] at hk ⊢; simp at h; obtain ⟨rfl, rfl⟩ := h
      exact ⟨_, rfl, .one (.sl .none [] none 0 0 (fun _ => .bool false) rfl (Nat.le_refl _) (fun h => absurd rfl h) (fun j h => absurd h (by simp [flat])) trivial) rfl⟩
    case h_8 e a len cap hu =>
      simp only [hu] at hk ⊢
      split at h
      case isFalse => cases h
      case isTrue hc =>
        rw [Option.bind_eq_some_iff] at h
        obtain ⟨elems, hm, h⟩ := h
        rw [Option.map_eq_some_iff] at h
        obtain ⟨rest, _, h⟩ := h
        simp only [Prod.mk.injEq] at h
        obtain ⟨rfl, rfl⟩ := h
        obtain ⟨h1, h2⟩ := mapM_get hm
        simp only [List.length_range] at h1
        have hel : ∀ i (hi : i < elems.length), ∃ cs', C.w.cells? base (a.add (i * P.cellsOf e)) (P.cellsOf e) = some cs' ∧ DataW.trod enc P C.w base spare held n e cs' = some elems[i] := by
          intro i hi
          have := h2 i (by simpa using h1 ▸ hi) hi
          simp only [List.getElem_range] at this
          rw [Option.bind_eq_some_iff] at this
          exact this
        have hav : ∀ i (hi : i < elems.length), ∃ avs, toAV P n e elems[i].1 = some avs ∧ ∃ cs', C.w.cells? base (a.add (i * P.cellsOf e)) (P.cellsOf e) = some cs' ∧ CellsR C avs cs' := by
          intro i hi
          obtain ⟨cs', e1, e2⟩ := hel i hi
          obtain ⟨avs, e3, e4⟩ := ih e cs' elems[i].1 elems[i].2 e2 hk
          exact ⟨avs, e3, cs', e1, e4⟩
        obtain ⟨xss, x1, x2⟩ : ∃ xss : List (List AV), xss.length = elems.length ∧ ∀ i (hi : i < elems.length) (hi' : i < xss.length), toAV P n e elems[i].1 = some xss[i] ∧ ∃ cs', C.w.cells? base (a.add (i * P.cellsOf e)) (P.cellsOf e) = some cs' ∧ CellsR C xss[i] cs' := by
          refine ⟨(List.range elems.length).map fun i => if h : i < elems.length then Classical.choose (hav i h) else [], by simp, fun i hi hi' => ?_⟩
          simp only [List.getElem_map, List.getElem_range, hi, dif_pos]
          exact Classical.choose_spec (hav i hi)
        have hmap : (elems.map (·.1)).mapM (toAV P n e) = some xss := mapM_mk (by simp [x1]) (fun i hi hi' => by simp only [List.getElem_map]; exact (x2 i (by simpa using hi) hi').1)
        have hpk : ∀ xs, xs ∈ xss → (∀ a, a ∈ xs → a.isCell = true) ∧ (aggK P e = false → ∃ a, xs = [a]) := by
          intro xs hxs
          obtain ⟨i, hi, rfl⟩ := List.getElem_of_mem hxs
          obtain ⟨y1, cs', y2, y3⟩ := x2 i (by omega) hi
          exact ⟨y3.cell, fun hb => toAV_one hb y1⟩
        have hfl := flat_pack hpk
        have hspot : ∀ i (hi : i < elems.length), 0 < P.cellsOf e → a.spot = none := by
          intro i hi hpos
          obtain ⟨y1, cs', y2, y3⟩ := x2 0 (by omega) (by omega)
          obtain ⟨z1, z2⟩ := cells_read y2
          have := z2 0 (by omega)
          rw [Nat.zero_mul] at this
          have e0 : (a.add 0).add 0 = a := by simp [Addr.add]
          rw [e0] at this
          unfold World.cell? at this
          split at this
          · split at this
            · cases this
            · rename_i hs; cases hsp : a.spot with
              | none => rfl
              | some _ => simp [hsp] at hs
          · cases this
        refine ⟨[.sl .none (xss.map (pack (aggK P e)))], by change Option.map _ (List.mapM _ _) = _; rw [hmap]; rfl, .one ?_ rfl⟩
        by_cases hz : P.cellsOf e = 0
        · have hnil : xss.flatten = [] := by
            rw [List.flatten_eq_nil_iff]
            intro xs hxs
            obtain ⟨i, hi, rfl⟩ := List.getElem_of_mem hxs
            obtain ⟨y1, cs', y2, y3⟩ := x2 i (by omega) hi
            have := (cells_read y2).1
            exact List.eq_nil_of_length_eq_zero (by rw [y3.len]; omega)
          exact .sl .none _ (some a) len cap (fun _ => .bool false) (by simp [x1, h1]) hc.2.1 (fun h => absurd (hfl.trans hnil) h) (fun j hj => by rw [hfl, hnil] at hj; simp at hj) trivial
        · have hrows : ∀ (hne : 0 < elems.length), ∀ j (hj : j < xss.flatten.length), ∃ v, C.w.cell? ⟨a.block, a.off + j, none⟩ = some v ∧ VRel C xss.flatten[j] v := by
            intro hne
            have hsp := hspot 0 hne (by omega)
            refine row_rel a.block (P.cellsOf e) xss a.off (fun i hi => ?_)
            obtain ⟨y1, cs', y2, y3⟩ := x2 i (by omega) hi
            obtain ⟨z1, z2⟩ := cells_read y2
            refine ⟨cs', y3, z1, fun j hj => ?_⟩
            have := z2 j hj
            rw [add_none hsp, add_none rfl] at this
            exact this
          have hne : xss.flatten ≠ [] → 0 < elems.length := by
            intro h
            rcases Nat.eq_zero_or_pos elems.length with h0 | h0
            · exact absurd (by rw [List.eq_nil_of_length_eq_zero (show xss.length = 0 by omega)]; rfl) h
            · exact h0
          refine .sl .none _ (some a) len cap (fun j => (C.w.cell? ⟨a.block, a.off + j, none⟩).getD (.bool false)) (by simp [x1, h1]) hc.2.1 (fun h => ?_) (fun j hj => ?_) trivial
          · rw [hfl] at h
            have h0 := hne h
            refine ⟨a.block, a.off, ?_, fun j hj => ?_⟩
            · have := hspot 0 h0 (by omega)
              cases a; simp_all
            · rw [hfl] at hj
              obtain ⟨v, e1, e2⟩ := hrows h0 j hj
              exact ⟨hS _ _ _ e1, by simp only [e1, Option.getD_some]⟩
          · have hj' : j < xss.flatten.length := by rw [hfl] at hj; exact hj
            obtain ⟨v, e1, e2⟩ := hrows (hne (fun e => by rw [e] at hj'; simp at hj')) j hj'
            rw [e1]
            simp only [hfl]
            exact e2
    case h_9 fs hu =>
      simp only [hu] at hk ⊢
      split at h
      case isFalse => cases h
      case isTrue hc =>
        rw [Option.map_eq_some_iff] at h
        obtain ⟨xs, hm, h⟩ := h
        simp only [Prod.mk.injEq] at h
        obtain ⟨rfl, rfl⟩ := h
        unfold layOk at hlay
        simp only [hu, decide_eq_true_eq] at hlay
        obtain ⟨avs, a1, a2, a3, _⟩ := struct_av (ts := ts) (cs := _) (fun t cs d ps h ht => ih t cs d ps h ht) (fs.toList.map fun f => (f.type, f.offset)) 0 (P.cellsOf t) xs (fun f hf => by rw [List.mem_map] at hf; obtain ⟨g, hg, rfl⟩ := hf; exact hk _ (List.mem_map_of_mem hg)) hlay (Nat.le_of_eq hc.symm) (mapM_map2 (fun _ => rfl) hm)
        refine ⟨avs.flatten, ?_, ?_⟩
        · rw [List.map_map] at a1
          change (if _ then _ else _) = _; rw [if_pos (by simpa using a3.symm)]
          rw [show (fs.toList.map (·.type)) = fs.toList.map ((·.1) ∘ fun f => (f.type, f.offset)) from rfl, a1]; rfl
        · rw [List.drop_zero, Nat.sub_zero, List.take_of_length_le (Nat.le_of_eq hc)] at a2; exact a2
    case h_10 k e hu =>
      simp only [hu] at hk ⊢
      split at h
      case isFalse => cases h
      case isTrue hc =>
        rw [Option.map_eq_some_iff] at h
        obtain ⟨xs, hm, h⟩ := h
        simp only [Prod.mk.injEq] at h
        obtain ⟨rfl, rfl⟩ := h
        unfold layOk at hlay
        simp only [hu, decide_eq_true_eq] at hlay
        obtain ⟨g1, g2⟩ := mapM_get hm
        simp only [List.length_range] at g1
        have hm2 : (offs e (P.cellsOf e) k 0).mapM (fun f => DataW.trod enc P C.w base spare held n f.1 ((List.drop f.2 _).take (P.cellsOf f.1))) = some xs := mapM_mk (by rw [offs_length, g1]) (fun i hi hi' => by
          rw [offs_get]
          have := g2 i (by simpa [offs_length] using hi) hi'
          simp only [List.getElem_range] at this
          simpa using this)
        have hl0 := offs_lay P e k 0
        rw [Nat.zero_mul, Nat.zero_add, hlay] at hl0
        obtain ⟨avs, a1, a2, a3, _⟩ := struct_av (ts := ts) (cs := _) (fun t cs d ps h ht => ih t cs d ps h ht) (offs e (P.cellsOf e) k 0) 0 (P.cellsOf t) xs (fun f hf => by
          obtain ⟨i, hi, rfl⟩ := List.getElem_of_mem hf
          rw [offs_get]; exact hk) hl0 (Nat.le_of_eq hc.symm) hm2
        refine ⟨avs.flatten, ?_, ?_⟩
        · rw [offs_fst, show k = (xs.map (·.1)).length by simp [g1], zip_rep] at a1
          obtain ⟨b1, b2⟩ := mapM_get a1
          have hm3 : (xs.map (·.1)).mapM (toAV P n e) = some avs := mapM_mk (by simpa using b1) (fun i hi hi' => by
            have := b2 i (by simpa using hi) hi'
            simpa using this)
          change (if _ then _ else _) = _
          rw [if_pos (by simp [g1]), hm3]; rfl
        · rw [List.drop_zero, Nat.sub_zero, List.take_of_length_le (Nat.le_of_eq hc)] at a2; exact a2
    all_goals first | (cases h; done) | (rename_i hu; simp only [hu] at hk; done)
end
end Ab
namespace Ab
open Go Go.Proofs
section
variable {H : Type} {enc : TypeId × Value → H} {P : Program}
theorem toAV_str {n : Nat} {t : TypeId} {d : DataW H} {avs : List AV} (hk : kindOf P t = .str) (h : toAV P n t d = some avs) : ∃ bs, d = .lit (.string bs) ∧ avs = [.str bs] := by
  cases n with
  | zero => simp [toAV] at h
  | succ n => unfold toAV at h; rw [hk] at h; split at h <;> first | (cases h; done) | simp_all
theorem toAV_bool {n : Nat} {t : TypeId} {d : DataW H} {avs : List AV} (hk : kindOf P t = .bool) (h : toAV P n t d = some avs) : ∃ b, d = .lit (.bool b) ∧ avs = [.bool b] := by
  cases n with
  | zero => simp [toAV] at h
  | succ n => unfold toAV at h; rw [hk] at h; split at h <;> first | (cases h; done) | simp_all
theorem toAV_int {n : Nat} {t : TypeId} {k : IntKind} {d : DataW H} {avs : List AV} (hk : kindOf P t = .int k) (h : toAV P n t d = some avs) : ∃ i, d = .lit (.int k i) ∧ avs = [.int k i] := by
  cases n with
  | zero => simp [toAV] at h
  | succ n =>
    unfold toAV at h; rw [hk] at h
    split at h
    · simp_all
    · rename_i e
      injection e with e
      subst e
      split at h
      · rename_i e2; subst e2; simp at h; exact ⟨_, rfl, h.symm⟩
      · cases h
    all_goals first | (cases h; done) | simp_all
theorem toAV_struct {n : Nat} {t : TypeId} {l : List TypeId} {d : DataW H} {avs : List AV} (hk : kindOf P t = .struct l) (h : toAV P n t d = some avs) :
    ∃ m parts avss, n = m + 1 ∧ d = .agg parts ∧ l.length = parts.length ∧ (l.zip parts).mapM (fun p => toAV P m p.1 p.2) = some avss ∧ avs = avss.flatten := by
  cases n with
  | zero => simp [toAV] at h
  | succ n =>
    unfold toAV at h; rw [hk] at h
    split at h
    case h_6 l' parts e =>
      injection e with e
      subst e
      split at h
      · rename_i hl
        rw [Option.map_eq_some_iff] at h
        obtain ⟨avss, h1, h2⟩ := h
        exact ⟨n, parts, avss, rfl, rfl, hl, h1, h2.symm⟩
      · cases h
    all_goals first | (cases h; done) | simp_all
theorem toAV_slice {n : Nat} {t e : TypeId} {d : DataW H} {avs : List AV} (hk : kindOf P t = .slice e) (h : toAV P n t d = some avs) :
    ∃ m xss ds, n = m + 1 ∧ avs = [.sl .none (xss.map (pack (aggK P e)))] ∧ ds.mapM (toAV P m e) = some xss ∧ ((d = .nil ∧ ds = []) ∨ ∃ sp, d = .slice ds sp) := by
  cases n with
  | zero => simp [toAV] at h
  | succ n =>
    unfold toAV at h; rw [hk] at h
    split at h
    case h_4 e' he => simp at h; exact ⟨n, [], [], rfl, h.symm, rfl, .inl ⟨rfl, rfl⟩⟩
    case h_5 e' elems sp he =>
      injection he with he
      subst he
      rw [Option.map_eq_some_iff] at h
      obtain ⟨xss, h1, h2⟩ := h
      exact ⟨n, xss, elems, rfl, h2.symm, h1, .inr ⟨sp, rfl⟩⟩
    all_goals first | (cases h; done) | simp_all
theorem row_form {α : Type} (en : α → AV) (w : α → Nat) (bulk : DataW H → Nat) {t e : TypeId} (hk : kindOf P t = .slice e) {n : Nat} (he : ∀ m d avs, m < n → toAV P m e d = some avs → ∃ x, pack (aggK P e) avs = en x ∧ w x ≤ bulk d) {d : DataW H} {avs : List AV}
    (h : toAV P n t d = some avs) : ∃ (xs : List α) (ds : List (DataW H)), avs = [.sl .none (xs.map en)] ∧ (xs.map w).sum ≤ (ds.map bulk).sum ∧ xs.length = ds.length ∧ ((d = .nil ∧ ds = []) ∨ ∃ sp, d = .slice ds sp) := by
  obtain ⟨m, xss, ds, rfl, rfl, hm, hd⟩ := toAV_slice hk h
  have : ∃ xs : List α, xss.map (pack (aggK P e)) = xs.map en ∧ (xs.map w).sum ≤ (ds.map bulk).sum ∧ xs.length = ds.length := by
    clear hd h
    induction ds generalizing xss with
    | nil => simp at hm; subst hm; exact ⟨[], rfl, by simp, rfl⟩
    | cons d ds ih =>
      rw [List.mapM_cons] at hm
      cases h1 : toAV P m e d with
      | none => simp [h1] at hm
      | some a =>
        cases h2 : ds.mapM (toAV P m e) with
        | none => simp [h1, h2] at hm
        | some ass =>
          simp [h1, h2] at hm
          subst hm
          obtain ⟨xs, e1, e2, e3⟩ := ih ass h2
          obtain ⟨x, x1, x2⟩ := he m d a (by omega) h1
          exact ⟨x :: xs, by simp [x1, e1], by simp; omega, by simp [e3]⟩
  obtain ⟨xs, h1, h2, h3⟩ := this
  exact ⟨xs, ds, by rw [h1], h2, h3, hd⟩
def ctx0 (W : World) : Ctx := ⟨fun b => match W.heap[b]? with | some (.cells c _ _) => c.size | _ => 0, fun k => k, [], W⟩
theorem good0 (W : World) : Good (ctx0 W) := by
  refine ⟨fun k o h => by simp [ctx0] at h, fun k o h => by simp [ctx0] at h, fun j k o o' h => by simp [ctx0] at h, fun b hb => ?_⟩
  have : (ctx0 W).w = W := rfl
  rw [this] at hb
  simp only [ctx0]
  rw [Array.getElem?_eq_none (by omega)]
theorem ctx0_cell (W : World) : ∀ b o v, (ctx0 W).w.cell? ⟨b, o, none⟩ = some v → o < (ctx0 W).S b := by
  intro b o v h
  simp only [ctx0] at h ⊢
  unfold World.cell? at h
  split at h
  · rename_i c _ _ he
    simp only at he
    rw [he]
    simp only [Option.isSome_none, Bool.false_eq_true, if_false] at h
    exact (Array.getElem?_eq_some_iff.1 h).1
  · cases h
theorem arg_struct {W : World} {ts : List TypeId} (hts : closedK P ts = true) {t : TypeId} (ht : t ∈ ts) {v : Value} {d : DataW H} {ps : List MemPlace} {base : Nat} {spare : Nat → Bool} {held : Bool} {l : Array Field} (hu : P.underlying t = some (.struct l)) {r : Reach} {b0 : Nat}
    (hok : Value.okWide P W r b0 t v) (h : DataW.Trod enc P W base spare held t v d ps) : ∃ n avs, toAV P n t d = some avs ∧ VRel (ctx0 W) (.agg avs) v := by
  obtain ⟨n, hn⟩ := h
  obtain ⟨avs, h1, h2⟩ := trod_av (C := ctx0 W) (ctx0_cell W) hts n t _ d ps hn ht
  unfold Value.okWide at hok
  rw [hu] at hok
  obtain ⟨cs, rfl, _, _⟩ := hok
  refine ⟨n, avs, h1, .agg avs cs ?_ (fun i hi => ?_)⟩
  · exact h2.len.symm
  · have := h2.rel i hi (by rw [← h2.len]; exact hi)
    simpa [Value.cells] using this
theorem arg_slice {W : World} {ts : List TypeId} (hts : closedK P ts = true) {t e : TypeId} (ht : t ∈ ts) {v : Value} {d : DataW H} {ps : List MemPlace} {base : Nat} {spare : Nat → Bool} {held : Bool} (hu : P.underlying t = some (.slice e)) {r : Reach} {b0 : Nat}
    (hok : Value.okWide P W r b0 t v) (h : DataW.Trod enc P W base spare held t v d ps) : ∃ n a, toAV P n t d = some [a] ∧ VRel (ctx0 W) a v := by
  obtain ⟨n, hn⟩ := h
  obtain ⟨avs, h1, h2⟩ := trod_av (C := ctx0 W) (ctx0_cell W) hts n t _ d ps hn ht
  have hagg : aggK P t = false := by unfold aggK kindOf; rw [hu]
  obtain ⟨a, rfl⟩ := toAV_one hagg h1
  refine ⟨n, a, h1, ?_⟩
  have hv : v.cells.toList = [v] := by
    unfold Value.okWide at hok
    rw [hu] at hok
    cases v <;> first | rfl | (unfold Cell.okWide at hok; simp [hu] at hok; done) | (simp [Cell.okWide, Cell.ok, hu] at hok; done)
  have := h2.rel 0 (by simp) (by rw [hv]; simp)
  simp only [hv] at this
  simpa using this
theorem law_calls {f : Nat} {args : Array Value} {avs : List AV} (h : ∀ C (vs : Array Value), Good C → C.H = [] → vs.size = avs.length → (∀ i (h : i < avs.length) (h' : i < vs.size), VRel C avs[i] vs[i]) →
    Calls P f vs C.w fun e w' => ∃ v r C', e = .returned v ∧ C'.w = w' ∧ Good C' ∧ Ext C C' ∧ VRel C' r v ∧ (r = .bool true ∧ C'.H = [])) {W : World} (hsz : args.size = avs.length) (hv : ∀ i (h : i < avs.length) (h' : i < args.size), VRel (ctx0 W) avs[i] args[i]) :
    Calls P f args W fun e w' => e = .returned (.bool true) ∧ RowKit.Below W.heap.size W w' :=
  (h (ctx0 W) args (good0 W) rfl hsz hv).mono fun e w' ⟨v, r, C', he, hw, hg, hx, hvr, hr, _⟩ => by
    subst hr
    subst hw
    cases hvr
    exact ⟨he, hx.os, hx.tape, hx.output, hx.size, fun k hk => hx.frame k hk (fun k o ho => by simp [ctx0] at ho)⟩
theorem trodAll_stays (hl : laidOutB P = true) {W W' : World} (hb : RowKit.Below W.heap.size W W') {sp' : Nat → Bool} : ∀ {ts : List TypeId} {vs : List Value} {ds : List (DataW H)} {ps : List MemPlace}, (∀ t, t ∈ ts → P.readableRec t = true ∧ t < P.types.size) →
    DataW.TrodAll enc P W 0 (fun _ => true) true ts vs ds ps → (∀ p, p ∈ ps → p.block < W.heap.size) → (∀ p, p ∈ ps → sp' p.block = true) → DataW.TrodAll enc P W' 0 sp' true ts vs ds ps
  | [], [], [], _, _, h, _, _ => h
  | t :: ts, v :: vs, d :: ds, ps, hr, ⟨p, q, h1, h2, e⟩, hlt, hs => by
    subst e
    exact ⟨p, q, WideElems.Trod_stays hl (hr t (by simp)).1 (hr t (by simp)).2 h1 (fun x hx => hb.same (hlt x (List.mem_append_left _ hx))) (fun x hx => hs x (List.mem_append_left _ hx)),
      trodAll_stays hl hb (fun u hu => hr u (by simp [hu])) h2 (fun x hx => hlt x (List.mem_append_right _ hx)) (fun x hx => hs x (List.mem_append_right _ hx)), rfl⟩
  | [], [], _ :: _, _, _, h, _, _ => h.elim
  | [], _ :: _, _, _, _, h, _, _ => h.elim
  | _ :: _, [], _, _, _, h, _, _ => h.elim
  | _ :: _, _ :: _, [], _, _, h, _, _ => h.elim
open Go.ChangeShapes Go.RowKit in
theorem post_law {f : Func} {s : ChangeSpec} {apart fresh handsOn again : Bool} {W W' : World} {args : Array Value} {ds : List (DataW H)} {before : List MemPlace} (hvars : s.vars = []) (hsp : (s.fn H ds).results = [.lit (.bool true)] ∧ (s.fn H ds).args = ds ∧ (s.fn H ds).vars = [])
    (hW : DataW.Whole enc P f.params.toList s.vars apart W args.toList ds [] before) (hb : Below W.heap.size W W') {t : TypeId} (hres : f.resultTypes = #[t]) (ht : P.underlying t = some .bool) (hl : laidOutB P = true)
    (hr : ∀ t, t ∈ f.params.toList → P.readableRec t = true ∧ t < P.types.size) : s.post enc P f apart fresh handsOn again W args (.bool true) W' := by
  have hlt : ∀ p, p ∈ before → p.block < W.heap.size := hW.lt
  obtain ⟨p, q, h1, h2, he, hz, hn⟩ := hW
  have hW : DataW.Whole enc P f.params.toList s.vars apart W args.toList ds [] before := ⟨p, q, h1, h2, he, hz, hn⟩
  rw [hvars] at h2
  have hq : q = [] := h2
  subst hq
  have hp : before = p := by rw [he, List.append_nil]
  subst hp
  have hargs : ∀ sp' : Nat → Bool, (∀ x, x ∈ before → sp' x.block = true) → DataW.TrodAll enc P W' 0 sp' true f.params.toList args.toList ds before := fun sp' hs => trodAll_stays hl hb hr h1 hlt hs
  have hrr : ∀ (b : Nat) (sp : Nat → Bool) (hd : Bool), DataW.TrodAll enc P W' b sp hd f.resultTypes.toList ((Value.bool true).resultList f.resultTypes.size) [.lit (.bool true)] [] := fun b sp hd => by
    rw [hres]; exact ⟨[], [], shut_bool ht true, rfl, rfl⟩
  have e0 : s.fn H (ds ++ []) = s.fn H ds := by rw [List.append_nil]
  refine ⟨ds, [], before, [], before, [], hW, ?_, ?_, ?_, World.keptBut_mono (fun x hx => ⟨hx, .inr (.inl hx)⟩) (hb.frame (· ∈ before)), fun _ => ?_⟩
  · rw [e0, hsp.1]; exact hrr _ _ _
  · rw [e0, hsp.2.1]; exact hargs _ (fun x hx => by simpa using hlt x hx)
  · rw [e0, hsp.2.2, hvars]; rfl
  · refine ⟨ok_one hres rfl (okWide_bool_mk ht true), .lit (.bool true) :: ds, [], before, ⟨before, [], ?_, by rw [hvars]; rfl, by simp, ?_, ?_⟩, fun x hx _ => hx⟩
    · have := trodAll_append (hargs (fun _ => true) (fun _ _ => rfl)) (hrr 0 (fun _ => true) true)
      simpa using this
    · intro b off hx
      rw [hb.frozen (hlt _ hx)]
      exact hz b off hx
    · exact hn
end
end Ab
set_option maxRecDepth 10000
namespace Ab
open Go Go.Proofs Go.Proofs.Ytakpnikkcinckaa
section
variable {H : Type}
theorem kdStr : kindOf Try.prog 9 = .str := by kernel_rfl
theorem kdInt : kindOf Try.prog 3 = .int .i64 := by kernel_rfl
theorem kdBool : kindOf Try.prog 4 = .bool := by kernel_rfl
theorem kdTerm : kindOf Try.prog 27 = .struct [9, 4, 25] := by kernel_rfl
theorem kdTerms : kindOf Try.prog 25 = .slice 27 := by kernel_rfl
theorem agTerm : aggK Try.prog 27 = true := by unfold aggK; rw [kdTerm]
theorem bulkAll_sum : ∀ ds : List (DataW H), Rows.uptoBulkAll ds = (ds.map Rows.uptoBulk).sum
  | [] => by simp [Rows.uptoBulkAll]
  | d :: ds => by simp [Rows.uptoBulkAll, bulkAll_sum ds]
theorem bulk_row {d : DataW H} {ds : List (DataW H)} (h : (d = .nil ∧ ds = []) ∨ ∃ sp, d = .slice ds sp) : (ds.map Rows.uptoBulk).sum + 1 ≤ Rows.uptoBulk d := by
  rcases h with ⟨rfl, rfl⟩ | ⟨sp, rfl⟩
  · simp [Rows.uptoBulk]
  · rw [← bulkAll_sum]; simp only [Rows.uptoBulk]; omega
theorem term_form : ∀ (n : Nat) (d : DataW H) (avs : List AV), toAV Try.prog n 27 d = some avs → ∃ t : Term, .agg avs = encT t ∧ t.bulk ≤ Rows.uptoBulk d := by
  intro n
  induction n using Nat.strongRecOn with
  | ind n ih =>
    intro d avs h
    obtain ⟨m, parts, avss, rfl, rfl, hl, hm, rfl⟩ := toAV_struct kdTerm h
    match parts, hl, hm with
    | [d1, d2, d3], _, hm =>
      obtain ⟨h1, h2⟩ := mapM_get hm
      match avss, h1, h2 with
      | [a1, a2, a3], _, h2 =>
        obtain ⟨bs, rfl, rfl⟩ := toAV_str kdStr (h2 0 (by simp) (by simp))
        obtain ⟨b, rfl, rfl⟩ := toAV_bool kdBool (h2 1 (by simp) (by simp))
        obtain ⟨xs, ds, e3, hw, _, hd⟩ := row_form encT Term.bulk Rows.uptoBulk kdTerms (n := m) (fun k d avs hk he => by
          obtain ⟨t, x1, x2⟩ := ih k (by omega) d avs he
          exact ⟨t, by rw [agTerm]; exact x1, x2⟩) (h2 2 (by simp) (by simp))
        simp only [List.getElem_cons_succ, List.getElem_cons_zero] at e3 hd
        subst e3
        have hb := bulk_row (d := d3) hd
        simp only [Rows.uptoBulk, Rows.uptoBulkAll]
        refine ⟨.mk bs b xs, ?_, ?_⟩
        · simp [Term.name, Term.var, Term.args, encTs_map]
        · rw [Term.bulk_mk]; omega
end
end Ab
set_option maxRecDepth 10000
namespace Ab
open Go Go.Proofs Go.Proofs.Ytakpnikkcinckaa
section
variable {H : Type}
theorem kdRank : kindOf Try.prog 63 = .struct [9, 3, 3] := by kernel_rfl
theorem kdRanks : kindOf Try.prog 22 = .slice 63 := by kernel_rfl
theorem agRank : aggK Try.prog 63 = true := by unfold aggK; rw [kdRank]
theorem kdOrder : kindOf Try.prog 24 = .struct [22, 3] := by kernel_rfl
theorem kdSym : kindOf Try.prog 65 = .struct [9, 3] := by kernel_rfl
theorem kdSyms : kindOf Try.prog 34 = .slice 65 := by kernel_rfl
theorem agSym : aggK Try.prog 65 = true := by unfold aggK; rw [kdSym]
theorem rank_form (n : Nat) (d : DataW H) (avs : List AV) (h : toAV Try.prog n 63 d = some avs) : ∃ x : Rank, .agg avs = encR x ∧ x.name.length + 1 ≤ Rows.uptoBulk d := by
  obtain ⟨m, parts, avss, rfl, rfl, hl, hm, rfl⟩ := toAV_struct kdRank h
  match parts, hl, hm with
  | [d1, d2, d3], _, hm =>
    obtain ⟨h1, h2⟩ := mapM_get hm
    match avss, h1, h2 with
    | [a1, a2, a3], _, h2 =>
      obtain ⟨bs, rfl, rfl⟩ := toAV_str kdStr (h2 0 (by simp) (by simp))
      obtain ⟨i, rfl, rfl⟩ := toAV_int kdInt (h2 1 (by simp) (by simp))
      obtain ⟨j, rfl, rfl⟩ := toAV_int kdInt (h2 2 (by simp) (by simp))
      exact ⟨⟨bs, i, j⟩, by simp, by simp only [Rows.uptoBulk, Rows.uptoBulkAll]; omega⟩
theorem sym_form (n : Nat) (d : DataW H) (avs : List AV) (h : toAV Try.prog n 65 d = some avs) : ∃ x : Sym, .agg avs = encS x ∧ x.name.length + 1 ≤ Rows.uptoBulk d := by
  obtain ⟨m, parts, avss, rfl, rfl, hl, hm, rfl⟩ := toAV_struct kdSym h
  match parts, hl, hm with
  | [d1, d2], _, hm =>
    obtain ⟨h1, h2⟩ := mapM_get hm
    match avss, h1, h2 with
    | [a1, a2], _, h2 =>
      obtain ⟨bs, rfl, rfl⟩ := toAV_str kdStr (h2 0 (by simp) (by simp))
      obtain ⟨i, rfl, rfl⟩ := toAV_int kdInt (h2 1 (by simp) (by simp))
      exact ⟨⟨bs, i⟩, by simp, by simp only [Rows.uptoBulk, Rows.uptoBulkAll]; omega⟩
theorem names_sum {α : Type} (f : α → Nat) (xs : List α) {k : Nat} (h : (xs.map fun x => f x + 1).sum ≤ k) : xs.length ≤ k ∧ ∀ x, x ∈ xs → f x ≤ k := by
  induction xs generalizing k with
  | nil => simp
  | cons a r ih =>
    simp only [List.map_cons, List.sum_cons] at h
    obtain ⟨h1, h2⟩ := ih (k := k - (f a + 1)) (by omega)
    refine ⟨by simp; omega, fun x hx => ?_⟩
    rcases List.mem_cons.1 hx with rfl | hx
    · omega
    · have := h2 x hx; omega
theorem syms_form (n : Nat) (d : DataW H) (avs : List AV) (h : toAV Try.prog n 34 d = some avs) : ∃ ss : List Sym, avs = [.sl .none (encL encS ss)] ∧ ss.length ≤ Rows.uptoBulk d ∧ ∀ x, x ∈ ss → x.name.length ≤ Rows.uptoBulk d := by
  obtain ⟨xs, ds, e3, hw, _, hd⟩ := row_form (fun s : Sym => encS s) (fun x : Sym => x.name.length + 1) Rows.uptoBulk kdSyms (n := n) (fun k d avs _ he => by
    obtain ⟨t, x1, x2⟩ := sym_form k d avs he
    exact ⟨t, by rw [agSym]; exact x1, x2⟩) h
  have hb := bulk_row hd
  have := names_sum (fun x : Sym => x.name.length) xs (k := Rows.uptoBulk d) (by omega)
  exact ⟨xs, e3, this.1, this.2⟩
theorem order_form (n : Nat) (d : DataW H) (avs : List AV) (h : toAV Try.prog n 24 d = some avs) :
    ∃ (l : List Rank) (unit : Int), AV.agg avs = .agg [.sl .none (encL encR l), .int .i64 unit] ∧ l.length ≤ Rows.uptoBulk d ∧ ∀ x, x ∈ l → x.name.length ≤ Rows.uptoBulk d := by
  obtain ⟨m, parts, avss, rfl, rfl, hl, hm, rfl⟩ := toAV_struct kdOrder h
  match parts, hl, hm with
  | [d1, d2], _, hm =>
    obtain ⟨h1, h2⟩ := mapM_get hm
    match avss, h1, h2 with
    | [a1, a2], _, h2 =>
      obtain ⟨i, rfl, rfl⟩ := toAV_int kdInt (h2 1 (by simp) (by simp))
      obtain ⟨xs, ds, e3, hw, _, hd⟩ := row_form (fun s : Rank => encR s) (fun x : Rank => x.name.length + 1) Rows.uptoBulk kdRanks (n := m) (fun k d avs _ he => by
        obtain ⟨t, x1, x2⟩ := rank_form k d avs he
        exact ⟨t, by rw [agRank]; exact x1, x2⟩) (h2 0 (by simp) (by simp))
      simp only [List.getElem_cons_zero] at e3 hd
      subst e3
      have hb := bulk_row (d := d1) hd
      have := names_sum (fun x : Rank => x.name.length) xs (k := Rows.uptoBulk d1) (by omega)
      refine ⟨xs, i, rfl, ?_, fun x hx => ?_⟩
      · simp only [Rows.uptoBulk, Rows.uptoBulkAll]; omega
      · have := this.2 x hx; simp only [Rows.uptoBulk, Rows.uptoBulkAll]; omega
theorem bulk3 {d1 d2 d3 : DataW H} (hk : Rows.uptoSmall H ([d1, d2, d3] ++ []) = true) : Rows.uptoBulk d1 + Rows.uptoBulk d2 + Rows.uptoBulk d3 ≤ 1048576 := by
  have := of_decide_eq_true hk
  simp only [List.append_nil, Rows.uptoBulkAll] at this
  omega
end
end Ab
set_option maxRecDepth 10000
namespace Go.Proofs.Ytakpnikkcinckaa
open Go Ab
namespace wc
theorem own : ownKnob Try.prog.godebug = none := by kernel_rfl
theorem laid : laidOutB Try.prog = true := by kernel_rfl
theorem readable : ∀ t, t ∈ Try.f6.params.toList → Try.prog.readableRec t = true ∧ t < Try.prog.types.size := by
  rw [Try.params6]; intro t ht
  simp only [List.mem_cons, List.not_mem_nil, or_false] at ht
  rcases ht with rfl | rfl | rfl <;> exact ⟨by kernel_rfl, of_decide_eq_true (by kernel_rfl)⟩
theorem closed : closedK Try.prog [9, 4, 3, 27, 25, 63, 22, 24, 65, 34] = true := by kernel_rfl
theorem contract (H : Type) (enc : TypeId × Value → H) (W : World) (base : Nat) (args : Array Value) (ds gs : List (DataW H)) (before : List MemPlace)
    (hval : ∀ (j : Nat) t v, Try.f6.params[j]? = some t → args[j]? = some v → Value.okWide Try.prog W .any base t v)
    (hW : DataW.Whole enc Try.prog Try.f6.params.toList Rows.weightChecksSpec.vars false W args.toList ds gs before) (hk : Rows.uptoSmall H (ds ++ gs) = true) :
    Calls Try.prog 6 args W fun e W' => ∃ v, e = .returned v ∧ Rows.weightChecksSpec.post enc Try.prog Try.f6 false true false false W args v W' := by
  have hW' := hW
  obtain ⟨p, q, hA0, hV, rfl, hfz, hnd⟩ := hW
  have hA : DataW.TrodAll enc Try.prog W 0 (fun _ => true) true Try.f6.params.toList args.toList ds p := hA0
  rw [Try.params6] at hA hval
  obtain ⟨v0, vs0, d0, ds0, p0, q0, hargs, rfl, rfl, h0, r0⟩ := ChangeShapes.trodAll_cons hA
  obtain ⟨v1, vs1, d1, ds1, p1, q1, rfl, rfl, rfl, h1, r1⟩ := ChangeShapes.trodAll_cons r0
  obtain ⟨v2, vs2, d2, ds2, p2, q2, rfl, rfl, rfl, h2, r2⟩ := ChangeShapes.trodAll_cons r1
  obtain ⟨rfl, rfl, rfl⟩ := ChangeShapes.trodAll_nil r2
  obtain rfl : args = #[v0, v1, v2] := by cases args; simp_all
  have hg : gs = [] := by cases gs with | nil => rfl | cons _ _ => exact hV.elim
  subst hg
  have hb := bulk3 hk
  obtain ⟨n0, a0, e0, x0⟩ := arg_struct closed (by decide) Try.underlying24 (hval 0 _ v0 rfl rfl) h0
  obtain ⟨n1, a1, e1, x1⟩ := arg_slice closed (by decide) Try.underlying34 (hval 1 _ v1 rfl rfl) h1
  obtain ⟨n2, a2, e2, x2⟩ := arg_struct closed (by decide) Try.underlying27 (hval 2 _ v2 rfl rfl) h2
  obtain ⟨l, unit, f0, b1, b2⟩ := order_form n0 d0 a0 e0
  obtain ⟨ss, f1, b3, b5⟩ := syms_form n1 d1 [a1] e1
  obtain ⟨t, f2, b4⟩ := term_form n2 d2 a2 e2
  simp only [List.cons.injEq, and_true] at f1
  rw [f0] at x0; rw [f1] at x1; rw [f2] at x2
  have hc := law_calls (args := #[v0, v1, v2]) (avs := [.agg [.sl .none (encL encR l), .int .i64 unit], .sl .none (encL encS ss), encT t]) (W := W) (checksLaw_ac l unit ss t (by omega) (fun x hx => by have := b2 x hx; omega) (by omega) (fun x hx => by have := b5 x hx; omega) (by omega) []) rfl (fun i hi hi' => by
    match i, hi with
    | 0, _ => exact x0
    | 1, _ => exact x1
    | 2, _ => exact x2)
  refine hc.mono fun e W' ⟨he, hbl⟩ => ?_
  subst he
  exact ⟨_, rfl, post_law rfl ⟨rfl, rfl, rfl⟩ hW' hbl rfl Try.underlying4 laid readable⟩
set_option maxRecDepth 100000 in
theorem lifted (os : Os) (started : os.Started) (H : Type) (enc : TypeId × Value → H) (F : Stop.Interp) :
    ReturnsInHanded {} Try.checked os 6 .any ((Rows.OpenSpec.upto Rows.weightChecksSpec).pre6 enc Try.prog Try.f6 Rows.weightChecksUptoRow.domain false) (((Rows.OpenSpec.upto Rows.weightChecksSpec).at F).post enc Try.prog Try.f6 false true false false) := by
  refine returnsInHanded_of_cond (C := Try.checked) (s := Rows.OpenSpec.upto Rows.weightChecksSpec) (k := Rows.uptoSmall) rfl own started (by kernel_rfl) Try.func6
    (OpenSpec.witness (enc := enc) (C := Try.checked) (s := Rows.OpenSpec.upto Rows.weightChecksSpec) (k := Rows.uptoSmall) rfl false
      ⟨#[], #[.agg #[.slice none 0 0, .int .i64 0], .slice none 0 0, .agg #[.string ⟨#[]⟩, .bool false, .slice none 0 0]], []⟩ 8 (by kernel_rfl) (by kernel_rfl) (by kernel_rfl)
      (x := ([.agg [.nil, .lit (.int .i64 0)], .nil, .agg [.lit (.string []), .lit (.bool false), .nil]], [], [])) (by kernel_rfl) rfl (by kernel_rfl)) ?_
  intro W base args ds gs before hval hW _ hk _
  exact contract H enc W base args ds gs before hval hW hk
theorem over : Rows.weightChecksUptoRow.holds Try.pinned (Rows.OpenSpec.upto Rows.weightChecksSpec) :=
  OpenClaim.holds_of_cond 6 Try.f6 rfl rfl rfl rfl rfl rfl rfl ⟨rfl, rfl, rfl, rfl, rfl⟩ rfl rfl rfl rfl rfl (by kernel_rfl) Try.func6 (by kernel_rfl)
    (of_decide_eq_true (by kernel_rfl)) (by unfold Func.isWrapper; first | (rw [if_pos (by decide +kernel)]; kernel_rfl) | (rw [if_neg (by decide +kernel)]; exact ⟨rfl, rfl⟩))
    (fun os started H enc _ F => lifted os started H enc F)
end wc
theorem weightChecks_upto : Rows.WeightChecksUptoSaid := wc.over
end Go.Proofs.Ytakpnikkcinckaa
