/- Part 5 of 6 of a proof. WeightClosed -/
import Derived.Test.YtakpnikkcinckaaWz4
set_option linter.unusedVariables false
set_option linter.unusedSimpArgs false
set_option maxRecDepth 10000
namespace Ab
open Go Go.Proofs
attribute [local push_cast] encT encR scoped_encR encS scoped_encS
theorem symsC1_ac (f : Sym) (hn : f.name.length < 1099511627776) (H : List AObj) : ACall Try.prog 63 [encS f] H (fun r H' => r = .bool (!isNameP f.name true) ∧ H' = H) := by
  refine ACall_intro (H.length) Try.func63 rfl ?_
  simp only [Try.ntmps63, List.length_cons, List.length_nil, List.replicate, List.cons_append, List.nil_append, Nat.reduceAdd, Nat.reduceSub, Nat.zero_add]
  refine AW_seq_k (fun K1 hK1 => ?_)
  refine AW_region ?_
  all_goals (refine AOps_cons rfl (AOp_box _ _ rfl rfl (by first | exact .inl rfl | exact .inr ⟨_, rfl⟩) (by simp [push_cast, AV.isCell]) ?_) <;> try simp only [push_cast, Nat.reduceAdd])
  all_goals (refine AOps_cons rfl (AOp_assign ?_) <;> try simp only [push_cast, Nat.reduceAdd])
  all_goals refine AOps_nil ?_
  all_goals
   refine thenK_normal (hK1 _ ?_)
   try clear hK1
   refine AW_seq_k (fun K2 hK2 => ?_)
   refine AW_region ?_
   all_goals (refine AOps_cons rfl (AOp_fieldAddr_ptr _ _ _ _ rfl fd65_0 (by decide) ?_) <;> try simp only [push_cast, Nat.reduceAdd])
   all_goals (refine AOps_cons rfl (AOp_load1_ptr _ _ _ _ _ rfl (by first | exact hget0 | exact hgetN _ rfl | assumption | exact hgetL (by assumption)) sz9 ag9 (by decide) (by simp [push_cast]) rfl ?_) <;> try simp only [push_cast, Nat.reduceAdd])
   all_goals refine AOps_cons rfl (AOp_call _ _ _ rfl rfl ok64 ?_)
   all_goals (try simp only [push_cast, Nat.reduceAdd])
   all_goals refine (isName_ac _ _ _ hn).mono ?_
   all_goals rintro r H' ⟨rfl, rfl⟩
   all_goals (try simp only [push_cast, Nat.reduceAdd])
   all_goals (refine AOps_cons rfl (AOp_not _ rfl ?_) <;> try simp only [push_cast, Nat.reduceAdd])
   all_goals (refine AOps_cons rfl (AOp_assign ?_) <;> try simp only [push_cast, Nat.reduceAdd])
   all_goals refine AOps_nil ?_
   all_goals
    refine thenK_normal (hK2 _ ?_)
    try clear hK2
    refine AW_ret ?_
    repeat (first | refine thenK_ret ?_ | refine loopK_ret ?_ | refine blockK_ret ?_)
    refine ⟨by first | exact .inl rfl | exact .inr rfl, _, rfl, (by first | exact outok_app 0 rfl (Nat.zero_le _) (by simp) | exact outok_self), by simp [push_cast], ?_⟩
    simp only [push_cast, Nat.reduceAdd]
    (first | (simp; done) | (simp; omega) | omega)
theorem symsC2_ac (f : Sym) (H : List AObj) : ACall Try.prog 65 [encS f] H (fun r H' => r = .bool (decide (f.arity < 0) || decide (8 < f.arity)) ∧ H' = H) := by
  refine ACall_intro (H.length) Try.func65 rfl ?_
  simp only [Try.ntmps65, List.length_cons, List.length_nil, List.replicate, List.cons_append, List.nil_append, Nat.reduceAdd, Nat.reduceSub, Nat.zero_add]
  refine AW_seq_k (fun K3 hK3 => ?_)
  refine AW_region ?_
  all_goals (refine AOps_cons rfl (AOp_box _ _ rfl rfl (by first | exact .inl rfl | exact .inr ⟨_, rfl⟩) (by simp [push_cast, AV.isCell]) ?_) <;> try simp only [push_cast, Nat.reduceAdd])
  all_goals (refine AOps_cons rfl (AOp_assign ?_) <;> try simp only [push_cast, Nat.reduceAdd])
  all_goals refine AOps_nil ?_
  all_goals
   refine thenK_normal (hK3 _ ?_)
   try clear hK3
   refine AW_seq_k (fun K4 hK4 => ?_)
   refine AW_region ?_
   all_goals (refine AOps_cons rfl (AOp_fieldAddr_ptr _ _ _ _ rfl fd65_1 (by decide) ?_) <;> try simp only [push_cast, Nat.reduceAdd])
   all_goals (refine AOps_cons rfl (AOp_load1_ptr _ _ _ _ _ rfl (by first | exact hget0 | exact hgetN _ rfl | assumption | exact hgetL (by assumption)) sz3 ag3 (by decide) (by simp [push_cast]) rfl ?_) <;> try simp only [push_cast, Nat.reduceAdd])
   all_goals (refine AOps_cons rfl (AOp_bin_int _ _ _ _ rfl rfl rfl ?_) <;> try simp only [push_cast, Nat.reduceAdd])
   all_goals refine AOps_cons rfl (AOp_move ?_)
   all_goals (try simp only [push_cast, Nat.reduceAdd])
   all_goals (try refine AOps_split 6 _ rfl (fun hg5 => ?_) (fun hg5 => ?_))
   all_goals (try (exfalso; (first | (cases hg5; done) | (simp at hg5; done) | (simp at hg5; omega)); done))
   all_goals (try simp only [decide_eq_true_eq, decide_eq_false_iff_not, Bool.not_eq_true', Bool.not_eq_false', Bool.not_eq_eq_eq_not, Bool.not_true, Bool.not_false] at hg5)
   all_goals first
    | refine AOps_skip rfl ?_
    | (refine AOps_cons rfl ?_
       refine AOp_fieldAddr_ptr _ _ _ _ rfl fd65_1 (by decide) ?_)
   all_goals (try simp only [push_cast, Nat.reduceAdd])
   all_goals first
    | refine AOps_skip rfl ?_
    | (refine AOps_cons rfl ?_
       refine AOp_load1_ptr _ _ _ _ _ rfl (by first | exact hget0 | exact hgetN _ rfl | assumption | exact hgetL (by assumption)) sz3 ag3 (by decide) (by simp [push_cast]) rfl ?_)
   all_goals (try simp only [push_cast, Nat.reduceAdd])
   all_goals first
    | refine AOps_skip rfl ?_
    | (refine AOps_cons rfl ?_
       refine AOp_bin_int _ _ _ _ rfl rfl rfl ?_)
   all_goals (try simp only [push_cast, Nat.reduceAdd])
   all_goals refine AOps_cons rfl (AOp_pick _ rfl ?_)
   all_goals (refine AOps_cons rfl (AOp_assign ?_) <;> try simp only [push_cast, Nat.reduceAdd])
   all_goals refine AOps_nil ?_
   all_goals
    refine thenK_normal (hK4 _ ?_)
    try clear hK4
    refine AW_ret ?_
    repeat (first | refine thenK_ret ?_ | refine loopK_ret ?_ | refine blockK_ret ?_)
    refine ⟨by first | exact .inl rfl | exact .inr rfl, _, rfl, (by first | exact outok_app 0 rfl (Nat.zero_le _) (by simp) | exact outok_self), by simp [push_cast], ?_⟩
    simp only [push_cast, Nat.reduceAdd]
    first
      | (have h1 : f.arity < 0 := (by assumption); simp [h1]; done)
      | (have h1 : ¬ f.arity < 0 := (by assumption); simp [h1]; done)
def symsCheck (ss : List Sym) : Int := if ss.any (fun f => !isNameP f.name true) then 4 else if ss.any (fun f => decide (f.arity < 0) || decide (8 < f.arity)) then 2 else 0
theorem pathSymbols_ac (ss : List Sym) (hlen : ss.length < 1099511627776) (hn : ∀ f, f ∈ ss → f.name.length < 1099511627776) (H : List AObj) : ACall Try.prog 43 [.sl .none (encL encS ss)] H (fun r H' => r = .int .i64 (symsCheck ss) ∧ H' = H) := by
  refine ACall_intro (H.length) Try.func43 rfl ?_
  simp only [Try.ntmps43, List.length_cons, List.length_nil, List.replicate, List.cons_append, List.nil_append, Nat.reduceAdd, Nat.reduceSub, Nat.zero_add]
  refine AW_seq_k (fun K6 hK6 => ?_)
  refine AW_region ?_
  all_goals (refine AOps_cons rfl (AOp_assign ?_) <;> try simp only [push_cast, Nat.reduceAdd])
  all_goals refine AOps_nil ?_
  all_goals
   refine thenK_normal (hK6 _ ?_)
   try clear hK6
   refine AW_seq_k (fun K7 hK7 => ?_)
   refine AW_block ?_
   refine AW_seq_k (fun K8 hK8 => ?_)
   refine AW_region ?_
   all_goals refine AOps_cons rfl (AOp_move ?_)
   all_goals (try simp only [push_cast, Nat.reduceAdd])
   all_goals refine AOps_cons rfl (AOp_call _ _ _ rfl rfl ok52 ?_)
   all_goals (try simp only [push_cast, Nat.reduceAdd])
   all_goals refine (containsS_ac ss 63 [] (fun f => !isNameP f.name true) _ hlen ok63 (by simp [ScopedL]) (fun i h X => symsC1_ac _ (hn _ (by simp)) _)).mono ?_
   all_goals rintro r H' ⟨rfl, rfl⟩
   all_goals (try simp only [push_cast, Nat.reduceAdd])
   all_goals (refine AOps_cons rfl (AOp_assign ?_) <;> try simp only [push_cast, Nat.reduceAdd])
   all_goals refine AOps_nil ?_
   all_goals
    refine thenK_normal (hK8 _ ?_)
    try clear hK8
    apply AW_cond
    case' hc => exact rfl
    case' hf =>
     intro hc9
     try (exfalso; (first | (cases hc9; done) | (simp at hc9; done) | (simp at hc9; omega)); done)
     all_goals (try simp only [decide_eq_true_eq, decide_eq_false_iff_not, Bool.not_eq_true', Bool.not_eq_false', Bool.not_eq_eq_eq_not, Bool.not_true, Bool.not_false] at hc9)
     all_goals
      refine AW_seq_k (fun K10 hK10 => ?_)
      refine AW_region ?_
      all_goals refine AOps_cons rfl (AOp_move ?_)
      all_goals (try simp only [push_cast, Nat.reduceAdd])
      all_goals refine AOps_cons rfl (AOp_call _ _ _ rfl rfl ok52 ?_)
      all_goals (try simp only [push_cast, Nat.reduceAdd])
      all_goals refine (containsS_ac ss 65 [] (fun f => decide (f.arity < 0) || decide (8 < f.arity)) _ hlen ok65 (by simp [ScopedL]) (fun i h X => symsC2_ac _ _)).mono ?_
      all_goals rintro r H' ⟨rfl, rfl⟩
      all_goals (try simp only [push_cast, Nat.reduceAdd])
      all_goals (refine AOps_cons rfl (AOp_assign ?_) <;> try simp only [push_cast, Nat.reduceAdd])
      all_goals refine AOps_nil ?_
      all_goals
       refine thenK_normal (hK10 _ ?_)
       try clear hK10
       apply AW_cond
       case' hc => exact rfl
       case' hf =>
        intro hc11
        try (exfalso; (first | (cases hc11; done) | (simp at hc11; done) | (simp at hc11; omega)); done)
        all_goals (try simp only [decide_eq_true_eq, decide_eq_false_iff_not, Bool.not_eq_true', Bool.not_eq_false', Bool.not_eq_eq_eq_not, Bool.not_true, Bool.not_false] at hc11)
        all_goals
         refine AW_skip ?_
         refine blockK_normal ?_
         refine thenK_normal (hK7 _ ?_)
         try clear hK7
         refine AW_seq_k (fun K12 hK12 => ?_)
         refine AW_region ?_
         all_goals (refine AOps_cons rfl (AOp_assign ?_) <;> try simp only [push_cast, Nat.reduceAdd])
         all_goals refine AOps_nil ?_
         all_goals
          refine thenK_normal (hK12 _ ?_)
          try clear hK12
          refine AW_ret ?_
          repeat (first | refine thenK_ret ?_ | refine loopK_ret ?_ | refine blockK_ret ?_)
          refine ⟨by first | exact .inl rfl | exact .inr rfl, _, rfl, (by first | exact outok_app 0 rfl (Nat.zero_le _) (by simp) | exact outok_self), by simp [push_cast], ?_⟩
          simp only [push_cast, Nat.reduceAdd]
          unfold symsCheck
          first
            | (have h1 : (ss.any fun f => !isNameP f.name true) = true := (by assumption); rw [h1]; simp; done)
            | (have h1 : (ss.any fun f => !isNameP f.name true) = false := (by assumption)
               first
                 | (have h2 : (ss.any fun f => decide (f.arity < 0) || decide (8 < f.arity)) = true := (by assumption); rw [h1, h2]; simp; done)
                 | (have h2 : (ss.any fun f => decide (f.arity < 0) || decide (8 < f.arity)) = false := (by assumption); rw [h1, h2]; simp; done))
            | fail "ret"
       case' ht =>
        intro hc11
        try (exfalso; (first | (cases hc11; done) | (simp at hc11; done) | (simp at hc11; omega)); done)
        all_goals (try simp only [decide_eq_true_eq, decide_eq_false_iff_not, Bool.not_eq_true', Bool.not_eq_false', Bool.not_eq_eq_eq_not, Bool.not_true, Bool.not_false] at hc11)
        all_goals
         refine AW_seq_k (fun K13 hK13 => ?_)
         refine AW_region ?_
         all_goals (refine AOps_cons rfl (AOp_assign ?_) <;> try simp only [push_cast, Nat.reduceAdd])
         all_goals refine AOps_nil ?_
         all_goals
          refine thenK_normal (hK13 _ ?_)
          try clear hK13
          refine AW_ret ?_
          repeat (first | refine thenK_ret ?_ | refine loopK_ret ?_ | refine blockK_ret ?_)
          refine ⟨by first | exact .inl rfl | exact .inr rfl, _, rfl, (by first | exact outok_app 0 rfl (Nat.zero_le _) (by simp) | exact outok_self), by simp [push_cast], ?_⟩
          simp only [push_cast, Nat.reduceAdd]
          unfold symsCheck
          first
            | (have h1 : (ss.any fun f => !isNameP f.name true) = true := (by assumption); rw [h1]; simp; done)
            | (have h1 : (ss.any fun f => !isNameP f.name true) = false := (by assumption)
               first
                 | (have h2 : (ss.any fun f => decide (f.arity < 0) || decide (8 < f.arity)) = true := (by assumption); rw [h1, h2]; simp; done)
                 | (have h2 : (ss.any fun f => decide (f.arity < 0) || decide (8 < f.arity)) = false := (by assumption); rw [h1, h2]; simp; done))
            | fail "ret"
    case' ht =>
     intro hc9
     try (exfalso; (first | (cases hc9; done) | (simp at hc9; done) | (simp at hc9; omega)); done)
     all_goals (try simp only [decide_eq_true_eq, decide_eq_false_iff_not, Bool.not_eq_true', Bool.not_eq_false', Bool.not_eq_eq_eq_not, Bool.not_true, Bool.not_false] at hc9)
     all_goals
      refine AW_seq_k (fun K14 hK14 => ?_)
      refine AW_region ?_
      all_goals (refine AOps_cons rfl (AOp_assign ?_) <;> try simp only [push_cast, Nat.reduceAdd])
      all_goals refine AOps_nil ?_
      all_goals
       refine thenK_normal (hK14 _ ?_)
       try clear hK14
       refine AW_ret ?_
       repeat (first | refine thenK_ret ?_ | refine loopK_ret ?_ | refine blockK_ret ?_)
       refine ⟨by first | exact .inl rfl | exact .inr rfl, _, rfl, (by first | exact outok_app 0 rfl (Nat.zero_le _) (by simp) | exact outok_self), by simp [push_cast], ?_⟩
       simp only [push_cast, Nat.reduceAdd]
       unfold symsCheck
       first
         | (have h1 : (ss.any fun f => !isNameP f.name true) = true := (by assumption); rw [h1]; simp; done)
         | (have h1 : (ss.any fun f => !isNameP f.name true) = false := (by assumption)
            first
              | (have h2 : (ss.any fun f => decide (f.arity < 0) || decide (8 < f.arity)) = true := (by assumption); rw [h1, h2]; simp; done)
              | (have h2 : (ss.any fun f => decide (f.arity < 0) || decide (8 < f.arity)) = false := (by assumption); rw [h1, h2]; simp; done))
         | fail "ret"
def admP (l : List Rank) (unit : Int) (ss : List Sym) : Bool × Int := if wcheckP l unit ≠ 0 then (false, wcheckP l unit) else if symsCheck ss ≠ 0 then (false, symsCheck ss) else (fitsW l unit ss, 0)
theorem admissible_ac (l : List Rank) (unit : Int) (ss : List Sym) (hlen : l.length < 1099511627776) (hnl : ∀ x, x ∈ l → x.name.length < 1099511627776) (hlen2 : ss.length < 1099511627776) (hn : ∀ f, f ∈ ss → f.name.length < 1099511627776) (H : List AObj) :
    ACall Try.prog 22 [.sl .none (encL encR l), .int .i64 unit, .sl .none (encL encS ss)] H (fun r H' => r = .tup [.bool (admP l unit ss).1, .int .i64 (admP l unit ss).2] ∧ H' = H) := by
  refine ACall_intro (H.length) Try.func22 rfl ?_
  simp only [Try.ntmps22, List.length_cons, List.length_nil, List.replicate, List.cons_append, List.nil_append, Nat.reduceAdd, Nat.reduceSub, Nat.zero_add]
  refine AW_seq_k (fun K15 hK15 => ?_)
  refine AW_region ?_
  all_goals refine AOps_cons rfl (AOp_assign ?_)
  all_goals (refine AOps_cons rfl (AOp_assign ?_) <;> try simp only [push_cast, Nat.reduceAdd])
  all_goals refine AOps_nil ?_
  all_goals
   refine thenK_normal (hK15 _ ?_)
   try clear hK15
   refine AW_seq_k (fun K16 hK16 => ?_)
   refine AW_seq_k (fun K17 hK17 => ?_)
   refine AW_region ?_
   all_goals refine AOps_cons rfl (AOp_move ?_)
   all_goals refine AOps_cons rfl (AOp_move ?_)
   all_goals (try simp only [push_cast, Nat.reduceAdd])
   all_goals refine AOps_cons rfl (AOp_call _ _ _ rfl rfl ok24 ?_)
   all_goals (try simp only [push_cast, Nat.reduceAdd])
   all_goals refine (wcheck_ac l unit hlen hnl _).mono ?_
   all_goals rintro r H' ⟨rfl, rfl⟩
   all_goals (try simp only [push_cast, Nat.reduceAdd])
   all_goals (refine AOps_cons rfl (AOp_assign ?_) <;> try simp only [push_cast, Nat.reduceAdd])
   all_goals refine AOps_nil ?_
   all_goals
    refine thenK_normal (hK17 _ ?_)
    try clear hK17
    refine AW_seq_k (fun K18 hK18 => ?_)
    refine AW_region ?_
    all_goals refine AOps_cons rfl (AOp_move ?_)
    all_goals (try simp only [push_cast, Nat.reduceAdd])
    all_goals (refine AOps_cons rfl (AOp_bin_int _ _ _ _ rfl rfl rfl ?_) <;> try simp only [push_cast, Nat.reduceAdd])
    all_goals refine AOps_nil ?_
    all_goals
     refine thenK_normal (hK18 _ ?_)
     try clear hK18
     apply AW_cond
     case' hc => exact rfl
     case' hf =>
      intro hc19
      try (exfalso; (first | (cases hc19; done) | (simp at hc19; done) | (simp at hc19; omega)); done)
      all_goals (try simp only [decide_eq_true_eq, decide_eq_false_iff_not, Bool.not_eq_true', Bool.not_eq_false', Bool.not_eq_eq_eq_not, Bool.not_true, Bool.not_false] at hc19)
      all_goals
       refine AW_skip ?_
       refine thenK_normal (hK16 _ ?_)
       try clear hK16
       refine AW_seq_k (fun K20 hK20 => ?_)
       refine AW_seq_k (fun K21 hK21 => ?_)
       refine AW_region ?_
       all_goals refine AOps_cons rfl (AOp_move ?_)
       all_goals (try simp only [push_cast, Nat.reduceAdd])
       all_goals refine AOps_cons rfl (AOp_call _ _ _ rfl rfl ok43 ?_)
       all_goals (try simp only [push_cast, Nat.reduceAdd])
       all_goals refine (pathSymbols_ac ss hlen2 hn _).mono ?_
       all_goals rintro r H' ⟨rfl, rfl⟩
       all_goals (try simp only [push_cast, Nat.reduceAdd])
       all_goals (refine AOps_cons rfl (AOp_assign ?_) <;> try simp only [push_cast, Nat.reduceAdd])
       all_goals refine AOps_nil ?_
       all_goals
        refine thenK_normal (hK21 _ ?_)
        try clear hK21
        refine AW_seq_k (fun K22 hK22 => ?_)
        refine AW_region ?_
        all_goals refine AOps_cons rfl (AOp_move ?_)
        all_goals (try simp only [push_cast, Nat.reduceAdd])
        all_goals (refine AOps_cons rfl (AOp_bin_int _ _ _ _ rfl rfl rfl ?_) <;> try simp only [push_cast, Nat.reduceAdd])
        all_goals refine AOps_nil ?_
        all_goals
         refine thenK_normal (hK22 _ ?_)
         try clear hK22
         apply AW_cond
         case' hc => exact rfl
         case' hf =>
          intro hc23
          try (exfalso; (first | (cases hc23; done) | (simp at hc23; done) | (simp at hc23; omega)); done)
          all_goals (try simp only [decide_eq_true_eq, decide_eq_false_iff_not, Bool.not_eq_true', Bool.not_eq_false', Bool.not_eq_eq_eq_not, Bool.not_true, Bool.not_false] at hc23)
          all_goals
           refine AW_skip ?_
           refine thenK_normal (hK20 _ ?_)
           try clear hK20
           refine AW_seq_k (fun K24 hK24 => ?_)
           refine AW_region ?_
           all_goals refine AOps_cons rfl (AOp_move ?_)
           all_goals refine AOps_cons rfl (AOp_move ?_)
           all_goals refine AOps_cons rfl (AOp_move ?_)
           all_goals (try simp only [push_cast, Nat.reduceAdd])
           all_goals refine AOps_cons rfl (AOp_call _ _ _ rfl rfl ok28 ?_)
           all_goals (try simp only [push_cast, Nat.reduceAdd])
           all_goals refine (fitsW_ac l (good_of_check (by assumption)).1 hlen unit ss hlen2 _).mono ?_
           all_goals rintro r H' ⟨rfl, rfl⟩
           all_goals (try simp only [push_cast, Nat.reduceAdd])
           all_goals refine AOps_cons rfl (AOp_assign ?_)
           all_goals (refine AOps_cons rfl (AOp_assign ?_) <;> try simp only [push_cast, Nat.reduceAdd])
           all_goals refine AOps_nil ?_
           all_goals
            refine thenK_normal (hK24 _ ?_)
            try clear hK24
            refine AW_ret ?_
            repeat (first | refine thenK_ret ?_ | refine loopK_ret ?_ | refine blockK_ret ?_)
            refine ⟨by first | exact .inl rfl | exact .inr rfl, _, ⟨[_, _], rfl, rfl, rfl, trivial⟩, (by first | exact outok_app 0 rfl (Nat.zero_le _) (by simp) | exact outok_self), by simp [push_cast], ?_⟩
            simp only [push_cast, Nat.reduceAdd]
            unfold admP
            first
              | (have h1 : ¬ wcheckP l unit = 0 := (by assumption); simp [h1]; done)
              | (have h1 : wcheckP l unit = 0 := (by assumption); have h2 : ¬ symsCheck ss = 0 := (by assumption); simp [h1, h2]; done)
              | (have h1 : wcheckP l unit = 0 := (by assumption); have h2 : symsCheck ss = 0 := (by assumption); simp [h1, h2]; done)
              | fail "ret"
         case' ht =>
          intro hc23
          try (exfalso; (first | (cases hc23; done) | (simp at hc23; done) | (simp at hc23; omega)); done)
          all_goals (try simp only [decide_eq_true_eq, decide_eq_false_iff_not, Bool.not_eq_true', Bool.not_eq_false', Bool.not_eq_eq_eq_not, Bool.not_true, Bool.not_false] at hc23)
          all_goals
           refine AW_seq_k (fun K25 hK25 => ?_)
           refine AW_region ?_
           all_goals refine AOps_cons rfl (AOp_move ?_)
           all_goals refine AOps_cons rfl (AOp_assign ?_)
           all_goals (refine AOps_cons rfl (AOp_assign ?_) <;> try simp only [push_cast, Nat.reduceAdd])
           all_goals refine AOps_nil ?_
           all_goals
            refine thenK_normal (hK25 _ ?_)
            try clear hK25
            refine AW_ret ?_
            repeat (first | refine thenK_ret ?_ | refine loopK_ret ?_ | refine blockK_ret ?_)
            refine ⟨by first | exact .inl rfl | exact .inr rfl, _, ⟨[_, _], rfl, rfl, rfl, trivial⟩, (by first | exact outok_app 0 rfl (Nat.zero_le _) (by simp) | exact outok_self), by simp [push_cast], ?_⟩
            simp only [push_cast, Nat.reduceAdd]
            unfold admP
            first
              | (have h1 : ¬ wcheckP l unit = 0 := (by assumption); simp [h1]; done)
              | (have h1 : wcheckP l unit = 0 := (by assumption); have h2 : ¬ symsCheck ss = 0 := (by assumption); simp [h1, h2]; done)
              | (have h1 : wcheckP l unit = 0 := (by assumption); have h2 : symsCheck ss = 0 := (by assumption); simp [h1, h2]; done)
              | fail "ret"
     case' ht =>
      intro hc19
      try (exfalso; (first | (cases hc19; done) | (simp at hc19; done) | (simp at hc19; omega)); done)
      all_goals (try simp only [decide_eq_true_eq, decide_eq_false_iff_not, Bool.not_eq_true', Bool.not_eq_false', Bool.not_eq_eq_eq_not, Bool.not_true, Bool.not_false] at hc19)
      all_goals
       refine AW_seq_k (fun K26 hK26 => ?_)
       refine AW_region ?_
       all_goals refine AOps_cons rfl (AOp_move ?_)
       all_goals refine AOps_cons rfl (AOp_assign ?_)
       all_goals (refine AOps_cons rfl (AOp_assign ?_) <;> try simp only [push_cast, Nat.reduceAdd])
       all_goals refine AOps_nil ?_
       all_goals
        refine thenK_normal (hK26 _ ?_)
        try clear hK26
        refine AW_ret ?_
        repeat (first | refine thenK_ret ?_ | refine loopK_ret ?_ | refine blockK_ret ?_)
        refine ⟨by first | exact .inl rfl | exact .inr rfl, _, ⟨[_, _], rfl, rfl, rfl, trivial⟩, (by first | exact outok_app 0 rfl (Nat.zero_le _) (by simp) | exact outok_self), by simp [push_cast], ?_⟩
        simp only [push_cast, Nat.reduceAdd]
        unfold admP
        first
          | (have h1 : ¬ wcheckP l unit = 0 := (by assumption); simp [h1]; done)
          | (have h1 : wcheckP l unit = 0 := (by assumption); have h2 : ¬ symsCheck ss = 0 := (by assumption); simp [h1, h2]; done)
          | (have h1 : wcheckP l unit = 0 := (by assumption); have h2 : symsCheck ss = 0 := (by assumption); simp [h1, h2]; done)
          | fail "ret"
def greaterP (l : List Rank) (unit : Int) (s t : Term) : Bool × Int :=
  if wcheckP l unit ≠ 0 then (false, wcheckP l unit) else if firstErr [s, t] ≠ 0 then (false, firstErr [s, t]) else if fitsW l unit (symsP [s, t]) = false then (false, 10) else (aboveP l unit s t, 0)
theorem greater_ac (l : List Rank) (unit : Int) (s t : Term) (hlen : l.length < 1099511627776) (hnl : ∀ x, x ∈ l → x.name.length < 1099511627776) (hb : s.bulk + t.bulk ≤ 1099511627775) (H : List AObj) :
    ACall Try.prog 7 [.sl .none (encL encR l), .int .i64 unit, encT s, encT t] H (fun r H' => r = .tup [.bool (greaterP l unit s t).1, .int .i64 (greaterP l unit s t).2] ∧ H' = H) := by
  have hs1 := s.size_le
  have hs2 := t.size_le
  have hev : [AV.agg [.str s.name, .bool s.var, .sl .none (encTs s.args)], AV.agg [.str t.name, .bool t.var, .sl .none (encTs t.args)]] = encTs [s, t] := by rw [encTs_cons, encTs_cons]; simp [encTs]
  have hbl : ∀ x, x ∈ [s, t] → x.bulk ≤ 1099511627775 := by intro x hx; simp at hx; rcases hx with rfl | rfl <;> omega
  have hsy : (symsP [s, t]).length < 1099511627776 := by have := symsFold_length [s, t] []; simp only [List.map_cons, List.map_nil, List.sum_cons, List.sum_nil, List.length_nil] at this; unfold symsP; omega
  refine ACall_intro (H.length) Try.func7 rfl ?_
  simp only [Try.ntmps7, List.length_cons, List.length_nil, List.replicate, List.cons_append, List.nil_append, Nat.reduceAdd, Nat.reduceSub, Nat.zero_add]
  refine AW_seq_k (fun K39 hK39 => ?_)
  refine AW_region ?_
  all_goals (refine AOps_cons rfl (AOp_box _ _ rfl rfl (by first | exact .inl rfl | exact .inr ⟨_, rfl⟩) (by simp [push_cast, AV.isCell]) ?_) <;> try simp only [push_cast, Nat.reduceAdd])
  all_goals (refine AOps_cons rfl (AOp_box _ _ rfl rfl (by first | exact .inl rfl | exact .inr ⟨_, rfl⟩) (by simp [push_cast, AV.isCell]) ?_) <;> try simp only [push_cast, Nat.reduceAdd])
  all_goals refine AOps_cons rfl (AOp_assign ?_)
  all_goals (refine AOps_cons rfl (AOp_assign ?_) <;> try simp only [push_cast, Nat.reduceAdd])
  all_goals refine AOps_nil ?_
  all_goals
   refine thenK_normal (hK39 _ ?_)
   try clear hK39
   refine AW_seq_k (fun K40 hK40 => ?_)
   refine AW_seq_k (fun K41 hK41 => ?_)
   refine AW_region ?_
   all_goals refine AOps_cons rfl (AOp_move ?_)
   all_goals refine AOps_cons rfl (AOp_move ?_)
   all_goals (try simp only [push_cast, Nat.reduceAdd])
   all_goals refine AOps_cons rfl (AOp_call _ _ _ rfl rfl ok24 ?_)
   all_goals (try simp only [push_cast, Nat.reduceAdd])
   all_goals refine (wcheck_ac l unit hlen hnl _).mono ?_
   all_goals rintro r H' ⟨rfl, rfl⟩
   all_goals (try simp only [push_cast, Nat.reduceAdd])
   all_goals (refine AOps_cons rfl (AOp_assign ?_) <;> try simp only [push_cast, Nat.reduceAdd])
   all_goals refine AOps_nil ?_
   all_goals
    refine thenK_normal (hK41 _ ?_)
    try clear hK41
    refine AW_seq_k (fun K42 hK42 => ?_)
    refine AW_region ?_
    all_goals refine AOps_cons rfl (AOp_move ?_)
    all_goals (try simp only [push_cast, Nat.reduceAdd])
    all_goals (refine AOps_cons rfl (AOp_bin_int _ _ _ _ rfl rfl rfl ?_) <;> try simp only [push_cast, Nat.reduceAdd])
    all_goals refine AOps_nil ?_
    all_goals
     refine thenK_normal (hK42 _ ?_)
     try clear hK42
     apply AW_cond
     case' hc => exact rfl
     case' hf =>
      intro hc43
      try (exfalso; (first | (cases hc43; done) | (simp at hc43; done) | (simp at hc43; omega)); done)
      all_goals (try simp only [decide_eq_true_eq, decide_eq_false_iff_not, Bool.not_eq_true', Bool.not_eq_false', Bool.not_eq_eq_eq_not, Bool.not_true, Bool.not_false] at hc43)
      all_goals
       refine AW_skip ?_
       refine thenK_normal (hK40 _ ?_)
       try clear hK40
       refine AW_seq_k (fun K44 hK44 => ?_)
       refine AW_seq_k (fun K45 hK45 => ?_)
       refine AW_region ?_
       all_goals (refine AOps_cons rfl (AOp_load_ptr _ _ _ _ rfl (by first | exact hget0 | exact hgetN _ rfl | assumption | exact hgetL (by assumption)) sz27 ag27 (by simp [push_cast]) ?_) <;> try simp only [push_cast, Nat.reduceAdd])
       all_goals (refine AOps_cons rfl (AOp_load_ptr _ _ _ _ rfl (by first | exact hget0 | exact hgetN _ rfl | assumption | exact hgetL (by assumption)) sz27 ag27 (by simp [push_cast]) ?_) <;> try simp only [push_cast, Nat.reduceAdd])
       all_goals (refine AOps_cons rfl (AOp_buildRow _ [_, _] sl25 sz27 zr27 rfl rfl (by simp [AV.cells, AV.isCell, AV.isAgg, push_cast]) (by decide) rfl ?_) <;> try simp only [push_cast, Nat.reduceAdd])
       all_goals refine AOps_cons rfl (AOp_call _ _ _ rfl rfl ok27 ?_)
       all_goals (try simp only [push_cast, Nat.reduceAdd])
       all_goals simp only [hev]
       all_goals refine (all_ac [s, t] (by simp; omega) _).mono ?_
       all_goals rintro r H' ⟨rfl, rfl⟩
       all_goals (try simp only [push_cast, Nat.reduceAdd])
       all_goals (refine AOps_cons rfl (AOp_assign ?_) <;> try simp only [push_cast, Nat.reduceAdd])
       all_goals refine AOps_nil ?_
       all_goals
        refine thenK_normal (hK45 _ ?_)
        try clear hK45
        refine AW_seq_k (fun K46 hK46 => ?_)
        refine AW_region ?_
        all_goals refine AOps_cons rfl (AOp_move ?_)
        all_goals (try simp only [push_cast, Nat.reduceAdd])
        all_goals (refine AOps_cons rfl (AOp_bin_int _ _ _ _ rfl rfl rfl ?_) <;> try simp only [push_cast, Nat.reduceAdd])
        all_goals refine AOps_nil ?_
        all_goals
         refine thenK_normal (hK46 _ ?_)
         try clear hK46
         apply AW_cond
         case' hc => exact rfl
         case' hf =>
          intro hc47
          try (exfalso; (first | (cases hc47; done) | (simp at hc47; done) | (simp at hc47; omega)); done)
          all_goals (try simp only [decide_eq_true_eq, decide_eq_false_iff_not, Bool.not_eq_true', Bool.not_eq_false', Bool.not_eq_eq_eq_not, Bool.not_true, Bool.not_false] at hc47)
          all_goals
           refine AW_skip ?_
           refine thenK_normal (hK44 _ ?_)
           try clear hK44
           refine AW_seq_k (fun K48 hK48 => ?_)
           refine AW_seq_k (fun K49 hK49 => ?_)
           refine AW_region ?_
           all_goals refine AOps_cons rfl (AOp_move ?_)
           all_goals refine AOps_cons rfl (AOp_move ?_)
           all_goals (try simp only [push_cast, Nat.reduceAdd])
           all_goals (refine AOps_cons rfl (AOp_load_ptr _ _ _ _ rfl (by first | exact hget0 | exact hgetN _ rfl | assumption | exact hgetL (by assumption)) sz27 ag27 (by simp [push_cast]) ?_) <;> try simp only [push_cast, Nat.reduceAdd])
           all_goals (refine AOps_cons rfl (AOp_load_ptr _ _ _ _ rfl (by first | exact hget0 | exact hgetN _ rfl | assumption | exact hgetL (by assumption)) sz27 ag27 (by simp [push_cast]) ?_) <;> try simp only [push_cast, Nat.reduceAdd])
           all_goals (refine AOps_cons rfl (AOp_buildRow _ [_, _] sl25 sz27 zr27 rfl rfl (by simp [AV.cells, AV.isCell, AV.isAgg, push_cast]) (by decide) rfl ?_) <;> try simp only [push_cast, Nat.reduceAdd])
           all_goals refine AOps_cons rfl (AOp_call _ _ _ rfl rfl ok29 ?_)
           all_goals (try simp only [push_cast, Nat.reduceAdd])
           all_goals simp only [hev]
           all_goals refine (symsW_ac [s, t] (by simp) hbl (by simp; omega) _).mono ?_
           all_goals rintro r H' ⟨rfl, rfl⟩
           all_goals (try simp only [push_cast, Nat.reduceAdd])
           all_goals refine AOps_cons rfl (AOp_call _ _ _ rfl rfl ok28 ?_)
           all_goals (try simp only [push_cast, Nat.reduceAdd])
           all_goals refine (fitsW_ac l (good_of_check (by assumption)).1 hlen unit (symsP [s, t]) hsy _).mono ?_
           all_goals rintro r H' ⟨rfl, rfl⟩
           all_goals (try simp only [push_cast, Nat.reduceAdd])
           all_goals (refine AOps_cons rfl (AOp_not _ rfl ?_) <;> try simp only [push_cast, Nat.reduceAdd])
           all_goals refine AOps_nil ?_
           all_goals
            refine thenK_normal (hK49 _ ?_)
            try clear hK49
            apply AW_cond
            case' hc => exact rfl
            case' hf =>
             intro hc50
             try (exfalso; (first | (cases hc50; done) | (simp at hc50; done) | (simp at hc50; omega)); done)
             all_goals (try simp only [decide_eq_true_eq, decide_eq_false_iff_not, Bool.not_eq_true', Bool.not_eq_false', Bool.not_eq_eq_eq_not, Bool.not_true, Bool.not_false] at hc50)
             all_goals
              refine AW_skip ?_
              refine thenK_normal (hK48 _ ?_)
              try clear hK48
              refine AW_seq_k (fun K51 hK51 => ?_)
              refine AW_region ?_
              all_goals refine AOps_cons rfl (AOp_move ?_)
              all_goals refine AOps_cons rfl (AOp_move ?_)
              all_goals (try simp only [push_cast, Nat.reduceAdd])
              all_goals (refine AOps_cons rfl (AOp_load_ptr _ _ _ _ rfl (by first | exact hget0 | exact hgetN _ rfl | assumption | exact hgetL (by assumption)) sz27 ag27 (by simp [push_cast]) ?_) <;> try simp only [push_cast, Nat.reduceAdd])
              all_goals (refine AOps_cons rfl (AOp_load_ptr _ _ _ _ rfl (by first | exact hget0 | exact hgetN _ rfl | assumption | exact hgetL (by assumption)) sz27 ag27 (by simp [push_cast]) ?_) <;> try simp only [push_cast, Nat.reduceAdd])
              all_goals refine AOps_cons rfl (AOp_call _ _ _ rfl rfl ok30 ?_)
              all_goals (try simp only [push_cast, Nat.reduceAdd])
              all_goals have hg := good_of_check (show wcheckP l unit = 0 by assumption)
              all_goals refine (above_ac l unit hg.1 hg.2 hlen s t (by omega) (by omega) _).mono ?_
              all_goals rintro r H' ⟨rfl, rfl⟩
              all_goals (try simp only [push_cast, Nat.reduceAdd])
              all_goals refine AOps_cons rfl (AOp_assign ?_)
              all_goals (refine AOps_cons rfl (AOp_assign ?_) <;> try simp only [push_cast, Nat.reduceAdd])
              all_goals refine AOps_nil ?_
              all_goals
               refine thenK_normal (hK51 _ ?_)
               try clear hK51
               refine AW_ret ?_
               repeat (first | refine thenK_ret ?_ | refine loopK_ret ?_ | refine blockK_ret ?_)
               refine ⟨by first | exact .inl rfl | exact .inr rfl, _, ⟨[_, _], rfl, rfl, rfl, trivial⟩, (by first | exact outok_app 0 rfl (Nat.zero_le _) (by simp) | exact outok_self), by simp [push_cast], ?_⟩
               simp only [push_cast, Nat.reduceAdd]
               unfold greaterP
               first
                 | (have h1 : ¬ wcheckP l unit = 0 := (by assumption); simp [h1]; done)
                 | (have h1 : wcheckP l unit = 0 := (by assumption); have h2 : ¬ firstErr [s, t] = 0 := (by assumption); simp [h1, h2]; done)
                 | (have h1 : wcheckP l unit = 0 := (by assumption); have h2 : firstErr [s, t] = 0 := (by assumption); have h3 : fitsW l unit (symsP [s, t]) = false := (by assumption); simp [h1, h2, h3]; done)
                 | (have h1 : wcheckP l unit = 0 := (by assumption); have h2 : firstErr [s, t] = 0 := (by assumption); have h3 : fitsW l unit (symsP [s, t]) = true := (by assumption); simp [h1, h2, h3]; done)
                 | fail "ret"
            case' ht =>
             intro hc50
             try (exfalso; (first | (cases hc50; done) | (simp at hc50; done) | (simp at hc50; omega)); done)
             all_goals (try simp only [decide_eq_true_eq, decide_eq_false_iff_not, Bool.not_eq_true', Bool.not_eq_false', Bool.not_eq_eq_eq_not, Bool.not_true, Bool.not_false] at hc50)
             all_goals
              refine AW_seq_k (fun K52 hK52 => ?_)
              refine AW_region ?_
              all_goals refine AOps_cons rfl (AOp_assign ?_)
              all_goals (refine AOps_cons rfl (AOp_assign ?_) <;> try simp only [push_cast, Nat.reduceAdd])
              all_goals refine AOps_nil ?_
              all_goals
               refine thenK_normal (hK52 _ ?_)
               try clear hK52
               refine AW_ret ?_
               repeat (first | refine thenK_ret ?_ | refine loopK_ret ?_ | refine blockK_ret ?_)
               refine ⟨by first | exact .inl rfl | exact .inr rfl, _, ⟨[_, _], rfl, rfl, rfl, trivial⟩, (by first | exact outok_app 0 rfl (Nat.zero_le _) (by simp) | exact outok_self), by simp [push_cast], ?_⟩
               simp only [push_cast, Nat.reduceAdd]
               unfold greaterP
               first
                 | (have h1 : ¬ wcheckP l unit = 0 := (by assumption); simp [h1]; done)
                 | (have h1 : wcheckP l unit = 0 := (by assumption); have h2 : ¬ firstErr [s, t] = 0 := (by assumption); simp [h1, h2]; done)
                 | (have h1 : wcheckP l unit = 0 := (by assumption); have h2 : firstErr [s, t] = 0 := (by assumption); have h3 : fitsW l unit (symsP [s, t]) = false := (by assumption); simp [h1, h2, h3]; done)
                 | (have h1 : wcheckP l unit = 0 := (by assumption); have h2 : firstErr [s, t] = 0 := (by assumption); have h3 : fitsW l unit (symsP [s, t]) = true := (by assumption); simp [h1, h2, h3]; done)
                 | fail "ret"
         case' ht =>
          intro hc47
          try (exfalso; (first | (cases hc47; done) | (simp at hc47; done) | (simp at hc47; omega)); done)
          all_goals (try simp only [decide_eq_true_eq, decide_eq_false_iff_not, Bool.not_eq_true', Bool.not_eq_false', Bool.not_eq_eq_eq_not, Bool.not_true, Bool.not_false] at hc47)
          all_goals
           refine AW_seq_k (fun K53 hK53 => ?_)
           refine AW_region ?_
           all_goals refine AOps_cons rfl (AOp_move ?_)
           all_goals refine AOps_cons rfl (AOp_assign ?_)
           all_goals (refine AOps_cons rfl (AOp_assign ?_) <;> try simp only [push_cast, Nat.reduceAdd])
           all_goals refine AOps_nil ?_
           all_goals
            refine thenK_normal (hK53 _ ?_)
            try clear hK53
            refine AW_ret ?_
            repeat (first | refine thenK_ret ?_ | refine loopK_ret ?_ | refine blockK_ret ?_)
            refine ⟨by first | exact .inl rfl | exact .inr rfl, _, ⟨[_, _], rfl, rfl, rfl, trivial⟩, (by first | exact outok_app 0 rfl (Nat.zero_le _) (by simp) | exact outok_self), by simp [push_cast], ?_⟩
            simp only [push_cast, Nat.reduceAdd]
            unfold greaterP
            first
              | (have h1 : ¬ wcheckP l unit = 0 := (by assumption); simp [h1]; done)
              | (have h1 : wcheckP l unit = 0 := (by assumption); have h2 : ¬ firstErr [s, t] = 0 := (by assumption); simp [h1, h2]; done)
              | (have h1 : wcheckP l unit = 0 := (by assumption); have h2 : firstErr [s, t] = 0 := (by assumption); have h3 : fitsW l unit (symsP [s, t]) = false := (by assumption); simp [h1, h2, h3]; done)
              | (have h1 : wcheckP l unit = 0 := (by assumption); have h2 : firstErr [s, t] = 0 := (by assumption); have h3 : fitsW l unit (symsP [s, t]) = true := (by assumption); simp [h1, h2, h3]; done)
              | fail "ret"
     case' ht =>
      intro hc43
      try (exfalso; (first | (cases hc43; done) | (simp at hc43; done) | (simp at hc43; omega)); done)
      all_goals (try simp only [decide_eq_true_eq, decide_eq_false_iff_not, Bool.not_eq_true', Bool.not_eq_false', Bool.not_eq_eq_eq_not, Bool.not_true, Bool.not_false] at hc43)
      all_goals
       refine AW_seq_k (fun K54 hK54 => ?_)
       refine AW_region ?_
       all_goals refine AOps_cons rfl (AOp_move ?_)
       all_goals refine AOps_cons rfl (AOp_assign ?_)
       all_goals (refine AOps_cons rfl (AOp_assign ?_) <;> try simp only [push_cast, Nat.reduceAdd])
       all_goals refine AOps_nil ?_
       all_goals
        refine thenK_normal (hK54 _ ?_)
        try clear hK54
        refine AW_ret ?_
        repeat (first | refine thenK_ret ?_ | refine loopK_ret ?_ | refine blockK_ret ?_)
        refine ⟨by first | exact .inl rfl | exact .inr rfl, _, ⟨[_, _], rfl, rfl, rfl, trivial⟩, (by first | exact outok_app 0 rfl (Nat.zero_le _) (by simp) | exact outok_self), by simp [push_cast], ?_⟩
        simp only [push_cast, Nat.reduceAdd]
        unfold greaterP
        first
          | (have h1 : ¬ wcheckP l unit = 0 := (by assumption); simp [h1]; done)
          | (have h1 : wcheckP l unit = 0 := (by assumption); have h2 : ¬ firstErr [s, t] = 0 := (by assumption); simp [h1, h2]; done)
          | (have h1 : wcheckP l unit = 0 := (by assumption); have h2 : firstErr [s, t] = 0 := (by assumption); have h3 : fitsW l unit (symsP [s, t]) = false := (by assumption); simp [h1, h2, h3]; done)
          | (have h1 : wcheckP l unit = 0 := (by assumption); have h2 : firstErr [s, t] = 0 := (by assumption); have h3 : fitsW l unit (symsP [s, t]) = true := (by assumption); simp [h1, h2, h3]; done)
          | fail "ret"
end Ab
set_option maxRecDepth 10000
namespace Ab
open Go Go.Proofs
attribute [local push_cast] encT encR scoped_encR encS scoped_encS
theorem Forget.agg {cs cs' : List AV} (h : ForgetL cs cs') : Forget (.agg cs) (.agg cs') := fun C x hx => by
  obtain ⟨h1, h2⟩ := h.spec
  cases hx with
  | agg _ vs hsz hrel => exact .agg _ vs (by omega) (fun i hi => h2 i (by omega) hi C _ (hrel i (by omega)))
theorem Forget.row {xs xs' : List AV} (t : Tok) (hl : xs.length = xs'.length) (h : ForgetL (flat xs) (flat xs')) : Forget (.sl t xs) (.sl .none xs') := fun C x hx => by
  obtain ⟨h1, h2⟩ := h.spec
  cases hx with
  | sl _ _ a n c f hn hc hrow hrel htok =>
    refine .sl .none xs' a n c f (by omega) hc (fun hne => ?_) (fun j hj => h2 j (by omega) hj C _ (hrel j (by omega))) trivial
    obtain ⟨b, o, e1, e2⟩ := hrow (fun e => hne (List.eq_nil_of_length_eq_zero (by rw [← h1, e]; rfl)))
    exact ⟨b, o, e1, by rw [← h1]; exact e2⟩
def exL1 : List Rank := [⟨[97], 0, 1⟩, ⟨[102], 1, 0⟩]
def exL2 : List Rank := [⟨[97], 1, 1⟩, ⟨[102], 1, 0⟩]
def exA : Term := .mk [97] false []
def exF : Term := .mk [102] false [exA]
def exS : List Sym := [⟨[97], 0⟩, ⟨[102], 1⟩]
theorem ex_adm : admP exL2 1 exS = (false, 0) := by kernel_rfl
theorem ex_check : wcheckP exL1 1 = 0 := by kernel_rfl
theorem ex_name : isNameP [97] true = true ∧ isNameP [102] true = true := ⟨by kernel_rfl, by kernel_rfl⟩
theorem ex_checkA : checkP exA = 0 := by simp [checkP, exA, formedP_mk, ex_name.1, fitsP, Term.size_mk, Term.depth_mk]
theorem ex_checkF : checkP exF = 0 := by simp [checkP, exF, exA, formedP_mk, ex_name.1, ex_name.2, fitsP, Term.size_mk, Term.depth_mk]
theorem ex_walkA : walkT exA [] = [([], exA)] := by simp [walkT, walkL, exA, Term.args]
theorem ex_walkF : walkT exF [] = [([], exF), ([0], exA)] := by simp [walkT, walkL, exF, exA, Term.args]
theorem ex_syms : symsP [exF, exA] = [⟨[102], 1⟩, ⟨[97], 0⟩] := by
  simp only [symsP, List.foldl_cons, List.foldl_nil, symsT, ex_walkF, ex_walkA]; kernel_rfl
theorem ex_fits : fitsW exL1 1 (symsP [exF, exA]) = true := by rw [ex_syms]; kernel_rfl
theorem ex_above : aboveP exL1 1 exF exA = true := by
  have h1 : coversP exF exA = true := by unfold coversP; rw [ex_walkA, ex_walkF]; kernel_rfl
  have h2 : weightP exL1 1 exA = 1 := by rw [exA, weightP_mk]; kernel_rfl
  have h3 : weightP exL1 1 exF = 1 := by rw [exF, weightP_mk]; simp only [List.map_cons, List.map_nil, h2]; kernel_rfl
  have h4 : (ofP exL1 exF.name).rank = 1 := by kernel_rfl
  have h5 : (ofP exL1 exA.name).rank = 0 := by kernel_rfl
  have h6 : exF.var = false := rfl
  have h7 : exA.var = false := rfl
  have h8 : ¬ exF.name = exA.name := by decide
  simp [aboveP, kboC, h1, h2, h3, h4, h5, h6, h7, h8]
theorem ex_greater : greaterP exL1 1 exF exA = (true, 0) := by
  simp [greaterP, ex_check, firstErr, ex_checkA, ex_checkF, ex_fits, ex_above]
theorem alive_ac (H : List AObj) : ACall Try.prog 12 [] H (fun r H' => r = .bool true ∧ H' = H) := by
  have hA : encTs exA.args = [] := by simp [exA, Term.args, encTs]
  refine ACall_intro (H.length) Try.func12 rfl ?_
  simp only [Try.ntmps12, List.length_cons, List.length_nil, List.replicate, List.cons_append, List.nil_append, Nat.reduceAdd, Nat.reduceSub, Nat.zero_add]
  refine AW_seq_k (fun K1 hK1 => ?_)
  refine AW_region ?_
  all_goals (refine AOps_cons rfl (AOp_assign ?_) <;> try simp only [push_cast, Nat.reduceAdd])
  all_goals refine AOps_nil ?_
  all_goals
   refine thenK_normal (hK1 _ ?_)
   try clear hK1
   refine AW_seq_k (fun K2 hK2 => ?_)
   refine AW_region ?_
   all_goals (refine AOps_cons rfl (AOp_build _ _ _ zr63 st63 _ rfl (by first | rfl | (simp [afill, splice, push_cast]; done)) ?_) <;> try simp only [push_cast, Nat.reduceAdd])
   all_goals (refine AOps_cons rfl (AOp_build _ _ _ zr63 st63 _ rfl (by first | rfl | (simp [afill, splice, push_cast]; done)) ?_) <;> try simp only [push_cast, Nat.reduceAdd])
   all_goals (refine AOps_cons rfl (AOp_buildRow _ [_, _] sl22 sz63 zr63 rfl rfl (by simp [AV.cells, AV.isCell, AV.isAgg, push_cast]) (by decide) rfl ?_) <;> try simp only [push_cast, Nat.reduceAdd])
   all_goals (refine AOps_cons rfl (AOp_assign ?_) <;> try simp only [push_cast, Nat.reduceAdd])
   all_goals refine AOps_nil ?_
   all_goals
    refine thenK_normal (hK2 _ ?_)
    try clear hK2
    refine AW_seq_k (fun K3 hK3 => ?_)
    refine AW_region ?_
    all_goals (refine AOps_cons rfl (AOp_build _ _ _ zr27 st27 _ rfl (by first | rfl | (simp [afill, splice, push_cast]; done)) ?_) <;> try simp only [push_cast, Nat.reduceAdd])
    all_goals (refine AOps_cons rfl (AOp_alloc _ zr27 (by simp [ofVal, AV.isCell, Value.oneCell']) ?_) <;> try simp only [push_cast, Nat.reduceAdd])
    all_goals (refine AOps_cons rfl (AOp_store _ _ _ _ _ rfl (by first | exact hget0 | exact hgetN _ rfl | assumption | exact hgetL (by assumption)) rfl rfl (by first | exact .inl rfl | exact .inr ⟨_, rfl⟩) (by simp [push_cast, AV.isCell]) sz27 (by simp [push_cast]) ?_) <;> try simp only [push_cast, Nat.reduceAdd])
    all_goals refine AOps_nil ?_
    all_goals
     refine thenK_normal (hK3 _ ?_)
     try clear hK3
     refine AW_seq_k (fun K4 hK4 => ?_)
     refine AW_region ?_
     all_goals refine AOps_cons rfl (AOp_move ?_)
     all_goals (try simp only [push_cast, Nat.reduceAdd])
     all_goals (refine AOps_cons rfl (AOp_load_ptr _ _ _ _ rfl (by first | exact hget0 | exact hgetN _ rfl | assumption | exact hgetL (by assumption)) sz27 ag27 (by simp [push_cast]) ?_) <;> try simp only [push_cast, Nat.reduceAdd])
     all_goals (refine AOps_cons rfl (AOp_buildRow _ [_] sl25 sz27 zr27 rfl rfl (by simp [AV.cells, AV.isCell, AV.isAgg, push_cast]) (by decide) rfl ?_) <;> try simp only [push_cast, Nat.reduceAdd])
     all_goals (refine AOps_cons rfl (AOp_build _ _ _ zr27 st27 _ rfl (by first | rfl | (simp [afill, splice, push_cast]; done)) ?_) <;> try simp only [push_cast, Nat.reduceAdd])
     all_goals (refine AOps_cons rfl (AOp_load_ptr _ _ _ _ rfl (by first | exact hget0 | exact hgetN _ rfl | assumption | exact hgetL (by assumption)) sz27 ag27 (by simp [push_cast]) ?_) <;> try simp only [push_cast, Nat.reduceAdd])
     all_goals refine AOps_cons rfl (AOp_call _ _ _ rfl rfl ok7 ?_)
     all_goals (try simp only [push_cast, Nat.reduceAdd])
     all_goals refine ACall.forget (args' := [.sl .none (encL encR exL1), .int .i64 1, encT exF, encT exA]) ⟨Forget.refl _, Forget.refl _, Forget.agg ⟨Forget.refl _, Forget.refl _, ?_, trivial⟩, ?_, trivial⟩ ?_
     · have : exF.args = [exA] := rfl
       have hN : encTs [] = [] := by simp [encTs]
       rw [this, encTs_cons, encT, hA, hN]
       exact Forget.row _ (by simp [encTs]) ⟨Forget.refl _, Forget.refl _, Forget.tok _ _, trivial⟩
     · rw [encT, hA]; exact Forget.agg3 (Forget.tok _ _)
     all_goals refine (greater_ac exL1 1 exF exA (by decide) (fun x hx => by simp [exL1] at hx; rcases hx with rfl | rfl <;> decide) (by simp [exF, exA, Term.bulk_mk]) _).mono ?_
     all_goals rintro r H' ⟨rfl, rfl⟩
     all_goals simp only [ex_greater]
     all_goals (try simp only [push_cast, Nat.reduceAdd])
     all_goals refine AOps_cons rfl (AOp_move ?_)
     all_goals (try simp only [push_cast, Nat.reduceAdd])
     all_goals (refine AOps_cons rfl (AOp_extract _ _ rfl rfl ?_) <;> try simp only [push_cast, Nat.reduceAdd])
     all_goals (refine AOps_cons rfl (AOp_extract _ _ rfl rfl ?_) <;> try simp only [push_cast, Nat.reduceAdd])
     all_goals refine AOps_cons rfl (AOp_assign ?_)
     all_goals (refine AOps_cons rfl (AOp_assign ?_) <;> try simp only [push_cast, Nat.reduceAdd])
     all_goals refine AOps_nil ?_
     all_goals
      refine thenK_normal (hK4 _ ?_)
      try clear hK4
      refine AW_seq_k (fun K5 hK5 => ?_)
      refine AW_region ?_
      all_goals (refine AOps_cons rfl (AOp_build _ _ _ zr63 st63 _ rfl (by first | rfl | (simp [afill, splice, push_cast]; done)) ?_) <;> try simp only [push_cast, Nat.reduceAdd])
      all_goals (refine AOps_cons rfl (AOp_build _ _ _ zr63 st63 _ rfl (by first | rfl | (simp [afill, splice, push_cast]; done)) ?_) <;> try simp only [push_cast, Nat.reduceAdd])
      all_goals (refine AOps_cons rfl (AOp_buildRow _ [_, _] sl22 sz63 zr63 rfl rfl (by simp [AV.cells, AV.isCell, AV.isAgg, push_cast]) (by decide) rfl ?_) <;> try simp only [push_cast, Nat.reduceAdd])
      all_goals (refine AOps_cons rfl (AOp_build _ _ _ zr65 st65 _ rfl (by first | rfl | (simp [afill, splice, push_cast]; done)) ?_) <;> try simp only [push_cast, Nat.reduceAdd])
      all_goals (refine AOps_cons rfl (AOp_build _ _ _ zr65 st65 _ rfl (by first | rfl | (simp [afill, splice, push_cast]; done)) ?_) <;> try simp only [push_cast, Nat.reduceAdd])
      all_goals (refine AOps_cons rfl (AOp_buildRow _ [_, _] sl34 sz65 zr65 rfl rfl (by simp [AV.cells, AV.isCell, AV.isAgg, push_cast]) (by decide) rfl ?_) <;> try simp only [push_cast, Nat.reduceAdd])
      all_goals refine AOps_cons rfl (AOp_call _ _ _ rfl rfl ok22 ?_)
      all_goals (try simp only [push_cast, Nat.reduceAdd])
      all_goals refine (admissible_ac exL2 1 exS (by decide) (fun x hx => by simp [exL2] at hx; rcases hx with rfl | rfl <;> decide) (by decide) (fun x hx => by simp [exS] at hx; rcases hx with rfl | rfl <;> decide) _).mono ?_
      all_goals rintro r H' ⟨rfl, rfl⟩
      all_goals simp only [ex_adm]
      all_goals (try simp only [push_cast, Nat.reduceAdd])
      all_goals refine AOps_cons rfl (AOp_move ?_)
      all_goals (try simp only [push_cast, Nat.reduceAdd])
      all_goals (refine AOps_cons rfl (AOp_extract _ _ rfl rfl ?_) <;> try simp only [push_cast, Nat.reduceAdd])
      all_goals (refine AOps_cons rfl (AOp_extract _ _ rfl rfl ?_) <;> try simp only [push_cast, Nat.reduceAdd])
      all_goals refine AOps_cons rfl (AOp_assign ?_)
      all_goals (refine AOps_cons rfl (AOp_assign ?_) <;> try simp only [push_cast, Nat.reduceAdd])
      all_goals refine AOps_nil ?_
      all_goals
       refine thenK_normal (hK5 _ ?_)
       try clear hK5
       refine AW_seq_k (fun K6 hK6 => ?_)
       refine AW_region ?_
       all_goals refine AOps_cons rfl (AOp_move ?_)
       all_goals (try simp only [push_cast, Nat.reduceAdd])
       all_goals (refine AOps_cons rfl (AOp_bin_int _ _ _ _ rfl rfl rfl ?_) <;> try simp only [push_cast, Nat.reduceAdd])
       all_goals refine AOps_cons rfl (AOp_move ?_)
       all_goals (try simp only [push_cast, Nat.reduceAdd])
       all_goals (try refine AOps_split 32 _ rfl (fun hg7 => ?_) (fun hg7 => ?_))
       all_goals (try (exfalso; (first | (cases hg7; done) | (simp at hg7; done) | (simp at hg7; omega)); done))
       all_goals (try simp only [decide_eq_true_eq, decide_eq_false_iff_not, Bool.not_eq_true', Bool.not_eq_false', Bool.not_eq_eq_eq_not, Bool.not_true, Bool.not_false] at hg7)
       all_goals first
        | refine AOps_skip rfl ?_
        | (refine AOps_cons rfl ?_
           refine AOp_move ?_)
       all_goals (try simp only [push_cast, Nat.reduceAdd])
       all_goals refine AOps_cons rfl (AOp_pick _ rfl ?_)
       all_goals refine AOps_cons rfl (AOp_move ?_)
       all_goals (try simp only [push_cast, Nat.reduceAdd])
       all_goals (try refine AOps_split 35 _ rfl (fun hg8 => ?_) (fun hg8 => ?_))
       all_goals (try (exfalso; (first | (cases hg8; done) | (simp at hg8; done) | (simp at hg8; omega)); done))
       all_goals (try simp only [decide_eq_true_eq, decide_eq_false_iff_not, Bool.not_eq_true', Bool.not_eq_false', Bool.not_eq_eq_eq_not, Bool.not_true, Bool.not_false] at hg8)
       all_goals first
        | refine AOps_skip rfl ?_
        | (refine AOps_cons rfl ?_
           refine AOp_move ?_)
       all_goals (try simp only [push_cast, Nat.reduceAdd])
       all_goals first
        | refine AOps_skip rfl ?_
        | (refine AOps_cons rfl ?_
           refine AOp_bin_int _ _ _ _ rfl rfl rfl ?_)
       all_goals (try simp only [push_cast, Nat.reduceAdd])
       all_goals refine AOps_cons rfl (AOp_pick _ rfl ?_)
       all_goals refine AOps_cons rfl (AOp_move ?_)
       all_goals (try simp only [push_cast, Nat.reduceAdd])
       all_goals (try refine AOps_split 39 _ rfl (fun hg9 => ?_) (fun hg9 => ?_))
       all_goals (try (exfalso; (first | (cases hg9; done) | (simp at hg9; done) | (simp at hg9; omega)); done))
       all_goals (try simp only [decide_eq_true_eq, decide_eq_false_iff_not, Bool.not_eq_true', Bool.not_eq_false', Bool.not_eq_eq_eq_not, Bool.not_true, Bool.not_false] at hg9)
       all_goals first
        | refine AOps_skip rfl ?_
        | (refine AOps_cons rfl ?_
           refine AOp_move ?_)
       all_goals (try simp only [push_cast, Nat.reduceAdd])
       all_goals first
        | refine AOps_skip rfl ?_
        | (refine AOps_cons rfl ?_
           refine AOp_not _ rfl ?_)
       all_goals (try simp only [push_cast, Nat.reduceAdd])
       all_goals refine AOps_cons rfl (AOp_pick _ rfl ?_)
       all_goals (refine AOps_cons rfl (AOp_assign ?_) <;> try simp only [push_cast, Nat.reduceAdd])
       all_goals refine AOps_nil ?_
       all_goals
        refine thenK_normal (hK6 _ ?_)
        try clear hK6
        refine AW_ret ?_
        repeat (first | refine thenK_ret ?_ | refine loopK_ret ?_ | refine blockK_ret ?_)
        refine ⟨by first | exact .inl rfl | exact .inr rfl, _, rfl, (by first | exact outok_app 0 rfl (Nat.zero_le _) (by simp) | exact outok_self), by simp [push_cast], ?_⟩
        simp only [push_cast, Nat.reduceAdd]
        simp
end Ab
set_option maxRecDepth 10000
namespace Ab
open Go Go.Proofs
theorem kboTs_self (l : List Rank) (unit : Int) (xs : List Term) : kboTs l unit xs xs = false := by
  have := kboTs_drop l unit xs xs xs.length rfl
  rw [this, List.drop_length]; exact kboTs_nil _ _ _
theorem above_self (l : List Rank) (unit : Int) (t : Term) : aboveP l unit t t = false := by
  unfold aboveP; rw [kboTs_self]; simp [kboC]
theorem above_iff (l : List Rank) (unit : Int) (s t : Term) : aboveP l unit s t = true ↔ coversP s t = true ∧
    (weightP l unit t < weightP l unit s ∨ (weightP l unit s = weightP l unit t ∧ s.var = false ∧ (t.var = true ∨
      (t.var = false ∧ (((s.name ≠ t.name ∨ s.args.length ≠ t.args.length) ∧ (ofP l t.name).rank < (ofP l s.name).rank) ∨ (s.name = t.name ∧ s.args.length = t.args.length ∧ kboTs l unit s.args t.args = true)))))) := by
  unfold aboveP kboC
  cases hc : coversP s t with
  | false => simp
  | true =>
    simp only [Bool.true_eq_false, if_false, true_and]
    by_cases hw : weightP l unit s = weightP l unit t
    · cases hv : s.var with
      | true => simp [hw]
      | false =>
        cases hu : t.var with
        | true => simp [hw]
        | false =>
          by_cases hn : s.name = t.name
          · by_cases hl : s.args.length = t.args.length
            · simp [hw, hn, hl]
            · simp [hw, hn, hl]
          · simp [hw, hn]
    · simp [hw]
theorem kboTs_trans (l : List Rank) (unit : Int) : ∀ (xs : List Term), (∀ x, x ∈ xs → ∀ y z, aboveP l unit x y = true → aboveP l unit y z = true → aboveP l unit x z = true) →
    ∀ ys zs, kboTs l unit xs ys = true → kboTs l unit ys zs = true → kboTs l unit xs zs = true
  | [], _, ys, zs, h1, _ => by rw [kboTs_nil] at h1; cases h1
  | x :: xs, ih, ys, zs, h1, h2 => by
    cases ys with
    | nil => rw [kboTs_nil] at h2; cases h2
    | cons y ys =>
      cases zs with
      | nil => cases y with | mk n v us => simp [kboTs] at h2
      | cons z zs =>
        rw [kboTs_cons] at h1 h2 ⊢
        by_cases hxy : x = y
        · subst hxy
          rw [if_pos rfl] at h1
          by_cases hyz : x = z
          · subst hyz
            rw [if_pos rfl] at h2 ⊢
            exact kboTs_trans l unit xs (fun a ha => ih a (by simp [ha])) ys zs h1 h2
          · rw [if_neg hyz] at h2 ⊢; exact h2
        · rw [if_neg hxy] at h1
          by_cases hyz : y = z
          · subst hyz; rw [if_neg hxy]; exact h1
          · rw [if_neg hyz] at h2
            have h3 := ih x (by simp) y z h1 h2
            by_cases hxz : x = z
            · subst hxz; rw [above_self] at h3; cases h3
            · rw [if_neg hxz]; exact h3
theorem above_trans (l : List Rank) (unit : Int) (s : Term) : ∀ t u, aboveP l unit s t = true → aboveP l unit t u = true → aboveP l unit s u = true := by
  refine Term.ind (p := fun s => ∀ t u, aboveP l unit s t = true → aboveP l unit t u = true → aboveP l unit s u = true) (fun n v xs ih => ?_) s
  intro t u h1 h2
  rw [above_iff] at h1 h2 ⊢
  obtain ⟨c1, h1⟩ := h1
  obtain ⟨c2, h2⟩ := h2
  refine ⟨(coversP_iff _ _).2 fun x => Int.le_trans ((coversP_iff _ _).1 c2 x) ((coversP_iff _ _).1 c1 x), ?_⟩
  rcases h1 with h1 | ⟨w1, v1, h1⟩
  · left
    rcases h2 with h2 | ⟨w2, _⟩ <;> omega
  · rcases h2 with h2 | ⟨w2, v2, h2⟩
    · left; omega
    · right
      refine ⟨by omega, v1, ?_⟩
      rcases h1 with h1 | ⟨_, h1⟩
      · rw [v2] at h1; cases h1
      · rcases h2 with h2 | ⟨u2, h2⟩
        · exact .inl h2
        · refine .inr ⟨u2, ?_⟩
          rcases h1 with ⟨d1, r1⟩ | ⟨e1, e1', k1⟩
          · rcases h2 with ⟨d2, r2⟩ | ⟨e2, e2', k2⟩
            · left
              refine ⟨?_, by omega⟩
              left
              intro e
              have e' : (Term.mk n v xs).name = u.name := e
              rw [e'] at r1; omega
            · left
              rw [← e2, ← e2']; exact ⟨d1, r1⟩
          · rcases h2 with ⟨d2, r2⟩ | ⟨e2, e2', k2⟩
            · left
              rw [e1, e1']; exact ⟨d2, r2⟩
            · right
              exact ⟨e1.trans e2, e1'.trans e2', kboTs_trans l unit xs ih t.args u.args k1 k2⟩
def gtP (l : List Rank) (unit : Int) (s t : Term) : Bool := decide ((greaterP l unit s t).2 = 0) && (greaterP l unit s t).1
def okP (l : List Rank) (unit : Int) (ts : List Term) : Bool := decide (wcheckP l unit = 0) && (decide (firstErr ts = 0) && fitsW l unit (symsP ts))
theorem firstErr_iff : ∀ ts : List Term, firstErr ts = 0 ↔ ∀ t, t ∈ ts → checkP t = 0
  | [] => by simp [firstErr]
  | t :: r => by
    have ih := firstErr_iff r
    unfold firstErr
    by_cases h : checkP t = 0 <;> simp [h, ih]
theorem fitsW_mono (l : List Rank) (unit : Int) {s1 s2 : List Sym} (h : ∀ f, f ∈ s1 → f ∈ s2) (hf : fitsW l unit s2 = true) : fitsW l unit s1 = true := by
  unfold fitsW at hf ⊢
  rw [List.all_eq_true] at hf ⊢
  intro f hf1
  have h2 := hf f (h f hf1)
  unfold fitsAt at h2 ⊢
  rw [Bool.and_eq_true] at h2 ⊢
  refine ⟨h2.1, ?_⟩
  have h3 := h2.2
  rw [Bool.or_eq_true] at h3 ⊢
  rcases h3 with h3 | h3
  · exact .inl h3
  · right
    rw [Bool.not_eq_true', List.any_eq_false] at h3 ⊢
    exact fun g hg => h3 g (h g hg)
theorem okP_iff (l : List Rank) (unit : Int) (ts : List Term) : okP l unit ts = true ↔ wcheckP l unit = 0 ∧ (∀ t, t ∈ ts → checkP t = 0) ∧ fitsW l unit (symsP ts) = true := by
  unfold okP; rw [Bool.and_eq_true, Bool.and_eq_true, decide_eq_true_eq, decide_eq_true_eq, firstErr_iff]
theorem gtP_iff (l : List Rank) (unit : Int) (s t : Term) : gtP l unit s t = true ↔ okP l unit [s, t] = true ∧ aboveP l unit s t = true := by
  rw [okP_iff]
  unfold gtP greaterP
  rw [← firstErr_iff]
  by_cases h1 : wcheckP l unit = 0
  · by_cases h2 : firstErr [s, t] = 0
    · cases h3 : fitsW l unit (symsP [s, t]) <;> simp [h1, h2]
    · simp [h1, h2]
  · simp [h1]
end Ab
set_option maxRecDepth 10000
namespace Ab
open Go Go.Proofs
attribute [local push_cast] encT encR scoped_encR encS scoped_encS
theorem dec_or3 (p : Prop) [Decidable p] : (p ∧ decide p = true) ∨ (¬ p ∧ decide p = false) := by by_cases h : p <;> simp [h]
theorem lawGreater_ac (l : List Rank) (unit : Int) (s t : Term) (hlen : l.length < 1099511627776) (hnl : ∀ x, x ∈ l → x.name.length < 1099511627776) (hb : s.bulk + t.bulk ≤ 1099511627775) (H : List AObj) :
    ACall Try.prog 14 [.agg [.sl .none (encL encR l), .int .i64 unit], encT s, encT t] H (fun r H' => r = .bool (gtP l unit s t) ∧ H' = H) := by
  refine ACall_intro (H.length) Try.func14 rfl ?_
  simp only [Try.ntmps14, List.length_cons, List.length_nil, List.replicate, List.cons_append, List.nil_append, Nat.reduceAdd, Nat.reduceSub, Nat.zero_add]
  refine AW_seq_k (fun K1 hK1 => ?_)
  refine AW_region ?_
  all_goals (refine AOps_cons rfl (AOp_box _ _ rfl rfl (by first | exact .inl rfl | exact .inr ⟨_, rfl⟩) (by simp [push_cast, AV.isCell]) ?_) <;> try simp only [push_cast, Nat.reduceAdd])
  all_goals (refine AOps_cons rfl (AOp_box _ _ rfl rfl (by first | exact .inl rfl | exact .inr ⟨_, rfl⟩) (by simp [push_cast, AV.isCell]) ?_) <;> try simp only [push_cast, Nat.reduceAdd])
  all_goals (refine AOps_cons rfl (AOp_box _ _ rfl rfl (by first | exact .inl rfl | exact .inr ⟨_, rfl⟩) (by simp [push_cast, AV.isCell]) ?_) <;> try simp only [push_cast, Nat.reduceAdd])
  all_goals (refine AOps_cons rfl (AOp_assign ?_) <;> try simp only [push_cast, Nat.reduceAdd])
  all_goals refine AOps_nil ?_
  all_goals
   refine thenK_normal (hK1 _ ?_)
   try clear hK1
   refine AW_seq_k (fun K2 hK2 => ?_)
   refine AW_region ?_
   all_goals (refine AOps_cons rfl (AOp_fieldAddr_ptr _ _ _ _ rfl fd24_0 (by decide) ?_) <;> try simp only [push_cast, Nat.reduceAdd])
   all_goals (refine AOps_cons rfl (AOp_load1_ptr _ _ _ _ _ rfl (by first | exact hget0 | exact hgetN _ rfl | assumption | exact hgetL (by assumption)) sz22 ag22 (by decide) (by simp [push_cast]) rfl ?_) <;> try simp only [push_cast, Nat.reduceAdd])
   all_goals (refine AOps_cons rfl (AOp_fieldAddr_ptr _ _ _ _ rfl fd24_1 (by decide) ?_) <;> try simp only [push_cast, Nat.reduceAdd])
   all_goals (refine AOps_cons rfl (AOp_load1_ptr _ _ _ _ _ rfl (by first | exact hget0 | exact hgetN _ rfl | assumption | exact hgetL (by assumption)) sz3 ag3 (by decide) (by simp [push_cast]) rfl ?_) <;> try simp only [push_cast, Nat.reduceAdd])
   all_goals (refine AOps_cons rfl (AOp_load_ptr _ _ _ _ rfl (by first | exact hget0 | exact hgetN _ rfl | assumption | exact hgetL (by assumption)) sz27 ag27 (by simp [push_cast]) ?_) <;> try simp only [push_cast, Nat.reduceAdd])
   all_goals (refine AOps_cons rfl (AOp_load_ptr _ _ _ _ rfl (by first | exact hget0 | exact hgetN _ rfl | assumption | exact hgetL (by assumption)) sz27 ag27 (by simp [push_cast]) ?_) <;> try simp only [push_cast, Nat.reduceAdd])
   all_goals refine AOps_cons rfl (AOp_call _ _ _ rfl rfl ok7 ?_)
   all_goals (try simp only [push_cast, Nat.reduceAdd])
   all_goals refine (greater_ac l unit s t hlen hnl hb _).mono ?_
   all_goals rintro r H' ⟨rfl, rfl⟩
   all_goals (try simp only [push_cast, Nat.reduceAdd])
   all_goals refine AOps_cons rfl (AOp_move ?_)
   all_goals (try simp only [push_cast, Nat.reduceAdd])
   all_goals (refine AOps_cons rfl (AOp_extract _ _ rfl rfl ?_) <;> try simp only [push_cast, Nat.reduceAdd])
   all_goals (refine AOps_cons rfl (AOp_extract _ _ rfl rfl ?_) <;> try simp only [push_cast, Nat.reduceAdd])
   all_goals refine AOps_cons rfl (AOp_assign ?_)
   all_goals (refine AOps_cons rfl (AOp_assign ?_) <;> try simp only [push_cast, Nat.reduceAdd])
   all_goals refine AOps_nil ?_
   all_goals
    refine thenK_normal (hK2 _ ?_)
    try clear hK2
    refine AW_seq_k (fun K3 hK3 => ?_)
    refine AW_region ?_
    all_goals refine AOps_cons rfl (AOp_move ?_)
    all_goals (try simp only [push_cast, Nat.reduceAdd])
    all_goals (refine AOps_cons rfl (AOp_bin_int _ _ _ _ rfl rfl rfl ?_) <;> try simp only [push_cast, Nat.reduceAdd])
    all_goals refine AOps_cons rfl (AOp_move ?_)
    all_goals (try simp only [push_cast, Nat.reduceAdd])
    all_goals (try refine AOps_split 21 _ rfl (fun hg4 => ?_) (fun hg4 => ?_))
    all_goals (try (exfalso; (first | (cases hg4; done) | (simp at hg4; done) | (simp at hg4; omega)); done))
    all_goals (try simp only [decide_eq_true_eq, decide_eq_false_iff_not, Bool.not_eq_true', Bool.not_eq_false', Bool.not_eq_eq_eq_not, Bool.not_true, Bool.not_false] at hg4)
    all_goals first
     | refine AOps_skip rfl ?_
     | (refine AOps_cons rfl ?_
        refine AOp_move ?_)
    all_goals (try simp only [push_cast, Nat.reduceAdd])
    all_goals refine AOps_cons rfl (AOp_pick _ rfl ?_)
    all_goals (refine AOps_cons rfl (AOp_assign ?_) <;> try simp only [push_cast, Nat.reduceAdd])
    all_goals refine AOps_nil ?_
    all_goals
     refine thenK_normal (hK3 _ ?_)
     try clear hK3
     refine AW_ret ?_
     repeat (first | refine thenK_ret ?_ | refine loopK_ret ?_ | refine blockK_ret ?_)
     refine ⟨by first | exact .inl rfl | exact .inr rfl, _, rfl, (by first | exact outok_app 0 rfl (Nat.zero_le _) (by simp) | exact outok_self), by simp [push_cast], ?_⟩
     simp only [push_cast, Nat.reduceAdd]
     unfold gtP
     first
       | (have h : (greaterP l unit s t).2 = 0 := (by assumption); simp [h]; done)
       | (have h : ¬ (greaterP l unit s t).2 = 0 := (by assumption); simp [h]; done)
theorem mem_ofL2 (f : Sym) (ts : List Term) : f ∈ ofL ts ↔ f ∈ symsP ts := by rw [mem_symsP]; rfl
theorem lawFits_ac (l : List Rank) (unit : Int) (ts : List Term) (hlen : l.length < 1099511627776) (hnl : ∀ x, x ∈ l → x.name.length < 1099511627776) (hlen2 : ts.length < 1099511627776) (hb : (ts.map Term.bulk).sum ≤ 1099511627775) (H : List AObj) :
    ACall Try.prog 15 [.agg [.sl .none (encL encR l), .int .i64 unit], .sl .none (encTs ts)] H (fun r H' => r = .bool (okP l unit ts) ∧ H' = H) := by
  have hbl : ∀ x, x ∈ ts → x.bulk ≤ 1099511627775 := fun x hx => by have := le_sum Term.bulk ts x hx; omega
  have hsz : (ts.map Term.size).sum ≤ 1099511627775 := by have := sum_le_sum (f := Term.size) (g := Term.bulk) (xs := ts) (fun x _ => x.size_le); omega
  have hsy : (ofL ts).length < 1099511627776 := by have := ofL_length ts; omega
  have hfo : wcheckP l unit = 0 → fitsR l unit (ofL ts) = fitsW l unit (symsP ts) := fun h => fitsR_eq l unit (good_of_check h).2 _ _ (fun f => mem_ofL2 f ts)
  refine ACall_intro (H.length) Try.func15 rfl ?_
  simp only [Try.ntmps15, List.length_cons, List.length_nil, List.replicate, List.cons_append, List.nil_append, Nat.reduceAdd, Nat.reduceSub, Nat.zero_add]
  refine AW_seq_k (fun K5 hK5 => ?_)
  refine AW_region ?_
  all_goals (refine AOps_cons rfl (AOp_box _ _ rfl rfl (by first | exact .inl rfl | exact .inr ⟨_, rfl⟩) (by simp [push_cast, AV.isCell]) ?_) <;> try simp only [push_cast, Nat.reduceAdd])
  all_goals (refine AOps_cons rfl (AOp_assign ?_) <;> try simp only [push_cast, Nat.reduceAdd])
  all_goals refine AOps_nil ?_
  all_goals
   refine thenK_normal (hK5 _ ?_)
   try clear hK5
   refine AW_seq_k (fun K6 hK6 => ?_)
   rcases dec_or3 (wcheckP l unit = 0) with ⟨h1, hd1⟩ | ⟨h1, hd1⟩ <;> rcases dec_or3 (firstErr ts = 0) with ⟨h2, hd2⟩ | ⟨h2, hd2⟩
   all_goals
     apply AW_drawE [some 5, some 6, some 7, some 8, some 9, some 10, some 11, some 12, some 13, some 14, some 15, some 16, some 17, some 18, some 19, some 20, some 21, some 22, some 23, some 24, some 4] [([], _)] [none, none, none, none, none, none, none, none, none, none, none, none, none, none, none, none, none, none, none, none, none] 0 [(0, [], [2]), (1, [], [5]), (2, [], [2]), (3, [], [7]), (4, [], [6, 1]), (5, [], [9]), (6, [], [10]), (7, [], [1, 9]), (8, [], [11, 0]), (9, [], [11, 1]), (10, [], [11, 2]), (11, [], [15]), (12, [], [2, 13]), (13, [], [16, 0]), (14, [], [2, 13]), (15, [], [16, 2]), (16, [], [1, 14]), (17, [], [16, 4]), (18, [], [16, 1, 1, 1]), (19, [], [16, 6]), (20, [], [24])] [_, _, _, _, _, _, _, _, _, _, _, _, _, _, _, _, _, _, _, _, _]
     case' hm => exact dr
     case' hn => rfl
     case' hok => rfl
     case' hlen => rfl
     case' hd => rfl
     case' h0 => rfl
     case' hstep =>
      simp only [DAllG, keepG, List.map_cons, List.map_nil, putD, stg, beqB, List.set_cons_zero, List.set_cons_succ, List.getD_cons_zero, List.getD_cons_succ, Option.isSome_some, Option.isSome_none]
      apply And.intro
      · apply DOne_do
        case' ho => rfl
        case' hw => rfl
        refine AOp_fieldAddr_ptr _ _ _ _ rfl fd24_0 (by decide) ?_
        all_goals (try simp only [push_cast, Nat.reduceAdd])
        all_goals (constructor <;> first | rfl | trivial)
      apply And.intro
      · apply DOne_do
        case' ho => rfl
        case' hw => rfl
        refine AOp_load1_ptr _ _ _ _ _ rfl (by first | exact hget0 | exact hgetN _ rfl | assumption | exact hgetL (by assumption)) sz22 ag22 (by decide) (by simp [push_cast]) rfl ?_
        all_goals (try simp only [push_cast, Nat.reduceAdd])
        all_goals (constructor <;> first | rfl | trivial)
      apply And.intro
      · apply DOne_do
        case' ho => rfl
        case' hw => rfl
        refine AOp_fieldAddr_ptr _ _ _ _ rfl fd24_1 (by decide) ?_
        all_goals (try simp only [push_cast, Nat.reduceAdd])
        all_goals (constructor <;> first | rfl | trivial)
      apply And.intro
      · apply DOne_do
        case' ho => rfl
        case' hw => rfl
        refine AOp_load1_ptr _ _ _ _ _ rfl (by first | exact hget0 | exact hgetN _ rfl | assumption | exact hgetL (by assumption)) sz3 ag3 (by decide) (by simp [push_cast]) rfl ?_
        all_goals (try simp only [push_cast, Nat.reduceAdd])
        all_goals (constructor <;> first | rfl | trivial)
      apply And.intro
      · apply DOne_do
        case' ho => rfl
        case' hw => rfl
        refine AOp_call _ _ _ rfl rfl ok8 ?_
        (try simp only [push_cast, Nat.reduceAdd])
        refine (checkR7_ac l unit hlen hnl _).mono ?_
        rintro r H' ⟨rfl, rfl⟩
        all_goals (try simp only [push_cast, Nat.reduceAdd])
        all_goals (constructor <;> first | rfl | trivial)
      apply And.intro
      · apply DOne_do
        case' ho => rfl
        case' hw => rfl
        refine AOp_bin_int _ _ _ _ rfl rfl rfl ?_
        rw [hd1]
        all_goals (try simp only [push_cast, Nat.reduceAdd])
        all_goals (constructor <;> first | rfl | trivial)
      apply And.intro
      · apply DOne_do
        case' ho => rfl
        case' hw => rfl
        refine AOp_move ?_
        all_goals (try simp only [push_cast, Nat.reduceAdd])
        all_goals (constructor <;> first | rfl | trivial)
      apply And.intro
      · first
        | exact DOne_no rfl rfl rfl
        | (apply DOne_do
           case' ho => rfl
           case' hw => rfl
           refine AOp_move ?_
           all_goals (try simp only [push_cast, Nat.reduceAdd])
           all_goals (constructor <;> first | rfl | trivial))
      apply And.intro
      · first
        | exact DOne_no rfl rfl rfl
        | (apply DOne_do
           case' ho => rfl
           case' hw => rfl
           refine AOp_call _ _ _ rfl rfl ok9 ?_
           (try simp only [push_cast, Nat.reduceAdd])
           refine (allR_ac ts hb _).mono ?_
           rintro r H' ⟨rfl, rfl⟩
           all_goals (try simp only [push_cast, Nat.reduceAdd])
           all_goals (constructor <;> first | rfl | trivial))
      apply And.intro
      · first
        | exact DOne_no rfl rfl rfl
        | (apply DOne_do
           case' ho => rfl
           case' hw => rfl
           refine AOp_bin_int _ _ _ _ rfl rfl rfl ?_
           rw [hd2]
           all_goals (try simp only [push_cast, Nat.reduceAdd])
           all_goals (constructor <;> first | rfl | trivial))
      apply And.intro
      · apply DOne_do
        case' ho => rfl
        case' hw => rfl
        refine AOp_pick _ rfl ?_
        all_goals (try simp only [push_cast, Nat.reduceAdd])
        all_goals (constructor <;> first | rfl | trivial)
      apply And.intro
      · apply DOne_do
        case' ho => rfl
        case' hw => rfl
        refine AOp_move ?_
        all_goals (try simp only [push_cast, Nat.reduceAdd])
        all_goals (constructor <;> first | rfl | trivial)
      apply And.intro
      · first
        | exact DOne_no rfl rfl rfl
        | (apply DOne_do
           case' ho => rfl
           case' hw => rfl
           refine AOp_fieldAddr_ptr _ _ _ _ rfl fd24_0 (by decide) ?_
           all_goals (try simp only [push_cast, Nat.reduceAdd])
           all_goals (constructor <;> first | rfl | trivial))
      apply And.intro
      · first
        | exact DOne_no rfl rfl rfl
        | (apply DOne_do
           case' ho => rfl
           case' hw => rfl
           refine AOp_load1_ptr _ _ _ _ _ rfl (by first | exact hget0 | exact hgetN _ rfl | assumption | exact hgetL (by assumption)) sz22 ag22 (by decide) (by simp [push_cast]) rfl ?_
           all_goals (try simp only [push_cast, Nat.reduceAdd])
           all_goals (constructor <;> first | rfl | trivial))
      apply And.intro
      · first
        | exact DOne_no rfl rfl rfl
        | (apply DOne_do
           case' ho => rfl
           case' hw => rfl
           refine AOp_fieldAddr_ptr _ _ _ _ rfl fd24_1 (by decide) ?_
           all_goals (try simp only [push_cast, Nat.reduceAdd])
           all_goals (constructor <;> first | rfl | trivial))
      apply And.intro
      · first
        | exact DOne_no rfl rfl rfl
        | (apply DOne_do
           case' ho => rfl
           case' hw => rfl
           refine AOp_load1_ptr _ _ _ _ _ rfl (by first | exact hget0 | exact hgetN _ rfl | assumption | exact hgetL (by assumption)) sz3 ag3 (by decide) (by simp [push_cast]) rfl ?_
           all_goals (try simp only [push_cast, Nat.reduceAdd])
           all_goals (constructor <;> first | rfl | trivial))
      apply And.intro
      · first
        | exact DOne_no rfl rfl rfl
        | (apply DOne_do
           case' ho => rfl
           case' hw => rfl
           refine AOp_move ?_
           all_goals (try simp only [push_cast, Nat.reduceAdd])
           all_goals (constructor <;> first | rfl | trivial))
      apply And.intro
      · first
        | exact DOne_no rfl rfl rfl
        | (apply DOne_do
           case' ho => rfl
           case' hw => rfl
           refine AOp_call _ _ _ rfl rfl ok11 ?_
           (try simp only [push_cast, Nat.reduceAdd])
           refine (ofR_ac ts hlen2 hbl hsz _).mono ?_
           rintro r H' ⟨rfl, rfl⟩
           all_goals (try simp only [push_cast, Nat.reduceAdd])
           all_goals (constructor <;> first | rfl | trivial))
      apply And.intro
      · first
        | exact DOne_no rfl rfl rfl
        | (apply DOne_do
           case' ho => rfl
           case' hw => rfl
           refine AOp_call _ _ _ rfl rfl ok10 ?_
           (try simp only [push_cast, Nat.reduceAdd])
           refine (admissibleR_ac l unit (ofL ts) hlen hsy _).mono ?_
           rintro r H' ⟨rfl, rfl⟩
           all_goals (try simp only [push_cast, Nat.reduceAdd])
           all_goals (constructor <;> first | rfl | trivial))
      apply And.intro
      · apply DOne_do
        case' ho => rfl
        case' hw => rfl
        refine AOp_pick _ rfl ?_
        all_goals (try simp only [push_cast, Nat.reduceAdd])
        all_goals (constructor <;> first | rfl | trivial)
      apply And.intro
      · apply DOne_do
        case' ho => rfl
        case' hw => rfl
        refine AOp_assign ?_
        all_goals (try simp only [push_cast, Nat.reduceAdd])
        all_goals (constructor <;> first | rfl | trivial)
      exact trivial
     case' hQ => skip
     (try simp only [push_cast, putD, stg, beqB, List.replicate, Nat.reduceAdd, List.getD_cons_zero, List.getD_cons_succ])
   all_goals
    refine thenK_normal (hK6 _ ?_)
    try clear hK6
    refine AW_ret ?_
    repeat (first | refine thenK_ret ?_ | refine loopK_ret ?_ | refine blockK_ret ?_)
    refine ⟨by first | exact .inl rfl | exact .inr rfl, _, rfl, (by first | exact outok_app 0 rfl (Nat.zero_le _) (by simp) | exact outok_self), by simp [push_cast], ?_⟩
    simp only [push_cast, Nat.reduceAdd]
    unfold okP
    rw [hd1, hd2]
    first
      | (simp; done)
      | (rw [hfo h1]; simp; done)
      | (rw [hfo h1]; cases fitsW l unit (symsP ts) <;> simp; done)
      | fail "ret"
end Ab
set_option maxRecDepth 10000
namespace Ab
open Go Go.Proofs
theorem sum_mono_count {α : Type} [BEq α] [LawfulBEq α] (g : α → Int) (hg : ∀ x, 0 ≤ g x) : ∀ (l m : List α), (∀ x, l.count x ≤ m.count x) → (l.map g).sum ≤ (m.map g).sum
  | [], m, _ => by
    induction m with
    | nil => simp
    | cons a r ih => have h1 := hg a; have h2 := ih (fun x => by simp); simp only [List.map_nil, List.sum_nil, List.map_cons, List.sum_cons] at h2 ⊢; omega
  | a :: l, m, h => by
    have ha : a ∈ m := by
      have := h a
      rw [List.count_cons_self] at this
      exact List.count_pos_iff.1 (by omega)
    have hs : ∀ m : List α, a ∈ m → (m.map g).sum = g a + ((m.erase a).map g).sum := by
      intro m
      induction m with
      | nil => intro h; cases h
      | cons b r ih =>
        intro hm
        by_cases hb : b = a
        · subst hb; simp
        · have ha' : a ∈ r := by
            rcases List.mem_cons.1 hm with e | e
            · exact absurd e.symm hb
            · exact e
          rw [List.erase_cons_tail (by simpa using hb)]
          have := ih ha'
          simp only [List.map_cons, List.sum_cons]; omega
    have ih := sum_mono_count g hg l (m.erase a) (fun x => by
      have h1 := h x
      rw [List.count_cons] at h1
      rw [List.count_erase]
      by_cases hx : a = x
      · subst hx; simp at h1 ⊢; omega
      · have : ¬ (a == x) = true := by simpa using hx
        simp [hx] at h1 ⊢; omega)
    rw [hs m ha]
    simp only [List.map_cons, List.sum_cons]; omega
def vlist : Term → List (List UInt8)
  | .mk n u xs => (if u then [n] else []) ++ (xs.map vlist).flatten
theorem vlist_mk (n : List UInt8) (u : Bool) (xs : List Term) : vlist (.mk n u xs) = (if u then [n] else []) ++ xs.flatMap vlist := by simp [vlist, List.flatMap]
theorem sum_flat (f : Term → List (List UInt8)) (v : List UInt8) : ∀ xs : List Term, ((xs.flatMap f).count v : Int) = (xs.map fun t => ((f t).count v : Int)).sum
  | [] => by simp
  | x :: xs => by
    have := sum_flat f v xs
    simp only [List.flatMap_cons, List.count_append, List.map_cons, List.sum_cons]; omega
theorem count_vlist (v : List UInt8) (t : Term) : ((vlist t).count v : Int) = countP v t := by
  refine Term.ind (p := fun t => ((vlist t).count v : Int) = countP v t) (fun n u xs ih => ?_) t
  rw [vlist_mk, countP_mk, List.count_append]
  have h1 := sum_flat vlist v xs
  have h2 : (xs.map fun t => ((vlist t).count v : Int)) = xs.map (countP v) := List.map_congr_left ih
  rw [h2] at h1
  have h3 : ((if u then [n] else ([] : List (List UInt8))).count v : Int) = oneP v n u := by
    cases u with
    | false => simp [oneP]
    | true => by_cases hn : n = v <;> simp [oneP, hn]
  push_cast
  omega
def imageP (σ : List (List UInt8 × Term)) (v : List UInt8) : Term := ((σ.find? fun b => decide (b.1 = v)).map (·.2)).getD (.mk v true [])
def applyP (σ : List (List UInt8 × Term)) : Term → Term
  | .mk n u xs => if u then imageP σ n else .mk n false (xs.map (applyP σ))
theorem applyP_mk (σ : List (List UInt8 × Term)) (n : List UInt8) (u : Bool) (xs : List Term) : applyP σ (.mk n u xs) = if u then imageP σ n else .mk n false (xs.map (applyP σ)) := by simp [applyP]
def plainV : Term → Bool
  | .mk _ u xs => (!u || decide (xs.length = 0)) && (xs.map plainV).all id
theorem plainV_mk (n : List UInt8) (u : Bool) (xs : List Term) : plainV (.mk n u xs) = ((!u || decide (xs.length = 0)) && xs.all plainV) := by rw [plainV, List.all_map]; rfl
theorem plain_of_formed (t : Term) : formedP t = true → plainV t = true := by
  refine Term.ind (p := fun t => formedP t = true → plainV t = true) (fun n u xs ih => ?_) t
  intro h
  rw [formedP_mk] at h
  rw [plainV_mk]
  cases u with
  | true =>
    simp only [if_true, Bool.and_eq_true, decide_eq_true_eq] at h
    have := List.eq_nil_of_length_eq_zero h.1
    simp [this]
  | false =>
    simp only [Bool.false_eq_true, if_false, Bool.and_eq_true, List.all_eq_true] at h
    simp only [Bool.not_false, Bool.true_or, Bool.true_and, List.all_eq_true]
    exact fun x hx => ih x hx (h.2 x hx)
theorem apply_sum (σ : List (List UInt8 × Term)) (w w0 : Term → Int) (c : List UInt8 → Int) (d : Int) (hw : ∀ n xs, w (.mk n false xs) = c n + (xs.map w).sum) (hw0 : ∀ n xs, w0 (.mk n false xs) = c n + (xs.map w0).sum) (hv : ∀ n, w0 (.mk n true []) = d) (t : Term) :
    plainV t = true → w (applyP σ t) = w0 t + ((vlist t).map fun v => w (imageP σ v) - d).sum := by
  refine Term.ind (p := fun t => plainV t = true → w (applyP σ t) = w0 t + ((vlist t).map fun v => w (imageP σ v) - d).sum) (fun n u xs ih => ?_) t
  intro h
  rw [plainV_mk, Bool.and_eq_true, List.all_eq_true] at h
  rw [applyP_mk, vlist_mk]
  cases u with
  | true =>
    have hx : xs = [] := List.eq_nil_of_length_eq_zero (by simpa using h.1)
    subst hx
    simp [hv]; omega
  | false =>
    simp only [Bool.false_eq_true, if_false, List.nil_append, hw, hw0]
    have : ∀ ys : List Term, (∀ y, y ∈ ys → y ∈ xs) → ((ys.map (applyP σ)).map w).sum = (ys.map w0).sum + ((ys.flatMap vlist).map fun v => w (imageP σ v) - d).sum := by
      intro ys
      induction ys with
      | nil => intro _; simp
      | cons y ys ih2 =>
        intro hy
        have h1 := ih y (hy y (by simp)) (h.2 y (hy y (by simp)))
        have h2 := ih2 (fun z hz => hy z (by simp [hz]))
        simp only [List.map_cons, List.sum_cons, List.flatMap_cons, List.map_append, List.sum_append, h1, h2]
        omega
    rw [this xs (fun y hy => hy)]; omega
theorem apply_count (σ : List (List UInt8 × Term)) (v : List UInt8) (t : Term) (h : plainV t = true) : countP v (applyP σ t) = ((vlist t).map fun x => countP v (imageP σ x)).sum := by
  have hz : ∀ xs : List Term, (xs.map fun _ => (0 : Int)).sum = 0 := by
    intro xs; induction xs with
    | nil => rfl
    | cons x xs ih => simp only [List.map_cons, List.sum_cons, ih]; rfl
  have := apply_sum σ (countP v) (fun _ => 0) (fun _ => 0) 0 (fun n xs => by rw [countP_mk]; simp [oneP]) (fun n xs => by rw [hz]; rfl) (fun _ => rfl) t h
  simpa using this
theorem apply_weight (σ : List (List UInt8 × Term)) (l : List Rank) (unit : Int) (t : Term) (h : plainV t = true) : weightP l unit (applyP σ t) = weightP l unit t + ((vlist t).map fun x => weightP l unit (imageP σ x) - unit).sum :=
  apply_sum σ (weightP l unit) (weightP l unit) (fun n => (ofP l n).weight) unit (fun n xs => by rw [weightP_mk]; simp) (fun n xs => by rw [weightP_mk]; simp) (fun n => by rw [weightP_mk]; simp) t h
structure AdmU (l : List Rank) (unit : Int) (U : List Sym) : Prop where
  small : SmallR l unit
  const : ∀ f, f ∈ U → f.arity = 0 → unit ≤ (ofP l f.name).weight
  unary : ∀ f, f ∈ U → f.arity = 1 → (ofP l f.name).weight = 0 → ∀ g, g ∈ U → g ≠ f → (ofP l g.name).rank < (ofP l f.name).rank
theorem adm_of {l : List Rank} {unit : Int} {U : List Sym} (hs : SmallR l unit) (h : fitsW l unit U = true) : AdmU l unit U := by
  unfold fitsW at h
  rw [List.all_eq_true] at h
  refine ⟨hs, fun f hf h0 => ?_, fun f hf h1 h2 g hg hne => ?_⟩
  · have := h f hf
    unfold fitsAt at this
    rw [Bool.and_eq_true] at this
    have h3 := this.1
    simp only [h0, decide_true, Bool.true_and, Bool.not_eq_true', decide_eq_false_iff_not] at h3
    omega
  · have := h f hf
    unfold fitsAt at this
    rw [Bool.and_eq_true] at this
    have h3 := this.2
    simp only [h1, h2, decide_true, Bool.not_true, Bool.false_or, Int.lt_irrefl, decide_false, Bool.not_eq_true', List.any_eq_false] at h3
    have h4 := h3 g hg
    simp only [hne, ne_eq, not_false_eq_true, decide_true, Bool.true_and, decide_eq_true_eq] at h4
    omega
def symsIn (U : List Sym) (t : Term) : Prop := ∀ f, f ∈ ofT t → f ∈ U
theorem symsIn_mk {U : List Sym} {n : List UInt8} {u : Bool} {xs : List Term} (h : symsIn U (.mk n u xs)) : (∀ x, x ∈ xs → symsIn U x) ∧ (u = false → (⟨n, xs.length⟩ : Sym) ∈ U) := by
  unfold symsIn at h
  rw [ofT_mk] at h
  refine ⟨fun x hx f hf => h f (List.mem_append_left _ (List.mem_flatMap.2 ⟨x, hx, hf⟩)), fun hu => h _ (List.mem_append_right _ (by simp [hu]))⟩
theorem le_sumI (w : Term → Int) : ∀ (xs : List Term), (∀ x, x ∈ xs → 0 ≤ w x) → 0 ≤ (xs.map w).sum ∧ ∀ x, x ∈ xs → w x ≤ (xs.map w).sum
  | [], _ => by simp
  | y :: ys, h => by
    obtain ⟨h1, h2⟩ := le_sumI w ys (fun x hx => h x (by simp [hx]))
    have h3 := h y (by simp)
    refine ⟨by simp only [List.map_cons, List.sum_cons]; omega, fun x hx => ?_⟩
    simp only [List.map_cons, List.sum_cons]
    rcases List.mem_cons.1 hx with rfl | hx
    · omega
    · have := h2 x hx; omega
theorem weight_unit {l : List Rank} {unit : Int} {U : List Sym} (hU : AdmU l unit U) (t : Term) : plainV t = true → symsIn U t → unit ≤ weightP l unit t := by
  refine Term.ind (p := fun t => plainV t = true → symsIn U t → unit ≤ weightP l unit t) (fun n u xs ih => ?_) t
  intro hp hs
  rw [plainV_mk, Bool.and_eq_true, List.all_eq_true] at hp
  rw [weightP_mk]
  obtain ⟨s1, s2⟩ := symsIn_mk hs
  cases u with
  | true => simp
  | false =>
    simp only [Bool.false_eq_true, if_false]
    have hr := hU.small.of n
    cases xs with
    | nil => have := hU.const _ (s2 rfl) (by simp); simp at this ⊢; exact this
    | cons x xs =>
      have h1 := ih x (by simp) (hp.2 x (by simp)) (s1 x (by simp))
      have h2 := (le_sumI (weightP l unit) (x :: xs) (fun y hy => (weight_bound hU.small y).1)).2 x (by simp)
      omega
theorem count_arg (v n : List UInt8) (u : Bool) (xs : List Term) (x : Term) (hx : x ∈ xs) : countP v x ≤ countP v (.mk n u xs) := by
  rw [countP_mk]
  have h1 := (le_sumI (countP v) xs (fun y _ => (countP_bound v y).1)).2 x hx
  have h2 := oneP_bound v n u
  omega
theorem arg_above {l : List Rank} {unit : Int} {U : List Sym} (hU : AdmU l unit U) (t : Term) : plainV t = true → symsIn U t → ∀ x, x ∈ t.args → aboveP l unit t x = true := by
  refine Term.ind (p := fun t => plainV t = true → symsIn U t → ∀ x, x ∈ t.args → aboveP l unit t x = true) (fun n u xs ih => ?_) t
  intro hp hs x hx
  simp only [Term.args_mk] at hx
  have hp0 := hp
  rw [plainV_mk, Bool.and_eq_true, List.all_eq_true] at hp
  obtain ⟨s1, s2⟩ := symsIn_mk hs
  cases u with
  | true =>
    have hx0 : xs = [] := List.eq_nil_of_length_eq_zero (by simpa using hp.1)
    subst hx0; cases hx
  | false =>
    rw [above_iff]
    refine ⟨(coversP_iff _ _).2 fun v => count_arg v n false xs x hx, ?_⟩
    rw [weightP_mk]
    simp only [Bool.false_eq_true, if_false, Term.var_mk, Term.name_mk, Term.args_mk]
    have hr := hU.small.of n
    have hpos : ∀ y, y ∈ xs → unit ≤ weightP l unit y := fun y hy => weight_unit hU y (hp.2 y hy) (s1 y hy)
    have hun := hU.small.2.1
    have hle := (le_sumI (weightP l unit) xs (fun y hy => (weight_bound hU.small y).1)).2 x hx
    by_cases hw : weightP l unit x < (ofP l n).weight + (xs.map (weightP l unit)).sum
    · exact .inl hw
    · right
      have hone : xs = [x] := by
        obtain ⟨a, b, rfl⟩ := List.append_of_mem hx
        simp only [List.map_append, List.map_cons, List.sum_append, List.sum_cons] at hw hle
        have ha : 0 ≤ (a.map (weightP l unit)).sum := (le_sumI (weightP l unit) a (fun y hy => (weight_bound hU.small y).1)).1
        have hb : 0 ≤ (b.map (weightP l unit)).sum := (le_sumI (weightP l unit) b (fun y hy => (weight_bound hU.small y).1)).1
        have ha2 : a = [] := by
          cases a with
          | nil => rfl
          | cons y a =>
            have h1 := hpos y (by simp)
            have h2 := (le_sumI (weightP l unit) (y :: a) (fun y hy => (weight_bound hU.small y).1)).2 y (by simp)
            omega
        have hb2 : b = [] := by
          cases b with
          | nil => rfl
          | cons y b =>
            have h1 := hpos y (by simp)
            have h2 := (le_sumI (weightP l unit) (y :: b) (fun y hy => (weight_bound hU.small y).1)).2 y (by simp)
            omega
        subst ha2; subst hb2; rfl
      subst hone
      simp only [List.map_cons, List.map_nil, List.sum_cons, List.sum_nil] at hw ⊢
      have hw0 : (ofP l n).weight = 0 := by omega
      refine ⟨by omega, by first | trivial | rfl, ?_⟩
      cases x with
      | mk m v ys =>
        cases v with
        | true => exact .inl rfl
        | false =>
          right
          refine ⟨rfl, ?_⟩
          simp only [Term.name_mk, Term.args_mk]
          have hf := s2 rfl
          obtain ⟨s3, s4⟩ := symsIn_mk (s1 _ hx)
          by_cases he : (⟨m, ys.length⟩ : Sym) = ⟨n, ([Term.mk m false ys] : List Term).length⟩
          · injection he with e1 e2
            subst e1
            have e3 : ys.length = 1 := by have h3 : (ys.length : Int) = 1 := (by simpa using e2); omega
            refine .inr ⟨rfl, by simp [e3], ?_⟩
            match ys, e3 with
            | [y], _ =>
              rw [kboTs_cons]
              have h1 := ih _ hx (hp.2 _ hx) (s1 _ hx) y (by simp [Term.args_mk])
              by_cases hxy : Term.mk m false [y] = y
              · exfalso
                have := congrArg Term.size hxy
                rw [Term.size_mk] at this
                simp at this
              · rw [if_neg hxy]; exact h1
          · left
            refine ⟨?_, hU.unary _ hf (by simp) hw0 _ (s4 rfl) he⟩
            by_cases hn : n = m
            · right
              intro e
              apply he
              rw [hn]
              have e' : ys.length = 1 := by simpa using e.symm
              simp [e']
            · exact .inl hn
inductive SubT : Term → Term → Prop
  | refl (t : Term) : SubT t t
  | arg {n : List UInt8} {u : Bool} {xs : List Term} {x t : Term} (hx : x ∈ xs) (h : SubT x t) : SubT (.mk n u xs) t
theorem SubT.plain {s t : Term} (h : SubT s t) : plainV s = true → plainV t = true := by
  induction h with
  | refl => exact id
  | arg hx _ ih => intro hp; rw [plainV_mk, Bool.and_eq_true, List.all_eq_true] at hp; exact ih (hp.2 _ hx)
theorem SubT.syms {s t : Term} (h : SubT s t) {U : List Sym} : symsIn U s → symsIn U t := by
  induction h with
  | refl => exact id
  | arg hx _ ih => intro hs; exact ih ((symsIn_mk hs).1 _ hx)
theorem sub_above {l : List Rank} {unit : Int} {U : List Sym} (hU : AdmU l unit U) {s t : Term} (h : SubT s t) : plainV s = true → symsIn U s → s = t ∨ aboveP l unit s t = true := by
  induction h with
  | refl => intro _ _; exact .inl rfl
  | @arg n u xs x t hx _ ih =>
    intro hp hs
    right
    have h1 := arg_above hU _ hp hs x (by simpa [Term.args_mk] using hx)
    rw [plainV_mk, Bool.and_eq_true, List.all_eq_true] at hp
    rcases ih (hp.2 x hx) ((symsIn_mk hs).1 x hx) with rfl | h2
    · exact h1
    · exact above_trans l unit _ _ _ h1 h2
theorem sub_image (σ : List (List UInt8 × Term)) (v : List UInt8) (t : Term) : plainV t = true → v ∈ vlist t → SubT (applyP σ t) (imageP σ v) := by
  refine Term.ind (p := fun t => plainV t = true → v ∈ vlist t → SubT (applyP σ t) (imageP σ v)) (fun n u xs ih => ?_) t
  intro hp h
  rw [plainV_mk, Bool.and_eq_true, List.all_eq_true] at hp
  rw [vlist_mk] at h
  rw [applyP_mk]
  cases u with
  | true =>
    have hx : xs = [] := List.eq_nil_of_length_eq_zero (by simpa using hp.1)
    subst hx
    simp at h
    subst h
    exact .refl _
  | false =>
    simp only [Bool.false_eq_true, if_false, List.nil_append, List.mem_flatMap] at h
    obtain ⟨x, hx, hv⟩ := h
    exact .arg (List.mem_map_of_mem hx) (ih x hx (hp.2 x hx) hv)
theorem kboTs_map (l : List Rank) (unit : Int) (f : Term → Term) : ∀ xs ys : List Term, (∀ x, x ∈ xs → ∀ y, y ∈ ys → aboveP l unit x y = true → aboveP l unit (f x) (f y) = true) → kboTs l unit xs ys = true → kboTs l unit (xs.map f) (ys.map f) = true
  | [], ys, _, h => by rw [kboTs_nil] at h; cases h
  | x :: xs, [], _, h => by cases x with | mk n v us => simp [kboTs] at h
  | x :: xs, y :: ys, hf, h => by
    rw [kboTs_cons] at h
    rw [List.map_cons, List.map_cons, kboTs_cons]
    by_cases hxy : x = y
    · subst hxy
      rw [if_pos rfl] at h ⊢
      exact kboTs_map l unit f xs ys (fun a ha b hb => hf a (by simp [ha]) b (by simp [hb])) h
    · rw [if_neg hxy] at h
      have h1 := hf x (by simp) y (by simp) h
      by_cases he : f x = f y
      · rw [he, above_self] at h1; cases h1
      · rw [if_neg he]; exact h1
theorem above_subst {l : List Rank} {unit : Int} {U : List Sym} (hU : AdmU l unit U) (σ : List (List UInt8 × Term)) (s : Term) : ∀ t, plainV s = true → plainV t = true → plainV (applyP σ s) = true → symsIn U (applyP σ s) → symsIn U (applyP σ t) →
    aboveP l unit s t = true → aboveP l unit (applyP σ s) (applyP σ t) = true := by
  refine Term.ind (p := fun s => ∀ t, plainV s = true → plainV t = true → plainV (applyP σ s) = true → symsIn U (applyP σ s) → symsIn U (applyP σ t) → aboveP l unit s t = true → aboveP l unit (applyP σ s) (applyP σ t) = true) (fun n v xs ih => ?_) s
  intro t hps hpt hpa hsa hsb h
  obtain ⟨S, hS⟩ : ∃ S, S = Term.mk n v xs := ⟨_, rfl⟩
  rw [← hS] at hps hpa hsa h ⊢
  rw [above_iff] at h
  obtain ⟨hc, h⟩ := h
  have hcnt : ∀ x, (vlist t).count x ≤ (vlist S).count x := fun x => by
    have h1 := (coversP_iff _ _).1 hc x
    rw [← count_vlist, ← count_vlist] at h1; omega
  have hcov : coversP (applyP σ S) (applyP σ t) = true := (coversP_iff _ _).2 fun x => by
    rw [apply_count σ x S hps, apply_count σ x t hpt]
    exact sum_mono_count (fun y => countP x (imageP σ y)) (fun y => (countP_bound x _).1) _ _ hcnt
  have himg : ∀ x, x ∈ vlist S → unit ≤ weightP l unit (imageP σ x) := fun x hx => by
    have hsub := sub_image σ x S hps hx
    exact weight_unit hU _ (hsub.plain hpa) (hsub.syms hsa)
  have hw1 := apply_weight σ l unit S hps
  have hw2 := apply_weight σ l unit t hpt
  have hG : ((vlist t).map fun x => weightP l unit (imageP σ x) - unit).sum ≤ ((vlist S).map fun x => weightP l unit (imageP σ x) - unit).sum := by
    have hm := sum_mono_count (fun x => max 0 (weightP l unit (imageP σ x) - unit)) (fun x => by omega) _ _ hcnt
    have e1 : ((vlist S).map fun x => max 0 (weightP l unit (imageP σ x) - unit)) = (vlist S).map fun x => weightP l unit (imageP σ x) - unit := List.map_congr_left fun x hx => by have := himg x hx; omega
    have e2 : ((vlist t).map fun x => max 0 (weightP l unit (imageP σ x) - unit)) = (vlist t).map fun x => weightP l unit (imageP σ x) - unit := List.map_congr_left fun x hx => by
      have h1 := hcnt x
      have h2 : 0 < (vlist t).count x := List.count_pos_iff.2 hx
      have := himg x (List.count_pos_iff.1 (by omega)); omega
    rw [e1, e2] at hm; exact hm
  rcases h with h | ⟨hw, hv, h⟩
  · exact (above_iff _ _ _ _).2 ⟨hcov, .inl (by omega)⟩
  · have hv' : v = false := by rw [hS] at hv; exact hv
    subst hv'
    have haS : applyP σ S = .mk n false (xs.map (applyP σ)) := by rw [hS, applyP_mk]; simp
    have hpx : ∀ x, x ∈ xs → plainV x = true := fun x hx => by rw [hS, plainV_mk, Bool.and_eq_true, List.all_eq_true] at hps; exact hps.2 x hx
    cases t with
    | mk m u ys =>
      cases u with
      | true =>
        have hy : ys = [] := by rw [plainV_mk, Bool.and_eq_true] at hpt; exact List.eq_nil_of_length_eq_zero (by simpa using hpt.1)
        subst hy
        have hm : m ∈ vlist S := by
          have h1 : (vlist (.mk m true [])).count m = 1 := by rw [vlist_mk]; simp
          have := hcnt m
          exact List.count_pos_iff.1 (by omega)
        rw [hS, vlist_mk] at hm
        simp only [Bool.false_eq_true, if_false, List.nil_append, List.mem_flatMap] at hm
        obtain ⟨x, hx, hmx⟩ := hm
        have ht : applyP σ (.mk m true []) = imageP σ m := by rw [applyP_mk]; simp
        rw [ht]
        have hxa : applyP σ x ∈ (applyP σ S).args := by rw [haS]; exact List.mem_map_of_mem hx
        have h1 := arg_above hU (applyP σ S) hpa hsa _ hxa
        have hp1 : plainV (applyP σ x) = true := by rw [haS, plainV_mk, Bool.and_eq_true, List.all_eq_true] at hpa; exact hpa.2 _ (List.mem_map_of_mem hx)
        have hs1 : symsIn U (applyP σ x) := by rw [haS] at hsa; exact (symsIn_mk hsa).1 _ (List.mem_map_of_mem hx)
        rcases sub_above hU (sub_image σ m x (hpx x hx) hmx) hp1 hs1 with e | h2
        · rw [← e]; exact h1
        · exact above_trans l unit _ _ _ h1 h2
      | false =>
        have hat : applyP σ (.mk m false ys) = .mk m false (ys.map (applyP σ)) := by rw [applyP_mk]; simp
        have hpy : ∀ y, y ∈ ys → plainV y = true := fun y hy => by rw [plainV_mk, Bool.and_eq_true, List.all_eq_true] at hpt; exact hpt.2 y hy
        by_cases hlt : weightP l unit (applyP σ (.mk m false ys)) < weightP l unit (applyP σ S)
        · exact (above_iff _ _ _ _).2 ⟨hcov, .inl hlt⟩
        · refine (above_iff _ _ _ _).2 ⟨hcov, .inr ⟨by omega, by rw [haS]; rfl, .inr ⟨by rw [hat]; rfl, ?_⟩⟩⟩
          rw [hS] at h
          simp only [Term.var_mk, Term.name_mk, Term.args_mk, Bool.false_eq_true, false_or, true_and] at h
          rw [haS, hat]
          simp only [Term.name_mk, Term.args_mk, List.length_map]
          rcases h with h | ⟨e1, e2, h⟩
          · exact .inl h
          · refine .inr ⟨e1, e2, kboTs_map l unit (applyP σ) xs ys (fun x hx y hy hab => ?_) h⟩
            refine ih x hx y (hpx x hx) (hpy y hy) ?_ ?_ ?_ hab
            · rw [haS, plainV_mk, Bool.and_eq_true, List.all_eq_true] at hpa; exact hpa.2 _ (List.mem_map_of_mem hx)
            · rw [haS] at hsa; exact (symsIn_mk hsa).1 _ (List.mem_map_of_mem hx)
            · rw [hat] at hsb; exact (symsIn_mk hsb).1 _ (List.mem_map_of_mem hy)
def atP : Term → List Int → Option Term
  | t, [] => some t
  | .mk _ _ xs, i :: p => if h : 0 ≤ i ∧ i.toNat < xs.length then atP xs[i.toNat] p else none
def putP : Term → List Int → Term → Term
  | _, [], x => x
  | .mk n _ xs, i :: p, x => .mk n false (xs.set i.toNat (putP (xs.getD i.toNat (.mk [] false [])) p x))
theorem at_sub : ∀ (p : List Int) (t x : Term), atP t p = some x → SubT t x
  | [], t, x, h => by simp [atP] at h; subst h; exact .refl _
  | i :: p, .mk n u xs, x, h => by
    simp only [atP] at h
    split at h
    · exact .arg (List.getElem_mem _) (at_sub p _ x h)
    · cases h
theorem at_above {l : List Rank} {unit : Int} {U : List Sym} (hU : AdmU l unit U) {t x : Term} {p : List Int} (h : atP t p = some x) (hp : p ≠ []) (hpl : plainV t = true) (hs : symsIn U t) : aboveP l unit t x = true := by
  cases p with
  | nil => exact absurd rfl hp
  | cons i p =>
    cases t with
    | mk n u xs =>
      simp only [atP] at h
      split at h
      · rename_i hi
        have hm := List.getElem_mem hi.2
        have h1 := arg_above hU _ hpl hs xs[i.toNat] hm
        rw [plainV_mk, Bool.and_eq_true, List.all_eq_true] at hpl
        rcases sub_above hU (at_sub p _ x h) (hpl.2 _ hm) ((symsIn_mk hs).1 _ hm) with e | h2
        · rw [← e]; exact h1
        · exact above_trans l unit _ _ _ h1 h2
      · cases h
theorem sum_set (f : Term → Int) : ∀ (xs : List Term) (j : Nat) (h : j < xs.length) (a : Term), ((xs.set j a).map f).sum = (xs.map f).sum - f xs[j] + f a
  | x :: xs, 0, h, a => by simp; omega
  | x :: xs, j + 1, h, a => by
    have := sum_set f xs j (by simpa using h) a
    simp only [List.set_cons_succ, List.map_cons, List.sum_cons, this, List.getElem_cons_succ]; omega
theorem kboTs_set (l : List Rank) (unit : Int) (a b : Term) (hne : a ≠ b) (hab : aboveP l unit a b = true) : ∀ (xs : List Term) (j : Nat), j < xs.length → kboTs l unit (xs.set j a) (xs.set j b) = true
  | x :: xs, 0, h => by rw [List.set_cons_zero, List.set_cons_zero, kboTs_cons, if_neg hne]; exact hab
  | x :: xs, j + 1, h => by
    rw [List.set_cons_succ, List.set_cons_succ, kboTs_cons, if_pos rfl]
    exact kboTs_set l unit a b hne hab xs j (by simpa using h)
theorem above_set (l : List Rank) (unit : Int) (n : List UInt8) (xs : List Term) (j : Nat) (hj : j < xs.length) (a b : Term) (hab : aboveP l unit a b = true) : aboveP l unit (.mk n false (xs.set j a)) (.mk n false (xs.set j b)) = true := by
  have hne : a ≠ b := fun e => by rw [e, above_self] at hab; cases hab
  have hk := kboTs_set l unit a b hne hab xs j hj
  rw [above_iff] at hab ⊢
  have hc := (coversP_iff _ _).1 hab.1
  refine ⟨(coversP_iff _ _).2 fun v => ?_, ?_⟩
  · rw [countP_mk, countP_mk, sum_set _ xs j hj, sum_set _ xs j hj]; have := hc v; omega
  · rw [weightP_mk, weightP_mk, sum_set _ xs j hj, sum_set _ xs j hj]
    simp only [Bool.false_eq_true, if_false, Term.var_mk, Term.name_mk, Term.args_mk, List.length_set]
    have hle : weightP l unit b ≤ weightP l unit a := by rcases hab.2 with h | h <;> omega
    by_cases hlt : weightP l unit b < weightP l unit a
    · left; omega
    · right
      exact ⟨by omega, trivial, .inr ⟨trivial, .inr ⟨trivial, trivial, hk⟩⟩⟩
theorem above_put (l : List Rank) (unit : Int) (s t : Term) (hab : aboveP l unit s t = true) : ∀ (p : List Int) (c x : Term), atP c p = some x → aboveP l unit (putP c p s) (putP c p t) = true
  | [], c, x, _ => by cases c; simp [putP, hab]
  | i :: p, .mk n u xs, x, h => by
    simp only [atP] at h
    split at h
    · rename_i hi
      have ih := above_put l unit s t hab p xs[i.toNat] x h
      have hg : xs.getD i.toNat (.mk [] false []) = xs[i.toNat] := by simp [hi.2]
      simp only [putP, hg]
      exact above_set l unit n xs i.toNat hi.2 _ _ ih
    · cases h
theorem checkP_iff (t : Term) : checkP t = 0 ↔ formedP t = true ∧ fitsP t = true := by
  unfold checkP
  cases formedP t <;> cases fitsP t <;> simp
theorem SubT.sizes {s t : Term} (h : SubT s t) : t.size ≤ s.size ∧ t.depth ≤ s.depth := by
  induction h with
  | refl => exact ⟨Nat.le_refl _, Nat.le_refl _⟩
  | @arg n u xs x t hx _ ih =>
    rw [Term.size_mk, Term.depth_mk]
    have h1 := le_sum Term.size xs x hx
    have h2 : x.depth ≤ (xs.map Term.depth).foldl max 0 := by
      have : ∀ (ys : List Nat) (b y : Nat), y ∈ ys → y ≤ ys.foldl max b := by
        intro ys
        have mono : ∀ (zs : List Nat) (b : Nat), b ≤ zs.foldl max b := by
          intro zs; induction zs with
          | nil => intro b; exact Nat.le_refl _
          | cons z zs ih => intro b; have := ih (max b z); simp only [List.foldl_cons]; omega
        induction ys with
        | nil => intro b y h; cases h
        | cons z zs ih =>
          intro b y h
          simp only [List.foldl_cons]
          rcases List.mem_cons.1 h with rfl | h
          · have := mono zs (max b y); omega
          · exact ih _ y h
      exact this _ 0 _ (List.mem_map_of_mem hx)
    omega
theorem SubT.formed {s t : Term} (h : SubT s t) : formedP s = true → formedP t = true := by
  induction h with
  | refl => exact id
  | @arg n u xs x t hx _ ih =>
    intro hs
    rw [formedP_mk] at hs
    cases u with
    | true =>
      simp only [if_true, Bool.and_eq_true, decide_eq_true_eq] at hs
      rw [List.eq_nil_of_length_eq_zero hs.1] at hx; cases hx
    | false =>
      simp only [Bool.false_eq_true, if_false, Bool.and_eq_true, List.all_eq_true] at hs
      exact ih (hs.2 x hx)
theorem SubT.check {s t : Term} (h : SubT s t) (hs : checkP s = 0) : checkP t = 0 := by
  rw [checkP_iff] at hs ⊢
  refine ⟨h.formed hs.1, ?_⟩
  have h1 := h.sizes
  have h2 := hs.2
  simp only [fitsP, Bool.and_eq_true, decide_eq_true_eq] at h2 ⊢
  omega
theorem adm_ok {l : List Rank} {unit : Int} {ts : List Term} (h : okP l unit ts = true) : AdmU l unit (symsP ts) ∧ ∀ t, t ∈ ts → plainV t = true ∧ symsIn (symsP ts) t := by
  rw [okP_iff] at h
  refine ⟨adm_of (good_of_check h.1).2 h.2.2, fun t ht => ⟨plain_of_formed t ((checkP_iff t).1 (h.2.1 t ht)).1, fun f hf => ?_⟩⟩
  rw [mem_symsP, List.mem_flatMap]; exact ⟨t, ht, hf⟩
theorem gt_at (l : List Rank) (unit : Int) (c x : Term) (p : List Int) (h : okP l unit [c] = true) (hat : atP c p = some x) (hp : p ≠ []) : gtP l unit c x = true := by
  rw [gtP_iff]
  obtain ⟨hU, hc⟩ := adm_ok h
  obtain ⟨h1, h2⟩ := hc c (by simp)
  have hsub := at_sub p c x hat
  refine ⟨?_, at_above hU hat hp h1 h2⟩
  rw [okP_iff] at h ⊢
  refine ⟨h.1, fun t ht => ?_, fitsW_mono l unit (fun f hf => ?_) h.2.2⟩
  · simp at ht
    rcases ht with rfl | rfl
    · exact h.2.1 _ (by simp)
    · exact hsub.check (h.2.1 c (by simp))
  · rw [mem_symsP, List.mem_flatMap] at hf
    obtain ⟨t, ht, hf⟩ := hf
    simp at ht
    rcases ht with rfl | rfl
    · exact h2 f hf
    · exact hsub.syms h2 f hf
theorem gt_subst (l : List Rank) (unit : Int) (σ : List (List UInt8 × Term)) (s t : Term) (h : gtP l unit s t = true) (hk : okP l unit [applyP σ s, applyP σ t] = true) : gtP l unit (applyP σ s) (applyP σ t) = true := by
  rw [gtP_iff] at h ⊢
  refine ⟨hk, ?_⟩
  obtain ⟨hU, hc⟩ := adm_ok hk
  obtain ⟨_, hc2⟩ := adm_ok h.1
  exact above_subst hU σ s t (hc2 s (by simp)).1 (hc2 t (by simp)).1 (hc _ (by simp)).1 (hc _ (by simp)).2 (hc _ (by simp)).2 h.2
theorem gt_put (l : List Rank) (unit : Int) (s t c x : Term) (p : List Int) (h : gtP l unit s t = true) (hat : atP c p = some x) (hk : okP l unit [putP c p s, putP c p t] = true) : gtP l unit (putP c p s) (putP c p t) = true := by
  rw [gtP_iff] at h ⊢
  exact ⟨hk, above_put l unit s t h.2 p c x hat⟩
end Ab
set_option maxRecDepth 10000
namespace Ab
open Go Go.Proofs
@[reducible] def encBd (b : List UInt8 × Term) : AV := .agg [.str b.1, .str b.2.name, .bool b.2.var, .sl .none (encTs b.2.args)]
theorem uni_encBd (l : List (List UInt8 × Term)) : Uni 4 (encL encBd l) := uni_encL (enc := encBd) (k := 4) (fun _ => rfl) l
theorem scoped_encBd (n : Nat) (l : List (List UInt8 × Term)) : ScopedL n (encL encBd l) := scoped_encL (fun x => by simp [Scoped, ScopedL, scoped_encTs]) l
attribute [local push_cast] encT encBd scoped_encBd
theorem imageR_ac (σ : List (List UInt8 × Term)) (v : List UInt8) (hlen : σ.length < 1099511627776) (H : List AObj) : ACall Try.prog 39 [.sl .none (encL encBd σ), .str v] H (fun r H' => r = encT (imageP σ v) ∧ H' = H) := by
  refine ACall.weakR (R := fun r H' => Forget r (encT (imageP σ v)) ∧ H' = H) ?_ (fun r H' h => ⟨_, h.1, rfl, h.2⟩)
  have hsl : ∀ n, ScopedL n (encL encBd σ) := fun n => scoped_encBd n σ
  refine ACall_intro (H.length) Try.func39 rfl ?_
  simp only [Try.ntmps39, List.length_cons, List.length_nil, List.replicate, List.cons_append, List.nil_append, Nat.reduceAdd, Nat.reduceSub, Nat.zero_add]
  refine AW_seq_k (fun K1 hK1 => ?_)
  refine AW_region ?_
  all_goals (refine AOps_cons rfl (AOp_alloc _ zr27 (by simp [ofVal, AV.isCell, Value.oneCell']) ?_) <;> try simp only [push_cast, Nat.reduceAdd])
  all_goals refine AOps_nil ?_
  all_goals
   refine thenK_normal (hK1 _ ?_)
   try clear hK1
   refine AW_seq_k (fun K2 hK2 => ?_)
   refine AW_seq_k (fun K3 hK3 => ?_)
   refine AW_region ?_
   all_goals refine AOps_cons rfl (AOp_move ?_)
   all_goals (try simp only [push_cast, Nat.reduceAdd])
   all_goals (refine AOps_cons rfl (AOp_len_sl _ _ _ rfl sl43 ?_) <;> try simp only [push_cast, Nat.reduceAdd])
   all_goals (refine AOps_cons rfl (AOp_move ?_) <;> try simp only [push_cast, Nat.reduceAdd])
   all_goals refine AOps_nil ?_
   all_goals
    refine thenK_normal (hK3 _ ?_)
    try clear hK3
    refine AW_block ?_
    refine AW_loopR (maskG 22 [1, 2, 2, 0, 0]) (fun (i : Nat) => [(9, .int .i64 i)]) (fun _ => _) (fun i => i ≤ σ.length ∧ ∀ x, x ∈ σ.take i → ¬ x.1 = v) (fun i => σ.length - i) 0 ⟨Nat.zero_le _, by simp⟩ (by (simp only [push_cast, Nat.reduceAdd]; refine weak_app 1 ?_ (by simp) (by simp [push_cast]); (repeat (first | exact SlotsOk.nil | refine SlotsOk.junk ?_ | refine SlotsOk.same (by first | (simp [push_cast]; done) | (simp [push_cast, Scoped, ScopedL, *]; done)) ?_ | refine SlotsOk.tok (by first | rfl | (simp; done)) (by first | (simp [push_cast]; done) | (simp [push_cast, Scoped, ScopedL, *]; done)) ?_ | refine SlotsOk.eq (by first | rfl | (congr 1; omega) | (simp; done) | (simp; omega)) (by first | (simp [push_cast]; done) | (simp [push_cast, Scoped, ScopedL, *]; done)) ?_)))) (fun i hi => ?_)
    (try simp only [push_cast, Nat.reduceAdd])
    refine AW_seq_k (fun K4 hK4 => ?_)
    refine AW_region ?_
    all_goals (refine AOps_cons rfl (AOp_bin_int _ _ _ _ rfl rfl rfl ?_) <;> try simp only [push_cast, Nat.reduceAdd])
    all_goals refine AOps_nil ?_
    all_goals
     refine thenK_normal (hK4 _ ?_)
     try clear hK4
     refine AW_seq_k (fun K5 hK5 => ?_)
     apply AW_cond
     case' hc => exact rfl
     case' hf =>
      intro hc6
      try (exfalso; (first | (cases hc6; done) | (simp at hc6; done) | (simp at hc6; omega)); done)
      all_goals (try simp only [decide_eq_true_eq, decide_eq_false_iff_not, Bool.not_eq_true', Bool.not_eq_false', Bool.not_eq_eq_eq_not, Bool.not_true, Bool.not_false] at hc6)
      all_goals
       refine AW_exit ?_
       repeat (first | refine thenK_exit ?_ | refine loopK_exit ?_ | refine blockK_other (by decide) ?_)
       refine blockK_same ?_
       refine thenK_normal (hK2 _ ?_)
       try clear hK2
       refine AW_seq_k (fun K7 hK7 => ?_)
       refine AW_region ?_
       all_goals refine AOps_cons rfl (AOp_move ?_)
       all_goals (try simp only [push_cast, Nat.reduceAdd])
       all_goals (refine AOps_cons rfl (AOp_build _ _ _ zr27 st27 _ rfl (by first | rfl | (simp [afill, splice, push_cast]; done)) ?_) <;> try simp only [push_cast, Nat.reduceAdd])
       all_goals (refine AOps_cons rfl (AOp_store _ _ _ _ _ rfl (by first | exact hget0 | exact hgetN _ rfl | assumption | exact hgetL (by assumption) | exact hgetE (by first | assumption | apply hGl) | exact hgetEN (by first | assumption | apply hGl) _ rfl) rfl rfl (by first | exact .inl rfl | exact .inr ⟨_, rfl⟩) (by simp [push_cast, AV.isCell]) sz27 (by simp [push_cast]) ?_) <;> try simp only [push_cast, Nat.reduceAdd])
       all_goals refine AOps_nil ?_
       all_goals
        refine thenK_normal (hK7 _ ?_)
        try clear hK7
        refine AW_ret ?_
        repeat (first | refine thenK_ret ?_ | refine loopK_ret ?_ | refine blockK_ret ?_)
        have e : σ.take i = σ := List.take_of_length_le (by omega)
        rw [e] at hi
        have hn : σ.find? (fun b => decide (b.1 = v)) = none := by rw [List.find?_eq_none]; intro x hx; simpa using hi.2 x hx
        have he : imageP σ v = .mk v true [] := by simp [imageP, hn]
        rw [he]
        refine ⟨by first | exact .inl rfl | exact .inr rfl, _, ⟨_, _, _, _, rfl, (by first | exact hget0 | exact hgetN _ rfl | assumption | exact hgetL (by assumption) | exact hgetE (by first | assumption | apply hGl) | exact hgetEN (by first | assumption | apply hGl) _ rfl), sz27, by simp, .inl ⟨ag27, rfl⟩⟩, (by first | exact outok_app 0 rfl (Nat.zero_le _) (by simp) | exact outok_self), by simp [push_cast], ?_⟩
        simp only [push_cast, Nat.reduceAdd]
        refine ⟨?_, by simp⟩
        simp only [encT, Term.name_mk, Term.var_mk, Term.args_mk, encTs, strip, stripL, stripTok]
        exact Forget.agg3 (Forget.tok _ _)
     case' ht =>
      intro hc6
      try (exfalso; (first | (cases hc6; done) | (simp at hc6; done) | (simp at hc6; omega)); done)
      all_goals (try simp only [decide_eq_true_eq, decide_eq_false_iff_not, Bool.not_eq_true', Bool.not_eq_false', Bool.not_eq_eq_eq_not, Bool.not_true, Bool.not_false] at hc6)
      all_goals
       refine AW_skip ?_
       refine thenK_normal (hK5 _ ?_)
       try clear hK5
       refine AW_seq_k (fun K8 hK8 => ?_)
       refine AW_block ?_
       refine AW_seq_k (fun K9 hK9 => ?_)
       refine AW_region ?_
       all_goals (refine AOps_cons rfl (AOp_indexAddr_sl 70 _ _ _ _ _ rfl rfl sl43 sz70 (by decide) (by exact uni_encBd _) (by first | omega | (simp; omega)) (by first | omega | (simp [push_cast]; omega) | (simp [push_cast]; done)) ?_) <;> try simp only [push_cast, Nat.reduceAdd])
       all_goals (refine AOps_cons rfl (AOp_load_cptr _ _ rfl sz70 ag70 (by simp [push_cast]) ?_) <;> try simp only [push_cast, Nat.reduceAdd])
       all_goals (refine AOps_cons rfl (AOp_alloc _ zr70 (by simp [ofVal, AV.isCell, Value.oneCell']) ?_) <;> try simp only [push_cast, Nat.reduceAdd])
       all_goals (refine AOps_cons rfl (AOp_store _ _ _ _ _ rfl (by first | exact hget0 | exact hgetN _ rfl | assumption | exact hgetL (by assumption) | exact hgetE (by first | assumption | apply hGl) | exact hgetEN (by first | assumption | apply hGl) _ rfl) rfl rfl (by first | exact .inl rfl | exact .inr ⟨_, rfl⟩) (by simp [push_cast, AV.isCell]) sz70 (by simp [push_cast]) ?_) <;> try simp only [push_cast, Nat.reduceAdd])
       all_goals refine AOps_nil ?_
       all_goals
        refine thenK_normal (hK9 _ ?_)
        try clear hK9
        refine AW_seq_k (fun K10 hK10 => ?_)
        refine AW_region ?_
        all_goals (refine AOps_cons rfl (AOp_fieldAddr_ptr _ _ _ _ rfl fd70_0 (by decide) ?_) <;> try simp only [push_cast, Nat.reduceAdd])
        all_goals (refine AOps_cons rfl (AOp_load1_ptr _ _ _ _ _ rfl (by first | exact hget0 | exact hgetN _ rfl | assumption | exact hgetL (by assumption) | exact hgetE (by first | assumption | apply hGl) | exact hgetEN (by first | assumption | apply hGl) _ rfl) sz9 ag9 (by decide) (by simp [push_cast]) rfl ?_) <;> try simp only [push_cast, Nat.reduceAdd])
        all_goals refine AOps_cons rfl (AOp_move ?_)
        all_goals (try simp only [push_cast, Nat.reduceAdd])
        all_goals (refine AOps_cons rfl (AOp_bin_str _ _ _ rfl rfl rfl ?_) <;> try simp only [push_cast, Nat.reduceAdd])
        all_goals refine AOps_nil ?_
        all_goals
         refine thenK_normal (hK10 _ ?_)
         try clear hK10
         apply AW_cond
         case' hc => exact rfl
         case' hf =>
          intro hc11
          try (exfalso; (first | (cases hc11; done) | (simp at hc11; done) | (simp at hc11; omega)); done)
          all_goals (try simp only [decide_eq_true_eq, decide_eq_false_iff_not, Bool.not_eq_true', Bool.not_eq_false', Bool.not_eq_eq_eq_not, Bool.not_true, Bool.not_false] at hc11)
          all_goals
           refine AW_skip ?_
           refine blockK_normal ?_
           refine thenK_normal (hK8 _ ?_)
           try clear hK8
           refine AW_region ?_
           all_goals refine AOps_cons rfl (AOp_bin_int _ _ _ _ rfl rfl rfl ?_)
           all_goals (try simp only [push_cast, Nat.reduceAdd])
           all_goals (try rw [IntWalk.i64_in _ (by omega)])
           all_goals (try simp only [push_cast, Nat.reduceAdd])
           all_goals (refine AOps_cons rfl (AOp_move ?_) <;> try simp only [push_cast, Nat.reduceAdd])
           all_goals refine AOps_nil ?_
           all_goals
            refine loopK_normal ?_
            refine ⟨i + 1, ⟨by omega, fun x hx => ?_⟩, by (simp only [push_cast, Nat.reduceAdd]; refine weak_app 1 ?_ (by simp) (by simp [push_cast]); (repeat (first | exact SlotsOk.nil | refine SlotsOk.junk ?_ | refine SlotsOk.same (by first | (simp [push_cast]; done) | (simp [push_cast, Scoped, ScopedL, *]; done)) ?_ | refine SlotsOk.tok (by first | rfl | (simp; done)) (by first | (simp [push_cast]; done) | (simp [push_cast, Scoped, ScopedL, *]; done)) ?_ | refine SlotsOk.eq (by first | rfl | (congr 1; omega) | (simp; done) | (simp; omega)) (by first | (simp [push_cast]; done) | (simp [push_cast, Scoped, ScopedL, *]; done)) ?_))), by omega⟩
            rw [List.take_succ_eq_append_getElem (by omega)] at hx
            rcases List.mem_append.1 hx with h | h
            · exact hi.2 x h
            · simp at h; subst h; assumption
         case' ht =>
          intro hc11
          try (exfalso; (first | (cases hc11; done) | (simp at hc11; done) | (simp at hc11; omega)); done)
          all_goals (try simp only [decide_eq_true_eq, decide_eq_false_iff_not, Bool.not_eq_true', Bool.not_eq_false', Bool.not_eq_eq_eq_not, Bool.not_true, Bool.not_false] at hc11)
          all_goals
           refine AW_seq_k (fun K12 hK12 => ?_)
           refine AW_region ?_
           all_goals (refine AOps_cons rfl (AOp_fieldAddr_ptr _ _ _ _ rfl fd70_1 (by decide) ?_) <;> try simp only [push_cast, Nat.reduceAdd])
           all_goals (refine AOps_cons rfl (AOp_load_ptr _ _ _ _ rfl (by first | exact hget0 | exact hgetN _ rfl | assumption | exact hgetL (by assumption) | exact hgetE (by first | assumption | apply hGl) | exact hgetEN (by first | assumption | apply hGl) _ rfl) sz27 ag27 (by simp [push_cast]) ?_) <;> try simp only [push_cast, Nat.reduceAdd])
           all_goals (refine AOps_cons rfl (AOp_store _ _ _ _ _ rfl (by first | exact hget0 | exact hgetN _ rfl | assumption | exact hgetL (by assumption) | exact hgetE (by first | assumption | apply hGl) | exact hgetEN (by first | assumption | apply hGl) _ rfl) rfl rfl (by first | exact .inl rfl | exact .inr ⟨_, rfl⟩) (by simp [push_cast, AV.isCell]) sz27 (by simp [push_cast]) ?_) <;> try simp only [push_cast, Nat.reduceAdd])
           all_goals refine AOps_nil ?_
           all_goals
            refine thenK_normal (hK12 _ ?_)
            try clear hK12
            refine AW_ret ?_
            repeat (first | refine thenK_ret ?_ | refine loopK_ret ?_ | refine blockK_ret ?_)
            have hil : i < σ.length := by omega
            have hn : σ.find? (fun b => decide (b.1 = v)) = some σ[i] := by
              rw [List.find?_eq_some_iff_getElem]
              refine ⟨by simpa using ‹σ[i].1 = v›, i, hil, rfl, fun j hj => ?_⟩
              have := hi.2 σ[j] (by rw [List.mem_take_iff_getElem]; exact ⟨j, by omega, rfl⟩)
              simpa using this
            have he : imageP σ v = σ[i].2 := by simp [imageP, hn]
            rw [he]
            refine ⟨by first | exact .inl rfl | exact .inr rfl, _, ⟨_, _, _, _, rfl, (by first | exact hget0 | exact hgetN _ rfl | assumption | exact hgetL (by assumption) | exact hgetE (by first | assumption | apply hGl) | exact hgetEN (by first | assumption | apply hGl) _ rfl), sz27, by simp, .inl ⟨ag27, rfl⟩⟩, (by first | exact outok_app 0 rfl (Nat.zero_le _) (by simp) | exact outok_self), by simp [push_cast], ?_⟩
            simp only [push_cast, Nat.reduceAdd]
            refine ⟨?_, by simp⟩
            (try simp only [strip, stripL, stripTok, strip_encTs])
            exact Forget.refl _
def appL (σ : List (List UInt8 × Term)) (xs : List Term) : List Term := xs.map (applyP σ)
theorem appL_take (σ : List (List UInt8 × Term)) (xs : List Term) (i : Nat) (h : i < xs.length) : appL σ (xs.take (i + 1)) = appL σ (xs.take i) ++ [applyP σ xs[i]] := by
  unfold appL; rw [List.take_succ_eq_append_getElem h, List.map_append]; rfl
theorem encTs_append (a b : List Term) : encTs (a ++ b) = encTs a ++ encTs b := by simp [encTs_map]
theorem encTs_nil : encTs [] = [] := by simp [encTs]
theorem appL_nil (σ : List (List UInt8 × Term)) : appL σ [] = [] := rfl
theorem encTs_one (a : Term) : encTs [a] = [encT a] := by rw [encTs_cons]; simp [encTs]
set_option maxHeartbeats 1600000 in
theorem applyR_ac (σ : List (List UInt8 × Term)) (hlen : σ.length < 1099511627776) (t : Term) : t.bulk ≤ 1099511627775 → ∀ H, ACall Try.prog 19 [.sl .none (encL encBd σ), encT t] H (fun r H' => r = encT (applyP σ t) ∧ H' = H) := by
  refine Term.ind (p := fun t => t.bulk ≤ 1099511627775 → ∀ H, ACall Try.prog 19 [.sl .none (encL encBd σ), encT t] H (fun r H' => r = encT (applyP σ t) ∧ H' = H)) (fun n u xs ih => ?_) t
  intro hb H
  refine ACall.weakR (R := fun r H' => Forget r (encT (applyP σ (.mk n u xs))) ∧ H' = H) ?_ (fun r H' h => ⟨_, h.1, rfl, h.2⟩)
  have hl2 := Term.len_le (n := n) (v := u) (xs := xs)
  have hsl : ∀ n, ScopedL n (encL encBd σ) := fun n => scoped_encBd n σ
  have hal : ∀ i, (encTs (appL σ (xs.take i))).length ≤ xs.length := fun i => by rw [encTs_length]; simp [appL]; omega
  have hob : ∀ (zs : List Term) (o : AObj), o ∈ [AObj.cells [.str n, .bool u, .sl .none (encTs xs)], .cells [.str [], .bool false, .sl .zero []], .cells [.str n, .bool false, gSl (H.length + 3) (encTs zs)], gTok 27 3 (encTs zs)] → OScoped (H.length + 4) o := by
    intro zs o ho
    simp only [List.mem_cons, List.not_mem_nil, or_false] at ho
    rcases ho with rfl | rfl | rfl | rfl
    · simp [OScoped, ScopedL, Scoped, scoped_encTs]
    · simp [OScoped, ScopedL, Scoped]
    · exact ⟨trivial, trivial, scoped_gSl (by omega) (scoped_encTs _ _), trivial⟩
    · exact oscoped_gTok _ _ _ _
  have eS : encT (.mk n u xs) = .agg [.str n, .bool u, .sl .none (encTs xs)] := rfl
  rw [eS]
  refine ACall_intro (H.length) Try.func19 rfl ?_
  simp only [Try.ntmps19, List.length_cons, List.length_nil, List.replicate, List.cons_append, List.nil_append, Nat.reduceAdd, Nat.reduceSub, Nat.zero_add]
  refine AW_seq_k (fun K13 hK13 => ?_)
  refine AW_region ?_
  all_goals (refine AOps_cons rfl (AOp_box _ _ rfl rfl (by first | exact .inl rfl | exact .inr ⟨_, rfl⟩) (by simp [push_cast, AV.isCell]) ?_) <;> try simp only [push_cast, Nat.reduceAdd])
  all_goals (refine AOps_cons rfl (AOp_alloc _ zr27 (by simp [ofVal, AV.isCell, Value.oneCell']) ?_) <;> try simp only [push_cast, Nat.reduceAdd])
  all_goals refine AOps_nil ?_
  all_goals
   refine thenK_normal (hK13 _ ?_)
   try clear hK13
   refine AW_seq_k (fun K14 hK14 => ?_)
   refine AW_seq_k (fun K15 hK15 => ?_)
   refine AW_region ?_
   all_goals (refine AOps_cons rfl (AOp_fieldAddr_ptr _ _ _ _ rfl fd27_1 (by decide) ?_) <;> try simp only [push_cast, Nat.reduceAdd])
   all_goals (refine AOps_cons rfl (AOp_load1_ptr _ _ _ _ _ rfl (by first | exact hget0 | exact hgetN _ rfl | assumption | exact hgetL (by assumption) | exact hgetE (by first | assumption | apply hGl) | exact hgetEN (by first | assumption | apply hGl) _ rfl) sz4 ag4 (by decide) (by simp [push_cast]) rfl ?_) <;> try simp only [push_cast, Nat.reduceAdd])
   all_goals refine AOps_nil ?_
   all_goals
    refine thenK_normal (hK15 _ ?_)
    try clear hK15
    apply AW_cond
    case' hc => exact rfl
    case' hf =>
     intro hc16
     try (exfalso; (first | (cases hc16; done) | (simp at hc16; done) | (simp at hc16; omega)); done)
     all_goals (try simp only [decide_eq_true_eq, decide_eq_false_iff_not, Bool.not_eq_true', Bool.not_eq_false', Bool.not_eq_eq_eq_not, Bool.not_true, Bool.not_false] at hc16)
     all_goals
      refine AW_skip ?_
      refine thenK_normal (hK14 _ ?_)
      try clear hK14
      refine AW_seq_k (fun K17 hK17 => ?_)
      refine AW_region ?_
      all_goals (refine AOps_cons rfl (AOp_fieldAddr_ptr _ _ _ _ rfl fd27_0 (by decide) ?_) <;> try simp only [push_cast, Nat.reduceAdd])
      all_goals (refine AOps_cons rfl (AOp_load1_ptr _ _ _ _ _ rfl (by first | exact hget0 | exact hgetN _ rfl | assumption | exact hgetL (by assumption) | exact hgetE (by first | assumption | apply hGl) | exact hgetEN (by first | assumption | apply hGl) _ rfl) sz9 ag9 (by decide) (by simp [push_cast]) rfl ?_) <;> try simp only [push_cast, Nat.reduceAdd])
      all_goals (refine AOps_cons rfl (AOp_build _ _ _ zr27 st27 _ rfl (by first | rfl | (simp [afill, splice, push_cast]; done)) ?_) <;> try simp only [push_cast, Nat.reduceAdd])
      all_goals (refine AOps_cons rfl (AOp_alloc _ zr27 (by simp [ofVal, AV.isCell, Value.oneCell']) ?_) <;> try simp only [push_cast, Nat.reduceAdd])
      all_goals (refine AOps_cons rfl (AOp_store _ _ _ _ _ rfl (by first | exact hget0 | exact hgetN _ rfl | assumption | exact hgetL (by assumption) | exact hgetE (by first | assumption | apply hGl) | exact hgetEN (by first | assumption | apply hGl) _ rfl) rfl rfl (by first | exact .inl rfl | exact .inr ⟨_, rfl⟩) (by intro c hc; simp only [push_cast, List.mem_cons, List.not_mem_nil, or_false] at hc; rcases hc with rfl | rfl | rfl <;> first | rfl | exact gSl_isCell _ _) sz27 (by simp [push_cast]) ?_) <;> try simp only [push_cast, Nat.reduceAdd])
      all_goals refine AOps_nil ?_
      all_goals
       refine thenK_normal (hK17 _ ?_)
       try clear hK17
       refine AW_seq_k (fun K18 hK18 => ?_)
       refine AW_seq_k (fun K19 hK19 => ?_)
       refine AW_region ?_
       all_goals (refine AOps_cons rfl (AOp_fieldAddr_ptr _ _ _ _ rfl fd27_2 (by decide) ?_) <;> try simp only [push_cast, Nat.reduceAdd])
       all_goals (refine AOps_cons rfl (AOp_load1_ptr _ _ _ _ _ rfl (by first | exact hget0 | exact hgetN _ rfl | assumption | exact hgetL (by assumption) | exact hgetE (by first | assumption | apply hGl) | exact hgetEN (by first | assumption | apply hGl) _ rfl) sz25 ag25 (by decide) (by simp [push_cast]) rfl ?_) <;> try simp only [push_cast, Nat.reduceAdd])
       all_goals (refine AOps_cons rfl (AOp_len_sl _ _ _ rfl sl25 ?_) <;> try simp only [push_cast, Nat.reduceAdd])
       all_goals (refine AOps_cons rfl (AOp_move ?_) <;> try simp only [push_cast, Nat.reduceAdd])
       all_goals refine AOps_nil ?_
       all_goals
        refine thenK_normal (hK19 _ ?_)
        try clear hK19
        refine AW_block ?_
        refine AW_reserve 1 ?_
        simp only [push_cast, List.replicate, Nat.reduceAdd]
        refine AW_loopR (maskG 34 [0, 3, 0, 12, 0, 0]) (fun (i : Nat) => [(20, .int .i64 i)]) (fun i => H ++ [.cells [.str n, .bool u, .sl .none (encTs xs)], .cells [.str [], .bool false, .sl .zero []], .cells [.str n, .bool false, gSl (H.length + 3) (encTs (appL σ (xs.take i)))], gTok 27 3 (encTs (appL σ (xs.take i)))]) (fun i => i ≤ xs.length) (fun i => xs.length - i) 0 (Nat.zero_le _) (by simp only [push_cast, Nat.reduceAdd, appL_nil, encTs_nil]; exact weak_app 4 (by (repeat (first | exact SlotsOk.nil | refine SlotsOk.junk ?_ | refine SlotsOk.same (by first | (simp [push_cast]; done) | (simp [push_cast, Scoped, ScopedL, *]; done)) ?_ | refine SlotsOk.tok (by first | rfl | (simp; done)) (by first | (simp [push_cast]; done) | (simp [push_cast, Scoped, ScopedL, *]; done)) ?_ | refine SlotsOk.eq (by first | rfl | (congr 1; omega) | (simp; done) | (simp; omega)) (by first | (simp [push_cast]; done) | (simp [push_cast, Scoped, ScopedL, *]; done)) ?_))) (by simp) (fun o ho => hob [] o (by rw [encTs_nil]; exact ho))) (fun i hi => ?_)
        (try simp only [push_cast, Nat.reduceAdd])
        refine AW_seq_k (fun K20 hK20 => ?_)
        refine AW_region ?_
        all_goals (refine AOps_cons rfl (AOp_bin_int _ _ _ _ rfl rfl rfl ?_) <;> try simp only [push_cast, Nat.reduceAdd])
        all_goals refine AOps_nil ?_
        all_goals
         refine thenK_normal (hK20 _ ?_)
         try clear hK20
         refine AW_seq_k (fun K21 hK21 => ?_)
         apply AW_cond
         case' hc => exact rfl
         case' hf =>
          intro hc22
          try (exfalso; (first | (cases hc22; done) | (simp at hc22; done) | (simp at hc22; omega)); done)
          all_goals (try simp only [decide_eq_true_eq, decide_eq_false_iff_not, Bool.not_eq_true', Bool.not_eq_false', Bool.not_eq_eq_eq_not, Bool.not_true, Bool.not_false] at hc22)
          all_goals
           refine AW_exit ?_
           repeat (first | refine thenK_exit ?_ | refine loopK_exit ?_ | refine blockK_other (by decide) ?_)
           refine blockK_same ?_
           refine thenK_normal (hK18 _ ?_)
           try clear hK18
           refine AW_seq_k (fun K23 hK23 => ?_)
           refine AW_region ?_
           all_goals (refine AOps_cons rfl (AOp_load_ptr _ _ _ _ rfl (by first | exact hget0 | exact hgetN _ rfl | assumption | exact hgetL (by assumption) | exact hgetE (by first | assumption | apply hGl) | exact hgetEN (by first | assumption | apply hGl) _ rfl) sz27 ag27 (by simp [push_cast]) ?_) <;> try simp only [push_cast, Nat.reduceAdd])
           all_goals (refine AOps_cons rfl (AOp_store _ _ _ _ _ rfl (by first | exact hget0 | exact hgetN _ rfl | assumption | exact hgetL (by assumption) | exact hgetE (by first | assumption | apply hGl) | exact hgetEN (by first | assumption | apply hGl) _ rfl) rfl rfl (by first | exact .inl rfl | exact .inr ⟨_, rfl⟩) (by intro c hc; simp only [push_cast, List.mem_cons, List.not_mem_nil, or_false] at hc; rcases hc with rfl | rfl | rfl <;> first | rfl | exact gSl_isCell _ _) sz27 (by simp [push_cast]) ?_) <;> try simp only [push_cast, Nat.reduceAdd])
           all_goals refine AOps_nil ?_
           all_goals
            refine thenK_normal (hK23 _ ?_)
            try clear hK23
            refine AW_ret ?_
            repeat (first | refine thenK_ret ?_ | refine loopK_ret ?_ | refine blockK_ret ?_)
            have e : xs.take i = xs := List.take_of_length_le (by omega)
            have hu : u = false := by assumption
            have ha : applyP σ (.mk n u xs) = .mk n false (appL σ xs) := by rw [applyP_mk, hu]; rfl
            rw [e, ha]
            refine ⟨by simp, _, ⟨_, _, _, _, rfl, (by first | exact hget0 | exact hgetN _ rfl | assumption | exact hgetL (by assumption) | exact hgetE (by first | assumption | apply hGl) | exact hgetEN (by first | assumption | apply hGl) _ rfl), sz27, by simp, .inl ⟨ag27, rfl⟩⟩, outok_app 0 rfl (Nat.zero_le _) (by simp), ?_, ?_⟩
            · simp only [push_cast, Nat.reduceAdd, strip, stripL, Scoped, ScopedL, true_and, and_true]
              exact scoped_gSl_strip (by omega) (by rw [strip_encTs]; exact scoped_encTs _ _)
            simp only [push_cast, Nat.reduceAdd]
            refine ⟨?_, by simp⟩
            simp only [strip, stripL, encT, Term.name_mk, Term.var_mk, Term.args_mk]
            have := gSl_strip (show H.length ≤ H.length + 3 by omega) (encTs (appL σ xs))
            rw [strip_encTs] at this
            exact Forget.agg3 this
         case' ht =>
          intro hc22
          try (exfalso; (first | (cases hc22; done) | (simp at hc22; done) | (simp at hc22; omega)); done)
          all_goals (try simp only [decide_eq_true_eq, decide_eq_false_iff_not, Bool.not_eq_true', Bool.not_eq_false', Bool.not_eq_eq_eq_not, Bool.not_true, Bool.not_false] at hc22)
          all_goals
           refine AW_skip ?_
           refine thenK_normal (hK21 _ ?_)
           try clear hK21
           refine AW_seq_k (fun K24 hK24 => ?_)
           refine AW_block ?_
           refine AW_seq_k (fun K25 hK25 => ?_)
           refine AW_region ?_
           all_goals (refine AOps_cons rfl (AOp_indexAddr_sl 27 _ _ _ _ _ rfl rfl sl25 sz27 (by decide) (by exact uni_encTs _) (by first | omega | (simp; omega)) (by first | omega | (simp [push_cast]; omega) | (simp [push_cast]; done)) ?_) <;> try simp only [push_cast, Nat.reduceAdd])
           all_goals (refine AOps_cons rfl (AOp_load_cptr _ _ rfl sz27 ag27 (by simp [push_cast]) ?_) <;> try simp only [push_cast, Nat.reduceAdd])
           all_goals (refine AOps_cons rfl (AOp_alloc _ zr27 (by simp [ofVal, AV.isCell, Value.oneCell']) ?_) <;> try simp only [push_cast, Nat.reduceAdd])
           all_goals (refine AOps_cons rfl (AOp_store _ _ _ _ _ rfl (by first | exact hget0 | exact hgetN _ rfl | assumption | exact hgetL (by assumption) | exact hgetE (by first | assumption | apply hGl) | exact hgetEN (by first | assumption | apply hGl) _ rfl) rfl rfl (by first | exact .inl rfl | exact .inr ⟨_, rfl⟩) (by intro c hc; simp only [push_cast, List.mem_cons, List.not_mem_nil, or_false] at hc; rcases hc with rfl | rfl | rfl <;> first | rfl | exact gSl_isCell _ _) sz27 (by simp [push_cast]) ?_) <;> try simp only [push_cast, Nat.reduceAdd])
           all_goals refine AOps_nil ?_
           all_goals
            refine thenK_normal (hK25 _ ?_)
            try clear hK25
            apply AW_drawE [some 24, some 25, some 26, some 27, some 28, some 29, some 30, some 31, none] [([false, false], _), ([true, false], _), ([true, true], _)] [none, none, none, none, none, none, some 0, none, some 1] 2 [(0, [false, false], [5]), (1, [false, false], [24]), (2, [false, false], [0]), (3, [false, false], [7]), (4, [false, false], [26, 0]), (5, [false, false], [28]), (6, [false, false], [25, 3]), (7, [true, false], [5]), (8, [true, false], [30, 0]), (0, [true, false], [5]), (2, [true, false], [0]), (3, [true, false], [7])] [_, _, _, _, _, _, _, _, _]
            case' hm => exact dr
            case' hn => rfl
            case' hok => rfl
            case' hlen => rfl
            case' hd => rfl
            case' h0 => rfl
            case' hstep =>
             simp only [DAllG, keepG, List.map_cons, List.map_nil, putD, stg, beqB, List.set_cons_zero, List.set_cons_succ, List.getD_cons_zero, List.getD_cons_succ, Option.isSome_some, Option.isSome_none]
             apply And.intro
             · apply DOne_do
               case' ho => rfl
               case' hw => rfl
               refine AOp_fieldAddr_ptr _ _ _ _ rfl fd27_2 (by decide) ?_
               all_goals (try simp only [push_cast, Nat.reduceAdd])
               all_goals (constructor <;> first | rfl | trivial)
             apply And.intro
             · apply DOne_do
               case' ho => rfl
               case' hw => rfl
               refine AOp_load1_ptr _ _ _ _ _ rfl (by first | exact hget0 | exact hgetN _ rfl | assumption | exact hgetL (by assumption) | exact hgetE (by first | assumption | apply hGl) | exact hgetEN (by first | assumption | apply hGl) _ rfl) sz25 ag25 (by decide) (by simp [push_cast]) rfl ?_
               all_goals (try simp only [push_cast, Nat.reduceAdd])
               all_goals (constructor <;> first | rfl | trivial)
             apply And.intro
             · apply DOne_do
               case' ho => rfl
               case' hw => rfl
               refine AOp_move ?_
               all_goals (try simp only [push_cast, Nat.reduceAdd])
               all_goals (constructor <;> first | rfl | trivial)
             apply And.intro
             · apply DOne_do
               case' ho => rfl
               case' hw => rfl
               refine AOp_load_ptr _ _ _ _ rfl (by first | exact hget0 | exact hgetN _ rfl | assumption | exact hgetL (by assumption) | exact hgetE (by first | assumption | apply hGl) | exact hgetEN (by first | assumption | apply hGl) _ rfl) sz27 ag27 (by simp [push_cast]) ?_
               all_goals (try simp only [push_cast, Nat.reduceAdd])
               all_goals (constructor <;> first | rfl | trivial)
             apply And.intro
             · apply DOne_do
               case' ho => rfl
               case' hw => rfl
               refine AOp_call _ _ _ rfl rfl ok19 ?_
               (try simp only [push_cast, Nat.reduceAdd])
               have hmem : xs[i]'(by omega) ∈ xs := by simp
               have hbx := Term.arg_le (n := n) (v := u) hmem
               refine (ih (xs[i]'(by omega)) hmem (by omega) _).mono ?_
               rintro r H' ⟨rfl, rfl⟩
               all_goals (try simp only [push_cast, Nat.reduceAdd])
               all_goals (constructor <;> first | rfl | trivial)
             apply And.intro
             · apply DOne_do
               case' ho => rfl
               case' hw => rfl
               refine AOp_buildRow _ [_] sl25 sz27 zr27 rfl rfl (by simp [AV.cells, AV.isCell, AV.isAgg, push_cast]) (by decide) rfl ?_
               all_goals (try simp only [push_cast, Nat.reduceAdd])
               all_goals (constructor <;> first | rfl | trivial)
             apply And.intro
             · apply DOne_do
               case' ho => rfl
               case' hw => rfl
               refine AOp_append_G _ (H.length + 3) (encTs (appL σ (xs.take i))) ([encT (applyP σ (xs[i]'(by omega)))]) _ rfl rfl (by first | exact hget0 | exact hgetN _ rfl | assumption | exact hgetL (by assumption) | exact hgetE (by first | assumption | apply hGl) | exact hgetEN (by first | assumption | apply hGl) _ rfl) sl25 sz27 by27 zr27 rfl (by decide) (by exact uni_encTs _) (by simp [Uni, AV.cells]) (by simp [flat, AV.cells, AV.isCell]) (by have hb := hal i; simp only [List.length_cons, List.length_nil]; omega) (by have hb := hal i; simp only [List.length_cons, List.length_nil]; omega) ?_
               all_goals (try simp only [push_cast, Nat.reduceAdd])
               all_goals (constructor <;> first | rfl | trivial)
             apply And.intro
             · apply DOne_do
               case' ho => rfl
               case' hw => rfl
               refine AOp_fieldAddr_ptr _ _ _ _ rfl fd27_2 (by decide) ?_
               all_goals (try simp only [push_cast, Nat.reduceAdd])
               all_goals (constructor <;> first | rfl | trivial)
             apply And.intro
             · apply DOne_do
               case' ho => rfl
               case' hw => rfl
               first | refine AOp_store _ _ _ _ _ rfl (by first | exact hget0 | exact hgetN _ rfl | assumption | exact hgetL (by assumption) | exact hgetE (by first | assumption | apply hGl) | exact hgetEN (by first | assumption | apply hGl) _ rfl) rfl rfl (by first | exact .inl rfl | exact .inr ⟨_, rfl⟩) (by simp [push_cast, AV.isCell]) sz25 (by simp [push_cast]) ?_ | refine AOp_store _ _ _ _ _ rfl (by first | exact hget0 | exact hgetN _ rfl | assumption | exact hgetL (by assumption) | exact hgetE (by first | assumption | apply hGl) | exact hgetEN (by first | assumption | apply hGl) _ rfl) rfl (gSl_cells _ _) (.inl (gSl_isCell _ _)) (by simp [gSl_isCell]) sz25 (by simp [push_cast]) ?_
               all_goals (try simp only [push_cast, Nat.reduceAdd])
               all_goals (constructor <;> first | rfl | trivial)
             apply And.intro
             · apply DOne_do
               case' ho => rfl
               case' hw => rfl
               refine AOp_fieldAddr_ptr _ _ _ _ rfl fd27_2 (by decide) ?_
               all_goals (try simp only [push_cast, Nat.reduceAdd])
               all_goals (constructor <;> first | rfl | trivial)
             apply And.intro
             · apply DOne_do
               case' ho => rfl
               case' hw => rfl
               refine AOp_move ?_
               all_goals (try simp only [push_cast, Nat.reduceAdd])
               all_goals (constructor <;> first | rfl | trivial)
             apply And.intro
             · apply DOne_do
               case' ho => rfl
               case' hw => rfl
               refine AOp_load_ptr _ _ _ _ rfl (by first | exact hget0 | exact hgetN _ rfl | assumption | exact hgetL (by assumption) | exact hgetE (by first | assumption | apply hGl) | exact hgetEN (by first | assumption | apply hGl) _ rfl) sz27 ag27 (by simp [push_cast]) ?_
               all_goals (try simp only [push_cast, Nat.reduceAdd])
               all_goals (constructor <;> first | rfl | trivial)
             exact trivial
            case' hQ => skip
            (try simp only [push_cast, putD, stg, beqB, List.replicate, Nat.reduceAdd, List.getD_cons_zero, List.getD_cons_succ])
            all_goals
             refine blockK_normal ?_
             refine thenK_normal (hK24 _ ?_)
             try clear hK24
             refine AW_region ?_
             all_goals refine AOps_cons rfl (AOp_bin_int _ _ _ _ rfl rfl rfl ?_)
             all_goals (try simp only [push_cast, Nat.reduceAdd])
             all_goals (try rw [IntWalk.i64_in _ (by omega)])
             all_goals (try simp only [push_cast, Nat.reduceAdd])
             all_goals (refine AOps_cons rfl (AOp_move ?_) <;> try simp only [push_cast, Nat.reduceAdd])
             all_goals refine AOps_nil ?_
             all_goals
              refine loopK_normal ?_
              have ee : encTs (appL σ (xs.take i)) ++ [encT (applyP σ (xs[i]'(by omega)))] = encTs (appL σ (xs.take (i + 1))) := by rw [appL_take σ xs i (by omega), encTs_append, encTs_one]
              simp only [ee]
              exact ⟨i + 1, by omega, by (simp only [push_cast, Nat.reduceAdd]; exact weak_app 4 (by (repeat (first | exact SlotsOk.nil | refine SlotsOk.junk ?_ | refine SlotsOk.same (by first | (simp [push_cast]; done) | (simp [push_cast, Scoped, ScopedL, *]; done)) ?_ | refine SlotsOk.tok (by first | rfl | (simp; done)) (by first | (simp [push_cast]; done) | (simp [push_cast, Scoped, ScopedL, *]; done)) ?_ | refine SlotsOk.eq (by first | rfl | (congr 1; omega) | (simp; done) | (simp; omega)) (by first | (simp [push_cast]; done) | (simp [push_cast, Scoped, ScopedL, *]; done)) ?_))) (by simp) (fun o ho => hob _ o ho)), by omega⟩
    case' ht =>
     intro hc16
     try (exfalso; (first | (cases hc16; done) | (simp at hc16; done) | (simp at hc16; omega)); done)
     all_goals (try simp only [decide_eq_true_eq, decide_eq_false_iff_not, Bool.not_eq_true', Bool.not_eq_false', Bool.not_eq_eq_eq_not, Bool.not_true, Bool.not_false] at hc16)
     all_goals
      refine AW_seq_k (fun K26 hK26 => ?_)
      refine AW_region ?_
      all_goals refine AOps_cons rfl (AOp_move ?_)
      all_goals (try simp only [push_cast, Nat.reduceAdd])
      all_goals (refine AOps_cons rfl (AOp_fieldAddr_ptr _ _ _ _ rfl fd27_0 (by decide) ?_) <;> try simp only [push_cast, Nat.reduceAdd])
      all_goals (refine AOps_cons rfl (AOp_load1_ptr _ _ _ _ _ rfl (by first | exact hget0 | exact hgetN _ rfl | assumption | exact hgetL (by assumption) | exact hgetE (by first | assumption | apply hGl) | exact hgetEN (by first | assumption | apply hGl) _ rfl) sz9 ag9 (by decide) (by simp [push_cast]) rfl ?_) <;> try simp only [push_cast, Nat.reduceAdd])
      all_goals refine AOps_cons rfl (AOp_call _ _ _ rfl rfl ok39 ?_)
      all_goals (try simp only [push_cast, Nat.reduceAdd])
      all_goals refine (imageR_ac σ n hlen _).mono ?_
      all_goals rintro r H' ⟨rfl, rfl⟩
      all_goals (try simp only [push_cast, Nat.reduceAdd])
      all_goals (refine AOps_cons rfl (AOp_store _ _ _ _ _ rfl (by first | exact hget0 | exact hgetN _ rfl | assumption | exact hgetL (by assumption) | exact hgetE (by first | assumption | apply hGl) | exact hgetEN (by first | assumption | apply hGl) _ rfl) rfl rfl (by first | exact .inl rfl | exact .inr ⟨_, rfl⟩) (by intro c hc; simp only [push_cast, List.mem_cons, List.not_mem_nil, or_false] at hc; rcases hc with rfl | rfl | rfl <;> first | rfl | exact gSl_isCell _ _) sz27 (by simp [push_cast]) ?_) <;> try simp only [push_cast, Nat.reduceAdd])
      all_goals refine AOps_nil ?_
      all_goals
       refine thenK_normal (hK26 _ ?_)
       try clear hK26
       refine AW_ret ?_
       repeat (first | refine thenK_ret ?_ | refine loopK_ret ?_ | refine blockK_ret ?_)
       have hu : u = true := by assumption
       have ha : applyP σ (.mk n u xs) = imageP σ n := by rw [applyP_mk, hu]; simp
       rw [ha]
       refine ⟨by first | exact .inl rfl | exact .inr rfl, _, ⟨_, _, _, _, rfl, (by first | exact hget0 | exact hgetN _ rfl | assumption | exact hgetL (by assumption) | exact hgetE (by first | assumption | apply hGl) | exact hgetEN (by first | assumption | apply hGl) _ rfl), sz27, by simp, .inl ⟨ag27, rfl⟩⟩, (by first | exact outok_app 0 rfl (Nat.zero_le _) (by simp) | exact outok_self), by simp [push_cast], ?_⟩
       simp only [push_cast, Nat.reduceAdd]
       refine ⟨?_, by simp⟩
       (try simp only [strip, stripL, stripTok, strip_encTs])
       exact Forget.refl _
end Ab
namespace Ab
open Go
variable {P : Program} {ro : Option Nat} {H0 : List AObj} {Q : Exit → ASt → Prop} {st : ASt} {dst : Option Tmp} {ty : TypeId} {pos : String} {after : Array Edge} {guard : Option (Nat × Bool)} {K : AV → List AObj → Prop}
theorem AOp_append_arrAt {t e sz by_ : Nat} {s x : Operand} (n : Nat) (hn : st.heap[n]? = some .dead) (zs : List Value) (ys : List AV) (tk : Tok) (hs : st.opd s = .sl .zero []) (hx : st.opd x = .sl tk ys)
    (ht : SliceT P t e) (hsz : SzOf P e sz) (hby : BytesOf P e by_) (hz : ZeroOf P e zs) (hz0 : zs.length = sz) (hpos : 0 < sz) (huy : Uni sz ys) (hcell : ∀ c, c ∈ flat ys → c.isCell = true) (hne : ys ≠ [])
    (hbound : ys.length * by_ ≤ 140737488355328) (h63 : ys.length ≤ 9223372036854775807)
    (k' : K (.arr n 0 ys.length) (st.heap.set n (.cells (flat ys)))) :
    AOp P ro ⟨dst, .call { callee := .builtin .append, args := #[s, x], argTypes := #[t, t] }, ty, pos, after, guard⟩ K st :=
  AOp_value (fun ρ => semAt_of (fun c => by simp) ro ρ) fun C a hg hH hsr => by
    have h1 := hsr.opd s
    have h2 := hsr.opd x
    rw [hs] at h1
    rw [hx] at h2
    obtain ⟨ad1, c1, e1, hc1, htok, _⟩ := sl_values h1
    obtain ⟨ad2, c2, e2, hc2, _, news, hnl, hnrel, hncell⟩ := sl_values h2
    obtain ⟨_, rfl⟩ := htok
    have hfy := flat_length huy
    have hm : 0 < ys.length := List.length_pos_iff.2 hne
    have hflne : flat ys ≠ [] := fun he => by rw [he] at hfy; have := Nat.mul_pos hm hpos; simp at hfy; omega
    obtain ⟨b2, o2, rfl, hnc2⟩ := hncell hflne
    obtain ⟨i, z, hi, i1, i2, i3, i4⟩ := info_of hsz hby hz
    have hnl' : news.length = ys.length * i.size := by rw [hnl, hfy, i1]
    obtain ⟨cap, hcap⟩ : ∃ cap, cap = grownCap C.w ys.length 0 e := ⟨_, rfl⟩
    have hcge : ys.length ≤ cap := by rw [hcap]; exact grownCap_ge _ _ _ _
    have hcle : cap ≤ maxLen := by rw [hcap]; exact grownCap_le_maxLen _ _ _ _ (by simp only [maxLen]; omega)
    obtain ⟨cur', hcur'⟩ : ∃ cur', cur' = news.toArray ++ Builtin.zeroCells z.cells (cap - ys.length) := ⟨_, rfl⟩
    have hrun : (Builtin.append_ #[t, t] ty #[.slice ad1 0 0, .slice (some ⟨b2, o2, none⟩) ys.length c2]).run P C.w = .ok (.slice (some ⟨C.w.heap.size, 0, none⟩) ys.length cap) (C.w.drew.alloc (.cells cur' e)) := by
      cases ad1 with
      | none =>
        have := run_append_nil (P := P) (ty := ty) C.w t e i z ht hi i3 ⟨b2, o2, none⟩ ys.length c2 news hnl' hnc2 hm (by omega) (by rw [i2]; omega)
        rw [this, hcur', hcap]
      | some a1 =>
        have := run_append_grow (P := P) (ty := ty) C.w t e i z ht hi i3 a1 0 0 [] (by simp) (fun j u hu => by simp at hu) ⟨b2, o2, none⟩ ys.length c2 news hnl' hnc2 (by omega) (by omega) (growslice_fits (by omega) (by rw [i2]; simpa using hbound))
        simp only [Nat.zero_add] at this
        rw [this, hcur', hcap]; simp
    have hzs : z.cells.size = sz := by rw [← hz0, ← i4]; simp
    have hcs' : cur'.size = cap * sz := by
      rw [hcur']; simp only [Array.size_append, List.size_toArray, size_zeroCells, hzs, hnl', i1, ← Nat.add_mul]
      congr 1; omega
    have hfit2 : ys.length * sz ≤ cur'.size := by rw [hcs']; exact Nat.mul_le_mul_right _ hcge
    have hnC : C.H[n]? = some .dead := by rw [hH]; exact hn
    have hnl := (List.getElem?_eq_some_iff.1 hnC).1
    obtain ⟨hg', hx'⟩ := step_atS 0 hg n hnC (.cells (flat ys)) (.cells cur' e) (C.w.drew.alloc (.cells cur' e)) rfl ⟨rfl, rfl, rfl⟩ (by simp [AObj.kind]) rfl (fun hxx => by
      refine ⟨cur', e, ?_, by rw [hfy]; exact hfit2, ?_, fun j hj hj' => ?_⟩
      · simp only [if_true]; exact heap_alloc_new C.w.drew _
      · simp
      · have hgj : cur'[j]? = news[j]? := by
          rw [hcur', Array.getElem?_append_left (by simp; omega)]; simp
        rw [Array.getElem?_eq_getElem hj', List.getElem?_eq_getElem (by omega)] at hgj
        injection hgj with hgj
        rw [hgj]; exact ⟨(hnrel j hj (by omega)).ext hxx, hcell _ (by simp)⟩)
    refine ⟨_, .slice (some ⟨C.w.heap.size, 0, none⟩) ys.length cap, .arr n 0 ys.length, ?_, hg', hx', ?_, by rw [← hH] at k'; exact k'⟩
    · simp only [List.length_nil] at e1
      simp only [execOp, resolve, invoke, builtin, List.map_toArray, List.map_cons, List.map_nil, Sem.run_bind, Sem.run_pure, Result.andThen_ok, e1, e2, hrun]
    · have := VRel.arr (C := ⟨fun b => if b = C.w.heap.size then 0 else C.S b, fun k => if k = n then C.w.heap.size else C.μ k, C.H.set n (AObj.cells (flat ys)), C.w.drew.alloc (.cells cur' e)⟩) n 0 ys.length cap ⟨.cells (flat ys), by simp [hnl], rfl⟩ hcge
      simpa using this
theorem AOp_indexAddr_arr {t : Nat} {x y : Operand} (e sz id off len : Nat) (kd : IntKind) (n : Int) (hx : st.opd x = .arr id off len) (hy : st.opd y = .int kd n) (ht : SliceT P t e) (hs : SzOf P e sz)
    (h0 : 0 ≤ n) (hlt : n.toNat < len) (k : K (.ptr id (off + n.toNat * sz)) st.heap) : AOp P ro ⟨dst, .indexAddr t x y, ty, pos, after, guard⟩ K st :=
  AOp_pure _ (fun c => by simp) (fun C a _ _ hsr => by
    have hv := hsr.opd x
    have hi := hsr.opd y
    rw [hx] at hv
    rw [hy] at hi
    generalize hxx : a.eval x = xx at hv
    cases hv with
    | arr _ _ _ c hk hc =>
      have hle : n < (len : Int) := by omega
      have hrun : (Instr.indexAt t (.slice (some ⟨C.μ id, off, none⟩) len c) (.int kd n)).run P C.w = .ok (.pointer (some ⟨C.μ id, off + n.toNat * sz, none⟩)) C.w := by
        have ht' : P.underlying t = some (.slice e) := ht
        simp [Instr.indexAt, run_underlying ht', asIntOf, h0, hle, hs.run, add_mk]
      exact ⟨_, by simp [execOp, hxx, hi.int_inv, hrun], .ptr _ _ hk⟩) k
inductive FrzOk (m : Nat) (vs : List AV) : List AV → List AV → Prop
  | nil : FrzOk m vs [] []
  | junk {v : AV} {l l' : List AV} (h : FrzOk m vs l l') : FrzOk m vs (v :: l) (.junk :: l')
  | same {v : AV} {l l' : List AV} (hv : Scoped m v) (h : FrzOk m vs l l') : FrzOk m vs (v :: l) (v :: l')
  | froz {o : Nat} {l l' : List AV} (h : FrzOk m vs l l') : FrzOk m vs (.ptr m o :: l) (.cptr (vs.drop o) :: l')
  | row {n : Nat} {l l' xs : List AV} (hxs : flat xs = vs) (hn : n = xs.length) (h : FrzOk m vs l l') : FrzOk m vs (.arr m 0 n :: l) (.sl .none xs :: l')
theorem FrzOk.length {m : Nat} {vs l l' : List AV} (h : FrzOk m vs l l') : l.length = l'.length := by
  induction h <;> simp_all
theorem FrzOk.rel {m : Nat} {vs l l' : List AV} (h : FrzOk m vs l l') {C C' : Ctx} (hscp : ∀ v x, Scoped m v → VRel C v x → VRel C' v x) (hfz : ∀ o x, VRel C (.ptr m o) x → VRel C' (.cptr (vs.drop o)) x)
    (hrw : ∀ n xs x, flat xs = vs → n = xs.length → VRel C (.arr m 0 n) x → VRel C' (.sl .none xs) x) :
    ∀ i (h1 : i < l.length) (h2 : i < l'.length) (x : Value), VRel C l[i] x → VRel C' l'[i] x := by
  induction h with
  | nil => intro i h1; simp at h1
  | junk h ih =>
    intro i h1 h2 x hx
    cases i with
    | zero => exact .junk x
    | succ i => exact ih i (by simpa using h1) (by simpa using h2) x (by simpa using hx)
  | same hv h ih =>
    intro i h1 h2 x hx
    cases i with
    | zero => exact hscp _ _ hv (by simpa using hx)
    | succ i => exact ih i (by simpa using h1) (by simpa using h2) x (by simpa using hx)
  | froz h ih =>
    intro i h1 h2 x hx
    cases i with
    | zero => exact hfz _ _ (by simpa using hx)
    | succ i => exact ih i (by simpa using h1) (by simpa using h2) x (by simpa using hx)
  | row hxs hn h ih =>
    intro i h1 h2 x hx
    cases i with
    | zero => exact hrw _ _ _ hxs hn (by simpa using hx)
    | succ i => exact ih i (by simpa using h1) (by simpa using h2) x (by simpa using hx)
theorem AW_freezeA {c : Code} (L : List AObj) (vs slots' : List AV) (hh : st.heap = L ++ [.cells vs]) (hm : OutOk H0 st.heap L.length) (hvs : ScopedL L.length vs) (hsl : FrzOk L.length vs st.slots slots')
    (h : AW P ro H0 c Q ⟨slots', L⟩) : AW P ro H0 c Q st := by
  intro C0 C a h0 hg0 hx hg hH hs
  have hlast : C.H[L.length]? = some (.cells vs) := by rw [hH, hh]; simp
  obtain ⟨c', e, g1, g2, g3, g4⟩ := hg.obj _ _ hlast
  have hgt : Good (C.take L.length) := Good.take hg0 hg (by rw [h0, hH]; exact hm)
  have hxt : Ext C0 (C.take L.length) := hx.take (by rw [h0]; exact hm.2.1)
  have hlt := hg.lt _ _ hlast (by simp [AObj.kind])
  have hHt : (C.take L.length).H = L := by show C.H.take L.length = L; rw [hH, hh]; simp
  have hno : ∀ (k : Nat) (o : AObj), (C.take L.length).H[k]? = some o → o.kind ≠ 6 → C.μ k ≠ C.μ L.length := fun k o hk ho heq => by
    rw [hHt] at hk
    have hkl := (List.getElem?_eq_some_iff.1 hk).1
    have hkC : C.H[k]? = some o := by rw [hH, hh, List.getElem?_append_left hkl]; exact hk
    have := hg.inj k L.length o _ hkC hlast ho (by simp [AObj.kind]) heq
    omega
  obtain ⟨hg2, he2⟩ := step_claim hgt (C.μ L.length) vs.length hlt (by show C.S (C.μ L.length) ≤ _; rw [g3]; exact Nat.zero_le _) hno rfl
  have hscp : ∀ v x, Scoped L.length v → VRel C v x → VRel { C.take L.length with S := fun x => if x = C.μ L.length then vs.length else (C.take L.length).S x } v x := fun v x hv hr => (hr.take hv).ext he2
  have hcl : ∀ j (hj : j < vs.length), C.w.cell? ⟨C.μ L.length, j, none⟩ = some (c'.getD j undef) ∧ VRel { C.take L.length with S := fun x => if x = C.μ L.length then vs.length else (C.take L.length).S x } vs[j] (c'.getD j undef) := fun j hj => by
    have hj2 : j < c'.size := by omega
    refine ⟨by simp [World.cell?, g1, hj2], ?_⟩
    have := (g4 j hj hj2).1
    simp only [Array.getD, hj2, dif_pos]
    exact hscp _ _ (ScopedL_iff.1 hvs _ (by simp)) this
  have hs' : SD C0 { C.take L.length with S := fun x => if x = C.μ L.length then vs.length else (C.take L.length).S x } ⟨slots', L⟩ a := by
    refine ⟨⟨by rw [hs.size, hsl.length], fun i h1 h2 => ?_⟩, (hs.defok.take).ext he2⟩
    refine hsl.rel hscp ?_ ?_ i (by rw [hsl.length]; exact h1) h1 _ (hs.slot i (by rw [hsl.length]; exact h1) h2)
    · intro o x hx'
      cases hx' with
      | ptr _ _ hk =>
        refine .cptr _ _ _ (fun j => c'.getD (o + j) undef) (fun j hj => ?_) (fun j hj => ?_)
        · have hj' : o + j < vs.length := by simp at hj; omega
          exact ⟨by show _ < if _ then _ else _; rw [if_pos rfl]; exact hj', (hcl _ hj').1⟩
        · have hj' : o + j < vs.length := by simp at hj; omega
          simp only [List.getElem_drop]; exact (hcl _ hj').2
    · intro n xs x hxs hn hx'
      cases hx' with
      | arr _ _ _ cc hk hcc =>
        subst hxs
        refine .sl .none xs _ n cc (fun j => c'.getD j undef) hn hcc (fun _ => ⟨_, _, rfl, fun j hj => ⟨by show _ < if _ then _ else _; rw [if_pos rfl]; omega, ?_⟩⟩) (fun j hj => (hcl j hj).2) trivial
        have := (hcl j hj).1
        show C.w.cell? _ = _
        simpa using this
  exact h C0 { C.take L.length with S := fun x => if x = C.μ L.length then vs.length else (C.take L.length).S x } a h0 hg0 (hxt.trans he2) hg2 hHt hs'
theorem AW_seq_cut {x y : Code} {α : Type} (mask : List Bool) (upd : α → List (Nat × AV)) (hp : α → List AObj) (inv : α → Prop) (hS : ∀ a, inv a → AW P ro H0 y Q (mkS mask (upd a) (hp a) st))
    (hx : ∀ Kc : ASt → Prop, (∀ st' a, inv a → Weakens H0 st' (mkS mask (upd a) (hp a) st) → Kc st') → AW P ro H0 x (thenK Kc Q) st) : AW P ro H0 (.seq x y) Q st :=
  AW_seq_k (fun Kc hK => hx Kc (fun st' a ha hw => hK st' (AW_weaken hw (hS a ha))))
end Ab
set_option maxRecDepth 10000
namespace Ab
open Go Go.Proofs
attribute [local push_cast] encT scoped_encP
theorem at_bulk : ∀ (p : List Int) (t x : Term), atP t p = some x → x.bulk ≤ t.bulk
  | [], t, x, h => by simp [atP] at h; subst h; exact Nat.le_refl _
  | i :: p, .mk n u xs, x, h => by
    simp only [atP] at h
    split at h
    · rename_i hi
      have h1 := at_bulk p _ x h
      have h2 := Term.arg_le (n := n) (v := u) (List.getElem_mem hi.2)
      omega
    · cases h
theorem at_app : ∀ (p q : List Int) (t : Term), atP t (p ++ q) = (atP t p).bind fun x => atP x q
  | [], q, t => by simp [atP]
  | i :: p, q, .mk n u xs => by
    simp only [List.cons_append, atP]
    split
    · exact at_app p q _
    · rfl
theorem flat_encTs_cons (x : Term) (xs : List Term) : flat (encTs (x :: xs)) = [.str x.name, .bool x.var, .sl .none (encTs x.args)] ++ flat (encTs xs) := by rw [encTs_cons]; simp [flat, AV.cells]
theorem flat_encTs_len : ∀ xs : List Term, (flat (encTs xs)).length = xs.length * 3
  | [] => by simp [encTs, flat]
  | x :: xs => by rw [flat_encTs_cons, List.length_append, flat_encTs_len xs]; simp; omega
theorem scoped_flatT (n : Nat) : ∀ xs : List Term, ScopedL n (flat (encTs xs))
  | [] => by simp [encTs, flat, ScopedL]
  | x :: xs => by rw [flat_encTs_cons]; simp [ScopedL, Scoped, scoped_encTs, scoped_flatT n xs]
theorem flat_encTs_get : ∀ (xs : List Term) (i : Nat) (h : i < xs.length), ((flat (encTs xs)).drop (i * 3)).take 3 = [.str xs[i].name, .bool xs[i].var, .sl .none (encTs xs[i].args)]
  | x :: xs, 0, h => by rw [flat_encTs_cons]; simp
  | x :: xs, i + 1, h => by
    have := flat_encTs_get xs i (by simpa using h)
    rw [flat_encTs_cons, List.drop_append, show (i + 1) * 3 = i * 3 + 3 by omega]
    simpa using this
theorem flat_encTs_set : ∀ (xs : List Term) (i : Nat) (h : i < xs.length) (y : Term), splice (flat (encTs xs)) (i * 3) [.str y.name, .bool y.var, .sl .none (encTs y.args)] = flat (encTs (xs.set i y))
  | x :: xs, 0, h, y => by rw [flat_encTs_cons, List.set_cons_zero, flat_encTs_cons]; simp [splice]
  | x :: xs, i + 1, h, y => by
    have := flat_encTs_set xs i (by simpa using h) y
    rw [List.set_cons_succ, flat_encTs_cons, flat_encTs_cons, ← this]
    unfold splice
    rw [show (i + 1) * 3 = i * 3 + 3 by omega, List.take_append, List.drop_append]
    simp
theorem flat_encTs_set2 (xs : List Term) (i : Nat) (h : i < xs.length) (y : Term) : List.take (i * 3) (flat (encTs xs)) ++ AV.str y.name :: AV.bool y.var :: AV.sl .none (encTs y.args) :: List.drop (i * 3 + 3) (flat (encTs xs)) = flat (encTs (xs.set i y)) := by
  have := flat_encTs_set xs i h y
  simpa [splice] using this
theorem at_step (x : Term) (k : Int) (q : List Int) : (∀ h : 0 ≤ k ∧ k.toNat < x.args.length, atP x (k :: q) = atP (x.args[k.toNat]'h.2) q) ∧ (¬ (0 ≤ k ∧ k.toNat < x.args.length) → atP x (k :: q) = none) := by
  cases x with
  | mk n u xs => exact ⟨fun h => by simp only [atP, Term.args_mk]; exact dif_pos h, fun h => by simp only [atP]; exact dif_neg h⟩
theorem Forget.tup {cs cs' : List AV} (h : ForgetL cs cs') : Forget (.tup cs) (.tup cs') := fun C x hx => by
  obtain ⟨h1, h2⟩ := h.spec
  cases hx with
  | tup _ vs hsz hrel => exact .tup _ vs (by omega) (fun i hi => h2 i (by omega) hi C _ (hrel i (by omega)))
set_option maxHeartbeats 1600000 in
theorem atR_ac (t : Term) (p : List Int) (hb : t.bulk ≤ 1099511627775) (hlen : p.length < 1099511627776) (H : List AObj) :
    ACall Try.prog 16 [encT t, .sl .none (encP p)] H (fun r H' => (∃ x, r = .tup [encT x, .bool (atP t p).isSome] ∧ (∀ y, atP t p = some y → x = y) ∧ x.bulk ≤ 1099511627775) ∧ H' = H) := by
  refine ACall.weakR (R := fun r H' => (∃ x, Forget r (.tup [encT x, .bool (atP t p).isSome]) ∧ (∀ y, atP t p = some y → x = y) ∧ x.bulk ≤ 1099511627775) ∧ H' = H) ?_ (fun r H' h => by obtain ⟨⟨x, h1, h2⟩, h3⟩ := h; exact ⟨_, h1, ⟨x, rfl, h2⟩, h3⟩)
  have hsl : ∀ n, ScopedL n (encP p) := fun n => scoped_encP n p
  refine ACall_intro (H.length) Try.func16 rfl ?_
  simp only [Try.ntmps16, List.length_cons, List.length_nil, List.replicate, List.cons_append, List.nil_append, Nat.reduceAdd, Nat.reduceSub, Nat.zero_add]
  refine AW_seq_k (fun K1 hK1 => ?_)
  refine AW_region ?_
  all_goals (refine AOps_cons rfl (AOp_box _ _ rfl rfl (by first | exact .inl rfl | exact .inr ⟨_, rfl⟩) (by simp [push_cast, AV.isCell]) ?_) <;> try simp only [push_cast, Nat.reduceAdd])
  all_goals (refine AOps_cons rfl (AOp_alloc _ zr27 (by simp [ofVal, AV.isCell, Value.oneCell']) ?_) <;> try simp only [push_cast, Nat.reduceAdd])
  all_goals (refine AOps_cons rfl (AOp_assign ?_) <;> try simp only [push_cast, Nat.reduceAdd])
  all_goals refine AOps_nil ?_
  all_goals
   refine thenK_normal (hK1 _ ?_)
   try clear hK1
   refine AW_seq_k (fun K2 hK2 => ?_)
   refine AW_seq_k (fun K3 hK3 => ?_)
   refine AW_region ?_
   all_goals refine AOps_cons rfl (AOp_move ?_)
   all_goals (try simp only [push_cast, Nat.reduceAdd])
   all_goals (refine AOps_cons rfl (AOp_len_sl _ _ _ rfl sl44 ?_) <;> try simp only [push_cast, Nat.reduceAdd])
   all_goals (refine AOps_cons rfl (AOp_move ?_) <;> try simp only [push_cast, Nat.reduceAdd])
   all_goals refine AOps_nil ?_
   all_goals
    refine thenK_normal (hK3 _ ?_)
    try clear hK3
    refine AW_block ?_
    refine AW_loopR (maskG 31 [2, 1, 3, 0, 0]) (fun (q : Nat × Term) => [(10, .int .i64 q.1)]) (fun q => H ++ [.cells [.str q.2.name, .bool q.2.var, .sl .none (encTs q.2.args)], .cells [.str [], .bool false, .sl .zero []]]) (fun q => q.1 ≤ p.length ∧ atP t (p.take q.1) = some q.2) (fun q => p.length - q.1) (0, t) ⟨Nat.zero_le _, by simp [atP]⟩ (by (simp only [push_cast, Nat.reduceAdd]; refine weak_app 2 ?_ (by simp) (by simp [push_cast]); (repeat (first | exact SlotsOk.nil | refine SlotsOk.junk ?_ | refine SlotsOk.same (by first | (simp [push_cast]; done) | (simp [push_cast, Scoped, ScopedL, *]; done)) ?_ | refine SlotsOk.tok (by first | rfl | (simp; done)) (by first | (simp [push_cast]; done) | (simp [push_cast, Scoped, ScopedL, *]; done)) ?_ | refine SlotsOk.eq (by first | rfl | (congr 1; omega) | (simp; done) | (simp; omega)) (by first | (simp [push_cast]; done) | (simp [push_cast, Scoped, ScopedL, *]; done)) ?_)))) (fun q hi => ?_)
    obtain ⟨i, x⟩ := q
    obtain ⟨hi1, hi2⟩ := hi
    simp only at hi1 hi2
    have hxb := at_bulk _ _ _ hi2
    have hxl : x.args.length < 1099511627776 := by cases x with | mk n v xs => have := Term.len_le (n := n) (v := v) (xs := xs); simp only [Term.args_mk]; omega
    (try simp only [push_cast, Nat.reduceAdd])
    refine AW_seq_k (fun K4 hK4 => ?_)
    refine AW_region ?_
    all_goals (refine AOps_cons rfl (AOp_bin_int _ _ _ _ rfl rfl rfl ?_) <;> try simp only [push_cast, Nat.reduceAdd])
    all_goals refine AOps_nil ?_
    all_goals
     refine thenK_normal (hK4 _ ?_)
     try clear hK4
     refine AW_seq_k (fun K5 hK5 => ?_)
     apply AW_cond
     case' hc => exact rfl
     case' hf =>
      intro hc6
      try (exfalso; (first | (cases hc6; done) | (simp at hc6; done) | (simp at hc6; omega)); done)
      all_goals (try simp only [decide_eq_true_eq, decide_eq_false_iff_not, Bool.not_eq_true', Bool.not_eq_false', Bool.not_eq_eq_eq_not, Bool.not_true, Bool.not_false] at hc6)
      all_goals
       refine AW_exit ?_
       repeat (first | refine thenK_exit ?_ | refine loopK_exit ?_ | refine blockK_other (by decide) ?_)
       refine blockK_same ?_
       refine thenK_normal (hK2 _ ?_)
       try clear hK2
       refine AW_seq_k (fun K7 hK7 => ?_)
       refine AW_region ?_
       all_goals (refine AOps_cons rfl (AOp_load_ptr _ _ _ _ rfl (by first | exact hget0 | exact hgetN _ rfl | assumption | exact hgetL (by assumption) | exact hgetE (by first | assumption | apply hGl) | exact hgetEN (by first | assumption | apply hGl) _ rfl) sz27 ag27 (by simp [push_cast]) ?_) <;> try simp only [push_cast, Nat.reduceAdd])
       all_goals (refine AOps_cons rfl (AOp_store _ _ _ _ _ rfl (by first | exact hget0 | exact hgetN _ rfl | assumption | exact hgetL (by assumption) | exact hgetE (by first | assumption | apply hGl) | exact hgetEN (by first | assumption | apply hGl) _ rfl) rfl rfl (by first | exact .inl rfl | exact .inr ⟨_, rfl⟩) (by simp [push_cast, AV.isCell]) sz27 (by simp [push_cast]) ?_) <;> try simp only [push_cast, Nat.reduceAdd])
       all_goals (refine AOps_cons rfl (AOp_assign ?_) <;> try simp only [push_cast, Nat.reduceAdd])
       all_goals refine AOps_nil ?_
       all_goals
        refine thenK_normal (hK7 _ ?_)
        try clear hK7
        refine AW_ret ?_
        repeat (first | refine thenK_ret ?_ | refine loopK_ret ?_ | refine blockK_ret ?_)
        have e : p.take i = p := List.take_of_length_le (by omega)
        rw [e] at hi2
        refine ⟨by first | exact .inl rfl | exact .inr rfl, _, ⟨[_, _], rfl, ⟨_, _, _, _, rfl, (by first | exact hget0 | exact hgetN _ rfl | assumption | exact hgetL (by assumption) | exact hgetE (by first | assumption | apply hGl) | exact hgetEN (by first | assumption | apply hGl) _ rfl), sz27, by simp, .inl ⟨ag27, rfl⟩⟩, rfl, trivial⟩, (by first | exact outok_app 0 rfl (Nat.zero_le _) (by simp) | exact outok_self), by simp [push_cast], ?_⟩
        simp only [push_cast, Nat.reduceAdd]
        refine ⟨⟨x, ?_, (fun y hy => by rw [hi2] at hy; injection hy), by omega⟩, by simp⟩
        rw [hi2]
        (try simp only [strip, stripL, stripTok, strip_encTs])
        exact Forget.refl _
     case' ht =>
      intro hc6
      try (exfalso; (first | (cases hc6; done) | (simp at hc6; done) | (simp at hc6; omega)); done)
      all_goals (try simp only [decide_eq_true_eq, decide_eq_false_iff_not, Bool.not_eq_true', Bool.not_eq_false', Bool.not_eq_eq_eq_not, Bool.not_true, Bool.not_false] at hc6)
      all_goals
       refine AW_skip ?_
       refine thenK_normal (hK5 _ ?_)
       try clear hK5
       refine AW_seq_k (fun K8 hK8 => ?_)
       refine AW_block ?_
       refine AW_seq_k (fun K9 hK9 => ?_)
       refine AW_region ?_
       all_goals (refine AOps_cons rfl (AOp_indexAddr_sl 3 _ _ _ _ _ rfl rfl sl44 sz3 (by decide) (by first | exact uni_encP _ | exact uni_encTs _) (by first | omega | (simp; omega)) (by first | omega | (simp [push_cast]; omega) | (simp [push_cast]; done)) ?_) <;> try simp only [push_cast, Nat.reduceAdd])
       all_goals (refine AOps_cons rfl (AOp_load1_cptr _ _ _ rfl sz3 ag3 rfl ?_) <;> try simp only [push_cast, Nat.reduceAdd])
       all_goals (refine AOps_cons rfl (AOp_assign ?_) <;> try simp only [push_cast, Nat.reduceAdd])
       all_goals refine AOps_nil ?_
       all_goals
        refine thenK_normal (hK9 _ ?_)
        try clear hK9
        refine AW_seq_k (fun K10 hK10 => ?_)
        refine AW_seq_k (fun K11 hK11 => ?_)
        refine AW_region ?_
        all_goals refine AOps_cons rfl (AOp_move ?_)
        all_goals (try simp only [push_cast, Nat.reduceAdd])
        all_goals (refine AOps_cons rfl (AOp_bin_int _ _ _ _ rfl rfl rfl ?_) <;> try simp only [push_cast, Nat.reduceAdd])
        all_goals refine AOps_cons rfl (AOp_move ?_)
        all_goals (try simp only [push_cast, Nat.reduceAdd])
        all_goals (try refine AOps_split 16 _ rfl (fun hg12 => ?_) (fun hg12 => ?_))
        all_goals (try (exfalso; (first | (cases hg12; done) | (simp at hg12; done) | (simp at hg12; omega)); done))
        all_goals (try simp only [decide_eq_true_eq, decide_eq_false_iff_not, Bool.not_eq_true', Bool.not_eq_false', Bool.not_eq_eq_eq_not, Bool.not_true, Bool.not_false] at hg12)
        all_goals first
         | refine AOps_skip rfl ?_
         | (refine AOps_cons rfl ?_
            refine AOp_move ?_)
        all_goals (try simp only [push_cast, Nat.reduceAdd])
        all_goals first
         | refine AOps_skip rfl ?_
         | (refine AOps_cons rfl ?_
            refine AOp_fieldAddr_ptr _ _ _ _ rfl fd27_2 (by decide) ?_)
        all_goals (try simp only [push_cast, Nat.reduceAdd])
        all_goals first
         | refine AOps_skip rfl ?_
         | (refine AOps_cons rfl ?_
            refine AOp_load1_ptr _ _ _ _ _ rfl (by first | exact hget0 | exact hgetN _ rfl | assumption | exact hgetL (by assumption) | exact hgetE (by first | assumption | apply hGl) | exact hgetEN (by first | assumption | apply hGl) _ rfl) sz25 ag25 (by decide) (by simp [push_cast]) rfl ?_)
        all_goals (try simp only [push_cast, Nat.reduceAdd])
        all_goals first
         | refine AOps_skip rfl ?_
         | (refine AOps_cons rfl ?_
            refine AOp_len_sl _ _ _ rfl sl25 ?_)
        all_goals (try simp only [push_cast, Nat.reduceAdd])
        all_goals first
         | refine AOps_skip rfl ?_
         | (refine AOps_cons rfl ?_
            refine AOp_bin_int _ _ _ _ rfl rfl rfl ?_)
        all_goals (try simp only [push_cast, Nat.reduceAdd])
        all_goals (refine AOps_cons rfl (AOp_pick _ rfl ?_) <;> try simp only [push_cast, Nat.reduceAdd])
        all_goals refine AOps_nil ?_
        all_goals
         refine thenK_normal (hK11 _ ?_)
         try clear hK11
         apply AW_cond
         case' hc => exact rfl
         case' hf =>
          intro hc13
          try (exfalso; (first | (cases hc13; done) | (simp at hc13; done) | (simp at hc13; omega)); done)
          all_goals (try simp only [decide_eq_true_eq, decide_eq_false_iff_not, Bool.not_eq_true', Bool.not_eq_false', Bool.not_eq_eq_eq_not, Bool.not_true, Bool.not_false] at hc13)
          all_goals
           refine AW_skip ?_
           refine thenK_normal (hK10 _ ?_)
           try clear hK10
           refine AW_region ?_
           all_goals (refine AOps_cons rfl (AOp_fieldAddr_ptr _ _ _ _ rfl fd27_2 (by decide) ?_) <;> try simp only [push_cast, Nat.reduceAdd])
           all_goals (refine AOps_cons rfl (AOp_load1_ptr _ _ _ _ _ rfl (by first | exact hget0 | exact hgetN _ rfl | assumption | exact hgetL (by assumption) | exact hgetE (by first | assumption | apply hGl) | exact hgetEN (by first | assumption | apply hGl) _ rfl) sz25 ag25 (by decide) (by simp [push_cast]) rfl ?_) <;> try simp only [push_cast, Nat.reduceAdd])
           all_goals refine AOps_cons rfl (AOp_move ?_)
           all_goals (try simp only [push_cast, Nat.reduceAdd])
           all_goals (refine AOps_cons rfl (AOp_indexAddr_sl 27 _ _ _ _ _ rfl rfl sl25 sz27 (by decide) (by first | exact uni_encP _ | exact uni_encTs _) (by first | omega | (simp; omega)) (by first | omega | (simp [push_cast]; omega) | (simp [push_cast]; done)) ?_) <;> try simp only [push_cast, Nat.reduceAdd])
           all_goals (refine AOps_cons rfl (AOp_load_cptr _ _ rfl sz27 ag27 (by simp [push_cast]) ?_) <;> try simp only [push_cast, Nat.reduceAdd])
           all_goals (refine AOps_cons rfl (AOp_store _ _ _ _ _ rfl (by first | exact hget0 | exact hgetN _ rfl | assumption | exact hgetL (by assumption) | exact hgetE (by first | assumption | apply hGl) | exact hgetEN (by first | assumption | apply hGl) _ rfl) rfl rfl (by first | exact .inl rfl | exact .inr ⟨_, rfl⟩) (by simp [push_cast, AV.isCell]) sz27 (by simp [push_cast]) ?_) <;> try simp only [push_cast, Nat.reduceAdd])
           all_goals refine AOps_nil ?_
           all_goals
            refine blockK_normal ?_
            refine thenK_normal (hK8 _ ?_)
            try clear hK8
            refine AW_region ?_
            all_goals refine AOps_cons rfl (AOp_bin_int _ _ _ _ rfl rfl rfl ?_)
            all_goals (try simp only [push_cast, Nat.reduceAdd])
            all_goals (try rw [IntWalk.i64_in _ (by omega)])
            all_goals (try simp only [push_cast, Nat.reduceAdd])
            all_goals (refine AOps_cons rfl (AOp_move ?_) <;> try simp only [push_cast, Nat.reduceAdd])
            all_goals refine AOps_nil ?_
            all_goals
             refine loopK_normal ?_
             have hk : 0 ≤ p[i]'(by omega) ∧ (p[i]'(by omega)).toNat < x.args.length := by omega
             have hat : atP t (p.take (i + 1)) = some (x.args[(p[i]'(by omega)).toNat]'hk.2) := by
               rw [List.take_succ_eq_append_getElem (by omega), at_app, hi2, Option.bind_some, (at_step x _ []).1 hk]; simp [atP]
             exact ⟨(i + 1, x.args[(p[i]'(by omega)).toNat]'hk.2), ⟨by simp only; omega, hat⟩, by (simp only [push_cast, Nat.reduceAdd]; refine weak_app 2 ?_ (by simp) (by simp [push_cast]); (repeat (first | exact SlotsOk.nil | refine SlotsOk.junk ?_ | refine SlotsOk.same (by first | (simp [push_cast]; done) | (simp [push_cast, Scoped, ScopedL, *]; done)) ?_ | refine SlotsOk.tok (by first | rfl | (simp; done)) (by first | (simp [push_cast]; done) | (simp [push_cast, Scoped, ScopedL, *]; done)) ?_ | refine SlotsOk.eq (by first | rfl | (congr 1; omega) | (simp; done) | (simp; omega)) (by first | (simp [push_cast]; done) | (simp [push_cast, Scoped, ScopedL, *]; done)) ?_))), by simp only; omega⟩
         case' ht =>
          intro hc13
          try (exfalso; (first | (cases hc13; done) | (simp at hc13; done) | (simp at hc13; omega)); done)
          all_goals (try simp only [decide_eq_true_eq, decide_eq_false_iff_not, Bool.not_eq_true', Bool.not_eq_false', Bool.not_eq_eq_eq_not, Bool.not_true, Bool.not_false] at hc13)
          all_goals
           refine AW_seq_k (fun K14 hK14 => ?_)
           refine AW_region ?_
           all_goals (refine AOps_cons rfl (AOp_build _ _ _ zr27 st27 _ rfl (by first | rfl | (simp [afill, splice, push_cast]; done)) ?_) <;> try simp only [push_cast, Nat.reduceAdd])
           all_goals (refine AOps_cons rfl (AOp_store _ _ _ _ _ rfl (by first | exact hget0 | exact hgetN _ rfl | assumption | exact hgetL (by assumption) | exact hgetE (by first | assumption | apply hGl) | exact hgetEN (by first | assumption | apply hGl) _ rfl) rfl rfl (by first | exact .inl rfl | exact .inr ⟨_, rfl⟩) (by simp [push_cast, AV.isCell]) sz27 (by simp [push_cast]) ?_) <;> try simp only [push_cast, Nat.reduceAdd])
           all_goals (refine AOps_cons rfl (AOp_assign ?_) <;> try simp only [push_cast, Nat.reduceAdd])
           all_goals refine AOps_nil ?_
           all_goals
            refine thenK_normal (hK14 _ ?_)
            try clear hK14
            refine AW_ret ?_
            repeat (first | refine thenK_ret ?_ | refine loopK_ret ?_ | refine blockK_ret ?_)
            have hat : atP t p = none := by
              have hsp : p = p.take i ++ (p[i]'(by omega)) :: p.drop (i + 1) := by rw [← List.drop_eq_getElem_cons, List.take_append_drop]
              rw [hsp, at_app, hi2, Option.bind_some]
              exact (at_step x _ _).2 (by omega)
            refine ⟨by first | exact .inl rfl | exact .inr rfl, _, ⟨[_, _], rfl, ⟨_, _, _, _, rfl, (by first | exact hget0 | exact hgetN _ rfl | assumption | exact hgetL (by assumption) | exact hgetE (by first | assumption | apply hGl) | exact hgetEN (by first | assumption | apply hGl) _ rfl), sz27, by simp, .inl ⟨ag27, rfl⟩⟩, rfl, trivial⟩, (by first | exact outok_app 0 rfl (Nat.zero_le _) (by simp) | exact outok_self), by simp [push_cast], ?_⟩
            simp only [push_cast, Nat.reduceAdd]
            refine ⟨⟨.mk [] false [], ?_, (fun y hy => by rw [hat] at hy; cases hy), by simp [Term.bulk_mk]⟩, by simp⟩
            rw [hat]
            (try simp only [strip, stripL, stripTok, strip_encTs])
            simp only [Term.name_mk, Term.var_mk, Term.args_mk, encTs]
            exact Forget.tup ⟨Forget.agg3 (Forget.tok _ _), Forget.refl _, trivial⟩
theorem put_step (n : List UInt8) (u : Bool) (xs : List Term) (i : Int) (p : List Int) (x : Term) (h : i.toNat < xs.length) : putP (.mk n u xs) (i :: p) x = .mk n false (xs.set i.toNat (putP xs[i.toNat] p x)) := by
  simp only [putP]
  rw [show xs.getD i.toNat (.mk [] false []) = xs[i.toNat] from by simp [h]]
set_option maxHeartbeats 1600000 in
theorem putR_ac (x : Term) (hx : x.bulk ≤ 1099511627775) : ∀ (p : List Int) (t y : Term), t.bulk ≤ 1099511627775 → p.length < 1099511627776 → atP t p = some y → ∀ H,
    ACall Try.prog 21 [encT t, .sl .none (encP p), encT x] H (fun r H' => r = encT (putP t p x) ∧ H' = H) := by
  intro p
  obtain ⟨len, hlp⟩ : ∃ len, len = p.length := ⟨_, rfl⟩
  induction len using Nat.strongRecOn generalizing p with
  | ind len ih =>
    rintro ⟨n, u, xs⟩ y hb hlen hat H
    have hl2 := Term.len_le (n := n) (v := u) (xs := xs)
    have hsl : ∀ n, ScopedL n (encP p) := fun n => scoped_encP n p
    have eS : encT (.mk n u xs) = .agg [.str n, .bool u, .sl .none (encTs xs)] := rfl
    rw [eS]
    refine ACall_intro (H.length) Try.func21 rfl ?_
    simp only [Try.ntmps21, List.length_cons, List.length_nil, List.replicate, List.cons_append, List.nil_append, Nat.reduceAdd, Nat.reduceSub, Nat.zero_add]
    refine AW_seq_k (fun K15 hK15 => ?_)
    refine AW_region ?_
    all_goals (refine AOps_cons rfl (AOp_box _ _ rfl rfl (by first | exact .inl rfl | exact .inr ⟨_, rfl⟩) (by simp [push_cast, AV.isCell]) ?_) <;> try simp only [push_cast, Nat.reduceAdd])
    all_goals (refine AOps_cons rfl (AOp_box _ _ rfl rfl (by first | exact .inl rfl | exact .inr ⟨_, rfl⟩) (by simp [push_cast, AV.isCell]) ?_) <;> try simp only [push_cast, Nat.reduceAdd])
    all_goals (refine AOps_cons rfl (AOp_alloc _ zr27 (by simp [ofVal, AV.isCell, Value.oneCell']) ?_) <;> try simp only [push_cast, Nat.reduceAdd])
    all_goals refine AOps_nil ?_
    all_goals
     refine thenK_normal (hK15 _ ?_)
     try clear hK15
     refine AW_seq_k (fun K16 hK16 => ?_)
     refine AW_seq_k (fun K17 hK17 => ?_)
     refine AW_region ?_
     all_goals refine AOps_cons rfl (AOp_move ?_)
     all_goals (try simp only [push_cast, Nat.reduceAdd])
     all_goals (refine AOps_cons rfl (AOp_len_sl _ _ _ rfl sl44 ?_) <;> try simp only [push_cast, Nat.reduceAdd])
     all_goals (refine AOps_cons rfl (AOp_bin_int _ _ _ _ rfl rfl rfl ?_) <;> try simp only [push_cast, Nat.reduceAdd])
     all_goals refine AOps_nil ?_
     all_goals
      refine thenK_normal (hK17 _ ?_)
      try clear hK17
      apply AW_cond
      case' hc => exact rfl
      case' hf =>
       intro hc18
       try (exfalso; (first | (cases hc18; done) | (simp at hc18; done) | (simp at hc18; omega)); done)
       all_goals (try simp only [decide_eq_true_eq, decide_eq_false_iff_not, Bool.not_eq_true', Bool.not_eq_false', Bool.not_eq_eq_eq_not, Bool.not_true, Bool.not_false] at hc18)
       all_goals
        refine AW_skip ?_
        refine thenK_normal (hK16 _ ?_)
        try clear hK16
        refine AW_seq_k (fun K19 hK19 => ?_)
        obtain ⟨k, q, hpq⟩ : ∃ k q, p = k :: q := by cases p with | nil => (simp at *) | cons k q => exact ⟨k, q, rfl⟩
        subst hpq
        have hk := (at_step (.mk n u xs) k q)
        have hk0 : 0 ≤ k ∧ k.toNat < xs.length := by
          by_cases h : 0 ≤ k ∧ k.toNat < xs.length
          · exact h
          · have := hk.2 h; rw [this] at hat; cases hat
        have hat2 : atP (xs[k.toNat]'hk0.2) q = some y := by rw [← hat]; exact (hk.1 hk0).symm
        have hne : encTs xs ≠ [] := fun e => by have := congrArg List.length e; rw [encTs_length] at this; simp at this; rw [this] at hk0; simp at hk0
        refine AW_reserve 1 ?_
        simp only [push_cast, List.replicate, Nat.reduceAdd]
        refine AW_region ?_
        all_goals (refine AOps_cons rfl (AOp_buildSlice0 sl25 sz27 rfl ?_) <;> try simp only [push_cast, Nat.reduceAdd])
        all_goals (refine AOps_cons rfl (AOp_fieldAddr_ptr _ _ _ _ rfl fd27_2 (by decide) ?_) <;> try simp only [push_cast, Nat.reduceAdd])
        all_goals (refine AOps_cons rfl (AOp_load1_ptr _ _ _ _ _ rfl (by first | exact hget0 | exact hgetN _ rfl | assumption | exact hgetL (by assumption) | exact hgetE (by first | assumption | apply hGl) | exact hgetEN (by first | assumption | apply hGl) _ rfl) sz25 ag25 (by decide) (by simp [push_cast]) rfl ?_) <;> try simp only [push_cast, Nat.reduceAdd])
        all_goals (refine AOps_cons rfl (AOp_append_arrAt (H.length + 3) (by first | exact hgetN _ rfl) _ (encTs xs) _ rfl rfl sl25 sz27 by27 zr27 rfl (by decide) (uni_encTs _) (cell_encTs _) hne (by rw [encTs_length]; omega) (by rw [encTs_length]; omega) ?_) <;> try simp only [push_cast, Nat.reduceAdd])
        all_goals (refine AOps_cons rfl (AOp_assign ?_) <;> try simp only [push_cast, Nat.reduceAdd])
        all_goals refine AOps_nil ?_
        all_goals
         refine thenK_normal (hK19 _ ?_)
         try clear hK19
         refine AW_seq_k (fun K20 hK20 => ?_)
         apply AW_drawE [some 16, some 17, some 18, some 19, some 20, some 21, some 22, some 23, some 24, some 25, some 26, some 27, some 28, some 29, some 30, none] [([false], _), ([true], _)] [none, none, none, none, none, none, none, none, none, none, none, none, none, none, none, some 0] 1 [(0, [false], [7]), (1, [false], [1]), (2, [false], [17]), (3, [false], [18]), (4, [false], [7]), (5, [false], [1]), (6, [false], [21]), (7, [false], [22]), (8, [false], [20, 2]), (9, [false], [24]), (10, [false], [1]), (11, [false], [26]), (12, [false], [5]), (13, [false], [25, 1, 0]), (14, [false], [16, 2]), (15, [false], [29, 0])] [_, _, _, _, _, _, _, _, _, _, _, _, _, _, _, _]
         case' hm => exact dr
         case' hn => rfl
         case' hok => rfl
         case' hlen => rfl
         case' hd => rfl
         case' h0 => rfl
         case' hstep =>
          simp only [DAllG, keepG, List.map_cons, List.map_nil, putD, stg, beqB, List.set_cons_zero, List.set_cons_succ, List.getD_cons_zero, List.getD_cons_succ, Option.isSome_some, Option.isSome_none]
          apply And.intro
          · apply DOne_do
            case' ho => rfl
            case' hw => rfl
            refine AOp_move ?_
            all_goals (try simp only [push_cast, Nat.reduceAdd])
            all_goals (constructor <;> first | rfl | trivial)
          apply And.intro
          · apply DOne_do
            case' ho => rfl
            case' hw => rfl
            refine AOp_move ?_
            all_goals (try simp only [push_cast, Nat.reduceAdd])
            all_goals (constructor <;> first | rfl | trivial)
          apply And.intro
          · apply DOne_do
            case' ho => rfl
            case' hw => rfl
            first | refine AOp_indexAddr_sl 3 _ _ _ _ _ rfl rfl sl44 sz3 (by decide) (by first | exact uni_encP _ | exact uni_encTs _) (by first | omega | (simp; omega)) (by first | omega | (simp [push_cast]; omega) | (simp [push_cast]; done)) ?_ | refine AOp_indexAddr_arr 3 1 _ _ _ _ _ rfl rfl sl44 sz3 (by first | omega | (simp; omega)) (by first | omega | (simp [push_cast]; omega)) ?_
            all_goals (try simp only [push_cast, Nat.reduceAdd])
            all_goals (constructor <;> first | rfl | trivial)
          apply And.intro
          · apply DOne_do
            case' ho => rfl
            case' hw => rfl
            refine AOp_load1_cptr _ _ _ rfl sz3 ag3 rfl ?_
            all_goals (try simp only [push_cast, Nat.reduceAdd])
            all_goals (constructor <;> first | rfl | trivial)
          apply And.intro
          · apply DOne_do
            case' ho => rfl
            case' hw => rfl
            refine AOp_move ?_
            all_goals (try simp only [push_cast, Nat.reduceAdd])
            all_goals (constructor <;> first | rfl | trivial)
          apply And.intro
          · apply DOne_do
            case' ho => rfl
            case' hw => rfl
            refine AOp_move ?_
            all_goals (try simp only [push_cast, Nat.reduceAdd])
            all_goals (constructor <;> first | rfl | trivial)
          apply And.intro
          · apply DOne_do
            case' ho => rfl
            case' hw => rfl
            first | refine AOp_indexAddr_sl 3 _ _ _ _ _ rfl rfl sl44 sz3 (by decide) (by first | exact uni_encP _ | exact uni_encTs _) (by first | omega | (simp; omega)) (by first | omega | (simp [push_cast]; omega) | (simp [push_cast]; done)) ?_ | refine AOp_indexAddr_arr 3 1 _ _ _ _ _ rfl rfl sl44 sz3 (by first | omega | (simp; omega)) (by first | omega | (simp [push_cast]; omega)) ?_
            all_goals (try simp only [push_cast, Nat.reduceAdd])
            all_goals (constructor <;> first | rfl | trivial)
          apply And.intro
          · apply DOne_do
            case' ho => rfl
            case' hw => rfl
            refine AOp_load1_cptr _ _ _ rfl sz3 ag3 rfl ?_
            all_goals (try simp only [push_cast, Nat.reduceAdd])
            all_goals (constructor <;> first | rfl | trivial)
          apply And.intro
          · apply DOne_do
            case' ho => rfl
            case' hw => rfl
            first | refine AOp_indexAddr_sl 27 _ _ _ _ _ rfl rfl sl25 sz27 (by decide) (by first | exact uni_encP _ | exact uni_encTs _) (by first | omega | (simp; omega)) (by first | omega | (simp [push_cast]; omega) | (simp [push_cast]; done)) ?_ | refine AOp_indexAddr_arr 27 3 _ _ _ _ _ rfl rfl sl25 sz27 (by first | omega | (simp; omega)) (by first | omega | (simp [push_cast]; omega)) ?_
            all_goals (try simp only [push_cast, Nat.reduceAdd])
            all_goals (constructor <;> first | rfl | trivial)
          apply And.intro
          · apply DOne_do
            case' ho => rfl
            case' hw => rfl
            refine AOp_load_ptr 3 (H.length + 3) (k.toNat * 3) (flat (encTs xs)) rfl (by exact hgetN 3 rfl) sz27 ag27 (by rw [flat_encTs_len]; omega) ?_
            rw [flat_encTs_get xs k.toNat hk0.2]
            all_goals (try simp only [push_cast, Nat.reduceAdd])
            all_goals (constructor <;> first | rfl | trivial)
          apply And.intro
          · apply DOne_do
            case' ho => rfl
            case' hw => rfl
            refine AOp_move ?_
            all_goals (try simp only [push_cast, Nat.reduceAdd])
            all_goals (constructor <;> first | rfl | trivial)
          apply And.intro
          · apply DOne_do
            case' ho => rfl
            case' hw => rfl
            refine AOp_slice_sl _ _ 1 (q.length + 1) rfl sl44 sz3 (uni_encP _) (.inr ⟨_, .i64, rfl, rfl⟩) (.inl ⟨rfl, by simp [encL]⟩) (by omega) (by simp [encL]) ?_
            rw [show List.take (q.length + 1 - 1) (List.drop 1 (encP (k :: q))) = encP q from by simp [encL, List.take_of_length_le]]
            all_goals (try simp only [push_cast, Nat.reduceAdd])
            all_goals (constructor <;> first | rfl | trivial)
          apply And.intro
          · apply DOne_do
            case' ho => rfl
            case' hw => rfl
            refine AOp_load_ptr _ _ _ _ rfl (by first | exact hget0 | exact hgetN _ rfl | assumption | exact hgetL (by assumption) | exact hgetE (by first | assumption | apply hGl) | exact hgetEN (by first | assumption | apply hGl) _ rfl) sz27 ag27 (by simp [push_cast]) ?_
            all_goals (try simp only [push_cast, Nat.reduceAdd])
            all_goals (constructor <;> first | rfl | trivial)
          apply And.intro
          · apply DOne_do
            case' ho => rfl
            case' hw => rfl
            refine AOp_call _ _ _ rfl rfl ok21 ?_
            (try simp only [push_cast, Nat.reduceAdd])
            have hbx := Term.arg_le (n := n) (v := u) (List.getElem_mem hk0.2)
            simp only [List.length_cons] at hlp hlen
            refine (ih q.length (by omega) q rfl (xs[k.toNat]'hk0.2) y (by omega) (by omega) hat2 _).mono ?_
            rintro r H' ⟨rfl, rfl⟩
            all_goals (try simp only [push_cast, Nat.reduceAdd])
            all_goals (constructor <;> first | rfl | trivial)
          apply And.intro
          · apply DOne_do
            case' ho => rfl
            case' hw => rfl
            first | refine AOp_indexAddr_sl 27 _ _ _ _ _ rfl rfl sl25 sz27 (by decide) (by first | exact uni_encP _ | exact uni_encTs _) (by first | omega | (simp; omega)) (by first | omega | (simp [push_cast]; omega) | (simp [push_cast]; done)) ?_ | refine AOp_indexAddr_arr 27 3 _ _ _ _ _ rfl rfl sl25 sz27 (by first | omega | (simp; omega)) (by first | omega | (simp [push_cast]; omega)) ?_
            all_goals (try simp only [push_cast, Nat.reduceAdd])
            all_goals (constructor <;> first | rfl | trivial)
          apply And.intro
          · apply DOne_do
            case' ho => rfl
            case' hw => rfl
            refine AOp_store (H.length + 3) (k.toNat * 3) (flat (encTs xs)) _ _ rfl (by exact hgetN 3 rfl) rfl rfl (.inr ⟨_, rfl⟩) (by simp [push_cast, AV.isCell]) sz27 (by rw [flat_encTs_len]; show k.toNat * 3 + 3 ≤ xs.length * 3; omega) ?_
            (try simp only [push_cast, Nat.reduceAdd])
            rw [flat_encTs_set2 xs k.toNat hk0.2]
            all_goals (try simp only [push_cast, Nat.reduceAdd])
            all_goals (constructor <;> first | rfl | trivial)
          exact trivial
         case' hQ => skip
         (try simp only [push_cast, putD, stg, beqB, List.replicate, Nat.reduceAdd, List.getD_cons_zero, List.getD_cons_succ])
         all_goals
          refine thenK_normal (hK20 _ ?_)
          try clear hK20
          refine AW_seq_k (fun K21 hK21 => ?_)
          obtain ⟨zs, hzs⟩ : ∃ zs, zs = xs.set k.toNat (putP (xs[k.toNat]'hk0.2) q x) := ⟨_, rfl⟩
          rw [← hzs]
          have hzl : zs.length = xs.length := by rw [hzs, List.length_set]
          have hLl : (H ++ [AObj.cells [.str n, .bool u, .sl .none (encTs xs)], .cells [.str x.name, .bool x.var, .sl .none (encTs x.args)], .cells [.str [], .bool false, .sl .zero []]]).length = H.length + 3 := by simp
          apply AW_freezeA (H ++ [.cells [.str n, .bool u, .sl .none (encTs xs)], .cells [.str x.name, .bool x.var, .sl .none (encTs x.args)], .cells [.str [], .bool false, .sl .zero []]]) (flat (encTs zs))
          case' hh => simp
          case' hm => rw [hLl]; exact outok_app 3 rfl (by simp) (by intro o ho; simp only [List.take_succ_cons, List.take_zero, List.mem_cons, List.not_mem_nil, or_false] at ho; rcases ho with rfl | rfl | rfl <;> simp [OScoped, ScopedL, Scoped, scoped_encTs])
          case' hvs => exact scoped_flatT _ zs
          case' hsl => (rw [hLl]; repeat (first | exact FrzOk.nil | apply FrzOk.froz | (apply FrzOk.row (xs := encTs zs); (case' hxs => rfl); (case' hn => (rw [encTs_length, hzl]))) | (apply FrzOk.same; (case' hv => (first | (simp [push_cast]; done) | (simp [push_cast, Scoped, ScopedL, scoped_encTs]; done)))) | apply FrzOk.junk))
          (try simp only [push_cast, Nat.reduceAdd])
          refine AW_region ?_
          all_goals (refine AOps_cons rfl (AOp_fieldAddr_ptr _ _ _ _ rfl fd27_0 (by decide) ?_) <;> try simp only [push_cast, Nat.reduceAdd])
          all_goals (refine AOps_cons rfl (AOp_load1_ptr _ _ _ _ _ rfl (by first | exact hget0 | exact hgetN _ rfl | assumption | exact hgetL (by assumption) | exact hgetE (by first | assumption | apply hGl) | exact hgetEN (by first | assumption | apply hGl) _ rfl) sz9 ag9 (by decide) (by simp [push_cast]) rfl ?_) <;> try simp only [push_cast, Nat.reduceAdd])
          all_goals refine AOps_cons rfl (AOp_move ?_)
          all_goals (try simp only [push_cast, Nat.reduceAdd])
          all_goals (refine AOps_cons rfl (AOp_build _ _ _ zr27 st27 _ rfl (by first | rfl | (simp [afill, splice, push_cast]; done)) ?_) <;> try simp only [push_cast, Nat.reduceAdd])
          all_goals (refine AOps_cons rfl (AOp_store _ _ _ _ _ rfl (by first | exact hget0 | exact hgetN _ rfl | assumption | exact hgetL (by assumption) | exact hgetE (by first | assumption | apply hGl) | exact hgetEN (by first | assumption | apply hGl) _ rfl) rfl rfl (by first | exact .inl rfl | exact .inr ⟨_, rfl⟩) (by simp [push_cast, AV.isCell]) sz27 (by simp [push_cast]) ?_) <;> try simp only [push_cast, Nat.reduceAdd])
          all_goals refine AOps_nil ?_
          all_goals
           refine thenK_normal (hK21 _ ?_)
           try clear hK21
           refine AW_ret ?_
           repeat (first | refine thenK_ret ?_ | refine loopK_ret ?_ | refine blockK_ret ?_)
           have hp : putP (.mk n u xs) (k :: q) x = .mk n false zs := by rw [put_step n u xs k q x hk0.2, hzs]
           rw [hp]
           refine ⟨by first | exact .inl rfl | exact .inr rfl, _, ⟨_, _, _, _, rfl, (by first | exact hget0 | exact hgetN _ rfl | assumption | exact hgetL (by assumption) | exact hgetE (by first | assumption | apply hGl) | exact hgetEN (by first | assumption | apply hGl) _ rfl), sz27, by simp, .inl ⟨ag27, rfl⟩⟩, (by first | exact outok_app 0 rfl (Nat.zero_le _) (by simp) | exact outok_self), by simp [push_cast], ?_⟩
           simp only [push_cast, Nat.reduceAdd]
           simp [strip, stripL, stripTok, strip_encTs, Term.name_mk, Term.var_mk, Term.args_mk]
      case' ht =>
       intro hc18
       try (exfalso; (first | (cases hc18; done) | (simp at hc18; done) | (simp at hc18; omega)); done)
       all_goals (try simp only [decide_eq_true_eq, decide_eq_false_iff_not, Bool.not_eq_true', Bool.not_eq_false', Bool.not_eq_eq_eq_not, Bool.not_true, Bool.not_false] at hc18)
       all_goals
        refine AW_seq_k (fun K22 hK22 => ?_)
        refine AW_region ?_
        all_goals (refine AOps_cons rfl (AOp_load_ptr _ _ _ _ rfl (by first | exact hget0 | exact hgetN _ rfl | assumption | exact hgetL (by assumption) | exact hgetE (by first | assumption | apply hGl) | exact hgetEN (by first | assumption | apply hGl) _ rfl) sz27 ag27 (by simp [push_cast]) ?_) <;> try simp only [push_cast, Nat.reduceAdd])
        all_goals (refine AOps_cons rfl (AOp_store _ _ _ _ _ rfl (by first | exact hget0 | exact hgetN _ rfl | assumption | exact hgetL (by assumption) | exact hgetE (by first | assumption | apply hGl) | exact hgetEN (by first | assumption | apply hGl) _ rfl) rfl rfl (by first | exact .inl rfl | exact .inr ⟨_, rfl⟩) (by simp [push_cast, AV.isCell]) sz27 (by simp [push_cast]) ?_) <;> try simp only [push_cast, Nat.reduceAdd])
        all_goals refine AOps_nil ?_
        all_goals
         refine thenK_normal (hK22 _ ?_)
         try clear hK22
         refine AW_ret ?_
         repeat (first | refine thenK_ret ?_ | refine loopK_ret ?_ | refine blockK_ret ?_)
         have hp : p = [] := List.eq_nil_of_length_eq_zero (by omega)
         subst hp
         have hp : putP (.mk n u xs) [] x = x := by simp [putP]
         rw [hp]
         refine ⟨by first | exact .inl rfl | exact .inr rfl, _, ⟨_, _, _, _, rfl, (by first | exact hget0 | exact hgetN _ rfl | assumption | exact hgetL (by assumption) | exact hgetE (by first | assumption | apply hGl) | exact hgetEN (by first | assumption | apply hGl) _ rfl), sz27, by simp, .inl ⟨ag27, rfl⟩⟩, (by first | exact outok_app 0 rfl (Nat.zero_le _) (by simp) | exact outok_self), by simp [push_cast], ?_⟩
         simp only [push_cast, Nat.reduceAdd]
         simp [strip, stripL, stripTok, strip_encTs]
end Ab
set_option maxRecDepth 10000
namespace Ab
open Go Go.Proofs
attribute [local push_cast] encT encBd scoped_encBd
set_option maxHeartbeats 1600000 in
theorem grownR_ac (σ : List (List UInt8 × Term)) (hlen : σ.length < 1099511627776) (t : Term) : t.bulk ≤ 1099511627775 → (applyP σ t).bulk ≤ 1099511627775 → ∀ H, ACall Try.prog 38 [.sl .none (encL encBd σ), encT t] H (fun r H' => r = .tup [.int .i64 (applyP σ t).size, .int .i64 (applyP σ t).depth] ∧ H' = H) := by
  refine Term.ind (p := fun t => t.bulk ≤ 1099511627775 → (applyP σ t).bulk ≤ 1099511627775 → ∀ H, ACall Try.prog 38 [.sl .none (encL encBd σ), encT t] H (fun r H' => r = .tup [.int .i64 (applyP σ t).size, .int .i64 (applyP σ t).depth] ∧ H' = H)) (fun n u xs ih => ?_) t
  intro hb hb2 H
  have hl2 := Term.len_le (n := n) (v := u) (xs := xs)
  have hsl : ∀ n, ScopedL n (encL encBd σ) := fun n => scoped_encBd n σ
  have hsz := (applyP σ (.mk n u xs)).size_le
  have hdp := (applyP σ (.mk n u xs)).depth_le
  have eS : encT (.mk n u xs) = .agg [.str n, .bool u, .sl .none (encTs xs)] := rfl
  rw [eS]
  refine ACall_intro (H.length) Try.func38 rfl ?_
  simp only [Try.ntmps38, List.length_cons, List.length_nil, List.replicate, List.cons_append, List.nil_append, Nat.reduceAdd, Nat.reduceSub, Nat.zero_add]
  refine AW_seq_k (fun K1 hK1 => ?_)
  refine AW_region ?_
  all_goals (refine AOps_cons rfl (AOp_box _ _ rfl rfl (by first | exact .inl rfl | exact .inr ⟨_, rfl⟩) (by simp [push_cast, AV.isCell]) ?_) <;> try simp only [push_cast, Nat.reduceAdd])
  all_goals refine AOps_cons rfl (AOp_assign ?_)
  all_goals (refine AOps_cons rfl (AOp_assign ?_) <;> try simp only [push_cast, Nat.reduceAdd])
  all_goals refine AOps_nil ?_
  all_goals
   refine thenK_normal (hK1 _ ?_)
   try clear hK1
   refine AW_seq_k (fun K2 hK2 => ?_)
   refine AW_seq_k (fun K3 hK3 => ?_)
   refine AW_region ?_
   all_goals (refine AOps_cons rfl (AOp_fieldAddr_ptr _ _ _ _ rfl fd27_1 (by decide) ?_) <;> try simp only [push_cast, Nat.reduceAdd])
   all_goals (refine AOps_cons rfl (AOp_load1_ptr _ _ _ _ _ rfl (by first | exact hget0 | exact hgetN _ rfl | assumption | exact hgetL (by assumption)) sz4 ag4 (by decide) (by simp [push_cast]) rfl ?_) <;> try simp only [push_cast, Nat.reduceAdd])
   all_goals refine AOps_nil ?_
   all_goals
    refine thenK_normal (hK3 _ ?_)
    try clear hK3
    apply AW_cond
    case' hc => exact rfl
    case' hf =>
     intro hc4
     try (exfalso; (first | (cases hc4; done) | (simp at hc4; done) | (simp at hc4; omega)); done)
     all_goals (try simp only [decide_eq_true_eq, decide_eq_false_iff_not, Bool.not_eq_true', Bool.not_eq_false', Bool.not_eq_eq_eq_not, Bool.not_true, Bool.not_false] at hc4)
     all_goals
      refine AW_skip ?_
      refine thenK_normal (hK2 _ ?_)
      try clear hK2
      refine AW_seq_k (fun K5 hK5 => ?_)
      refine AW_region ?_
      all_goals refine AOps_cons rfl (AOp_assign ?_)
      all_goals (refine AOps_cons rfl (AOp_assign ?_) <;> try simp only [push_cast, Nat.reduceAdd])
      all_goals refine AOps_nil ?_
      all_goals
       refine thenK_normal (hK5 _ ?_)
       try clear hK5
       refine AW_seq_k (fun K6 hK6 => ?_)
       refine AW_seq_k (fun K7 hK7 => ?_)
       refine AW_region ?_
       all_goals (refine AOps_cons rfl (AOp_fieldAddr_ptr _ _ _ _ rfl fd27_2 (by decide) ?_) <;> try simp only [push_cast, Nat.reduceAdd])
       all_goals (refine AOps_cons rfl (AOp_load1_ptr _ _ _ _ _ rfl (by first | exact hget0 | exact hgetN _ rfl | assumption | exact hgetL (by assumption)) sz25 ag25 (by decide) (by simp [push_cast]) rfl ?_) <;> try simp only [push_cast, Nat.reduceAdd])
       all_goals (refine AOps_cons rfl (AOp_len_sl _ _ _ rfl sl25 ?_) <;> try simp only [push_cast, Nat.reduceAdd])
       all_goals (refine AOps_cons rfl (AOp_move ?_) <;> try simp only [push_cast, Nat.reduceAdd])
       all_goals refine AOps_nil ?_
       all_goals
        refine thenK_normal (hK7 _ ?_)
        try clear hK7
        refine AW_block ?_
        have hu : u = false := by assumption
        have ha : applyP σ (.mk n u xs) = .mk n false (appL σ xs) := by rw [applyP_mk, hu]; rfl
        rw [ha] at hb2 hsz hdp ⊢
        have hbd : ∀ i (h : i < xs.length), (applyP σ xs[i]).bulk ≤ 1099511627775 ∧ ((appL σ (xs.take (i + 1))).map Term.size).sum = ((appL σ (xs.take i)).map Term.size).sum + (applyP σ xs[i]).size ∧ ((appL σ (xs.take (i + 1))).map Term.depth).foldl max 0 = max (((appL σ (xs.take i)).map Term.depth).foldl max 0) (applyP σ xs[i]).depth := by
          intro i h
          have hm : applyP σ xs[i] ∈ appL σ xs := List.mem_map_of_mem (List.getElem_mem h)
          have h1 := Term.arg_le (n := n) (v := false) hm
          refine ⟨by omega, ?_, ?_⟩
          · rw [appL_take σ xs i h, List.map_append, List.sum_append]; simp
          · rw [appL_take σ xs i h, List.map_append, List.foldl_append]; simp
        have hsum : ∀ i, ((appL σ (xs.take i)).map Term.size).sum ≤ 1099511627774 := by
          intro i
          have h1 : appL σ (xs.take i) = (appL σ xs).take i := by simp [appL, List.map_take]
          have h2 := take_sum_le Term.size (appL σ xs) i
          rw [Term.size_mk] at hsz
          rw [h1]; omega
        have hdep : ∀ i, ((appL σ (xs.take i)).map Term.depth).foldl max 0 ≤ 1099511627774 := by
          intro i
          have h1 := foldl_max_le Term.depth (appL σ (xs.take i)) 0
          have h2 := hsum i
          have h3 := sum_le_sum (f := Term.depth) (g := Term.size) (xs := appL σ (xs.take i)) (fun x _ => x.depth_le)
          omega
        refine AW_loopR (maskG 46 [0, 6, 0, 15, 0, 0]) (fun (i : Nat) => [(26, .int .i64 i), (7, .int .i64 (1 + ((appL σ (xs.take i)).map Term.size).sum : Nat)), (8, .int .i64 (((appL σ (xs.take i)).map Term.depth).foldl max 0 : Nat))]) (fun _ => _) (fun i => i ≤ xs.length) (fun i => xs.length - i) 0 (Nat.zero_le _) (by (simp only [push_cast, Nat.reduceAdd]; refine weak_app 1 ?_ (by simp) (by simp [push_cast]); (repeat (first | exact SlotsOk.nil | refine SlotsOk.junk ?_ | refine SlotsOk.same (by first | (simp [push_cast]; done) | (simp [push_cast, Scoped, ScopedL, *]; done)) ?_ | refine SlotsOk.tok (by first | rfl | (simp; done)) (by first | (simp [push_cast]; done) | (simp [push_cast, Scoped, ScopedL, *]; done)) ?_ | refine SlotsOk.eq (by first | rfl | (congr 1; omega) | (simp; done) | (simp; omega)) (by first | (simp [push_cast]; done) | (simp [push_cast, Scoped, ScopedL, *]; done)) ?_)))) (fun i hi => ?_)
        (try simp only [push_cast, Nat.reduceAdd])
        refine AW_seq_k (fun K8 hK8 => ?_)
        refine AW_region ?_
        all_goals (refine AOps_cons rfl (AOp_bin_int _ _ _ _ rfl rfl rfl ?_) <;> try simp only [push_cast, Nat.reduceAdd])
        all_goals refine AOps_nil ?_
        all_goals
         refine thenK_normal (hK8 _ ?_)
         try clear hK8
         refine AW_seq_k (fun K9 hK9 => ?_)
         apply AW_cond
         case' hc => exact rfl
         case' hf =>
          intro hc10
          try (exfalso; (first | (cases hc10; done) | (simp at hc10; done) | (simp at hc10; omega)); done)
          all_goals (try simp only [decide_eq_true_eq, decide_eq_false_iff_not, Bool.not_eq_true', Bool.not_eq_false', Bool.not_eq_eq_eq_not, Bool.not_true, Bool.not_false] at hc10)
          all_goals
           refine AW_exit ?_
           repeat (first | refine thenK_exit ?_ | refine loopK_exit ?_ | refine blockK_other (by decide) ?_)
           refine blockK_same ?_
           refine thenK_normal (hK6 _ ?_)
           try clear hK6
           refine AW_seq_k (fun K11 hK11 => ?_)
           have hs2 := hdep i
           refine AW_region ?_
           all_goals refine AOps_cons rfl (AOp_move ?_)
           all_goals refine AOps_cons rfl (AOp_move ?_)
           all_goals (try simp only [push_cast, Nat.reduceAdd])
           all_goals refine AOps_cons rfl (AOp_bin_int _ _ _ _ rfl rfl rfl ?_)
           all_goals (try simp only [push_cast, Nat.reduceAdd])
           all_goals (try rw [IntWalk.i64_in _ (by omega)])
           all_goals (try simp only [push_cast, Nat.reduceAdd])
           all_goals refine AOps_cons rfl (AOp_assign ?_)
           all_goals (refine AOps_cons rfl (AOp_assign ?_) <;> try simp only [push_cast, Nat.reduceAdd])
           all_goals refine AOps_nil ?_
           all_goals
            refine thenK_normal (hK11 _ ?_)
            try clear hK11
            refine AW_ret ?_
            repeat (first | refine thenK_ret ?_ | refine loopK_ret ?_ | refine blockK_ret ?_)
            have e : xs.take i = xs := List.take_of_length_le (by omega)
            rw [e]
            refine ⟨by first | exact .inl rfl | exact .inr rfl, _, ⟨[_, _], rfl, rfl, rfl, trivial⟩, (by first | exact outok_app 0 rfl (Nat.zero_le _) (by simp) | exact outok_self), by simp [push_cast], ?_⟩
            simp only [push_cast, Nat.reduceAdd]
            have h1 : ((applyP σ (.mk n u xs)).size : Int) = 0 + 1 + (((appL σ xs).map Term.size).sum : Nat) := by rw [ha, Term.size_mk]; omega
            have h2 : ((applyP σ (.mk n u xs)).depth : Int) = (((appL σ xs).map Term.depth).foldl max 0 : Nat) + 1 := by rw [ha, Term.depth_mk]; omega
            rw [h1, h2]
            exact ⟨rfl, by simp⟩
         case' ht =>
          intro hc10
          try (exfalso; (first | (cases hc10; done) | (simp at hc10; done) | (simp at hc10; omega)); done)
          all_goals (try simp only [decide_eq_true_eq, decide_eq_false_iff_not, Bool.not_eq_true', Bool.not_eq_false', Bool.not_eq_eq_eq_not, Bool.not_true, Bool.not_false] at hc10)
          all_goals
           refine AW_skip ?_
           refine thenK_normal (hK9 _ ?_)
           try clear hK9
           refine AW_seq_k (fun K12 hK12 => ?_)
           refine AW_block ?_
           refine AW_seq_k (fun K13 hK13 => ?_)
           refine AW_region ?_
           all_goals (refine AOps_cons rfl (AOp_indexAddr_sl 27 _ _ _ _ _ rfl rfl sl25 sz27 (by decide) (by exact uni_encTs _) (by first | omega | (simp; omega)) (by first | omega | (simp [push_cast]; omega) | (simp [push_cast]; done)) ?_) <;> try simp only [push_cast, Nat.reduceAdd])
           all_goals (refine AOps_cons rfl (AOp_load_cptr _ _ rfl sz27 ag27 (by simp [push_cast]) ?_) <;> try simp only [push_cast, Nat.reduceAdd])
           all_goals (refine AOps_cons rfl (AOp_alloc _ zr27 (by simp [ofVal, AV.isCell, Value.oneCell']) ?_) <;> try simp only [push_cast, Nat.reduceAdd])
           all_goals (refine AOps_cons rfl (AOp_store _ _ _ _ _ rfl (by first | exact hget0 | exact hgetN _ rfl | assumption | exact hgetL (by assumption)) rfl rfl (by first | exact .inl rfl | exact .inr ⟨_, rfl⟩) (by simp [push_cast, AV.isCell]) sz27 (by simp [push_cast]) ?_) <;> try simp only [push_cast, Nat.reduceAdd])
           all_goals refine AOps_nil ?_
           all_goals
            refine thenK_normal (hK13 _ ?_)
            try clear hK13
            refine AW_seq_k (fun K14 hK14 => ?_)
            refine AW_region ?_
            all_goals refine AOps_cons rfl (AOp_move ?_)
            all_goals (try simp only [push_cast, Nat.reduceAdd])
            all_goals (refine AOps_cons rfl (AOp_load_ptr _ _ _ _ rfl (by first | exact hget0 | exact hgetN _ rfl | assumption | exact hgetL (by assumption)) sz27 ag27 (by simp [push_cast]) ?_) <;> try simp only [push_cast, Nat.reduceAdd])
            all_goals refine AOps_cons rfl (AOp_call _ _ _ rfl rfl ok38 ?_)
            all_goals (try simp only [push_cast, Nat.reduceAdd])
            all_goals have hm : xs[i]'(by omega) ∈ xs := by simp
            all_goals have hbx := Term.arg_le (n := n) (v := u) hm
            all_goals have hq := hbd i (by omega)
            all_goals have hs1 := hsum (i + 1)
            all_goals have hs2 := hdep (i + 1)
            all_goals refine (ih (xs[i]'(by omega)) hm (by omega) hq.1 _).mono ?_
            all_goals rintro r H' ⟨rfl, rfl⟩
            all_goals (try simp only [push_cast, Nat.reduceAdd])
            all_goals refine AOps_cons rfl (AOp_move ?_)
            all_goals (try simp only [push_cast, Nat.reduceAdd])
            all_goals (refine AOps_cons rfl (AOp_extract _ _ rfl rfl ?_) <;> try simp only [push_cast, Nat.reduceAdd])
            all_goals (refine AOps_cons rfl (AOp_extract _ _ rfl rfl ?_) <;> try simp only [push_cast, Nat.reduceAdd])
            all_goals refine AOps_cons rfl (AOp_assign ?_)
            all_goals (refine AOps_cons rfl (AOp_assign ?_) <;> try simp only [push_cast, Nat.reduceAdd])
            all_goals refine AOps_nil ?_
            all_goals
             refine thenK_normal (hK14 _ ?_)
             try clear hK14
             refine AW_region ?_
             all_goals refine AOps_cons rfl (AOp_move ?_)
             all_goals refine AOps_cons rfl (AOp_move ?_)
             all_goals (try simp only [push_cast, Nat.reduceAdd])
             all_goals refine AOps_cons rfl (AOp_bin_int _ _ _ _ rfl rfl rfl ?_)
             all_goals (try simp only [push_cast, Nat.reduceAdd])
             all_goals (try rw [IntWalk.i64_in _ (by omega)])
             all_goals (try simp only [push_cast, Nat.reduceAdd])
             all_goals refine AOps_cons rfl (AOp_move ?_)
             all_goals refine AOps_cons rfl (AOp_move ?_)
             all_goals (try simp only [push_cast, Nat.reduceAdd])
             all_goals (refine AOps_cons rfl (AOp_max _ _ _ rfl rfl ?_) <;> try simp only [push_cast, Nat.reduceAdd])
             all_goals refine AOps_cons rfl (AOp_assign ?_)
             all_goals (refine AOps_cons rfl (AOp_assign ?_) <;> try simp only [push_cast, Nat.reduceAdd])
             all_goals refine AOps_nil ?_
             all_goals
              refine blockK_normal ?_
              refine thenK_normal (hK12 _ ?_)
              try clear hK12
              refine AW_region ?_
              all_goals refine AOps_cons rfl (AOp_bin_int _ _ _ _ rfl rfl rfl ?_)
              all_goals (try simp only [push_cast, Nat.reduceAdd])
              all_goals (try rw [IntWalk.i64_in _ (by omega)])
              all_goals (try simp only [push_cast, Nat.reduceAdd])
              all_goals (refine AOps_cons rfl (AOp_move ?_) <;> try simp only [push_cast, Nat.reduceAdd])
              all_goals refine AOps_nil ?_
              all_goals
               refine loopK_normal ?_
               have hq := hbd i (by omega)
               exact ⟨i + 1, by omega, by (simp only [push_cast, Nat.reduceAdd]; refine weak_app 1 ?_ (by simp) (by simp [push_cast]); (repeat (first | exact SlotsOk.nil | refine SlotsOk.junk ?_ | refine SlotsOk.same (by first | (simp [push_cast]; done) | (simp [push_cast, Scoped, ScopedL, *]; done)) ?_ | refine SlotsOk.tok (by first | rfl | (simp; done)) (by first | (simp [push_cast]; done) | (simp [push_cast, Scoped, ScopedL, *]; done)) ?_ | refine SlotsOk.eq (by first | rfl | (congr 1; omega) | (simp; done) | (simp; omega)) (by first | (simp [push_cast]; done) | (simp [push_cast, Scoped, ScopedL, *]; done)) ?_))), by omega⟩
    case' ht =>
     intro hc4
     try (exfalso; (first | (cases hc4; done) | (simp at hc4; done) | (simp at hc4; omega)); done)
     all_goals (try simp only [decide_eq_true_eq, decide_eq_false_iff_not, Bool.not_eq_true', Bool.not_eq_false', Bool.not_eq_eq_eq_not, Bool.not_true, Bool.not_false] at hc4)
     all_goals
      refine AW_seq_k (fun K15 hK15 => ?_)
      refine AW_region ?_
      all_goals refine AOps_cons rfl (AOp_move ?_)
      all_goals (try simp only [push_cast, Nat.reduceAdd])
      all_goals (refine AOps_cons rfl (AOp_fieldAddr_ptr _ _ _ _ rfl fd27_0 (by decide) ?_) <;> try simp only [push_cast, Nat.reduceAdd])
      all_goals (refine AOps_cons rfl (AOp_load1_ptr _ _ _ _ _ rfl (by first | exact hget0 | exact hgetN _ rfl | assumption | exact hgetL (by assumption)) sz9 ag9 (by decide) (by simp [push_cast]) rfl ?_) <;> try simp only [push_cast, Nat.reduceAdd])
      all_goals refine AOps_cons rfl (AOp_call _ _ _ rfl rfl ok39 ?_)
      all_goals (try simp only [push_cast, Nat.reduceAdd])
      all_goals refine (imageR_ac σ n hlen _).mono ?_
      all_goals rintro r H' ⟨rfl, rfl⟩
      all_goals (try simp only [push_cast, Nat.reduceAdd])
      all_goals (refine AOps_cons rfl (AOp_alloc _ zr27 (by simp [ofVal, AV.isCell, Value.oneCell']) ?_) <;> try simp only [push_cast, Nat.reduceAdd])
      all_goals (refine AOps_cons rfl (AOp_store _ _ _ _ _ rfl (by first | exact hget0 | exact hgetN _ rfl | assumption | exact hgetL (by assumption)) rfl rfl (by first | exact .inl rfl | exact .inr ⟨_, rfl⟩) (by simp [push_cast, AV.isCell]) sz27 (by simp [push_cast]) ?_) <;> try simp only [push_cast, Nat.reduceAdd])
      all_goals refine AOps_nil ?_
      all_goals
       refine thenK_normal (hK15 _ ?_)
       try clear hK15
       refine AW_seq_k (fun K16 hK16 => ?_)
       apply AW_drawE [some 19, some 20, some 21, some 22, some 4, some 5] [([], _)] [none, none, none, none, none, none] 0 [(0, [], [6]), (1, [], [19]), (2, [], [6]), (3, [], [21]), (4, [], [20]), (5, [], [22])] [_, _, _, _, _, _]
       case' hm => exact dr
       case' hn => rfl
       case' hok => rfl
       case' hlen => rfl
       case' hd => rfl
       case' h0 => rfl
       case' hstep =>
        simp only [DAllG, keepG, List.map_cons, List.map_nil, putD, stg, beqB, List.set_cons_zero, List.set_cons_succ, List.getD_cons_zero, List.getD_cons_succ, Option.isSome_some, Option.isSome_none]
        apply And.intro
        · apply DOne_do
          case' ho => rfl
          case' hw => rfl
          refine AOp_load_ptr _ _ _ _ rfl (by first | exact hget0 | exact hgetN _ rfl | assumption | exact hgetL (by assumption)) sz27 ag27 (by simp [push_cast]) ?_
          all_goals (try simp only [push_cast, Nat.reduceAdd])
          all_goals (constructor <;> first | rfl | trivial)
        apply And.intro
        · apply DOne_do
          case' ho => rfl
          case' hw => rfl
          refine AOp_call _ _ _ rfl rfl ok41 ?_
          (try simp only [push_cast, Nat.reduceAdd])
          have hu : u = true := by assumption
          have ha : applyP σ (.mk n u xs) = imageP σ n := by rw [applyP_mk, hu]; simp
          refine (sizeR_ac (imageP σ n) (by rw [← ha]; omega) _).mono ?_
          rintro r H' ⟨rfl, rfl⟩
          all_goals (try simp only [push_cast, Nat.reduceAdd])
          all_goals (constructor <;> first | rfl | trivial)
        apply And.intro
        · apply DOne_do
          case' ho => rfl
          case' hw => rfl
          refine AOp_load_ptr _ _ _ _ rfl (by first | exact hget0 | exact hgetN _ rfl | assumption | exact hgetL (by assumption)) sz27 ag27 (by simp [push_cast]) ?_
          all_goals (try simp only [push_cast, Nat.reduceAdd])
          all_goals (constructor <;> first | rfl | trivial)
        apply And.intro
        · apply DOne_do
          case' ho => rfl
          case' hw => rfl
          refine AOp_call _ _ _ rfl rfl ok42 ?_
          (try simp only [push_cast, Nat.reduceAdd])
          have hu : u = true := by assumption
          have ha : applyP σ (.mk n u xs) = imageP σ n := by rw [applyP_mk, hu]; simp
          refine (depthR_ac (imageP σ n) (by rw [← ha]; omega) _).mono ?_
          rintro r H' ⟨rfl, rfl⟩
          all_goals (try simp only [push_cast, Nat.reduceAdd])
          all_goals (constructor <;> first | rfl | trivial)
        apply And.intro
        · apply DOne_do
          case' ho => rfl
          case' hw => rfl
          refine AOp_assign ?_
          all_goals (try simp only [push_cast, Nat.reduceAdd])
          all_goals (constructor <;> first | rfl | trivial)
        apply And.intro
        · apply DOne_do
          case' ho => rfl
          case' hw => rfl
          refine AOp_assign ?_
          all_goals (try simp only [push_cast, Nat.reduceAdd])
          all_goals (constructor <;> first | rfl | trivial)
        exact trivial
       case' hQ => skip
       (try simp only [push_cast, putD, stg, beqB, List.replicate, Nat.reduceAdd, List.getD_cons_zero, List.getD_cons_succ])
       all_goals
        refine thenK_normal (hK16 _ ?_)
        try clear hK16
        refine AW_ret ?_
        repeat (first | refine thenK_ret ?_ | refine loopK_ret ?_ | refine blockK_ret ?_)
        have hu : u = true := by assumption
        have ha : applyP σ (.mk n u xs) = imageP σ n := by rw [applyP_mk, hu]; simp
        rw [ha]
        refine ⟨by first | exact .inl rfl | exact .inr rfl, _, ⟨[_, _], rfl, rfl, rfl, trivial⟩, (by first | exact outok_app 0 rfl (Nat.zero_le _) (by simp) | exact outok_self), by simp [push_cast], ?_⟩
        simp only [push_cast, Nat.reduceAdd]
        simp
theorem fitsR1_ac (σ : List (List UInt8 × Term)) (hlen : σ.length < 1099511627776) (t : Term) (hb : t.bulk ≤ 1099511627775) (hb2 : (applyP σ t).bulk ≤ 1099511627775) (H : List AObj) : ACall Try.prog 18 [.sl .none (encL encBd σ), encT t] H (fun r H' => r = .bool (fitsP (applyP σ t)) ∧ H' = H) := by
  refine ACall_intro (H.length) Try.func18 rfl ?_
  simp only [Try.ntmps18, List.length_cons, List.length_nil, List.replicate, List.cons_append, List.nil_append, Nat.reduceAdd, Nat.reduceSub, Nat.zero_add]
  refine AW_seq_k (fun K17 hK17 => ?_)
  refine AW_region ?_
  all_goals (refine AOps_cons rfl (AOp_box _ _ rfl rfl (by first | exact .inl rfl | exact .inr ⟨_, rfl⟩) (by simp [push_cast, AV.isCell]) ?_) <;> try simp only [push_cast, Nat.reduceAdd])
  all_goals (refine AOps_cons rfl (AOp_assign ?_) <;> try simp only [push_cast, Nat.reduceAdd])
  all_goals refine AOps_nil ?_
  all_goals
   refine thenK_normal (hK17 _ ?_)
   try clear hK17
   refine AW_seq_k (fun K18 hK18 => ?_)
   refine AW_region ?_
   all_goals refine AOps_cons rfl (AOp_move ?_)
   all_goals (try simp only [push_cast, Nat.reduceAdd])
   all_goals (refine AOps_cons rfl (AOp_load_ptr _ _ _ _ rfl (by first | exact hget0 | exact hgetN _ rfl | assumption | exact hgetL (by assumption)) sz27 ag27 (by simp [push_cast]) ?_) <;> try simp only [push_cast, Nat.reduceAdd])
   all_goals refine AOps_cons rfl (AOp_call _ _ _ rfl rfl ok38 ?_)
   all_goals (try simp only [push_cast, Nat.reduceAdd])
   all_goals refine (grownR_ac σ hlen t hb hb2 _).mono ?_
   all_goals rintro r H' ⟨rfl, rfl⟩
   all_goals (try simp only [push_cast, Nat.reduceAdd])
   all_goals refine AOps_cons rfl (AOp_move ?_)
   all_goals (try simp only [push_cast, Nat.reduceAdd])
   all_goals (refine AOps_cons rfl (AOp_extract _ _ rfl rfl ?_) <;> try simp only [push_cast, Nat.reduceAdd])
   all_goals (refine AOps_cons rfl (AOp_extract _ _ rfl rfl ?_) <;> try simp only [push_cast, Nat.reduceAdd])
   all_goals refine AOps_cons rfl (AOp_assign ?_)
   all_goals (refine AOps_cons rfl (AOp_assign ?_) <;> try simp only [push_cast, Nat.reduceAdd])
   all_goals refine AOps_nil ?_
   all_goals
    refine thenK_normal (hK18 _ ?_)
    try clear hK18
    refine AW_seq_k (fun K19 hK19 => ?_)
    refine AW_region ?_
    all_goals refine AOps_cons rfl (AOp_move ?_)
    all_goals (try simp only [push_cast, Nat.reduceAdd])
    all_goals (refine AOps_cons rfl (AOp_bin_int _ _ _ _ rfl rfl rfl ?_) <;> try simp only [push_cast, Nat.reduceAdd])
    all_goals refine AOps_cons rfl (AOp_move ?_)
    all_goals (try simp only [push_cast, Nat.reduceAdd])
    all_goals (try refine AOps_split 15 _ rfl (fun hg20 => ?_) (fun hg20 => ?_))
    all_goals (try (exfalso; (first | (cases hg20; done) | (simp at hg20; done) | (simp at hg20; omega)); done))
    all_goals (try simp only [decide_eq_true_eq, decide_eq_false_iff_not, Bool.not_eq_true', Bool.not_eq_false', Bool.not_eq_eq_eq_not, Bool.not_true, Bool.not_false] at hg20)
    all_goals first
     | refine AOps_skip rfl ?_
     | (refine AOps_cons rfl ?_
        refine AOp_move ?_)
    all_goals (try simp only [push_cast, Nat.reduceAdd])
    all_goals first
     | refine AOps_skip rfl ?_
     | (refine AOps_cons rfl ?_
        refine AOp_bin_int _ _ _ _ rfl rfl rfl ?_)
    all_goals (try simp only [push_cast, Nat.reduceAdd])
    all_goals refine AOps_cons rfl (AOp_pick _ rfl ?_)
    all_goals (refine AOps_cons rfl (AOp_assign ?_) <;> try simp only [push_cast, Nat.reduceAdd])
    all_goals refine AOps_nil ?_
    all_goals
     refine thenK_normal (hK19 _ ?_)
     try clear hK19
     refine AW_ret ?_
     repeat (first | refine thenK_ret ?_ | refine loopK_ret ?_ | refine blockK_ret ?_)
     refine ⟨by first | exact .inl rfl | exact .inr rfl, _, rfl, (by first | exact outok_app 0 rfl (Nat.zero_le _) (by simp) | exact outok_self), by simp [push_cast], ?_⟩
     simp only [push_cast, Nat.reduceAdd]
     unfold fitsP
     first
       | (have h1 : (applyP σ t).size ≤ 4000 := (by omega)
          by_cases h2 : (applyP σ t).depth ≤ 200
          · have h3 : ((applyP σ t).depth : Int) ≤ 200 := (by omega)
            simp [h1, h2, h3]
          · have h3 : ¬ ((applyP σ t).depth : Int) ≤ 200 := (by omega)
            simp [h1, h2, h3])
       | (have h1 : ¬ (applyP σ t).size ≤ 4000 := (by omega); simp [h1]; done)
       | fail "ret"
def subAt (σ : List (List UInt8 × Term)) (i : Nat) : Bool := isNameP (σ.getD i ([], .mk [] false [])).1 false && (decide (i = 0) || decide (Lib.compareBytes (σ.getD (i - 1) ([], .mk [] false [])).1 (σ.getD i ([], .mk [] false [])).1 < 0))
def subCheck (σ : List (List UInt8 × Term)) : Int := if (List.range σ.length).all (subAt σ) then firstErr (σ.map (·.2)) else 4
set_option maxHeartbeats 1600000 in
theorem checkSubst_ac (σ : List (List UInt8 × Term)) (hlen : σ.length < 1099511627776) (hnl : ∀ b, b ∈ σ → b.1.length < 1099511627776 ∧ b.2.bulk ≤ 1099511627775) (H : List AObj) : ACall Try.prog 17 [.sl .none (encL encBd σ)] H (fun r H' => r = .int .i64 (subCheck σ) ∧ H' = H) := by
  refine ACall_intro (H.length) Try.func17 rfl ?_
  simp only [Try.ntmps17, List.length_cons, List.length_nil, List.replicate, List.cons_append, List.nil_append, Nat.reduceAdd, Nat.reduceSub, Nat.zero_add]
  refine AW_seq_k (fun K21 hK21 => ?_)
  refine AW_region ?_
  all_goals (refine AOps_cons rfl (AOp_assign ?_) <;> try simp only [push_cast, Nat.reduceAdd])
  all_goals refine AOps_nil ?_
  all_goals
   refine thenK_normal (hK21 _ ?_)
   try clear hK21
   refine AW_seq_k (fun K22 hK22 => ?_)
   refine AW_seq_k (fun K23 hK23 => ?_)
   refine AW_region ?_
   all_goals refine AOps_cons rfl (AOp_move ?_)
   all_goals (try simp only [push_cast, Nat.reduceAdd])
   all_goals (refine AOps_cons rfl (AOp_len_sl _ _ _ rfl sl43 ?_) <;> try simp only [push_cast, Nat.reduceAdd])
   all_goals (refine AOps_cons rfl (AOp_move ?_) <;> try simp only [push_cast, Nat.reduceAdd])
   all_goals refine AOps_nil ?_
   all_goals
    refine thenK_normal (hK23 _ ?_)
    try clear hK23
    refine AW_block ?_
    refine AW_loopR (maskG 49 [0, 7, 0, 0]) (fun (i : Nat) => [(10, .int .i64 i)]) (fun _ => _) (fun i => i ≤ σ.length ∧ (List.range i).all (subAt σ) = true) (fun i => σ.length - i) 0 ⟨Nat.zero_le _, by simp⟩ (by (simp only [push_cast, Nat.reduceAdd]; (first | refine weak_app0 ?_ | refine weak_same ?_); (repeat (first | exact SlotsOk.nil | refine SlotsOk.junk ?_ | refine SlotsOk.same (by first | (simp [push_cast]; done) | (simp [push_cast, Scoped, ScopedL, *]; done)) ?_ | refine SlotsOk.tok (by first | rfl | (simp; done)) (by first | (simp [push_cast]; done) | (simp [push_cast, Scoped, ScopedL, *]; done)) ?_ | refine SlotsOk.eq (by first | rfl | (congr 1; omega) | (simp; done) | (simp; omega)) (by first | (simp [push_cast]; done) | (simp [push_cast, Scoped, ScopedL, *]; done)) ?_)))) (fun i hi => ?_)
    (try simp only [push_cast, Nat.reduceAdd])
    refine AW_seq_k (fun K24 hK24 => ?_)
    refine AW_region ?_
    all_goals (refine AOps_cons rfl (AOp_bin_int _ _ _ _ rfl rfl rfl ?_) <;> try simp only [push_cast, Nat.reduceAdd])
    all_goals refine AOps_nil ?_
    all_goals
     refine thenK_normal (hK24 _ ?_)
     try clear hK24
     refine AW_seq_k (fun K25 hK25 => ?_)
     apply AW_cond
     case' hc => exact rfl
     case' hf =>
      intro hc26
      try (exfalso; (first | (cases hc26; done) | (simp at hc26; done) | (simp at hc26; omega)); done)
      all_goals (try simp only [decide_eq_true_eq, decide_eq_false_iff_not, Bool.not_eq_true', Bool.not_eq_false', Bool.not_eq_eq_eq_not, Bool.not_true, Bool.not_false] at hc26)
      all_goals
       refine AW_exit ?_
       repeat (first | refine thenK_exit ?_ | refine loopK_exit ?_ | refine blockK_other (by decide) ?_)
       refine blockK_same ?_
       refine thenK_normal (hK22 _ ?_)
       try clear hK22
       refine AW_seq_k (fun K27 hK27 => ?_)
       refine AW_seq_k (fun K28 hK28 => ?_)
       refine AW_region ?_
       all_goals refine AOps_cons rfl (AOp_move ?_)
       all_goals (try simp only [push_cast, Nat.reduceAdd])
       all_goals (refine AOps_cons rfl (AOp_len_sl _ _ _ rfl sl43 ?_) <;> try simp only [push_cast, Nat.reduceAdd])
       all_goals (refine AOps_cons rfl (AOp_move ?_) <;> try simp only [push_cast, Nat.reduceAdd])
       all_goals refine AOps_nil ?_
       all_goals
        refine thenK_normal (hK28 _ ?_)
        try clear hK28
        refine AW_block ?_
        have hall : (List.range σ.length).all (subAt σ) = true := by rw [← show i = σ.length by omega]; exact hi.2
        refine AW_loopR (maskG 49 [36, 0, 0]) (fun (j : Nat) => [(38, .int .i64 j)]) (fun _ => _) (fun j => j ≤ σ.length ∧ firstErr ((σ.map (·.2)).take j) = 0) (fun j => σ.length - j) 0 ⟨Nat.zero_le _, rfl⟩ (by (simp only [push_cast, Nat.reduceAdd]; (first | refine weak_app0 ?_ | refine weak_same ?_); (repeat (first | exact SlotsOk.nil | refine SlotsOk.junk ?_ | refine SlotsOk.same (by first | (simp [push_cast]; done) | (simp [push_cast, Scoped, ScopedL, *]; done)) ?_ | refine SlotsOk.tok (by first | rfl | (simp; done)) (by first | (simp [push_cast]; done) | (simp [push_cast, Scoped, ScopedL, *]; done)) ?_ | refine SlotsOk.eq (by first | rfl | (congr 1; omega) | (simp; done) | (simp; omega)) (by first | (simp [push_cast]; done) | (simp [push_cast, Scoped, ScopedL, *]; done)) ?_)))) (fun j hj => ?_)
        (try simp only [push_cast, Nat.reduceAdd])
        refine AW_seq_k (fun K29 hK29 => ?_)
        refine AW_region ?_
        all_goals (refine AOps_cons rfl (AOp_bin_int _ _ _ _ rfl rfl rfl ?_) <;> try simp only [push_cast, Nat.reduceAdd])
        all_goals refine AOps_nil ?_
        all_goals
         refine thenK_normal (hK29 _ ?_)
         try clear hK29
         refine AW_seq_k (fun K30 hK30 => ?_)
         apply AW_cond
         case' hc => exact rfl
         case' hf =>
          intro hc31
          try (exfalso; (first | (cases hc31; done) | (simp at hc31; done) | (simp at hc31; omega)); done)
          all_goals (try simp only [decide_eq_true_eq, decide_eq_false_iff_not, Bool.not_eq_true', Bool.not_eq_false', Bool.not_eq_eq_eq_not, Bool.not_true, Bool.not_false] at hc31)
          all_goals
           refine AW_exit ?_
           repeat (first | refine thenK_exit ?_ | refine loopK_exit ?_ | refine blockK_other (by decide) ?_)
           refine blockK_same ?_
           refine thenK_normal (hK27 _ ?_)
           try clear hK27
           refine AW_seq_k (fun K32 hK32 => ?_)
           refine AW_region ?_
           all_goals (refine AOps_cons rfl (AOp_assign ?_) <;> try simp only [push_cast, Nat.reduceAdd])
           all_goals refine AOps_nil ?_
           all_goals
            refine thenK_normal (hK32 _ ?_)
            try clear hK32
            refine AW_ret ?_
            repeat (first | refine thenK_ret ?_ | refine loopK_ret ?_ | refine blockK_ret ?_)
            refine ⟨by first | exact .inl rfl | exact .inr rfl, _, rfl, (by first | exact outok_app 0 rfl (Nat.zero_le _) (by simp) | exact outok_self), by simp [push_cast], ?_⟩
            simp only [push_cast, Nat.reduceAdd]
            unfold subCheck
            first
              | (have hs : (σ.map (·.2)).take j = σ.map (·.2) := List.take_of_length_le (by simp; omega)
                 rw [hs] at hj
                 rw [hall, hj.2]; simp; done)
              | (have hf := firstErr_drop _ j hj.2
                 rw [List.drop_eq_getElem_cons (by simp; omega)] at hf
                 have hne : ¬ checkP (σ[j]'(by omega)).2 = 0 := (by assumption)
                 simp only [firstErr, List.getElem_map, hne, if_false] at hf
                 rw [hall, hf]; simp; done)
              | (have hbad : subAt σ i = false := (by
                   unfold subAt
                   rw [show σ.getD i ([], .mk [] false []) = σ[i] from by simp [hil], hb]
                   first
                     | rfl
                     | (rw [show σ.getD (i - 1) ([], .mk [] false []) = σ[i - 1]'(by omega) from by simp [show i - 1 < σ.length by omega]]
                        have hq : ¬ Lib.compareBytes (σ[i - 1]'(by omega)).1 σ[i].1 < 0 := (by omega)
                        have h0 : ¬ i = 0 := (by omega)
                        simp [hq, h0]))
                 have hs : (List.range σ.length).all (subAt σ) = false := all_get (i := i) (by simpa using hil) (by simpa using hbad)
                 rw [hs]; simp; done)
              | fail "ret"
         case' ht =>
          intro hc31
          try (exfalso; (first | (cases hc31; done) | (simp at hc31; done) | (simp at hc31; omega)); done)
          all_goals (try simp only [decide_eq_true_eq, decide_eq_false_iff_not, Bool.not_eq_true', Bool.not_eq_false', Bool.not_eq_eq_eq_not, Bool.not_true, Bool.not_false] at hc31)
          all_goals
           refine AW_skip ?_
           refine thenK_normal (hK30 _ ?_)
           try clear hK30
           refine AW_seq_k (fun K33 hK33 => ?_)
           refine AW_block ?_
           refine AW_seq_k (fun K34 hK34 => ?_)
           refine AW_region ?_
           all_goals (refine AOps_cons rfl (AOp_indexAddr_sl 70 _ _ _ _ _ rfl rfl sl43 sz70 (by decide) (by exact uni_encBd _) (by first | omega | (simp; omega)) (by first | omega | (simp [push_cast]; omega) | (simp [push_cast]; done)) ?_) <;> try simp only [push_cast, Nat.reduceAdd])
           all_goals (refine AOps_cons rfl (AOp_load_cptr _ _ rfl sz70 ag70 (by simp [push_cast]) ?_) <;> try simp only [push_cast, Nat.reduceAdd])
           all_goals (refine AOps_cons rfl (AOp_alloc _ zr70 (by simp [ofVal, AV.isCell, Value.oneCell']) ?_) <;> try simp only [push_cast, Nat.reduceAdd])
           all_goals (refine AOps_cons rfl (AOp_store _ _ _ _ _ rfl (by first | exact hget0 | exact hgetN _ rfl | assumption | exact hgetL (by assumption)) rfl rfl (by first | exact .inl rfl | exact .inr ⟨_, rfl⟩) (by simp [push_cast, AV.isCell]) sz70 (by simp [push_cast]) ?_) <;> try simp only [push_cast, Nat.reduceAdd])
           all_goals refine AOps_nil ?_
           all_goals
            refine thenK_normal (hK34 _ ?_)
            try clear hK34
            refine AW_seq_k (fun K35 hK35 => ?_)
            refine AW_region ?_
            all_goals (refine AOps_cons rfl (AOp_fieldAddr_ptr _ _ _ _ rfl fd70_1 (by decide) ?_) <;> try simp only [push_cast, Nat.reduceAdd])
            all_goals (refine AOps_cons rfl (AOp_load_ptr _ _ _ _ rfl (by first | exact hget0 | exact hgetN _ rfl | assumption | exact hgetL (by assumption)) sz27 ag27 (by simp [push_cast]) ?_) <;> try simp only [push_cast, Nat.reduceAdd])
            all_goals refine AOps_cons rfl (AOp_call _ _ _ rfl rfl ok20 ?_)
            all_goals (try simp only [push_cast, Nat.reduceAdd])
            all_goals refine (checkR_ac (σ[j]'(by omega)).2 (hnl _ (by simp)).2 _).mono ?_
            all_goals rintro r H' ⟨rfl, rfl⟩
            all_goals (try simp only [push_cast, Nat.reduceAdd])
            all_goals (refine AOps_cons rfl (AOp_assign ?_) <;> try simp only [push_cast, Nat.reduceAdd])
            all_goals refine AOps_nil ?_
            all_goals
             refine thenK_normal (hK35 _ ?_)
             try clear hK35
             refine AW_seq_k (fun K36 hK36 => ?_)
             refine AW_region ?_
             all_goals refine AOps_cons rfl (AOp_move ?_)
             all_goals (try simp only [push_cast, Nat.reduceAdd])
             all_goals (refine AOps_cons rfl (AOp_bin_int _ _ _ _ rfl rfl rfl ?_) <;> try simp only [push_cast, Nat.reduceAdd])
             all_goals refine AOps_nil ?_
             all_goals
              refine thenK_normal (hK36 _ ?_)
              try clear hK36
              apply AW_cond
              case' hc => exact rfl
              case' hf =>
               intro hc37
               try (exfalso; (first | (cases hc37; done) | (simp at hc37; done) | (simp at hc37; omega)); done)
               all_goals (try simp only [decide_eq_true_eq, decide_eq_false_iff_not, Bool.not_eq_true', Bool.not_eq_false', Bool.not_eq_eq_eq_not, Bool.not_true, Bool.not_false] at hc37)
               all_goals
                refine AW_skip ?_
                refine blockK_normal ?_
                refine thenK_normal (hK33 _ ?_)
                try clear hK33
                refine AW_region ?_
                all_goals refine AOps_cons rfl (AOp_bin_int _ _ _ _ rfl rfl rfl ?_)
                all_goals (try simp only [push_cast, Nat.reduceAdd])
                all_goals (try rw [IntWalk.i64_in _ (by omega)])
                all_goals (try simp only [push_cast, Nat.reduceAdd])
                all_goals (refine AOps_cons rfl (AOp_move ?_) <;> try simp only [push_cast, Nat.reduceAdd])
                all_goals refine AOps_nil ?_
                all_goals
                 refine loopK_normal ?_
                 exact ⟨j + 1, ⟨by omega, firstErr_take _ j (by simp; omega) hj.2 (by simp; assumption)⟩, by (simp only [push_cast, Nat.reduceAdd]; (first | refine weak_app0 ?_ | refine weak_same ?_); (repeat (first | exact SlotsOk.nil | refine SlotsOk.junk ?_ | refine SlotsOk.same (by first | (simp [push_cast]; done) | (simp [push_cast, Scoped, ScopedL, *]; done)) ?_ | refine SlotsOk.tok (by first | rfl | (simp; done)) (by first | (simp [push_cast]; done) | (simp [push_cast, Scoped, ScopedL, *]; done)) ?_ | refine SlotsOk.eq (by first | rfl | (congr 1; omega) | (simp; done) | (simp; omega)) (by first | (simp [push_cast]; done) | (simp [push_cast, Scoped, ScopedL, *]; done)) ?_))), by omega⟩
              case' ht =>
               intro hc37
               try (exfalso; (first | (cases hc37; done) | (simp at hc37; done) | (simp at hc37; omega)); done)
               all_goals (try simp only [decide_eq_true_eq, decide_eq_false_iff_not, Bool.not_eq_true', Bool.not_eq_false', Bool.not_eq_eq_eq_not, Bool.not_true, Bool.not_false] at hc37)
               all_goals
                refine AW_seq_k (fun K38 hK38 => ?_)
                refine AW_region ?_
                all_goals refine AOps_cons rfl (AOp_move ?_)
                all_goals (refine AOps_cons rfl (AOp_assign ?_) <;> try simp only [push_cast, Nat.reduceAdd])
                all_goals refine AOps_nil ?_
                all_goals
                 refine thenK_normal (hK38 _ ?_)
                 try clear hK38
                 refine AW_ret ?_
                 repeat (first | refine thenK_ret ?_ | refine loopK_ret ?_ | refine blockK_ret ?_)
                 refine ⟨by first | exact .inl rfl | exact .inr rfl, _, rfl, (by first | exact outok_app 0 rfl (Nat.zero_le _) (by simp) | exact outok_self), by simp [push_cast], ?_⟩
                 simp only [push_cast, Nat.reduceAdd]
                 unfold subCheck
                 first
                   | (have hs : (σ.map (·.2)).take j = σ.map (·.2) := List.take_of_length_le (by simp; omega)
                      rw [hs] at hj
                      rw [hall, hj.2]; simp; done)
                   | (have hf := firstErr_drop _ j hj.2
                      rw [List.drop_eq_getElem_cons (by simp; omega)] at hf
                      have hne : ¬ checkP (σ[j]'(by omega)).2 = 0 := (by assumption)
                      simp only [firstErr, List.getElem_map, hne, if_false] at hf
                      rw [hall, hf]; simp; done)
                   | (have hbad : subAt σ i = false := (by
                        unfold subAt
                        rw [show σ.getD i ([], .mk [] false []) = σ[i] from by simp [hil], hb]
                        first
                          | rfl
                          | (rw [show σ.getD (i - 1) ([], .mk [] false []) = σ[i - 1]'(by omega) from by simp [show i - 1 < σ.length by omega]]
                             have hq : ¬ Lib.compareBytes (σ[i - 1]'(by omega)).1 σ[i].1 < 0 := (by omega)
                             have h0 : ¬ i = 0 := (by omega)
                             simp [hq, h0]))
                      have hs : (List.range σ.length).all (subAt σ) = false := all_get (i := i) (by simpa using hil) (by simpa using hbad)
                      rw [hs]; simp; done)
                   | fail "ret"
     case' ht =>
      intro hc26
      try (exfalso; (first | (cases hc26; done) | (simp at hc26; done) | (simp at hc26; omega)); done)
      all_goals (try simp only [decide_eq_true_eq, decide_eq_false_iff_not, Bool.not_eq_true', Bool.not_eq_false', Bool.not_eq_eq_eq_not, Bool.not_true, Bool.not_false] at hc26)
      all_goals
       refine AW_skip ?_
       refine thenK_normal (hK25 _ ?_)
       try clear hK25
       refine AW_seq_k (fun K39 hK39 => ?_)
       refine AW_block ?_
       refine AW_seq_k (fun K40 hK40 => ?_)
       refine AW_region ?_
       all_goals refine AOps_cons rfl (AOp_move ?_)
       all_goals (try simp only [push_cast, Nat.reduceAdd])
       all_goals (refine AOps_cons rfl (AOp_indexAddr_sl 70 _ _ _ _ _ rfl rfl sl43 sz70 (by decide) (by exact uni_encBd _) (by first | omega | (simp; omega)) (by first | omega | (simp [push_cast]; omega) | (simp [push_cast]; done)) ?_) <;> try simp only [push_cast, Nat.reduceAdd])
       all_goals (refine AOps_cons rfl (AOp_load_cptr _ _ rfl sz70 ag70 (by simp [push_cast]) ?_) <;> try simp only [push_cast, Nat.reduceAdd])
       all_goals (refine AOps_cons rfl (AOp_alloc _ zr70 (by simp [ofVal, AV.isCell, Value.oneCell']) ?_) <;> try simp only [push_cast, Nat.reduceAdd])
       all_goals refine AOps_cons rfl (AOp_assign ?_)
       all_goals (try simp only [push_cast, Nat.reduceAdd])
       all_goals (refine AOps_cons rfl (AOp_store _ _ _ _ _ rfl (by first | exact hget0 | exact hgetN _ rfl | assumption | exact hgetL (by assumption)) rfl rfl (by first | exact .inl rfl | exact .inr ⟨_, rfl⟩) (by simp [push_cast, AV.isCell]) sz70 (by simp [push_cast]) ?_) <;> try simp only [push_cast, Nat.reduceAdd])
       all_goals refine AOps_nil ?_
       all_goals
        refine thenK_normal (hK40 _ ?_)
        try clear hK40
        refine AW_seq_k (fun K41 hK41 => ?_)
        have hil : i < σ.length := by omega
        have hnli := (hnl σ[i] (by simp)).1
        cases hb : isNameP σ[i].1 false <;> by_cases hi0 : 0 < i
        all_goals first | (have hd : decide ((0 : Int) < (i : Int)) = true := (by simp; omega)) | (have hd : decide ((0 : Int) < (i : Int)) = false := (by simp; omega))
        all_goals
          apply AW_drawE [some 15, some 16, some 17, some 18, some 19, some 20, some 21, some 22, some 23, some 24, some 25, some 26, some 27, some 28, some 29, some 30, some 31, some 32, some 33, some 34] [([], _)] [none, none, none, none, none, none, none, none, none, none, none, none, none, none, none, none, none, none, none, none] 0 [(0, [], [4]), (1, [], [15]), (2, [], [16]), (3, [], [17]), (4, [], [18]), (5, [], [3, 15]), (6, [], [19, 0]), (7, [], [19, 1]), (8, [], [0, 21]), (9, [], [3, 18]), (10, [], [22, 1]), (11, [], [22, 0, 1]), (12, [], [22, 3]), (13, [], [22, 4]), (14, [], [4, 17]), (15, [], [22, 6]), (16, [], [22, 5, 1]), (17, [], [22, 8]), (18, [], [19, 2, 9]), (19, [], [19, 13])] [_, _, _, _, _, _, _, _, _, _, _, _, _, _, _, _, _, _, _, _]
          case' hm => exact dr
          case' hn => rfl
          case' hok => rfl
          case' hlen => rfl
          case' hd => rfl
          case' h0 => rfl
          case' hstep =>
           simp only [DAllG, keepG, List.map_cons, List.map_nil, putD, stg, beqB, List.set_cons_zero, List.set_cons_succ, List.getD_cons_zero, List.getD_cons_succ, Option.isSome_some, Option.isSome_none]
           apply And.intro
           · apply DOne_do
             case' ho => rfl
             case' hw => rfl
             refine AOp_fieldAddr_ptr _ _ _ _ rfl fd70_0 (by decide) ?_
             all_goals (try simp only [push_cast, Nat.reduceAdd])
             all_goals (constructor <;> first | rfl | trivial)
           apply And.intro
           · apply DOne_do
             case' ho => rfl
             case' hw => rfl
             refine AOp_load1_ptr _ _ _ _ _ rfl (by first | exact hget0 | exact hgetN _ rfl | assumption | exact hgetL (by assumption)) sz9 ag9 (by decide) (by simp [push_cast]) rfl ?_
             all_goals (try simp only [push_cast, Nat.reduceAdd])
             all_goals (constructor <;> first | rfl | trivial)
           apply And.intro
           · apply DOne_do
             case' ho => rfl
             case' hw => rfl
             refine AOp_call _ _ _ rfl rfl ok36 ?_
             (try simp only [push_cast, Nat.reduceAdd])
             refine (isNameR_ac _ _ hnli _).mono ?_
             rintro r H' ⟨rfl, rfl⟩
             simp only [hb]
             all_goals (try simp only [push_cast, Nat.reduceAdd])
             all_goals (constructor <;> first | rfl | trivial)
           apply And.intro
           · apply DOne_do
             case' ho => rfl
             case' hw => rfl
             refine AOp_not _ rfl ?_
             all_goals (try simp only [push_cast, Nat.reduceAdd])
             all_goals (constructor <;> first | rfl | trivial)
           apply And.intro
           · apply DOne_do
             case' ho => rfl
             case' hw => rfl
             refine AOp_move ?_
             all_goals (try simp only [push_cast, Nat.reduceAdd])
             all_goals (constructor <;> first | rfl | trivial)
           apply And.intro
           · first
             | exact DOne_no rfl rfl rfl
             | (apply DOne_do
                case' ho => rfl
                case' hw => rfl
                refine AOp_move ?_
                all_goals (try simp only [push_cast, Nat.reduceAdd])
                all_goals (constructor <;> first | rfl | trivial))
           apply And.intro
           · first
             | exact DOne_no rfl rfl rfl
             | (apply DOne_do
                case' ho => rfl
                case' hw => rfl
                refine AOp_bin_int _ _ _ _ rfl rfl rfl ?_
                rw [hd]
                all_goals (try simp only [push_cast, Nat.reduceAdd])
                all_goals (constructor <;> first | rfl | trivial))
           apply And.intro
           · first
             | exact DOne_no rfl rfl rfl
             | (apply DOne_do
                case' ho => rfl
                case' hw => rfl
                refine AOp_move ?_
                all_goals (try simp only [push_cast, Nat.reduceAdd])
                all_goals (constructor <;> first | rfl | trivial))
           apply And.intro
           · first
             | exact DOne_no rfl rfl rfl
             | (apply DOne_do
                case' ho => rfl
                case' hw => rfl
                refine AOp_move ?_
                all_goals (try simp only [push_cast, Nat.reduceAdd])
                all_goals (constructor <;> first | rfl | trivial))
           apply And.intro
           · first
             | exact DOne_no rfl rfl rfl
             | (apply DOne_do
                case' ho => rfl
                case' hw => rfl
                refine AOp_move ?_
                all_goals (try simp only [push_cast, Nat.reduceAdd])
                all_goals (constructor <;> first | rfl | trivial))
           apply And.intro
           · first
             | exact DOne_no rfl rfl rfl
             | (apply DOne_do
                case' ho => rfl
                case' hw => rfl
                refine AOp_bin_int _ _ _ _ rfl rfl rfl ?_
                (try simp only [push_cast, Nat.reduceAdd])
                (try rw [IntWalk.i64_in _ (by omega)])
                rw [show (i : Int) - 1 = ((i - 1 : Nat) : Int) from by omega]
                all_goals (try simp only [push_cast, Nat.reduceAdd])
                all_goals (constructor <;> first | rfl | trivial))
           apply And.intro
           · first
             | exact DOne_no rfl rfl rfl
             | (apply DOne_do
                case' ho => rfl
                case' hw => rfl
                refine AOp_indexAddr_sl 70 _ _ _ _ _ rfl rfl sl43 sz70 (by decide) (by exact uni_encBd _) (by first | omega | (simp; omega)) (by first | omega | (simp [push_cast]; omega) | (simp [push_cast]; done)) ?_
                all_goals (try simp only [push_cast, Nat.reduceAdd])
                all_goals (constructor <;> first | rfl | trivial))
           apply And.intro
           · first
             | exact DOne_no rfl rfl rfl
             | (apply DOne_do
                case' ho => rfl
                case' hw => rfl
                refine AOp_fieldAddr_cptr _ _ _ rfl fd70_0 (by decide) (by simp [push_cast]) ?_
                all_goals (try simp only [push_cast, Nat.reduceAdd])
                all_goals (constructor <;> first | rfl | trivial))
           apply And.intro
           · first
             | exact DOne_no rfl rfl rfl
             | (apply DOne_do
                case' ho => rfl
                case' hw => rfl
                refine AOp_load1_cptr _ _ _ rfl sz9 ag9 rfl ?_
                all_goals (try simp only [push_cast, Nat.reduceAdd])
                all_goals (constructor <;> first | rfl | trivial))
           apply And.intro
           · first
             | exact DOne_no rfl rfl rfl
             | (apply DOne_do
                case' ho => rfl
                case' hw => rfl
                refine AOp_fieldAddr_ptr _ _ _ _ rfl fd70_0 (by decide) ?_
                all_goals (try simp only [push_cast, Nat.reduceAdd])
                all_goals (constructor <;> first | rfl | trivial))
           apply And.intro
           · first
             | exact DOne_no rfl rfl rfl
             | (apply DOne_do
                case' ho => rfl
                case' hw => rfl
                refine AOp_load1_ptr _ _ _ _ _ rfl (by first | exact hget0 | exact hgetN _ rfl | assumption | exact hgetL (by assumption)) sz9 ag9 (by decide) (by simp [push_cast]) rfl ?_
                all_goals (try simp only [push_cast, Nat.reduceAdd])
                all_goals (constructor <;> first | rfl | trivial))
           apply And.intro
           · first
             | exact DOne_no rfl rfl rfl
             | (apply DOne_do
                case' ho => rfl
                case' hw => rfl
                refine AOp_call _ _ _ rfl rfl ok37 ?_
                (try simp only [push_cast, Nat.reduceAdd])
                refine (cmpNames_ac (σ[i - 1]'(by omega)).1 σ[i].1 (hnl _ (by simp)).1 hnli _).mono ?_
                rintro r H' ⟨rfl, rfl⟩
                all_goals (try simp only [push_cast, Nat.reduceAdd])
                all_goals (constructor <;> first | rfl | trivial))
           apply And.intro
           · first
             | exact DOne_no rfl rfl rfl
             | (apply DOne_do
                case' ho => rfl
                case' hw => rfl
                refine AOp_bin_int _ _ _ _ rfl rfl rfl ?_
                all_goals (try simp only [push_cast, Nat.reduceAdd])
                all_goals (constructor <;> first | rfl | trivial))
           apply And.intro
           · first
             | exact DOne_no rfl rfl rfl
             | (apply DOne_do
                case' ho => rfl
                case' hw => rfl
                refine AOp_pick _ rfl ?_
                all_goals (try simp only [push_cast, Nat.reduceAdd])
                all_goals (constructor <;> first | rfl | trivial))
           apply And.intro
           · apply DOne_do
             case' ho => rfl
             case' hw => rfl
             refine AOp_pick _ rfl ?_
             all_goals (try simp only [push_cast, Nat.reduceAdd])
             all_goals (constructor <;> first | rfl | trivial)
           exact trivial
          case' hQ => skip
          (try simp only [push_cast, putD, stg, beqB, List.replicate, Nat.reduceAdd, List.getD_cons_zero, List.getD_cons_succ])
        all_goals
         refine thenK_normal (hK41 _ ?_)
         try clear hK41
         apply AW_cond
         case' hc => exact rfl
         case' hf =>
          intro hc42
          try (exfalso; (first | (cases hc42; done) | (simp at hc42; done) | (simp at hc42; omega)); done)
          all_goals (try simp only [decide_eq_true_eq, decide_eq_false_iff_not, Bool.not_eq_true', Bool.not_eq_false', Bool.not_eq_eq_eq_not, Bool.not_true, Bool.not_false] at hc42)
          all_goals
           refine AW_skip ?_
           refine blockK_normal ?_
           refine thenK_normal (hK39 _ ?_)
           try clear hK39
           refine AW_region ?_
           all_goals refine AOps_cons rfl (AOp_bin_int _ _ _ _ rfl rfl rfl ?_)
           all_goals (try simp only [push_cast, Nat.reduceAdd])
           all_goals (try rw [IntWalk.i64_in _ (by omega)])
           all_goals (try simp only [push_cast, Nat.reduceAdd])
           all_goals (refine AOps_cons rfl (AOp_move ?_) <;> try simp only [push_cast, Nat.reduceAdd])
           all_goals refine AOps_nil ?_
           all_goals
            refine loopK_normal ?_
            refine ⟨i + 1, ⟨by omega, ?_⟩, by (simp only [push_cast, Nat.reduceAdd]; (first | refine weak_app0 ?_ | refine weak_same ?_); (repeat (first | exact SlotsOk.nil | refine SlotsOk.junk ?_ | refine SlotsOk.same (by first | (simp [push_cast]; done) | (simp [push_cast, Scoped, ScopedL, *]; done)) ?_ | refine SlotsOk.tok (by first | rfl | (simp; done)) (by first | (simp [push_cast]; done) | (simp [push_cast, Scoped, ScopedL, *]; done)) ?_ | refine SlotsOk.eq (by first | rfl | (congr 1; omega) | (simp; done) | (simp; omega)) (by first | (simp [push_cast]; done) | (simp [push_cast, Scoped, ScopedL, *]; done)) ?_))), by omega⟩
            have hil : i < σ.length := by omega
            have hg : subAt σ i = true := by
              unfold subAt
              rw [show σ.getD i ([], .mk [] false []) = σ[i] from by simp [hil]]
              have hb : isNameP σ[i].1 false = true := by assumption
              rw [hb]
              by_cases h0 : i = 0
              · simp [h0]
              · rw [show σ.getD (i - 1) ([], .mk [] false []) = σ[i - 1]'(by omega) from by simp [show i - 1 < σ.length by omega]]
                have hq : Lib.compareBytes (σ[i - 1]'(by omega)).1 σ[i].1 < 0 := by omega
                simp [hq]
            rw [List.range_succ, List.all_append, hi.2]; simp [hg]
         case' ht =>
          intro hc42
          try (exfalso; (first | (cases hc42; done) | (simp at hc42; done) | (simp at hc42; omega)); done)
          all_goals (try simp only [decide_eq_true_eq, decide_eq_false_iff_not, Bool.not_eq_true', Bool.not_eq_false', Bool.not_eq_eq_eq_not, Bool.not_true, Bool.not_false] at hc42)
          all_goals
           refine AW_seq_k (fun K43 hK43 => ?_)
           refine AW_region ?_
           all_goals (refine AOps_cons rfl (AOp_assign ?_) <;> try simp only [push_cast, Nat.reduceAdd])
           all_goals refine AOps_nil ?_
           all_goals
            refine thenK_normal (hK43 _ ?_)
            try clear hK43
            refine AW_ret ?_
            repeat (first | refine thenK_ret ?_ | refine loopK_ret ?_ | refine blockK_ret ?_)
            refine ⟨by first | exact .inl rfl | exact .inr rfl, _, rfl, (by first | exact outok_app 0 rfl (Nat.zero_le _) (by simp) | exact outok_self), by simp [push_cast], ?_⟩
            simp only [push_cast, Nat.reduceAdd]
            unfold subCheck
            first
              | (have hs : (σ.map (·.2)).take j = σ.map (·.2) := List.take_of_length_le (by simp; omega)
                 rw [hs] at hj
                 rw [hall, hj.2]; simp; done)
              | (have hf := firstErr_drop _ j hj.2
                 rw [List.drop_eq_getElem_cons (by simp; omega)] at hf
                 have hne : ¬ checkP (σ[j]'(by omega)).2 = 0 := (by assumption)
                 simp only [firstErr, List.getElem_map, hne, if_false] at hf
                 rw [hall, hf]; simp; done)
              | (have hbad : subAt σ i = false := (by
                   unfold subAt
                   rw [show σ.getD i ([], .mk [] false []) = σ[i] from by simp [hil], hb]
                   first
                     | rfl
                     | (rw [show σ.getD (i - 1) ([], .mk [] false []) = σ[i - 1]'(by omega) from by simp [show i - 1 < σ.length by omega]]
                        have hq : ¬ Lib.compareBytes (σ[i - 1]'(by omega)).1 σ[i].1 < 0 := (by omega)
                        have h0 : ¬ i = 0 := (by omega)
                        simp [hq, h0]))
                 have hs : (List.range σ.length).all (subAt σ) = false := all_get (i := i) (by simpa using hil) (by simpa using hbad)
                 rw [hs]; simp; done)
              | fail "ret"
end Ab
