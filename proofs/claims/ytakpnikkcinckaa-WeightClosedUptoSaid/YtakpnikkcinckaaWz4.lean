/- Part 4 of 6 of a proof. WeightClosed -/
import Derived.Test.YtakpnikkcinckaaWz3
set_option linter.unusedVariables false
set_option linter.unusedSimpArgs false
set_option maxRecDepth 10000
namespace Ab
open Go Go.Proofs
attribute [local push_cast] encT
theorem sizeR_ac (t : Term) : t.bulk ≤ 1099511627776 → ∀ H, ACall Try.prog 41 [encT t] H (fun r H' => r = .int .i64 t.size ∧ H' = H) := by
  refine Term.ind (p := fun t => t.bulk ≤ 1099511627776 → ∀ H, ACall Try.prog 41 [encT t] H (fun r H' => r = .int .i64 t.size ∧ H' = H)) (fun n v xs ih => ?_) t
  intro hb H
  have hs := (Term.mk n v xs).size_le
  have hlen := Term.len_le (n := n) (v := v) (xs := xs)
  rw [Term.size_mk] at hs ⊢
  simp only [encT, Term.name, Term.var, Term.args]
  refine ACall_intro (H.length) Try.func41 rfl ?_
  simp only [Try.ntmps41, List.length_cons, List.length_nil, List.replicate, List.cons_append, List.nil_append, Nat.reduceAdd, Nat.reduceSub, Nat.zero_add]
  refine AW_seq_k (fun K1 hK1 => ?_)
  refine AW_region ?_
  all_goals (refine AOps_cons rfl (AOp_box _ _ rfl rfl (by first | exact .inl rfl | exact .inr ⟨_, rfl⟩) (by simp [push_cast, AV.isCell]) ?_) <;> try simp only [push_cast, Nat.reduceAdd])
  all_goals (refine AOps_cons rfl (AOp_assign ?_) <;> try simp only [push_cast, Nat.reduceAdd])
  all_goals refine AOps_nil ?_
  all_goals
   refine thenK_normal (hK1 _ ?_)
   try clear hK1
   refine AW_seq_k (fun K2 hK2 => ?_)
   refine AW_region ?_
   all_goals (refine AOps_cons rfl (AOp_assign ?_) <;> try simp only [push_cast, Nat.reduceAdd])
   all_goals refine AOps_nil ?_
   all_goals
    refine thenK_normal (hK2 _ ?_)
    try clear hK2
    refine AW_seq_k (fun K3 hK3 => ?_)
    refine AW_seq_k (fun K4 hK4 => ?_)
    refine AW_region ?_
    all_goals (refine AOps_cons rfl (AOp_fieldAddr_ptr _ _ _ _ rfl fd27_2 (by decide) ?_) <;> try simp only [push_cast, Nat.reduceAdd])
    all_goals (refine AOps_cons rfl (AOp_load1_ptr _ _ _ _ _ rfl (by first | exact hget0 | exact hgetN _ rfl | assumption | exact hgetL (by assumption)) sz25 ag25 (by decide) (by simp [push_cast]) rfl ?_) <;> try simp only [push_cast, Nat.reduceAdd])
    all_goals (refine AOps_cons rfl (AOp_len_sl _ _ _ rfl sl25 ?_) <;> try simp only [push_cast, Nat.reduceAdd])
    all_goals (refine AOps_cons rfl (AOp_move ?_) <;> try simp only [push_cast, Nat.reduceAdd])
    all_goals refine AOps_nil ?_
    all_goals
     refine thenK_normal (hK4 _ ?_)
     try clear hK4
     refine AW_block ?_
     refine AW_loopR (maskG 19 [3, 3, 0, 0]) (fun (i : Nat) => [(9, .int .i64 i), (3, .int .i64 (1 + ((xs.take i).map Term.size).sum : Nat))]) (fun _ => _) (fun i => i ≤ xs.length) (fun i => xs.length - i) 0 (Nat.zero_le _) (by (simp only [push_cast, Nat.reduceAdd]; refine weak_app 1 ?_ (by simp) (by simp [push_cast]); (repeat (first | exact SlotsOk.nil | refine SlotsOk.junk ?_ | refine SlotsOk.same (by first | (simp [push_cast]; done) | (simp [push_cast, Scoped, ScopedL, *]; done)) ?_ | refine SlotsOk.tok (by first | rfl | (simp; done)) (by first | (simp [push_cast]; done) | (simp [push_cast, Scoped, ScopedL, *]; done)) ?_ | refine SlotsOk.eq (by first | rfl | (congr 1; omega) | (simp; done) | (simp; omega)) (by first | (simp [push_cast]; done) | (simp [push_cast, Scoped, ScopedL, *]; done)) ?_)))) (fun i hi => ?_)
     (try simp only [push_cast, Nat.reduceAdd])
     refine AW_seq_k (fun K5 hK5 => ?_)
     refine AW_region ?_
     all_goals (refine AOps_cons rfl (AOp_bin_int _ _ _ _ rfl rfl rfl ?_) <;> try simp only [push_cast, Nat.reduceAdd])
     all_goals refine AOps_nil ?_
     all_goals
      refine thenK_normal (hK5 _ ?_)
      try clear hK5
      refine AW_seq_k (fun K6 hK6 => ?_)
      apply AW_cond
      case' hc => exact rfl
      case' hf =>
       intro hc7
       try (exfalso; (first | (cases hc7; done) | (simp at hc7; done) | (simp at hc7; omega)); done)
       all_goals (try simp only [decide_eq_true_eq, decide_eq_false_iff_not, Bool.not_eq_true', Bool.not_eq_false', Bool.not_eq_eq_eq_not, Bool.not_true, Bool.not_false] at hc7)
       all_goals
        refine AW_exit ?_
        repeat (first | refine thenK_exit ?_ | refine loopK_exit ?_ | refine blockK_other (by decide) ?_)
        refine blockK_same ?_
        refine thenK_normal (hK3 _ ?_)
        try clear hK3
        refine AW_seq_k (fun K8 hK8 => ?_)
        refine AW_region ?_
        all_goals refine AOps_cons rfl (AOp_move ?_)
        all_goals (refine AOps_cons rfl (AOp_assign ?_) <;> try simp only [push_cast, Nat.reduceAdd])
        all_goals refine AOps_nil ?_
        all_goals
         refine thenK_normal (hK8 _ ?_)
         try clear hK8
         refine AW_ret ?_
         repeat (first | refine thenK_ret ?_ | refine loopK_ret ?_ | refine blockK_ret ?_)
         have e : xs.take i = xs := List.take_of_length_le (by omega)
         rw [e]
         refine ⟨by first | exact .inl rfl | exact .inr rfl, _, rfl, (by first | exact outok_app 0 rfl (Nat.zero_le _) (by simp) | exact outok_self), by simp [push_cast], ?_⟩
         simp only [push_cast, Nat.reduceAdd]
         (first | (simp; done) | (simp; omega) | omega)
      case' ht =>
       intro hc7
       try (exfalso; (first | (cases hc7; done) | (simp at hc7; done) | (simp at hc7; omega)); done)
       all_goals (try simp only [decide_eq_true_eq, decide_eq_false_iff_not, Bool.not_eq_true', Bool.not_eq_false', Bool.not_eq_eq_eq_not, Bool.not_true, Bool.not_false] at hc7)
       all_goals
        refine AW_skip ?_
        refine thenK_normal (hK6 _ ?_)
        try clear hK6
        refine AW_seq_k (fun K9 hK9 => ?_)
        refine AW_block ?_
        refine AW_seq_k (fun K10 hK10 => ?_)
        refine AW_region ?_
        all_goals (refine AOps_cons rfl (AOp_indexAddr_sl 27 _ _ _ _ _ rfl rfl sl25 sz27 (by decide) (by exact uni_encTs _) (by first | omega | (simp; omega)) (by first | omega | (simp [push_cast]; omega) | (simp [push_cast]; done)) ?_) <;> try simp only [push_cast, Nat.reduceAdd])
        all_goals (refine AOps_cons rfl (AOp_load_cptr _ _ rfl sz27 ag27 (by simp [push_cast]) ?_) <;> try simp only [push_cast, Nat.reduceAdd])
        all_goals (refine AOps_cons rfl (AOp_alloc _ zr27 (by simp [ofVal, AV.isCell, Value.oneCell']) ?_) <;> try simp only [push_cast, Nat.reduceAdd])
        all_goals (refine AOps_cons rfl (AOp_store _ _ _ _ _ rfl (by first | exact hget0 | exact hgetN _ rfl | assumption | exact hgetL (by assumption)) rfl rfl (by first | exact .inl rfl | exact .inr ⟨_, rfl⟩) (by simp [push_cast, AV.isCell]) sz27 (by simp [push_cast]) ?_) <;> try simp only [push_cast, Nat.reduceAdd])
        all_goals refine AOps_nil ?_
        all_goals
         refine thenK_normal (hK10 _ ?_)
         try clear hK10
         refine AW_region ?_
         all_goals refine AOps_cons rfl (AOp_move ?_)
         all_goals (try simp only [push_cast, Nat.reduceAdd])
         all_goals (refine AOps_cons rfl (AOp_load_ptr _ _ _ _ rfl (by first | exact hget0 | exact hgetN _ rfl | assumption | exact hgetL (by assumption)) sz27 ag27 (by simp [push_cast]) ?_) <;> try simp only [push_cast, Nat.reduceAdd])
         all_goals refine AOps_cons rfl (AOp_call _ _ _ rfl rfl ok41 ?_)
         all_goals (try simp only [push_cast, Nat.reduceAdd])
         all_goals have e := take_sum Term.size xs i (by omega)
         all_goals have hle := take_sum_le Term.size xs (i + 1)
         all_goals have hmem : xs[i]'(by omega) ∈ xs := by simp
         all_goals have hbx := Term.arg_le (n := n) (v := v) hmem
         all_goals refine (ih (xs[i]'(by omega)) hmem (by omega) _).mono ?_
         all_goals rintro r H' ⟨rfl, rfl⟩
         all_goals (try simp only [push_cast, Nat.reduceAdd])
         all_goals refine AOps_cons rfl (AOp_bin_int _ _ _ _ rfl rfl rfl ?_)
         all_goals (try simp only [push_cast, Nat.reduceAdd])
         all_goals (try rw [IntWalk.i64_in _ (by omega)])
         all_goals (try simp only [push_cast, Nat.reduceAdd])
         all_goals (refine AOps_cons rfl (AOp_assign ?_) <;> try simp only [push_cast, Nat.reduceAdd])
         all_goals refine AOps_nil ?_
         all_goals
          refine blockK_normal ?_
          refine thenK_normal (hK9 _ ?_)
          try clear hK9
          refine AW_region ?_
          all_goals refine AOps_cons rfl (AOp_bin_int _ _ _ _ rfl rfl rfl ?_)
          all_goals (try simp only [push_cast, Nat.reduceAdd])
          all_goals (try rw [IntWalk.i64_in _ (by omega)])
          all_goals (try simp only [push_cast, Nat.reduceAdd])
          all_goals (refine AOps_cons rfl (AOp_move ?_) <;> try simp only [push_cast, Nat.reduceAdd])
          all_goals refine AOps_nil ?_
          all_goals
           refine loopK_normal ?_
           exact ⟨i + 1, by omega, by (simp only [push_cast, Nat.reduceAdd]; refine weak_app 1 ?_ (by simp) (by simp [push_cast]); (repeat (first | exact SlotsOk.nil | refine SlotsOk.junk ?_ | refine SlotsOk.same (by first | (simp [push_cast]; done) | (simp [push_cast, Scoped, ScopedL, *]; done)) ?_ | refine SlotsOk.tok (by first | rfl | (simp; done)) (by first | (simp [push_cast]; done) | (simp [push_cast, Scoped, ScopedL, *]; done)) ?_ | refine SlotsOk.eq (by first | rfl | (congr 1; omega) | (simp; done) | (simp; omega)) (by first | (simp [push_cast]; done) | (simp [push_cast, Scoped, ScopedL, *]; done)) ?_))), by omega⟩
theorem depthR_ac (t : Term) : t.bulk ≤ 1099511627776 → ∀ H, ACall Try.prog 42 [encT t] H (fun r H' => r = .int .i64 t.depth ∧ H' = H) := by
  refine Term.ind (p := fun t => t.bulk ≤ 1099511627776 → ∀ H, ACall Try.prog 42 [encT t] H (fun r H' => r = .int .i64 t.depth ∧ H' = H)) (fun n v xs ih => ?_) t
  intro hb H
  have hs := (Term.mk n v xs).size_le
  have hd := (Term.mk n v xs).depth_le
  have hlen := Term.len_le (n := n) (v := v) (xs := xs)
  rw [Term.depth_mk] at hd ⊢
  simp only [encT, Term.name, Term.var, Term.args]
  refine ACall_intro (H.length) Try.func42 rfl ?_
  simp only [Try.ntmps42, List.length_cons, List.length_nil, List.replicate, List.cons_append, List.nil_append, Nat.reduceAdd, Nat.reduceSub, Nat.zero_add]
  refine AW_seq_k (fun K11 hK11 => ?_)
  refine AW_region ?_
  all_goals (refine AOps_cons rfl (AOp_box _ _ rfl rfl (by first | exact .inl rfl | exact .inr ⟨_, rfl⟩) (by simp [push_cast, AV.isCell]) ?_) <;> try simp only [push_cast, Nat.reduceAdd])
  all_goals (refine AOps_cons rfl (AOp_assign ?_) <;> try simp only [push_cast, Nat.reduceAdd])
  all_goals refine AOps_nil ?_
  all_goals
   refine thenK_normal (hK11 _ ?_)
   try clear hK11
   refine AW_seq_k (fun K12 hK12 => ?_)
   refine AW_region ?_
   all_goals (refine AOps_cons rfl (AOp_assign ?_) <;> try simp only [push_cast, Nat.reduceAdd])
   all_goals refine AOps_nil ?_
   all_goals
    refine thenK_normal (hK12 _ ?_)
    try clear hK12
    refine AW_seq_k (fun K13 hK13 => ?_)
    refine AW_seq_k (fun K14 hK14 => ?_)
    refine AW_region ?_
    all_goals (refine AOps_cons rfl (AOp_fieldAddr_ptr _ _ _ _ rfl fd27_2 (by decide) ?_) <;> try simp only [push_cast, Nat.reduceAdd])
    all_goals (refine AOps_cons rfl (AOp_load1_ptr _ _ _ _ _ rfl (by first | exact hget0 | exact hgetN _ rfl | assumption | exact hgetL (by assumption)) sz25 ag25 (by decide) (by simp [push_cast]) rfl ?_) <;> try simp only [push_cast, Nat.reduceAdd])
    all_goals (refine AOps_cons rfl (AOp_len_sl _ _ _ rfl sl25 ?_) <;> try simp only [push_cast, Nat.reduceAdd])
    all_goals (refine AOps_cons rfl (AOp_move ?_) <;> try simp only [push_cast, Nat.reduceAdd])
    all_goals refine AOps_nil ?_
    all_goals
     refine thenK_normal (hK14 _ ?_)
     try clear hK14
     refine AW_block ?_
     refine AW_loopR (maskG 20 [3, 3, 0, 0]) (fun (i : Nat) => [(9, .int .i64 i), (3, .int .i64 (((xs.take i).map Term.depth).foldl max 0 : Nat))]) (fun _ => _) (fun i => i ≤ xs.length ∧ ((xs.take i).map Term.depth).foldl max 0 ≤ 1099511627776) (fun i => xs.length - i) 0 ⟨Nat.zero_le _, by simp⟩ (by (simp only [push_cast, Nat.reduceAdd]; refine weak_app 1 ?_ (by simp) (by simp [push_cast]); (repeat (first | exact SlotsOk.nil | refine SlotsOk.junk ?_ | refine SlotsOk.same (by first | (simp [push_cast]; done) | (simp [push_cast, Scoped, ScopedL, *]; done)) ?_ | refine SlotsOk.tok (by first | rfl | (simp; done)) (by first | (simp [push_cast]; done) | (simp [push_cast, Scoped, ScopedL, *]; done)) ?_ | refine SlotsOk.eq (by first | rfl | (congr 1; omega) | (simp; done) | (simp; omega)) (by first | (simp [push_cast]; done) | (simp [push_cast, Scoped, ScopedL, *]; done)) ?_)))) (fun i hi => ?_)
     (try simp only [push_cast, Nat.reduceAdd])
     refine AW_seq_k (fun K15 hK15 => ?_)
     refine AW_region ?_
     all_goals (refine AOps_cons rfl (AOp_bin_int _ _ _ _ rfl rfl rfl ?_) <;> try simp only [push_cast, Nat.reduceAdd])
     all_goals refine AOps_nil ?_
     all_goals
      refine thenK_normal (hK15 _ ?_)
      try clear hK15
      refine AW_seq_k (fun K16 hK16 => ?_)
      apply AW_cond
      case' hc => exact rfl
      case' hf =>
       intro hc17
       try (exfalso; (first | (cases hc17; done) | (simp at hc17; done) | (simp at hc17; omega)); done)
       all_goals (try simp only [decide_eq_true_eq, decide_eq_false_iff_not, Bool.not_eq_true', Bool.not_eq_false', Bool.not_eq_eq_eq_not, Bool.not_true, Bool.not_false] at hc17)
       all_goals
        refine AW_exit ?_
        repeat (first | refine thenK_exit ?_ | refine loopK_exit ?_ | refine blockK_other (by decide) ?_)
        refine blockK_same ?_
        refine thenK_normal (hK13 _ ?_)
        try clear hK13
        refine AW_seq_k (fun K18 hK18 => ?_)
        refine AW_region ?_
        all_goals refine AOps_cons rfl (AOp_move ?_)
        all_goals (try simp only [push_cast, Nat.reduceAdd])
        all_goals refine AOps_cons rfl (AOp_bin_int _ _ _ _ rfl rfl rfl ?_)
        all_goals (try simp only [push_cast, Nat.reduceAdd])
        all_goals (try rw [IntWalk.i64_in _ (by omega)])
        all_goals (try simp only [push_cast, Nat.reduceAdd])
        all_goals (refine AOps_cons rfl (AOp_assign ?_) <;> try simp only [push_cast, Nat.reduceAdd])
        all_goals refine AOps_nil ?_
        all_goals
         refine thenK_normal (hK18 _ ?_)
         try clear hK18
         refine AW_ret ?_
         repeat (first | refine thenK_ret ?_ | refine loopK_ret ?_ | refine blockK_ret ?_)
         have e : xs.take i = xs := List.take_of_length_le (by omega)
         rw [e]
         refine ⟨by first | exact .inl rfl | exact .inr rfl, _, rfl, (by first | exact outok_app 0 rfl (Nat.zero_le _) (by simp) | exact outok_self), by simp [push_cast], ?_⟩
         simp only [push_cast, Nat.reduceAdd]
         (first | (simp; done) | (simp; omega) | omega)
      case' ht =>
       intro hc17
       try (exfalso; (first | (cases hc17; done) | (simp at hc17; done) | (simp at hc17; omega)); done)
       all_goals (try simp only [decide_eq_true_eq, decide_eq_false_iff_not, Bool.not_eq_true', Bool.not_eq_false', Bool.not_eq_eq_eq_not, Bool.not_true, Bool.not_false] at hc17)
       all_goals
        refine AW_skip ?_
        refine thenK_normal (hK16 _ ?_)
        try clear hK16
        refine AW_seq_k (fun K19 hK19 => ?_)
        refine AW_block ?_
        refine AW_seq_k (fun K20 hK20 => ?_)
        refine AW_region ?_
        all_goals (refine AOps_cons rfl (AOp_indexAddr_sl 27 _ _ _ _ _ rfl rfl sl25 sz27 (by decide) (by exact uni_encTs _) (by first | omega | (simp; omega)) (by first | omega | (simp [push_cast]; omega) | (simp [push_cast]; done)) ?_) <;> try simp only [push_cast, Nat.reduceAdd])
        all_goals (refine AOps_cons rfl (AOp_load_cptr _ _ rfl sz27 ag27 (by simp [push_cast]) ?_) <;> try simp only [push_cast, Nat.reduceAdd])
        all_goals (refine AOps_cons rfl (AOp_alloc _ zr27 (by simp [ofVal, AV.isCell, Value.oneCell']) ?_) <;> try simp only [push_cast, Nat.reduceAdd])
        all_goals (refine AOps_cons rfl (AOp_store _ _ _ _ _ rfl (by first | exact hget0 | exact hgetN _ rfl | assumption | exact hgetL (by assumption)) rfl rfl (by first | exact .inl rfl | exact .inr ⟨_, rfl⟩) (by simp [push_cast, AV.isCell]) sz27 (by simp [push_cast]) ?_) <;> try simp only [push_cast, Nat.reduceAdd])
        all_goals refine AOps_nil ?_
        all_goals
         refine thenK_normal (hK20 _ ?_)
         try clear hK20
         refine AW_region ?_
         all_goals refine AOps_cons rfl (AOp_move ?_)
         all_goals (try simp only [push_cast, Nat.reduceAdd])
         all_goals (refine AOps_cons rfl (AOp_load_ptr _ _ _ _ rfl (by first | exact hget0 | exact hgetN _ rfl | assumption | exact hgetL (by assumption)) sz27 ag27 (by simp [push_cast]) ?_) <;> try simp only [push_cast, Nat.reduceAdd])
         all_goals refine AOps_cons rfl (AOp_call _ _ _ rfl rfl ok42 ?_)
         all_goals (try simp only [push_cast, Nat.reduceAdd])
         all_goals have e : ((xs.take (i + 1)).map Term.depth).foldl max 0 = max (((xs.take i).map Term.depth).foldl max 0) (xs[i]'(by omega)).depth := by rw [List.take_succ_eq_append_getElem (by omega), List.map_append, List.foldl_append]; simp
         all_goals have hmem : xs[i]'(by omega) ∈ xs := by simp
         all_goals have hbx := Term.arg_le (n := n) (v := v) hmem
         all_goals have hdx := (xs[i]'(by omega)).depth_le
         all_goals have hsx := (xs[i]'(by omega)).size_le
         all_goals refine (ih (xs[i]'(by omega)) hmem (by omega) _).mono ?_
         all_goals rintro r H' ⟨rfl, rfl⟩
         all_goals (try simp only [push_cast, Nat.reduceAdd])
         all_goals (refine AOps_cons rfl (AOp_max _ _ _ rfl rfl ?_) <;> try simp only [push_cast, Nat.reduceAdd])
         all_goals (refine AOps_cons rfl (AOp_assign ?_) <;> try simp only [push_cast, Nat.reduceAdd])
         all_goals refine AOps_nil ?_
         all_goals
          refine blockK_normal ?_
          refine thenK_normal (hK19 _ ?_)
          try clear hK19
          refine AW_region ?_
          all_goals refine AOps_cons rfl (AOp_bin_int _ _ _ _ rfl rfl rfl ?_)
          all_goals (try simp only [push_cast, Nat.reduceAdd])
          all_goals (try rw [IntWalk.i64_in _ (by omega)])
          all_goals (try simp only [push_cast, Nat.reduceAdd])
          all_goals (refine AOps_cons rfl (AOp_move ?_) <;> try simp only [push_cast, Nat.reduceAdd])
          all_goals refine AOps_nil ?_
          all_goals
           refine loopK_normal ?_
           exact ⟨i + 1, ⟨by omega, by omega⟩, by (simp only [push_cast, Nat.reduceAdd]; refine weak_app 1 ?_ (by simp) (by simp [push_cast]); (repeat (first | exact SlotsOk.nil | refine SlotsOk.junk ?_ | refine SlotsOk.same (by first | (simp [push_cast]; done) | (simp [push_cast, Scoped, ScopedL, *]; done)) ?_ | refine SlotsOk.tok (by first | rfl | (simp; done)) (by first | (simp [push_cast]; done) | (simp [push_cast, Scoped, ScopedL, *]; done)) ?_ | refine SlotsOk.eq (by first | rfl | (congr 1; omega) | (simp; done) | (simp; omega)) (by first | (simp [push_cast]; done) | (simp [push_cast, Scoped, ScopedL, *]; done)) ?_))), by omega⟩
theorem formedR_ac (t : Term) : t.bulk ≤ 1099511627775 → ∀ H, ACall Try.prog 40 [encT t] H (fun r H' => r = .bool (formedP t) ∧ H' = H) := by
  refine Term.ind (p := fun t => t.bulk ≤ 1099511627775 → ∀ H, ACall Try.prog 40 [encT t] H (fun r H' => r = .bool (formedP t) ∧ H' = H)) (fun n v xs ih => ?_) t
  intro hb H
  have hlen := Term.len_le (n := n) (v := v) (xs := xs)
  have hnl := Term.name_le (n := n) (v := v) (xs := xs)
  rw [formedP_mk]
  simp only [encT, Term.name, Term.var, Term.args]
  refine ACall_intro (H.length) Try.func40 rfl ?_
  simp only [Try.ntmps40, List.length_cons, List.length_nil, List.replicate, List.cons_append, List.nil_append, Nat.reduceAdd, Nat.reduceSub, Nat.zero_add]
  refine AW_seq_k (fun K21 hK21 => ?_)
  refine AW_region ?_
  all_goals (refine AOps_cons rfl (AOp_box _ _ rfl rfl (by first | exact .inl rfl | exact .inr ⟨_, rfl⟩) (by simp [push_cast, AV.isCell]) ?_) <;> try simp only [push_cast, Nat.reduceAdd])
  all_goals (refine AOps_cons rfl (AOp_assign ?_) <;> try simp only [push_cast, Nat.reduceAdd])
  all_goals refine AOps_nil ?_
  all_goals
   refine thenK_normal (hK21 _ ?_)
   try clear hK21
   refine AW_seq_k (fun K22 hK22 => ?_)
   refine AW_seq_k (fun K23 hK23 => ?_)
   refine AW_region ?_
   all_goals (refine AOps_cons rfl (AOp_fieldAddr_ptr _ _ _ _ rfl fd27_1 (by decide) ?_) <;> try simp only [push_cast, Nat.reduceAdd])
   all_goals (refine AOps_cons rfl (AOp_load1_ptr _ _ _ _ _ rfl (by first | exact hget0 | exact hgetN _ rfl | assumption | exact hgetL (by assumption)) sz4 ag4 (by decide) (by simp [push_cast]) rfl ?_) <;> try simp only [push_cast, Nat.reduceAdd])
   all_goals refine AOps_nil ?_
   all_goals
    refine thenK_normal (hK23 _ ?_)
    try clear hK23
    apply AW_cond
    case' hc => exact rfl
    case' hf =>
     intro hc24
     try (exfalso; (first | (cases hc24; done) | (simp at hc24; done) | (simp at hc24; omega)); done)
     all_goals (try simp only [decide_eq_true_eq, decide_eq_false_iff_not, Bool.not_eq_true', Bool.not_eq_false', Bool.not_eq_eq_eq_not, Bool.not_true, Bool.not_false] at hc24)
     all_goals
      refine AW_skip ?_
      refine thenK_normal (hK22 _ ?_)
      try clear hK22
      refine AW_seq_k (fun K25 hK25 => ?_)
      refine AW_seq_k (fun K26 hK26 => ?_)
      refine AW_region ?_
      all_goals (refine AOps_cons rfl (AOp_fieldAddr_ptr _ _ _ _ rfl fd27_0 (by decide) ?_) <;> try simp only [push_cast, Nat.reduceAdd])
      all_goals (refine AOps_cons rfl (AOp_load1_ptr _ _ _ _ _ rfl (by first | exact hget0 | exact hgetN _ rfl | assumption | exact hgetL (by assumption)) sz9 ag9 (by decide) (by simp [push_cast]) rfl ?_) <;> try simp only [push_cast, Nat.reduceAdd])
      all_goals refine AOps_cons rfl (AOp_call _ _ _ rfl rfl ok36 ?_)
      all_goals (try simp only [push_cast, Nat.reduceAdd])
      all_goals refine (isNameR_ac n _ (by omega) _).mono ?_
      all_goals rintro r H' ⟨rfl, rfl⟩
      all_goals (try simp only [push_cast, Nat.reduceAdd])
      all_goals (refine AOps_cons rfl (AOp_not _ rfl ?_) <;> try simp only [push_cast, Nat.reduceAdd])
      all_goals refine AOps_cons rfl (AOp_move ?_)
      all_goals (try simp only [push_cast, Nat.reduceAdd])
      all_goals (try refine AOps_split 20 _ rfl (fun hg27 => ?_) (fun hg27 => ?_))
      all_goals (try (exfalso; (first | (cases hg27; done) | (simp at hg27; done) | (simp at hg27; omega)); done))
      all_goals (try simp only [decide_eq_true_eq, decide_eq_false_iff_not, Bool.not_eq_true', Bool.not_eq_false', Bool.not_eq_eq_eq_not, Bool.not_true, Bool.not_false] at hg27)
      all_goals first
       | refine AOps_skip rfl ?_
       | (refine AOps_cons rfl ?_
          refine AOp_fieldAddr_ptr _ _ _ _ rfl fd27_2 (by decide) ?_)
      all_goals (try simp only [push_cast, Nat.reduceAdd])
      all_goals first
       | refine AOps_skip rfl ?_
       | (refine AOps_cons rfl ?_
          refine AOp_load1_ptr _ _ _ _ _ rfl (by first | exact hget0 | exact hgetN _ rfl | assumption | exact hgetL (by assumption)) sz25 ag25 (by decide) (by simp [push_cast]) rfl ?_)
      all_goals (try simp only [push_cast, Nat.reduceAdd])
      all_goals first
       | refine AOps_skip rfl ?_
       | (refine AOps_cons rfl ?_
          refine AOp_len_sl _ _ _ rfl sl25 ?_)
      all_goals (try simp only [push_cast, Nat.reduceAdd])
      all_goals first
       | refine AOps_skip rfl ?_
       | (refine AOps_cons rfl ?_
          refine AOp_bin_int _ _ _ _ rfl rfl rfl ?_)
      all_goals (try simp only [push_cast, Nat.reduceAdd])
      all_goals (refine AOps_cons rfl (AOp_pick _ rfl ?_) <;> try simp only [push_cast, Nat.reduceAdd])
      all_goals refine AOps_nil ?_
      all_goals
       refine thenK_normal (hK26 _ ?_)
       try clear hK26
       apply AW_cond
       case' hc => exact rfl
       case' hf =>
        intro hc28
        try (exfalso; (first | (cases hc28; done) | (simp at hc28; done) | (simp at hc28; omega)); done)
        all_goals (try simp only [decide_eq_true_eq, decide_eq_false_iff_not, Bool.not_eq_true', Bool.not_eq_false', Bool.not_eq_eq_eq_not, Bool.not_true, Bool.not_false] at hc28)
        all_goals
         refine AW_skip ?_
         refine thenK_normal (hK25 _ ?_)
         try clear hK25
         refine AW_seq_k (fun K29 hK29 => ?_)
         refine AW_seq_k (fun K30 hK30 => ?_)
         refine AW_region ?_
         all_goals (refine AOps_cons rfl (AOp_fieldAddr_ptr _ _ _ _ rfl fd27_2 (by decide) ?_) <;> try simp only [push_cast, Nat.reduceAdd])
         all_goals (refine AOps_cons rfl (AOp_load1_ptr _ _ _ _ _ rfl (by first | exact hget0 | exact hgetN _ rfl | assumption | exact hgetL (by assumption)) sz25 ag25 (by decide) (by simp [push_cast]) rfl ?_) <;> try simp only [push_cast, Nat.reduceAdd])
         all_goals (refine AOps_cons rfl (AOp_len_sl _ _ _ rfl sl25 ?_) <;> try simp only [push_cast, Nat.reduceAdd])
         all_goals (refine AOps_cons rfl (AOp_move ?_) <;> try simp only [push_cast, Nat.reduceAdd])
         all_goals refine AOps_nil ?_
         all_goals
          refine thenK_normal (hK30 _ ?_)
          try clear hK30
          refine AW_block ?_
          refine AW_loopR (maskG 37 [27, 0, 0]) (fun (i : Nat) => [(29, .int .i64 i)]) (fun _ => _) (fun i => i ≤ xs.length ∧ (xs.take i).all formedP = true) (fun i => xs.length - i) 0 ⟨Nat.zero_le _, by simp⟩ (by (simp only [push_cast, Nat.reduceAdd]; (first | refine weak_app0 ?_ | refine weak_same ?_); (repeat (first | exact SlotsOk.nil | refine SlotsOk.junk ?_ | refine SlotsOk.same (by first | (simp [push_cast]; done) | (simp [push_cast, Scoped, ScopedL, *]; done)) ?_ | refine SlotsOk.tok (by first | rfl | (simp; done)) (by first | (simp [push_cast]; done) | (simp [push_cast, Scoped, ScopedL, *]; done)) ?_ | refine SlotsOk.eq (by first | rfl | (congr 1; omega) | (simp; done) | (simp; omega)) (by first | (simp [push_cast]; done) | (simp [push_cast, Scoped, ScopedL, *]; done)) ?_)))) (fun i hi => ?_)
          (try simp only [push_cast, Nat.reduceAdd])
          refine AW_seq_k (fun K31 hK31 => ?_)
          refine AW_region ?_
          all_goals (refine AOps_cons rfl (AOp_bin_int _ _ _ _ rfl rfl rfl ?_) <;> try simp only [push_cast, Nat.reduceAdd])
          all_goals refine AOps_nil ?_
          all_goals
           refine thenK_normal (hK31 _ ?_)
           try clear hK31
           refine AW_seq_k (fun K32 hK32 => ?_)
           apply AW_cond
           case' hc => exact rfl
           case' hf =>
            intro hc33
            try (exfalso; (first | (cases hc33; done) | (simp at hc33; done) | (simp at hc33; omega)); done)
            all_goals (try simp only [decide_eq_true_eq, decide_eq_false_iff_not, Bool.not_eq_true', Bool.not_eq_false', Bool.not_eq_eq_eq_not, Bool.not_true, Bool.not_false] at hc33)
            all_goals
             refine AW_exit ?_
             repeat (first | refine thenK_exit ?_ | refine loopK_exit ?_ | refine blockK_other (by decide) ?_)
             refine blockK_same ?_
             refine thenK_normal (hK29 _ ?_)
             try clear hK29
             refine AW_seq_k (fun K34 hK34 => ?_)
             refine AW_region ?_
             all_goals (refine AOps_cons rfl (AOp_assign ?_) <;> try simp only [push_cast, Nat.reduceAdd])
             all_goals refine AOps_nil ?_
             all_goals
              refine thenK_normal (hK34 _ ?_)
              try clear hK34
              refine AW_ret ?_
              repeat (first | refine thenK_ret ?_ | refine loopK_ret ?_ | refine blockK_ret ?_)
              refine ⟨by first | exact .inl rfl | exact .inr rfl, _, rfl, (by first | exact outok_app 0 rfl (Nat.zero_le _) (by simp) | exact outok_self), by simp [push_cast], ?_⟩
              simp only [push_cast, Nat.reduceAdd]
              first
                | (have hv : v = true := (by assumption); have hn : isNameP n false = true := (by assumption); subst hv; rw [hn]; by_cases h0 : xs.length = 0 <;> simp [h0]; done)
                | (have hv : v = true := (by assumption); have hn : isNameP n false = false := (by assumption); subst hv; rw [hn]; simp; done)
                | (have hv : v = false := (by assumption); have hn : isNameP n true = false := (by assumption); subst hv; rw [hn]; simp; done)
                | (have hv : v = false := (by assumption); have h8 : ¬ xs.length ≤ 8 := (by omega); subst hv; simp [h8]; done)
                | (have hv : v = false := (by assumption); have h8 : xs.length ≤ 8 := (by omega); have hn : isNameP n true = true := (by assumption); subst hv
                   have hs : xs.all formedP = true := (by have e : xs.take i = xs := List.take_of_length_le (by omega)
                                                          rw [e] at hi; exact hi.2)
                   rw [hn, hs]; simp [h8]; done)
                | (have hv : v = false := (by assumption); have hb2 : formedP (xs[i]'(by omega)) = false := (by assumption); subst hv
                   rw [all_get (i := i) (by omega) hb2]; simp; done)
                | trace_state
           case' ht =>
            intro hc33
            try (exfalso; (first | (cases hc33; done) | (simp at hc33; done) | (simp at hc33; omega)); done)
            all_goals (try simp only [decide_eq_true_eq, decide_eq_false_iff_not, Bool.not_eq_true', Bool.not_eq_false', Bool.not_eq_eq_eq_not, Bool.not_true, Bool.not_false] at hc33)
            all_goals
             refine AW_skip ?_
             refine thenK_normal (hK32 _ ?_)
             try clear hK32
             refine AW_seq_k (fun K35 hK35 => ?_)
             refine AW_block ?_
             refine AW_seq_k (fun K36 hK36 => ?_)
             refine AW_region ?_
             all_goals (refine AOps_cons rfl (AOp_indexAddr_sl 27 _ _ _ _ _ rfl rfl sl25 sz27 (by decide) (by exact uni_encTs _) (by first | omega | (simp; omega)) (by first | omega | (simp [push_cast]; omega) | (simp [push_cast]; done)) ?_) <;> try simp only [push_cast, Nat.reduceAdd])
             all_goals (refine AOps_cons rfl (AOp_load_cptr _ _ rfl sz27 ag27 (by simp [push_cast]) ?_) <;> try simp only [push_cast, Nat.reduceAdd])
             all_goals (refine AOps_cons rfl (AOp_alloc _ zr27 (by simp [ofVal, AV.isCell, Value.oneCell']) ?_) <;> try simp only [push_cast, Nat.reduceAdd])
             all_goals (refine AOps_cons rfl (AOp_store _ _ _ _ _ rfl (by first | exact hget0 | exact hgetN _ rfl | assumption | exact hgetL (by assumption)) rfl rfl (by first | exact .inl rfl | exact .inr ⟨_, rfl⟩) (by simp [push_cast, AV.isCell]) sz27 (by simp [push_cast]) ?_) <;> try simp only [push_cast, Nat.reduceAdd])
             all_goals refine AOps_nil ?_
             all_goals
              refine thenK_normal (hK36 _ ?_)
              try clear hK36
              refine AW_seq_k (fun K37 hK37 => ?_)
              refine AW_region ?_
              all_goals (refine AOps_cons rfl (AOp_load_ptr _ _ _ _ rfl (by first | exact hget0 | exact hgetN _ rfl | assumption | exact hgetL (by assumption)) sz27 ag27 (by simp [push_cast]) ?_) <;> try simp only [push_cast, Nat.reduceAdd])
              all_goals refine AOps_cons rfl (AOp_call _ _ _ rfl rfl ok40 ?_)
              all_goals (try simp only [push_cast, Nat.reduceAdd])
              all_goals have hmem : xs[i]'(by omega) ∈ xs := by simp
              all_goals have hbx := Term.arg_le (n := n) (v := v) hmem
              all_goals refine (ih (xs[i]'(by omega)) hmem (by omega) _).mono ?_
              all_goals rintro r H' ⟨rfl, rfl⟩
              all_goals (try simp only [push_cast, Nat.reduceAdd])
              all_goals (refine AOps_cons rfl (AOp_not _ rfl ?_) <;> try simp only [push_cast, Nat.reduceAdd])
              all_goals refine AOps_nil ?_
              all_goals
               refine thenK_normal (hK37 _ ?_)
               try clear hK37
               apply AW_cond
               case' hc => exact rfl
               case' hf =>
                intro hc38
                try (exfalso; (first | (cases hc38; done) | (simp at hc38; done) | (simp at hc38; omega)); done)
                all_goals (try simp only [decide_eq_true_eq, decide_eq_false_iff_not, Bool.not_eq_true', Bool.not_eq_false', Bool.not_eq_eq_eq_not, Bool.not_true, Bool.not_false] at hc38)
                all_goals
                 refine AW_skip ?_
                 refine blockK_normal ?_
                 refine thenK_normal (hK35 _ ?_)
                 try clear hK35
                 refine AW_region ?_
                 all_goals refine AOps_cons rfl (AOp_bin_int _ _ _ _ rfl rfl rfl ?_)
                 all_goals (try simp only [push_cast, Nat.reduceAdd])
                 all_goals (try rw [IntWalk.i64_in _ (by omega)])
                 all_goals (try simp only [push_cast, Nat.reduceAdd])
                 all_goals (refine AOps_cons rfl (AOp_move ?_) <;> try simp only [push_cast, Nat.reduceAdd])
                 all_goals refine AOps_nil ?_
                 all_goals
                  refine loopK_normal ?_
                  have hb : formedP (xs[i]'(by omega)) = true := by assumption
                  exact ⟨i + 1, ⟨by omega, all_take_true hi.2 (by omega) hb⟩, by (simp only [push_cast, Nat.reduceAdd]; (first | refine weak_app0 ?_ | refine weak_same ?_); (repeat (first | exact SlotsOk.nil | refine SlotsOk.junk ?_ | refine SlotsOk.same (by first | (simp [push_cast]; done) | (simp [push_cast, Scoped, ScopedL, *]; done)) ?_ | refine SlotsOk.tok (by first | rfl | (simp; done)) (by first | (simp [push_cast]; done) | (simp [push_cast, Scoped, ScopedL, *]; done)) ?_ | refine SlotsOk.eq (by first | rfl | (congr 1; omega) | (simp; done) | (simp; omega)) (by first | (simp [push_cast]; done) | (simp [push_cast, Scoped, ScopedL, *]; done)) ?_))), by omega⟩
               case' ht =>
                intro hc38
                try (exfalso; (first | (cases hc38; done) | (simp at hc38; done) | (simp at hc38; omega)); done)
                all_goals (try simp only [decide_eq_true_eq, decide_eq_false_iff_not, Bool.not_eq_true', Bool.not_eq_false', Bool.not_eq_eq_eq_not, Bool.not_true, Bool.not_false] at hc38)
                all_goals
                 refine AW_seq_k (fun K39 hK39 => ?_)
                 refine AW_region ?_
                 all_goals (refine AOps_cons rfl (AOp_assign ?_) <;> try simp only [push_cast, Nat.reduceAdd])
                 all_goals refine AOps_nil ?_
                 all_goals
                  refine thenK_normal (hK39 _ ?_)
                  try clear hK39
                  refine AW_ret ?_
                  repeat (first | refine thenK_ret ?_ | refine loopK_ret ?_ | refine blockK_ret ?_)
                  refine ⟨by first | exact .inl rfl | exact .inr rfl, _, rfl, (by first | exact outok_app 0 rfl (Nat.zero_le _) (by simp) | exact outok_self), by simp [push_cast], ?_⟩
                  simp only [push_cast, Nat.reduceAdd]
                  first
                    | (have hv : v = true := (by assumption); have hn : isNameP n false = true := (by assumption); subst hv; rw [hn]; by_cases h0 : xs.length = 0 <;> simp [h0]; done)
                    | (have hv : v = true := (by assumption); have hn : isNameP n false = false := (by assumption); subst hv; rw [hn]; simp; done)
                    | (have hv : v = false := (by assumption); have hn : isNameP n true = false := (by assumption); subst hv; rw [hn]; simp; done)
                    | (have hv : v = false := (by assumption); have h8 : ¬ xs.length ≤ 8 := (by omega); subst hv; simp [h8]; done)
                    | (have hv : v = false := (by assumption); have h8 : xs.length ≤ 8 := (by omega); have hn : isNameP n true = true := (by assumption); subst hv
                       have hs : xs.all formedP = true := (by have e : xs.take i = xs := List.take_of_length_le (by omega)
                                                              rw [e] at hi; exact hi.2)
                       rw [hn, hs]; simp [h8]; done)
                    | (have hv : v = false := (by assumption); have hb2 : formedP (xs[i]'(by omega)) = false := (by assumption); subst hv
                       rw [all_get (i := i) (by omega) hb2]; simp; done)
                    | trace_state
       case' ht =>
        intro hc28
        try (exfalso; (first | (cases hc28; done) | (simp at hc28; done) | (simp at hc28; omega)); done)
        all_goals (try simp only [decide_eq_true_eq, decide_eq_false_iff_not, Bool.not_eq_true', Bool.not_eq_false', Bool.not_eq_eq_eq_not, Bool.not_true, Bool.not_false] at hc28)
        all_goals
         refine AW_seq_k (fun K40 hK40 => ?_)
         refine AW_region ?_
         all_goals (refine AOps_cons rfl (AOp_assign ?_) <;> try simp only [push_cast, Nat.reduceAdd])
         all_goals refine AOps_nil ?_
         all_goals
          refine thenK_normal (hK40 _ ?_)
          try clear hK40
          refine AW_ret ?_
          repeat (first | refine thenK_ret ?_ | refine loopK_ret ?_ | refine blockK_ret ?_)
          refine ⟨by first | exact .inl rfl | exact .inr rfl, _, rfl, (by first | exact outok_app 0 rfl (Nat.zero_le _) (by simp) | exact outok_self), by simp [push_cast], ?_⟩
          simp only [push_cast, Nat.reduceAdd]
          first
            | (have hv : v = true := (by assumption); have hn : isNameP n false = true := (by assumption); subst hv; rw [hn]; by_cases h0 : xs.length = 0 <;> simp [h0]; done)
            | (have hv : v = true := (by assumption); have hn : isNameP n false = false := (by assumption); subst hv; rw [hn]; simp; done)
            | (have hv : v = false := (by assumption); have hn : isNameP n true = false := (by assumption); subst hv; rw [hn]; simp; done)
            | (have hv : v = false := (by assumption); have h8 : ¬ xs.length ≤ 8 := (by omega); subst hv; simp [h8]; done)
            | (have hv : v = false := (by assumption); have h8 : xs.length ≤ 8 := (by omega); have hn : isNameP n true = true := (by assumption); subst hv
               have hs : xs.all formedP = true := (by have e : xs.take i = xs := List.take_of_length_le (by omega)
                                                      rw [e] at hi; exact hi.2)
               rw [hn, hs]; simp [h8]; done)
            | (have hv : v = false := (by assumption); have hb2 : formedP (xs[i]'(by omega)) = false := (by assumption); subst hv
               rw [all_get (i := i) (by omega) hb2]; simp; done)
            | trace_state
    case' ht =>
     intro hc24
     try (exfalso; (first | (cases hc24; done) | (simp at hc24; done) | (simp at hc24; omega)); done)
     all_goals (try simp only [decide_eq_true_eq, decide_eq_false_iff_not, Bool.not_eq_true', Bool.not_eq_false', Bool.not_eq_eq_eq_not, Bool.not_true, Bool.not_false] at hc24)
     all_goals
      refine AW_seq_k (fun K41 hK41 => ?_)
      refine AW_region ?_
      all_goals (refine AOps_cons rfl (AOp_fieldAddr_ptr _ _ _ _ rfl fd27_0 (by decide) ?_) <;> try simp only [push_cast, Nat.reduceAdd])
      all_goals (refine AOps_cons rfl (AOp_load1_ptr _ _ _ _ _ rfl (by first | exact hget0 | exact hgetN _ rfl | assumption | exact hgetL (by assumption)) sz9 ag9 (by decide) (by simp [push_cast]) rfl ?_) <;> try simp only [push_cast, Nat.reduceAdd])
      all_goals refine AOps_cons rfl (AOp_call _ _ _ rfl rfl ok36 ?_)
      all_goals (try simp only [push_cast, Nat.reduceAdd])
      all_goals refine (isNameR_ac n _ (by omega) _).mono ?_
      all_goals rintro r H' ⟨rfl, rfl⟩
      all_goals (try simp only [push_cast, Nat.reduceAdd])
      all_goals refine AOps_cons rfl (AOp_move ?_)
      all_goals (try simp only [push_cast, Nat.reduceAdd])
      all_goals (try refine AOps_split 10 _ rfl (fun hg42 => ?_) (fun hg42 => ?_))
      all_goals (try (exfalso; (first | (cases hg42; done) | (simp at hg42; done) | (simp at hg42; omega)); done))
      all_goals (try simp only [decide_eq_true_eq, decide_eq_false_iff_not, Bool.not_eq_true', Bool.not_eq_false', Bool.not_eq_eq_eq_not, Bool.not_true, Bool.not_false] at hg42)
      all_goals first
       | refine AOps_skip rfl ?_
       | (refine AOps_cons rfl ?_
          refine AOp_fieldAddr_ptr _ _ _ _ rfl fd27_2 (by decide) ?_)
      all_goals (try simp only [push_cast, Nat.reduceAdd])
      all_goals first
       | refine AOps_skip rfl ?_
       | (refine AOps_cons rfl ?_
          refine AOp_load1_ptr _ _ _ _ _ rfl (by first | exact hget0 | exact hgetN _ rfl | assumption | exact hgetL (by assumption)) sz25 ag25 (by decide) (by simp [push_cast]) rfl ?_)
      all_goals (try simp only [push_cast, Nat.reduceAdd])
      all_goals first
       | refine AOps_skip rfl ?_
       | (refine AOps_cons rfl ?_
          refine AOp_len_sl _ _ _ rfl sl25 ?_)
      all_goals (try simp only [push_cast, Nat.reduceAdd])
      all_goals first
       | refine AOps_skip rfl ?_
       | (refine AOps_cons rfl ?_
          refine AOp_bin_int _ _ _ _ rfl rfl rfl ?_)
      all_goals (try simp only [push_cast, Nat.reduceAdd])
      all_goals refine AOps_cons rfl (AOp_pick _ rfl ?_)
      all_goals (refine AOps_cons rfl (AOp_assign ?_) <;> try simp only [push_cast, Nat.reduceAdd])
      all_goals refine AOps_nil ?_
      all_goals
       refine thenK_normal (hK41 _ ?_)
       try clear hK41
       refine AW_ret ?_
       repeat (first | refine thenK_ret ?_ | refine loopK_ret ?_ | refine blockK_ret ?_)
       refine ⟨by first | exact .inl rfl | exact .inr rfl, _, rfl, (by first | exact outok_app 0 rfl (Nat.zero_le _) (by simp) | exact outok_self), by simp [push_cast], ?_⟩
       simp only [push_cast, Nat.reduceAdd]
       first
         | (have hv : v = true := (by assumption); have hn : isNameP n false = true := (by assumption); subst hv; rw [hn]; by_cases h0 : xs.length = 0 <;> simp [h0]; done)
         | (have hv : v = true := (by assumption); have hn : isNameP n false = false := (by assumption); subst hv; rw [hn]; simp; done)
         | (have hv : v = false := (by assumption); have hn : isNameP n true = false := (by assumption); subst hv; rw [hn]; simp; done)
         | (have hv : v = false := (by assumption); have h8 : ¬ xs.length ≤ 8 := (by omega); subst hv; simp [h8]; done)
         | (have hv : v = false := (by assumption); have h8 : xs.length ≤ 8 := (by omega); have hn : isNameP n true = true := (by assumption); subst hv
            have hs : xs.all formedP = true := (by have e : xs.take i = xs := List.take_of_length_le (by omega)
                                                   rw [e] at hi; exact hi.2)
            rw [hn, hs]; simp [h8]; done)
         | (have hv : v = false := (by assumption); have hb2 : formedP (xs[i]'(by omega)) = false := (by assumption); subst hv
            rw [all_get (i := i) (by omega) hb2]; simp; done)
         | trace_state
theorem checkR_ac (t : Term) (hb : t.bulk ≤ 1099511627775) (H : List AObj) : ACall Try.prog 20 [encT t] H (fun r H' => r = .int .i64 (checkP t) ∧ H' = H) := by
  refine ACall_intro (H.length) Try.func20 rfl ?_
  simp only [Try.ntmps20, List.length_cons, List.length_nil, List.replicate, List.cons_append, List.nil_append, Nat.reduceAdd, Nat.reduceSub, Nat.zero_add]
  refine AW_seq_k (fun K43 hK43 => ?_)
  refine AW_region ?_
  all_goals (refine AOps_cons rfl (AOp_box _ _ rfl rfl (by first | exact .inl rfl | exact .inr ⟨_, rfl⟩) (by simp [push_cast, AV.isCell]) ?_) <;> try simp only [push_cast, Nat.reduceAdd])
  all_goals (refine AOps_cons rfl (AOp_assign ?_) <;> try simp only [push_cast, Nat.reduceAdd])
  all_goals refine AOps_nil ?_
  all_goals
   refine thenK_normal (hK43 _ ?_)
   try clear hK43
   refine AW_seq_k (fun K44 hK44 => ?_)
   refine AW_seq_k (fun K45 hK45 => ?_)
   refine AW_region ?_
   all_goals (refine AOps_cons rfl (AOp_load_ptr _ _ _ _ rfl (by first | exact hget0 | exact hgetN _ rfl | assumption | exact hgetL (by assumption)) sz27 ag27 (by simp [push_cast]) ?_) <;> try simp only [push_cast, Nat.reduceAdd])
   all_goals refine AOps_cons rfl (AOp_call _ _ _ rfl rfl ok40 ?_)
   all_goals (try simp only [push_cast, Nat.reduceAdd])
   all_goals refine (formedR_ac t (by omega) _).mono ?_
   all_goals rintro r H' ⟨rfl, rfl⟩
   all_goals (try simp only [push_cast, Nat.reduceAdd])
   all_goals (refine AOps_cons rfl (AOp_not _ rfl ?_) <;> try simp only [push_cast, Nat.reduceAdd])
   all_goals refine AOps_nil ?_
   all_goals
    refine thenK_normal (hK45 _ ?_)
    try clear hK45
    apply AW_cond
    case' hc => exact rfl
    case' hf =>
     intro hc46
     try (exfalso; (first | (cases hc46; done) | (simp at hc46; done) | (simp at hc46; omega)); done)
     all_goals (try simp only [decide_eq_true_eq, decide_eq_false_iff_not, Bool.not_eq_true', Bool.not_eq_false', Bool.not_eq_eq_eq_not, Bool.not_true, Bool.not_false] at hc46)
     all_goals
      refine AW_skip ?_
      refine thenK_normal (hK44 _ ?_)
      try clear hK44
      refine AW_seq_k (fun K47 hK47 => ?_)
      refine AW_seq_k (fun K48 hK48 => ?_)
      refine AW_region ?_
      all_goals (refine AOps_cons rfl (AOp_load_ptr _ _ _ _ rfl (by first | exact hget0 | exact hgetN _ rfl | assumption | exact hgetL (by assumption)) sz27 ag27 (by simp [push_cast]) ?_) <;> try simp only [push_cast, Nat.reduceAdd])
      all_goals refine AOps_cons rfl (AOp_call _ _ _ rfl rfl ok41 ?_)
      all_goals (try simp only [push_cast, Nat.reduceAdd])
      all_goals refine (sizeR_ac t (by omega) _).mono ?_
      all_goals rintro r H' ⟨rfl, rfl⟩
      all_goals (try simp only [push_cast, Nat.reduceAdd])
      all_goals (refine AOps_cons rfl (AOp_bin_int _ _ _ _ rfl rfl rfl ?_) <;> try simp only [push_cast, Nat.reduceAdd])
      all_goals refine AOps_cons rfl (AOp_move ?_)
      all_goals (try simp only [push_cast, Nat.reduceAdd])
      all_goals (try refine AOps_split 9 _ rfl (fun hg49 => ?_) (fun hg49 => ?_))
      all_goals (try (exfalso; (first | (cases hg49; done) | (simp at hg49; done) | (simp at hg49; omega)); done))
      all_goals (try simp only [decide_eq_true_eq, decide_eq_false_iff_not, Bool.not_eq_true', Bool.not_eq_false', Bool.not_eq_eq_eq_not, Bool.not_true, Bool.not_false] at hg49)
      all_goals first
       | refine AOps_skip rfl ?_
       | (refine AOps_cons rfl ?_
          refine AOp_load_ptr _ _ _ _ rfl (by first | exact hget0 | exact hgetN _ rfl | assumption | exact hgetL (by assumption)) sz27 ag27 (by simp [push_cast]) ?_)
      all_goals (try simp only [push_cast, Nat.reduceAdd])
      all_goals first
       | refine AOps_skip rfl ?_
       | (refine AOps_cons rfl ?_
          refine AOp_call _ _ _ rfl rfl ok42 ?_
          (try simp only [push_cast, Nat.reduceAdd])
          refine (depthR_ac t (by omega) _).mono ?_
          rintro r H' ⟨rfl, rfl⟩)
      all_goals (try simp only [push_cast, Nat.reduceAdd])
      all_goals first
       | refine AOps_skip rfl ?_
       | (refine AOps_cons rfl ?_
          refine AOp_bin_int _ _ _ _ rfl rfl rfl ?_)
      all_goals (try simp only [push_cast, Nat.reduceAdd])
      all_goals (refine AOps_cons rfl (AOp_pick _ rfl ?_) <;> try simp only [push_cast, Nat.reduceAdd])
      all_goals refine AOps_nil ?_
      all_goals
       refine thenK_normal (hK48 _ ?_)
       try clear hK48
       apply AW_cond
       case' hc => exact rfl
       case' hf =>
        intro hc50
        try (exfalso; (first | (cases hc50; done) | (simp at hc50; done) | (simp at hc50; omega)); done)
        all_goals (try simp only [decide_eq_true_eq, decide_eq_false_iff_not, Bool.not_eq_true', Bool.not_eq_false', Bool.not_eq_eq_eq_not, Bool.not_true, Bool.not_false] at hc50)
        all_goals
         refine AW_skip ?_
         refine thenK_normal (hK47 _ ?_)
         try clear hK47
         refine AW_seq_k (fun K51 hK51 => ?_)
         refine AW_region ?_
         all_goals (refine AOps_cons rfl (AOp_assign ?_) <;> try simp only [push_cast, Nat.reduceAdd])
         all_goals refine AOps_nil ?_
         all_goals
          refine thenK_normal (hK51 _ ?_)
          try clear hK51
          refine AW_ret ?_
          repeat (first | refine thenK_ret ?_ | refine loopK_ret ?_ | refine blockK_ret ?_)
          refine ⟨by first | exact .inl rfl | exact .inr rfl, _, rfl, (by first | exact outok_app 0 rfl (Nat.zero_le _) (by simp) | exact outok_self), by simp [push_cast], ?_⟩
          simp only [push_cast, Nat.reduceAdd]
          unfold checkP fitsP
          first
            | (have h1 : formedP t = false := (by assumption); simp [h1]; done)
            | (have h1 : formedP t = true := (by assumption); have h2 : t.size ≤ 4000 ∧ t.depth ≤ 200 := (by omega); simp [h1, h2]; done)
            | (have h1 : formedP t = true := (by assumption); have h2 : ¬ t.size ≤ 4000 := (by omega); simp [h1, h2]; done)
            | (have h1 : formedP t = true := (by assumption); have h2 : ¬ t.depth ≤ 200 := (by omega); simp [h1, h2]; done)
            | trace_state
       case' ht =>
        intro hc50
        try (exfalso; (first | (cases hc50; done) | (simp at hc50; done) | (simp at hc50; omega)); done)
        all_goals (try simp only [decide_eq_true_eq, decide_eq_false_iff_not, Bool.not_eq_true', Bool.not_eq_false', Bool.not_eq_eq_eq_not, Bool.not_true, Bool.not_false] at hc50)
        all_goals
         refine AW_seq_k (fun K52 hK52 => ?_)
         refine AW_region ?_
         all_goals (refine AOps_cons rfl (AOp_assign ?_) <;> try simp only [push_cast, Nat.reduceAdd])
         all_goals refine AOps_nil ?_
         all_goals
          refine thenK_normal (hK52 _ ?_)
          try clear hK52
          refine AW_ret ?_
          repeat (first | refine thenK_ret ?_ | refine loopK_ret ?_ | refine blockK_ret ?_)
          refine ⟨by first | exact .inl rfl | exact .inr rfl, _, rfl, (by first | exact outok_app 0 rfl (Nat.zero_le _) (by simp) | exact outok_self), by simp [push_cast], ?_⟩
          simp only [push_cast, Nat.reduceAdd]
          unfold checkP fitsP
          first
            | (have h1 : formedP t = false := (by assumption); simp [h1]; done)
            | (have h1 : formedP t = true := (by assumption); have h2 : t.size ≤ 4000 ∧ t.depth ≤ 200 := (by omega); simp [h1, h2]; done)
            | (have h1 : formedP t = true := (by assumption); have h2 : ¬ t.size ≤ 4000 := (by omega); simp [h1, h2]; done)
            | (have h1 : formedP t = true := (by assumption); have h2 : ¬ t.depth ≤ 200 := (by omega); simp [h1, h2]; done)
            | trace_state
    case' ht =>
     intro hc46
     try (exfalso; (first | (cases hc46; done) | (simp at hc46; done) | (simp at hc46; omega)); done)
     all_goals (try simp only [decide_eq_true_eq, decide_eq_false_iff_not, Bool.not_eq_true', Bool.not_eq_false', Bool.not_eq_eq_eq_not, Bool.not_true, Bool.not_false] at hc46)
     all_goals
      refine AW_seq_k (fun K53 hK53 => ?_)
      refine AW_region ?_
      all_goals (refine AOps_cons rfl (AOp_assign ?_) <;> try simp only [push_cast, Nat.reduceAdd])
      all_goals refine AOps_nil ?_
      all_goals
       refine thenK_normal (hK53 _ ?_)
       try clear hK53
       refine AW_ret ?_
       repeat (first | refine thenK_ret ?_ | refine loopK_ret ?_ | refine blockK_ret ?_)
       refine ⟨by first | exact .inl rfl | exact .inr rfl, _, rfl, (by first | exact outok_app 0 rfl (Nat.zero_le _) (by simp) | exact outok_self), by simp [push_cast], ?_⟩
       simp only [push_cast, Nat.reduceAdd]
       unfold checkP fitsP
       first
         | (have h1 : formedP t = false := (by assumption); simp [h1]; done)
         | (have h1 : formedP t = true := (by assumption); have h2 : t.size ≤ 4000 ∧ t.depth ≤ 200 := (by omega); simp [h1, h2]; done)
         | (have h1 : formedP t = true := (by assumption); have h2 : ¬ t.size ≤ 4000 := (by omega); simp [h1, h2]; done)
         | (have h1 : formedP t = true := (by assumption); have h2 : ¬ t.depth ≤ 200 := (by omega); simp [h1, h2]; done)
         | trace_state
theorem allR_ac (ts : List Term) (hb : (ts.map Term.bulk).sum ≤ 1099511627775) (H : List AObj) : ACall Try.prog 9 [.sl .none (encTs ts)] H (fun r H' => r = .int .i64 (firstErr ts) ∧ H' = H) := by
  have hlen := bulk_len ts
  refine ACall_intro (H.length) Try.func9 rfl ?_
  simp only [Try.ntmps9, List.length_cons, List.length_nil, List.replicate, List.cons_append, List.nil_append, Nat.reduceAdd, Nat.reduceSub, Nat.zero_add]
  refine AW_seq_k (fun K54 hK54 => ?_)
  refine AW_region ?_
  all_goals (refine AOps_cons rfl (AOp_assign ?_) <;> try simp only [push_cast, Nat.reduceAdd])
  all_goals refine AOps_nil ?_
  all_goals
   refine thenK_normal (hK54 _ ?_)
   try clear hK54
   refine AW_seq_k (fun K55 hK55 => ?_)
   refine AW_seq_k (fun K56 hK56 => ?_)
   refine AW_region ?_
   all_goals refine AOps_cons rfl (AOp_move ?_)
   all_goals (try simp only [push_cast, Nat.reduceAdd])
   all_goals (refine AOps_cons rfl (AOp_len_sl _ _ _ rfl sl25 ?_) <;> try simp only [push_cast, Nat.reduceAdd])
   all_goals (refine AOps_cons rfl (AOp_move ?_) <;> try simp only [push_cast, Nat.reduceAdd])
   all_goals refine AOps_nil ?_
   all_goals
    refine thenK_normal (hK56 _ ?_)
    try clear hK56
    refine AW_block ?_
    refine AW_loopR (maskG 18 [6, 0, 0]) (fun (i : Nat) => [(8, .int .i64 i)]) (fun _ => _) (fun i => i ≤ ts.length ∧ firstErr (ts.take i) = 0) (fun i => ts.length - i) 0 ⟨Nat.zero_le _, rfl⟩ (by (simp only [push_cast, Nat.reduceAdd]; (first | refine weak_app0 ?_ | refine weak_same ?_); (repeat (first | exact SlotsOk.nil | refine SlotsOk.junk ?_ | refine SlotsOk.same (by first | (simp [push_cast]; done) | (simp [push_cast, Scoped, ScopedL, *]; done)) ?_ | refine SlotsOk.tok (by first | rfl | (simp; done)) (by first | (simp [push_cast]; done) | (simp [push_cast, Scoped, ScopedL, *]; done)) ?_ | refine SlotsOk.eq (by first | rfl | (congr 1; omega) | (simp; done) | (simp; omega)) (by first | (simp [push_cast]; done) | (simp [push_cast, Scoped, ScopedL, *]; done)) ?_)))) (fun i hi => ?_)
    (try simp only [push_cast, Nat.reduceAdd])
    refine AW_seq_k (fun K57 hK57 => ?_)
    refine AW_region ?_
    all_goals (refine AOps_cons rfl (AOp_bin_int _ _ _ _ rfl rfl rfl ?_) <;> try simp only [push_cast, Nat.reduceAdd])
    all_goals refine AOps_nil ?_
    all_goals
     refine thenK_normal (hK57 _ ?_)
     try clear hK57
     refine AW_seq_k (fun K58 hK58 => ?_)
     apply AW_cond
     case' hc => exact rfl
     case' hf =>
      intro hc59
      try (exfalso; (first | (cases hc59; done) | (simp at hc59; done) | (simp at hc59; omega)); done)
      all_goals (try simp only [decide_eq_true_eq, decide_eq_false_iff_not, Bool.not_eq_true', Bool.not_eq_false', Bool.not_eq_eq_eq_not, Bool.not_true, Bool.not_false] at hc59)
      all_goals
       refine AW_exit ?_
       repeat (first | refine thenK_exit ?_ | refine loopK_exit ?_ | refine blockK_other (by decide) ?_)
       refine blockK_same ?_
       refine thenK_normal (hK55 _ ?_)
       try clear hK55
       refine AW_seq_k (fun K60 hK60 => ?_)
       refine AW_region ?_
       all_goals (refine AOps_cons rfl (AOp_assign ?_) <;> try simp only [push_cast, Nat.reduceAdd])
       all_goals refine AOps_nil ?_
       all_goals
        refine thenK_normal (hK60 _ ?_)
        try clear hK60
        refine AW_ret ?_
        repeat (first | refine thenK_ret ?_ | refine loopK_ret ?_ | refine blockK_ret ?_)
        refine ⟨by first | exact .inl rfl | exact .inr rfl, _, rfl, (by first | exact outok_app 0 rfl (Nat.zero_le _) (by simp) | exact outok_self), by simp [push_cast], ?_⟩
        simp only [push_cast, Nat.reduceAdd]
        have hs : ts.take i = ts := List.take_of_length_le (by omega)
        rw [hs] at hi
        rw [hi.2]; simp
     case' ht =>
      intro hc59
      try (exfalso; (first | (cases hc59; done) | (simp at hc59; done) | (simp at hc59; omega)); done)
      all_goals (try simp only [decide_eq_true_eq, decide_eq_false_iff_not, Bool.not_eq_true', Bool.not_eq_false', Bool.not_eq_eq_eq_not, Bool.not_true, Bool.not_false] at hc59)
      all_goals
       refine AW_skip ?_
       refine thenK_normal (hK58 _ ?_)
       try clear hK58
       refine AW_seq_k (fun K61 hK61 => ?_)
       refine AW_block ?_
       refine AW_seq_k (fun K62 hK62 => ?_)
       refine AW_region ?_
       all_goals (refine AOps_cons rfl (AOp_indexAddr_sl 27 _ _ _ _ _ rfl rfl sl25 sz27 (by decide) (by exact uni_encTs _) (by first | omega | (simp; omega)) (by first | omega | (simp [push_cast]; omega) | (simp [push_cast]; done)) ?_) <;> try simp only [push_cast, Nat.reduceAdd])
       all_goals (refine AOps_cons rfl (AOp_load_cptr _ _ rfl sz27 ag27 (by simp [push_cast]) ?_) <;> try simp only [push_cast, Nat.reduceAdd])
       all_goals (refine AOps_cons rfl (AOp_alloc _ zr27 (by simp [ofVal, AV.isCell, Value.oneCell']) ?_) <;> try simp only [push_cast, Nat.reduceAdd])
       all_goals (refine AOps_cons rfl (AOp_store _ _ _ _ _ rfl (by first | exact hget0 | exact hgetN _ rfl | assumption | exact hgetL (by assumption)) rfl rfl (by first | exact .inl rfl | exact .inr ⟨_, rfl⟩) (by simp [push_cast, AV.isCell]) sz27 (by simp [push_cast]) ?_) <;> try simp only [push_cast, Nat.reduceAdd])
       all_goals refine AOps_nil ?_
       all_goals
        refine thenK_normal (hK62 _ ?_)
        try clear hK62
        refine AW_seq_k (fun K63 hK63 => ?_)
        refine AW_region ?_
        all_goals (refine AOps_cons rfl (AOp_load_ptr _ _ _ _ rfl (by first | exact hget0 | exact hgetN _ rfl | assumption | exact hgetL (by assumption)) sz27 ag27 (by simp [push_cast]) ?_) <;> try simp only [push_cast, Nat.reduceAdd])
        all_goals refine AOps_cons rfl (AOp_call _ _ _ rfl rfl ok20 ?_)
        all_goals (try simp only [push_cast, Nat.reduceAdd])
        all_goals have hbx := le_sum Term.bulk ts (ts[i]'(by omega)) (by simp)
        all_goals refine (checkR_ac (ts[i]'(by omega)) (by omega) _).mono ?_
        all_goals rintro r H' ⟨rfl, rfl⟩
        all_goals (try simp only [push_cast, Nat.reduceAdd])
        all_goals (refine AOps_cons rfl (AOp_assign ?_) <;> try simp only [push_cast, Nat.reduceAdd])
        all_goals refine AOps_nil ?_
        all_goals
         refine thenK_normal (hK63 _ ?_)
         try clear hK63
         refine AW_seq_k (fun K64 hK64 => ?_)
         refine AW_region ?_
         all_goals refine AOps_cons rfl (AOp_move ?_)
         all_goals (try simp only [push_cast, Nat.reduceAdd])
         all_goals (refine AOps_cons rfl (AOp_bin_int _ _ _ _ rfl rfl rfl ?_) <;> try simp only [push_cast, Nat.reduceAdd])
         all_goals refine AOps_nil ?_
         all_goals
          refine thenK_normal (hK64 _ ?_)
          try clear hK64
          apply AW_cond
          case' hc => exact rfl
          case' hf =>
           intro hc65
           try (exfalso; (first | (cases hc65; done) | (simp at hc65; done) | (simp at hc65; omega)); done)
           all_goals (try simp only [decide_eq_true_eq, decide_eq_false_iff_not, Bool.not_eq_true', Bool.not_eq_false', Bool.not_eq_eq_eq_not, Bool.not_true, Bool.not_false] at hc65)
           all_goals
            refine AW_skip ?_
            refine blockK_normal ?_
            refine thenK_normal (hK61 _ ?_)
            try clear hK61
            refine AW_region ?_
            all_goals refine AOps_cons rfl (AOp_bin_int _ _ _ _ rfl rfl rfl ?_)
            all_goals (try simp only [push_cast, Nat.reduceAdd])
            all_goals (try rw [IntWalk.i64_in _ (by omega)])
            all_goals (try simp only [push_cast, Nat.reduceAdd])
            all_goals (refine AOps_cons rfl (AOp_move ?_) <;> try simp only [push_cast, Nat.reduceAdd])
            all_goals refine AOps_nil ?_
            all_goals
             refine loopK_normal ?_
             exact ⟨i + 1, ⟨by omega, firstErr_take ts i (by omega) hi.2 (by assumption)⟩, by (simp only [push_cast, Nat.reduceAdd]; (first | refine weak_app0 ?_ | refine weak_same ?_); (repeat (first | exact SlotsOk.nil | refine SlotsOk.junk ?_ | refine SlotsOk.same (by first | (simp [push_cast]; done) | (simp [push_cast, Scoped, ScopedL, *]; done)) ?_ | refine SlotsOk.tok (by first | rfl | (simp; done)) (by first | (simp [push_cast]; done) | (simp [push_cast, Scoped, ScopedL, *]; done)) ?_ | refine SlotsOk.eq (by first | rfl | (congr 1; omega) | (simp; done) | (simp; omega)) (by first | (simp [push_cast]; done) | (simp [push_cast, Scoped, ScopedL, *]; done)) ?_))), by omega⟩
          case' ht =>
           intro hc65
           try (exfalso; (first | (cases hc65; done) | (simp at hc65; done) | (simp at hc65; omega)); done)
           all_goals (try simp only [decide_eq_true_eq, decide_eq_false_iff_not, Bool.not_eq_true', Bool.not_eq_false', Bool.not_eq_eq_eq_not, Bool.not_true, Bool.not_false] at hc65)
           all_goals
            refine AW_seq_k (fun K66 hK66 => ?_)
            refine AW_region ?_
            all_goals refine AOps_cons rfl (AOp_move ?_)
            all_goals (refine AOps_cons rfl (AOp_assign ?_) <;> try simp only [push_cast, Nat.reduceAdd])
            all_goals refine AOps_nil ?_
            all_goals
             refine thenK_normal (hK66 _ ?_)
             try clear hK66
             refine AW_ret ?_
             repeat (first | refine thenK_ret ?_ | refine loopK_ret ?_ | refine blockK_ret ?_)
             refine ⟨by first | exact .inl rfl | exact .inr rfl, _, rfl, (by first | exact outok_app 0 rfl (Nat.zero_le _) (by simp) | exact outok_self), by simp [push_cast], ?_⟩
             simp only [push_cast, Nat.reduceAdd]
             have hf := firstErr_drop ts i hi.2
             rw [List.drop_eq_getElem_cons (by omega)] at hf
             have hne : ¬ checkP (ts[i]'(by omega)) = 0 := (by assumption)
             simp only [firstErr, hne, if_false] at hf
             rw [hf]; simp
end Ab
set_option maxRecDepth 10000
namespace Ab
open Go Go.Proofs
attribute [local push_cast] encT encR scoped_encR
def cmpI (a b : Int) : Int := if a < b then -1 else if b < a then 1 else 0
theorem cmpInts_ac (a b : Int) (H : List AObj) : ACall Try.prog 62 [.int .i64 a, .int .i64 b] H (fun r H' => r = .int .i64 (cmpI a b) ∧ H' = H) := by
  refine ACall_intro (H.length) Try.func62 rfl ?_
  simp only [Try.ntmps62, List.length_cons, List.length_nil, List.replicate, List.cons_append, List.nil_append, Nat.reduceAdd, Nat.reduceSub, Nat.zero_add]
  refine AW_seq_k (fun K1 hK1 => ?_)
  refine AW_region ?_
  all_goals (refine AOps_cons rfl (AOp_assign ?_) <;> try simp only [push_cast, Nat.reduceAdd])
  all_goals refine AOps_nil ?_
  all_goals
   refine thenK_normal (hK1 _ ?_)
   try clear hK1
   refine AW_seq_k (fun K2 hK2 => ?_)
   refine AW_seq_k (fun K3 hK3 => ?_)
   refine AW_region ?_
   all_goals refine AOps_cons rfl (AOp_move ?_)
   all_goals refine AOps_cons rfl (AOp_move ?_)
   all_goals (try simp only [push_cast, Nat.reduceAdd])
   all_goals (refine AOps_cons rfl (AOp_bin_int _ _ _ _ rfl rfl rfl ?_) <;> try simp only [push_cast, Nat.reduceAdd])
   all_goals refine AOps_nil ?_
   all_goals
    refine thenK_normal (hK3 _ ?_)
    try clear hK3
    apply AW_cond
    case' hc => exact rfl
    case' hf =>
     intro hc4
     try (exfalso; (first | (cases hc4; done) | (simp at hc4; done) | (simp at hc4; omega)); done)
     all_goals (try simp only [decide_eq_true_eq, decide_eq_false_iff_not, Bool.not_eq_true', Bool.not_eq_false', Bool.not_eq_eq_eq_not, Bool.not_true, Bool.not_false] at hc4)
     all_goals
      refine AW_skip ?_
      refine thenK_normal (hK2 _ ?_)
      try clear hK2
      refine AW_seq_k (fun K5 hK5 => ?_)
      refine AW_seq_k (fun K6 hK6 => ?_)
      refine AW_region ?_
      all_goals refine AOps_cons rfl (AOp_move ?_)
      all_goals refine AOps_cons rfl (AOp_move ?_)
      all_goals (try simp only [push_cast, Nat.reduceAdd])
      all_goals (refine AOps_cons rfl (AOp_bin_int _ _ _ _ rfl rfl rfl ?_) <;> try simp only [push_cast, Nat.reduceAdd])
      all_goals refine AOps_nil ?_
      all_goals
       refine thenK_normal (hK6 _ ?_)
       try clear hK6
       apply AW_cond
       case' hc => exact rfl
       case' hf =>
        intro hc7
        try (exfalso; (first | (cases hc7; done) | (simp at hc7; done) | (simp at hc7; omega)); done)
        all_goals (try simp only [decide_eq_true_eq, decide_eq_false_iff_not, Bool.not_eq_true', Bool.not_eq_false', Bool.not_eq_eq_eq_not, Bool.not_true, Bool.not_false] at hc7)
        all_goals
         refine AW_skip ?_
         refine thenK_normal (hK5 _ ?_)
         try clear hK5
         refine AW_seq_k (fun K8 hK8 => ?_)
         refine AW_region ?_
         all_goals (refine AOps_cons rfl (AOp_assign ?_) <;> try simp only [push_cast, Nat.reduceAdd])
         all_goals refine AOps_nil ?_
         all_goals
          refine thenK_normal (hK8 _ ?_)
          try clear hK8
          refine AW_ret ?_
          repeat (first | refine thenK_ret ?_ | refine loopK_ret ?_ | refine blockK_ret ?_)
          refine ⟨by first | exact .inl rfl | exact .inr rfl, _, rfl, (by first | exact outok_app 0 rfl (Nat.zero_le _) (by simp) | exact outok_self), by simp [push_cast], ?_⟩
          simp only [push_cast, Nat.reduceAdd]
          unfold cmpI
          first
            | (have h1 : a < b := (by omega); simp [h1]; done)
            | (have h1 : ¬ a < b := (by omega); have h2 : b < a := (by omega); simp [h1, h2]; done)
            | (have h1 : ¬ a < b := (by omega); have h2 : ¬ b < a := (by omega); simp [h1, h2]; done)
       case' ht =>
        intro hc7
        try (exfalso; (first | (cases hc7; done) | (simp at hc7; done) | (simp at hc7; omega)); done)
        all_goals (try simp only [decide_eq_true_eq, decide_eq_false_iff_not, Bool.not_eq_true', Bool.not_eq_false', Bool.not_eq_eq_eq_not, Bool.not_true, Bool.not_false] at hc7)
        all_goals
         refine AW_seq_k (fun K9 hK9 => ?_)
         refine AW_region ?_
         all_goals (refine AOps_cons rfl (AOp_assign ?_) <;> try simp only [push_cast, Nat.reduceAdd])
         all_goals refine AOps_nil ?_
         all_goals
          refine thenK_normal (hK9 _ ?_)
          try clear hK9
          refine AW_ret ?_
          repeat (first | refine thenK_ret ?_ | refine loopK_ret ?_ | refine blockK_ret ?_)
          refine ⟨by first | exact .inl rfl | exact .inr rfl, _, rfl, (by first | exact outok_app 0 rfl (Nat.zero_le _) (by simp) | exact outok_self), by simp [push_cast], ?_⟩
          simp only [push_cast, Nat.reduceAdd]
          unfold cmpI
          first
            | (have h1 : a < b := (by omega); simp [h1]; done)
            | (have h1 : ¬ a < b := (by omega); have h2 : b < a := (by omega); simp [h1, h2]; done)
            | (have h1 : ¬ a < b := (by omega); have h2 : ¬ b < a := (by omega); simp [h1, h2]; done)
    case' ht =>
     intro hc4
     try (exfalso; (first | (cases hc4; done) | (simp at hc4; done) | (simp at hc4; omega)); done)
     all_goals (try simp only [decide_eq_true_eq, decide_eq_false_iff_not, Bool.not_eq_true', Bool.not_eq_false', Bool.not_eq_eq_eq_not, Bool.not_true, Bool.not_false] at hc4)
     all_goals
      refine AW_seq_k (fun K10 hK10 => ?_)
      refine AW_region ?_
      all_goals (refine AOps_cons rfl (AOp_assign ?_) <;> try simp only [push_cast, Nat.reduceAdd])
      all_goals refine AOps_nil ?_
      all_goals
       refine thenK_normal (hK10 _ ?_)
       try clear hK10
       refine AW_ret ?_
       repeat (first | refine thenK_ret ?_ | refine loopK_ret ?_ | refine blockK_ret ?_)
       refine ⟨by first | exact .inl rfl | exact .inr rfl, _, rfl, (by first | exact outok_app 0 rfl (Nat.zero_le _) (by simp) | exact outok_self), by simp [push_cast], ?_⟩
       simp only [push_cast, Nat.reduceAdd]
       unfold cmpI
       first
         | (have h1 : a < b := (by omega); simp [h1]; done)
         | (have h1 : ¬ a < b := (by omega); have h2 : b < a := (by omega); simp [h1, h2]; done)
         | (have h1 : ¬ a < b := (by omega); have h2 : ¬ b < a := (by omega); simp [h1, h2]; done)
theorem compareBytes_drop : ∀ (a b : List UInt8) (i : Nat), a.take i = b.take i → i ≤ a.length → i ≤ b.length → Lib.compareBytes a b = Lib.compareBytes (a.drop i) (b.drop i)
  | a, b, 0, _, _, _ => rfl
  | [], _, _ + 1, _, h, _ => by simp at h
  | _ :: _, [], _ + 1, _, _, h => by simp at h
  | x :: a, y :: b, i + 1, h, h1, h2 => by
    simp only [List.take_succ_cons, List.cons.injEq] at h
    rw [List.drop_succ_cons, List.drop_succ_cons, ← compareBytes_drop a b i h.2 (by simpa using h1) (by simpa using h2)]
    rw [h.1]
    have : ¬ y < y := by simp
    conv => lhs; unfold Lib.compareBytes
    simp [this]
theorem cmpNames_ac (a b : List UInt8) (ha : a.length < 1099511627776) (hb : b.length < 1099511627776) (H : List AObj) : ACall Try.prog 37 [.str a, .str b] H (fun r H' => r = .int .i64 (Lib.compareBytes a b) ∧ H' = H) := by
  refine ACall_intro (H.length) Try.func37 rfl ?_
  simp only [Try.ntmps37, List.length_cons, List.length_nil, List.replicate, List.cons_append, List.nil_append, Nat.reduceAdd, Nat.reduceSub, Nat.zero_add]
  refine AW_seq_k (fun K11 hK11 => ?_)
  refine AW_region ?_
  all_goals (refine AOps_cons rfl (AOp_assign ?_) <;> try simp only [push_cast, Nat.reduceAdd])
  all_goals refine AOps_nil ?_
  all_goals
   refine thenK_normal (hK11 _ ?_)
   try clear hK11
   refine AW_seq_k (fun K12 hK12 => ?_)
   refine AW_seq_k (fun K13 hK13 => ?_)
   refine AW_region ?_
   all_goals refine AOps_cons rfl (AOp_move ?_)
   all_goals (try simp only [push_cast, Nat.reduceAdd])
   all_goals (refine AOps_cons rfl (AOp_len_str _ rfl un9 ?_) <;> try simp only [push_cast, Nat.reduceAdd])
   all_goals refine AOps_cons rfl (AOp_move ?_)
   all_goals (try simp only [push_cast, Nat.reduceAdd])
   all_goals (refine AOps_cons rfl (AOp_len_str _ rfl un9 ?_) <;> try simp only [push_cast, Nat.reduceAdd])
   all_goals (refine AOps_cons rfl (AOp_min _ _ _ rfl rfl ?_) <;> try simp only [push_cast, Nat.reduceAdd])
   all_goals (refine AOps_cons rfl (AOp_move ?_) <;> try simp only [push_cast, Nat.reduceAdd])
   all_goals refine AOps_nil ?_
   all_goals
    refine thenK_normal (hK13 _ ?_)
    try clear hK13
    refine AW_block ?_
    refine AW_loopR (maskG 36 [0, 0, 8, 0]) (fun (i : Nat) => [(11, .int .i64 i)]) (fun _ => _) (fun i => i ≤ a.length ∧ i ≤ b.length ∧ a.take i = b.take i) (fun i => a.length - i) 0 ⟨Nat.zero_le _, Nat.zero_le _, by simp⟩ (by (simp only [push_cast, Nat.reduceAdd]; (first | refine weak_app0 ?_ | refine weak_same ?_); (repeat (first | exact SlotsOk.nil | refine SlotsOk.junk ?_ | refine SlotsOk.same (by first | (simp [push_cast]; done) | (simp [push_cast, Scoped, ScopedL, *]; done)) ?_ | refine SlotsOk.tok (by first | rfl | (simp; done)) (by first | (simp [push_cast]; done) | (simp [push_cast, Scoped, ScopedL, *]; done)) ?_ | refine SlotsOk.eq (by first | rfl | (congr 1; omega) | (simp; done) | (simp; omega)) (by first | (simp [push_cast]; done) | (simp [push_cast, Scoped, ScopedL, *]; done)) ?_)))) (fun i hi => ?_)
    (try simp only [push_cast, Nat.reduceAdd])
    refine AW_seq_k (fun K14 hK14 => ?_)
    refine AW_region ?_
    all_goals (refine AOps_cons rfl (AOp_bin_int _ _ _ _ rfl rfl rfl ?_) <;> try simp only [push_cast, Nat.reduceAdd])
    all_goals refine AOps_nil ?_
    all_goals
     refine thenK_normal (hK14 _ ?_)
     try clear hK14
     refine AW_seq_k (fun K15 hK15 => ?_)
     apply AW_cond
     case' hc => exact rfl
     case' hf =>
      intro hc16
      try (exfalso; (first | (cases hc16; done) | (simp at hc16; done) | (simp at hc16; omega)); done)
      all_goals (try simp only [decide_eq_true_eq, decide_eq_false_iff_not, Bool.not_eq_true', Bool.not_eq_false', Bool.not_eq_eq_eq_not, Bool.not_true, Bool.not_false] at hc16)
      all_goals
       refine AW_exit ?_
       repeat (first | refine thenK_exit ?_ | refine loopK_exit ?_ | refine blockK_other (by decide) ?_)
       refine blockK_same ?_
       refine thenK_normal (hK12 _ ?_)
       try clear hK12
       refine AW_seq_k (fun K17 hK17 => ?_)
       refine AW_region ?_
       all_goals refine AOps_cons rfl (AOp_move ?_)
       all_goals (try simp only [push_cast, Nat.reduceAdd])
       all_goals (refine AOps_cons rfl (AOp_len_str _ rfl un9 ?_) <;> try simp only [push_cast, Nat.reduceAdd])
       all_goals refine AOps_cons rfl (AOp_move ?_)
       all_goals (try simp only [push_cast, Nat.reduceAdd])
       all_goals (refine AOps_cons rfl (AOp_len_str _ rfl un9 ?_) <;> try simp only [push_cast, Nat.reduceAdd])
       all_goals refine AOps_cons rfl (AOp_call _ _ _ rfl rfl ok62 ?_)
       all_goals (try simp only [push_cast, Nat.reduceAdd])
       all_goals refine (cmpInts_ac _ _ _).mono ?_
       all_goals rintro r H' ⟨rfl, rfl⟩
       all_goals (try simp only [push_cast, Nat.reduceAdd])
       all_goals (refine AOps_cons rfl (AOp_assign ?_) <;> try simp only [push_cast, Nat.reduceAdd])
       all_goals refine AOps_nil ?_
       all_goals
        refine thenK_normal (hK17 _ ?_)
        try clear hK17
        refine AW_ret ?_
        repeat (first | refine thenK_ret ?_ | refine loopK_ret ?_ | refine blockK_ret ?_)
        refine ⟨by first | exact .inl rfl | exact .inr rfl, _, rfl, (by first | exact outok_app 0 rfl (Nat.zero_le _) (by simp) | exact outok_self), by simp [push_cast], ?_⟩
        simp only [push_cast, Nat.reduceAdd]
        rw [compareBytes_drop a b i hi.2.2 hi.1 hi.2.1]
        first
          | (have hil : i < a.length ∧ i < b.length := (by omega)
             have hne : ¬ (a[i]'hil.1).toNat = (b[i]'hil.2).toNat := (by omega)
             have hl1 := (a[i]'hil.1).toNat_lt
             have hl2 := (b[i]'hil.2).toNat_lt
             rw [IntWalk.i64_in _ (by omega), IntWalk.i64_in _ (by omega), List.drop_eq_getElem_cons hil.1, List.drop_eq_getElem_cons hil.2]
             unfold cmpI Lib.compareBytes
             simp only [UInt8.lt_iff_toNat_lt]
             rcases Nat.lt_or_gt_of_ne hne with h | h
             · have h' : ((a[i]'hil.1).toNat : Int) < (b[i]'hil.2).toNat := (by omega)
               simp [h]
             · have h' : ¬ (a[i]'hil.1).toNat < (b[i]'hil.2).toNat := (by omega)
               simp [h, h'])
          | (rcases Nat.lt_or_ge a.length b.length with h | h
             · have hia : i = a.length := (by omega)
               subst hia
               have hd : 0 < (b.drop a.length).length := (by simp; omega)
               cases hb2 : b.drop a.length with
               | nil => rw [hb2] at hd; simp at hd
               | cons y r => simp [cmpI, Lib.compareBytes, h]
             · rcases Nat.lt_or_ge b.length a.length with h2 | h2
               · have hib : i = b.length := (by omega)
                 subst hib
                 have hd : 0 < (a.drop b.length).length := (by simp; omega)
                 cases ha2 : a.drop b.length with
                 | nil => rw [ha2] at hd; simp at hd
                 | cons y r =>
                   have h3 : ¬ a.length < b.length := (by omega)
                   simp [cmpI, Lib.compareBytes, h2, h3]
               · have hl : a.length = b.length := (by omega)
                 have hia : i = a.length := (by omega)
                 subst hia
                 rw [List.drop_eq_nil_of_le (Nat.le_refl _), List.drop_eq_nil_of_le (by omega)]
                 simp [cmpI, Lib.compareBytes, hl])
          | trace_state
     case' ht =>
      intro hc16
      try (exfalso; (first | (cases hc16; done) | (simp at hc16; done) | (simp at hc16; omega)); done)
      all_goals (try simp only [decide_eq_true_eq, decide_eq_false_iff_not, Bool.not_eq_true', Bool.not_eq_false', Bool.not_eq_eq_eq_not, Bool.not_true, Bool.not_false] at hc16)
      all_goals
       refine AW_skip ?_
       refine thenK_normal (hK15 _ ?_)
       try clear hK15
       refine AW_seq_k (fun K18 hK18 => ?_)
       refine AW_block ?_
       refine AW_seq_k (fun K19 hK19 => ?_)
       refine AW_region ?_
       all_goals refine AOps_cons rfl (AOp_move ?_)
       all_goals (refine AOps_cons rfl (AOp_assign ?_) <;> try simp only [push_cast, Nat.reduceAdd])
       all_goals refine AOps_nil ?_
       all_goals
        refine thenK_normal (hK19 _ ?_)
        try clear hK19
        refine AW_seq_k (fun K20 hK20 => ?_)
        apply AW_drawE [some 14, some 15, some 16, some 17, some 18, some 19, some 20] [([], _)] [none, none, none, none, none, none, none] 0 [(0, [], [0]), (1, [], [5]), (2, [], [14, 0]), (3, [], [1]), (4, [], [5]), (5, [], [17, 0]), (6, [], [16, 2])] [_, _, _, _, _, _, _]
        case' hm => exact dr
        case' hn => rfl
        case' hok => rfl
        case' hlen => rfl
        case' hd => rfl
        case' h0 => rfl
        case' hstep =>
         simp only [DAllG, keepG, List.map_cons, List.map_nil, putD, stg, beqB, List.set_cons_zero, List.set_cons_succ, List.getD_cons_zero, List.getD_cons_succ, Option.isSome_some, Option.isSome_none]
         apply And.intro
         · apply DOne_do
           case' ho => rfl
           case' hw => rfl
           refine AOp_move ?_
           all_goals (try simp only [push_cast, Nat.reduceAdd])
           all_goals (constructor <;> first | rfl | trivial)
         apply And.intro
         · apply DOne_do
           case' ho => rfl
           case' hw => rfl
           refine AOp_move ?_
           all_goals (try simp only [push_cast, Nat.reduceAdd])
           all_goals (constructor <;> first | rfl | trivial)
         apply And.intro
         · apply DOne_do
           case' ho => rfl
           case' hw => rfl
           refine AOp_index_str _ _ _ rfl rfl un9 (by first | omega | (simp; omega)) (by first | omega | (simp; omega)) ?_
           all_goals (try simp only [push_cast, Nat.reduceAdd])
           all_goals (constructor <;> first | rfl | trivial)
         apply And.intro
         · apply DOne_do
           case' ho => rfl
           case' hw => rfl
           refine AOp_move ?_
           all_goals (try simp only [push_cast, Nat.reduceAdd])
           all_goals (constructor <;> first | rfl | trivial)
         apply And.intro
         · apply DOne_do
           case' ho => rfl
           case' hw => rfl
           refine AOp_move ?_
           all_goals (try simp only [push_cast, Nat.reduceAdd])
           all_goals (constructor <;> first | rfl | trivial)
         apply And.intro
         · apply DOne_do
           case' ho => rfl
           case' hw => rfl
           refine AOp_index_str _ _ _ rfl rfl un9 (by first | omega | (simp; omega)) (by first | omega | (simp; omega)) ?_
           all_goals (try simp only [push_cast, Nat.reduceAdd])
           all_goals (constructor <;> first | rfl | trivial)
         apply And.intro
         · apply DOne_do
           case' ho => rfl
           case' hw => rfl
           refine AOp_bin_int _ _ _ _ rfl rfl rfl ?_
           all_goals (try simp only [push_cast, Nat.reduceAdd])
           all_goals (constructor <;> first | rfl | trivial)
         exact trivial
        case' hQ => skip
        (try simp only [push_cast, putD, stg, beqB, List.replicate, Nat.reduceAdd, List.getD_cons_zero, List.getD_cons_succ])
        all_goals
         refine thenK_normal (hK20 _ ?_)
         try clear hK20
         apply AW_cond
         case' hc => exact rfl
         case' hf =>
          intro hc21
          try (exfalso; (first | (cases hc21; done) | (simp at hc21; done) | (simp at hc21; omega)); done)
          all_goals (try simp only [decide_eq_true_eq, decide_eq_false_iff_not, Bool.not_eq_true', Bool.not_eq_false', Bool.not_eq_eq_eq_not, Bool.not_true, Bool.not_false] at hc21)
          all_goals
           refine AW_skip ?_
           refine blockK_normal ?_
           refine thenK_normal (hK18 _ ?_)
           try clear hK18
           refine AW_region ?_
           all_goals refine AOps_cons rfl (AOp_bin_int _ _ _ _ rfl rfl rfl ?_)
           all_goals (try simp only [push_cast, Nat.reduceAdd])
           all_goals (try rw [IntWalk.i64_in _ (by omega)])
           all_goals (try simp only [push_cast, Nat.reduceAdd])
           all_goals (refine AOps_cons rfl (AOp_move ?_) <;> try simp only [push_cast, Nat.reduceAdd])
           all_goals refine AOps_nil ?_
           all_goals
            refine loopK_normal ?_
            refine ⟨i + 1, ⟨by omega, by omega, ?_⟩, by (simp only [push_cast, Nat.reduceAdd]; (first | refine weak_app0 ?_ | refine weak_same ?_); (repeat (first | exact SlotsOk.nil | refine SlotsOk.junk ?_ | refine SlotsOk.same (by first | (simp [push_cast]; done) | (simp [push_cast, Scoped, ScopedL, *]; done)) ?_ | refine SlotsOk.tok (by first | rfl | (simp; done)) (by first | (simp [push_cast]; done) | (simp [push_cast, Scoped, ScopedL, *]; done)) ?_ | refine SlotsOk.eq (by first | rfl | (congr 1; omega) | (simp; done) | (simp; omega)) (by first | (simp [push_cast]; done) | (simp [push_cast, Scoped, ScopedL, *]; done)) ?_))), by omega⟩
            have he : (a[i]'(by omega)) = (b[i]'(by omega)) := UInt8.toNat_inj.1 (by omega)
            rw [List.take_succ_eq_append_getElem (by omega), List.take_succ_eq_append_getElem (by omega), hi.2.2, he]
         case' ht =>
          intro hc21
          try (exfalso; (first | (cases hc21; done) | (simp at hc21; done) | (simp at hc21; omega)); done)
          all_goals (try simp only [decide_eq_true_eq, decide_eq_false_iff_not, Bool.not_eq_true', Bool.not_eq_false', Bool.not_eq_eq_eq_not, Bool.not_true, Bool.not_false] at hc21)
          all_goals
           refine AW_seq_k (fun K22 hK22 => ?_)
           apply AW_drawE [some 21, some 22, some 23, some 24, some 25, some 26, some 27, some 28, some 29, some 4] [([], _)] [none, none, none, none, none, none, none, none, none, none] 0 [(0, [], [0]), (1, [], [5]), (2, [], [21, 0]), (3, [], [23]), (4, [], [1]), (5, [], [5]), (6, [], [25, 0]), (7, [], [27]), (8, [], [24, 3]), (9, [], [29])] [_, _, _, _, _, _, _, _, _, _]
           case' hm => exact dr
           case' hn => rfl
           case' hok => rfl
           case' hlen => rfl
           case' hd => rfl
           case' h0 => rfl
           case' hstep =>
            simp only [DAllG, keepG, List.map_cons, List.map_nil, putD, stg, beqB, List.set_cons_zero, List.set_cons_succ, List.getD_cons_zero, List.getD_cons_succ, Option.isSome_some, Option.isSome_none]
            apply And.intro
            · apply DOne_do
              case' ho => rfl
              case' hw => rfl
              refine AOp_move ?_
              all_goals (try simp only [push_cast, Nat.reduceAdd])
              all_goals (constructor <;> first | rfl | trivial)
            apply And.intro
            · apply DOne_do
              case' ho => rfl
              case' hw => rfl
              refine AOp_move ?_
              all_goals (try simp only [push_cast, Nat.reduceAdd])
              all_goals (constructor <;> first | rfl | trivial)
            apply And.intro
            · apply DOne_do
              case' ho => rfl
              case' hw => rfl
              refine AOp_index_str _ _ _ rfl rfl un9 (by first | omega | (simp; omega)) (by first | omega | (simp; omega)) ?_
              all_goals (try simp only [push_cast, Nat.reduceAdd])
              all_goals (constructor <;> first | rfl | trivial)
            apply And.intro
            · apply DOne_do
              case' ho => rfl
              case' hw => rfl
              refine AOp_convert_int _ _ _ rfl un5 un3 ?_
              all_goals (try simp only [push_cast, Nat.reduceAdd])
              all_goals (constructor <;> first | rfl | trivial)
            apply And.intro
            · apply DOne_do
              case' ho => rfl
              case' hw => rfl
              refine AOp_move ?_
              all_goals (try simp only [push_cast, Nat.reduceAdd])
              all_goals (constructor <;> first | rfl | trivial)
            apply And.intro
            · apply DOne_do
              case' ho => rfl
              case' hw => rfl
              refine AOp_move ?_
              all_goals (try simp only [push_cast, Nat.reduceAdd])
              all_goals (constructor <;> first | rfl | trivial)
            apply And.intro
            · apply DOne_do
              case' ho => rfl
              case' hw => rfl
              refine AOp_index_str _ _ _ rfl rfl un9 (by first | omega | (simp; omega)) (by first | omega | (simp; omega)) ?_
              all_goals (try simp only [push_cast, Nat.reduceAdd])
              all_goals (constructor <;> first | rfl | trivial)
            apply And.intro
            · apply DOne_do
              case' ho => rfl
              case' hw => rfl
              refine AOp_convert_int _ _ _ rfl un5 un3 ?_
              all_goals (try simp only [push_cast, Nat.reduceAdd])
              all_goals (constructor <;> first | rfl | trivial)
            apply And.intro
            · apply DOne_do
              case' ho => rfl
              case' hw => rfl
              refine AOp_call _ _ _ rfl rfl ok62 ?_
              (try simp only [push_cast, Nat.reduceAdd])
              refine (cmpInts_ac _ _ _).mono ?_
              rintro r H' ⟨rfl, rfl⟩
              all_goals (try simp only [push_cast, Nat.reduceAdd])
              all_goals (constructor <;> first | rfl | trivial)
            apply And.intro
            · apply DOne_do
              case' ho => rfl
              case' hw => rfl
              refine AOp_assign ?_
              all_goals (try simp only [push_cast, Nat.reduceAdd])
              all_goals (constructor <;> first | rfl | trivial)
            exact trivial
           case' hQ => skip
           (try simp only [push_cast, putD, stg, beqB, List.replicate, Nat.reduceAdd, List.getD_cons_zero, List.getD_cons_succ])
           all_goals
            refine thenK_normal (hK22 _ ?_)
            try clear hK22
            refine AW_ret ?_
            repeat (first | refine thenK_ret ?_ | refine loopK_ret ?_ | refine blockK_ret ?_)
            refine ⟨by first | exact .inl rfl | exact .inr rfl, _, rfl, (by first | exact outok_app 0 rfl (Nat.zero_le _) (by simp) | exact outok_self), by simp [push_cast], ?_⟩
            simp only [push_cast, Nat.reduceAdd]
            rw [compareBytes_drop a b i hi.2.2 hi.1 hi.2.1]
            first
              | (have hil : i < a.length ∧ i < b.length := (by omega)
                 have hne : ¬ (a[i]'hil.1).toNat = (b[i]'hil.2).toNat := (by omega)
                 have hl1 := (a[i]'hil.1).toNat_lt
                 have hl2 := (b[i]'hil.2).toNat_lt
                 rw [IntWalk.i64_in _ (by omega), IntWalk.i64_in _ (by omega), List.drop_eq_getElem_cons hil.1, List.drop_eq_getElem_cons hil.2]
                 unfold cmpI Lib.compareBytes
                 simp only [UInt8.lt_iff_toNat_lt]
                 rcases Nat.lt_or_gt_of_ne hne with h | h
                 · have h' : ((a[i]'hil.1).toNat : Int) < (b[i]'hil.2).toNat := (by omega)
                   simp [h]
                 · have h' : ¬ (a[i]'hil.1).toNat < (b[i]'hil.2).toNat := (by omega)
                   simp [h, h'])
              | (rcases Nat.lt_or_ge a.length b.length with h | h
                 · have hia : i = a.length := (by omega)
                   subst hia
                   have hd : 0 < (b.drop a.length).length := (by simp; omega)
                   cases hb2 : b.drop a.length with
                   | nil => rw [hb2] at hd; simp at hd
                   | cons y r => simp [cmpI, Lib.compareBytes, h]
                 · rcases Nat.lt_or_ge b.length a.length with h2 | h2
                   · have hib : i = b.length := (by omega)
                     subst hib
                     have hd : 0 < (a.drop b.length).length := (by simp; omega)
                     cases ha2 : a.drop b.length with
                     | nil => rw [ha2] at hd; simp at hd
                     | cons y r =>
                       have h3 : ¬ a.length < b.length := (by omega)
                       simp [cmpI, Lib.compareBytes, h2, h3]
                   · have hl : a.length = b.length := (by omega)
                     have hia : i = a.length := (by omega)
                     subst hia
                     rw [List.drop_eq_nil_of_le (Nat.le_refl _), List.drop_eq_nil_of_le (by omega)]
                     simp [cmpI, Lib.compareBytes, hl])
              | trace_state
end Ab
set_option maxRecDepth 10000
namespace Ab
open Go Go.Proofs
attribute [local push_cast] encT encR scoped_encR
def entryP (l : List Rank) (v : List UInt8) : Rank := (l.find? fun x => decide (x.name = v)).getD ⟨v, 0, 0⟩
theorem entry_rank (l : List Rank) (v : List UInt8) : (entryP l v).rank = (ofP l v).rank ∧ (entryP l v).weight = (ofP l v).weight := by
  unfold entryP ofP
  cases l.find? fun x => decide (x.name = v) <;> simp [zeroR]
theorem entry_ac (l : List Rank) (v : List UInt8) (hlen : l.length < 1099511627776) (H : List AObj) : ACall Try.prog 32 [.sl .none (encL encR l), .str v] H (fun r H' => r = encR (entryP l v) ∧ H' = H) := by
  have hsl : ∀ n, ScopedL n (encL encR l) := fun n => scoped_encR n l
  refine ACall_intro (H.length) Try.func32 rfl ?_
  simp only [Try.ntmps32, List.length_cons, List.length_nil, List.replicate, List.cons_append, List.nil_append, Nat.reduceAdd, Nat.reduceSub, Nat.zero_add]
  refine AW_seq_k (fun K1 hK1 => ?_)
  refine AW_region ?_
  all_goals (refine AOps_cons rfl (AOp_alloc _ zr63 (by simp [ofVal, AV.isCell, Value.oneCell']) ?_) <;> try simp only [push_cast, Nat.reduceAdd])
  all_goals refine AOps_nil ?_
  all_goals
   refine thenK_normal (hK1 _ ?_)
   try clear hK1
   refine AW_seq_k (fun K2 hK2 => ?_)
   refine AW_seq_k (fun K3 hK3 => ?_)
   refine AW_region ?_
   all_goals refine AOps_cons rfl (AOp_move ?_)
   all_goals (try simp only [push_cast, Nat.reduceAdd])
   all_goals (refine AOps_cons rfl (AOp_len_sl _ _ _ rfl sl22 ?_) <;> try simp only [push_cast, Nat.reduceAdd])
   all_goals (refine AOps_cons rfl (AOp_move ?_) <;> try simp only [push_cast, Nat.reduceAdd])
   all_goals refine AOps_nil ?_
   all_goals
    refine thenK_normal (hK3 _ ?_)
    try clear hK3
    refine AW_block ?_
    refine AW_loopR (maskG 21 [1, 2, 2, 0, 0]) (fun (i : Nat) => [(9, .int .i64 i)]) (fun _ => _) (fun i => i ≤ l.length ∧ ∀ x, x ∈ l.take i → ¬ x.name = v) (fun i => l.length - i) 0 ⟨Nat.zero_le _, by simp⟩ (by (simp only [push_cast, Nat.reduceAdd]; refine weak_app 1 ?_ (by simp) (by simp [push_cast]); (repeat (first | exact SlotsOk.nil | refine SlotsOk.junk ?_ | refine SlotsOk.same (by first | (simp [push_cast]; done) | (simp [push_cast, Scoped, ScopedL, *]; done)) ?_ | refine SlotsOk.tok (by first | rfl | (simp; done)) (by first | (simp [push_cast]; done) | (simp [push_cast, Scoped, ScopedL, *]; done)) ?_ | refine SlotsOk.eq (by first | rfl | (congr 1; omega) | (simp; done) | (simp; omega)) (by first | (simp [push_cast]; done) | (simp [push_cast, Scoped, ScopedL, *]; done)) ?_)))) (fun i hi => ?_)
    (try simp only [push_cast, Nat.reduceAdd])
    refine AW_seq_k (fun K4 hK4 => ?_)
    refine AW_region ?_
    all_goals (refine AOps_cons rfl (AOp_bin_int _ _ _ _ rfl rfl rfl ?_) <;> try simp only [push_cast, Nat.reduceAdd])
    all_goals refine AOps_nil ?_
    all_goals
     refine thenK_normal (hK4 _ ?_)
     try clear hK4
     refine AW_seq_k (fun K5 hK5 => ?_)
     apply AW_cond
     case' hc => exact rfl
     case' hf =>
      intro hc6
      try (exfalso; (first | (cases hc6; done) | (simp at hc6; done) | (simp at hc6; omega)); done)
      all_goals (try simp only [decide_eq_true_eq, decide_eq_false_iff_not, Bool.not_eq_true', Bool.not_eq_false', Bool.not_eq_eq_eq_not, Bool.not_true, Bool.not_false] at hc6)
      all_goals
       refine AW_exit ?_
       repeat (first | refine thenK_exit ?_ | refine loopK_exit ?_ | refine blockK_other (by decide) ?_)
       refine blockK_same ?_
       refine thenK_normal (hK2 _ ?_)
       try clear hK2
       refine AW_seq_k (fun K7 hK7 => ?_)
       refine AW_region ?_
       all_goals refine AOps_cons rfl (AOp_move ?_)
       all_goals (try simp only [push_cast, Nat.reduceAdd])
       all_goals (refine AOps_cons rfl (AOp_build _ _ _ zr63 st63 _ rfl (by first | rfl | (simp [afill, splice, push_cast]; done)) ?_) <;> try simp only [push_cast, Nat.reduceAdd])
       all_goals (refine AOps_cons rfl (AOp_store _ _ _ _ _ rfl (by first | exact hget0 | exact hgetN _ rfl | assumption | exact hgetL (by assumption) | exact hgetE (by first | assumption | apply hGl) | exact hgetEN (by first | assumption | apply hGl) _ rfl) rfl rfl (by first | exact .inl rfl | exact .inr ⟨_, rfl⟩) (by simp [push_cast, AV.isCell]) sz63 (by simp [push_cast]) ?_) <;> try simp only [push_cast, Nat.reduceAdd])
       all_goals refine AOps_nil ?_
       all_goals
        refine thenK_normal (hK7 _ ?_)
        try clear hK7
        refine AW_ret ?_
        repeat (first | refine thenK_ret ?_ | refine loopK_ret ?_ | refine blockK_ret ?_)
        have e : l.take i = l := List.take_of_length_le (by omega)
        rw [e] at hi
        have hn : l.find? (fun x => decide (x.name = v)) = none := by rw [List.find?_eq_none]; intro x hx; simpa using hi.2 x hx
        have he : entryP l v = ⟨v, 0, 0⟩ := by simp [entryP, hn]
        rw [he]
        refine ⟨by first | exact .inl rfl | exact .inr rfl, _, ⟨_, _, _, _, rfl, (by first | exact hget0 | exact hgetN _ rfl | assumption | exact hgetL (by assumption) | exact hgetE (by first | assumption | apply hGl) | exact hgetEN (by first | assumption | apply hGl) _ rfl), sz63, by simp, .inl ⟨ag63, rfl⟩⟩, (by first | exact outok_app 0 rfl (Nat.zero_le _) (by simp) | exact outok_self), by simp [push_cast], ?_⟩
        simp only [push_cast, Nat.reduceAdd]
        simp [strip, stripL]
     case' ht =>
      intro hc6
      try (exfalso; (first | (cases hc6; done) | (simp at hc6; done) | (simp at hc6; omega)); done)
      all_goals (try simp only [decide_eq_true_eq, decide_eq_false_iff_not, Bool.not_eq_true', Bool.not_eq_false', Bool.not_eq_eq_eq_not, Bool.not_true, Bool.not_false] at hc6)
      all_goals
       refine AW_skip ?_
       refine thenK_normal (hK5 _ ?_)
       try clear hK5
       refine AW_seq_k (fun K8 hK8 => ?_)
       refine AW_block ?_
       refine AW_seq_k (fun K9 hK9 => ?_)
       refine AW_region ?_
       all_goals (refine AOps_cons rfl (AOp_indexAddr_sl 63 _ _ _ _ _ rfl rfl sl22 sz63 (by decide) (by exact uni_encR _) (by first | omega | (simp; omega)) (by first | omega | (simp [push_cast]; omega) | (simp [push_cast]; done)) ?_) <;> try simp only [push_cast, Nat.reduceAdd])
       all_goals (refine AOps_cons rfl (AOp_load_cptr _ _ rfl sz63 ag63 (by simp [push_cast]) ?_) <;> try simp only [push_cast, Nat.reduceAdd])
       all_goals (refine AOps_cons rfl (AOp_alloc _ zr63 (by simp [ofVal, AV.isCell, Value.oneCell']) ?_) <;> try simp only [push_cast, Nat.reduceAdd])
       all_goals (refine AOps_cons rfl (AOp_store _ _ _ _ _ rfl (by first | exact hget0 | exact hgetN _ rfl | assumption | exact hgetL (by assumption) | exact hgetE (by first | assumption | apply hGl) | exact hgetEN (by first | assumption | apply hGl) _ rfl) rfl rfl (by first | exact .inl rfl | exact .inr ⟨_, rfl⟩) (by simp [push_cast, AV.isCell]) sz63 (by simp [push_cast]) ?_) <;> try simp only [push_cast, Nat.reduceAdd])
       all_goals refine AOps_nil ?_
       all_goals
        refine thenK_normal (hK9 _ ?_)
        try clear hK9
        refine AW_seq_k (fun K10 hK10 => ?_)
        refine AW_region ?_
        all_goals (refine AOps_cons rfl (AOp_fieldAddr_ptr _ _ _ _ rfl fd63_0 (by decide) ?_) <;> try simp only [push_cast, Nat.reduceAdd])
        all_goals (refine AOps_cons rfl (AOp_load1_ptr _ _ _ _ _ rfl (by first | exact hget0 | exact hgetN _ rfl | assumption | exact hgetL (by assumption) | exact hgetE (by first | assumption | apply hGl) | exact hgetEN (by first | assumption | apply hGl) _ rfl) sz9 ag9 (by decide) (by simp [push_cast]) rfl ?_) <;> try simp only [push_cast, Nat.reduceAdd])
        all_goals refine AOps_cons rfl (AOp_move ?_)
        all_goals (try simp only [push_cast, Nat.reduceAdd])
        all_goals (refine AOps_cons rfl (AOp_bin_str _ _ _ rfl rfl rfl ?_) <;> try simp only [push_cast, Nat.reduceAdd])
        all_goals refine AOps_nil ?_
        all_goals
         refine thenK_normal (hK10 _ ?_)
         try clear hK10
         apply AW_cond
         case' hc => exact rfl
         case' hf =>
          intro hc11
          try (exfalso; (first | (cases hc11; done) | (simp at hc11; done) | (simp at hc11; omega)); done)
          all_goals (try simp only [decide_eq_true_eq, decide_eq_false_iff_not, Bool.not_eq_true', Bool.not_eq_false', Bool.not_eq_eq_eq_not, Bool.not_true, Bool.not_false] at hc11)
          all_goals
           refine AW_skip ?_
           refine blockK_normal ?_
           refine thenK_normal (hK8 _ ?_)
           try clear hK8
           refine AW_region ?_
           all_goals refine AOps_cons rfl (AOp_bin_int _ _ _ _ rfl rfl rfl ?_)
           all_goals (try simp only [push_cast, Nat.reduceAdd])
           all_goals (try rw [IntWalk.i64_in _ (by omega)])
           all_goals (try simp only [push_cast, Nat.reduceAdd])
           all_goals (refine AOps_cons rfl (AOp_move ?_) <;> try simp only [push_cast, Nat.reduceAdd])
           all_goals refine AOps_nil ?_
           all_goals
            refine loopK_normal ?_
            refine ⟨i + 1, ⟨by omega, fun x hx => ?_⟩, by (simp only [push_cast, Nat.reduceAdd]; refine weak_app 1 ?_ (by simp) (by simp [push_cast]); (repeat (first | exact SlotsOk.nil | refine SlotsOk.junk ?_ | refine SlotsOk.same (by first | (simp [push_cast]; done) | (simp [push_cast, Scoped, ScopedL, *]; done)) ?_ | refine SlotsOk.tok (by first | rfl | (simp; done)) (by first | (simp [push_cast]; done) | (simp [push_cast, Scoped, ScopedL, *]; done)) ?_ | refine SlotsOk.eq (by first | rfl | (congr 1; omega) | (simp; done) | (simp; omega)) (by first | (simp [push_cast]; done) | (simp [push_cast, Scoped, ScopedL, *]; done)) ?_))), by omega⟩
            rw [List.take_succ_eq_append_getElem (by omega)] at hx
            rcases List.mem_append.1 hx with h | h
            · exact hi.2 x h
            · simp at h; subst h; assumption
         case' ht =>
          intro hc11
          try (exfalso; (first | (cases hc11; done) | (simp at hc11; done) | (simp at hc11; omega)); done)
          all_goals (try simp only [decide_eq_true_eq, decide_eq_false_iff_not, Bool.not_eq_true', Bool.not_eq_false', Bool.not_eq_eq_eq_not, Bool.not_true, Bool.not_false] at hc11)
          all_goals
           refine AW_seq_k (fun K12 hK12 => ?_)
           refine AW_region ?_
           all_goals (refine AOps_cons rfl (AOp_load_ptr _ _ _ _ rfl (by first | exact hget0 | exact hgetN _ rfl | assumption | exact hgetL (by assumption) | exact hgetE (by first | assumption | apply hGl) | exact hgetEN (by first | assumption | apply hGl) _ rfl) sz63 ag63 (by simp [push_cast]) ?_) <;> try simp only [push_cast, Nat.reduceAdd])
           all_goals (refine AOps_cons rfl (AOp_store _ _ _ _ _ rfl (by first | exact hget0 | exact hgetN _ rfl | assumption | exact hgetL (by assumption) | exact hgetE (by first | assumption | apply hGl) | exact hgetEN (by first | assumption | apply hGl) _ rfl) rfl rfl (by first | exact .inl rfl | exact .inr ⟨_, rfl⟩) (by simp [push_cast, AV.isCell]) sz63 (by simp [push_cast]) ?_) <;> try simp only [push_cast, Nat.reduceAdd])
           all_goals refine AOps_nil ?_
           all_goals
            refine thenK_normal (hK12 _ ?_)
            try clear hK12
            refine AW_ret ?_
            repeat (first | refine thenK_ret ?_ | refine loopK_ret ?_ | refine blockK_ret ?_)
            have hil : i < l.length := by omega
            have hn : l.find? (fun x => decide (x.name = v)) = some l[i] := by
              rw [List.find?_eq_some_iff_getElem]
              refine ⟨by simpa using ‹l[i].name = v›, i, hil, rfl, fun j hj => ?_⟩
              have := hi.2 l[j] (by rw [List.mem_take_iff_getElem]; exact ⟨j, by omega, rfl⟩)
              simpa using this
            have he : entryP l v = l[i] := by simp [entryP, hn]
            rw [he]
            refine ⟨by first | exact .inl rfl | exact .inr rfl, _, ⟨_, _, _, _, rfl, (by first | exact hget0 | exact hgetN _ rfl | assumption | exact hgetL (by assumption) | exact hgetE (by first | assumption | apply hGl) | exact hgetEN (by first | assumption | apply hGl) _ rfl), sz63, by simp, .inl ⟨ag63, rfl⟩⟩, (by first | exact outok_app 0 rfl (Nat.zero_le _) (by simp) | exact outok_self), by simp [push_cast], ?_⟩
            simp only [push_cast, Nat.reduceAdd]
            simp [strip, stripL]
end Ab
set_option maxRecDepth 10000
namespace Ab
open Go Go.Proofs
attribute [local push_cast] encT encR scoped_encR
theorem aboveR_ac (l : List Rank) (v u : List UInt8) (hlen : l.length < 1099511627776) (H : List AObj) : ACall Try.prog 33 [.sl .none (encL encR l), .str v, .str u] H (fun r H' => r = .bool (decide ((ofP l u).rank < (ofP l v).rank)) ∧ H' = H) := by
  have h1 := (entry_rank l v).1
  have h2 := (entry_rank l u).1
  refine ACall_intro (H.length) Try.func33 rfl ?_
  simp only [Try.ntmps33, List.length_cons, List.length_nil, List.replicate, List.cons_append, List.nil_append, Nat.reduceAdd, Nat.reduceSub, Nat.zero_add]
  refine AW_seq_k (fun K1 hK1 => ?_)
  refine AW_region ?_
  all_goals (refine AOps_cons rfl (AOp_assign ?_) <;> try simp only [push_cast, Nat.reduceAdd])
  all_goals refine AOps_nil ?_
  all_goals
   refine thenK_normal (hK1 _ ?_)
   try clear hK1
   refine AW_seq_k (fun K2 hK2 => ?_)
   refine AW_region ?_
   all_goals refine AOps_cons rfl (AOp_move ?_)
   all_goals refine AOps_cons rfl (AOp_move ?_)
   all_goals (try simp only [push_cast, Nat.reduceAdd])
   all_goals refine AOps_cons rfl (AOp_call _ _ _ rfl rfl ok32 ?_)
   all_goals (try simp only [push_cast, Nat.reduceAdd])
   all_goals refine (entry_ac l v hlen _).mono ?_
   all_goals rintro r H' ⟨rfl, rfl⟩
   all_goals (try simp only [push_cast, Nat.reduceAdd])
   all_goals (refine AOps_cons rfl (AOp_field1 _ _ _ _ rfl fa63_1 (by decide) (by simp [push_cast]) rfl ?_) <;> try simp only [push_cast, Nat.reduceAdd])
   all_goals refine AOps_cons rfl (AOp_move ?_)
   all_goals refine AOps_cons rfl (AOp_move ?_)
   all_goals (try simp only [push_cast, Nat.reduceAdd])
   all_goals refine AOps_cons rfl (AOp_call _ _ _ rfl rfl ok32 ?_)
   all_goals (try simp only [push_cast, Nat.reduceAdd])
   all_goals refine (entry_ac l u hlen _).mono ?_
   all_goals rintro r H' ⟨rfl, rfl⟩
   all_goals (try simp only [push_cast, Nat.reduceAdd])
   all_goals (refine AOps_cons rfl (AOp_field1 _ _ _ _ rfl fa63_1 (by decide) (by simp [push_cast]) rfl ?_) <;> try simp only [push_cast, Nat.reduceAdd])
   all_goals (refine AOps_cons rfl (AOp_bin_int _ _ _ _ rfl rfl rfl ?_) <;> try simp only [push_cast, Nat.reduceAdd])
   all_goals (refine AOps_cons rfl (AOp_assign ?_) <;> try simp only [push_cast, Nat.reduceAdd])
   all_goals refine AOps_nil ?_
   all_goals
    refine thenK_normal (hK2 _ ?_)
    try clear hK2
    refine AW_ret ?_
    repeat (first | refine thenK_ret ?_ | refine loopK_ret ?_ | refine blockK_ret ?_)
    refine ⟨by first | exact .inl rfl | exact .inr rfl, _, rfl, (by first | exact outok_app 0 rfl (Nat.zero_le _) (by simp) | exact outok_self), by simp [push_cast], ?_⟩
    simp only [push_cast, Nat.reduceAdd]
    rw [h1, h2]; first | (simp; done) | rfl | exact ⟨rfl, trivial⟩
end Ab
set_option maxRecDepth 10000
namespace Ab
open Go Go.Proofs
theorem Term.var_mk (n : List UInt8) (v : Bool) (xs : List Term) : (Term.mk n v xs).var = v := rfl
theorem Term.name_mk (n : List UInt8) (v : Bool) (xs : List Term) : (Term.mk n v xs).name = n := rfl
theorem Term.args_mk (n : List UInt8) (v : Bool) (xs : List Term) : (Term.mk n v xs).args = xs := rfl
def oneP (v n : List UInt8) (u : Bool) : Int := if u = true ∧ n = v then 1 else 0
theorem oneP_bound (v n : List UInt8) (u : Bool) : 0 ≤ oneP v n u ∧ oneP v n u ≤ 1 := by unfold oneP; split <;> omega
def countP (v : List UInt8) : Term → Int
  | .mk n u xs => oneP v n u + (xs.map (countP v)).sum
theorem countP_mk (v n : List UInt8) (u : Bool) (xs : List Term) : countP v (.mk n u xs) = oneP v n u + (xs.map (countP v)).sum := by simp [countP]
def occOf (v : List UInt8) (x : List Int × Term) : Int := oneP v x.2.name x.2.var
theorem walkL_occ : ∀ (v : List UInt8) (xs : List Term) (i : Int) (p : List Int), ((walkL xs i p).map (occOf v)).sum = (xs.map (countP v)).sum
  | v, [], _, _ => by simp [walkL]
  | v, .mk n u ys :: r, i, p => by
    have h1 := walkL_occ v ys 0 (p ++ [i])
    have h2 := walkL_occ v r (i + 1) p
    simp only [walkL, List.map_cons, List.map_append, List.sum_cons, List.sum_append, h1, h2, countP_mk]
    simp only [occOf, Term.var_mk, Term.name_mk]; omega
theorem walkT_occ (v : List UInt8) (t : Term) (p : List Int) : ((walkT t p).map (occOf v)).sum = countP v t := by
  cases t with
  | mk n u xs => simp [walkT, walkL_occ, Term.args_mk, countP_mk, occOf, Term.var_mk, Term.name_mk]
theorem occ_bound (v : List UInt8) : ∀ l : List (List Int × Term), 0 ≤ (l.map (occOf v)).sum ∧ (l.map (occOf v)).sum ≤ l.length
  | [] => by simp
  | x :: l => by
    have := occ_bound v l
    have := oneP_bound v x.2.name x.2.var
    simp only [List.map_cons, List.sum_cons, occOf, List.length_cons]; omega
theorem countP_bound (v : List UInt8) (t : Term) : 0 ≤ countP v t ∧ countP v t ≤ t.size := by
  have := occ_bound v (walkT t [])
  rw [walkT_occ, walkT_length] at this; exact this
theorem aset_keys {κ α : Type} [DecidableEq κ] : ∀ (m : List (κ × α)) (k : κ) (v : α), (aset m k v).map (·.1) = if k ∈ m.map (·.1) then m.map (·.1) else m.map (·.1) ++ [k]
  | [], k, v => by simp [aset]
  | p :: m, k, v => by
    have ih := aset_keys m k v
    by_cases h : p.1 = k
    · simp [aset, h]
    · have h' : ¬ k = p.1 := fun e => h e.symm
      simp only [aset, h, if_false, List.map_cons, List.mem_cons, h', false_or, ih]
      split <;> simp
theorem aset_nodup {κ α : Type} [DecidableEq κ] {m : List (κ × α)} (h : (m.map (·.1)).Nodup) (k : κ) (v : α) : ((aset m k v).map (·.1)).Nodup := by
  rw [aset_keys]
  split
  · exact h
  · rename_i hk
    rw [List.nodup_append]
    exact ⟨h, by simp, fun a ha b hb => by simp at hb; subst hb; exact fun e => hk (e ▸ ha)⟩
theorem aget_mem {κ α : Type} [DecidableEq κ] : ∀ {m : List (κ × α)} {k : κ} {v : α}, aget m k = some v → (k, v) ∈ m
  | p :: m, k, v, h => by
    unfold aget at h
    split at h
    · rename_i e; injection h with h; subst e; subst h; exact List.mem_cons_self
    · exact List.mem_cons_of_mem _ (aget_mem h)
theorem aget_of_mem {κ α : Type} [DecidableEq κ] : ∀ {m : List (κ × α)}, (m.map (·.1)).Nodup → ∀ p, p ∈ m → aget m p.1 = some p.2
  | q :: m, h, p, hp => by
    rw [List.map_cons, List.nodup_cons] at h
    unfold aget
    rcases List.mem_cons.1 hp with rfl | hp
    · simp
    · have : ¬ q.1 = p.1 := fun e => h.1 (e ▸ List.mem_map_of_mem hp)
      rw [if_neg this]; exact aget_of_mem h.2 p hp
theorem countM_nodup (l : List (List Int × Term)) : ((countM l).map (·.1)).Nodup := by
  obtain ⟨r, rfl⟩ : ∃ r, l = r.reverse := ⟨l.reverse, by simp⟩
  induction r with
  | nil => simp [countM]
  | cons x r ih =>
    rw [List.reverse_cons, countM_snoc]
    unfold countStep
    split
    · exact aset_nodup ih _ _
    · exact ih
theorem countM_get (v : List UInt8) (l : List (List Int × Term)) : (aget (countM l) v).getD 0 = (l.map (occOf v)).sum := by
  obtain ⟨r, rfl⟩ : ∃ r, l = r.reverse := ⟨l.reverse, by simp⟩
  induction r with
  | nil => simp [countM, aget]
  | cons x r ih =>
    rw [List.reverse_cons, countM_snoc, List.map_append, List.sum_append, ← ih]
    unfold countStep
    cases hv : x.2.var with
    | false => simp [occOf, oneP, hv]
    | true =>
      simp only [if_true, List.map_cons, List.map_nil, List.sum_cons, List.sum_nil, occOf, oneP, hv, true_and]
      rw [aget_aset]
      by_cases hn : x.2.name = v
      · simp [hn]
      · simp [hn]
theorem coversP_iff (s t : Term) : coversP s t = true ↔ ∀ v, countP v t ≤ countP v s := by
  have hg : ∀ (v : List UInt8) (t : Term), (aget (countM (walkT t [])) v).getD 0 = countP v t := fun v t => by rw [countM_get, walkT_occ]
  unfold coversP
  rw [List.all_eq_true]
  constructor
  · intro h v
    cases ha : aget (countM (walkT t [])) v with
    | none =>
      have := hg v t
      rw [ha] at this; simp at this
      have := countP_bound v s
      omega
    | some n =>
      have h1 := h _ (aget_mem ha)
      have := hg v t
      rw [ha] at this; simp at this
      rw [hg] at h1; simp at h1; omega
  · intro h p hp
    have h1 := aget_of_mem (countM_nodup _) p hp
    have h2 := hg p.1 t
    rw [h1] at h2; simp at h2
    rw [hg, h2]; simpa using h p.1
def symOf (t : Term) : Sym := ⟨t.name, t.args.length⟩
theorem symOf_mk (n : List UInt8) (v : Bool) (xs : List Term) : symOf (.mk n v xs) = ⟨n, xs.length⟩ := rfl
def ofT : Term → List Sym
  | .mk n u xs => (xs.map ofT).flatten ++ if u then [] else [⟨n, xs.length⟩]
theorem ofT_mk (n : List UInt8) (u : Bool) (xs : List Term) : ofT (.mk n u xs) = xs.flatMap ofT ++ if u then [] else [⟨n, xs.length⟩] := by simp [ofT, List.flatMap]
theorem sum_le_sum {α : Type} {f g : α → Nat} : ∀ {xs : List α}, (∀ x, x ∈ xs → f x ≤ g x) → (xs.map f).sum ≤ (xs.map g).sum
  | [], _ => by simp
  | y :: ys, h => by
    have h1 := h y (by simp)
    have h2 := sum_le_sum (xs := ys) (fun z hz => h z (by simp [hz]))
    simp only [List.map_cons, List.sum_cons]; omega
theorem ofT_length (t : Term) : (ofT t).length ≤ t.size := by
  refine Term.ind (p := fun t => (ofT t).length ≤ t.size) (fun n u xs ih => ?_) t
  rw [ofT_mk, Term.size_mk, List.length_append, List.length_flatMap]
  have := sum_le_sum (f := fun t => (ofT t).length) (g := Term.size) ih
  split <;> simp only [List.length_nil, List.length_cons] <;> omega
theorem mem_walkL (f : Sym) : ∀ (xs : List Term) (i : Int) (p : List Int), (∃ x, x ∈ walkL xs i p ∧ x.2.var = false ∧ symOf x.2 = f) ↔ f ∈ xs.flatMap ofT
  | [], _, _ => by simp [walkL]
  | .mk n v ys :: r, i, p => by
    have h1 := mem_walkL f ys 0 (p ++ [i])
    have h2 := mem_walkL f r (i + 1) p
    simp only [walkL, List.mem_cons, List.mem_append, or_and_right, exists_or, exists_eq_left, h1, h2, List.flatMap_cons, ofT_mk, Term.var_mk, symOf_mk]
    cases v
    · simp only [true_and, Bool.false_eq_true, if_false, List.mem_singleton, eq_comm (a := f)]
      constructor
      · rintro (h | h | h)
        · exact .inl (.inr h)
        · exact .inl (.inl h)
        · exact .inr h
      · rintro ((h | h) | h)
        · exact .inr (.inl h)
        · exact .inl h
        · exact .inr (.inr h)
    · simp only [Bool.true_eq_false, false_and, false_or, if_true, List.not_mem_nil, or_false]
theorem mem_ofT (f : Sym) (t : Term) (p : List Int) : (∃ x, x ∈ walkT t p ∧ x.2.var = false ∧ symOf x.2 = f) ↔ f ∈ ofT t := by
  cases t with
  | mk n v ys =>
    have h := mem_walkL f [.mk n v ys] 0 p
    simp only [walkT, Term.args_mk, List.mem_cons, or_and_right, exists_or, exists_eq_left]
    have h1 := mem_walkL f ys 0 p
    rw [h1, ofT_mk, List.mem_append]
    simp only [Term.var_mk, symOf_mk]
    cases v
    · simp only [true_and, Bool.false_eq_true, if_false, List.mem_singleton, eq_comm (a := f)]
      exact or_comm
    · simp
def symStep (out : List Sym) (x : List Int × Term) : List Sym := if x.2.var = false ∧ symOf x.2 ∉ out then out ++ [symOf x.2] else out
def symsT (out : List Sym) (t : Term) : List Sym := (walkT t []).foldl symStep out
def symsP (ts : List Term) : List Sym := ts.foldl symsT []
theorem mem_symFold (f : Sym) : ∀ (l : List (List Int × Term)) (out : List Sym), f ∈ l.foldl symStep out ↔ f ∈ out ∨ ∃ x, x ∈ l ∧ x.2.var = false ∧ symOf x.2 = f
  | [], out => by simp
  | x :: l, out => by
    rw [List.foldl_cons, mem_symFold f l]
    have h : f ∈ symStep out x ↔ f ∈ out ∨ (x.2.var = false ∧ symOf x.2 = f) := by
      unfold symStep
      split
      · rename_i h; rw [List.mem_append, List.mem_singleton]; simp only [h.1, true_and, eq_comm (a := f)]
      · rename_i h
        constructor
        · exact .inl
        · rintro (h1 | ⟨h1, h2⟩)
          · exact h1
          · by_cases h3 : symOf x.2 ∈ out
            · exact h2 ▸ h3
            · exact absurd ⟨h1, h3⟩ h
    rw [h]
    simp only [List.mem_cons, or_and_right, exists_or, exists_eq_left, or_assoc]
theorem mem_symsFold (f : Sym) : ∀ (ts : List Term) (out : List Sym), f ∈ ts.foldl symsT out ↔ f ∈ out ∨ f ∈ ts.flatMap ofT
  | [], out => by simp
  | t :: ts, out => by
    rw [List.foldl_cons, mem_symsFold f ts, List.flatMap_cons, List.mem_append, ← or_assoc]
    unfold symsT
    rw [mem_symFold, mem_ofT]
theorem mem_symsP (f : Sym) (ts : List Term) : f ∈ symsP ts ↔ f ∈ ts.flatMap ofT := by simp [symsP, mem_symsFold]
def fitsRy (l : List Rank) (x y : Sym) : Bool := !(decide (x.arity = 1) && decide ((ofP l x.name).weight = 0) && decide (x ≠ y) && !decide ((ofP l y.name).rank < (ofP l x.name).rank))
def fitsRx (l : List Rank) (unit : Int) (ss : List Sym) (x : Sym) : Bool := !(decide (x.arity = 0) && decide ((ofP l x.name).weight < unit)) && ss.all (fitsRy l x)
def fitsR (l : List Rank) (unit : Int) (ss : List Sym) : Bool := ss.all (fitsRx l unit ss)
theorem fitsR_eq (l : List Rank) (unit : Int) (hr : SmallR l unit) (s1 s2 : List Sym) (h : ∀ f, f ∈ s1 ↔ f ∈ s2) : fitsR l unit s1 = fitsW l unit s2 := by
  have hall : ∀ p : Sym → Bool, s1.all p = s2.all p := fun p => by
    rw [Bool.eq_iff_iff, List.all_eq_true, List.all_eq_true]; simp only [h]
  unfold fitsR fitsW
  rw [hall]
  congr 1
  funext x
  unfold fitsRx
  rw [hall]
  unfold fitsAt
  congr 1
  have hw := hr.of x.name
  rw [Bool.eq_iff_iff, List.all_eq_true]
  unfold fitsRy
  by_cases ha : x.arity = 1
  · by_cases hw0 : 0 < (ofP l x.name).weight
    · have : ¬ (ofP l x.name).weight = 0 := by omega
      simp [ha, hw0, this]
    · have : (ofP l x.name).weight = 0 := by omega
      simp only [ha, this, decide_true, Bool.true_and, Bool.not_true, Bool.false_or, Int.lt_irrefl, decide_false, Bool.not_eq_true', List.any_eq_false]
      constructor
      · intro h1 y hy h2
        have := h1 y hy
        simp only [Bool.and_eq_true, decide_eq_true_eq, ne_eq] at h2
        have hne : ¬ x = y := fun e => h2.1 e.symm
        simp [hne] at this; omega
      · intro h1 y hy
        have := h1 y hy
        by_cases hne : x = y
        · simp [hne]
        · have hne' : ¬ y = x := fun e => hne e.symm
          simp [hne, hne'] at this ⊢; omega
  · simp [ha]
end Ab
set_option maxRecDepth 10000
namespace Ab
open Go Go.Proofs
attribute [local push_cast] encT encR scoped_encR
@[reducible] def encN (l : List (List UInt8)) : List AV := encL AV.str l
theorem scoped_encN (n : Nat) (l : List (List UInt8)) : ScopedL n (encN l) := scoped_encL (fun x => by simp [Scoped]) l
theorem strip_encN (n : Nat) (l : List (List UInt8)) : stripL n (encN l) = encN l := by rw [stripL_eq]; simp [encN, encL, strip]
theorem encL_append {α : Type} (enc : α → AV) (xs ys : List α) : encL enc (xs ++ ys) = encL enc xs ++ encL enc ys := by simp [encL]
end Ab
set_option maxRecDepth 10000
namespace Ab
open Go Go.Proofs
theorem bytesLess_cmp : ∀ a b : List UInt8, (Op.bytesLess a b = true ↔ Lib.compareBytes a b < 0) ∧ (Lib.compareBytes b a < 0 ↔ 0 < Lib.compareBytes a b)
  | [], [] => by simp [Op.bytesLess, Lib.compareBytes]
  | [], _ :: _ => by simp [Op.bytesLess, Lib.compareBytes]
  | _ :: _, [] => by simp [Op.bytesLess, Lib.compareBytes]
  | a :: x, b :: y => by
    have ih := bytesLess_cmp x y
    unfold Op.bytesLess Lib.compareBytes
    simp only [UInt8.lt_iff_toNat_lt]
    rcases Nat.lt_trichotomy a.toNat b.toNat with h | h | h
    · have h2 : ¬ b.toNat < a.toNat := by omega
      simp [h, h2]
    · have e : a = b := UInt8.toNat_inj.1 h
      subst e
      have h2 : ¬ a.toNat < a.toNat := by omega
      simp only [h2, if_false, decide_false, Bool.false_or, beq_self_eq_true, Bool.true_and]; exact ih
    · have h2 : ¬ a.toNat < b.toNat := by omega
      have h3 : ¬ a = b := fun e => by subst e; omega
      simp [h, h2, h3]
theorem leB_cmp (a b : List UInt8) : leB a b = true ↔ 0 ≤ Lib.compareBytes b a := by
  have h1 := bytesLess_cmp a b
  have h3 := bytesLess_cmp b a
  have h2 := compareBytes_eq b a
  unfold leB
  rw [Bool.or_eq_true, decide_eq_true_eq, h1.1]
  constructor
  · rintro (h | h)
    · have := h3.2.1 h; omega
    · have := h2.2 h.symm; omega
  · intro h
    rcases Int.lt_or_eq_of_le h with h4 | h4
    · exact .inl (h3.2.2 h4)
    · exact .inr (h2.1 h4.symm).symm
theorem sorted_of_names {l : List Rank} (h : namesP l = 0) : SortedR l ∧ l.length ≤ 256 := by
  unfold namesP at h
  split at h
  · cases h
  rename_i h1
  split at h
  · rename_i h2
    rw [List.all_eq_true] at h2
    have hstep : ∀ i (hi : i + 1 < l.length), Lib.compareBytes l[i].name l[i + 1].name < 0 := by
      intro i hi
      have h3 := h2 (i + 1) (by simpa using hi)
      unfold goodAt at h3
      rw [show l.getD (i + 1) zeroR = l[i + 1] from by simp [hi], show i + 1 - 1 = i from rfl, show l.getD i zeroR = l[i] from by simp [show i < l.length by omega]] at h3
      simp only [Bool.and_eq_true, Bool.or_eq_true, decide_eq_true_eq, Bool.not_eq_true'] at h3
      have h4 : leB l[i + 1].name l[i].name = false := by
        rcases h3.2 with h5 | h5
        · omega
        · exact h5
      have h6 := (leB_cmp l[i + 1].name l[i].name)
      rw [h4] at h6
      have : ¬ 0 ≤ Lib.compareBytes l[i].name l[i + 1].name := fun e => by cases h6.2 e
      omega
    refine ⟨?_, by omega⟩
    unfold SortedR
    rw [List.pairwise_iff_getElem]
    intro i j hi hj hij
    obtain ⟨d, rfl⟩ : ∃ d, j = i + 1 + d := ⟨j - i - 1, by omega⟩
    induction d with
    | zero => exact hstep i (by omega)
    | succ d ih => exact compareBytes_trans _ _ _ (ih (by omega) (by omega)) (hstep (i + 1 + d) (by omega))
  · cases h
theorem good_of_check {l : List Rank} {unit : Int} (h : wcheckP l unit = 0) : SortedR l ∧ SmallR l unit := by
  unfold wcheckP at h
  split at h
  · rename_i h1; exact absurd h h1
  rename_i h1
  split at h
  · cases h
  rename_i h2
  refine ⟨(sorted_of_names (by omega)).1, ?_⟩
  rw [Bool.not_eq_true, Bool.or_eq_false_iff, Bool.or_eq_false_iff] at h2
  obtain ⟨⟨h3, h4⟩, h5⟩ := h2
  rw [List.any_eq_false] at h3
  simp only [badP, Bool.or_eq_false_iff, decide_eq_false_iff_not] at h4 h5
  refine ⟨fun x hx => ?_, by omega, by omega⟩
  have := h3 x hx
  simp only [badP, Bool.or_eq_true, decide_eq_true_eq, not_or] at this
  omega
end Ab
set_option maxRecDepth 10000
namespace Ab
open Go Go.Proofs
attribute [local push_cast] encT encR scoped_encR encS scoped_encS
set_option maxHeartbeats 1600000 in
theorem listed_ac (l : List Rank) (hlen : l.length < 1099511627776) (hnl : ∀ x, x ∈ l → x.name.length < 1099511627776) (H : List AObj) : ACall Try.prog 31 [.sl .none (encL encR l)] H (fun r H' => r = .int .i64 (namesP l) ∧ H' = H) := by
  refine ACall_intro (H.length) Try.func31 rfl ?_
  simp only [Try.ntmps31, List.length_cons, List.length_nil, List.replicate, List.cons_append, List.nil_append, Nat.reduceAdd, Nat.reduceSub, Nat.zero_add]
  refine AW_seq_k (fun K1 hK1 => ?_)
  refine AW_region ?_
  all_goals (refine AOps_cons rfl (AOp_assign ?_) <;> try simp only [push_cast, Nat.reduceAdd])
  all_goals refine AOps_nil ?_
  all_goals
   refine thenK_normal (hK1 _ ?_)
   try clear hK1
   refine AW_seq_k (fun K2 hK2 => ?_)
   refine AW_seq_k (fun K3 hK3 => ?_)
   refine AW_region ?_
   all_goals refine AOps_cons rfl (AOp_move ?_)
   all_goals (try simp only [push_cast, Nat.reduceAdd])
   all_goals (refine AOps_cons rfl (AOp_len_sl _ _ _ rfl sl22 ?_) <;> try simp only [push_cast, Nat.reduceAdd])
   all_goals (refine AOps_cons rfl (AOp_bin_int _ _ _ _ rfl rfl rfl ?_) <;> try simp only [push_cast, Nat.reduceAdd])
   all_goals refine AOps_nil ?_
   all_goals
    refine thenK_normal (hK3 _ ?_)
    try clear hK3
    apply AW_cond
    case' hc => exact rfl
    case' hf =>
     intro hc4
     try (exfalso; (first | (cases hc4; done) | (simp at hc4; done) | (simp at hc4; omega)); done)
     all_goals (try simp only [decide_eq_true_eq, decide_eq_false_iff_not, Bool.not_eq_true', Bool.not_eq_false', Bool.not_eq_eq_eq_not, Bool.not_true, Bool.not_false] at hc4)
     all_goals
      refine AW_skip ?_
      refine thenK_normal (hK2 _ ?_)
      try clear hK2
      refine AW_seq_k (fun K5 hK5 => ?_)
      refine AW_seq_k (fun K6 hK6 => ?_)
      refine AW_region ?_
      all_goals refine AOps_cons rfl (AOp_move ?_)
      all_goals (try simp only [push_cast, Nat.reduceAdd])
      all_goals (refine AOps_cons rfl (AOp_len_sl _ _ _ rfl sl22 ?_) <;> try simp only [push_cast, Nat.reduceAdd])
      all_goals (refine AOps_cons rfl (AOp_move ?_) <;> try simp only [push_cast, Nat.reduceAdd])
      all_goals refine AOps_nil ?_
      all_goals
       refine thenK_normal (hK6 _ ?_)
       try clear hK6
       refine AW_block ?_
       refine AW_loopR (maskG 36 [0, 7, 0, 0]) (fun (i : Nat) => [(10, .int .i64 i)]) (fun _ => _) (fun i => i ≤ l.length ∧ (List.range i).all (goodAt l) = true) (fun i => l.length - i) 0 ⟨Nat.zero_le _, by simp⟩ (by (simp only [push_cast, Nat.reduceAdd]; (first | refine weak_app0 ?_ | refine weak_same ?_); (repeat (first | exact SlotsOk.nil | refine SlotsOk.junk ?_ | refine SlotsOk.same (by first | (simp [push_cast]; done) | (simp [push_cast, Scoped, ScopedL, *]; done)) ?_ | refine SlotsOk.tok (by first | rfl | (simp; done)) (by first | (simp [push_cast]; done) | (simp [push_cast, Scoped, ScopedL, *]; done)) ?_ | refine SlotsOk.eq (by first | rfl | (congr 1; omega) | (simp; done) | (simp; omega)) (by first | (simp [push_cast]; done) | (simp [push_cast, Scoped, ScopedL, *]; done)) ?_)))) (fun i hi => ?_)
       (try simp only [push_cast, Nat.reduceAdd])
       refine AW_seq_k (fun K7 hK7 => ?_)
       refine AW_region ?_
       all_goals (refine AOps_cons rfl (AOp_bin_int _ _ _ _ rfl rfl rfl ?_) <;> try simp only [push_cast, Nat.reduceAdd])
       all_goals refine AOps_nil ?_
       all_goals
        refine thenK_normal (hK7 _ ?_)
        try clear hK7
        refine AW_seq_k (fun K8 hK8 => ?_)
        apply AW_cond
        case' hc => exact rfl
        case' hf =>
         intro hc9
         try (exfalso; (first | (cases hc9; done) | (simp at hc9; done) | (simp at hc9; omega)); done)
         all_goals (try simp only [decide_eq_true_eq, decide_eq_false_iff_not, Bool.not_eq_true', Bool.not_eq_false', Bool.not_eq_eq_eq_not, Bool.not_true, Bool.not_false] at hc9)
         all_goals
          refine AW_exit ?_
          repeat (first | refine thenK_exit ?_ | refine loopK_exit ?_ | refine blockK_other (by decide) ?_)
          refine blockK_same ?_
          refine thenK_normal (hK5 _ ?_)
          try clear hK5
          refine AW_seq_k (fun K10 hK10 => ?_)
          refine AW_region ?_
          all_goals (refine AOps_cons rfl (AOp_assign ?_) <;> try simp only [push_cast, Nat.reduceAdd])
          all_goals refine AOps_nil ?_
          all_goals
           refine thenK_normal (hK10 _ ?_)
           try clear hK10
           refine AW_ret ?_
           repeat (first | refine thenK_ret ?_ | refine loopK_ret ?_ | refine blockK_ret ?_)
           refine ⟨by first | exact .inl rfl | exact .inr rfl, _, rfl, (by first | exact outok_app 0 rfl (Nat.zero_le _) (by simp) | exact outok_self), by simp [push_cast], ?_⟩
           simp only [push_cast, Nat.reduceAdd]
           have hgd : ∀ j (h : j < l.length), l.getD j zeroR = l[j] := fun j h => by simp [h]
           first
             | (have h1 : 256 < l.length := (by omega); simp [namesP, h1]; done)
             | (have h1 : ¬ 256 < l.length := (by omega)
                have hs : (List.range l.length).all (goodAt l) = true := (by rw [← show i = l.length by omega]; exact hi.2)
                simp only [namesP, h1, if_false, hs, if_true]; simp; done)
             | (have h1 : ¬ 256 < l.length := (by omega)
                have hbad : goodAt l i = false := (by
                  unfold goodAt
                  rw [hgd i hil, hb]
                  first
                    | rfl
                    | (rw [hgd (i - 1) (by omega)]
                       have hq : leB l[i].name (l[i - 1]'(by omega)).name = true := ((leB_cmp _ _).2 (by omega))
                       have h0 : ¬ i = 0 := (by omega)
                       simp only [hq]; simp [h0]))
                have hs : (List.range l.length).all (goodAt l) = false := all_get (i := i) (by simpa using hil) (by simpa using hbad)
                simp only [namesP, h1, if_false, hs]; simp; done)
             | fail "ret"
        case' ht =>
         intro hc9
         try (exfalso; (first | (cases hc9; done) | (simp at hc9; done) | (simp at hc9; omega)); done)
         all_goals (try simp only [decide_eq_true_eq, decide_eq_false_iff_not, Bool.not_eq_true', Bool.not_eq_false', Bool.not_eq_eq_eq_not, Bool.not_true, Bool.not_false] at hc9)
         all_goals
          refine AW_skip ?_
          refine thenK_normal (hK8 _ ?_)
          try clear hK8
          refine AW_seq_k (fun K11 hK11 => ?_)
          refine AW_block ?_
          refine AW_seq_k (fun K12 hK12 => ?_)
          refine AW_region ?_
          all_goals refine AOps_cons rfl (AOp_move ?_)
          all_goals (try simp only [push_cast, Nat.reduceAdd])
          all_goals (refine AOps_cons rfl (AOp_indexAddr_sl 63 _ _ _ _ _ rfl rfl sl22 sz63 (by decide) (by exact uni_encR _) (by first | omega | (simp; omega)) (by first | omega | (simp [push_cast]; omega) | (simp [push_cast]; done)) ?_) <;> try simp only [push_cast, Nat.reduceAdd])
          all_goals (refine AOps_cons rfl (AOp_load_cptr _ _ rfl sz63 ag63 (by simp [push_cast]) ?_) <;> try simp only [push_cast, Nat.reduceAdd])
          all_goals (refine AOps_cons rfl (AOp_alloc _ zr63 (by simp [ofVal, AV.isCell, Value.oneCell']) ?_) <;> try simp only [push_cast, Nat.reduceAdd])
          all_goals refine AOps_cons rfl (AOp_assign ?_)
          all_goals (try simp only [push_cast, Nat.reduceAdd])
          all_goals (refine AOps_cons rfl (AOp_store _ _ _ _ _ rfl (by first | exact hget0 | exact hgetN _ rfl | assumption | exact hgetL (by assumption)) rfl rfl (by first | exact .inl rfl | exact .inr ⟨_, rfl⟩) (by simp [push_cast, AV.isCell]) sz63 (by simp [push_cast]) ?_) <;> try simp only [push_cast, Nat.reduceAdd])
          all_goals refine AOps_nil ?_
          all_goals
           refine thenK_normal (hK12 _ ?_)
           try clear hK12
           refine AW_seq_k (fun K13 hK13 => ?_)
           have hil : i < l.length := by omega
           have hnli := hnl l[i] (by simp)
           cases hb : isNameP l[i].name true <;> by_cases hi0 : 0 < i
           all_goals first | (have hd : decide ((0 : Int) < (i : Int)) = true := (by simp; omega)) | (have hd : decide ((0 : Int) < (i : Int)) = false := (by simp; omega))
           all_goals
             apply AW_drawE [some 15, some 16, some 17, some 18, some 19, some 20, some 21, some 22, some 23, some 24, some 25, some 26, some 27, some 28, some 29, some 30, some 31, some 32, some 33, some 34] [([], _)] [none, none, none, none, none, none, none, none, none, none, none, none, none, none, none, none, none, none, none, none] 0 [(0, [], [4]), (1, [], [15]), (2, [], [16]), (3, [], [17]), (4, [], [18]), (5, [], [3, 15]), (6, [], [19, 0]), (7, [], [19, 1]), (8, [], [0, 21]), (9, [], [3, 18]), (10, [], [22, 1]), (11, [], [22, 0, 1]), (12, [], [22, 3]), (13, [], [22, 4]), (14, [], [4, 17]), (15, [], [22, 6]), (16, [], [22, 5, 1]), (17, [], [22, 8]), (18, [], [19, 2, 9]), (19, [], [19, 13])] [_, _, _, _, _, _, _, _, _, _, _, _, _, _, _, _, _, _, _, _]
             case' hm => exact dr
             case' hn => rfl
             case' hok => rfl
             case' hlen => rfl
             case' hd => rfl
             case' h0 => rfl
             case' hstep =>
              simp only [DAllG, keepG, List.map_cons, List.map_nil, putD, stg, beqB, List.set_cons_zero, List.set_cons_succ, List.getD_cons_zero, List.getD_cons_succ, Option.isSome_some, Option.isSome_none]
              apply And.intro
              · apply DOne_do
                case' ho => rfl
                case' hw => rfl
                refine AOp_fieldAddr_ptr _ _ _ _ rfl fd63_0 (by decide) ?_
                all_goals (try simp only [push_cast, Nat.reduceAdd])
                all_goals (constructor <;> first | rfl | trivial)
              apply And.intro
              · apply DOne_do
                case' ho => rfl
                case' hw => rfl
                refine AOp_load1_ptr _ _ _ _ _ rfl (by first | exact hget0 | exact hgetN _ rfl | assumption | exact hgetL (by assumption)) sz9 ag9 (by decide) (by simp [push_cast]) rfl ?_
                all_goals (try simp only [push_cast, Nat.reduceAdd])
                all_goals (constructor <;> first | rfl | trivial)
              apply And.intro
              · apply DOne_do
                case' ho => rfl
                case' hw => rfl
                refine AOp_call _ _ _ rfl rfl ok36 ?_
                (try simp only [push_cast, Nat.reduceAdd])
                refine (isNameR_ac _ _ hnli _).mono ?_
                rintro r H' ⟨rfl, rfl⟩
                simp only [hb]
                all_goals (try simp only [push_cast, Nat.reduceAdd])
                all_goals (constructor <;> first | rfl | trivial)
              apply And.intro
              · apply DOne_do
                case' ho => rfl
                case' hw => rfl
                refine AOp_not _ rfl ?_
                all_goals (try simp only [push_cast, Nat.reduceAdd])
                all_goals (constructor <;> first | rfl | trivial)
              apply And.intro
              · apply DOne_do
                case' ho => rfl
                case' hw => rfl
                refine AOp_move ?_
                all_goals (try simp only [push_cast, Nat.reduceAdd])
                all_goals (constructor <;> first | rfl | trivial)
              apply And.intro
              · first
                | exact DOne_no rfl rfl rfl
                | (apply DOne_do
                   case' ho => rfl
                   case' hw => rfl
                   refine AOp_move ?_
                   all_goals (try simp only [push_cast, Nat.reduceAdd])
                   all_goals (constructor <;> first | rfl | trivial))
              apply And.intro
              · first
                | exact DOne_no rfl rfl rfl
                | (apply DOne_do
                   case' ho => rfl
                   case' hw => rfl
                   refine AOp_bin_int _ _ _ _ rfl rfl rfl ?_
                   rw [hd]
                   all_goals (try simp only [push_cast, Nat.reduceAdd])
                   all_goals (constructor <;> first | rfl | trivial))
              apply And.intro
              · first
                | exact DOne_no rfl rfl rfl
                | (apply DOne_do
                   case' ho => rfl
                   case' hw => rfl
                   refine AOp_move ?_
                   all_goals (try simp only [push_cast, Nat.reduceAdd])
                   all_goals (constructor <;> first | rfl | trivial))
              apply And.intro
              · first
                | exact DOne_no rfl rfl rfl
                | (apply DOne_do
                   case' ho => rfl
                   case' hw => rfl
                   refine AOp_move ?_
                   all_goals (try simp only [push_cast, Nat.reduceAdd])
                   all_goals (constructor <;> first | rfl | trivial))
              apply And.intro
              · first
                | exact DOne_no rfl rfl rfl
                | (apply DOne_do
                   case' ho => rfl
                   case' hw => rfl
                   refine AOp_move ?_
                   all_goals (try simp only [push_cast, Nat.reduceAdd])
                   all_goals (constructor <;> first | rfl | trivial))
              apply And.intro
              · first
                | exact DOne_no rfl rfl rfl
                | (apply DOne_do
                   case' ho => rfl
                   case' hw => rfl
                   refine AOp_bin_int _ _ _ _ rfl rfl rfl ?_
                   (try simp only [push_cast, Nat.reduceAdd])
                   (try rw [IntWalk.i64_in _ (by omega)])
                   rw [show (i : Int) - 1 = ((i - 1 : Nat) : Int) from by omega]
                   all_goals (try simp only [push_cast, Nat.reduceAdd])
                   all_goals (constructor <;> first | rfl | trivial))
              apply And.intro
              · first
                | exact DOne_no rfl rfl rfl
                | (apply DOne_do
                   case' ho => rfl
                   case' hw => rfl
                   refine AOp_indexAddr_sl 63 _ _ _ _ _ rfl rfl sl22 sz63 (by decide) (by exact uni_encR _) (by first | omega | (simp; omega)) (by first | omega | (simp [push_cast]; omega) | (simp [push_cast]; done)) ?_
                   all_goals (try simp only [push_cast, Nat.reduceAdd])
                   all_goals (constructor <;> first | rfl | trivial))
              apply And.intro
              · first
                | exact DOne_no rfl rfl rfl
                | (apply DOne_do
                   case' ho => rfl
                   case' hw => rfl
                   refine AOp_fieldAddr_cptr _ _ _ rfl fd63_0 (by decide) (by simp [push_cast]) ?_
                   all_goals (try simp only [push_cast, Nat.reduceAdd])
                   all_goals (constructor <;> first | rfl | trivial))
              apply And.intro
              · first
                | exact DOne_no rfl rfl rfl
                | (apply DOne_do
                   case' ho => rfl
                   case' hw => rfl
                   refine AOp_load1_cptr _ _ _ rfl sz9 ag9 rfl ?_
                   all_goals (try simp only [push_cast, Nat.reduceAdd])
                   all_goals (constructor <;> first | rfl | trivial))
              apply And.intro
              · first
                | exact DOne_no rfl rfl rfl
                | (apply DOne_do
                   case' ho => rfl
                   case' hw => rfl
                   refine AOp_fieldAddr_ptr _ _ _ _ rfl fd63_0 (by decide) ?_
                   all_goals (try simp only [push_cast, Nat.reduceAdd])
                   all_goals (constructor <;> first | rfl | trivial))
              apply And.intro
              · first
                | exact DOne_no rfl rfl rfl
                | (apply DOne_do
                   case' ho => rfl
                   case' hw => rfl
                   refine AOp_load1_ptr _ _ _ _ _ rfl (by first | exact hget0 | exact hgetN _ rfl | assumption | exact hgetL (by assumption)) sz9 ag9 (by decide) (by simp [push_cast]) rfl ?_
                   all_goals (try simp only [push_cast, Nat.reduceAdd])
                   all_goals (constructor <;> first | rfl | trivial))
              apply And.intro
              · first
                | exact DOne_no rfl rfl rfl
                | (apply DOne_do
                   case' ho => rfl
                   case' hw => rfl
                   refine AOp_call _ _ _ rfl rfl ok37 ?_
                   (try simp only [push_cast, Nat.reduceAdd])
                   refine (cmpNames_ac (l[i - 1]'(by omega)).name l[i].name (hnl _ (by simp)) hnli _).mono ?_
                   rintro r H' ⟨rfl, rfl⟩
                   all_goals (try simp only [push_cast, Nat.reduceAdd])
                   all_goals (constructor <;> first | rfl | trivial))
              apply And.intro
              · first
                | exact DOne_no rfl rfl rfl
                | (apply DOne_do
                   case' ho => rfl
                   case' hw => rfl
                   refine AOp_bin_int _ _ _ _ rfl rfl rfl ?_
                   all_goals (try simp only [push_cast, Nat.reduceAdd])
                   all_goals (constructor <;> first | rfl | trivial))
              apply And.intro
              · first
                | exact DOne_no rfl rfl rfl
                | (apply DOne_do
                   case' ho => rfl
                   case' hw => rfl
                   refine AOp_pick _ rfl ?_
                   all_goals (try simp only [push_cast, Nat.reduceAdd])
                   all_goals (constructor <;> first | rfl | trivial))
              apply And.intro
              · apply DOne_do
                case' ho => rfl
                case' hw => rfl
                refine AOp_pick _ rfl ?_
                all_goals (try simp only [push_cast, Nat.reduceAdd])
                all_goals (constructor <;> first | rfl | trivial)
              exact trivial
             case' hQ => skip
             (try simp only [push_cast, putD, stg, beqB, List.replicate, Nat.reduceAdd, List.getD_cons_zero, List.getD_cons_succ])
           all_goals
            refine thenK_normal (hK13 _ ?_)
            try clear hK13
            apply AW_cond
            case' hc => exact rfl
            case' hf =>
             intro hc14
             try (exfalso; (first | (cases hc14; done) | (simp at hc14; done) | (simp at hc14; omega)); done)
             all_goals (try simp only [decide_eq_true_eq, decide_eq_false_iff_not, Bool.not_eq_true', Bool.not_eq_false', Bool.not_eq_eq_eq_not, Bool.not_true, Bool.not_false] at hc14)
             all_goals
              refine AW_skip ?_
              refine blockK_normal ?_
              refine thenK_normal (hK11 _ ?_)
              try clear hK11
              refine AW_region ?_
              all_goals refine AOps_cons rfl (AOp_bin_int _ _ _ _ rfl rfl rfl ?_)
              all_goals (try simp only [push_cast, Nat.reduceAdd])
              all_goals (try rw [IntWalk.i64_in _ (by omega)])
              all_goals (try simp only [push_cast, Nat.reduceAdd])
              all_goals (refine AOps_cons rfl (AOp_move ?_) <;> try simp only [push_cast, Nat.reduceAdd])
              all_goals refine AOps_nil ?_
              all_goals
               refine loopK_normal ?_
               refine ⟨i + 1, ⟨by omega, ?_⟩, by (simp only [push_cast, Nat.reduceAdd]; (first | refine weak_app0 ?_ | refine weak_same ?_); (repeat (first | exact SlotsOk.nil | refine SlotsOk.junk ?_ | refine SlotsOk.same (by first | (simp [push_cast]; done) | (simp [push_cast, Scoped, ScopedL, *]; done)) ?_ | refine SlotsOk.tok (by first | rfl | (simp; done)) (by first | (simp [push_cast]; done) | (simp [push_cast, Scoped, ScopedL, *]; done)) ?_ | refine SlotsOk.eq (by first | rfl | (congr 1; omega) | (simp; done) | (simp; omega)) (by first | (simp [push_cast]; done) | (simp [push_cast, Scoped, ScopedL, *]; done)) ?_))), by omega⟩
               have hil : i < l.length := by omega
               have hg : goodAt l i = true := by
                 unfold goodAt
                 rw [show l.getD i zeroR = l[i] from by simp [hil]]
                 have hb : isNameP l[i].name true = true := by assumption
                 rw [hb]
                 by_cases h0 : i = 0
                 · simp [h0]
                 · rw [show l.getD (i - 1) zeroR = l[i - 1]'(by omega) from by simp [show i - 1 < l.length by omega]]
                   have hq : leB l[i].name (l[i - 1]'(by omega)).name = false := by
                     rw [Bool.eq_false_iff]; intro h
                     have := (leB_cmp _ _).1 h
                     omega
                   simp only [hq]; simp
               rw [List.range_succ, List.all_append, hi.2]; simp [hg]
            case' ht =>
             intro hc14
             try (exfalso; (first | (cases hc14; done) | (simp at hc14; done) | (simp at hc14; omega)); done)
             all_goals (try simp only [decide_eq_true_eq, decide_eq_false_iff_not, Bool.not_eq_true', Bool.not_eq_false', Bool.not_eq_eq_eq_not, Bool.not_true, Bool.not_false] at hc14)
             all_goals
              refine AW_seq_k (fun K15 hK15 => ?_)
              refine AW_region ?_
              all_goals (refine AOps_cons rfl (AOp_assign ?_) <;> try simp only [push_cast, Nat.reduceAdd])
              all_goals refine AOps_nil ?_
              all_goals
               refine thenK_normal (hK15 _ ?_)
               try clear hK15
               refine AW_ret ?_
               repeat (first | refine thenK_ret ?_ | refine loopK_ret ?_ | refine blockK_ret ?_)
               refine ⟨by first | exact .inl rfl | exact .inr rfl, _, rfl, (by first | exact outok_app 0 rfl (Nat.zero_le _) (by simp) | exact outok_self), by simp [push_cast], ?_⟩
               simp only [push_cast, Nat.reduceAdd]
               have hgd : ∀ j (h : j < l.length), l.getD j zeroR = l[j] := fun j h => by simp [h]
               first
                 | (have h1 : 256 < l.length := (by omega); simp [namesP, h1]; done)
                 | (have h1 : ¬ 256 < l.length := (by omega)
                    have hs : (List.range l.length).all (goodAt l) = true := (by rw [← show i = l.length by omega]; exact hi.2)
                    simp only [namesP, h1, if_false, hs, if_true]; simp; done)
                 | (have h1 : ¬ 256 < l.length := (by omega)
                    have hbad : goodAt l i = false := (by
                      unfold goodAt
                      rw [hgd i hil, hb]
                      first
                        | rfl
                        | (rw [hgd (i - 1) (by omega)]
                           have hq : leB l[i].name (l[i - 1]'(by omega)).name = true := ((leB_cmp _ _).2 (by omega))
                           have h0 : ¬ i = 0 := (by omega)
                           simp only [hq]; simp [h0]))
                    have hs : (List.range l.length).all (goodAt l) = false := all_get (i := i) (by simpa using hil) (by simpa using hbad)
                    simp only [namesP, h1, if_false, hs]; simp; done)
                 | fail "ret"
    case' ht =>
     intro hc4
     try (exfalso; (first | (cases hc4; done) | (simp at hc4; done) | (simp at hc4; omega)); done)
     all_goals (try simp only [decide_eq_true_eq, decide_eq_false_iff_not, Bool.not_eq_true', Bool.not_eq_false', Bool.not_eq_eq_eq_not, Bool.not_true, Bool.not_false] at hc4)
     all_goals
      refine AW_seq_k (fun K16 hK16 => ?_)
      refine AW_region ?_
      all_goals (refine AOps_cons rfl (AOp_assign ?_) <;> try simp only [push_cast, Nat.reduceAdd])
      all_goals refine AOps_nil ?_
      all_goals
       refine thenK_normal (hK16 _ ?_)
       try clear hK16
       refine AW_ret ?_
       repeat (first | refine thenK_ret ?_ | refine loopK_ret ?_ | refine blockK_ret ?_)
       refine ⟨by first | exact .inl rfl | exact .inr rfl, _, rfl, (by first | exact outok_app 0 rfl (Nat.zero_le _) (by simp) | exact outok_self), by simp [push_cast], ?_⟩
       simp only [push_cast, Nat.reduceAdd]
       have hgd : ∀ j (h : j < l.length), l.getD j zeroR = l[j] := fun j h => by simp [h]
       first
         | (have h1 : 256 < l.length := (by omega); simp [namesP, h1]; done)
         | (have h1 : ¬ 256 < l.length := (by omega)
            have hs : (List.range l.length).all (goodAt l) = true := (by rw [← show i = l.length by omega]; exact hi.2)
            simp only [namesP, h1, if_false, hs, if_true]; simp; done)
         | (have h1 : ¬ 256 < l.length := (by omega)
            have hbad : goodAt l i = false := (by
              unfold goodAt
              rw [hgd i hil, hb]
              first
                | rfl
                | (rw [hgd (i - 1) (by omega)]
                   have hq : leB l[i].name (l[i - 1]'(by omega)).name = true := ((leB_cmp _ _).2 (by omega))
                   have h0 : ¬ i = 0 := (by omega)
                   simp only [hq]; simp [h0]))
            have hs : (List.range l.length).all (goodAt l) = false := all_get (i := i) (by simpa using hil) (by simpa using hbad)
            simp only [namesP, h1, if_false, hs]; simp; done)
         | fail "ret"
theorem checkR7_ac (l : List Rank) (unit : Int) (hlen : l.length < 1099511627776) (hnl : ∀ x, x ∈ l → x.name.length < 1099511627776) (H : List AObj) : ACall Try.prog 8 [.sl .none (encL encR l), .int .i64 unit] H (fun r H' => r = .int .i64 (wcheckP l unit) ∧ H' = H) := by
  refine ACall_intro (H.length) Try.func8 rfl ?_
  simp only [Try.ntmps8, List.length_cons, List.length_nil, List.replicate, List.cons_append, List.nil_append, Nat.reduceAdd, Nat.reduceSub, Nat.zero_add]
  refine AW_seq_k (fun K17 hK17 => ?_)
  refine AW_region ?_
  all_goals (refine AOps_cons rfl (AOp_assign ?_) <;> try simp only [push_cast, Nat.reduceAdd])
  all_goals refine AOps_nil ?_
  all_goals
   refine thenK_normal (hK17 _ ?_)
   try clear hK17
   refine AW_seq_k (fun K18 hK18 => ?_)
   refine AW_seq_k (fun K19 hK19 => ?_)
   refine AW_region ?_
   all_goals refine AOps_cons rfl (AOp_move ?_)
   all_goals (try simp only [push_cast, Nat.reduceAdd])
   all_goals refine AOps_cons rfl (AOp_call _ _ _ rfl rfl ok31 ?_)
   all_goals (try simp only [push_cast, Nat.reduceAdd])
   all_goals refine (listed_ac l hlen hnl _).mono ?_
   all_goals rintro r H' ⟨rfl, rfl⟩
   all_goals (try simp only [push_cast, Nat.reduceAdd])
   all_goals (refine AOps_cons rfl (AOp_assign ?_) <;> try simp only [push_cast, Nat.reduceAdd])
   all_goals refine AOps_nil ?_
   all_goals
    refine thenK_normal (hK19 _ ?_)
    try clear hK19
    refine AW_seq_k (fun K20 hK20 => ?_)
    refine AW_region ?_
    all_goals refine AOps_cons rfl (AOp_move ?_)
    all_goals (try simp only [push_cast, Nat.reduceAdd])
    all_goals (refine AOps_cons rfl (AOp_bin_int _ _ _ _ rfl rfl rfl ?_) <;> try simp only [push_cast, Nat.reduceAdd])
    all_goals refine AOps_nil ?_
    all_goals
     refine thenK_normal (hK20 _ ?_)
     try clear hK20
     apply AW_cond
     case' hc => exact rfl
     case' hf =>
      intro hc21
      try (exfalso; (first | (cases hc21; done) | (simp at hc21; done) | (simp at hc21; omega)); done)
      all_goals (try simp only [decide_eq_true_eq, decide_eq_false_iff_not, Bool.not_eq_true', Bool.not_eq_false', Bool.not_eq_eq_eq_not, Bool.not_true, Bool.not_false] at hc21)
      all_goals
       refine AW_skip ?_
       refine thenK_normal (hK18 _ ?_)
       try clear hK18
       refine AW_seq_k (fun K22 hK22 => ?_)
       refine AW_seq_k (fun K23 hK23 => ?_)
       refine AW_region ?_
       all_goals refine AOps_cons rfl (AOp_move ?_)
       all_goals (try simp only [push_cast, Nat.reduceAdd])
       all_goals (refine AOps_cons rfl (AOp_len_sl _ _ _ rfl sl22 ?_) <;> try simp only [push_cast, Nat.reduceAdd])
       all_goals (refine AOps_cons rfl (AOp_move ?_) <;> try simp only [push_cast, Nat.reduceAdd])
       all_goals refine AOps_nil ?_
       all_goals
        refine thenK_normal (hK23 _ ?_)
        try clear hK23
        refine AW_block ?_
        refine AW_loopR (maskG 44 [1, 11, 0, 0]) (fun (i : Nat) => [(15, .int .i64 i)]) (fun _ => _) (fun i => i ≤ l.length ∧ (l.take i).any (fun x => badP x.rank || badP x.weight) = false) (fun i => l.length - i) 0 ⟨Nat.zero_le _, by simp⟩ (by (simp only [push_cast, Nat.reduceAdd]; (first | refine weak_app0 ?_ | refine weak_same ?_); (repeat (first | exact SlotsOk.nil | refine SlotsOk.junk ?_ | refine SlotsOk.same (by first | (simp [push_cast]; done) | (simp [push_cast, Scoped, ScopedL, *]; done)) ?_ | refine SlotsOk.tok (by first | rfl | (simp; done)) (by first | (simp [push_cast]; done) | (simp [push_cast, Scoped, ScopedL, *]; done)) ?_ | refine SlotsOk.eq (by first | rfl | (congr 1; omega) | (simp; done) | (simp; omega)) (by first | (simp [push_cast]; done) | (simp [push_cast, Scoped, ScopedL, *]; done)) ?_)))) (fun i hi => ?_)
        (try simp only [push_cast, Nat.reduceAdd])
        refine AW_seq_k (fun K24 hK24 => ?_)
        refine AW_region ?_
        all_goals (refine AOps_cons rfl (AOp_bin_int _ _ _ _ rfl rfl rfl ?_) <;> try simp only [push_cast, Nat.reduceAdd])
        all_goals refine AOps_nil ?_
        all_goals
         refine thenK_normal (hK24 _ ?_)
         try clear hK24
         refine AW_seq_k (fun K25 hK25 => ?_)
         apply AW_cond
         case' hc => exact rfl
         case' hf =>
          intro hc26
          try (exfalso; (first | (cases hc26; done) | (simp at hc26; done) | (simp at hc26; omega)); done)
          all_goals (try simp only [decide_eq_true_eq, decide_eq_false_iff_not, Bool.not_eq_true', Bool.not_eq_false', Bool.not_eq_eq_eq_not, Bool.not_true, Bool.not_false] at hc26)
          all_goals
           refine AW_exit ?_
           repeat (first | refine thenK_exit ?_ | refine loopK_exit ?_ | refine blockK_other (by decide) ?_)
           refine blockK_same ?_
           refine thenK_normal (hK22 _ ?_)
           try clear hK22
           refine AW_seq_k (fun K27 hK27 => ?_)
           refine AW_seq_k (fun K28 hK28 => ?_)
           refine AW_region ?_
           all_goals refine AOps_cons rfl (AOp_move ?_)
           all_goals (try simp only [push_cast, Nat.reduceAdd])
           all_goals (refine AOps_cons rfl (AOp_bin_int _ _ _ _ rfl rfl rfl ?_) <;> try simp only [push_cast, Nat.reduceAdd])
           all_goals refine AOps_cons rfl (AOp_move ?_)
           all_goals (try simp only [push_cast, Nat.reduceAdd])
           all_goals (try refine AOps_split 40 _ rfl (fun hg29 => ?_) (fun hg29 => ?_))
           all_goals (try (exfalso; (first | (cases hg29; done) | (simp at hg29; done) | (simp at hg29; omega)); done))
           all_goals (try simp only [decide_eq_true_eq, decide_eq_false_iff_not, Bool.not_eq_true', Bool.not_eq_false', Bool.not_eq_eq_eq_not, Bool.not_true, Bool.not_false] at hg29)
           all_goals first
            | refine AOps_skip rfl ?_
            | (refine AOps_cons rfl ?_
               refine AOp_move ?_)
           all_goals (try simp only [push_cast, Nat.reduceAdd])
           all_goals first
            | refine AOps_skip rfl ?_
            | (refine AOps_cons rfl ?_
               refine AOp_bin_int _ _ _ _ rfl rfl rfl ?_)
           all_goals (try simp only [push_cast, Nat.reduceAdd])
           all_goals (refine AOps_cons rfl (AOp_pick _ rfl ?_) <;> try simp only [push_cast, Nat.reduceAdd])
           all_goals refine AOps_nil ?_
           all_goals
            refine thenK_normal (hK28 _ ?_)
            try clear hK28
            apply AW_cond
            case' hc => exact rfl
            case' hf =>
             intro hc30
             try (exfalso; (first | (cases hc30; done) | (simp at hc30; done) | (simp at hc30; omega)); done)
             all_goals (try simp only [decide_eq_true_eq, decide_eq_false_iff_not, Bool.not_eq_true', Bool.not_eq_false', Bool.not_eq_eq_eq_not, Bool.not_true, Bool.not_false] at hc30)
             all_goals
              refine AW_skip ?_
              refine thenK_normal (hK27 _ ?_)
              try clear hK27
              refine AW_seq_k (fun K31 hK31 => ?_)
              refine AW_region ?_
              all_goals (refine AOps_cons rfl (AOp_assign ?_) <;> try simp only [push_cast, Nat.reduceAdd])
              all_goals refine AOps_nil ?_
              all_goals
               refine thenK_normal (hK31 _ ?_)
               try clear hK31
               refine AW_ret ?_
               repeat (first | refine thenK_ret ?_ | refine loopK_ret ?_ | refine blockK_ret ?_)
               refine ⟨by first | exact .inl rfl | exact .inr rfl, _, rfl, (by first | exact outok_app 0 rfl (Nat.zero_le _) (by simp) | exact outok_self), by simp [push_cast], ?_⟩
               simp only [push_cast, Nat.reduceAdd]
               have h0 : namesP l = 0 ∨ ¬ namesP l = 0 := (by omega)
               unfold wcheckP
               first
                 | (have h1 : ¬ namesP l = 0 := (by assumption); simp [h1]; done)
                 | (have h1 : namesP l = 0 := (by assumption)
                    have h2 : (l.any fun x => badP x.rank || badP x.weight) = true := any_get (i := i) (by omega) (by simp only [badP, Bool.or_eq_true, decide_eq_true_eq]; omega)
                    rw [h2]; simp [h1]; done)
                 | (have h1 : namesP l = 0 := (by assumption)
                    have hall : l.take i = l := List.take_of_length_le (by omega)
                    rw [hall] at hi
                    rw [hi.2]
                    first
                      | (have h3 : ¬ unit < 1 := (by omega); have h4 : badP unit = false := (by simp only [badP, Bool.or_eq_false_iff, decide_eq_false_iff_not]; omega); simp [h1, h3, h4]; done)
                      | (have h3 : unit < 1 := (by omega); simp [h1, h3]; done)
                      | (have h4 : badP unit = true := (by simp only [badP, Bool.or_eq_true, decide_eq_true_eq]; omega); simp [h1, h4]; done))
                 | fail "ret"
            case' ht =>
             intro hc30
             try (exfalso; (first | (cases hc30; done) | (simp at hc30; done) | (simp at hc30; omega)); done)
             all_goals (try simp only [decide_eq_true_eq, decide_eq_false_iff_not, Bool.not_eq_true', Bool.not_eq_false', Bool.not_eq_eq_eq_not, Bool.not_true, Bool.not_false] at hc30)
             all_goals
              refine AW_seq_k (fun K32 hK32 => ?_)
              refine AW_region ?_
              all_goals (refine AOps_cons rfl (AOp_assign ?_) <;> try simp only [push_cast, Nat.reduceAdd])
              all_goals refine AOps_nil ?_
              all_goals
               refine thenK_normal (hK32 _ ?_)
               try clear hK32
               refine AW_ret ?_
               repeat (first | refine thenK_ret ?_ | refine loopK_ret ?_ | refine blockK_ret ?_)
               refine ⟨by first | exact .inl rfl | exact .inr rfl, _, rfl, (by first | exact outok_app 0 rfl (Nat.zero_le _) (by simp) | exact outok_self), by simp [push_cast], ?_⟩
               simp only [push_cast, Nat.reduceAdd]
               have h0 : namesP l = 0 ∨ ¬ namesP l = 0 := (by omega)
               unfold wcheckP
               first
                 | (have h1 : ¬ namesP l = 0 := (by assumption); simp [h1]; done)
                 | (have h1 : namesP l = 0 := (by assumption)
                    have h2 : (l.any fun x => badP x.rank || badP x.weight) = true := any_get (i := i) (by omega) (by simp only [badP, Bool.or_eq_true, decide_eq_true_eq]; omega)
                    rw [h2]; simp [h1]; done)
                 | (have h1 : namesP l = 0 := (by assumption)
                    have hall : l.take i = l := List.take_of_length_le (by omega)
                    rw [hall] at hi
                    rw [hi.2]
                    first
                      | (have h3 : ¬ unit < 1 := (by omega); have h4 : badP unit = false := (by simp only [badP, Bool.or_eq_false_iff, decide_eq_false_iff_not]; omega); simp [h1, h3, h4]; done)
                      | (have h3 : unit < 1 := (by omega); simp [h1, h3]; done)
                      | (have h4 : badP unit = true := (by simp only [badP, Bool.or_eq_true, decide_eq_true_eq]; omega); simp [h1, h4]; done))
                 | fail "ret"
         case' ht =>
          intro hc26
          try (exfalso; (first | (cases hc26; done) | (simp at hc26; done) | (simp at hc26; omega)); done)
          all_goals (try simp only [decide_eq_true_eq, decide_eq_false_iff_not, Bool.not_eq_true', Bool.not_eq_false', Bool.not_eq_eq_eq_not, Bool.not_true, Bool.not_false] at hc26)
          all_goals
           refine AW_skip ?_
           refine thenK_normal (hK25 _ ?_)
           try clear hK25
           refine AW_seq_k (fun K33 hK33 => ?_)
           refine AW_block ?_
           refine AW_seq_k (fun K34 hK34 => ?_)
           refine AW_region ?_
           all_goals (refine AOps_cons rfl (AOp_indexAddr_sl 63 _ _ _ _ _ rfl rfl sl22 sz63 (by decide) (by exact uni_encR _) (by first | omega | (simp; omega)) (by first | omega | (simp [push_cast]; omega) | (simp [push_cast]; done)) ?_) <;> try simp only [push_cast, Nat.reduceAdd])
           all_goals (refine AOps_cons rfl (AOp_load_cptr _ _ rfl sz63 ag63 (by simp [push_cast]) ?_) <;> try simp only [push_cast, Nat.reduceAdd])
           all_goals (refine AOps_cons rfl (AOp_alloc _ zr63 (by simp [ofVal, AV.isCell, Value.oneCell']) ?_) <;> try simp only [push_cast, Nat.reduceAdd])
           all_goals (refine AOps_cons rfl (AOp_store _ _ _ _ _ rfl (by first | exact hget0 | exact hgetN _ rfl | assumption | exact hgetL (by assumption)) rfl rfl (by first | exact .inl rfl | exact .inr ⟨_, rfl⟩) (by simp [push_cast, AV.isCell]) sz63 (by simp [push_cast]) ?_) <;> try simp only [push_cast, Nat.reduceAdd])
           all_goals refine AOps_nil ?_
           all_goals
            refine thenK_normal (hK34 _ ?_)
            try clear hK34
            refine AW_seq_k (fun K35 hK35 => ?_)
            refine AW_region ?_
            all_goals (refine AOps_cons rfl (AOp_fieldAddr_ptr _ _ _ _ rfl fd63_1 (by decide) ?_) <;> try simp only [push_cast, Nat.reduceAdd])
            all_goals (refine AOps_cons rfl (AOp_load1_ptr _ _ _ _ _ rfl (by first | exact hget0 | exact hgetN _ rfl | assumption | exact hgetL (by assumption)) sz3 ag3 (by decide) (by simp [push_cast]) rfl ?_) <;> try simp only [push_cast, Nat.reduceAdd])
            all_goals (refine AOps_cons rfl (AOp_bin_int _ _ _ _ rfl rfl rfl ?_) <;> try simp only [push_cast, Nat.reduceAdd])
            all_goals refine AOps_cons rfl (AOp_move ?_)
            all_goals (try simp only [push_cast, Nat.reduceAdd])
            all_goals (try refine AOps_split 22 _ rfl (fun hg36 => ?_) (fun hg36 => ?_))
            all_goals (try (exfalso; (first | (cases hg36; done) | (simp at hg36; done) | (simp at hg36; omega)); done))
            all_goals (try simp only [decide_eq_true_eq, decide_eq_false_iff_not, Bool.not_eq_true', Bool.not_eq_false', Bool.not_eq_eq_eq_not, Bool.not_true, Bool.not_false] at hg36)
            all_goals first
             | refine AOps_skip rfl ?_
             | (refine AOps_cons rfl ?_
                refine AOp_fieldAddr_ptr _ _ _ _ rfl fd63_1 (by decide) ?_)
            all_goals (try simp only [push_cast, Nat.reduceAdd])
            all_goals first
             | refine AOps_skip rfl ?_
             | (refine AOps_cons rfl ?_
                refine AOp_load1_ptr _ _ _ _ _ rfl (by first | exact hget0 | exact hgetN _ rfl | assumption | exact hgetL (by assumption)) sz3 ag3 (by decide) (by simp [push_cast]) rfl ?_)
            all_goals (try simp only [push_cast, Nat.reduceAdd])
            all_goals first
             | refine AOps_skip rfl ?_
             | (refine AOps_cons rfl ?_
                refine AOp_bin_int _ _ _ _ rfl rfl rfl ?_)
            all_goals (try simp only [push_cast, Nat.reduceAdd])
            all_goals refine AOps_cons rfl (AOp_pick _ rfl ?_)
            all_goals refine AOps_cons rfl (AOp_move ?_)
            all_goals (try simp only [push_cast, Nat.reduceAdd])
            all_goals (try refine AOps_split 27 _ rfl (fun hg37 => ?_) (fun hg37 => ?_))
            all_goals (try (exfalso; (first | (cases hg37; done) | (simp at hg37; done) | (simp at hg37; omega)); done))
            all_goals (try simp only [decide_eq_true_eq, decide_eq_false_iff_not, Bool.not_eq_true', Bool.not_eq_false', Bool.not_eq_eq_eq_not, Bool.not_true, Bool.not_false] at hg37)
            all_goals first
             | refine AOps_skip rfl ?_
             | (refine AOps_cons rfl ?_
                refine AOp_fieldAddr_ptr _ _ _ _ rfl fd63_2 (by decide) ?_)
            all_goals (try simp only [push_cast, Nat.reduceAdd])
            all_goals first
             | refine AOps_skip rfl ?_
             | (refine AOps_cons rfl ?_
                refine AOp_load1_ptr _ _ _ _ _ rfl (by first | exact hget0 | exact hgetN _ rfl | assumption | exact hgetL (by assumption)) sz3 ag3 (by decide) (by simp [push_cast]) rfl ?_)
            all_goals (try simp only [push_cast, Nat.reduceAdd])
            all_goals first
             | refine AOps_skip rfl ?_
             | (refine AOps_cons rfl ?_
                refine AOp_bin_int _ _ _ _ rfl rfl rfl ?_)
            all_goals (try simp only [push_cast, Nat.reduceAdd])
            all_goals refine AOps_cons rfl (AOp_pick _ rfl ?_)
            all_goals refine AOps_cons rfl (AOp_move ?_)
            all_goals (try simp only [push_cast, Nat.reduceAdd])
            all_goals (try refine AOps_split 32 _ rfl (fun hg38 => ?_) (fun hg38 => ?_))
            all_goals (try (exfalso; (first | (cases hg38; done) | (simp at hg38; done) | (simp at hg38; omega)); done))
            all_goals (try simp only [decide_eq_true_eq, decide_eq_false_iff_not, Bool.not_eq_true', Bool.not_eq_false', Bool.not_eq_eq_eq_not, Bool.not_true, Bool.not_false] at hg38)
            all_goals first
             | refine AOps_skip rfl ?_
             | (refine AOps_cons rfl ?_
                refine AOp_fieldAddr_ptr _ _ _ _ rfl fd63_2 (by decide) ?_)
            all_goals (try simp only [push_cast, Nat.reduceAdd])
            all_goals first
             | refine AOps_skip rfl ?_
             | (refine AOps_cons rfl ?_
                refine AOp_load1_ptr _ _ _ _ _ rfl (by first | exact hget0 | exact hgetN _ rfl | assumption | exact hgetL (by assumption)) sz3 ag3 (by decide) (by simp [push_cast]) rfl ?_)
            all_goals (try simp only [push_cast, Nat.reduceAdd])
            all_goals first
             | refine AOps_skip rfl ?_
             | (refine AOps_cons rfl ?_
                refine AOp_bin_int _ _ _ _ rfl rfl rfl ?_)
            all_goals (try simp only [push_cast, Nat.reduceAdd])
            all_goals (refine AOps_cons rfl (AOp_pick _ rfl ?_) <;> try simp only [push_cast, Nat.reduceAdd])
            all_goals refine AOps_nil ?_
            all_goals
             refine thenK_normal (hK35 _ ?_)
             try clear hK35
             apply AW_cond
             case' hc => exact rfl
             case' hf =>
              intro hc39
              try (exfalso; (first | (cases hc39; done) | (simp at hc39; done) | (simp at hc39; omega)); done)
              all_goals (try simp only [decide_eq_true_eq, decide_eq_false_iff_not, Bool.not_eq_true', Bool.not_eq_false', Bool.not_eq_eq_eq_not, Bool.not_true, Bool.not_false] at hc39)
              all_goals
               refine AW_skip ?_
               refine blockK_normal ?_
               refine thenK_normal (hK33 _ ?_)
               try clear hK33
               refine AW_region ?_
               all_goals refine AOps_cons rfl (AOp_bin_int _ _ _ _ rfl rfl rfl ?_)
               all_goals (try simp only [push_cast, Nat.reduceAdd])
               all_goals (try rw [IntWalk.i64_in _ (by omega)])
               all_goals (try simp only [push_cast, Nat.reduceAdd])
               all_goals (refine AOps_cons rfl (AOp_move ?_) <;> try simp only [push_cast, Nat.reduceAdd])
               all_goals refine AOps_nil ?_
               all_goals
                refine loopK_normal ?_
                refine ⟨i + 1, ⟨by omega, any_take_false hi.2 (by omega) ?_⟩, by (simp only [push_cast, Nat.reduceAdd]; (first | refine weak_app0 ?_ | refine weak_same ?_); (repeat (first | exact SlotsOk.nil | refine SlotsOk.junk ?_ | refine SlotsOk.same (by first | (simp [push_cast]; done) | (simp [push_cast, Scoped, ScopedL, *]; done)) ?_ | refine SlotsOk.tok (by first | rfl | (simp; done)) (by first | (simp [push_cast]; done) | (simp [push_cast, Scoped, ScopedL, *]; done)) ?_ | refine SlotsOk.eq (by first | rfl | (congr 1; omega) | (simp; done) | (simp; omega)) (by first | (simp [push_cast]; done) | (simp [push_cast, Scoped, ScopedL, *]; done)) ?_))), by omega⟩
                simp only [badP, Bool.or_eq_false_iff, decide_eq_false_iff_not]; refine ⟨⟨?_, ?_⟩, ?_, ?_⟩ <;> omega
             case' ht =>
              intro hc39
              try (exfalso; (first | (cases hc39; done) | (simp at hc39; done) | (simp at hc39; omega)); done)
              all_goals (try simp only [decide_eq_true_eq, decide_eq_false_iff_not, Bool.not_eq_true', Bool.not_eq_false', Bool.not_eq_eq_eq_not, Bool.not_true, Bool.not_false] at hc39)
              all_goals
               refine AW_seq_k (fun K40 hK40 => ?_)
               refine AW_region ?_
               all_goals (refine AOps_cons rfl (AOp_assign ?_) <;> try simp only [push_cast, Nat.reduceAdd])
               all_goals refine AOps_nil ?_
               all_goals
                refine thenK_normal (hK40 _ ?_)
                try clear hK40
                refine AW_ret ?_
                repeat (first | refine thenK_ret ?_ | refine loopK_ret ?_ | refine blockK_ret ?_)
                refine ⟨by first | exact .inl rfl | exact .inr rfl, _, rfl, (by first | exact outok_app 0 rfl (Nat.zero_le _) (by simp) | exact outok_self), by simp [push_cast], ?_⟩
                simp only [push_cast, Nat.reduceAdd]
                have h0 : namesP l = 0 ∨ ¬ namesP l = 0 := (by omega)
                unfold wcheckP
                first
                  | (have h1 : ¬ namesP l = 0 := (by assumption); simp [h1]; done)
                  | (have h1 : namesP l = 0 := (by assumption)
                     have h2 : (l.any fun x => badP x.rank || badP x.weight) = true := any_get (i := i) (by omega) (by simp only [badP, Bool.or_eq_true, decide_eq_true_eq]; omega)
                     rw [h2]; simp [h1]; done)
                  | (have h1 : namesP l = 0 := (by assumption)
                     have hall : l.take i = l := List.take_of_length_le (by omega)
                     rw [hall] at hi
                     rw [hi.2]
                     first
                       | (have h3 : ¬ unit < 1 := (by omega); have h4 : badP unit = false := (by simp only [badP, Bool.or_eq_false_iff, decide_eq_false_iff_not]; omega); simp [h1, h3, h4]; done)
                       | (have h3 : unit < 1 := (by omega); simp [h1, h3]; done)
                       | (have h4 : badP unit = true := (by simp only [badP, Bool.or_eq_true, decide_eq_true_eq]; omega); simp [h1, h4]; done))
                  | fail "ret"
     case' ht =>
      intro hc21
      try (exfalso; (first | (cases hc21; done) | (simp at hc21; done) | (simp at hc21; omega)); done)
      all_goals (try simp only [decide_eq_true_eq, decide_eq_false_iff_not, Bool.not_eq_true', Bool.not_eq_false', Bool.not_eq_eq_eq_not, Bool.not_true, Bool.not_false] at hc21)
      all_goals
       refine AW_seq_k (fun K41 hK41 => ?_)
       refine AW_region ?_
       all_goals refine AOps_cons rfl (AOp_move ?_)
       all_goals (refine AOps_cons rfl (AOp_assign ?_) <;> try simp only [push_cast, Nat.reduceAdd])
       all_goals refine AOps_nil ?_
       all_goals
        refine thenK_normal (hK41 _ ?_)
        try clear hK41
        refine AW_ret ?_
        repeat (first | refine thenK_ret ?_ | refine loopK_ret ?_ | refine blockK_ret ?_)
        refine ⟨by first | exact .inl rfl | exact .inr rfl, _, rfl, (by first | exact outok_app 0 rfl (Nat.zero_le _) (by simp) | exact outok_self), by simp [push_cast], ?_⟩
        simp only [push_cast, Nat.reduceAdd]
        have h0 : namesP l = 0 ∨ ¬ namesP l = 0 := (by omega)
        unfold wcheckP
        first
          | (have h1 : ¬ namesP l = 0 := (by assumption); simp [h1]; done)
          | (have h1 : namesP l = 0 := (by assumption)
             have h2 : (l.any fun x => badP x.rank || badP x.weight) = true := any_get (i := i) (by omega) (by simp only [badP, Bool.or_eq_true, decide_eq_true_eq]; omega)
             rw [h2]; simp [h1]; done)
          | (have h1 : namesP l = 0 := (by assumption)
             have hall : l.take i = l := List.take_of_length_le (by omega)
             rw [hall] at hi
             rw [hi.2]
             first
               | (have h3 : ¬ unit < 1 := (by omega); have h4 : badP unit = false := (by simp only [badP, Bool.or_eq_false_iff, decide_eq_false_iff_not]; omega); simp [h1, h3, h4]; done)
               | (have h3 : unit < 1 := (by omega); simp [h1, h3]; done)
               | (have h4 : badP unit = true := (by simp only [badP, Bool.or_eq_true, decide_eq_true_eq]; omega); simp [h1, h4]; done))
          | fail "ret"
end Ab
set_option maxRecDepth 10000
namespace Ab
open Go Go.Proofs
attribute [local push_cast] encT encS scoped_encS scoped_encP encItem
def seenM (out : List Sym) : List (Sym × Bool) := out.map fun s => (s, true)
theorem seen_get (out : List Sym) (f : Sym) : aget (seenM out) f = if f ∈ out then some true else none := by
  induction out with
  | nil => simp [seenM, aget]
  | cons x r ih =>
    have h : seenM (x :: r) = (x, true) :: seenM r := rfl
    rw [h, aget, ih]
    by_cases hx : x = f
    · simp [hx]
    · have : ¬ f = x := fun e => hx e.symm
      simp [hx, this]
theorem seen_set (out : List Sym) (f : Sym) (h : f ∉ out) : aset (seenM out) f true = seenM (out ++ [f]) := by
  have := (aget_none (k := f) (m := seenM out) (fun p hp => by simp [seenM] at hp; obtain ⟨a, ha, rfl⟩ := hp; exact fun e => h (e ▸ ha))).2 true
  rw [this]; simp [seenM]
theorem symStep_length (out : List Sym) (x : List Int × Term) : (symStep out x).length ≤ out.length + 1 := by unfold symStep; split <;> simp
theorem symFold_length : ∀ (l : List (List Int × Term)) (out : List Sym), (l.foldl symStep out).length ≤ out.length + l.length
  | [], out => by simp
  | x :: l, out => by
    have h1 := symFold_length l (symStep out x)
    have h2 := symStep_length out x
    simp only [List.foldl_cons, List.length_cons]; omega
theorem symsFold_length : ∀ (ts : List Term) (out : List Sym), (ts.foldl symsT out).length ≤ out.length + (ts.map Term.size).sum
  | [], out => by simp
  | t :: ts, out => by
    have h1 := symsFold_length ts (symsT out t)
    have h2 := symFold_length (walkT t []) out
    rw [walkT_length] at h2
    have h3 : symsT out t = (walkT t []).foldl symStep out := rfl
    rw [← h3] at h2
    simp only [List.foldl_cons, List.map_cons, List.sum_cons]; omega
theorem cell_encS (l : List Sym) : ∀ c, c ∈ flat (encL encS l) → c.isCell = true := by
  intro c hc
  unfold flat at hc
  rw [List.mem_flatMap] at hc
  obtain ⟨a, ha, hc⟩ := hc
  simp [encL] at ha
  obtain ⟨t, _, rfl⟩ := ha
  simp [AV.cells] at hc
  rcases hc with rfl | rfl <;> rfl
theorem strip_encS (n : Nat) (l : List Sym) : stripL n (encL encS l) = encL encS l := by rw [stripL_eq]; simp [encL, strip, stripL]
@[reducible] def symMap (out : List Sym) : List (AV × AV) := amap (fun s : Sym => AV.agg (symCells s)) AV.bool (seenM out)
theorem oscoped_sm (n ver : Nat) (out : List Sym) : OScoped n (.map ver (symMap out)) := oscoped_amap (by simp [Scoped, ScopedL, symCells]) (by simp [Scoped])
@[reducible] def symHeap (n : Nat) (out : List Sym) : List AObj := [gTok 65 2 (encL encS out), .map out.length (symMap out), .cells [.map (n + 1)], .cells [gSl n (encL encS out)]]
theorem oscoped_sh (n m : Nat) (hm : n + 4 ≤ m) (out : List Sym) : ∀ o, o ∈ symHeap n out → OScoped m o := by
  intro o ho
  simp only [symHeap, List.mem_cons, List.not_mem_nil, or_false] at ho
  rcases ho with rfl | rfl | rfl | rfl
  · exact oscoped_gTok _ _ _ _
  · exact oscoped_sm _ _ _
  · simp [OScoped, ScopedL, Scoped]; try omega
  · exact ⟨scoped_gSl (by omega) (scoped_encS _ _), trivial⟩
set_option maxHeartbeats 1600000 in
theorem symsW_ac (ts : List Term) (hlen : ts.length < 1099511627776) (hb : ∀ x, x ∈ ts → x.bulk ≤ 1099511627775) (hsz : (ts.map Term.size).sum ≤ 1099511627775) (H : List AObj) :
    ACall Try.prog 29 [.sl .none (encTs ts)] H (fun r H' => r = .sl .none (encL encS (symsP ts)) ∧ H' = H) := by
  refine ACall.weakR (R := fun r H' => Forget r (.sl .none (encL encS (symsP ts))) ∧ H' = H) ?_ (fun r H' h => ⟨_, h.1, rfl, h.2⟩)
  have hu : ∀ l, Uni 2 (encL encS l) := uni_encS
  obtain ⟨O, hO⟩ : ∃ O : Nat → List Sym, ∀ i, O i = (ts.take i).foldl symsT [] := ⟨_, fun _ => rfl⟩
  have hO1 : ∀ i (h : i < ts.length), O (i + 1) = (walkT ts[i] []).foldl symStep (O i) := fun i h => by rw [hO, hO, List.take_succ_eq_append_getElem h, List.foldl_append]; rfl
  have hO2 : ∀ i, (O i).length ≤ ((ts.take i).map Term.size).sum := fun i => by rw [hO]; have := symsFold_length (ts.take i) []; simpa using this
  have hO0 : O 0 = [] := by rw [hO]; rfl
  refine ACall_intro (H.length) Try.func29 rfl ?_
  simp only [Try.ntmps29, List.length_cons, List.length_nil, List.replicate, List.cons_append, List.nil_append, Nat.reduceAdd, Nat.reduceSub, Nat.zero_add]
  refine AW_seq_k (fun K1 hK1 => ?_)
  refine AW_region ?_
  all_goals (refine AOps_cons rfl (AOp_assign ?_) <;> try simp only [push_cast, Nat.reduceAdd])
  all_goals refine AOps_nil ?_
  all_goals
   refine thenK_normal (hK1 _ ?_)
   try clear hK1
   refine AW_seq_k (fun K2 hK2 => ?_)
   refine AW_reserve 1 ?_
   simp only [push_cast, List.replicate, Nat.reduceAdd]
   refine AW_region ?_
   all_goals (refine AOps_cons rfl (AOp_makeMap ?_) <;> try simp only [push_cast, Nat.reduceAdd])
   all_goals (refine AOps_cons rfl (AOp_alloc _ zr85 (by simp [ofVal, AV.isCell, Value.oneCell']) ?_) <;> try simp only [push_cast, Nat.reduceAdd])
   all_goals refine AOps_cons rfl ?_
   all_goals first | refine AOp_store _ _ _ _ _ rfl (by first | exact hget0 | exact hgetN _ rfl | assumption | exact hgetL (by assumption) | exact hgetE (by first | assumption | apply hGl) | exact hgetEN (by first | assumption | apply hGl) _ rfl) rfl rfl (by first | exact .inl rfl | exact .inr ⟨_, rfl⟩) (by simp [push_cast, AV.isCell]) sz85 (by simp [push_cast]) ?_ | refine AOp_store _ _ _ _ _ rfl (by first | exact hget0 | exact hgetN _ rfl | assumption | exact hgetL (by assumption) | exact hgetE (by first | assumption | apply hGl) | exact hgetEN (by first | assumption | apply hGl) _ rfl) rfl (gSl_cells _ _) (.inl (gSl_isCell _ _)) (by simp [gSl_isCell]) sz85 (by simp [push_cast]) ?_
   all_goals (try simp only [push_cast, Nat.reduceAdd])
   all_goals refine AOps_nil ?_
   all_goals
    refine thenK_normal (hK2 _ ?_)
    try clear hK2
    refine AW_seq_k (fun K3 hK3 => ?_)
    refine AW_region ?_
    all_goals (refine AOps_cons rfl (AOp_alloc _ zr34 (by simp [ofVal, AV.isCell, Value.oneCell']) ?_) <;> try simp only [push_cast, Nat.reduceAdd])
    all_goals refine AOps_nil ?_
    all_goals
     refine thenK_normal (hK3 _ ?_)
     try clear hK3
     refine AW_seq_k (fun K4 hK4 => ?_)
     refine AW_seq_k (fun K5 hK5 => ?_)
     refine AW_region ?_
     all_goals refine AOps_cons rfl (AOp_move ?_)
     all_goals (try simp only [push_cast, Nat.reduceAdd])
     all_goals (refine AOps_cons rfl (AOp_len_sl _ _ _ rfl sl25 ?_) <;> try simp only [push_cast, Nat.reduceAdd])
     all_goals (refine AOps_cons rfl (AOp_move ?_) <;> try simp only [push_cast, Nat.reduceAdd])
     all_goals refine AOps_nil ?_
     all_goals
      refine thenK_normal (hK5 _ ?_)
      try clear hK5
      refine AW_block ?_
      refine AW_loopR (maskG 44 [3, 0, 6, 0, 0, 6]) (fun (i : Nat) => [(13, .int .i64 i)]) (fun i => H ++ symHeap H.length (O i)) (fun i => i ≤ ts.length) (fun i => ts.length - i) 0 (Nat.zero_le _) (by simp only [push_cast, Nat.reduceAdd, hO0]; exact weak_app 4 (by (repeat (first | exact SlotsOk.nil | refine SlotsOk.junk ?_ | refine SlotsOk.same (by first | (simp [push_cast]; done) | (simp [push_cast, Scoped, ScopedL, *]; done)) ?_ | refine SlotsOk.tok (by first | rfl | (simp; done)) (by first | (simp [push_cast]; done) | (simp [push_cast, Scoped, ScopedL, *]; done)) ?_ | refine SlotsOk.eq (by first | rfl | (congr 1; omega) | (simp; done) | (simp; omega)) (by first | (simp [push_cast]; done) | (simp [push_cast, Scoped, ScopedL, *]; done)) ?_))) (by simp) (fun o ho => oscoped_sh _ _ (Nat.le_refl _) [] o ho)) (fun i hi => ?_)
      (try simp only [push_cast, Nat.reduceAdd])
      refine AW_seq_k (fun K6 hK6 => ?_)
      refine AW_region ?_
      all_goals (refine AOps_cons rfl (AOp_bin_int _ _ _ _ rfl rfl rfl ?_) <;> try simp only [push_cast, Nat.reduceAdd])
      all_goals refine AOps_nil ?_
      all_goals
       refine thenK_normal (hK6 _ ?_)
       try clear hK6
       refine AW_seq_k (fun K7 hK7 => ?_)
       apply AW_cond
       case' hc => exact rfl
       case' hf =>
        intro hc8
        try (exfalso; (first | (cases hc8; done) | (simp at hc8; done) | (simp at hc8; omega)); done)
        all_goals (try simp only [decide_eq_true_eq, decide_eq_false_iff_not, Bool.not_eq_true', Bool.not_eq_false', Bool.not_eq_eq_eq_not, Bool.not_true, Bool.not_false] at hc8)
        all_goals
         refine AW_exit ?_
         repeat (first | refine thenK_exit ?_ | refine loopK_exit ?_ | refine blockK_other (by decide) ?_)
         refine blockK_same ?_
         refine thenK_normal (hK4 _ ?_)
         try clear hK4
         refine AW_seq_k (fun K9 hK9 => ?_)
         refine AW_region ?_
         all_goals (refine AOps_cons rfl (AOp_load1_ptr _ _ _ _ _ rfl (by first | exact hget0 | exact hgetN _ rfl | assumption | exact hgetL (by assumption) | exact hgetE (by first | assumption | apply hGl) | exact hgetEN (by first | assumption | apply hGl) _ rfl) sz34 ag34 (by decide) (by simp [push_cast]) rfl ?_) <;> try simp only [push_cast, Nat.reduceAdd])
         all_goals (refine AOps_cons rfl (AOp_assign ?_) <;> try simp only [push_cast, Nat.reduceAdd])
         all_goals refine AOps_nil ?_
         all_goals
          refine thenK_normal (hK9 _ ?_)
          try clear hK9
          refine AW_ret ?_
          repeat (first | refine thenK_ret ?_ | refine loopK_ret ?_ | refine blockK_ret ?_)
          have hOi : O i = symsP ts := by rw [hO, List.take_of_length_le (by omega)]; rfl
          rw [hOi]
          refine ⟨by simp, _, rfl, outok_app 0 rfl (Nat.zero_le _) (by simp), scoped_gSl_strip (Nat.le_refl _) ?_, ?_⟩
          · rw [strip_encS]; exact scoped_encS _ _
          simp only [push_cast, Nat.reduceAdd]
          refine ⟨?_, by simp⟩
          have := gSl_strip (Nat.le_refl H.length) (encL encS (symsP ts))
          rw [strip_encS] at this
          exact this
       case' ht =>
        intro hc8
        try (exfalso; (first | (cases hc8; done) | (simp at hc8; done) | (simp at hc8; omega)); done)
        all_goals (try simp only [decide_eq_true_eq, decide_eq_false_iff_not, Bool.not_eq_true', Bool.not_eq_false', Bool.not_eq_eq_eq_not, Bool.not_true, Bool.not_false] at hc8)
        all_goals
         refine AW_skip ?_
         refine thenK_normal (hK7 _ ?_)
         try clear hK7
         refine AW_seq_k (fun K10 hK10 => ?_)
         refine AW_block ?_
         refine AW_seq_k (fun K11 hK11 => ?_)
         refine AW_region ?_
         all_goals (refine AOps_cons rfl (AOp_indexAddr_sl 27 _ _ _ _ _ rfl rfl sl25 sz27 (by decide) (by exact uni_encTs _) (by first | omega | (simp; omega)) (by first | omega | (simp [push_cast]; omega) | (simp [push_cast]; done)) ?_) <;> try simp only [push_cast, Nat.reduceAdd])
         all_goals (refine AOps_cons rfl (AOp_load_cptr _ _ rfl sz27 ag27 (by simp [push_cast]) ?_) <;> try simp only [push_cast, Nat.reduceAdd])
         all_goals (refine AOps_cons rfl (AOp_alloc _ zr27 (by simp [ofVal, AV.isCell, Value.oneCell']) ?_) <;> try simp only [push_cast, Nat.reduceAdd])
         all_goals refine AOps_cons rfl ?_
         all_goals first | refine AOp_store _ _ _ _ _ rfl (by first | exact hget0 | exact hgetN _ rfl | assumption | exact hgetL (by assumption) | exact hgetE (by first | assumption | apply hGl) | exact hgetEN (by first | assumption | apply hGl) _ rfl) rfl rfl (by first | exact .inl rfl | exact .inr ⟨_, rfl⟩) (by simp [push_cast, AV.isCell]) sz27 (by simp [push_cast]) ?_ | refine AOp_store _ _ _ _ _ rfl (by first | exact hget0 | exact hgetN _ rfl | assumption | exact hgetL (by assumption) | exact hgetE (by first | assumption | apply hGl) | exact hgetEN (by first | assumption | apply hGl) _ rfl) rfl (gSl_cells _ _) (.inl (gSl_isCell _ _)) (by simp [gSl_isCell]) sz27 (by simp [push_cast]) ?_
         all_goals (try simp only [push_cast, Nat.reduceAdd])
         all_goals refine AOps_nil ?_
         all_goals
          refine thenK_normal (hK11 _ ?_)
          try clear hK11
          refine AW_seq_k (fun K12 hK12 => ?_)
          refine AW_region ?_
          all_goals (refine AOps_cons rfl (AOp_load_ptr _ _ _ _ rfl (by first | exact hget0 | exact hgetN _ rfl | assumption | exact hgetL (by assumption) | exact hgetE (by first | assumption | apply hGl) | exact hgetEN (by first | assumption | apply hGl) _ rfl) sz27 ag27 (by simp [push_cast]) ?_) <;> try simp only [push_cast, Nat.reduceAdd])
          all_goals refine AOps_cons rfl (AOp_call _ _ _ rfl rfl ok54 ?_)
          all_goals (try simp only [push_cast, Nat.reduceAdd])
          all_goals refine (walkF_ac (ts[i]'(by omega)) _).mono ?_
          all_goals rintro r H' ⟨rfl, rfl⟩
          all_goals (try simp only [push_cast, Nat.reduceAdd])
          all_goals refine AOps_nil ?_
          all_goals
           refine thenK_normal (hK12 _ ?_)
           try clear hK12
           refine AW_block ?_
           obtain ⟨T, hT⟩ : ∃ T, T = ts[i]'(by omega) := ⟨_, rfl⟩
           simp only [← hT]
           refine AW_iterE _ _ (walk_iter T (by rw [hT]; exact hb _ (by simp)) _) (fun pre => H ++ (symHeap H.length (pre.foldl symStep (O i)) ++ [.cells [.str T.name, .bool T.var, .sl .none (encTs T.args)], .cells [.str T.name, .bool T.var, .sl .none (encTs T.args)]])) (fun _ _ => none) rfl ok73 (by simp) (by simp [push_cast, hgetN]) (H.length + 6) (by simp) (fun p => by simp) (fun p o ho => by rcases List.mem_append.1 ho with h | h; exact .inl (List.mem_append_left _ h); right; rcases List.mem_append.1 h with h | h; exact oscoped_sh _ _ (by omega) _ o h; simp only [List.mem_cons, List.not_mem_nil, or_false] at h; rcases h with rfl | rfl <;> simp [OScoped, ScopedL, Scoped, scoped_encTs]) (fun x => rfl) ?round13 ?hend13 ?hleft13
           case' round13 =>
            intro pre x suf X l N G G' he hn hN hG hG' hGl1 hGl2
            have hGl3 : G'.length = G.length := hGl2.trans hGl1.symm
            obtain ⟨S, hS⟩ : ∃ S, S = pre.foldl symStep (O i) := ⟨_, rfl⟩
            have hS1 : (pre ++ [x]).foldl symStep (O i) = symStep S x := by rw [List.foldl_append, hS]; rfl
            have hSl : S.length + 1 ≤ 1099511627775 := by
              have h1 := symFold_length pre (O i)
              have h2 := hO2 i
              have h3 := walkT_length T []
              have h4 := take_sum Term.size ts i (by omega)
              have h5 := take_sum_le Term.size ts (i + 1)
              have h6 : pre.length + 1 ≤ (walkT T []).length := by rw [he]; simp
              rw [← hS] at h1
              rw [h3, hT] at h6
              omega
            obtain ⟨F, hF⟩ : ∃ F, F = symOf x.2 := ⟨_, rfl⟩
            have hF1 : AV.agg [AV.str x.2.name, AV.int .i64 x.2.args.length] = AV.agg (symCells F) := by rw [hF]; rfl
            have hF2 : AObj.cells [AV.str x.2.name, AV.int .i64 x.2.args.length] = AObj.cells (symCells F) := by rw [hF]; rfl
            rw [← hS] at hG'
            have g0 : G'[H.length]? = some (gTok 65 2 (encL encS S)) := by rw [hG', List.append_assoc]; exact hgetN 0 rfl
            have g1 : G'[H.length + 1]? = some (.map S.length (symMap S)) := by rw [hG', List.append_assoc]; exact hgetN 1 rfl
            have g2 : G'[H.length + 2]? = some (.cells [.map (H.length + 1)]) := by rw [hG', List.append_assoc]; exact hgetN 2 rfl
            have g3 : G'[H.length + 3]? = some (.cells [gSl H.length (encL encS S)]) := by rw [hG', List.append_assoc]; exact hgetN 3 rfl
            (try simp only [push_cast, zipPut, Nat.reduceAdd])
            refine AW_region ?_
            all_goals (refine AOps_cons rfl (AOp_alloc _ zr27 (by simp [ofVal, AV.isCell, Value.oneCell']) ?_) <;> try simp only [push_cast, Nat.reduceAdd])
            all_goals refine AOps_cons rfl ?_
            all_goals first | refine AOp_store _ _ _ _ _ rfl (by first | exact hget0 | exact hgetN _ rfl | assumption | exact hgetL (by assumption) | exact hgetE (by first | assumption | apply hGl) | exact hgetEN (by first | assumption | apply hGl) _ rfl) rfl rfl (by first | exact .inl rfl | exact .inr ⟨_, rfl⟩) (by simp [push_cast, AV.isCell]) sz27 (by simp [push_cast]) ?_ | refine AOp_store _ _ _ _ _ rfl (by first | exact hget0 | exact hgetN _ rfl | assumption | exact hgetL (by assumption) | exact hgetE (by first | assumption | apply hGl) | exact hgetEN (by first | assumption | apply hGl) _ rfl) rfl (gSl_cells _ _) (.inl (gSl_isCell _ _)) (by simp [gSl_isCell]) sz27 (by simp [push_cast]) ?_
            all_goals (try simp only [push_cast, Nat.reduceAdd])
            all_goals refine AOps_nil ?_
            all_goals
             first | refine ⟨rfl, _, rfl, ?_⟩ | refine ⟨rfl, [], (List.append_nil _).symm, ?_⟩
             (try simp only [push_cast, Nat.reduceAdd])
             refine AW_block ?_
             refine AW_seq_k (fun K14 hK14 => ?_)
             refine AW_region ?_
             all_goals (refine AOps_cons rfl (AOp_fieldAddr_ptr _ _ _ _ rfl fd27_0 (by decide) ?_) <;> try simp only [push_cast, Nat.reduceAdd])
             all_goals (refine AOps_cons rfl (AOp_load1_ptr _ _ _ _ _ rfl (by first | exact hget0 | exact hgetN _ rfl | assumption | exact hgetL (by assumption) | exact hgetE (by first | assumption | apply hGl) | exact hgetEN (by first | assumption | apply hGl) _ rfl) sz9 ag9 (by decide) (by simp [push_cast]) rfl ?_) <;> try simp only [push_cast, Nat.reduceAdd])
             all_goals (refine AOps_cons rfl (AOp_fieldAddr_ptr _ _ _ _ rfl fd27_2 (by decide) ?_) <;> try simp only [push_cast, Nat.reduceAdd])
             all_goals (refine AOps_cons rfl (AOp_load1_ptr _ _ _ _ _ rfl (by first | exact hget0 | exact hgetN _ rfl | assumption | exact hgetL (by assumption) | exact hgetE (by first | assumption | apply hGl) | exact hgetEN (by first | assumption | apply hGl) _ rfl) sz25 ag25 (by decide) (by simp [push_cast]) rfl ?_) <;> try simp only [push_cast, Nat.reduceAdd])
             all_goals (refine AOps_cons rfl (AOp_len_sl _ _ _ rfl sl25 ?_) <;> try simp only [push_cast, Nat.reduceAdd])
             all_goals (refine AOps_cons rfl (AOp_build _ _ _ zr65 st65 _ rfl (by first | rfl | (simp [afill, splice, push_cast]; done)) ?_) <;> try simp only [push_cast, Nat.reduceAdd])
             all_goals (refine AOps_cons rfl (AOp_alloc _ zr65 (by simp [ofVal, AV.isCell, Value.oneCell']) ?_) <;> try simp only [push_cast, Nat.reduceAdd])
             all_goals refine AOps_cons rfl ?_
             all_goals first | refine AOp_store _ _ _ _ _ rfl (by first | exact hget0 | exact hgetN _ rfl | assumption | exact hgetL (by assumption) | exact hgetE (by first | assumption | apply hGl) | exact hgetEN (by first | assumption | apply hGl) _ rfl) rfl rfl (by first | exact .inl rfl | exact .inr ⟨_, rfl⟩) (by simp [push_cast, AV.isCell]) sz65 (by simp [push_cast]) ?_ | refine AOp_store _ _ _ _ _ rfl (by first | exact hget0 | exact hgetN _ rfl | assumption | exact hgetL (by assumption) | exact hgetE (by first | assumption | apply hGl) | exact hgetEN (by first | assumption | apply hGl) _ rfl) rfl (gSl_cells _ _) (.inl (gSl_isCell _ _)) (by simp [gSl_isCell]) sz65 (by simp [push_cast]) ?_
             all_goals (try simp only [push_cast, Nat.reduceAdd])
             all_goals refine AOps_nil ?_
             simp only [hF1, hF2]
             all_goals
              refine thenK_normal (hK14 _ ?_)
              try clear hK14
              refine AW_seq_k (fun K15 hK15 => ?_)
              refine AW_region ?_
              all_goals (refine AOps_cons rfl (AOp_fieldAddr_ptr _ _ _ _ rfl fd27_1 (by decide) ?_) <;> try simp only [push_cast, Nat.reduceAdd])
              all_goals (refine AOps_cons rfl (AOp_load1_ptr _ _ _ _ _ rfl (by first | exact hget0 | exact hgetN _ rfl | assumption | exact hgetL (by assumption) | exact hgetE (by first | assumption | apply hGl) | exact hgetEN (by first | assumption | apply hGl) _ rfl) sz4 ag4 (by decide) (by simp [push_cast]) rfl ?_) <;> try simp only [push_cast, Nat.reduceAdd])
              all_goals (refine AOps_cons rfl (AOp_not _ rfl ?_) <;> try simp only [push_cast, Nat.reduceAdd])
              all_goals refine AOps_cons rfl (AOp_move ?_)
              all_goals (try simp only [push_cast, Nat.reduceAdd])
              all_goals (try refine AOps_split 30 _ rfl (fun hg16 => ?_) (fun hg16 => ?_))
              all_goals (try (exfalso; (first | (cases hg16; done) | (simp at hg16; done) | (simp at hg16; omega)); done))
              all_goals (try simp only [decide_eq_true_eq, decide_eq_false_iff_not, Bool.not_eq_true', Bool.not_eq_false', Bool.not_eq_eq_eq_not, Bool.not_true, Bool.not_false] at hg16)
              all_goals first
               | refine AOps_skip rfl ?_
               | (refine AOps_cons rfl ?_
                  refine AOp_load1_ptr _ _ _ _ _ rfl (by first | exact hget0 | exact hgetN _ rfl | assumption | exact hgetL (by assumption) | exact hgetE (by first | assumption | apply hGl) | exact hgetEN (by first | assumption | apply hGl) _ rfl) sz85 ag85 (by decide) (by simp [push_cast]) rfl ?_)
              all_goals (try simp only [push_cast, Nat.reduceAdd])
              all_goals first
               | refine AOps_skip rfl ?_
               | (refine AOps_cons rfl ?_
                  refine AOp_load_ptr _ _ _ _ rfl (by first | exact hget0 | exact hgetN _ rfl | assumption | exact hgetL (by assumption) | exact hgetE (by first | assumption | apply hGl) | exact hgetEN (by first | assumption | apply hGl) _ rfl) sz65 ag65 (by simp [push_cast]) ?_)
              all_goals (try simp only [push_cast, Nat.reduceAdd])
              all_goals first
               | refine AOps_skip rfl ?_
               | (refine AOps_cons rfl ?_
                  refine AOp_lookup symKey AV.bool (seenM S) _ _ F (.bool false) rfl (by exact hgetL g1) rfl un85 (ZeroV_of (.bool false) (by kernel_rfl)) ?_
                  rw [show (Option.map AV.bool (aget (seenM S) F)).getD (.bool false) = .bool (decide (F ∈ S)) from by rw [seen_get]; by_cases hm : F ∈ S <;> simp [hm]])
              all_goals (try simp only [push_cast, Nat.reduceAdd])
              all_goals first
               | refine AOps_skip rfl ?_
               | (refine AOps_cons rfl ?_
                  refine AOp_not _ rfl ?_)
              all_goals (try simp only [push_cast, Nat.reduceAdd])
              all_goals (refine AOps_cons rfl (AOp_pick _ rfl ?_) <;> try simp only [push_cast, Nat.reduceAdd])
              all_goals refine AOps_nil ?_
              all_goals
               refine thenK_normal (hK15 _ ?_)
               try clear hK15
               apply AW_cond
               case' hc => exact rfl
               case' hf =>
                intro hc17
                try (exfalso; (first | (cases hc17; done) | (simp at hc17; done) | (simp at hc17; omega)); done)
                all_goals (try simp only [decide_eq_true_eq, decide_eq_false_iff_not, Bool.not_eq_true', Bool.not_eq_false', Bool.not_eq_eq_eq_not, Bool.not_true, Bool.not_false] at hc17)
                all_goals
                 refine AW_skip ?_
               case' ht =>
                intro hc17
                try (exfalso; (first | (cases hc17; done) | (simp at hc17; done) | (simp at hc17; omega)); done)
                all_goals (try simp only [decide_eq_true_eq, decide_eq_false_iff_not, Bool.not_eq_true', Bool.not_eq_false', Bool.not_eq_eq_eq_not, Bool.not_true, Bool.not_false] at hc17)
                all_goals
                 refine AW_seq_k (fun K18 hK18 => ?_)
                 refine AW_region ?_
                 all_goals (refine AOps_cons rfl (AOp_load1_ptr _ _ _ _ _ rfl (by first | exact hget0 | exact hgetN _ rfl | assumption | exact hgetL (by assumption) | exact hgetE (by first | assumption | apply hGl) | exact hgetEN (by first | assumption | apply hGl) _ rfl) sz85 ag85 (by decide) (by simp [push_cast]) rfl ?_) <;> try simp only [push_cast, Nat.reduceAdd])
                 all_goals (refine AOps_cons rfl (AOp_load_ptr _ _ _ _ rfl (by first | exact hget0 | exact hgetN _ rfl | assumption | exact hgetL (by assumption) | exact hgetE (by first | assumption | apply hGl) | exact hgetEN (by first | assumption | apply hGl) _ rfl) sz65 ag65 (by simp [push_cast]) ?_) <;> try simp only [push_cast, Nat.reduceAdd])
                 all_goals refine AOps_cons rfl ?_
                 all_goals have hFS : F ∉ S := by assumption
                 all_goals refine AOp_mapUpdate symKey AV.bool (seenM S) _ _ F true rfl (by exact hgetL g1) rfl rfl un85 ?_
                 all_goals rw [seen_set S F hFS]
                 all_goals have hlt1 : H.length + 1 < G'.length := (List.getElem?_eq_some_iff.1 g1).1
                 all_goals (try simp only [push_cast, Nat.reduceAdd])
                 all_goals rw [List.set_append_left _ _ hlt1]
                 all_goals obtain ⟨G2, hG2⟩ : ∃ G2, G2 = G'.set (H.length + 1) (.map (S.length + 1) (symMap (S ++ [F]))) := ⟨_, rfl⟩
                 all_goals rw [← hG2]
                 all_goals have hG2l : G2.length = G'.length := by rw [hG2]; simp
                 all_goals have hG2m : G2.length = G.length := hG2l.trans hGl3
                 all_goals have g20 : G2[H.length]? = some (gTok 65 2 (encL encS S)) := by rw [hG2, List.getElem?_set_ne (by omega)]; exact g0
                 all_goals have g23 : G2[H.length + 3]? = some (.cells [gSl H.length (encL encS S)]) := by rw [hG2, List.getElem?_set_ne (by omega)]; exact g3
                 all_goals have hlt2 : H.length < G2.length := (List.getElem?_eq_some_iff.1 g20).1
                 all_goals (try simp only [push_cast, Nat.reduceAdd])
                 all_goals refine AOps_nil ?_
                 all_goals
                  refine thenK_normal (hK18 _ ?_)
                  try clear hK18
                  refine AW_region ?_
                  all_goals (refine AOps_cons rfl (AOp_load1_ptr _ _ _ _ _ rfl (by first | exact hget0 | exact hgetN _ rfl | assumption | exact hgetL (by assumption) | exact hgetE (by first | assumption | apply hGl) | exact hgetEN (by first | assumption | apply hGl) _ rfl) sz34 ag34 (by decide) (by simp [push_cast]) rfl ?_) <;> try simp only [push_cast, Nat.reduceAdd])
                  all_goals (refine AOps_cons rfl (AOp_load_ptr _ _ _ _ rfl (by first | exact hget0 | exact hgetN _ rfl | assumption | exact hgetL (by assumption) | exact hgetE (by first | assumption | apply hGl) | exact hgetEN (by first | assumption | apply hGl) _ rfl) sz65 ag65 (by simp [push_cast]) ?_) <;> try simp only [push_cast, Nat.reduceAdd])
                  all_goals (refine AOps_cons rfl (AOp_buildRow _ [_] sl34 sz65 zr65 rfl rfl (by simp [AV.cells, AV.isCell, AV.isAgg, push_cast]) (by decide) rfl ?_) <;> try simp only [push_cast, Nat.reduceAdd])
                  all_goals refine AOps_cons rfl (AOp_append_G _ (H.length) (encL encS S) ([.agg (symCells F)]) _ rfl rfl (by first | exact hget0 | exact hgetN _ rfl | assumption | exact hgetL (by assumption) | exact hgetE (by first | assumption | apply hGl) | exact hgetEN (by first | assumption | apply hGl) _ rfl) sl34 sz65 by65 zr65 rfl (by decide) (by exact hu _) (by simp [Uni, AV.cells]) (by simp [flat, AV.cells, AV.isCell]) (by simp only [encL_length, List.length_cons, List.length_nil]; omega) (by simp only [encL_length, List.length_cons, List.length_nil]; omega) ?_)
                  all_goals (try simp only [push_cast, Nat.reduceAdd])
                  all_goals rw [List.set_append_left _ _ hlt2]
                  all_goals obtain ⟨G3, hG3⟩ : ∃ G3, G3 = G2.set H.length (gTok 65 2 (encL encS S ++ [.agg (symCells F)])) := ⟨_, rfl⟩
                  all_goals rw [← hG3]
                  all_goals have hG3l : G3.length = G'.length := by rw [hG3]; simp [hG2l]
                  all_goals have hG3m : G3.length = G.length := hG3l.trans hGl3
                  all_goals have g33 : G3[H.length + 3]? = some (.cells [gSl H.length (encL encS S)]) := by rw [hG3, List.getElem?_set_ne (by omega)]; exact g23
                  all_goals have hlt3 : H.length + 3 < G3.length := (List.getElem?_eq_some_iff.1 g33).1
                  all_goals (try simp only [push_cast, Nat.reduceAdd])
                  all_goals refine AOps_cons rfl ?_
                  all_goals first | refine AOp_store _ _ _ _ _ rfl (by first | exact hget0 | exact hgetN _ rfl | assumption | exact hgetL (by assumption) | exact hgetE (by first | assumption | apply hGl) | exact hgetEN (by first | assumption | apply hGl) _ rfl) rfl rfl (by first | exact .inl rfl | exact .inr ⟨_, rfl⟩) (by simp [push_cast, AV.isCell]) sz34 (by simp [push_cast]) ?_ | refine AOp_store _ _ _ _ _ rfl (by first | exact hget0 | exact hgetN _ rfl | assumption | exact hgetL (by assumption) | exact hgetE (by first | assumption | apply hGl) | exact hgetEN (by first | assumption | apply hGl) _ rfl) rfl (gSl_cells _ _) (.inl (gSl_isCell _ _)) (by simp [gSl_isCell]) sz34 (by simp [push_cast]) ?_
                  all_goals (try simp only [push_cast, Nat.reduceAdd])
                  all_goals refine AOps_nil ?_
               all_goals
                refine blockK_normal ?_
                refine iterK_normal ?_
                refine ⟨rfl, ?_⟩
                first
                  | (have hFS : F ∉ S := (by assumption)
                     have hv : x.2.var = false := (by assumption)
                     have hst : symStep S x = S ++ [F] := (by unfold symStep; rw [← hF, if_pos ⟨hv, hFS⟩])
                     rw [List.set_append_left _ _ hlt3]
                     refine ⟨_, congrArg (fun z => z ++ _) ?_⟩
                     rw [hG3, hG2, hG', hS1, hst]
                     simp [hsetN, List.append_assoc, encL]; done)
                  | (have hst : symStep S x = S := (by unfold symStep; rw [← hF, if_neg]; rintro ⟨a, b⟩; first | exact b (by assumption) | (have hv : x.2.var = true := (by assumption); rw [hv] at a; cases a))
                     refine ⟨_, congrArg (fun z => z ++ _) ?_⟩
                     rw [hG', hS1, hst]
                     first | rfl | (simp [List.append_assoc]; done))
                  | fail "rend1"
           case' hleft13 =>
            intro pre x suf c he hn hc; simp at hc
           case' hend13 =>
            intro hn
            (try simp only [push_cast, Nat.reduceAdd])
            refine blockK_normal ?_
            refine blockK_normal ?_
            refine thenK_normal (hK10 _ ?_)
            try clear hK10
            refine AW_region ?_
            all_goals refine AOps_cons rfl (AOp_bin_int _ _ _ _ rfl rfl rfl ?_)
            all_goals (try simp only [push_cast, Nat.reduceAdd])
            all_goals (try rw [IntWalk.i64_in _ (by omega)])
            all_goals (try simp only [push_cast, Nat.reduceAdd])
            all_goals (refine AOps_cons rfl (AOp_move ?_) <;> try simp only [push_cast, Nat.reduceAdd])
            all_goals refine AOps_nil ?_
            all_goals
             refine loopK_normal ?_
             have e : (walkT T []).foldl symStep (O i) = O (i + 1) := by rw [hT, hO1 i (by omega)]
             simp only [e]
             exact ⟨i + 1, by omega, by (simp only [push_cast, Nat.reduceAdd]; exact weak_app 4 (by (repeat (first | exact SlotsOk.nil | refine SlotsOk.junk ?_ | refine SlotsOk.same (by first | (simp [push_cast]; done) | (simp [push_cast, Scoped, ScopedL, *]; done)) ?_ | refine SlotsOk.tok (by first | rfl | (simp; done)) (by first | (simp [push_cast]; done) | (simp [push_cast, Scoped, ScopedL, *]; done)) ?_ | refine SlotsOk.eq (by first | rfl | (congr 1; omega) | (simp; done) | (simp; omega)) (by first | (simp [push_cast]; done) | (simp [push_cast, Scoped, ScopedL, *]; done)) ?_))) (by simp) (fun o ho => oscoped_sh _ _ (Nat.le_refl _) _ o ho)), by omega⟩
end Ab
set_option maxRecDepth 10000
namespace Ab
open Go Go.Proofs
attribute [local push_cast] encT encR scoped_encR encS scoped_encS oscoped_gTok scoped_gSl
def ofL (ts : List Term) : List Sym := ts.flatMap ofT
theorem ofL_take (ts : List Term) (i : Nat) (h : i < ts.length) : ofL (ts.take (i + 1)) = ofL (ts.take i) ++ ofT ts[i] := by
  unfold ofL; rw [List.take_succ_eq_append_getElem h, List.flatMap_append]; simp
theorem ofT_args (t : Term) : ofT t = ofL t.args ++ if t.var then [] else [⟨t.name, t.args.length⟩] := by cases t; rw [ofT_mk]; rfl
theorem ofL_length (ts : List Term) : (ofL ts).length ≤ (ts.map Term.size).sum := by
  unfold ofL
  rw [List.length_flatMap]
  exact sum_le_sum fun x _ => ofT_length x
theorem ofR_step (ts : List Term) (hlen : ts.length < 1099511627776) (hsz : (ts.map Term.size).sum ≤ 1099511627775) (ih : ∀ x, x ∈ ts → ∀ H, ACall Try.prog 11 [.sl .none (encTs x.args)] H (fun r H' => r = .sl .none (encL encS (ofL x.args)) ∧ H' = H)) (H : List AObj) :
    ACall Try.prog 11 [.sl .none (encTs ts)] H (fun r H' => r = .sl .none (encL encS (ofL ts)) ∧ H' = H) := by
  refine ACall.weakR (R := fun r H' => Forget r (.sl .none (encL encS (ofL ts))) ∧ H' = H) ?_ (fun r H' h => ⟨_, h.1, rfl, h.2⟩)
  have hu : ∀ l, Uni 2 (encL encS l) := uni_encS
  have hbd : ∀ i (h : i < ts.length), (ofL (ts.take i)).length + (ofL ts[i].args).length + (if ts[i].var then 0 else 1) ≤ 1099511627775 := by
    intro i h
    have h1 := ofL_length (ts.take (i + 1))
    have h2 := take_sum_le Term.size ts (i + 1)
    rw [ofL_take ts i h, List.length_append, ofT_args, List.length_append] at h1
    cases hv : ts[i].var <;> simp only [hv, if_true, if_false, Bool.false_eq_true, List.length_cons, List.length_nil] at h1 ⊢ <;> omega
  refine ACall_intro (H.length) Try.func11 rfl ?_
  simp only [Try.ntmps11, List.length_cons, List.length_nil, List.replicate, List.cons_append, List.nil_append, Nat.reduceAdd, Nat.reduceSub, Nat.zero_add]
  refine AW_seq_k (fun K1 hK1 => ?_)
  refine AW_region ?_
  all_goals (refine AOps_cons rfl (AOp_assign ?_) <;> try simp only [push_cast, Nat.reduceAdd])
  all_goals refine AOps_nil ?_
  all_goals
   refine thenK_normal (hK1 _ ?_)
   try clear hK1
   refine AW_seq_k (fun K2 hK2 => ?_)
   refine AW_region ?_
   all_goals (refine AOps_cons rfl (AOp_assign ?_) <;> try simp only [push_cast, Nat.reduceAdd])
   all_goals refine AOps_nil ?_
   all_goals
    refine thenK_normal (hK2 _ ?_)
    try clear hK2
    refine AW_seq_k (fun K3 hK3 => ?_)
    refine AW_seq_k (fun K4 hK4 => ?_)
    refine AW_region ?_
    all_goals refine AOps_cons rfl (AOp_move ?_)
    all_goals (try simp only [push_cast, Nat.reduceAdd])
    all_goals (refine AOps_cons rfl (AOp_len_sl _ _ _ rfl sl25 ?_) <;> try simp only [push_cast, Nat.reduceAdd])
    all_goals (refine AOps_cons rfl (AOp_move ?_) <;> try simp only [push_cast, Nat.reduceAdd])
    all_goals refine AOps_nil ?_
    all_goals
     refine thenK_normal (hK4 _ ?_)
     try clear hK4
     refine AW_block ?_
     refine AW_reserve 1 ?_
     simp only [push_cast, List.replicate, Nat.reduceAdd]
     refine AW_loopR (maskG 31 [3, 2, 0, 0]) (fun (i : Nat) => [(8, .int .i64 i), (3, gSl H.length (encL encS (ofL (ts.take i))))]) (fun i => H ++ [gTok 65 2 (encL encS (ofL (ts.take i)))]) (fun i => i ≤ ts.length) (fun i => ts.length - i) 0 (Nat.zero_le _) (by (simp only [push_cast, Nat.reduceAdd]; refine weak_app 1 ?_ (by simp) (by intro o ho; simp only [List.take_succ_cons, List.take_zero, List.mem_cons, List.not_mem_nil, or_false] at ho; rcases ho with rfl <;> first | exact oscoped_gTok _ _ _ _ | (simp [push_cast, OScoped, Scoped, ScopedL]; done)); (repeat (first | exact SlotsOk.nil | refine SlotsOk.junk ?_ | refine SlotsOk.same (by first | (simp [push_cast]; done) | (simp [push_cast, Scoped, ScopedL, *]; done)) ?_ | refine SlotsOk.tok (by first | rfl | (simp; done)) (by first | (simp [push_cast]; done) | (simp [push_cast, Scoped, ScopedL, *]; done)) ?_ | refine SlotsOk.eq (by first | rfl | (congr 1; omega) | (simp; done) | (simp; omega)) (by first | (simp [push_cast]; done) | (simp [push_cast, Scoped, ScopedL, *]; done)) ?_)))) (fun i hi => ?_)
     (try simp only [push_cast, Nat.reduceAdd])
     refine AW_seq_k (fun K5 hK5 => ?_)
     refine AW_region ?_
     all_goals (refine AOps_cons rfl (AOp_bin_int _ _ _ _ rfl rfl rfl ?_) <;> try simp only [push_cast, Nat.reduceAdd])
     all_goals refine AOps_nil ?_
     all_goals
      refine thenK_normal (hK5 _ ?_)
      try clear hK5
      refine AW_seq_k (fun K6 hK6 => ?_)
      apply AW_cond
      case' hc => exact rfl
      case' hf =>
       intro hc7
       try (exfalso; (first | (cases hc7; done) | (simp at hc7; done) | (simp at hc7; omega)); done)
       all_goals (try simp only [decide_eq_true_eq, decide_eq_false_iff_not, Bool.not_eq_true', Bool.not_eq_false', Bool.not_eq_eq_eq_not, Bool.not_true, Bool.not_false] at hc7)
       all_goals
        refine AW_exit ?_
        repeat (first | refine thenK_exit ?_ | refine loopK_exit ?_ | refine blockK_other (by decide) ?_)
        refine blockK_same ?_
        refine thenK_normal (hK3 _ ?_)
        try clear hK3
        refine AW_seq_k (fun K8 hK8 => ?_)
        refine AW_region ?_
        all_goals refine AOps_cons rfl (AOp_move ?_)
        all_goals (refine AOps_cons rfl (AOp_assign ?_) <;> try simp only [push_cast, Nat.reduceAdd])
        all_goals refine AOps_nil ?_
        all_goals
         refine thenK_normal (hK8 _ ?_)
         try clear hK8
         refine AW_ret ?_
         repeat (first | refine thenK_ret ?_ | refine loopK_ret ?_ | refine blockK_ret ?_)
         have e : ts.take i = ts := List.take_of_length_le (by omega)
         rw [e]
         refine ⟨by simp, _, rfl, outok_app 0 rfl (Nat.zero_le _) (by simp), scoped_gSl_strip (Nat.le_refl _) ?_, ?_⟩
         · rw [strip_encS]; exact scoped_encS _ _
         simp only [push_cast, Nat.reduceAdd]
         refine ⟨?_, by simp⟩
         have := gSl_strip (Nat.le_refl H.length) (encL encS (ofL ts))
         rw [strip_encS] at this
         exact this
      case' ht =>
       intro hc7
       try (exfalso; (first | (cases hc7; done) | (simp at hc7; done) | (simp at hc7; omega)); done)
       all_goals (try simp only [decide_eq_true_eq, decide_eq_false_iff_not, Bool.not_eq_true', Bool.not_eq_false', Bool.not_eq_eq_eq_not, Bool.not_true, Bool.not_false] at hc7)
       all_goals
        refine AW_skip ?_
        refine thenK_normal (hK6 _ ?_)
        try clear hK6
        refine AW_seq_k (fun K9 hK9 => ?_)
        refine AW_block ?_
        refine AW_seq_k (fun K10 hK10 => ?_)
        refine AW_region ?_
        all_goals (refine AOps_cons rfl (AOp_indexAddr_sl 27 _ _ _ _ _ rfl rfl sl25 sz27 (by decide) (by exact uni_encTs _) (by first | omega | (simp; omega)) (by first | omega | (simp [push_cast]; omega) | (simp [push_cast]; done)) ?_) <;> try simp only [push_cast, Nat.reduceAdd])
        all_goals (refine AOps_cons rfl (AOp_load_cptr _ _ rfl sz27 ag27 (by simp [push_cast]) ?_) <;> try simp only [push_cast, Nat.reduceAdd])
        all_goals (refine AOps_cons rfl (AOp_alloc _ zr27 (by simp [ofVal, AV.isCell, Value.oneCell']) ?_) <;> try simp only [push_cast, Nat.reduceAdd])
        all_goals (refine AOps_cons rfl (AOp_store _ _ _ _ _ rfl (by first | exact hget0 | exact hgetN _ rfl | assumption | exact hgetL (by assumption)) rfl rfl (by first | exact .inl rfl | exact .inr ⟨_, rfl⟩) (by simp [push_cast, AV.isCell]) sz27 (by simp [push_cast]) ?_) <;> try simp only [push_cast, Nat.reduceAdd])
        all_goals refine AOps_nil ?_
        all_goals
         refine thenK_normal (hK10 _ ?_)
         try clear hK10
         refine AW_seq_k (fun K11 hK11 => ?_)
         refine AW_region ?_
         all_goals refine AOps_cons rfl (AOp_move ?_)
         all_goals (try simp only [push_cast, Nat.reduceAdd])
         all_goals (refine AOps_cons rfl (AOp_fieldAddr_ptr _ _ _ _ rfl fd27_2 (by decide) ?_) <;> try simp only [push_cast, Nat.reduceAdd])
         all_goals (refine AOps_cons rfl (AOp_load1_ptr _ _ _ _ _ rfl (by first | exact hget0 | exact hgetN _ rfl | assumption | exact hgetL (by assumption)) sz25 ag25 (by decide) (by simp [push_cast]) rfl ?_) <;> try simp only [push_cast, Nat.reduceAdd])
         all_goals refine AOps_cons rfl (AOp_call _ _ _ rfl rfl ok11 ?_)
         all_goals (try simp only [push_cast, Nat.reduceAdd])
         all_goals refine (ih (ts[i]'(by omega)) (by simp) _).mono ?_
         all_goals rintro r H' ⟨rfl, rfl⟩
         all_goals (try simp only [push_cast, Nat.reduceAdd])
         all_goals (refine AOps_cons rfl (AOp_append_G _ (H.length) (encL encS (ofL (ts.take i))) (encL encS (ofL (ts[i]'(by omega)).args)) _ rfl rfl (by first | exact hget0 | exact hgetN _ rfl | assumption | exact hgetL (by assumption)) sl34 sz65 by65 zr65 rfl (by decide) (by exact hu _) (by exact hu _) (by exact cell_encS _) (by have hb := hbd i (by omega); simp only [List.length_append, encL_length, List.length_cons, List.length_nil]; omega) (by have hb := hbd i (by omega); simp only [List.length_append, encL_length, List.length_cons, List.length_nil]; omega) ?_) <;> try simp only [push_cast, Nat.reduceAdd])
         all_goals (refine AOps_cons rfl (AOp_assign ?_) <;> try simp only [push_cast, Nat.reduceAdd])
         all_goals refine AOps_nil ?_
         all_goals
          refine thenK_normal (hK11 _ ?_)
          try clear hK11
          refine AW_seq_k (fun K12 hK12 => ?_)
          refine AW_region ?_
          all_goals (refine AOps_cons rfl (AOp_fieldAddr_ptr _ _ _ _ rfl fd27_1 (by decide) ?_) <;> try simp only [push_cast, Nat.reduceAdd])
          all_goals (refine AOps_cons rfl (AOp_load1_ptr _ _ _ _ _ rfl (by first | exact hget0 | exact hgetN _ rfl | assumption | exact hgetL (by assumption)) sz4 ag4 (by decide) (by simp [push_cast]) rfl ?_) <;> try simp only [push_cast, Nat.reduceAdd])
          all_goals (refine AOps_cons rfl (AOp_not _ rfl ?_) <;> try simp only [push_cast, Nat.reduceAdd])
          all_goals refine AOps_nil ?_
          all_goals
           refine thenK_normal (hK12 _ ?_)
           try clear hK12
           apply AW_cond
           case' hc => exact rfl
           case' hf =>
            intro hc13
            try (exfalso; (first | (cases hc13; done) | (simp at hc13; done) | (simp at hc13; omega)); done)
            all_goals (try simp only [decide_eq_true_eq, decide_eq_false_iff_not, Bool.not_eq_true', Bool.not_eq_false', Bool.not_eq_eq_eq_not, Bool.not_true, Bool.not_false] at hc13)
            all_goals
             refine AW_skip ?_
           case' ht =>
            intro hc13
            try (exfalso; (first | (cases hc13; done) | (simp at hc13; done) | (simp at hc13; omega)); done)
            all_goals (try simp only [decide_eq_true_eq, decide_eq_false_iff_not, Bool.not_eq_true', Bool.not_eq_false', Bool.not_eq_eq_eq_not, Bool.not_true, Bool.not_false] at hc13)
            all_goals
             refine AW_region ?_
             all_goals refine AOps_cons rfl (AOp_move ?_)
             all_goals (try simp only [push_cast, Nat.reduceAdd])
             all_goals (refine AOps_cons rfl (AOp_fieldAddr_ptr _ _ _ _ rfl fd27_0 (by decide) ?_) <;> try simp only [push_cast, Nat.reduceAdd])
             all_goals (refine AOps_cons rfl (AOp_load1_ptr _ _ _ _ _ rfl (by first | exact hget0 | exact hgetN _ rfl | assumption | exact hgetL (by assumption)) sz9 ag9 (by decide) (by simp [push_cast]) rfl ?_) <;> try simp only [push_cast, Nat.reduceAdd])
             all_goals (refine AOps_cons rfl (AOp_fieldAddr_ptr _ _ _ _ rfl fd27_2 (by decide) ?_) <;> try simp only [push_cast, Nat.reduceAdd])
             all_goals (refine AOps_cons rfl (AOp_load1_ptr _ _ _ _ _ rfl (by first | exact hget0 | exact hgetN _ rfl | assumption | exact hgetL (by assumption)) sz25 ag25 (by decide) (by simp [push_cast]) rfl ?_) <;> try simp only [push_cast, Nat.reduceAdd])
             all_goals (refine AOps_cons rfl (AOp_len_sl _ _ _ rfl sl25 ?_) <;> try simp only [push_cast, Nat.reduceAdd])
             all_goals (refine AOps_cons rfl (AOp_build _ _ _ zr65 st65 _ rfl (by first | rfl | (simp [afill, splice, push_cast]; done)) ?_) <;> try simp only [push_cast, Nat.reduceAdd])
             all_goals (refine AOps_cons rfl (AOp_buildRow _ [_] sl34 sz65 zr65 rfl rfl (by simp [AV.cells, AV.isCell, AV.isAgg, push_cast]) (by decide) rfl ?_) <;> try simp only [push_cast, Nat.reduceAdd])
             all_goals (refine AOps_cons rfl (AOp_append_G _ (H.length) (encL encS (ofL (ts.take i)) ++ encL encS (ofL (ts[i]'(by omega)).args)) ([encS ⟨(ts[i]'(by omega)).name, (ts[i]'(by omega)).args.length⟩]) _ rfl rfl (by first | exact hget0 | exact hgetN _ rfl | assumption | exact hgetL (by assumption)) sl34 sz65 by65 zr65 rfl (by decide) (by rw [← encL_append]; exact hu _) (by simp [Uni, AV.cells]) (by simp [flat, AV.cells, AV.isCell]) (by have hb := hbd i (by omega); have hv : (ts[i]'(by omega)).var = false := (by assumption); simp only [hv] at hb; simp at hb; simp only [List.length_append, encL_length, List.length_cons, List.length_nil]; omega) (by have hb := hbd i (by omega); have hv : (ts[i]'(by omega)).var = false := (by assumption); simp only [hv] at hb; simp at hb; simp only [List.length_append, encL_length, List.length_cons, List.length_nil]; omega) ?_) <;> try simp only [push_cast, Nat.reduceAdd])
             all_goals (refine AOps_cons rfl (AOp_assign ?_) <;> try simp only [push_cast, Nat.reduceAdd])
             all_goals refine AOps_nil ?_
           all_goals
            refine blockK_normal ?_
            refine thenK_normal (hK9 _ ?_)
            try clear hK9
            refine AW_region ?_
            all_goals refine AOps_cons rfl (AOp_bin_int _ _ _ _ rfl rfl rfl ?_)
            all_goals (try simp only [push_cast, Nat.reduceAdd])
            all_goals (try rw [IntWalk.i64_in _ (by omega)])
            all_goals (try simp only [push_cast, Nat.reduceAdd])
            all_goals (refine AOps_cons rfl (AOp_move ?_) <;> try simp only [push_cast, Nat.reduceAdd])
            all_goals refine AOps_nil ?_
            all_goals
             refine loopK_normal ?_
             have e := ofL_take ts i (by omega)
             have e2 := ofT_args (ts[i]'(by omega))
             first
               | (have hv : (ts[i]'(by omega)).var = false := (by assumption)
                  have ee : encL encS (ofL (ts.take i)) ++ (encL encS (ofL (ts[i]'(by omega)).args) ++ [encS ⟨(ts[i]'(by omega)).name, (ts[i]'(by omega)).args.length⟩]) = encL encS (ofL (ts.take (i + 1))) := (by rw [e, e2, hv]; simp [encL])
                  simp only [ee])
               | (have hv : (ts[i]'(by omega)).var = true := (by assumption)
                  have ee : encL encS (ofL (ts.take i)) ++ encL encS (ofL (ts[i]'(by omega)).args) = encL encS (ofL (ts.take (i + 1))) := (by rw [e, e2, hv]; simp [encL])
                  simp only [ee])
             exact ⟨i + 1, by omega, by (simp only [push_cast, Nat.reduceAdd]; refine weak_app 1 ?_ (by simp) (by intro o ho; simp only [List.take_succ_cons, List.take_zero, List.mem_cons, List.not_mem_nil, or_false] at ho; rcases ho with rfl <;> first | exact oscoped_gTok _ _ _ _ | (simp [push_cast, OScoped, Scoped, ScopedL]; done)); (repeat (first | exact SlotsOk.nil | refine SlotsOk.junk ?_ | refine SlotsOk.same (by first | (simp [push_cast]; done) | (simp [push_cast, Scoped, ScopedL, *]; done)) ?_ | refine SlotsOk.tok (by first | rfl | (simp; done)) (by first | (simp [push_cast]; done) | (simp [push_cast, Scoped, ScopedL, *]; done)) ?_ | refine SlotsOk.eq (by first | rfl | (congr 1; omega) | (simp; done) | (simp; omega)) (by first | (simp [push_cast]; done) | (simp [push_cast, Scoped, ScopedL, *]; done)) ?_))), by omega⟩
theorem ofR_args (t : Term) : t.bulk ≤ 1099511627775 → ∀ H, ACall Try.prog 11 [.sl .none (encTs t.args)] H (fun r H' => r = .sl .none (encL encS (ofL t.args)) ∧ H' = H) := by
  refine Term.ind (p := fun t => t.bulk ≤ 1099511627775 → ∀ H, ACall Try.prog 11 [.sl .none (encTs t.args)] H (fun r H' => r = .sl .none (encL encS (ofL t.args)) ∧ H' = H)) (fun n v xs ih => ?_) t
  intro hb H
  have h1 := (Term.mk n v xs).size_le
  have h2 := Term.len_le (n := n) (v := v) (xs := xs)
  rw [Term.size_mk] at h1
  exact ofR_step xs (by omega) (by omega) (fun x hx => ih x hx (by have := Term.arg_le (n := n) (v := v) hx; omega)) H
theorem ofR_ac (ts : List Term) (hlen : ts.length < 1099511627776) (hb : ∀ x, x ∈ ts → x.bulk ≤ 1099511627775) (hsz : (ts.map Term.size).sum ≤ 1099511627775) (H : List AObj) :
    ACall Try.prog 11 [.sl .none (encTs ts)] H (fun r H' => r = .sl .none (encL encS (ofL ts)) ∧ H' = H) := ofR_step ts hlen hsz (fun x hx => ofR_args x (hb x hx)) H
theorem admissibleR_ac (l : List Rank) (unit : Int) (ss : List Sym) (hlen : l.length < 1099511627776) (hlen2 : ss.length < 1099511627776) (H : List AObj) :
    ACall Try.prog 10 [.sl .none (encL encR l), .int .i64 unit, .sl .none (encL encS ss)] H (fun r H' => r = .bool (fitsR l unit ss) ∧ H' = H) := by
  have hew := fun v => (entry_rank l v).2
  refine ACall_intro (H.length) Try.func10 rfl ?_
  simp only [Try.ntmps10, List.length_cons, List.length_nil, List.replicate, List.cons_append, List.nil_append, Nat.reduceAdd, Nat.reduceSub, Nat.zero_add]
  refine AW_seq_k (fun K14 hK14 => ?_)
  refine AW_region ?_
  all_goals (refine AOps_cons rfl (AOp_assign ?_) <;> try simp only [push_cast, Nat.reduceAdd])
  all_goals refine AOps_nil ?_
  all_goals
   refine thenK_normal (hK14 _ ?_)
   try clear hK14
   refine AW_seq_k (fun K15 hK15 => ?_)
   refine AW_seq_k (fun K16 hK16 => ?_)
   refine AW_region ?_
   all_goals refine AOps_cons rfl (AOp_move ?_)
   all_goals (try simp only [push_cast, Nat.reduceAdd])
   all_goals (refine AOps_cons rfl (AOp_len_sl _ _ _ rfl sl34 ?_) <;> try simp only [push_cast, Nat.reduceAdd])
   all_goals (refine AOps_cons rfl (AOp_move ?_) <;> try simp only [push_cast, Nat.reduceAdd])
   all_goals refine AOps_nil ?_
   all_goals
    refine thenK_normal (hK16 _ ?_)
    try clear hK16
    refine AW_block ?_
    refine AW_loopR (maskG 60 [0, 0, 0, 9, 0, 0]) (fun (i : Nat) => [(14, .int .i64 i)]) (fun _ => _) (fun i => i ≤ ss.length ∧ (ss.take i).all (fitsRx l unit ss) = true) (fun i => ss.length - i) 0 ⟨Nat.zero_le _, by simp⟩ (by (simp only [push_cast, Nat.reduceAdd]; (first | refine weak_app0 ?_ | refine weak_same ?_); (repeat (first | exact SlotsOk.nil | refine SlotsOk.junk ?_ | refine SlotsOk.same (by first | (simp [push_cast]; done) | (simp [push_cast, Scoped, ScopedL, *]; done)) ?_ | refine SlotsOk.tok (by first | rfl | (simp; done)) (by first | (simp [push_cast]; done) | (simp [push_cast, Scoped, ScopedL, *]; done)) ?_ | refine SlotsOk.eq (by first | rfl | (congr 1; omega) | (simp; done) | (simp; omega)) (by first | (simp [push_cast]; done) | (simp [push_cast, Scoped, ScopedL, *]; done)) ?_)))) (fun i hi => ?_)
    (try simp only [push_cast, Nat.reduceAdd])
    refine AW_seq_k (fun K17 hK17 => ?_)
    refine AW_region ?_
    all_goals (refine AOps_cons rfl (AOp_bin_int _ _ _ _ rfl rfl rfl ?_) <;> try simp only [push_cast, Nat.reduceAdd])
    all_goals refine AOps_nil ?_
    all_goals
     refine thenK_normal (hK17 _ ?_)
     try clear hK17
     refine AW_seq_k (fun K18 hK18 => ?_)
     apply AW_cond
     case' hc => exact rfl
     case' hf =>
      intro hc19
      try (exfalso; (first | (cases hc19; done) | (simp at hc19; done) | (simp at hc19; omega)); done)
      all_goals (try simp only [decide_eq_true_eq, decide_eq_false_iff_not, Bool.not_eq_true', Bool.not_eq_false', Bool.not_eq_eq_eq_not, Bool.not_true, Bool.not_false] at hc19)
      all_goals
       refine AW_exit ?_
       repeat (first | refine thenK_exit ?_ | refine loopK_exit ?_ | refine blockK_other (by decide) ?_)
       refine blockK_same ?_
       refine thenK_normal (hK15 _ ?_)
       try clear hK15
       refine AW_seq_k (fun K20 hK20 => ?_)
       refine AW_region ?_
       all_goals (refine AOps_cons rfl (AOp_assign ?_) <;> try simp only [push_cast, Nat.reduceAdd])
       all_goals refine AOps_nil ?_
       all_goals
        refine thenK_normal (hK20 _ ?_)
        try clear hK20
        refine AW_ret ?_
        repeat (first | refine thenK_ret ?_ | refine loopK_ret ?_ | refine blockK_ret ?_)
        refine ⟨by first | exact .inl rfl | exact .inr rfl, _, rfl, (by first | exact outok_app 0 rfl (Nat.zero_le _) (by simp) | exact outok_self), by simp [push_cast], ?_⟩
        simp only [push_cast, Nat.reduceAdd]
        unfold fitsR
        first
          | (have hall : ss.take i = ss := List.take_of_length_le (by omega)
             rw [hall] at hi
             rw [hi.2]; simp; done)
          | (have hil : i < ss.length := (by omega)
             have ha : ss[i].arity = 0 := (by assumption)
             have hw : (entryP l ss[i].name).weight < unit := (by assumption)
             rw [hew] at hw
             have hf : fitsRx l unit ss ss[i] = false := (by unfold fitsRx; simp [ha, hw])
             rw [all_get hil hf]; simp; done)
          | (have hjl : j < ss.length := (by omega)
             have a1 : ss[i].arity = 1 := (by assumption)
             have a2 : (entryP l ss[i].name).weight = 0 := (by assumption)
             have a3 : ¬ ss[i] = ss[j] := (by assumption)
             have a4 : ¬ (ofP l ss[j].name).rank < (ofP l ss[i].name).rank := (by assumption)
             rw [hw] at a2
             have hq : fitsRy l ss[i] ss[j] = false := (by unfold fitsRy; simp [a1, a2, a3, a4])
             have hf : fitsRx l unit ss ss[i] = false := (by unfold fitsRx; rw [all_get hjl hq]; simp)
             rw [all_get hil hf]; simp; done)
          | fail "ret"
     case' ht =>
      intro hc19
      try (exfalso; (first | (cases hc19; done) | (simp at hc19; done) | (simp at hc19; omega)); done)
      all_goals (try simp only [decide_eq_true_eq, decide_eq_false_iff_not, Bool.not_eq_true', Bool.not_eq_false', Bool.not_eq_eq_eq_not, Bool.not_true, Bool.not_false] at hc19)
      all_goals
       refine AW_skip ?_
       refine thenK_normal (hK18 _ ?_)
       try clear hK18
       refine AW_seq_k (fun K21 hK21 => ?_)
       refine AW_block ?_
       refine AW_seq_k (fun K22 hK22 => ?_)
       refine AW_region ?_
       all_goals (refine AOps_cons rfl (AOp_indexAddr_sl 65 _ _ _ _ _ rfl rfl sl34 sz65 (by decide) (by exact uni_encS _) (by first | omega | (simp; omega)) (by first | omega | (simp [push_cast]; omega) | (simp [push_cast]; done)) ?_) <;> try simp only [push_cast, Nat.reduceAdd])
       all_goals (refine AOps_cons rfl (AOp_load_cptr _ _ rfl sz65 ag65 (by simp [push_cast]) ?_) <;> try simp only [push_cast, Nat.reduceAdd])
       all_goals (refine AOps_cons rfl (AOp_alloc _ zr65 (by simp [ofVal, AV.isCell, Value.oneCell']) ?_) <;> try simp only [push_cast, Nat.reduceAdd])
       all_goals (refine AOps_cons rfl (AOp_store _ _ _ _ _ rfl (by first | exact hget0 | exact hgetN _ rfl | assumption | exact hgetL (by assumption)) rfl rfl (by first | exact .inl rfl | exact .inr ⟨_, rfl⟩) (by simp [push_cast, AV.isCell]) sz65 (by simp [push_cast]) ?_) <;> try simp only [push_cast, Nat.reduceAdd])
       all_goals refine AOps_nil ?_
       all_goals
        refine thenK_normal (hK22 _ ?_)
        try clear hK22
        refine AW_seq_k (fun K23 hK23 => ?_)
        refine AW_region ?_
        all_goals refine AOps_cons rfl (AOp_move ?_)
        all_goals (try simp only [push_cast, Nat.reduceAdd])
        all_goals (refine AOps_cons rfl (AOp_fieldAddr_ptr _ _ _ _ rfl fd65_0 (by decide) ?_) <;> try simp only [push_cast, Nat.reduceAdd])
        all_goals (refine AOps_cons rfl (AOp_load1_ptr _ _ _ _ _ rfl (by first | exact hget0 | exact hgetN _ rfl | assumption | exact hgetL (by assumption)) sz9 ag9 (by decide) (by simp [push_cast]) rfl ?_) <;> try simp only [push_cast, Nat.reduceAdd])
        all_goals refine AOps_cons rfl (AOp_call _ _ _ rfl rfl ok32 ?_)
        all_goals (try simp only [push_cast, Nat.reduceAdd])
        all_goals refine (entry_ac l _ hlen _).mono ?_
        all_goals rintro r H' ⟨rfl, rfl⟩
        all_goals (try simp only [push_cast, Nat.reduceAdd])
        all_goals (refine AOps_cons rfl (AOp_field1 _ _ _ _ rfl fa63_2 (by decide) (by simp [push_cast]) rfl ?_) <;> try simp only [push_cast, Nat.reduceAdd])
        all_goals (refine AOps_cons rfl (AOp_assign ?_) <;> try simp only [push_cast, Nat.reduceAdd])
        all_goals refine AOps_nil ?_
        all_goals
         refine thenK_normal (hK23 _ ?_)
         try clear hK23
         refine AW_seq_k (fun K24 hK24 => ?_)
         refine AW_seq_k (fun K25 hK25 => ?_)
         refine AW_region ?_
         all_goals (refine AOps_cons rfl (AOp_fieldAddr_ptr _ _ _ _ rfl fd65_1 (by decide) ?_) <;> try simp only [push_cast, Nat.reduceAdd])
         all_goals (refine AOps_cons rfl (AOp_load1_ptr _ _ _ _ _ rfl (by first | exact hget0 | exact hgetN _ rfl | assumption | exact hgetL (by assumption)) sz3 ag3 (by decide) (by simp [push_cast]) rfl ?_) <;> try simp only [push_cast, Nat.reduceAdd])
         all_goals (refine AOps_cons rfl (AOp_bin_int _ _ _ _ rfl rfl rfl ?_) <;> try simp only [push_cast, Nat.reduceAdd])
         all_goals refine AOps_cons rfl (AOp_move ?_)
         all_goals (try simp only [push_cast, Nat.reduceAdd])
         all_goals (try refine AOps_split 26 _ rfl (fun hg26 => ?_) (fun hg26 => ?_))
         all_goals (try (exfalso; (first | (cases hg26; done) | (simp at hg26; done) | (simp at hg26; omega)); done))
         all_goals (try simp only [decide_eq_true_eq, decide_eq_false_iff_not, Bool.not_eq_true', Bool.not_eq_false', Bool.not_eq_eq_eq_not, Bool.not_true, Bool.not_false] at hg26)
         all_goals first
          | refine AOps_skip rfl ?_
          | (refine AOps_cons rfl ?_
             refine AOp_move ?_)
         all_goals (try simp only [push_cast, Nat.reduceAdd])
         all_goals first
          | refine AOps_skip rfl ?_
          | (refine AOps_cons rfl ?_
             refine AOp_move ?_)
         all_goals (try simp only [push_cast, Nat.reduceAdd])
         all_goals first
          | refine AOps_skip rfl ?_
          | (refine AOps_cons rfl ?_
             refine AOp_bin_int _ _ _ _ rfl rfl rfl ?_)
         all_goals (try simp only [push_cast, Nat.reduceAdd])
         all_goals (refine AOps_cons rfl (AOp_pick _ rfl ?_) <;> try simp only [push_cast, Nat.reduceAdd])
         all_goals refine AOps_nil ?_
         all_goals
          refine thenK_normal (hK25 _ ?_)
          try clear hK25
          apply AW_cond
          case' hc => exact rfl
          case' hf =>
           intro hc27
           try (exfalso; (first | (cases hc27; done) | (simp at hc27; done) | (simp at hc27; omega)); done)
           all_goals (try simp only [decide_eq_true_eq, decide_eq_false_iff_not, Bool.not_eq_true', Bool.not_eq_false', Bool.not_eq_eq_eq_not, Bool.not_true, Bool.not_false] at hc27)
           all_goals
            refine AW_skip ?_
            refine thenK_normal (hK24 _ ?_)
            try clear hK24
            refine AW_seq_k (fun K28 hK28 => ?_)
            refine AW_region ?_
            all_goals refine AOps_cons rfl (AOp_move ?_)
            all_goals (try simp only [push_cast, Nat.reduceAdd])
            all_goals (refine AOps_cons rfl (AOp_len_sl _ _ _ rfl sl34 ?_) <;> try simp only [push_cast, Nat.reduceAdd])
            all_goals (refine AOps_cons rfl (AOp_move ?_) <;> try simp only [push_cast, Nat.reduceAdd])
            all_goals refine AOps_nil ?_
            all_goals
             refine thenK_normal (hK28 _ ?_)
             try clear hK28
             refine AW_block ?_
             have hil : i < ss.length := by omega
             have hw := hew ss[i].name
             have hz : (decide (ss[i].arity = 0) && decide ((ofP l ss[i].name).weight < unit)) = false := by
               rw [Bool.eq_false_iff]; intro h
               simp only [Bool.and_eq_true, decide_eq_true_eq] at h
               rw [← hw] at h
               first | (have : ¬ ss[i].arity = 0 := (by assumption); exact this h.1) | (have : ¬ (entryP l ss[i].name).weight < unit := (by assumption); exact this h.2)
             refine AW_loopR (maskG 60 [0, 0, 0, 5, 0, 2, 0, 0, 16, 0, 0]) (fun (j : Nat) => [(33, .int .i64 j)]) (fun _ => _) (fun j => j ≤ ss.length ∧ (ss.take j).all (fitsRy l ss[i]) = true) (fun j => ss.length - j) 0 ⟨Nat.zero_le _, by simp⟩ (by (simp only [push_cast, Nat.reduceAdd]; refine weak_app 1 ?_ (by simp) (by simp [push_cast]); (repeat (first | exact SlotsOk.nil | refine SlotsOk.junk ?_ | refine SlotsOk.same (by first | (simp [push_cast]; done) | (simp [push_cast, Scoped, ScopedL, *]; done)) ?_ | refine SlotsOk.tok (by first | rfl | (simp; done)) (by first | (simp [push_cast]; done) | (simp [push_cast, Scoped, ScopedL, *]; done)) ?_ | refine SlotsOk.eq (by first | rfl | (congr 1; omega) | (simp; done) | (simp; omega)) (by first | (simp [push_cast]; done) | (simp [push_cast, Scoped, ScopedL, *]; done)) ?_)))) (fun j hj => ?_)
             (try simp only [push_cast, Nat.reduceAdd])
             refine AW_seq_k (fun K29 hK29 => ?_)
             refine AW_region ?_
             all_goals (refine AOps_cons rfl (AOp_bin_int _ _ _ _ rfl rfl rfl ?_) <;> try simp only [push_cast, Nat.reduceAdd])
             all_goals refine AOps_nil ?_
             all_goals
              refine thenK_normal (hK29 _ ?_)
              try clear hK29
              refine AW_seq_k (fun K30 hK30 => ?_)
              apply AW_cond
              case' hc => exact rfl
              case' hf =>
               intro hc31
               try (exfalso; (first | (cases hc31; done) | (simp at hc31; done) | (simp at hc31; omega)); done)
               all_goals (try simp only [decide_eq_true_eq, decide_eq_false_iff_not, Bool.not_eq_true', Bool.not_eq_false', Bool.not_eq_eq_eq_not, Bool.not_true, Bool.not_false] at hc31)
               all_goals
                refine AW_exit ?_
                repeat (first | refine thenK_exit ?_ | refine loopK_exit ?_ | refine blockK_other (by decide) ?_)
                refine blockK_same ?_
                refine blockK_normal ?_
                refine thenK_normal (hK21 _ ?_)
                try clear hK21
                refine AW_region ?_
                all_goals refine AOps_cons rfl (AOp_bin_int _ _ _ _ rfl rfl rfl ?_)
                all_goals (try simp only [push_cast, Nat.reduceAdd])
                all_goals (try rw [IntWalk.i64_in _ (by omega)])
                all_goals (try simp only [push_cast, Nat.reduceAdd])
                all_goals (refine AOps_cons rfl (AOp_move ?_) <;> try simp only [push_cast, Nat.reduceAdd])
                all_goals refine AOps_nil ?_
                all_goals
                 refine loopK_normal ?_
                 have hall : ss.take j = ss := List.take_of_length_le (by omega)
                 rw [hall] at hj
                 refine ⟨i + 1, ⟨by omega, all_take_true hi.2 hil ?_⟩, by (simp only [push_cast, Nat.reduceAdd]; (first | refine weak_app0 ?_ | refine weak_same ?_); (repeat (first | exact SlotsOk.nil | refine SlotsOk.junk ?_ | refine SlotsOk.same (by first | (simp [push_cast]; done) | (simp [push_cast, Scoped, ScopedL, *]; done)) ?_ | refine SlotsOk.tok (by first | rfl | (simp; done)) (by first | (simp [push_cast]; done) | (simp [push_cast, Scoped, ScopedL, *]; done)) ?_ | refine SlotsOk.eq (by first | rfl | (congr 1; omega) | (simp; done) | (simp; omega)) (by first | (simp [push_cast]; done) | (simp [push_cast, Scoped, ScopedL, *]; done)) ?_))), by omega⟩
                 unfold fitsRx
                 rw [hz, hj.2]; rfl
              case' ht =>
               intro hc31
               try (exfalso; (first | (cases hc31; done) | (simp at hc31; done) | (simp at hc31; omega)); done)
               all_goals (try simp only [decide_eq_true_eq, decide_eq_false_iff_not, Bool.not_eq_true', Bool.not_eq_false', Bool.not_eq_eq_eq_not, Bool.not_true, Bool.not_false] at hc31)
               all_goals
                refine AW_skip ?_
                refine thenK_normal (hK30 _ ?_)
                try clear hK30
                refine AW_seq_k (fun K32 hK32 => ?_)
                refine AW_block ?_
                refine AW_seq_k (fun K33 hK33 => ?_)
                refine AW_region ?_
                all_goals (refine AOps_cons rfl (AOp_indexAddr_sl 65 _ _ _ _ _ rfl rfl sl34 sz65 (by decide) (by exact uni_encS _) (by first | omega | (simp; omega)) (by first | omega | (simp [push_cast]; omega) | (simp [push_cast]; done)) ?_) <;> try simp only [push_cast, Nat.reduceAdd])
                all_goals (refine AOps_cons rfl (AOp_load_cptr _ _ rfl sz65 ag65 (by simp [push_cast]) ?_) <;> try simp only [push_cast, Nat.reduceAdd])
                all_goals (refine AOps_cons rfl (AOp_alloc _ zr65 (by simp [ofVal, AV.isCell, Value.oneCell']) ?_) <;> try simp only [push_cast, Nat.reduceAdd])
                all_goals (refine AOps_cons rfl (AOp_store _ _ _ _ _ rfl (by first | exact hget0 | exact hgetN _ rfl | assumption | exact hgetL (by assumption)) rfl rfl (by first | exact .inl rfl | exact .inr ⟨_, rfl⟩) (by simp [push_cast, AV.isCell]) sz65 (by simp [push_cast]) ?_) <;> try simp only [push_cast, Nat.reduceAdd])
                all_goals refine AOps_nil ?_
                all_goals
                 refine thenK_normal (hK33 _ ?_)
                 try clear hK33
                 refine AW_seq_k (fun K34 hK34 => ?_)
                 refine AW_region ?_
                 all_goals (refine AOps_cons rfl (AOp_fieldAddr_ptr _ _ _ _ rfl fd65_1 (by decide) ?_) <;> try simp only [push_cast, Nat.reduceAdd])
                 all_goals (refine AOps_cons rfl (AOp_load1_ptr _ _ _ _ _ rfl (by first | exact hget0 | exact hgetN _ rfl | assumption | exact hgetL (by assumption)) sz3 ag3 (by decide) (by simp [push_cast]) rfl ?_) <;> try simp only [push_cast, Nat.reduceAdd])
                 all_goals (refine AOps_cons rfl (AOp_bin_int _ _ _ _ rfl rfl rfl ?_) <;> try simp only [push_cast, Nat.reduceAdd])
                 all_goals refine AOps_cons rfl (AOp_move ?_)
                 all_goals (try simp only [push_cast, Nat.reduceAdd])
                 all_goals (try refine AOps_split 40 _ rfl (fun hg35 => ?_) (fun hg35 => ?_))
                 all_goals (try (exfalso; (first | (cases hg35; done) | (simp at hg35; done) | (simp at hg35; omega)); done))
                 all_goals (try simp only [decide_eq_true_eq, decide_eq_false_iff_not, Bool.not_eq_true', Bool.not_eq_false', Bool.not_eq_eq_eq_not, Bool.not_true, Bool.not_false] at hg35)
                 all_goals first
                  | refine AOps_skip rfl ?_
                  | (refine AOps_cons rfl ?_
                     refine AOp_move ?_)
                 all_goals (try simp only [push_cast, Nat.reduceAdd])
                 all_goals first
                  | refine AOps_skip rfl ?_
                  | (refine AOps_cons rfl ?_
                     refine AOp_bin_int _ _ _ _ rfl rfl rfl ?_)
                 all_goals (try simp only [push_cast, Nat.reduceAdd])
                 all_goals refine AOps_cons rfl (AOp_pick _ rfl ?_)
                 all_goals refine AOps_cons rfl (AOp_move ?_)
                 all_goals (try simp only [push_cast, Nat.reduceAdd])
                 all_goals (try refine AOps_split 44 _ rfl (fun hg36 => ?_) (fun hg36 => ?_))
                 all_goals (try (exfalso; (first | (cases hg36; done) | (simp at hg36; done) | (simp at hg36; omega)); done))
                 all_goals (try simp only [decide_eq_true_eq, decide_eq_false_iff_not, Bool.not_eq_true', Bool.not_eq_false', Bool.not_eq_eq_eq_not, Bool.not_true, Bool.not_false] at hg36)
                 all_goals first
                  | refine AOps_skip rfl ?_
                  | (refine AOps_cons rfl ?_
                     refine AOp_load_ptr _ _ _ _ rfl (by first | exact hget0 | exact hgetN _ rfl | assumption | exact hgetL (by assumption)) sz65 ag65 (by simp [push_cast]) ?_)
                 all_goals (try simp only [push_cast, Nat.reduceAdd])
                 all_goals first
                  | refine AOps_skip rfl ?_
                  | (refine AOps_cons rfl ?_
                     refine AOp_load_ptr _ _ _ _ rfl (by first | exact hget0 | exact hgetN _ rfl | assumption | exact hgetL (by assumption)) sz65 ag65 (by simp [push_cast]) ?_)
                 all_goals (try simp only [push_cast, Nat.reduceAdd])
                 all_goals first
                  | refine AOps_skip rfl ?_
                  | (refine AOps_cons rfl ?_
                     refine AOp_neq_law symEq ss[i] ss[j] rfl rfl ?_)
                 all_goals (try simp only [push_cast, Nat.reduceAdd])
                 all_goals refine AOps_cons rfl (AOp_pick _ rfl ?_)
                 all_goals refine AOps_cons rfl (AOp_move ?_)
                 all_goals (try simp only [push_cast, Nat.reduceAdd])
                 all_goals (try refine AOps_split 49 _ rfl (fun hg37 => ?_) (fun hg37 => ?_))
                 all_goals (try (exfalso; (first | (cases hg37; done) | (simp at hg37; done) | (simp at hg37; omega)); done))
                 all_goals (try simp only [decide_eq_true_eq, decide_eq_false_iff_not, Bool.not_eq_true', Bool.not_eq_false', Bool.not_eq_eq_eq_not, Bool.not_true, Bool.not_false] at hg37)
                 all_goals first
                  | refine AOps_skip rfl ?_
                  | (refine AOps_cons rfl ?_
                     refine AOp_move ?_)
                 all_goals (try simp only [push_cast, Nat.reduceAdd])
                 all_goals first
                  | refine AOps_skip rfl ?_
                  | (refine AOps_cons rfl ?_
                     refine AOp_fieldAddr_ptr _ _ _ _ rfl fd65_0 (by decide) ?_)
                 all_goals (try simp only [push_cast, Nat.reduceAdd])
                 all_goals first
                  | refine AOps_skip rfl ?_
                  | (refine AOps_cons rfl ?_
                     refine AOp_load1_ptr _ _ _ _ _ rfl (by first | exact hget0 | exact hgetN _ rfl | assumption | exact hgetL (by assumption)) sz9 ag9 (by decide) (by simp [push_cast]) rfl ?_)
                 all_goals (try simp only [push_cast, Nat.reduceAdd])
                 all_goals first
                  | refine AOps_skip rfl ?_
                  | (refine AOps_cons rfl ?_
                     refine AOp_fieldAddr_ptr _ _ _ _ rfl fd65_0 (by decide) ?_)
                 all_goals (try simp only [push_cast, Nat.reduceAdd])
                 all_goals first
                  | refine AOps_skip rfl ?_
                  | (refine AOps_cons rfl ?_
                     refine AOp_load1_ptr _ _ _ _ _ rfl (by first | exact hget0 | exact hgetN _ rfl | assumption | exact hgetL (by assumption)) sz9 ag9 (by decide) (by simp [push_cast]) rfl ?_)
                 all_goals (try simp only [push_cast, Nat.reduceAdd])
                 all_goals first
                  | refine AOps_skip rfl ?_
                  | (refine AOps_cons rfl ?_
                     refine AOp_call _ _ _ rfl rfl ok33 ?_
                     (try simp only [push_cast, Nat.reduceAdd])
                     refine (aboveR_ac l ss[i].name ss[j].name hlen _).mono ?_
                     rintro r H' ⟨rfl, rfl⟩)
                 all_goals (try simp only [push_cast, Nat.reduceAdd])
                 all_goals first
                  | refine AOps_skip rfl ?_
                  | (refine AOps_cons rfl ?_
                     refine AOp_not _ rfl ?_)
                 all_goals (try simp only [push_cast, Nat.reduceAdd])
                 all_goals (refine AOps_cons rfl (AOp_pick _ rfl ?_) <;> try simp only [push_cast, Nat.reduceAdd])
                 all_goals refine AOps_nil ?_
                 all_goals
                  refine thenK_normal (hK34 _ ?_)
                  try clear hK34
                  apply AW_cond
                  case' hc => exact rfl
                  case' hf =>
                   intro hc38
                   try (exfalso; (first | (cases hc38; done) | (simp at hc38; done) | (simp at hc38; omega)); done)
                   all_goals (try simp only [decide_eq_true_eq, decide_eq_false_iff_not, Bool.not_eq_true', Bool.not_eq_false', Bool.not_eq_eq_eq_not, Bool.not_true, Bool.not_false] at hc38)
                   all_goals
                    refine AW_skip ?_
                    refine blockK_normal ?_
                    refine thenK_normal (hK32 _ ?_)
                    try clear hK32
                    refine AW_region ?_
                    all_goals refine AOps_cons rfl (AOp_bin_int _ _ _ _ rfl rfl rfl ?_)
                    all_goals (try simp only [push_cast, Nat.reduceAdd])
                    all_goals (try rw [IntWalk.i64_in _ (by omega)])
                    all_goals (try simp only [push_cast, Nat.reduceAdd])
                    all_goals (refine AOps_cons rfl (AOp_move ?_) <;> try simp only [push_cast, Nat.reduceAdd])
                    all_goals refine AOps_nil ?_
                    all_goals
                     refine loopK_normal ?_
                     refine ⟨j + 1, ⟨by omega, all_take_true hj.2 (by omega) ?_⟩, by (simp only [push_cast, Nat.reduceAdd]; refine weak_app 1 ?_ (by simp) (by simp [push_cast]); (repeat (first | exact SlotsOk.nil | refine SlotsOk.junk ?_ | refine SlotsOk.same (by first | (simp [push_cast]; done) | (simp [push_cast, Scoped, ScopedL, *]; done)) ?_ | refine SlotsOk.tok (by first | rfl | (simp; done)) (by first | (simp [push_cast]; done) | (simp [push_cast, Scoped, ScopedL, *]; done)) ?_ | refine SlotsOk.eq (by first | rfl | (congr 1; omega) | (simp; done) | (simp; omega)) (by first | (simp [push_cast]; done) | (simp [push_cast, Scoped, ScopedL, *]; done)) ?_))), by omega⟩
                     unfold fitsRy
                     rw [← hw]
                     first
                       | (have a : ¬ ss[i].arity = 1 := (by assumption); simp [a]; done)
                       | (have a : ¬ (entryP l ss[i].name).weight = 0 := (by assumption); simp [a]; done)
                       | (have a : ss[i] = ss[j] := (by assumption); simp [a]; done)
                       | (have a : (ofP l (ss[j]'(by omega)).name).rank < (ofP l ss[i].name).rank := (by assumption); simp [a]; done)
                       | fail "rend1"
                  case' ht =>
                   intro hc38
                   try (exfalso; (first | (cases hc38; done) | (simp at hc38; done) | (simp at hc38; omega)); done)
                   all_goals (try simp only [decide_eq_true_eq, decide_eq_false_iff_not, Bool.not_eq_true', Bool.not_eq_false', Bool.not_eq_eq_eq_not, Bool.not_true, Bool.not_false] at hc38)
                   all_goals
                    refine AW_seq_k (fun K39 hK39 => ?_)
                    refine AW_region ?_
                    all_goals (refine AOps_cons rfl (AOp_assign ?_) <;> try simp only [push_cast, Nat.reduceAdd])
                    all_goals refine AOps_nil ?_
                    all_goals
                     refine thenK_normal (hK39 _ ?_)
                     try clear hK39
                     refine AW_ret ?_
                     repeat (first | refine thenK_ret ?_ | refine loopK_ret ?_ | refine blockK_ret ?_)
                     refine ⟨by first | exact .inl rfl | exact .inr rfl, _, rfl, (by first | exact outok_app 0 rfl (Nat.zero_le _) (by simp) | exact outok_self), by simp [push_cast], ?_⟩
                     simp only [push_cast, Nat.reduceAdd]
                     unfold fitsR
                     first
                       | (have hall : ss.take i = ss := List.take_of_length_le (by omega)
                          rw [hall] at hi
                          rw [hi.2]; simp; done)
                       | (have hil : i < ss.length := (by omega)
                          have ha : ss[i].arity = 0 := (by assumption)
                          have hw : (entryP l ss[i].name).weight < unit := (by assumption)
                          rw [hew] at hw
                          have hf : fitsRx l unit ss ss[i] = false := (by unfold fitsRx; simp [ha, hw])
                          rw [all_get hil hf]; simp; done)
                       | (have hjl : j < ss.length := (by omega)
                          have a1 : ss[i].arity = 1 := (by assumption)
                          have a2 : (entryP l ss[i].name).weight = 0 := (by assumption)
                          have a3 : ¬ ss[i] = ss[j] := (by assumption)
                          have a4 : ¬ (ofP l ss[j].name).rank < (ofP l ss[i].name).rank := (by assumption)
                          rw [hw] at a2
                          have hq : fitsRy l ss[i] ss[j] = false := (by unfold fitsRy; simp [a1, a2, a3, a4])
                          have hf : fitsRx l unit ss ss[i] = false := (by unfold fitsRx; rw [all_get hjl hq]; simp)
                          rw [all_get hil hf]; simp; done)
                       | fail "ret"
          case' ht =>
           intro hc27
           try (exfalso; (first | (cases hc27; done) | (simp at hc27; done) | (simp at hc27; omega)); done)
           all_goals (try simp only [decide_eq_true_eq, decide_eq_false_iff_not, Bool.not_eq_true', Bool.not_eq_false', Bool.not_eq_eq_eq_not, Bool.not_true, Bool.not_false] at hc27)
           all_goals
            refine AW_seq_k (fun K40 hK40 => ?_)
            refine AW_region ?_
            all_goals (refine AOps_cons rfl (AOp_assign ?_) <;> try simp only [push_cast, Nat.reduceAdd])
            all_goals refine AOps_nil ?_
            all_goals
             refine thenK_normal (hK40 _ ?_)
             try clear hK40
             refine AW_ret ?_
             repeat (first | refine thenK_ret ?_ | refine loopK_ret ?_ | refine blockK_ret ?_)
             refine ⟨by first | exact .inl rfl | exact .inr rfl, _, rfl, (by first | exact outok_app 0 rfl (Nat.zero_le _) (by simp) | exact outok_self), by simp [push_cast], ?_⟩
             simp only [push_cast, Nat.reduceAdd]
             unfold fitsR
             first
               | (have hall : ss.take i = ss := List.take_of_length_le (by omega)
                  rw [hall] at hi
                  rw [hi.2]; simp; done)
               | (have hil : i < ss.length := (by omega)
                  have ha : ss[i].arity = 0 := (by assumption)
                  have hw : (entryP l ss[i].name).weight < unit := (by assumption)
                  rw [hew] at hw
                  have hf : fitsRx l unit ss ss[i] = false := (by unfold fitsRx; simp [ha, hw])
                  rw [all_get hil hf]; simp; done)
               | (have hjl : j < ss.length := (by omega)
                  have a1 : ss[i].arity = 1 := (by assumption)
                  have a2 : (entryP l ss[i].name).weight = 0 := (by assumption)
                  have a3 : ¬ ss[i] = ss[j] := (by assumption)
                  have a4 : ¬ (ofP l ss[j].name).rank < (ofP l ss[i].name).rank := (by assumption)
                  rw [hw] at a2
                  have hq : fitsRy l ss[i] ss[j] = false := (by unfold fitsRy; simp [a1, a2, a3, a4])
                  have hf : fitsRx l unit ss ss[i] = false := (by unfold fitsRx; rw [all_get hjl hq]; simp)
                  rw [all_get hil hf]; simp; done)
               | fail "ret"
end Ab
