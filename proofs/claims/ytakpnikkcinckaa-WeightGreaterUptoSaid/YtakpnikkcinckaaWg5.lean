/- Part 5 of 6 of a proof. What is proved: the law WeightGreater returns true and leaves its arguments as they were, for every input of bulk at most 1048576. -/
import Derived.Test.YtakpnikkcinckaaWg4
set_option linter.unusedVariables false
set_option linter.unusedSimpArgs false
/- The reference's sorted names. -/
set_option maxRecDepth 10000
namespace Ab
open Go Go.Proofs
attribute [local push_cast] encT encR scoped_encR
@[reducible] def encN (l : List (List UInt8)) : List AV := encL AV.str l
theorem uni_encN (l : List (List UInt8)) : Uni 1 (encN l) := uni_encL (enc := AV.str) (k := 1) (fun _ => rfl) l
theorem scoped_encN (n : Nat) (l : List (List UInt8)) : ScopedL n (encN l) := scoped_encL (fun x => by simp [Scoped]) l
theorem cell_encN (l : List (List UInt8)) : ∀ c, c ∈ flat (encN l) → c.isCell = true := by
  intro c hc
  unfold flat at hc
  rw [List.mem_flatMap] at hc
  obtain ⟨a, ha, hc⟩ := hc
  simp [encN, encL] at ha
  obtain ⟨t, _, rfl⟩ := ha
  simp [AV.cells] at hc
  subst hc; rfl
theorem strip_encN (n : Nat) (l : List (List UInt8)) : stripL n (encN l) = encN l := by rw [stripL_eq]; simp [encN, encL, strip]
theorem encL_append {α : Type} (enc : α → AV) (xs ys : List α) : encL enc (xs ++ ys) = encL enc xs ++ encL enc ys := by simp [encL]
theorem encL_take {α : Type} (enc : α → AV) (xs : List α) (i : Nat) : (encL enc xs).take i = encL enc (xs.take i) := by simp [encL]
theorem encL_drop {α : Type} (enc : α → AV) (xs : List α) (i : Nat) : (encL enc xs).drop i = encL enc (xs.drop i) := by simp [encL]
theorem encN_snoc (l : List (List UInt8)) (s : List UInt8) : encN l ++ [.str s] = encN (l ++ [s]) := by simp [encN, encL]
theorem insAt_eq (l : List (List UInt8)) (s : List UInt8) (i : Nat) (hi : i ≤ l.length) (h1 : ∀ j (h : j < l.length), j < i → Lib.compareBytes l[j] s < 0) (h2 : ∀ h : i < l.length, ¬ Lib.compareBytes l[i] s < 0) : insAt l s = i := by
  induction l generalizing i with
  | nil => simp at hi; simp [insAt, hi]
  | cons x l ih =>
    cases i with
    | zero =>
      have := h2 (by simp)
      simp only [List.getElem_cons_zero] at this
      simp [insAt, this]
    | succ i =>
      have h3 := h1 0 (by simp) (by omega)
      simp only [List.getElem_cons_zero] at h3
      have := ih i (by simpa using hi) (fun j h hj => by have := h1 (j + 1) (by simp; omega) (by omega); simpa only [List.getElem_cons_succ] using this) (fun h => by have := h2 (by simp; omega); simpa only [List.getElem_cons_succ] using this)
      unfold insAt at this ⊢
      simp [h3, this]
set_option maxHeartbeats 1600000 in
theorem insertR_ac (l : List (List UInt8)) (s : List UInt8) (hlen : l.length < 1099511627776) (hnl : ∀ x, x ∈ l → x.length < 1099511627776) (hs : s.length < 1099511627776) (H : List AObj) :
    ACall Try.prog 88 [.sl .none (encN l), .str s] H (fun r H' => r = .sl .none (encN (insertP l s)) ∧ H' = H) := by
  refine ACall.weakR (R := fun r H' => Forget r (.sl .none (encN (insertP l s))) ∧ H' = H) ?_ (fun r H' h => ⟨_, h.1, rfl, h.2⟩)
  have hsl : ∀ n, ScopedL n (encN l) := fun n => scoped_encN n l
  have hu : ∀ l, Uni 1 (encN l) := uni_encN
  refine ACall_intro (H.length) Try.func88 rfl ?_
  simp only [Try.ntmps88, List.length_cons, List.length_nil, List.replicate, List.cons_append, List.nil_append, Nat.reduceAdd, Nat.reduceSub, Nat.zero_add]
  refine AW_seq_k (fun K1 hK1 => ?_)
  refine AW_region ?_
  all_goals (refine AOps_cons rfl (AOp_assign ?_) <;> try simp only [push_cast, Nat.reduceAdd])
  all_goals refine AOps_nil ?_
  all_goals
   refine thenK_normal (hK1 _ ?_)
   try clear hK1
   refine AW_seq_k (fun K2 hK2 => ?_)
   refine AW_region ?_
   all_goals (refine AOps_cons rfl (AOp_assign ?_) <;> try simp only [push_cast, Nat.reduceAdd])
   all_goals refine AOps_nil ?_
   all_goals
    refine thenK_normal (hK2 _ ?_)
    try clear hK2
    refine AW_seq_k (fun K3 hK3 => ?_)
    refine AW_block ?_
    refine AW_loopR (maskG 46 [0, 0, 3]) (fun (i : Nat) => [(5, .int .i64 i)]) (fun _ => _) (fun i => i ≤ l.length ∧ ∀ j (h : j < l.length), j < i → Lib.compareBytes l[j] s < 0) (fun i => l.length - i) 0 ⟨Nat.zero_le _, fun j h1 h => by omega⟩ (by (simp only [push_cast, Nat.reduceAdd]; (first | refine weak_app0 ?_ | refine weak_same ?_); (repeat (first | exact SlotsOk.nil | refine SlotsOk.junk ?_ | refine SlotsOk.same (by first | (simp [push_cast]; done) | (simp [push_cast, Scoped, ScopedL, *]; done)) ?_ | refine SlotsOk.tok (by first | rfl | (simp; done)) (by first | (simp [push_cast]; done) | (simp [push_cast, Scoped, ScopedL, *]; done)) ?_ | refine SlotsOk.eq (by first | rfl | (congr 1; omega) | (simp; done) | (simp; omega)) (by first | (simp [push_cast]; done) | (simp [push_cast, Scoped, ScopedL, *]; done)) ?_)))) (fun i hi => ?_)
    (try simp only [push_cast, Nat.reduceAdd])
    refine AW_seq_k (fun K4 hK4 => ?_)
    refine AW_seq_k (fun K5 hK5 => ?_)
    refine AW_region ?_
    all_goals refine AOps_cons rfl (AOp_move ?_)
    all_goals refine AOps_cons rfl (AOp_move ?_)
    all_goals (try simp only [push_cast, Nat.reduceAdd])
    all_goals (refine AOps_cons rfl (AOp_len_sl _ _ _ rfl sl90 ?_) <;> try simp only [push_cast, Nat.reduceAdd])
    all_goals (refine AOps_cons rfl (AOp_bin_int _ _ _ _ rfl rfl rfl ?_) <;> try simp only [push_cast, Nat.reduceAdd])
    all_goals refine AOps_cons rfl (AOp_move ?_)
    all_goals (try simp only [push_cast, Nat.reduceAdd])
    all_goals (try refine AOps_split 10 _ rfl (fun hg6 => ?_) (fun hg6 => ?_))
    all_goals (try (exfalso; (first | (cases hg6; done) | (simp at hg6; done) | (simp at hg6; omega)); done))
    all_goals (try simp only [decide_eq_true_eq, decide_eq_false_iff_not, Bool.not_eq_true', Bool.not_eq_false', Bool.not_eq_eq_eq_not, Bool.not_true, Bool.not_false] at hg6)
    all_goals first
     | refine AOps_skip rfl ?_
     | (refine AOps_cons rfl ?_
        refine AOp_move ?_)
    all_goals (try simp only [push_cast, Nat.reduceAdd])
    all_goals first
     | refine AOps_skip rfl ?_
     | (refine AOps_cons rfl ?_
        refine AOp_move ?_)
    all_goals (try simp only [push_cast, Nat.reduceAdd])
    all_goals first
     | refine AOps_skip rfl ?_
     | (refine AOps_cons rfl ?_
        refine AOp_indexAddr_sl 9 _ _ _ _ _ rfl rfl sl90 sz9 (by decide) (by exact uni_encN _) (by first | omega | (simp; omega)) (by first | omega | (simp [push_cast]; omega) | (simp [push_cast]; done)) ?_)
    all_goals (try simp only [push_cast, Nat.reduceAdd])
    all_goals first
     | refine AOps_skip rfl ?_
     | (refine AOps_cons rfl ?_
        refine AOp_load1_cptr _ _ _ rfl sz9 ag9 rfl ?_)
    all_goals (try simp only [push_cast, Nat.reduceAdd])
    all_goals first
     | refine AOps_skip rfl ?_
     | (refine AOps_cons rfl ?_
        refine AOp_move ?_)
    all_goals (try simp only [push_cast, Nat.reduceAdd])
    all_goals first
     | refine AOps_skip rfl ?_
     | (refine AOps_cons rfl ?_
        refine AOp_call _ _ _ rfl rfl ok37 ?_
        (try simp only [push_cast, Nat.reduceAdd])
        refine (cmpNames_ac _ s (hnl _ (by simp)) hs _).mono ?_
        rintro r H ⟨rfl, rfl⟩)
    all_goals (try simp only [push_cast, Nat.reduceAdd])
    all_goals first
     | refine AOps_skip rfl ?_
     | (refine AOps_cons rfl ?_
        refine AOp_bin_int _ _ _ _ rfl rfl rfl ?_)
    all_goals (try simp only [push_cast, Nat.reduceAdd])
    all_goals (refine AOps_cons rfl (AOp_pick _ rfl ?_) <;> try simp only [push_cast, Nat.reduceAdd])
    all_goals refine AOps_nil ?_
    all_goals
     refine thenK_normal (hK5 _ ?_)
     try clear hK5
     apply AW_cond
     case' hc => exact rfl
     case' hf =>
      intro hc7
      try (exfalso; (first | (cases hc7; done) | (simp at hc7; done) | (simp at hc7; omega)); done)
      all_goals (try simp only [decide_eq_true_eq, decide_eq_false_iff_not, Bool.not_eq_true', Bool.not_eq_false', Bool.not_eq_eq_eq_not, Bool.not_true, Bool.not_false] at hc7)
      all_goals
       refine AW_exit ?_
       repeat (first | refine thenK_exit ?_ | refine loopK_exit ?_ | refine blockK_other (by decide) ?_)
       refine blockK_same ?_
       refine thenK_normal (hK3 _ ?_)
       try clear hK3
       refine AW_seq_k (fun K8 hK8 => ?_)
       refine AW_seq_k (fun K9 hK9 => ?_)
       refine AW_region ?_
       all_goals refine AOps_cons rfl (AOp_move ?_)
       all_goals refine AOps_cons rfl (AOp_move ?_)
       all_goals (try simp only [push_cast, Nat.reduceAdd])
       all_goals (refine AOps_cons rfl (AOp_len_sl _ _ _ rfl sl90 ?_) <;> try simp only [push_cast, Nat.reduceAdd])
       all_goals (refine AOps_cons rfl (AOp_bin_int _ _ _ _ rfl rfl rfl ?_) <;> try simp only [push_cast, Nat.reduceAdd])
       all_goals refine AOps_cons rfl (AOp_move ?_)
       all_goals (try simp only [push_cast, Nat.reduceAdd])
       all_goals (try refine AOps_split 25 _ rfl (fun hg10 => ?_) (fun hg10 => ?_))
       all_goals (try (exfalso; (first | (cases hg10; done) | (simp at hg10; done) | (simp at hg10; omega)); done))
       all_goals (try simp only [decide_eq_true_eq, decide_eq_false_iff_not, Bool.not_eq_true', Bool.not_eq_false', Bool.not_eq_eq_eq_not, Bool.not_true, Bool.not_false] at hg10)
       all_goals first
        | refine AOps_skip rfl ?_
        | (refine AOps_cons rfl ?_
           refine AOp_move ?_)
       all_goals (try simp only [push_cast, Nat.reduceAdd])
       all_goals first
        | refine AOps_skip rfl ?_
        | (refine AOps_cons rfl ?_
           refine AOp_move ?_)
       all_goals (try simp only [push_cast, Nat.reduceAdd])
       all_goals first
        | refine AOps_skip rfl ?_
        | (refine AOps_cons rfl ?_
           refine AOp_indexAddr_sl 9 _ _ _ _ _ rfl rfl sl90 sz9 (by decide) (by exact uni_encN _) (by first | omega | (simp; omega)) (by first | omega | (simp [push_cast]; omega) | (simp [push_cast]; done)) ?_)
       all_goals (try simp only [push_cast, Nat.reduceAdd])
       all_goals first
        | refine AOps_skip rfl ?_
        | (refine AOps_cons rfl ?_
           refine AOp_load1_cptr _ _ _ rfl sz9 ag9 rfl ?_)
       all_goals (try simp only [push_cast, Nat.reduceAdd])
       all_goals first
        | refine AOps_skip rfl ?_
        | (refine AOps_cons rfl ?_
           refine AOp_move ?_)
       all_goals (try simp only [push_cast, Nat.reduceAdd])
       all_goals first
        | refine AOps_skip rfl ?_
        | (refine AOps_cons rfl ?_
           refine AOp_bin_str _ _ _ rfl rfl rfl ?_)
       all_goals (try simp only [push_cast, Nat.reduceAdd])
       all_goals (refine AOps_cons rfl (AOp_pick _ rfl ?_) <;> try simp only [push_cast, Nat.reduceAdd])
       all_goals refine AOps_nil ?_
       all_goals
        refine thenK_normal (hK9 _ ?_)
        try clear hK9
        apply AW_cond
        case' hc => exact rfl
        case' hf =>
         intro hc11
         try (exfalso; (first | (cases hc11; done) | (simp at hc11; done) | (simp at hc11; omega)); done)
         all_goals (try simp only [decide_eq_true_eq, decide_eq_false_iff_not, Bool.not_eq_true', Bool.not_eq_false', Bool.not_eq_eq_eq_not, Bool.not_true, Bool.not_false] at hc11)
         all_goals
          refine AW_skip ?_
          refine thenK_normal (hK8 _ ?_)
          try clear hK8
          refine AW_seq_k (fun K12 hK12 => ?_)
          refine AW_reserve 1 ?_
          simp only [push_cast, List.replicate, Nat.reduceAdd]
          all_goals
            apply AW_drawE [some 34, some 35, some 36, some 37, some 38, some 39, some 40, some 41, some 42, some 43, some 44, some 45, some 4] [([false, false, false], _), ([true, false, false], _), ([true, true, false], _), ([true, true, true], _)] [none, none, none, none, some 0, none, none, some 1, none, none, none, some 2, none] 3 [(0, [false, false, false], []), (1, [false, false, false], [0]), (2, [false, false, false], [5]), (3, [false, false, false], [35, 0]), (4, [false, false, false], [34, 2]), (5, [true, false, false], [1]), (6, [true, false, false], [39]), (7, [true, false, false], [38, 1]), (8, [true, true, false], [0]), (9, [true, true, false], [5]), (10, [true, true, false], [42, 0]), (11, [true, true, false], [41, 2]), (12, [true, true, true], [45]), (1, [true, false, false], [0]), (1, [true, true, false], [0]), (1, [true, true, true], [0]), (2, [true, false, false], [5]), (2, [true, true, false], [5]), (2, [true, true, true], [5]), (5, [false, false, false], [1]), (5, [true, true, false], [1]), (5, [true, true, true], [1]), (6, [false, false, false], [39]), (8, [false, false, false], [0]), (8, [true, false, false], [0]), (8, [true, true, true], [0]), (9, [false, false, false], [5]), (9, [true, false, false], [5]), (9, [true, true, true], [5]), (10, [false, false, false], [42, 0]), (10, [true, false, false], [42, 0])] [_, _, _, _, _, _, _, _, _, _, _, _, _]
            case' hm => exact dr
            case' hn => rfl
            case' hok => rfl
            case' hlen => rfl
            case' hd => rfl
            case' h0 => rfl
            case' hstep =>
             simp only [DAllG, keepG, List.map_cons, List.map_nil, putD, stg, beqB, List.set_cons_zero, List.set_cons_succ, List.getD_cons_zero, List.getD_cons_succ, Option.isSome_some, Option.isSome_none]
             apply And.intro
             · apply DOne_do
               case' ho => rfl
               case' hw => rfl
               refine AOp_buildSlice0 sl90 sz9 rfl ?_
               all_goals (try simp only [push_cast, Nat.reduceAdd])
               all_goals (constructor <;> first | rfl | trivial)
             apply And.intro
             · apply DOne_do
               case' ho => rfl
               case' hw => rfl
               refine AOp_move ?_
               all_goals (try simp only [push_cast, Nat.reduceAdd])
               all_goals (constructor <;> first | rfl | trivial)
             apply And.intro
             · apply DOne_do
               case' ho => rfl
               case' hw => rfl
               refine AOp_move ?_
               all_goals (try simp only [push_cast, Nat.reduceAdd])
               all_goals (constructor <;> first | rfl | trivial)
             apply And.intro
             · apply DOne_do
               case' ho => rfl
               case' hw => rfl
               refine AOp_slice_sl _ _ 0 i rfl sl90 sz9 (hu _) (.inl ⟨rfl, rfl⟩) (.inr ⟨_, .i64, rfl, rfl⟩) (by omega) (by rw [encL_length]; omega) ?_
               simp only [List.drop_zero, Nat.sub_zero, encL_take]
               all_goals (try simp only [push_cast, Nat.reduceAdd])
               all_goals (constructor <;> first | rfl | trivial)
             apply And.intro
             · apply DOne_do
               case' ho => rfl
               case' hw => rfl
               refine AOp_append_G _ (H.length) ([]) (encN (l.take i)) _ rfl rfl (by first | exact hget0 | exact hgetN _ rfl | assumption | exact hgetL (by assumption)) sl90 sz9 by9 zr9 rfl (by decide) (by simp [Uni]) (by exact hu _) (by exact cell_encN _) (by simp only [encL_length, List.length_take, List.length_drop, List.length_cons, List.length_nil, List.length_append]; omega) (by simp only [encL_length, List.length_take, List.length_drop, List.length_cons, List.length_nil, List.length_append]; omega) ?_
               all_goals (try simp only [push_cast, Nat.reduceAdd])
               all_goals (constructor <;> first | rfl | trivial)
             apply And.intro
             · apply DOne_do
               case' ho => rfl
               case' hw => rfl
               refine AOp_move ?_
               all_goals (try simp only [push_cast, Nat.reduceAdd])
               all_goals (constructor <;> first | rfl | trivial)
             apply And.intro
             · apply DOne_do
               case' ho => rfl
               case' hw => rfl
               refine AOp_buildRow _ [_] sl90 sz9 zr9 rfl rfl (by simp [AV.cells, AV.isCell, AV.isAgg, push_cast]) (by decide) rfl ?_
               all_goals (try simp only [push_cast, Nat.reduceAdd])
               all_goals (constructor <;> first | rfl | trivial)
             apply And.intro
             · apply DOne_do
               case' ho => rfl
               case' hw => rfl
               refine AOp_append_G _ (H.length) (encN (l.take i)) ([.str s]) _ rfl rfl (by first | exact hget0 | exact hgetN _ rfl | assumption | exact hgetL (by assumption)) sl90 sz9 by9 zr9 rfl (by decide) (by exact hu _) (by simp [Uni, AV.cells]) (by simp [flat, AV.cells, AV.isCell]) (by simp only [encL_length, List.length_take, List.length_drop, List.length_cons, List.length_nil, List.length_append]; omega) (by simp only [encL_length, List.length_take, List.length_drop, List.length_cons, List.length_nil, List.length_append]; omega) ?_
               all_goals (try simp only [push_cast, Nat.reduceAdd])
               all_goals (constructor <;> first | rfl | trivial)
             apply And.intro
             · apply DOne_do
               case' ho => rfl
               case' hw => rfl
               refine AOp_move ?_
               all_goals (try simp only [push_cast, Nat.reduceAdd])
               all_goals (constructor <;> first | rfl | trivial)
             apply And.intro
             · apply DOne_do
               case' ho => rfl
               case' hw => rfl
               refine AOp_move ?_
               all_goals (try simp only [push_cast, Nat.reduceAdd])
               all_goals (constructor <;> first | rfl | trivial)
             apply And.intro
             · apply DOne_do
               case' ho => rfl
               case' hw => rfl
               refine AOp_slice_sl _ _ i l.length rfl sl90 sz9 (hu _) (.inr ⟨_, .i64, rfl, rfl⟩) (.inl ⟨rfl, by rw [encL_length]⟩) (by omega) (by rw [encL_length]; omega) ?_
               rw [encL_drop, List.take_of_length_le (by rw [encL_length, List.length_drop]; omega)]
               all_goals (try simp only [push_cast, Nat.reduceAdd])
               all_goals (constructor <;> first | rfl | trivial)
             apply And.intro
             · apply DOne_do
               case' ho => rfl
               case' hw => rfl
               refine AOp_append_G _ (H.length) (encN (l.take i) ++ [.str s]) (encN (l.drop i)) _ rfl rfl (by first | exact hget0 | exact hgetN _ rfl | assumption | exact hgetL (by assumption)) sl90 sz9 by9 zr9 rfl (by decide) (by rw [encN_snoc]; exact hu _) (by exact hu _) (by exact cell_encN _) (by simp only [encL_length, List.length_take, List.length_drop, List.length_cons, List.length_nil, List.length_append]; omega) (by simp only [encL_length, List.length_take, List.length_drop, List.length_cons, List.length_nil, List.length_append]; omega) ?_
               all_goals (try simp only [push_cast, Nat.reduceAdd])
               all_goals (constructor <;> first | rfl | trivial)
             apply And.intro
             · apply DOne_do
               case' ho => rfl
               case' hw => rfl
               refine AOp_assign ?_
               all_goals (try simp only [push_cast, Nat.reduceAdd])
               all_goals (constructor <;> first | rfl | trivial)
             apply And.intro
             · apply DOne_do
               case' ho => rfl
               case' hw => rfl
               refine AOp_move ?_
               all_goals (try simp only [push_cast, Nat.reduceAdd])
               all_goals (constructor <;> first | rfl | trivial)
             apply And.intro
             · apply DOne_do
               case' ho => rfl
               case' hw => rfl
               refine AOp_move ?_
               all_goals (try simp only [push_cast, Nat.reduceAdd])
               all_goals (constructor <;> first | rfl | trivial)
             apply And.intro
             · apply DOne_do
               case' ho => rfl
               case' hw => rfl
               refine AOp_move ?_
               all_goals (try simp only [push_cast, Nat.reduceAdd])
               all_goals (constructor <;> first | rfl | trivial)
             apply And.intro
             · apply DOne_do
               case' ho => rfl
               case' hw => rfl
               refine AOp_move ?_
               all_goals (try simp only [push_cast, Nat.reduceAdd])
               all_goals (constructor <;> first | rfl | trivial)
             apply And.intro
             · apply DOne_do
               case' ho => rfl
               case' hw => rfl
               refine AOp_move ?_
               all_goals (try simp only [push_cast, Nat.reduceAdd])
               all_goals (constructor <;> first | rfl | trivial)
             apply And.intro
             · apply DOne_do
               case' ho => rfl
               case' hw => rfl
               refine AOp_move ?_
               all_goals (try simp only [push_cast, Nat.reduceAdd])
               all_goals (constructor <;> first | rfl | trivial)
             apply And.intro
             · apply DOne_do
               case' ho => rfl
               case' hw => rfl
               refine AOp_move ?_
               all_goals (try simp only [push_cast, Nat.reduceAdd])
               all_goals (constructor <;> first | rfl | trivial)
             apply And.intro
             · apply DOne_do
               case' ho => rfl
               case' hw => rfl
               refine AOp_move ?_
               all_goals (try simp only [push_cast, Nat.reduceAdd])
               all_goals (constructor <;> first | rfl | trivial)
             apply And.intro
             · apply DOne_do
               case' ho => rfl
               case' hw => rfl
               refine AOp_move ?_
               all_goals (try simp only [push_cast, Nat.reduceAdd])
               all_goals (constructor <;> first | rfl | trivial)
             apply And.intro
             · apply DOne_do
               case' ho => rfl
               case' hw => rfl
               refine AOp_buildRow _ [_] sl90 sz9 zr9 rfl rfl (by simp [AV.cells, AV.isCell, AV.isAgg, push_cast]) (by decide) rfl ?_
               all_goals (try simp only [push_cast, Nat.reduceAdd])
               all_goals (constructor <;> first | rfl | trivial)
             apply And.intro
             · apply DOne_do
               case' ho => rfl
               case' hw => rfl
               refine AOp_move ?_
               all_goals (try simp only [push_cast, Nat.reduceAdd])
               all_goals (constructor <;> first | rfl | trivial)
             apply And.intro
             · apply DOne_do
               case' ho => rfl
               case' hw => rfl
               refine AOp_move ?_
               all_goals (try simp only [push_cast, Nat.reduceAdd])
               all_goals (constructor <;> first | rfl | trivial)
             apply And.intro
             · apply DOne_do
               case' ho => rfl
               case' hw => rfl
               refine AOp_move ?_
               all_goals (try simp only [push_cast, Nat.reduceAdd])
               all_goals (constructor <;> first | rfl | trivial)
             apply And.intro
             · apply DOne_do
               case' ho => rfl
               case' hw => rfl
               refine AOp_move ?_
               all_goals (try simp only [push_cast, Nat.reduceAdd])
               all_goals (constructor <;> first | rfl | trivial)
             apply And.intro
             · apply DOne_do
               case' ho => rfl
               case' hw => rfl
               refine AOp_move ?_
               all_goals (try simp only [push_cast, Nat.reduceAdd])
               all_goals (constructor <;> first | rfl | trivial)
             apply And.intro
             · apply DOne_do
               case' ho => rfl
               case' hw => rfl
               refine AOp_move ?_
               all_goals (try simp only [push_cast, Nat.reduceAdd])
               all_goals (constructor <;> first | rfl | trivial)
             apply And.intro
             · apply DOne_do
               case' ho => rfl
               case' hw => rfl
               refine AOp_slice_sl _ _ i l.length rfl sl90 sz9 (hu _) (.inr ⟨_, .i64, rfl, rfl⟩) (.inl ⟨rfl, by rw [encL_length]⟩) (by omega) (by rw [encL_length]; omega) ?_
               rw [encL_drop, List.take_of_length_le (by rw [encL_length, List.length_drop]; omega)]
               all_goals (try simp only [push_cast, Nat.reduceAdd])
               all_goals (constructor <;> first | rfl | trivial)
             apply And.intro
             · apply DOne_do
               case' ho => rfl
               case' hw => rfl
               refine AOp_slice_sl _ _ i l.length rfl sl90 sz9 (hu _) (.inr ⟨_, .i64, rfl, rfl⟩) (.inl ⟨rfl, by rw [encL_length]⟩) (by omega) (by rw [encL_length]; omega) ?_
               rw [encL_drop, List.take_of_length_le (by rw [encL_length, List.length_drop]; omega)]
               all_goals (try simp only [push_cast, Nat.reduceAdd])
               all_goals (constructor <;> first | rfl | trivial)
             exact trivial
            case' hQ => skip
            (try simp only [push_cast, putD, stg, beqB, List.replicate, Nat.reduceAdd, List.getD_cons_zero, List.getD_cons_succ])
          all_goals
           refine thenK_normal (hK12 _ ?_)
           try clear hK12
           refine AW_ret ?_
           repeat (first | refine thenK_ret ?_ | refine loopK_ret ?_ | refine blockK_ret ?_)
           have hia : insAt l s = i := insAt_eq l s i hi.1 hi.2 (fun h => by first | assumption | (exfalso; omega))
           have hI : insertP l s = l.take i ++ [s] ++ l.drop i := by
             unfold insertP; rw [hia, if_neg]
             intro hq
             have hlt := (List.getElem?_eq_some_iff.1 hq).1
             have := (List.getElem?_eq_some_iff.1 hq).2
             first | contradiction | omega
           have hform : encN (l.take i) ++ AV.str s :: encN (l.drop i) = encN (insertP l s) := by rw [hI]; simp [encN, encL]
           simp only [hform]
           refine ⟨by simp, _, rfl, outok_app 0 rfl (Nat.zero_le _) (by simp), scoped_gSl_strip (Nat.le_refl _) ?_, ?_⟩
           · rw [strip_encN]; exact scoped_encN _ _
           simp only [push_cast, Nat.reduceAdd]
           refine ⟨?_, by simp⟩
           have := gSl_strip (Nat.le_refl H.length) (encN (insertP l s))
           rw [strip_encN] at this
           exact this
        case' ht =>
         intro hc11
         try (exfalso; (first | (cases hc11; done) | (simp at hc11; done) | (simp at hc11; omega)); done)
         all_goals (try simp only [decide_eq_true_eq, decide_eq_false_iff_not, Bool.not_eq_true', Bool.not_eq_false', Bool.not_eq_eq_eq_not, Bool.not_true, Bool.not_false] at hc11)
         all_goals
          refine AW_seq_k (fun K13 hK13 => ?_)
          refine AW_region ?_
          all_goals refine AOps_cons rfl (AOp_move ?_)
          all_goals (refine AOps_cons rfl (AOp_assign ?_) <;> try simp only [push_cast, Nat.reduceAdd])
          all_goals refine AOps_nil ?_
          all_goals
           refine thenK_normal (hK13 _ ?_)
           try clear hK13
           refine AW_ret ?_
           repeat (first | refine thenK_ret ?_ | refine loopK_ret ?_ | refine blockK_ret ?_)
           have hia : insAt l s = i := insAt_eq l s i hi.1 hi.2 (fun h => by assumption)
           have he : l[i]'(by omega) = s := by assumption
           have hI : insertP l s = l := by unfold insertP; rw [hia, if_pos]; rw [List.getElem?_eq_getElem (show i < l.length by omega), he]
           rw [hI]
           refine ⟨.inr rfl, _, rfl, outok_self, by simp [push_cast, strip, scoped_encN, strip_encN], ?_⟩
           simp only [push_cast, Nat.reduceAdd, strip, stripTok, strip_encN]
           exact ⟨fun _ _ h => h, by simp⟩
     case' ht =>
      intro hc7
      try (exfalso; (first | (cases hc7; done) | (simp at hc7; done) | (simp at hc7; omega)); done)
      all_goals (try simp only [decide_eq_true_eq, decide_eq_false_iff_not, Bool.not_eq_true', Bool.not_eq_false', Bool.not_eq_eq_eq_not, Bool.not_true, Bool.not_false] at hc7)
      all_goals
       refine AW_skip ?_
       refine thenK_normal (hK4 _ ?_)
       try clear hK4
       refine AW_block ?_
       refine AW_region ?_
       all_goals refine AOps_cons rfl (AOp_move ?_)
       all_goals (try simp only [push_cast, Nat.reduceAdd])
       all_goals refine AOps_cons rfl (AOp_bin_int _ _ _ _ rfl rfl rfl ?_)
       all_goals (try simp only [push_cast, Nat.reduceAdd])
       all_goals (try rw [IntWalk.i64_in _ (by omega)])
       all_goals (try simp only [push_cast, Nat.reduceAdd])
       all_goals (refine AOps_cons rfl (AOp_assign ?_) <;> try simp only [push_cast, Nat.reduceAdd])
       all_goals refine AOps_nil ?_
       all_goals
        refine blockK_normal ?_
        refine loopK_normal ?_
        refine ⟨i + 1, ⟨by omega, fun j h1 h => ?_⟩, by (simp only [push_cast, Nat.reduceAdd]; (first | refine weak_app0 ?_ | refine weak_same ?_); (repeat (first | exact SlotsOk.nil | refine SlotsOk.junk ?_ | refine SlotsOk.same (by first | (simp [push_cast]; done) | (simp [push_cast, Scoped, ScopedL, *]; done)) ?_ | refine SlotsOk.tok (by first | rfl | (simp; done)) (by first | (simp [push_cast]; done) | (simp [push_cast, Scoped, ScopedL, *]; done)) ?_ | refine SlotsOk.eq (by first | rfl | (congr 1; omega) | (simp; done) | (simp; omega)) (by first | (simp [push_cast]; done) | (simp [push_cast, Scoped, ScopedL, *]; done)) ?_))), by omega⟩
        rcases Nat.lt_or_ge j i with hj | hj
        · exact hi.2 j h1 hj
        · have hji : j = i := by omega
          subst hji; assumption
end Ab
/- The reference's variables of terms; whether a term covers another one. -/
set_option maxRecDepth 10000
namespace Ab
open Go Go.Proofs
attribute [local push_cast] encT encR scoped_encR scoped_encN strip_encN
theorem count_len (v : List UInt8) (t : Term) : 0 < countP v t → v.length ≤ t.bulk := by
  refine Term.ind (p := fun t => 0 < countP v t → v.length ≤ t.bulk) (fun n u xs ih => ?_) t
  intro h
  rw [countP_mk] at h
  by_cases hn : u = true ∧ n = v
  · rw [Term.bulk_mk, hn.2]; omega
  · have h1 : oneP v n u = 0 := by simp [oneP, hn]
    have h2 : ∃ x, x ∈ xs ∧ 0 < countP v x := by
      have : ∀ ys : List Term, 0 < (ys.map (countP v)).sum → ∃ x, x ∈ ys ∧ 0 < countP v x := by
        intro ys
        induction ys with
        | nil => intro h; simp at h
        | cons y ys ih2 =>
          intro h
          by_cases hy : 0 < countP v y
          · exact ⟨y, by simp, hy⟩
          · obtain ⟨x, hx, hx2⟩ := ih2 (by simp at h; omega)
            exact ⟨x, by simp [hx], hx2⟩
      exact this xs (by omega)
    obtain ⟨x, hx, hx2⟩ := h2
    have := ih x hx hx2
    have := Term.arg_le (n := n) (v := u) hx
    omega
theorem collect_names {t : Term} {l : List (List UInt8)} (hb : t.bulk ≤ 1099511627775) (h : ∀ x, x ∈ l → x.length < 1099511627776) : ∀ x, x ∈ collectP t l → x.length < 1099511627776 := by
  intro x hx
  rcases (mem_collectP x t l).1 hx with h1 | h1
  · exact h x h1
  · have := count_len x t h1; omega
def foldC (xs : List Term) (l : List (List UInt8)) : List (List UInt8) := xs.foldl (fun l t => collectP t l) l
theorem foldC_take (xs : List Term) (l : List (List UInt8)) (i : Nat) (h : i < xs.length) : foldC (xs.take (i + 1)) l = collectP xs[i] (foldC (xs.take i) l) := by
  unfold foldC; rw [List.take_succ_eq_append_getElem h, List.foldl_append]; rfl
theorem foldC_names : ∀ (xs : List Term) (l : List (List UInt8)), (∀ x, x ∈ xs → x.bulk ≤ 1099511627775) → (∀ x, x ∈ l → x.length < 1099511627776) → ∀ x, x ∈ foldC xs l → x.length < 1099511627776
  | [], l, _, h => h
  | y :: ys, l, hb, h => foldC_names ys (collectP y l) (fun x hx => hb x (by simp [hx])) (collect_names (hb y (by simp)) h)
theorem foldC_length : ∀ (xs : List Term) (l : List (List UInt8)), (foldC xs l).length ≤ l.length + (xs.map Term.size).sum
  | [], l => by simp [foldC]
  | y :: ys, l => by
    have h1 := foldC_length ys (collectP y l)
    have h2 := collectP_length y l
    have : foldC (y :: ys) l = foldC ys (collectP y l) := rfl
    rw [this]; simp only [List.map_cons, List.sum_cons]; omega
theorem collectP_fold (n : List UInt8) (u : Bool) (xs : List Term) (l : List (List UInt8)) : collectP (.mk n u xs) l = foldC xs (if u then insertP l n else l) := by rw [collectP_mk]; rfl
theorem collectR_ac (t : Term) : ∀ l : List (List UInt8), t.bulk ≤ 1099511627775 → l.length + t.size ≤ 1099511627775 → (∀ x, x ∈ l → x.length < 1099511627776) → ∀ H, ACall Try.prog 76 [encT t, .sl .none (encN l)] H (fun r H' => r = .sl .none (encN (collectP t l)) ∧ H' = H) := by
  refine Term.ind (p := fun t => ∀ l : List (List UInt8), t.bulk ≤ 1099511627775 → l.length + t.size ≤ 1099511627775 → (∀ x, x ∈ l → x.length < 1099511627776) → ∀ H, ACall Try.prog 76 [encT t, .sl .none (encN l)] H (fun r H' => r = .sl .none (encN (collectP t l)) ∧ H' = H)) (fun n u xs ih => ?_) t
  intro l hb hl hnl H
  have hsz := (Term.mk n u xs).size_le
  have hl2 := Term.len_le (n := n) (v := u) (xs := xs)
  have hn2 := Term.name_le (n := n) (v := u) (xs := xs)
  rw [Term.size_mk] at hsz hl
  rw [collectP_fold]
  have hi0 := insertP_length l n
  obtain ⟨L0, hL0⟩ : ∃ L0, L0 = if u then insertP l n else l := ⟨_, rfl⟩
  have hL1 : L0.length ≤ l.length + 1 := by rw [hL0]; split <;> omega
  have hL2 : ∀ x, x ∈ L0 → x.length < 1099511627776 := by
    intro x hx
    rw [hL0] at hx
    split at hx
    · rcases (mem_insertP l n x).1 hx with h | h
      · exact hnl x h
      · subst h; omega
    · exact hnl x hx
  have hbk : ∀ x, x ∈ xs → x.bulk ≤ 1099511627775 := fun x hx => by have := Term.arg_le (n := n) (v := u) hx; omega
  rw [← hL0]
  simp only [encT, Term.name, Term.var, Term.args]
  refine ACall_intro (H.length) Try.func76 rfl ?_
  simp only [Try.ntmps76, List.length_cons, List.length_nil, List.replicate, List.cons_append, List.nil_append, Nat.reduceAdd, Nat.reduceSub, Nat.zero_add]
  refine AW_seq_k (fun K1 hK1 => ?_)
  refine AW_region ?_
  all_goals (refine AOps_cons rfl (AOp_box _ _ rfl rfl (by first | exact .inl rfl | exact .inr ⟨_, rfl⟩) (by simp [push_cast, AV.isCell]) ?_) <;> try simp only [push_cast, Nat.reduceAdd])
  all_goals (refine AOps_cons rfl (AOp_assign ?_) <;> try simp only [push_cast, Nat.reduceAdd])
  all_goals refine AOps_nil ?_
  all_goals
   refine thenK_normal (hK1 _ ?_)
   try clear hK1
   refine AW_seq_k (fun K2 hK2 => ?_)
   refine AW_seq_k (fun K3 hK3 => ?_)
   refine AW_region ?_
   all_goals (refine AOps_cons rfl (AOp_fieldAddr_ptr _ _ _ _ rfl fd27_1 (by decide) ?_) <;> try simp only [push_cast, Nat.reduceAdd])
   all_goals (refine AOps_cons rfl (AOp_load1_ptr _ _ _ _ _ rfl (by first | exact hget0 | exact hgetN _ rfl | assumption | exact hgetL (by assumption)) sz4 ag4 (by decide) (by simp [push_cast]) rfl ?_) <;> try simp only [push_cast, Nat.reduceAdd])
   all_goals refine AOps_nil ?_
   all_goals
    refine thenK_normal (hK3 _ ?_)
    try clear hK3
    apply AW_cond
    case' hc => exact rfl
    case' hf =>
     intro hc4
     try (exfalso; (first | (cases hc4; done) | (simp at hc4; done) | (simp at hc4; omega)); done)
     all_goals (try simp only [decide_eq_true_eq, decide_eq_false_iff_not, Bool.not_eq_true', Bool.not_eq_false', Bool.not_eq_eq_eq_not, Bool.not_true, Bool.not_false] at hc4)
     all_goals
      refine AW_skip ?_
    case' ht =>
     intro hc4
     try (exfalso; (first | (cases hc4; done) | (simp at hc4; done) | (simp at hc4; omega)); done)
     all_goals (try simp only [decide_eq_true_eq, decide_eq_false_iff_not, Bool.not_eq_true', Bool.not_eq_false', Bool.not_eq_eq_eq_not, Bool.not_true, Bool.not_false] at hc4)
     all_goals
      refine AW_region ?_
      all_goals refine AOps_cons rfl (AOp_move ?_)
      all_goals (try simp only [push_cast, Nat.reduceAdd])
      all_goals (refine AOps_cons rfl (AOp_fieldAddr_ptr _ _ _ _ rfl fd27_0 (by decide) ?_) <;> try simp only [push_cast, Nat.reduceAdd])
      all_goals (refine AOps_cons rfl (AOp_load1_ptr _ _ _ _ _ rfl (by first | exact hget0 | exact hgetN _ rfl | assumption | exact hgetL (by assumption)) sz9 ag9 (by decide) (by simp [push_cast]) rfl ?_) <;> try simp only [push_cast, Nat.reduceAdd])
      all_goals refine AOps_cons rfl (AOp_call _ _ _ rfl rfl ok88 ?_)
      all_goals (try simp only [push_cast, Nat.reduceAdd])
      all_goals refine (insertR_ac l n (by omega) hnl (by omega) _).mono ?_
      all_goals rintro r H' ⟨rfl, rfl⟩
      all_goals (try simp only [push_cast, Nat.reduceAdd])
      all_goals (refine AOps_cons rfl (AOp_assign ?_) <;> try simp only [push_cast, Nat.reduceAdd])
      all_goals refine AOps_nil ?_
    all_goals
     refine thenK_normal (hK2 _ ?_)
     try clear hK2
     refine AW_seq_k (fun K5 hK5 => ?_)
     refine AW_seq_k (fun K6 hK6 => ?_)
     refine AW_region ?_
     all_goals (refine AOps_cons rfl (AOp_fieldAddr_ptr _ _ _ _ rfl fd27_2 (by decide) ?_) <;> try simp only [push_cast, Nat.reduceAdd])
     all_goals (refine AOps_cons rfl (AOp_load1_ptr _ _ _ _ _ rfl (by first | exact hget0 | exact hgetN _ rfl | assumption | exact hgetL (by assumption)) sz25 ag25 (by decide) (by simp [push_cast]) rfl ?_) <;> try simp only [push_cast, Nat.reduceAdd])
     all_goals (refine AOps_cons rfl (AOp_len_sl _ _ _ rfl sl25 ?_) <;> try simp only [push_cast, Nat.reduceAdd])
     all_goals (refine AOps_cons rfl (AOp_move ?_) <;> try simp only [push_cast, Nat.reduceAdd])
     all_goals refine AOps_nil ?_
     all_goals
      refine thenK_normal (hK6 _ ?_)
      try clear hK6
      refine AW_block ?_
      first
        | (have hL3 : insertP l n = L0 := (by have a : u = true := (by assumption); simp [hL0, a]))
        | (have hL3 : l = L0 := (by have a : u = false := (by assumption); simp [hL0, a]))
      simp only [hL3]
      refine AW_loopR (maskG 25 [1, 12, 0, 0]) (fun (i : Nat) => [(16, .int .i64 i), (1, .sl .none (encN (foldC (xs.take i) L0)))]) (fun _ => _) (fun i => i ≤ xs.length) (fun i => xs.length - i) 0 (Nat.zero_le _) (by (simp only [push_cast, Nat.reduceAdd]; refine weak_app 1 ?_ (by simp) (by simp [push_cast]); (repeat (first | exact SlotsOk.nil | refine SlotsOk.junk ?_ | refine SlotsOk.same (by first | (simp [push_cast]; done) | (simp [push_cast, Scoped, ScopedL, *]; done)) ?_ | refine SlotsOk.tok (by first | rfl | (simp; done)) (by first | (simp [push_cast]; done) | (simp [push_cast, Scoped, ScopedL, *]; done)) ?_ | refine SlotsOk.eq (by first | rfl | (congr 1; omega) | (simp; done) | (simp; omega)) (by first | (simp [push_cast]; done) | (simp [push_cast, Scoped, ScopedL, *]; done)) ?_)))) (fun i hi => ?_)
      (try simp only [push_cast, Nat.reduceAdd])
      refine AW_seq_k (fun K7 hK7 => ?_)
      refine AW_region ?_
      all_goals (refine AOps_cons rfl (AOp_bin_int _ _ _ _ rfl rfl rfl ?_) <;> try simp only [push_cast, Nat.reduceAdd])
      all_goals refine AOps_nil ?_
      all_goals
       refine thenK_normal (hK7 _ ?_)
       try clear hK7
       refine AW_seq_k (fun K8 hK8 => ?_)
       apply AW_cond
       case' hc => exact rfl
       case' hf =>
        intro hc9
        try (exfalso; (first | (cases hc9; done) | (simp at hc9; done) | (simp at hc9; omega)); done)
        all_goals (try simp only [decide_eq_true_eq, decide_eq_false_iff_not, Bool.not_eq_true', Bool.not_eq_false', Bool.not_eq_eq_eq_not, Bool.not_true, Bool.not_false] at hc9)
        all_goals
         refine AW_exit ?_
         repeat (first | refine thenK_exit ?_ | refine loopK_exit ?_ | refine blockK_other (by decide) ?_)
         refine blockK_same ?_
         refine thenK_normal (hK5 _ ?_)
         try clear hK5
         refine AW_seq_k (fun K10 hK10 => ?_)
         refine AW_region ?_
         all_goals refine AOps_cons rfl (AOp_move ?_)
         all_goals (refine AOps_cons rfl (AOp_assign ?_) <;> try simp only [push_cast, Nat.reduceAdd])
         all_goals refine AOps_nil ?_
         all_goals
          refine thenK_normal (hK10 _ ?_)
          try clear hK10
          refine AW_ret ?_
          repeat (first | refine thenK_ret ?_ | refine loopK_ret ?_ | refine blockK_ret ?_)
          have e : xs.take i = xs := List.take_of_length_le (by omega)
          rw [e]
          refine ⟨by first | exact .inl rfl | exact .inr rfl, _, rfl, (by first | exact outok_app 0 rfl (Nat.zero_le _) (by simp) | exact outok_self), by simp [push_cast], ?_⟩
          simp only [push_cast, Nat.reduceAdd]
          simp [strip, stripTok, strip_encN]
       case' ht =>
        intro hc9
        try (exfalso; (first | (cases hc9; done) | (simp at hc9; done) | (simp at hc9; omega)); done)
        all_goals (try simp only [decide_eq_true_eq, decide_eq_false_iff_not, Bool.not_eq_true', Bool.not_eq_false', Bool.not_eq_eq_eq_not, Bool.not_true, Bool.not_false] at hc9)
        all_goals
         refine AW_skip ?_
         refine thenK_normal (hK8 _ ?_)
         try clear hK8
         refine AW_seq_k (fun K11 hK11 => ?_)
         refine AW_block ?_
         refine AW_seq_k (fun K12 hK12 => ?_)
         refine AW_region ?_
         all_goals (refine AOps_cons rfl (AOp_indexAddr_sl 27 _ _ _ _ _ rfl rfl sl25 sz27 (by decide) (by exact uni_encTs _) (by first | omega | (simp; omega)) (by first | omega | (simp [push_cast]; omega) | (simp [push_cast]; done)) ?_) <;> try simp only [push_cast, Nat.reduceAdd])
         all_goals (refine AOps_cons rfl (AOp_load_cptr _ _ rfl sz27 ag27 (by simp [push_cast]) ?_) <;> try simp only [push_cast, Nat.reduceAdd])
         all_goals (refine AOps_cons rfl (AOp_alloc _ zr27 (by simp [ofVal, AV.isCell, Value.oneCell']) ?_) <;> try simp only [push_cast, Nat.reduceAdd])
         all_goals (refine AOps_cons rfl (AOp_store _ _ _ _ _ rfl (by first | exact hget0 | exact hgetN _ rfl | assumption | exact hgetL (by assumption)) rfl rfl (by first | exact .inl rfl | exact .inr ⟨_, rfl⟩) (by simp [push_cast, AV.isCell]) sz27 (by simp [push_cast]) ?_) <;> try simp only [push_cast, Nat.reduceAdd])
         all_goals refine AOps_nil ?_
         all_goals
          refine thenK_normal (hK12 _ ?_)
          try clear hK12
          refine AW_region ?_
          all_goals (refine AOps_cons rfl (AOp_load_ptr _ _ _ _ rfl (by first | exact hget0 | exact hgetN _ rfl | assumption | exact hgetL (by assumption)) sz27 ag27 (by simp [push_cast]) ?_) <;> try simp only [push_cast, Nat.reduceAdd])
          all_goals refine AOps_cons rfl (AOp_move ?_)
          all_goals (try simp only [push_cast, Nat.reduceAdd])
          all_goals refine AOps_cons rfl (AOp_call _ _ _ rfl rfl ok76 ?_)
          all_goals (try simp only [push_cast, Nat.reduceAdd])
          all_goals have e := foldC_take xs L0 i (by omega)
          all_goals have hmem : xs[i]'(by omega) ∈ xs := by simp
          all_goals have hf1 := foldC_length (xs.take i) L0
          all_goals have hf2 := take_sum Term.size xs i (by omega)
          all_goals have hf3 := take_sum_le Term.size xs (i + 1)
          all_goals refine (ih (xs[i]'(by omega)) hmem _ (hbk _ hmem) (by omega) (foldC_names _ _ (fun x hx => hbk x (List.mem_of_mem_take hx)) hL2) _).mono ?_
          all_goals rintro r H' ⟨rfl, rfl⟩
          all_goals simp only [← e]
          all_goals (try simp only [push_cast, Nat.reduceAdd])
          all_goals (refine AOps_cons rfl (AOp_assign ?_) <;> try simp only [push_cast, Nat.reduceAdd])
          all_goals refine AOps_nil ?_
          all_goals
           refine blockK_normal ?_
           refine thenK_normal (hK11 _ ?_)
           try clear hK11
           refine AW_region ?_
           all_goals refine AOps_cons rfl (AOp_bin_int _ _ _ _ rfl rfl rfl ?_)
           all_goals (try simp only [push_cast, Nat.reduceAdd])
           all_goals (try rw [IntWalk.i64_in _ (by omega)])
           all_goals (try simp only [push_cast, Nat.reduceAdd])
           all_goals (refine AOps_cons rfl (AOp_move ?_) <;> try simp only [push_cast, Nat.reduceAdd])
           all_goals refine AOps_nil ?_
           all_goals
            refine loopK_normal ?_
            exact ⟨i + 1, by omega, by (simp only [push_cast, Nat.reduceAdd]; refine weak_app 1 ?_ (by simp) (by simp [push_cast]); (repeat (first | exact SlotsOk.nil | refine SlotsOk.junk ?_ | refine SlotsOk.same (by first | (simp [push_cast]; done) | (simp [push_cast, Scoped, ScopedL, *]; done)) ?_ | refine SlotsOk.tok (by first | rfl | (simp; done)) (by first | (simp [push_cast]; done) | (simp [push_cast, Scoped, ScopedL, *]; done)) ?_ | refine SlotsOk.eq (by first | rfl | (congr 1; omega) | (simp; done) | (simp; omega)) (by first | (simp [push_cast]; done) | (simp [push_cast, Scoped, ScopedL, *]; done)) ?_))), by omega⟩
theorem varsR_ac (ts : List Term) (hlen : ts.length < 1099511627776) (hb : ∀ x, x ∈ ts → x.bulk ≤ 1099511627775) (hsz : (ts.map Term.size).sum ≤ 1099511627775) (H : List AObj) : ACall Try.prog 57 [.sl .none (encTs ts)] H (fun r H' => r = .sl .none (encN (varsP ts)) ∧ H' = H) := by
  refine ACall.weakR (R := fun r H' => Forget r (.sl .none (encN (varsP ts))) ∧ H' = H) ?_ (fun r H' h => ⟨_, h.1, rfl, h.2⟩)
  have hv : varsP ts = foldC ts [] := rfl
  rw [hv]
  refine ACall_intro (H.length) Try.func57 rfl ?_
  simp only [Try.ntmps57, List.length_cons, List.length_nil, List.replicate, List.cons_append, List.nil_append, Nat.reduceAdd, Nat.reduceSub, Nat.zero_add]
  refine AW_seq_k (fun K13 hK13 => ?_)
  refine AW_region ?_
  all_goals (refine AOps_cons rfl (AOp_assign ?_) <;> try simp only [push_cast, Nat.reduceAdd])
  all_goals refine AOps_nil ?_
  all_goals
   refine thenK_normal (hK13 _ ?_)
   try clear hK13
   refine AW_seq_k (fun K14 hK14 => ?_)
   refine AW_region ?_
   all_goals (refine AOps_cons rfl (AOp_assign ?_) <;> try simp only [push_cast, Nat.reduceAdd])
   all_goals refine AOps_nil ?_
   all_goals
    refine thenK_normal (hK14 _ ?_)
    try clear hK14
    refine AW_seq_k (fun K15 hK15 => ?_)
    refine AW_seq_k (fun K16 hK16 => ?_)
    refine AW_region ?_
    all_goals refine AOps_cons rfl (AOp_move ?_)
    all_goals (try simp only [push_cast, Nat.reduceAdd])
    all_goals (refine AOps_cons rfl (AOp_len_sl _ _ _ rfl sl25 ?_) <;> try simp only [push_cast, Nat.reduceAdd])
    all_goals (refine AOps_cons rfl (AOp_move ?_) <;> try simp only [push_cast, Nat.reduceAdd])
    all_goals refine AOps_nil ?_
    all_goals
     refine thenK_normal (hK16 _ ?_)
     try clear hK16
     refine AW_block ?_
     refine AW_loopR (maskG 17 [3, 2, 0, 0]) (fun (i : Nat) => [(8, .int .i64 i), (3, .sl .none (encN (foldC (ts.take i) [])))]) (fun _ => _) (fun i => i ≤ ts.length) (fun i => ts.length - i) 0 (Nat.zero_le _) (by (simp only [push_cast, Nat.reduceAdd]; (first | refine weak_app0 ?_ | refine weak_same ?_); (repeat (first | exact SlotsOk.nil | refine SlotsOk.junk ?_ | refine SlotsOk.same (by first | (simp [push_cast]; done) | (simp [push_cast, Scoped, ScopedL, *]; done)) ?_ | refine SlotsOk.tok (by first | rfl | (simp; done)) (by first | (simp [push_cast]; done) | (simp [push_cast, Scoped, ScopedL, *]; done)) ?_ | refine SlotsOk.eq (by first | rfl | (congr 1; omega) | (simp; done) | (simp; omega)) (by first | (simp [push_cast]; done) | (simp [push_cast, Scoped, ScopedL, *]; done)) ?_)))) (fun i hi => ?_)
     (try simp only [push_cast, Nat.reduceAdd])
     refine AW_seq_k (fun K17 hK17 => ?_)
     refine AW_region ?_
     all_goals (refine AOps_cons rfl (AOp_bin_int _ _ _ _ rfl rfl rfl ?_) <;> try simp only [push_cast, Nat.reduceAdd])
     all_goals refine AOps_nil ?_
     all_goals
      refine thenK_normal (hK17 _ ?_)
      try clear hK17
      refine AW_seq_k (fun K18 hK18 => ?_)
      apply AW_cond
      case' hc => exact rfl
      case' hf =>
       intro hc19
       try (exfalso; (first | (cases hc19; done) | (simp at hc19; done) | (simp at hc19; omega)); done)
       all_goals (try simp only [decide_eq_true_eq, decide_eq_false_iff_not, Bool.not_eq_true', Bool.not_eq_false', Bool.not_eq_eq_eq_not, Bool.not_true, Bool.not_false] at hc19)
       all_goals
        refine AW_exit ?_
        repeat (first | refine thenK_exit ?_ | refine loopK_exit ?_ | refine blockK_other (by decide) ?_)
        refine blockK_same ?_
        refine thenK_normal (hK15 _ ?_)
        try clear hK15
        refine AW_seq_k (fun K20 hK20 => ?_)
        refine AW_region ?_
        all_goals refine AOps_cons rfl (AOp_move ?_)
        all_goals (refine AOps_cons rfl (AOp_assign ?_) <;> try simp only [push_cast, Nat.reduceAdd])
        all_goals refine AOps_nil ?_
        all_goals
         refine thenK_normal (hK20 _ ?_)
         try clear hK20
         refine AW_ret ?_
         repeat (first | refine thenK_ret ?_ | refine loopK_ret ?_ | refine blockK_ret ?_)
         have e : ts.take i = ts := List.take_of_length_le (by omega)
         rw [e]
         refine ⟨by first | exact .inl rfl | exact .inr rfl, _, rfl, (by first | exact outok_app 0 rfl (Nat.zero_le _) (by simp) | exact outok_self), by simp [push_cast], ?_⟩
         simp only [push_cast, Nat.reduceAdd]
         (try simp only [strip, stripTok, strip_encN])
         exact ⟨fun _ _ h => h, by simp⟩
      case' ht =>
       intro hc19
       try (exfalso; (first | (cases hc19; done) | (simp at hc19; done) | (simp at hc19; omega)); done)
       all_goals (try simp only [decide_eq_true_eq, decide_eq_false_iff_not, Bool.not_eq_true', Bool.not_eq_false', Bool.not_eq_eq_eq_not, Bool.not_true, Bool.not_false] at hc19)
       all_goals
        refine AW_skip ?_
        refine thenK_normal (hK18 _ ?_)
        try clear hK18
        refine AW_seq_k (fun K21 hK21 => ?_)
        refine AW_block ?_
        refine AW_seq_k (fun K22 hK22 => ?_)
        refine AW_region ?_
        all_goals (refine AOps_cons rfl (AOp_indexAddr_sl 27 _ _ _ _ _ rfl rfl sl25 sz27 (by decide) (by exact uni_encTs _) (by first | omega | (simp; omega)) (by first | omega | (simp [push_cast]; omega) | (simp [push_cast]; done)) ?_) <;> try simp only [push_cast, Nat.reduceAdd])
        all_goals (refine AOps_cons rfl (AOp_load_cptr _ _ rfl sz27 ag27 (by simp [push_cast]) ?_) <;> try simp only [push_cast, Nat.reduceAdd])
        all_goals (refine AOps_cons rfl (AOp_alloc _ zr27 (by simp [ofVal, AV.isCell, Value.oneCell']) ?_) <;> try simp only [push_cast, Nat.reduceAdd])
        all_goals (refine AOps_cons rfl (AOp_store _ _ _ _ _ rfl (by first | exact hget0 | exact hgetN _ rfl | assumption | exact hgetL (by assumption)) rfl rfl (by first | exact .inl rfl | exact .inr ⟨_, rfl⟩) (by simp [push_cast, AV.isCell]) sz27 (by simp [push_cast]) ?_) <;> try simp only [push_cast, Nat.reduceAdd])
        all_goals refine AOps_nil ?_
        all_goals
         refine thenK_normal (hK22 _ ?_)
         try clear hK22
         refine AW_region ?_
         all_goals (refine AOps_cons rfl (AOp_load_ptr _ _ _ _ rfl (by first | exact hget0 | exact hgetN _ rfl | assumption | exact hgetL (by assumption)) sz27 ag27 (by simp [push_cast]) ?_) <;> try simp only [push_cast, Nat.reduceAdd])
         all_goals refine AOps_cons rfl (AOp_move ?_)
         all_goals (try simp only [push_cast, Nat.reduceAdd])
         all_goals refine AOps_cons rfl (AOp_call _ _ _ rfl rfl ok76 ?_)
         all_goals (try simp only [push_cast, Nat.reduceAdd])
         all_goals have e := foldC_take ts [] i (by omega)
         all_goals have hmem : ts[i]'(by omega) ∈ ts := by simp
         all_goals have hf1 := foldC_length (ts.take i) []
         all_goals have hf2 := take_sum Term.size ts i (by omega)
         all_goals have hf3 := take_sum_le Term.size ts (i + 1)
         all_goals simp only [List.length_nil] at hf1
         all_goals refine (collectR_ac (ts[i]'(by omega)) _ (hb _ hmem) (by omega) (foldC_names _ _ (fun x hx => hb x (List.mem_of_mem_take hx)) (by simp)) _).mono ?_
         all_goals rintro r H' ⟨rfl, rfl⟩
         all_goals simp only [← e]
         all_goals (try simp only [push_cast, Nat.reduceAdd])
         all_goals (refine AOps_cons rfl (AOp_assign ?_) <;> try simp only [push_cast, Nat.reduceAdd])
         all_goals refine AOps_nil ?_
         all_goals
          refine blockK_normal ?_
          refine thenK_normal (hK21 _ ?_)
          try clear hK21
          refine AW_region ?_
          all_goals refine AOps_cons rfl (AOp_bin_int _ _ _ _ rfl rfl rfl ?_)
          all_goals (try simp only [push_cast, Nat.reduceAdd])
          all_goals (try rw [IntWalk.i64_in _ (by omega)])
          all_goals (try simp only [push_cast, Nat.reduceAdd])
          all_goals (refine AOps_cons rfl (AOp_move ?_) <;> try simp only [push_cast, Nat.reduceAdd])
          all_goals refine AOps_nil ?_
          all_goals
           refine loopK_normal ?_
           exact ⟨i + 1, by omega, by (simp only [push_cast, Nat.reduceAdd]; (first | refine weak_app0 ?_ | refine weak_same ?_); (repeat (first | exact SlotsOk.nil | refine SlotsOk.junk ?_ | refine SlotsOk.same (by first | (simp [push_cast]; done) | (simp [push_cast, Scoped, ScopedL, *]; done)) ?_ | refine SlotsOk.tok (by first | rfl | (simp; done)) (by first | (simp [push_cast]; done) | (simp [push_cast, Scoped, ScopedL, *]; done)) ?_ | refine SlotsOk.eq (by first | rfl | (congr 1; omega) | (simp; done) | (simp; omega)) (by first | (simp [push_cast]; done) | (simp [push_cast, Scoped, ScopedL, *]; done)) ?_))), by omega⟩
theorem covers_take (s t : Term) (i : Nat) (h : i < (varsP [t]).length) (h1 : countP (varsP [t])[i] s < countP (varsP [t])[i] t) : coversP s t = false := by
  rw [coversP_vars]; exact all_get (i := i) h (by simpa using h1)
theorem coversR_ac (s t : Term) (h1 : s.bulk ≤ 1099511627775) (h2 : t.bulk ≤ 1099511627775) (H : List AObj) : ACall Try.prog 34 [encT s, encT t] H (fun r H' => r = .bool (coversP s t) ∧ H' = H) := by
  have hsz := t.size_le
  have hvl : (varsP [t]).length ≤ t.size := by have := foldC_length [t] []; simpa [foldC, varsP] using this
  refine ACall_intro (H.length) Try.func34 rfl ?_
  simp only [Try.ntmps34, List.length_cons, List.length_nil, List.replicate, List.cons_append, List.nil_append, Nat.reduceAdd, Nat.reduceSub, Nat.zero_add]
  refine AW_seq_k (fun K23 hK23 => ?_)
  refine AW_region ?_
  all_goals (refine AOps_cons rfl (AOp_box _ _ rfl rfl (by first | exact .inl rfl | exact .inr ⟨_, rfl⟩) (by simp [push_cast, AV.isCell]) ?_) <;> try simp only [push_cast, Nat.reduceAdd])
  all_goals (refine AOps_cons rfl (AOp_box _ _ rfl rfl (by first | exact .inl rfl | exact .inr ⟨_, rfl⟩) (by simp [push_cast, AV.isCell]) ?_) <;> try simp only [push_cast, Nat.reduceAdd])
  all_goals (refine AOps_cons rfl (AOp_assign ?_) <;> try simp only [push_cast, Nat.reduceAdd])
  all_goals refine AOps_nil ?_
  all_goals
   refine thenK_normal (hK23 _ ?_)
   try clear hK23
   refine AW_seq_k (fun K24 hK24 => ?_)
   refine AW_seq_k (fun K25 hK25 => ?_)
   refine AW_region ?_
   all_goals (refine AOps_cons rfl (AOp_load_ptr _ _ _ _ rfl (by first | exact hget0 | exact hgetN _ rfl | assumption | exact hgetL (by assumption)) sz27 ag27 (by simp [push_cast]) ?_) <;> try simp only [push_cast, Nat.reduceAdd])
   all_goals (refine AOps_cons rfl (AOp_buildRow _ [_] sl25 sz27 zr27 rfl rfl (by simp [AV.cells, AV.isCell, AV.isAgg, push_cast]) (by decide) rfl ?_) <;> try simp only [push_cast, Nat.reduceAdd])
   all_goals refine AOps_cons rfl (AOp_call _ _ _ rfl rfl ok57 ?_)
   all_goals (try simp only [push_cast, Nat.reduceAdd])
   all_goals have hev : [AV.agg [.str t.name, .bool t.var, .sl .none (encTs t.args)]] = encTs [t] := by rw [encTs_cons]; simp [encTs]
   all_goals rw [hev]
   all_goals refine (varsR_ac [t] (by simp) (by simpa using h2) (by simp; omega) _).mono ?_
   all_goals rintro r H' ⟨rfl, rfl⟩
   all_goals (try simp only [push_cast, Nat.reduceAdd])
   all_goals (refine AOps_cons rfl (AOp_len_sl _ _ _ rfl sl90 ?_) <;> try simp only [push_cast, Nat.reduceAdd])
   all_goals (refine AOps_cons rfl (AOp_move ?_) <;> try simp only [push_cast, Nat.reduceAdd])
   all_goals refine AOps_nil ?_
   all_goals
    refine thenK_normal (hK25 _ ?_)
    try clear hK25
    refine AW_block ?_
    refine AW_loopR (maskG 23 [2, 0, 5, 0, 0]) (fun (i : Nat) => [(11, .int .i64 i)]) (fun _ => _) (fun i => i ≤ (varsP [t]).length ∧ ((varsP [t]).take i).all (fun v => decide (countP v t ≤ countP v s)) = true) (fun i => (varsP [t]).length - i) 0 ⟨Nat.zero_le _, by simp⟩ (by (simp only [push_cast, Nat.reduceAdd]; refine weak_app 2 ?_ (by simp) (by simp [push_cast]); (repeat (first | exact SlotsOk.nil | refine SlotsOk.junk ?_ | refine SlotsOk.same (by first | (simp [push_cast]; done) | (simp [push_cast, Scoped, ScopedL, *]; done)) ?_ | refine SlotsOk.tok (by first | rfl | (simp; done)) (by first | (simp [push_cast]; done) | (simp [push_cast, Scoped, ScopedL, *]; done)) ?_ | refine SlotsOk.eq (by first | rfl | (congr 1; omega) | (simp; done) | (simp; omega)) (by first | (simp [push_cast]; done) | (simp [push_cast, Scoped, ScopedL, *]; done)) ?_)))) (fun i hi => ?_)
    (try simp only [push_cast, Nat.reduceAdd])
    refine AW_seq_k (fun K26 hK26 => ?_)
    refine AW_region ?_
    all_goals (refine AOps_cons rfl (AOp_bin_int _ _ _ _ rfl rfl rfl ?_) <;> try simp only [push_cast, Nat.reduceAdd])
    all_goals refine AOps_nil ?_
    all_goals
     refine thenK_normal (hK26 _ ?_)
     try clear hK26
     refine AW_seq_k (fun K27 hK27 => ?_)
     apply AW_cond
     case' hc => exact rfl
     case' hf =>
      intro hc28
      try (exfalso; (first | (cases hc28; done) | (simp at hc28; done) | (simp at hc28; omega)); done)
      all_goals (try simp only [decide_eq_true_eq, decide_eq_false_iff_not, Bool.not_eq_true', Bool.not_eq_false', Bool.not_eq_eq_eq_not, Bool.not_true, Bool.not_false] at hc28)
      all_goals
       refine AW_exit ?_
       repeat (first | refine thenK_exit ?_ | refine loopK_exit ?_ | refine blockK_other (by decide) ?_)
       refine blockK_same ?_
       refine thenK_normal (hK24 _ ?_)
       try clear hK24
       refine AW_seq_k (fun K29 hK29 => ?_)
       refine AW_region ?_
       all_goals (refine AOps_cons rfl (AOp_assign ?_) <;> try simp only [push_cast, Nat.reduceAdd])
       all_goals refine AOps_nil ?_
       all_goals
        refine thenK_normal (hK29 _ ?_)
        try clear hK29
        refine AW_ret ?_
        repeat (first | refine thenK_ret ?_ | refine loopK_ret ?_ | refine blockK_ret ?_)
        have hall : (varsP [t]).take i = varsP [t] := List.take_of_length_le (by omega)
        rw [hall, ← coversP_vars] at hi
        refine ⟨by first | exact .inl rfl | exact .inr rfl, _, rfl, (by first | exact outok_app 0 rfl (Nat.zero_le _) (by simp) | exact outok_self), by simp [push_cast], ?_⟩
        simp only [push_cast, Nat.reduceAdd]
        rw [hi.2]; simp
     case' ht =>
      intro hc28
      try (exfalso; (first | (cases hc28; done) | (simp at hc28; done) | (simp at hc28; omega)); done)
      all_goals (try simp only [decide_eq_true_eq, decide_eq_false_iff_not, Bool.not_eq_true', Bool.not_eq_false', Bool.not_eq_eq_eq_not, Bool.not_true, Bool.not_false] at hc28)
      all_goals
       refine AW_skip ?_
       refine thenK_normal (hK27 _ ?_)
       try clear hK27
       refine AW_seq_k (fun K30 hK30 => ?_)
       refine AW_block ?_
       refine AW_seq_k (fun K31 hK31 => ?_)
       refine AW_region ?_
       all_goals (refine AOps_cons rfl (AOp_indexAddr_sl 9 _ _ _ _ _ rfl rfl sl90 sz9 (by decide) (by exact uni_encN _) (by first | omega | (simp; omega)) (by first | omega | (simp [push_cast]; omega) | (simp [push_cast]; done)) ?_) <;> try simp only [push_cast, Nat.reduceAdd])
       all_goals (refine AOps_cons rfl (AOp_load1_cptr _ _ _ rfl sz9 ag9 rfl ?_) <;> try simp only [push_cast, Nat.reduceAdd])
       all_goals (refine AOps_cons rfl (AOp_assign ?_) <;> try simp only [push_cast, Nat.reduceAdd])
       all_goals refine AOps_nil ?_
       all_goals
        refine thenK_normal (hK31 _ ?_)
        try clear hK31
        refine AW_seq_k (fun K32 hK32 => ?_)
        apply AW_drawE [some 15, some 16, some 17, some 18, some 19, some 20, some 21] [([], _)] [none, none, none, none, none, none, none] 0 [(0, [], [3]), (1, [], [6]), (2, [], [15, 0]), (3, [], [2]), (4, [], [6]), (5, [], [18, 0]), (6, [], [17, 2])] [_, _, _, _, _, _, _]
        case' hm => exact dr
        case' hn => rfl
        case' hok => rfl
        case' hlen => rfl
        case' hd => rfl
        case' h0 => rfl
        case' hstep =>
         simp only [DAllG, keepG, List.map_cons, List.map_nil, putD, stg, beqB, List.set_cons_zero, List.set_cons_succ, List.getD_cons_zero, List.getD_cons_succ, Option.isSome_some, Option.isSome_none]
         apply And.intro
         · apply DOne_do
           case' ho => rfl
           case' hw => rfl
           refine AOp_load_ptr _ _ _ _ rfl (by first | exact hget0 | exact hgetN _ rfl | assumption | exact hgetL (by assumption)) sz27 ag27 (by simp [push_cast]) ?_
           all_goals (try simp only [push_cast, Nat.reduceAdd])
           all_goals (constructor <;> first | rfl | trivial)
         apply And.intro
         · apply DOne_do
           case' ho => rfl
           case' hw => rfl
           refine AOp_move ?_
           all_goals (try simp only [push_cast, Nat.reduceAdd])
           all_goals (constructor <;> first | rfl | trivial)
         apply And.intro
         · apply DOne_do
           case' ho => rfl
           case' hw => rfl
           refine AOp_call _ _ _ rfl rfl ok58 ?_
           (try simp only [push_cast, Nat.reduceAdd])
           refine (countR_ac _ t h2 _).mono ?_
           rintro r H' ⟨rfl, rfl⟩
           all_goals (try simp only [push_cast, Nat.reduceAdd])
           all_goals (constructor <;> first | rfl | trivial)
         apply And.intro
         · apply DOne_do
           case' ho => rfl
           case' hw => rfl
           refine AOp_load_ptr _ _ _ _ rfl (by first | exact hget0 | exact hgetN _ rfl | assumption | exact hgetL (by assumption)) sz27 ag27 (by simp [push_cast]) ?_
           all_goals (try simp only [push_cast, Nat.reduceAdd])
           all_goals (constructor <;> first | rfl | trivial)
         apply And.intro
         · apply DOne_do
           case' ho => rfl
           case' hw => rfl
           refine AOp_move ?_
           all_goals (try simp only [push_cast, Nat.reduceAdd])
           all_goals (constructor <;> first | rfl | trivial)
         apply And.intro
         · apply DOne_do
           case' ho => rfl
           case' hw => rfl
           refine AOp_call _ _ _ rfl rfl ok58 ?_
           (try simp only [push_cast, Nat.reduceAdd])
           refine (countR_ac _ s h1 _).mono ?_
           rintro r H' ⟨rfl, rfl⟩
           all_goals (try simp only [push_cast, Nat.reduceAdd])
           all_goals (constructor <;> first | rfl | trivial)
         apply And.intro
         · apply DOne_do
           case' ho => rfl
           case' hw => rfl
           refine AOp_bin_int _ _ _ _ rfl rfl rfl ?_
           all_goals (try simp only [push_cast, Nat.reduceAdd])
           all_goals (constructor <;> first | rfl | trivial)
         exact trivial
        case' hQ => skip
        (try simp only [push_cast, putD, stg, beqB, List.replicate, Nat.reduceAdd, List.getD_cons_zero, List.getD_cons_succ])
        all_goals
         refine thenK_normal (hK32 _ ?_)
         try clear hK32
         apply AW_cond
         case' hc => exact rfl
         case' hf =>
          intro hc33
          try (exfalso; (first | (cases hc33; done) | (simp at hc33; done) | (simp at hc33; omega)); done)
          all_goals (try simp only [decide_eq_true_eq, decide_eq_false_iff_not, Bool.not_eq_true', Bool.not_eq_false', Bool.not_eq_eq_eq_not, Bool.not_true, Bool.not_false] at hc33)
          all_goals
           refine AW_skip ?_
           refine blockK_normal ?_
           refine thenK_normal (hK30 _ ?_)
           try clear hK30
           refine AW_region ?_
           all_goals refine AOps_cons rfl (AOp_bin_int _ _ _ _ rfl rfl rfl ?_)
           all_goals (try simp only [push_cast, Nat.reduceAdd])
           all_goals (try rw [IntWalk.i64_in _ (by omega)])
           all_goals (try simp only [push_cast, Nat.reduceAdd])
           all_goals (refine AOps_cons rfl (AOp_move ?_) <;> try simp only [push_cast, Nat.reduceAdd])
           all_goals refine AOps_nil ?_
           all_goals
            refine loopK_normal ?_
            refine ⟨i + 1, ⟨by omega, all_take_true hi.2 (by omega) ?_⟩, by (simp only [push_cast, Nat.reduceAdd]; refine weak_app 2 ?_ (by simp) (by simp [push_cast]); (repeat (first | exact SlotsOk.nil | refine SlotsOk.junk ?_ | refine SlotsOk.same (by first | (simp [push_cast]; done) | (simp [push_cast, Scoped, ScopedL, *]; done)) ?_ | refine SlotsOk.tok (by first | rfl | (simp; done)) (by first | (simp [push_cast]; done) | (simp [push_cast, Scoped, ScopedL, *]; done)) ?_ | refine SlotsOk.eq (by first | rfl | (congr 1; omega) | (simp; done) | (simp; omega)) (by first | (simp [push_cast]; done) | (simp [push_cast, Scoped, ScopedL, *]; done)) ?_))), by omega⟩
            simp; omega
         case' ht =>
          intro hc33
          try (exfalso; (first | (cases hc33; done) | (simp at hc33; done) | (simp at hc33; omega)); done)
          all_goals (try simp only [decide_eq_true_eq, decide_eq_false_iff_not, Bool.not_eq_true', Bool.not_eq_false', Bool.not_eq_eq_eq_not, Bool.not_true, Bool.not_false] at hc33)
          all_goals
           refine AW_seq_k (fun K34 hK34 => ?_)
           refine AW_region ?_
           all_goals (refine AOps_cons rfl (AOp_assign ?_) <;> try simp only [push_cast, Nat.reduceAdd])
           all_goals refine AOps_nil ?_
           all_goals
            refine thenK_normal (hK34 _ ?_)
            try clear hK34
            refine AW_ret ?_
            repeat (first | refine thenK_ret ?_ | refine loopK_ret ?_ | refine blockK_ret ?_)
            have hc := covers_take s t i (by omega) (by omega)
            refine ⟨by first | exact .inl rfl | exact .inr rfl, _, rfl, (by first | exact outok_app 0 rfl (Nat.zero_le _) (by simp) | exact outok_self), by simp [push_cast], ?_⟩
            simp only [push_cast, Nat.reduceAdd]
            rw [hc]; simp
end Ab
/- The reference's order of Knuth and Bendix. -/
set_option maxRecDepth 10000
namespace Ab
open Go Go.Proofs
attribute [local push_cast] encT encR scoped_encR
set_option maxHeartbeats 1600000 in
theorem greaterR_ac (l : List Rank) (unit : Int) (hr : SmallR l unit) (hlen : l.length < 1099511627776) (s : Term) : ∀ t : Term, s.bulk ≤ 1099511627775 → t.bulk ≤ 1099511627775 → ∀ H,
    ACall Try.prog 13 [.sl .none (encL encR l), .int .i64 unit, encT s, encT t] H (fun r H' => r = .bool (aboveP l unit s t) ∧ H' = H) := by
  refine Term.ind (p := fun s => ∀ t : Term, s.bulk ≤ 1099511627775 → t.bulk ≤ 1099511627775 → ∀ H,
    ACall Try.prog 13 [.sl .none (encL encR l), .int .i64 unit, encT s, encT t] H (fun r H' => r = .bool (aboveP l unit s t) ∧ H' = H)) (fun n v xs ih => ?_) s
  rintro ⟨m, u, ys⟩ hb hb2 H
  have hl1 := Term.len_le (n := n) (v := v) (xs := xs)
  have hl2 := Term.len_le (n := m) (v := u) (xs := ys)
  have eS : encT (.mk n v xs) = .agg [.str n, .bool v, .sl .none (encTs xs)] := rfl
  have eT : encT (.mk m u ys) = .agg [.str m, .bool u, .sl .none (encTs ys)] := rfl
  rw [eS, eT]
  have hea : aboveP l unit (.mk n v xs) (.mk m u ys) = kboC l unit (.mk n v xs) (.mk m u ys) (kboTs l unit xs ys) := rfl
  have hself : kboTs l unit xs xs = false := by
    have := kboTs_drop l unit xs xs xs.length rfl
    rw [this, List.drop_length]; exact kboTs_nil _ _ _
  have hirr : aboveP l unit (.mk n v xs) (.mk n v xs) = false := by
    have hk : aboveP l unit (.mk n v xs) (.mk n v xs) = kboC l unit (.mk n v xs) (.mk n v xs) (kboTs l unit xs xs) := rfl
    rw [hk, hself]; simp [kboC]
  refine ACall_intro (H.length) Try.func13 rfl ?_
  simp only [Try.ntmps13, List.length_cons, List.length_nil, List.replicate, List.cons_append, List.nil_append, Nat.reduceAdd, Nat.reduceSub, Nat.zero_add]
  refine AW_seq_k (fun K1 hK1 => ?_)
  refine AW_region ?_
  all_goals (refine AOps_cons rfl (AOp_box _ _ rfl rfl (by first | exact .inl rfl | exact .inr ⟨_, rfl⟩) (by simp [push_cast, AV.isCell]) ?_) <;> try simp only [push_cast, Nat.reduceAdd])
  all_goals (refine AOps_cons rfl (AOp_box _ _ rfl rfl (by first | exact .inl rfl | exact .inr ⟨_, rfl⟩) (by simp [push_cast, AV.isCell]) ?_) <;> try simp only [push_cast, Nat.reduceAdd])
  all_goals (refine AOps_cons rfl (AOp_assign ?_) <;> try simp only [push_cast, Nat.reduceAdd])
  all_goals refine AOps_nil ?_
  all_goals
   refine thenK_normal (hK1 _ ?_)
   try clear hK1
   refine AW_seq_k (fun K2 hK2 => ?_)
   refine AW_seq_k (fun K3 hK3 => ?_)
   refine AW_region ?_
   all_goals (refine AOps_cons rfl (AOp_load_ptr _ _ _ _ rfl (by first | exact hget0 | exact hgetN _ rfl | assumption | exact hgetL (by assumption)) sz27 ag27 (by simp [push_cast]) ?_) <;> try simp only [push_cast, Nat.reduceAdd])
   all_goals (refine AOps_cons rfl (AOp_load_ptr _ _ _ _ rfl (by first | exact hget0 | exact hgetN _ rfl | assumption | exact hgetL (by assumption)) sz27 ag27 (by simp [push_cast]) ?_) <;> try simp only [push_cast, Nat.reduceAdd])
   all_goals refine AOps_cons rfl (AOp_call _ _ _ rfl rfl ok34 ?_)
   all_goals (try simp only [push_cast, Nat.reduceAdd])
   all_goals refine (coversR_ac (.mk n v xs) (.mk m u ys) hb hb2 _).mono ?_
   all_goals rintro r H' ⟨rfl, rfl⟩
   all_goals (try simp only [push_cast, Nat.reduceAdd])
   all_goals (refine AOps_cons rfl (AOp_not _ rfl ?_) <;> try simp only [push_cast, Nat.reduceAdd])
   all_goals refine AOps_nil ?_
   all_goals
    refine thenK_normal (hK3 _ ?_)
    try clear hK3
    apply AW_cond
    case' hc => exact rfl
    case' hf =>
     intro hc4
     try (exfalso; (first | (cases hc4; done) | (simp at hc4; done) | (simp at hc4; omega)); done)
     all_goals (try simp only [decide_eq_true_eq, decide_eq_false_iff_not, Bool.not_eq_true', Bool.not_eq_false', Bool.not_eq_eq_eq_not, Bool.not_true, Bool.not_false] at hc4)
     all_goals
      refine AW_skip ?_
      refine thenK_normal (hK2 _ ?_)
      try clear hK2
      refine AW_seq_k (fun K5 hK5 => ?_)
      apply AW_drawE [some 16, some 17, some 18, some 19, some 20, some 21, some 22, some 23, some 9, some 10] [([], _)] [none, none, none, none, none, none, none, none, none, none] 0 [(0, [], [0]), (1, [], [1]), (2, [], [6]), (3, [], [16, 0, 0]), (4, [], [0]), (5, [], [1]), (6, [], [7]), (7, [], [20, 0, 0]), (8, [], [19]), (9, [], [23])] [_, _, _, _, _, _, _, _, _, _]
      case' hm => exact dr
      case' hn => rfl
      case' hok => rfl
      case' hlen => rfl
      case' hd => rfl
      case' h0 => rfl
      case' hstep =>
       simp only [DAllG, keepG, List.map_cons, List.map_nil, putD, stg, beqB, List.set_cons_zero, List.set_cons_succ, List.getD_cons_zero, List.getD_cons_succ, Option.isSome_some, Option.isSome_none]
       apply And.intro
       · apply DOne_do
         case' ho => rfl
         case' hw => rfl
         refine AOp_move ?_
         all_goals (try simp only [push_cast, Nat.reduceAdd])
         all_goals (constructor <;> first | rfl | trivial)
       apply And.intro
       · apply DOne_do
         case' ho => rfl
         case' hw => rfl
         refine AOp_move ?_
         all_goals (try simp only [push_cast, Nat.reduceAdd])
         all_goals (constructor <;> first | rfl | trivial)
       apply And.intro
       · apply DOne_do
         case' ho => rfl
         case' hw => rfl
         refine AOp_load_ptr _ _ _ _ rfl (by first | exact hget0 | exact hgetN _ rfl | assumption | exact hgetL (by assumption)) sz27 ag27 (by simp [push_cast]) ?_
         all_goals (try simp only [push_cast, Nat.reduceAdd])
         all_goals (constructor <;> first | rfl | trivial)
       apply And.intro
       · apply DOne_do
         case' ho => rfl
         case' hw => rfl
         refine AOp_call _ _ _ rfl rfl ok26 ?_
         (try simp only [push_cast, Nat.reduceAdd])
         refine (weightR_ac l unit hr hlen (.mk n v xs) hb _).mono ?_
         rintro r H' ⟨rfl, rfl⟩
         all_goals (try simp only [push_cast, Nat.reduceAdd])
         all_goals (constructor <;> first | rfl | trivial)
       apply And.intro
       · apply DOne_do
         case' ho => rfl
         case' hw => rfl
         refine AOp_move ?_
         all_goals (try simp only [push_cast, Nat.reduceAdd])
         all_goals (constructor <;> first | rfl | trivial)
       apply And.intro
       · apply DOne_do
         case' ho => rfl
         case' hw => rfl
         refine AOp_move ?_
         all_goals (try simp only [push_cast, Nat.reduceAdd])
         all_goals (constructor <;> first | rfl | trivial)
       apply And.intro
       · apply DOne_do
         case' ho => rfl
         case' hw => rfl
         refine AOp_load_ptr _ _ _ _ rfl (by first | exact hget0 | exact hgetN _ rfl | assumption | exact hgetL (by assumption)) sz27 ag27 (by simp [push_cast]) ?_
         all_goals (try simp only [push_cast, Nat.reduceAdd])
         all_goals (constructor <;> first | rfl | trivial)
       apply And.intro
       · apply DOne_do
         case' ho => rfl
         case' hw => rfl
         refine AOp_call _ _ _ rfl rfl ok26 ?_
         (try simp only [push_cast, Nat.reduceAdd])
         refine (weightR_ac l unit hr hlen (.mk m u ys) hb2 _).mono ?_
         rintro r H' ⟨rfl, rfl⟩
         all_goals (try simp only [push_cast, Nat.reduceAdd])
         all_goals (constructor <;> first | rfl | trivial)
       apply And.intro
       · apply DOne_do
         case' ho => rfl
         case' hw => rfl
         refine AOp_assign ?_
         all_goals (try simp only [push_cast, Nat.reduceAdd])
         all_goals (constructor <;> first | rfl | trivial)
       apply And.intro
       · apply DOne_do
         case' ho => rfl
         case' hw => rfl
         refine AOp_assign ?_
         all_goals (try simp only [push_cast, Nat.reduceAdd])
         all_goals (constructor <;> first | rfl | trivial)
       exact trivial
      case' hQ => skip
      (try simp only [push_cast, putD, stg, beqB, List.replicate, Nat.reduceAdd, List.getD_cons_zero, List.getD_cons_succ])
      all_goals
       refine thenK_normal (hK5 _ ?_)
       try clear hK5
       refine AW_seq_k (fun K6 hK6 => ?_)
       refine AW_seq_k (fun K7 hK7 => ?_)
       refine AW_region ?_
       all_goals refine AOps_cons rfl (AOp_move ?_)
       all_goals refine AOps_cons rfl (AOp_move ?_)
       all_goals (try simp only [push_cast, Nat.reduceAdd])
       all_goals (refine AOps_cons rfl (AOp_bin_int _ _ _ _ rfl rfl rfl ?_) <;> try simp only [push_cast, Nat.reduceAdd])
       all_goals refine AOps_nil ?_
       all_goals
        refine thenK_normal (hK7 _ ?_)
        try clear hK7
        apply AW_cond
        case' hc => exact rfl
        case' hf =>
         intro hc8
         try (exfalso; (first | (cases hc8; done) | (simp at hc8; done) | (simp at hc8; omega)); done)
         all_goals (try simp only [decide_eq_true_eq, decide_eq_false_iff_not, Bool.not_eq_true', Bool.not_eq_false', Bool.not_eq_eq_eq_not, Bool.not_true, Bool.not_false] at hc8)
         all_goals
          refine AW_skip ?_
          refine thenK_normal (hK6 _ ?_)
          try clear hK6
          refine AW_seq_k (fun K9 hK9 => ?_)
          refine AW_block ?_
          refine AW_seq_k (fun K10 hK10 => ?_)
          refine AW_region ?_
          all_goals (refine AOps_cons rfl (AOp_fieldAddr_ptr _ _ _ _ rfl fd27_1 (by decide) ?_) <;> try simp only [push_cast, Nat.reduceAdd])
          all_goals (refine AOps_cons rfl (AOp_load1_ptr _ _ _ _ _ rfl (by first | exact hget0 | exact hgetN _ rfl | assumption | exact hgetL (by assumption)) sz4 ag4 (by decide) (by simp [push_cast]) rfl ?_) <;> try simp only [push_cast, Nat.reduceAdd])
          all_goals refine AOps_cons rfl (AOp_move ?_)
          all_goals (try simp only [push_cast, Nat.reduceAdd])
          all_goals (try refine AOps_split 33 _ rfl (fun hg11 => ?_) (fun hg11 => ?_))
          all_goals (try (exfalso; (first | (cases hg11; done) | (simp at hg11; done) | (simp at hg11; omega)); done))
          all_goals (try simp only [decide_eq_true_eq, decide_eq_false_iff_not, Bool.not_eq_true', Bool.not_eq_false', Bool.not_eq_eq_eq_not, Bool.not_true, Bool.not_false] at hg11)
          all_goals first
           | refine AOps_skip rfl ?_
           | (refine AOps_cons rfl ?_
              refine AOp_load_ptr _ _ _ _ rfl (by first | exact hget0 | exact hgetN _ rfl | assumption | exact hgetL (by assumption)) sz27 ag27 (by simp [push_cast]) ?_)
          all_goals (try simp only [push_cast, Nat.reduceAdd])
          all_goals first
           | refine AOps_skip rfl ?_
           | (refine AOps_cons rfl ?_
              refine AOp_load_ptr _ _ _ _ rfl (by first | exact hget0 | exact hgetN _ rfl | assumption | exact hgetL (by assumption)) sz27 ag27 (by simp [push_cast]) ?_)
          all_goals (try simp only [push_cast, Nat.reduceAdd])
          all_goals first
           | refine AOps_skip rfl ?_
           | (refine AOps_cons rfl ?_
              refine AOp_call _ _ _ rfl rfl ok35 ?_
              (try simp only [push_cast, Nat.reduceAdd])
              refine (equalR_ac (.mk n v xs) (.mk m u ys) hb hb2 _).mono ?_
              rintro r H' ⟨rfl, rfl⟩)
          all_goals (try simp only [push_cast, Nat.reduceAdd])
          all_goals refine AOps_cons rfl (AOp_pick _ rfl ?_)
          all_goals (refine AOps_cons rfl (AOp_assign ?_) <;> try simp only [push_cast, Nat.reduceAdd])
          all_goals refine AOps_nil ?_
          all_goals
           refine thenK_normal (hK10 _ ?_)
           try clear hK10
           apply AW_cond
           case' hc => exact rfl
           case' hf =>
            intro hc12
            try (exfalso; (first | (cases hc12; done) | (simp at hc12; done) | (simp at hc12; omega)); done)
            all_goals (try simp only [decide_eq_true_eq, decide_eq_false_iff_not, Bool.not_eq_true', Bool.not_eq_false', Bool.not_eq_eq_eq_not, Bool.not_true, Bool.not_false] at hc12)
            all_goals
             refine AW_seq_k (fun K13 hK13 => ?_)
             refine AW_region ?_
             all_goals (refine AOps_cons rfl (AOp_fieldAddr_ptr _ _ _ _ rfl fd27_1 (by decide) ?_) <;> try simp only [push_cast, Nat.reduceAdd])
             all_goals (refine AOps_cons rfl (AOp_load1_ptr _ _ _ _ _ rfl (by first | exact hget0 | exact hgetN _ rfl | assumption | exact hgetL (by assumption)) sz4 ag4 (by decide) (by simp [push_cast]) rfl ?_) <;> try simp only [push_cast, Nat.reduceAdd])
             all_goals refine AOps_cons rfl (AOp_move ?_)
             all_goals (try simp only [push_cast, Nat.reduceAdd])
             all_goals (try refine AOps_split 41 _ rfl (fun hg14 => ?_) (fun hg14 => ?_))
             all_goals (try (exfalso; (first | (cases hg14; done) | (simp at hg14; done) | (simp at hg14; omega)); done))
             all_goals (try simp only [decide_eq_true_eq, decide_eq_false_iff_not, Bool.not_eq_true', Bool.not_eq_false', Bool.not_eq_eq_eq_not, Bool.not_true, Bool.not_false] at hg14)
             all_goals first
              | refine AOps_skip rfl ?_
              | (refine AOps_cons rfl ?_
                 refine AOp_move ?_)
             all_goals (try simp only [push_cast, Nat.reduceAdd])
             all_goals first
              | refine AOps_skip rfl ?_
              | (refine AOps_cons rfl ?_
                 refine AOp_fieldAddr_ptr _ _ _ _ rfl fd27_0 (by decide) ?_)
             all_goals (try simp only [push_cast, Nat.reduceAdd])
             all_goals first
              | refine AOps_skip rfl ?_
              | (refine AOps_cons rfl ?_
                 refine AOp_load1_ptr _ _ _ _ _ rfl (by first | exact hget0 | exact hgetN _ rfl | assumption | exact hgetL (by assumption)) sz9 ag9 (by decide) (by simp [push_cast]) rfl ?_)
             all_goals (try simp only [push_cast, Nat.reduceAdd])
             all_goals first
              | refine AOps_skip rfl ?_
              | (refine AOps_cons rfl ?_
                 refine AOp_fieldAddr_ptr _ _ _ _ rfl fd27_0 (by decide) ?_)
             all_goals (try simp only [push_cast, Nat.reduceAdd])
             all_goals first
              | refine AOps_skip rfl ?_
              | (refine AOps_cons rfl ?_
                 refine AOp_load1_ptr _ _ _ _ _ rfl (by first | exact hget0 | exact hgetN _ rfl | assumption | exact hgetL (by assumption)) sz9 ag9 (by decide) (by simp [push_cast]) rfl ?_)
             all_goals (try simp only [push_cast, Nat.reduceAdd])
             all_goals first
              | refine AOps_skip rfl ?_
              | (refine AOps_cons rfl ?_
                 refine AOp_call _ _ _ rfl rfl ok33 ?_
                 (try simp only [push_cast, Nat.reduceAdd])
                 refine (aboveR_ac l n m hlen _).mono ?_
                 rintro r H' ⟨rfl, rfl⟩)
             all_goals (try simp only [push_cast, Nat.reduceAdd])
             all_goals refine AOps_cons rfl (AOp_pick _ rfl ?_)
             all_goals (refine AOps_cons rfl (AOp_assign ?_) <;> try simp only [push_cast, Nat.reduceAdd])
             all_goals refine AOps_nil ?_
             all_goals
              refine thenK_normal (hK13 _ ?_)
              try clear hK13
              apply AW_cond
              case' hc => exact rfl
              case' hf =>
               intro hc15
               try (exfalso; (first | (cases hc15; done) | (simp at hc15; done) | (simp at hc15; omega)); done)
               all_goals (try simp only [decide_eq_true_eq, decide_eq_false_iff_not, Bool.not_eq_true', Bool.not_eq_false', Bool.not_eq_eq_eq_not, Bool.not_true, Bool.not_false] at hc15)
               all_goals
                refine AW_seq_k (fun K16 hK16 => ?_)
                refine AW_region ?_
                all_goals (refine AOps_cons rfl (AOp_fieldAddr_ptr _ _ _ _ rfl fd27_0 (by decide) ?_) <;> try simp only [push_cast, Nat.reduceAdd])
                all_goals (refine AOps_cons rfl (AOp_load1_ptr _ _ _ _ _ rfl (by first | exact hget0 | exact hgetN _ rfl | assumption | exact hgetL (by assumption)) sz9 ag9 (by decide) (by simp [push_cast]) rfl ?_) <;> try simp only [push_cast, Nat.reduceAdd])
                all_goals (refine AOps_cons rfl (AOp_fieldAddr_ptr _ _ _ _ rfl fd27_0 (by decide) ?_) <;> try simp only [push_cast, Nat.reduceAdd])
                all_goals (refine AOps_cons rfl (AOp_load1_ptr _ _ _ _ _ rfl (by first | exact hget0 | exact hgetN _ rfl | assumption | exact hgetL (by assumption)) sz9 ag9 (by decide) (by simp [push_cast]) rfl ?_) <;> try simp only [push_cast, Nat.reduceAdd])
                all_goals (refine AOps_cons rfl (AOp_bin_str _ _ _ rfl rfl rfl ?_) <;> try simp only [push_cast, Nat.reduceAdd])
                all_goals refine AOps_cons rfl (AOp_move ?_)
                all_goals (try simp only [push_cast, Nat.reduceAdd])
                all_goals (try refine AOps_split 55 _ rfl (fun hg17 => ?_) (fun hg17 => ?_))
                all_goals (try (exfalso; (first | (cases hg17; done) | (simp at hg17; done) | (simp at hg17; omega)); done))
                all_goals (try simp only [decide_eq_true_eq, decide_eq_false_iff_not, Bool.not_eq_true', Bool.not_eq_false', Bool.not_eq_eq_eq_not, Bool.not_true, Bool.not_false] at hg17)
                all_goals first
                 | refine AOps_skip rfl ?_
                 | (refine AOps_cons rfl ?_
                    refine AOp_fieldAddr_ptr _ _ _ _ rfl fd27_2 (by decide) ?_)
                all_goals (try simp only [push_cast, Nat.reduceAdd])
                all_goals first
                 | refine AOps_skip rfl ?_
                 | (refine AOps_cons rfl ?_
                    refine AOp_load1_ptr _ _ _ _ _ rfl (by first | exact hget0 | exact hgetN _ rfl | assumption | exact hgetL (by assumption)) sz25 ag25 (by decide) (by simp [push_cast]) rfl ?_)
                all_goals (try simp only [push_cast, Nat.reduceAdd])
                all_goals first
                 | refine AOps_skip rfl ?_
                 | (refine AOps_cons rfl ?_
                    refine AOp_len_sl _ _ _ rfl sl25 ?_)
                all_goals (try simp only [push_cast, Nat.reduceAdd])
                all_goals first
                 | refine AOps_skip rfl ?_
                 | (refine AOps_cons rfl ?_
                    refine AOp_fieldAddr_ptr _ _ _ _ rfl fd27_2 (by decide) ?_)
                all_goals (try simp only [push_cast, Nat.reduceAdd])
                all_goals first
                 | refine AOps_skip rfl ?_
                 | (refine AOps_cons rfl ?_
                    refine AOp_load1_ptr _ _ _ _ _ rfl (by first | exact hget0 | exact hgetN _ rfl | assumption | exact hgetL (by assumption)) sz25 ag25 (by decide) (by simp [push_cast]) rfl ?_)
                all_goals (try simp only [push_cast, Nat.reduceAdd])
                all_goals first
                 | refine AOps_skip rfl ?_
                 | (refine AOps_cons rfl ?_
                    refine AOp_len_sl _ _ _ rfl sl25 ?_)
                all_goals (try simp only [push_cast, Nat.reduceAdd])
                all_goals first
                 | refine AOps_skip rfl ?_
                 | (refine AOps_cons rfl ?_
                    refine AOp_bin_int _ _ _ _ rfl rfl rfl ?_)
                all_goals (try simp only [push_cast, Nat.reduceAdd])
                all_goals refine AOps_cons rfl (AOp_pick _ rfl ?_)
                all_goals (refine AOps_cons rfl (AOp_assign ?_) <;> try simp only [push_cast, Nat.reduceAdd])
                all_goals refine AOps_nil ?_
                all_goals
                 refine thenK_normal (hK16 _ ?_)
                 try clear hK16
                 apply AW_cond
                 case' hc => exact rfl
                 case' hf =>
                  intro hc18
                  try (exfalso; (first | (cases hc18; done) | (simp at hc18; done) | (simp at hc18; omega)); done)
                  all_goals (try simp only [decide_eq_true_eq, decide_eq_false_iff_not, Bool.not_eq_true', Bool.not_eq_false', Bool.not_eq_eq_eq_not, Bool.not_true, Bool.not_false] at hc18)
                  all_goals
                   refine AW_skip ?_
                   refine blockK_normal ?_
                   refine thenK_normal (hK9 _ ?_)
                   try clear hK9
                   refine AW_seq_k (fun K19 hK19 => ?_)
                   refine AW_seq_k (fun K20 hK20 => ?_)
                   refine AW_region ?_
                   all_goals (refine AOps_cons rfl (AOp_fieldAddr_ptr _ _ _ _ rfl fd27_2 (by decide) ?_) <;> try simp only [push_cast, Nat.reduceAdd])
                   all_goals (refine AOps_cons rfl (AOp_load1_ptr _ _ _ _ _ rfl (by first | exact hget0 | exact hgetN _ rfl | assumption | exact hgetL (by assumption)) sz25 ag25 (by decide) (by simp [push_cast]) rfl ?_) <;> try simp only [push_cast, Nat.reduceAdd])
                   all_goals (refine AOps_cons rfl (AOp_len_sl _ _ _ rfl sl25 ?_) <;> try simp only [push_cast, Nat.reduceAdd])
                   all_goals (refine AOps_cons rfl (AOp_move ?_) <;> try simp only [push_cast, Nat.reduceAdd])
                   all_goals refine AOps_nil ?_
                   all_goals
                    refine thenK_normal (hK20 _ ?_)
                    try clear hK20
                    refine AW_block ?_
                    have hnm : n = m := by assumption
                    have hll : xs.length = ys.length := by omega
                    refine AW_loopR (maskG 96 [0, 0, 4, 0, 58, 0]) (fun (i : Nat) => [(67, .int .i64 i)]) (fun _ => _) (fun i => i ≤ xs.length ∧ xs.take i = ys.take i) (fun i => xs.length - i) 0 ⟨Nat.zero_le _, by simp⟩ (by (simp only [push_cast, Nat.reduceAdd]; refine weak_app 2 ?_ (by simp) (by simp [push_cast]); (repeat (first | exact SlotsOk.nil | refine SlotsOk.junk ?_ | refine SlotsOk.same (by first | (simp [push_cast]; done) | (simp [push_cast, Scoped, ScopedL, *]; done)) ?_ | refine SlotsOk.tok (by first | rfl | (simp; done)) (by first | (simp [push_cast]; done) | (simp [push_cast, Scoped, ScopedL, *]; done)) ?_ | refine SlotsOk.eq (by first | rfl | (congr 1; omega) | (simp; done) | (simp; omega)) (by first | (simp [push_cast]; done) | (simp [push_cast, Scoped, ScopedL, *]; done)) ?_)))) (fun i hi => ?_)
                    (try simp only [push_cast, Nat.reduceAdd])
                    refine AW_seq_k (fun K21 hK21 => ?_)
                    refine AW_region ?_
                    all_goals (refine AOps_cons rfl (AOp_bin_int _ _ _ _ rfl rfl rfl ?_) <;> try simp only [push_cast, Nat.reduceAdd])
                    all_goals refine AOps_nil ?_
                    all_goals
                     refine thenK_normal (hK21 _ ?_)
                     try clear hK21
                     refine AW_seq_k (fun K22 hK22 => ?_)
                     apply AW_cond
                     case' hc => exact rfl
                     case' hf =>
                      intro hc23
                      try (exfalso; (first | (cases hc23; done) | (simp at hc23; done) | (simp at hc23; omega)); done)
                      all_goals (try simp only [decide_eq_true_eq, decide_eq_false_iff_not, Bool.not_eq_true', Bool.not_eq_false', Bool.not_eq_eq_eq_not, Bool.not_true, Bool.not_false] at hc23)
                      all_goals
                       refine AW_exit ?_
                       repeat (first | refine thenK_exit ?_ | refine loopK_exit ?_ | refine blockK_other (by decide) ?_)
                       refine blockK_same ?_
                       refine thenK_normal (hK19 _ ?_)
                       try clear hK19
                       refine AW_seq_k (fun K24 hK24 => ?_)
                       refine AW_region ?_
                       all_goals (refine AOps_cons rfl (AOp_assign ?_) <;> try simp only [push_cast, Nat.reduceAdd])
                       all_goals refine AOps_nil ?_
                       all_goals
                        refine thenK_normal (hK24 _ ?_)
                        try clear hK24
                        refine AW_ret ?_
                        repeat (first | refine thenK_ret ?_ | refine loopK_ret ?_ | refine blockK_ret ?_)
                        refine ⟨by first | exact .inl rfl | exact .inr rfl, _, rfl, (by first | exact outok_app 0 rfl (Nat.zero_le _) (by simp) | exact outok_self), by simp [push_cast], ?_⟩
                        simp only [push_cast, Nat.reduceAdd]
                        rw [hea]
                        first
                          | (have hcf : coversP (.mk n v xs) (.mk m u ys) = false := (by assumption); simp [kboC, hcf]; done)
                          | (have hcov : coversP (.mk n v xs) (.mk m u ys) = true := (by assumption)
                             first
                               | (have hw : ¬ weightP l unit (.mk n v xs) = weightP l unit (.mk m u ys) := (by assumption); simp [kboC, hcov, hw]; (try rfl); done)
                               | (have hw : weightP l unit (.mk n v xs) = weightP l unit (.mk m u ys) := (by assumption); have hv : v = true := (by assumption); subst hv; simp [kboC, hcov, hw, Term.var]; (try rfl); done)
                               | (have he : Term.mk n v xs = Term.mk m u ys := (by assumption); rw [← hea, ← he, hirr]; exact ⟨rfl, trivial⟩)
                               | (have hw : weightP l unit (.mk n v xs) = weightP l unit (.mk m u ys) := (by assumption); have hv : v = false := (by assumption); have hu : u = true := (by assumption); subst hv; subst hu; simp [kboC, hcov, hw, Term.var]; (try rfl); done)
                               | (have hw : weightP l unit (.mk n v xs) = weightP l unit (.mk m u ys) := (by assumption); have hv : v = false := (by assumption); have hu : u = false := (by assumption); subst hv; subst hu; have hk : (ofP l m).rank < (ofP l n).rank := (by assumption); have hn : ¬ n = m := (by intro e; subst e; omega); simp [kboC, hcov, hw, hn, hk, Term.var, Term.name]; (try rfl); done)
                               | (have hw : weightP l unit (.mk n v xs) = weightP l unit (.mk m u ys) := (by assumption); have hv : v = false := (by assumption); have hu : u = false := (by assumption); subst hv; subst hu; have hk : ¬ (ofP l m).rank < (ofP l n).rank := (by assumption); have hn : ¬ n = m := (by assumption); simp [kboC, hcov, hw, hn, hk, Term.var, Term.name]; (try rfl); done)
                               | (have hw : weightP l unit (.mk n v xs) = weightP l unit (.mk m u ys) := (by assumption); have hv : v = false := (by assumption); have hu : u = false := (by assumption); subst hv; subst hu; have hk : ¬ (ofP l m).rank < (ofP l n).rank := (by assumption); have hn : n = m := (by assumption); subst hn; have hlq : ¬ xs.length = ys.length := (by omega); simp [kboC, hcov, hw, hlq, Term.var, Term.name, Term.args]; (try rfl); done)
                               | (have hw : weightP l unit (.mk n v xs) = weightP l unit (.mk m u ys) := (by assumption); have hv : v = false := (by assumption); have hu : u = false := (by assumption); subst hv; subst hu
                                  have hq : kboTs l unit xs ys = aboveP l unit (xs[i]'(by omega)) (ys[i]'(by omega)) := (by rw [kboTs_drop l unit xs ys i hi.2, List.drop_eq_getElem_cons (show i < xs.length by omega), List.drop_eq_getElem_cons (show i < ys.length by omega), kboTs_cons, if_neg (by assumption)])
                                  subst hnm; simp [kboC, hcov, hw, hll, hq, Term.var, Term.name, Term.args]; (try rfl); done)
                               | (have hw : weightP l unit (.mk n v xs) = weightP l unit (.mk m u ys) := (by assumption); have hv : v = false := (by assumption); have hu : u = false := (by assumption); subst hv; subst hu
                                  have hq : kboTs l unit xs ys = false := (by rw [kboTs_drop l unit xs ys i hi.2, List.drop_eq_nil_of_le (show xs.length ≤ i by omega)]; exact kboTs_nil _ _ _)
                                  subst hnm; simp [kboC, hcov, hw, hll, hq, Term.var, Term.name, Term.args]; (try rfl); done)
                               | fail "ret2")
                     case' ht =>
                      intro hc23
                      try (exfalso; (first | (cases hc23; done) | (simp at hc23; done) | (simp at hc23; omega)); done)
                      all_goals (try simp only [decide_eq_true_eq, decide_eq_false_iff_not, Bool.not_eq_true', Bool.not_eq_false', Bool.not_eq_eq_eq_not, Bool.not_true, Bool.not_false] at hc23)
                      all_goals
                       refine AW_skip ?_
                       refine thenK_normal (hK22 _ ?_)
                       try clear hK22
                       refine AW_seq_k (fun K25 hK25 => ?_)
                       refine AW_block ?_
                       refine AW_seq_k (fun K26 hK26 => ?_)
                       refine AW_region ?_
                       all_goals refine AOps_cons rfl (AOp_move ?_)
                       all_goals (refine AOps_cons rfl (AOp_assign ?_) <;> try simp only [push_cast, Nat.reduceAdd])
                       all_goals refine AOps_nil ?_
                       all_goals
                        refine thenK_normal (hK26 _ ?_)
                        try clear hK26
                        refine AW_seq_k (fun K27 hK27 => ?_)
                        apply AW_drawE [some 70, some 71, some 72, some 73, some 74, some 75, some 76, some 77, some 78, some 79, some 80, some 81] [([], _)] [none, none, none, none, none, none, none, none, none, none, none, none] 0 [(0, [], [6]), (1, [], [70]), (2, [], [11]), (3, [], [71, 0]), (4, [], [73]), (5, [], [7]), (6, [], [75]), (7, [], [11]), (8, [], [76, 0]), (9, [], [78]), (10, [], [74, 4]), (11, [], [80])] [_, _, _, _, _, _, _, _, _, _, _, _]
                        case' hm => exact dr
                        case' hn => rfl
                        case' hok => rfl
                        case' hlen => rfl
                        case' hd => rfl
                        case' h0 => rfl
                        case' hstep =>
                         simp only [DAllG, keepG, List.map_cons, List.map_nil, putD, stg, beqB, List.set_cons_zero, List.set_cons_succ, List.getD_cons_zero, List.getD_cons_succ, Option.isSome_some, Option.isSome_none]
                         apply And.intro
                         · apply DOne_do
                           case' ho => rfl
                           case' hw => rfl
                           refine AOp_fieldAddr_ptr _ _ _ _ rfl fd27_2 (by decide) ?_
                           all_goals (try simp only [push_cast, Nat.reduceAdd])
                           all_goals (constructor <;> first | rfl | trivial)
                         apply And.intro
                         · apply DOne_do
                           case' ho => rfl
                           case' hw => rfl
                           refine AOp_load1_ptr _ _ _ _ _ rfl (by first | exact hget0 | exact hgetN _ rfl | assumption | exact hgetL (by assumption)) sz25 ag25 (by decide) (by simp [push_cast]) rfl ?_
                           all_goals (try simp only [push_cast, Nat.reduceAdd])
                           all_goals (constructor <;> first | rfl | trivial)
                         apply And.intro
                         · apply DOne_do
                           case' ho => rfl
                           case' hw => rfl
                           refine AOp_move ?_
                           all_goals (try simp only [push_cast, Nat.reduceAdd])
                           all_goals (constructor <;> first | rfl | trivial)
                         apply And.intro
                         · apply DOne_do
                           case' ho => rfl
                           case' hw => rfl
                           refine AOp_indexAddr_sl 27 _ _ _ _ _ rfl rfl sl25 sz27 (by decide) (by exact uni_encTs _) (by first | omega | (simp; omega)) (by first | omega | (simp [push_cast]; omega) | (simp [push_cast]; done)) ?_
                           all_goals (try simp only [push_cast, Nat.reduceAdd])
                           all_goals (constructor <;> first | rfl | trivial)
                         apply And.intro
                         · apply DOne_do
                           case' ho => rfl
                           case' hw => rfl
                           refine AOp_load_cptr _ _ rfl sz27 ag27 (by simp [push_cast]) ?_
                           all_goals (try simp only [push_cast, Nat.reduceAdd])
                           all_goals (constructor <;> first | rfl | trivial)
                         apply And.intro
                         · apply DOne_do
                           case' ho => rfl
                           case' hw => rfl
                           refine AOp_fieldAddr_ptr _ _ _ _ rfl fd27_2 (by decide) ?_
                           all_goals (try simp only [push_cast, Nat.reduceAdd])
                           all_goals (constructor <;> first | rfl | trivial)
                         apply And.intro
                         · apply DOne_do
                           case' ho => rfl
                           case' hw => rfl
                           refine AOp_load1_ptr _ _ _ _ _ rfl (by first | exact hget0 | exact hgetN _ rfl | assumption | exact hgetL (by assumption)) sz25 ag25 (by decide) (by simp [push_cast]) rfl ?_
                           all_goals (try simp only [push_cast, Nat.reduceAdd])
                           all_goals (constructor <;> first | rfl | trivial)
                         apply And.intro
                         · apply DOne_do
                           case' ho => rfl
                           case' hw => rfl
                           refine AOp_move ?_
                           all_goals (try simp only [push_cast, Nat.reduceAdd])
                           all_goals (constructor <;> first | rfl | trivial)
                         apply And.intro
                         · apply DOne_do
                           case' ho => rfl
                           case' hw => rfl
                           refine AOp_indexAddr_sl 27 _ _ _ _ _ rfl rfl sl25 sz27 (by decide) (by exact uni_encTs _) (by first | omega | (simp; omega)) (by first | omega | (simp [push_cast]; omega) | (simp [push_cast]; done)) ?_
                           all_goals (try simp only [push_cast, Nat.reduceAdd])
                           all_goals (constructor <;> first | rfl | trivial)
                         apply And.intro
                         · apply DOne_do
                           case' ho => rfl
                           case' hw => rfl
                           refine AOp_load_cptr _ _ rfl sz27 ag27 (by simp [push_cast]) ?_
                           all_goals (try simp only [push_cast, Nat.reduceAdd])
                           all_goals (constructor <;> first | rfl | trivial)
                         apply And.intro
                         · apply DOne_do
                           case' ho => rfl
                           case' hw => rfl
                           refine AOp_call _ _ _ rfl rfl ok35 ?_
                           (try simp only [push_cast, Nat.reduceAdd])
                           have b1 := Term.arg_le (n := n) (v := v) (show xs[i]'(by omega) ∈ xs by simp)
                           have b2 := Term.arg_le (n := m) (v := u) (show ys[i]'(by omega) ∈ ys by simp)
                           refine (equalR_ac (xs[i]'(by omega)) (ys[i]'(by omega)) (by omega) (by omega) _).mono ?_
                           rintro r H' ⟨rfl, rfl⟩
                           all_goals (try simp only [push_cast, Nat.reduceAdd])
                           all_goals (constructor <;> first | rfl | trivial)
                         apply And.intro
                         · apply DOne_do
                           case' ho => rfl
                           case' hw => rfl
                           refine AOp_not _ rfl ?_
                           all_goals (try simp only [push_cast, Nat.reduceAdd])
                           all_goals (constructor <;> first | rfl | trivial)
                         exact trivial
                        case' hQ => skip
                        (try simp only [push_cast, putD, stg, beqB, List.replicate, Nat.reduceAdd, List.getD_cons_zero, List.getD_cons_succ])
                        all_goals
                         refine thenK_normal (hK27 _ ?_)
                         try clear hK27
                         apply AW_cond
                         case' hc => exact rfl
                         case' hf =>
                          intro hc28
                          try (exfalso; (first | (cases hc28; done) | (simp at hc28; done) | (simp at hc28; omega)); done)
                          all_goals (try simp only [decide_eq_true_eq, decide_eq_false_iff_not, Bool.not_eq_true', Bool.not_eq_false', Bool.not_eq_eq_eq_not, Bool.not_true, Bool.not_false] at hc28)
                          all_goals
                           refine AW_skip ?_
                           refine blockK_normal ?_
                           refine thenK_normal (hK25 _ ?_)
                           try clear hK25
                           refine AW_region ?_
                           all_goals refine AOps_cons rfl (AOp_bin_int _ _ _ _ rfl rfl rfl ?_)
                           all_goals (try simp only [push_cast, Nat.reduceAdd])
                           all_goals (try rw [IntWalk.i64_in _ (by omega)])
                           all_goals (try simp only [push_cast, Nat.reduceAdd])
                           all_goals (refine AOps_cons rfl (AOp_move ?_) <;> try simp only [push_cast, Nat.reduceAdd])
                           all_goals refine AOps_nil ?_
                           all_goals
                            refine loopK_normal ?_
                            refine ⟨i + 1, ⟨by omega, ?_⟩, by (simp only [push_cast, Nat.reduceAdd]; refine weak_app 2 ?_ (by simp) (by simp [push_cast]); (repeat (first | exact SlotsOk.nil | refine SlotsOk.junk ?_ | refine SlotsOk.same (by first | (simp [push_cast]; done) | (simp [push_cast, Scoped, ScopedL, *]; done)) ?_ | refine SlotsOk.tok (by first | rfl | (simp; done)) (by first | (simp [push_cast]; done) | (simp [push_cast, Scoped, ScopedL, *]; done)) ?_ | refine SlotsOk.eq (by first | rfl | (congr 1; omega) | (simp; done) | (simp; omega)) (by first | (simp [push_cast]; done) | (simp [push_cast, Scoped, ScopedL, *]; done)) ?_))), by omega⟩
                            have he : xs[i]'(by omega) = ys[i]'(by omega) := by assumption
                            rw [List.take_succ_eq_append_getElem (by omega), List.take_succ_eq_append_getElem (by omega), hi.2, he]
                         case' ht =>
                          intro hc28
                          try (exfalso; (first | (cases hc28; done) | (simp at hc28; done) | (simp at hc28; omega)); done)
                          all_goals (try simp only [decide_eq_true_eq, decide_eq_false_iff_not, Bool.not_eq_true', Bool.not_eq_false', Bool.not_eq_eq_eq_not, Bool.not_true, Bool.not_false] at hc28)
                          all_goals
                           refine AW_seq_k (fun K29 hK29 => ?_)
                           apply AW_drawE [some 82, some 83, some 84, some 85, some 86, some 87, some 88, some 89, some 90, some 91, some 92, some 93, some 94, some 8] [([], _)] [none, none, none, none, none, none, none, none, none, none, none, none, none, none] 0 [(0, [], [0]), (1, [], [1]), (2, [], [6]), (3, [], [84]), (4, [], [11]), (5, [], [85, 0]), (6, [], [87]), (7, [], [7]), (8, [], [89]), (9, [], [11]), (10, [], [90, 0]), (11, [], [92]), (12, [], [82, 0, 4, 4]), (13, [], [94])] [_, _, _, _, _, _, _, _, _, _, _, _, _, _]
                           case' hm => exact dr
                           case' hn => rfl
                           case' hok => rfl
                           case' hlen => rfl
                           case' hd => rfl
                           case' h0 => rfl
                           case' hstep =>
                            simp only [DAllG, keepG, List.map_cons, List.map_nil, putD, stg, beqB, List.set_cons_zero, List.set_cons_succ, List.getD_cons_zero, List.getD_cons_succ, Option.isSome_some, Option.isSome_none]
                            apply And.intro
                            · apply DOne_do
                              case' ho => rfl
                              case' hw => rfl
                              refine AOp_move ?_
                              all_goals (try simp only [push_cast, Nat.reduceAdd])
                              all_goals (constructor <;> first | rfl | trivial)
                            apply And.intro
                            · apply DOne_do
                              case' ho => rfl
                              case' hw => rfl
                              refine AOp_move ?_
                              all_goals (try simp only [push_cast, Nat.reduceAdd])
                              all_goals (constructor <;> first | rfl | trivial)
                            apply And.intro
                            · apply DOne_do
                              case' ho => rfl
                              case' hw => rfl
                              refine AOp_fieldAddr_ptr _ _ _ _ rfl fd27_2 (by decide) ?_
                              all_goals (try simp only [push_cast, Nat.reduceAdd])
                              all_goals (constructor <;> first | rfl | trivial)
                            apply And.intro
                            · apply DOne_do
                              case' ho => rfl
                              case' hw => rfl
                              refine AOp_load1_ptr _ _ _ _ _ rfl (by first | exact hget0 | exact hgetN _ rfl | assumption | exact hgetL (by assumption)) sz25 ag25 (by decide) (by simp [push_cast]) rfl ?_
                              all_goals (try simp only [push_cast, Nat.reduceAdd])
                              all_goals (constructor <;> first | rfl | trivial)
                            apply And.intro
                            · apply DOne_do
                              case' ho => rfl
                              case' hw => rfl
                              refine AOp_move ?_
                              all_goals (try simp only [push_cast, Nat.reduceAdd])
                              all_goals (constructor <;> first | rfl | trivial)
                            apply And.intro
                            · apply DOne_do
                              case' ho => rfl
                              case' hw => rfl
                              refine AOp_indexAddr_sl 27 _ _ _ _ _ rfl rfl sl25 sz27 (by decide) (by exact uni_encTs _) (by first | omega | (simp; omega)) (by first | omega | (simp [push_cast]; omega) | (simp [push_cast]; done)) ?_
                              all_goals (try simp only [push_cast, Nat.reduceAdd])
                              all_goals (constructor <;> first | rfl | trivial)
                            apply And.intro
                            · apply DOne_do
                              case' ho => rfl
                              case' hw => rfl
                              refine AOp_load_cptr _ _ rfl sz27 ag27 (by simp [push_cast]) ?_
                              all_goals (try simp only [push_cast, Nat.reduceAdd])
                              all_goals (constructor <;> first | rfl | trivial)
                            apply And.intro
                            · apply DOne_do
                              case' ho => rfl
                              case' hw => rfl
                              refine AOp_fieldAddr_ptr _ _ _ _ rfl fd27_2 (by decide) ?_
                              all_goals (try simp only [push_cast, Nat.reduceAdd])
                              all_goals (constructor <;> first | rfl | trivial)
                            apply And.intro
                            · apply DOne_do
                              case' ho => rfl
                              case' hw => rfl
                              refine AOp_load1_ptr _ _ _ _ _ rfl (by first | exact hget0 | exact hgetN _ rfl | assumption | exact hgetL (by assumption)) sz25 ag25 (by decide) (by simp [push_cast]) rfl ?_
                              all_goals (try simp only [push_cast, Nat.reduceAdd])
                              all_goals (constructor <;> first | rfl | trivial)
                            apply And.intro
                            · apply DOne_do
                              case' ho => rfl
                              case' hw => rfl
                              refine AOp_move ?_
                              all_goals (try simp only [push_cast, Nat.reduceAdd])
                              all_goals (constructor <;> first | rfl | trivial)
                            apply And.intro
                            · apply DOne_do
                              case' ho => rfl
                              case' hw => rfl
                              refine AOp_indexAddr_sl 27 _ _ _ _ _ rfl rfl sl25 sz27 (by decide) (by exact uni_encTs _) (by first | omega | (simp; omega)) (by first | omega | (simp [push_cast]; omega) | (simp [push_cast]; done)) ?_
                              all_goals (try simp only [push_cast, Nat.reduceAdd])
                              all_goals (constructor <;> first | rfl | trivial)
                            apply And.intro
                            · apply DOne_do
                              case' ho => rfl
                              case' hw => rfl
                              refine AOp_load_cptr _ _ rfl sz27 ag27 (by simp [push_cast]) ?_
                              all_goals (try simp only [push_cast, Nat.reduceAdd])
                              all_goals (constructor <;> first | rfl | trivial)
                            apply And.intro
                            · apply DOne_do
                              case' ho => rfl
                              case' hw => rfl
                              refine AOp_call _ _ _ rfl rfl ok13 ?_
                              (try simp only [push_cast, Nat.reduceAdd])
                              have b1 := Term.arg_le (n := n) (v := v) (show xs[i]'(by omega) ∈ xs by simp)
                              have b2 := Term.arg_le (n := m) (v := u) (show ys[i]'(by omega) ∈ ys by simp)
                              refine (ih (xs[i]'(by omega)) (by simp) (ys[i]'(by omega)) (by omega) (by omega) _).mono ?_
                              rintro r H' ⟨rfl, rfl⟩
                              all_goals (try simp only [push_cast, Nat.reduceAdd])
                              all_goals (constructor <;> first | rfl | trivial)
                            apply And.intro
                            · apply DOne_do
                              case' ho => rfl
                              case' hw => rfl
                              refine AOp_assign ?_
                              all_goals (try simp only [push_cast, Nat.reduceAdd])
                              all_goals (constructor <;> first | rfl | trivial)
                            exact trivial
                           case' hQ => skip
                           (try simp only [push_cast, putD, stg, beqB, List.replicate, Nat.reduceAdd, List.getD_cons_zero, List.getD_cons_succ])
                           all_goals
                            refine thenK_normal (hK29 _ ?_)
                            try clear hK29
                            refine AW_ret ?_
                            repeat (first | refine thenK_ret ?_ | refine loopK_ret ?_ | refine blockK_ret ?_)
                            refine ⟨by first | exact .inl rfl | exact .inr rfl, _, rfl, (by first | exact outok_app 0 rfl (Nat.zero_le _) (by simp) | exact outok_self), by simp [push_cast], ?_⟩
                            simp only [push_cast, Nat.reduceAdd]
                            rw [hea]
                            first
                              | (have hcf : coversP (.mk n v xs) (.mk m u ys) = false := (by assumption); simp [kboC, hcf]; done)
                              | (have hcov : coversP (.mk n v xs) (.mk m u ys) = true := (by assumption)
                                 first
                                   | (have hw : ¬ weightP l unit (.mk n v xs) = weightP l unit (.mk m u ys) := (by assumption); simp [kboC, hcov, hw]; (try rfl); done)
                                   | (have hw : weightP l unit (.mk n v xs) = weightP l unit (.mk m u ys) := (by assumption); have hv : v = true := (by assumption); subst hv; simp [kboC, hcov, hw, Term.var]; (try rfl); done)
                                   | (have he : Term.mk n v xs = Term.mk m u ys := (by assumption); rw [← hea, ← he, hirr]; exact ⟨rfl, trivial⟩)
                                   | (have hw : weightP l unit (.mk n v xs) = weightP l unit (.mk m u ys) := (by assumption); have hv : v = false := (by assumption); have hu : u = true := (by assumption); subst hv; subst hu; simp [kboC, hcov, hw, Term.var]; (try rfl); done)
                                   | (have hw : weightP l unit (.mk n v xs) = weightP l unit (.mk m u ys) := (by assumption); have hv : v = false := (by assumption); have hu : u = false := (by assumption); subst hv; subst hu; have hk : (ofP l m).rank < (ofP l n).rank := (by assumption); have hn : ¬ n = m := (by intro e; subst e; omega); simp [kboC, hcov, hw, hn, hk, Term.var, Term.name]; (try rfl); done)
                                   | (have hw : weightP l unit (.mk n v xs) = weightP l unit (.mk m u ys) := (by assumption); have hv : v = false := (by assumption); have hu : u = false := (by assumption); subst hv; subst hu; have hk : ¬ (ofP l m).rank < (ofP l n).rank := (by assumption); have hn : ¬ n = m := (by assumption); simp [kboC, hcov, hw, hn, hk, Term.var, Term.name]; (try rfl); done)
                                   | (have hw : weightP l unit (.mk n v xs) = weightP l unit (.mk m u ys) := (by assumption); have hv : v = false := (by assumption); have hu : u = false := (by assumption); subst hv; subst hu; have hk : ¬ (ofP l m).rank < (ofP l n).rank := (by assumption); have hn : n = m := (by assumption); subst hn; have hlq : ¬ xs.length = ys.length := (by omega); simp [kboC, hcov, hw, hlq, Term.var, Term.name, Term.args]; (try rfl); done)
                                   | (have hw : weightP l unit (.mk n v xs) = weightP l unit (.mk m u ys) := (by assumption); have hv : v = false := (by assumption); have hu : u = false := (by assumption); subst hv; subst hu
                                      have hq : kboTs l unit xs ys = aboveP l unit (xs[i]'(by omega)) (ys[i]'(by omega)) := (by rw [kboTs_drop l unit xs ys i hi.2, List.drop_eq_getElem_cons (show i < xs.length by omega), List.drop_eq_getElem_cons (show i < ys.length by omega), kboTs_cons, if_neg (by assumption)])
                                      subst hnm; simp [kboC, hcov, hw, hll, hq, Term.var, Term.name, Term.args]; (try rfl); done)
                                   | (have hw : weightP l unit (.mk n v xs) = weightP l unit (.mk m u ys) := (by assumption); have hv : v = false := (by assumption); have hu : u = false := (by assumption); subst hv; subst hu
                                      have hq : kboTs l unit xs ys = false := (by rw [kboTs_drop l unit xs ys i hi.2, List.drop_eq_nil_of_le (show xs.length ≤ i by omega)]; exact kboTs_nil _ _ _)
                                      subst hnm; simp [kboC, hcov, hw, hll, hq, Term.var, Term.name, Term.args]; (try rfl); done)
                                   | fail "ret2")
                 case' ht =>
                  intro hc18
                  try (exfalso; (first | (cases hc18; done) | (simp at hc18; done) | (simp at hc18; omega)); done)
                  all_goals (try simp only [decide_eq_true_eq, decide_eq_false_iff_not, Bool.not_eq_true', Bool.not_eq_false', Bool.not_eq_eq_eq_not, Bool.not_true, Bool.not_false] at hc18)
                  all_goals
                   refine AW_seq_k (fun K30 hK30 => ?_)
                   refine AW_region ?_
                   all_goals (refine AOps_cons rfl (AOp_assign ?_) <;> try simp only [push_cast, Nat.reduceAdd])
                   all_goals refine AOps_nil ?_
                   all_goals
                    refine thenK_normal (hK30 _ ?_)
                    try clear hK30
                    refine AW_ret ?_
                    repeat (first | refine thenK_ret ?_ | refine loopK_ret ?_ | refine blockK_ret ?_)
                    refine ⟨by first | exact .inl rfl | exact .inr rfl, _, rfl, (by first | exact outok_app 0 rfl (Nat.zero_le _) (by simp) | exact outok_self), by simp [push_cast], ?_⟩
                    simp only [push_cast, Nat.reduceAdd]
                    rw [hea]
                    first
                      | (have hcf : coversP (.mk n v xs) (.mk m u ys) = false := (by assumption); simp [kboC, hcf]; done)
                      | (have hcov : coversP (.mk n v xs) (.mk m u ys) = true := (by assumption)
                         first
                           | (have hw : ¬ weightP l unit (.mk n v xs) = weightP l unit (.mk m u ys) := (by assumption); simp [kboC, hcov, hw]; (try rfl); done)
                           | (have hw : weightP l unit (.mk n v xs) = weightP l unit (.mk m u ys) := (by assumption); have hv : v = true := (by assumption); subst hv; simp [kboC, hcov, hw, Term.var]; (try rfl); done)
                           | (have he : Term.mk n v xs = Term.mk m u ys := (by assumption); rw [← hea, ← he, hirr]; exact ⟨rfl, trivial⟩)
                           | (have hw : weightP l unit (.mk n v xs) = weightP l unit (.mk m u ys) := (by assumption); have hv : v = false := (by assumption); have hu : u = true := (by assumption); subst hv; subst hu; simp [kboC, hcov, hw, Term.var]; (try rfl); done)
                           | (have hw : weightP l unit (.mk n v xs) = weightP l unit (.mk m u ys) := (by assumption); have hv : v = false := (by assumption); have hu : u = false := (by assumption); subst hv; subst hu; have hk : (ofP l m).rank < (ofP l n).rank := (by assumption); have hn : ¬ n = m := (by intro e; subst e; omega); simp [kboC, hcov, hw, hn, hk, Term.var, Term.name]; (try rfl); done)
                           | (have hw : weightP l unit (.mk n v xs) = weightP l unit (.mk m u ys) := (by assumption); have hv : v = false := (by assumption); have hu : u = false := (by assumption); subst hv; subst hu; have hk : ¬ (ofP l m).rank < (ofP l n).rank := (by assumption); have hn : ¬ n = m := (by assumption); simp [kboC, hcov, hw, hn, hk, Term.var, Term.name]; (try rfl); done)
                           | (have hw : weightP l unit (.mk n v xs) = weightP l unit (.mk m u ys) := (by assumption); have hv : v = false := (by assumption); have hu : u = false := (by assumption); subst hv; subst hu; have hk : ¬ (ofP l m).rank < (ofP l n).rank := (by assumption); have hn : n = m := (by assumption); subst hn; have hlq : ¬ xs.length = ys.length := (by omega); simp [kboC, hcov, hw, hlq, Term.var, Term.name, Term.args]; (try rfl); done)
                           | (have hw : weightP l unit (.mk n v xs) = weightP l unit (.mk m u ys) := (by assumption); have hv : v = false := (by assumption); have hu : u = false := (by assumption); subst hv; subst hu
                              have hq : kboTs l unit xs ys = aboveP l unit (xs[i]'(by omega)) (ys[i]'(by omega)) := (by rw [kboTs_drop l unit xs ys i hi.2, List.drop_eq_getElem_cons (show i < xs.length by omega), List.drop_eq_getElem_cons (show i < ys.length by omega), kboTs_cons, if_neg (by assumption)])
                              subst hnm; simp [kboC, hcov, hw, hll, hq, Term.var, Term.name, Term.args]; (try rfl); done)
                           | (have hw : weightP l unit (.mk n v xs) = weightP l unit (.mk m u ys) := (by assumption); have hv : v = false := (by assumption); have hu : u = false := (by assumption); subst hv; subst hu
                              have hq : kboTs l unit xs ys = false := (by rw [kboTs_drop l unit xs ys i hi.2, List.drop_eq_nil_of_le (show xs.length ≤ i by omega)]; exact kboTs_nil _ _ _)
                              subst hnm; simp [kboC, hcov, hw, hll, hq, Term.var, Term.name, Term.args]; (try rfl); done)
                           | fail "ret2")
              case' ht =>
               intro hc15
               try (exfalso; (first | (cases hc15; done) | (simp at hc15; done) | (simp at hc15; omega)); done)
               all_goals (try simp only [decide_eq_true_eq, decide_eq_false_iff_not, Bool.not_eq_true', Bool.not_eq_false', Bool.not_eq_eq_eq_not, Bool.not_true, Bool.not_false] at hc15)
               all_goals
                refine AW_seq_k (fun K31 hK31 => ?_)
                refine AW_region ?_
                all_goals (refine AOps_cons rfl (AOp_assign ?_) <;> try simp only [push_cast, Nat.reduceAdd])
                all_goals refine AOps_nil ?_
                all_goals
                 refine thenK_normal (hK31 _ ?_)
                 try clear hK31
                 refine AW_ret ?_
                 repeat (first | refine thenK_ret ?_ | refine loopK_ret ?_ | refine blockK_ret ?_)
                 refine ⟨by first | exact .inl rfl | exact .inr rfl, _, rfl, (by first | exact outok_app 0 rfl (Nat.zero_le _) (by simp) | exact outok_self), by simp [push_cast], ?_⟩
                 simp only [push_cast, Nat.reduceAdd]
                 rw [hea]
                 first
                   | (have hcf : coversP (.mk n v xs) (.mk m u ys) = false := (by assumption); simp [kboC, hcf]; done)
                   | (have hcov : coversP (.mk n v xs) (.mk m u ys) = true := (by assumption)
                      first
                        | (have hw : ¬ weightP l unit (.mk n v xs) = weightP l unit (.mk m u ys) := (by assumption); simp [kboC, hcov, hw]; (try rfl); done)
                        | (have hw : weightP l unit (.mk n v xs) = weightP l unit (.mk m u ys) := (by assumption); have hv : v = true := (by assumption); subst hv; simp [kboC, hcov, hw, Term.var]; (try rfl); done)
                        | (have he : Term.mk n v xs = Term.mk m u ys := (by assumption); rw [← hea, ← he, hirr]; exact ⟨rfl, trivial⟩)
                        | (have hw : weightP l unit (.mk n v xs) = weightP l unit (.mk m u ys) := (by assumption); have hv : v = false := (by assumption); have hu : u = true := (by assumption); subst hv; subst hu; simp [kboC, hcov, hw, Term.var]; (try rfl); done)
                        | (have hw : weightP l unit (.mk n v xs) = weightP l unit (.mk m u ys) := (by assumption); have hv : v = false := (by assumption); have hu : u = false := (by assumption); subst hv; subst hu; have hk : (ofP l m).rank < (ofP l n).rank := (by assumption); have hn : ¬ n = m := (by intro e; subst e; omega); simp [kboC, hcov, hw, hn, hk, Term.var, Term.name]; (try rfl); done)
                        | (have hw : weightP l unit (.mk n v xs) = weightP l unit (.mk m u ys) := (by assumption); have hv : v = false := (by assumption); have hu : u = false := (by assumption); subst hv; subst hu; have hk : ¬ (ofP l m).rank < (ofP l n).rank := (by assumption); have hn : ¬ n = m := (by assumption); simp [kboC, hcov, hw, hn, hk, Term.var, Term.name]; (try rfl); done)
                        | (have hw : weightP l unit (.mk n v xs) = weightP l unit (.mk m u ys) := (by assumption); have hv : v = false := (by assumption); have hu : u = false := (by assumption); subst hv; subst hu; have hk : ¬ (ofP l m).rank < (ofP l n).rank := (by assumption); have hn : n = m := (by assumption); subst hn; have hlq : ¬ xs.length = ys.length := (by omega); simp [kboC, hcov, hw, hlq, Term.var, Term.name, Term.args]; (try rfl); done)
                        | (have hw : weightP l unit (.mk n v xs) = weightP l unit (.mk m u ys) := (by assumption); have hv : v = false := (by assumption); have hu : u = false := (by assumption); subst hv; subst hu
                           have hq : kboTs l unit xs ys = aboveP l unit (xs[i]'(by omega)) (ys[i]'(by omega)) := (by rw [kboTs_drop l unit xs ys i hi.2, List.drop_eq_getElem_cons (show i < xs.length by omega), List.drop_eq_getElem_cons (show i < ys.length by omega), kboTs_cons, if_neg (by assumption)])
                           subst hnm; simp [kboC, hcov, hw, hll, hq, Term.var, Term.name, Term.args]; (try rfl); done)
                        | (have hw : weightP l unit (.mk n v xs) = weightP l unit (.mk m u ys) := (by assumption); have hv : v = false := (by assumption); have hu : u = false := (by assumption); subst hv; subst hu
                           have hq : kboTs l unit xs ys = false := (by rw [kboTs_drop l unit xs ys i hi.2, List.drop_eq_nil_of_le (show xs.length ≤ i by omega)]; exact kboTs_nil _ _ _)
                           subst hnm; simp [kboC, hcov, hw, hll, hq, Term.var, Term.name, Term.args]; (try rfl); done)
                        | fail "ret2")
           case' ht =>
            intro hc12
            try (exfalso; (first | (cases hc12; done) | (simp at hc12; done) | (simp at hc12; omega)); done)
            all_goals (try simp only [decide_eq_true_eq, decide_eq_false_iff_not, Bool.not_eq_true', Bool.not_eq_false', Bool.not_eq_eq_eq_not, Bool.not_true, Bool.not_false] at hc12)
            all_goals
             refine AW_seq_k (fun K32 hK32 => ?_)
             refine AW_region ?_
             all_goals (refine AOps_cons rfl (AOp_assign ?_) <;> try simp only [push_cast, Nat.reduceAdd])
             all_goals refine AOps_nil ?_
             all_goals
              refine thenK_normal (hK32 _ ?_)
              try clear hK32
              refine AW_ret ?_
              repeat (first | refine thenK_ret ?_ | refine loopK_ret ?_ | refine blockK_ret ?_)
              refine ⟨by first | exact .inl rfl | exact .inr rfl, _, rfl, (by first | exact outok_app 0 rfl (Nat.zero_le _) (by simp) | exact outok_self), by simp [push_cast], ?_⟩
              simp only [push_cast, Nat.reduceAdd]
              rw [hea]
              first
                | (have hcf : coversP (.mk n v xs) (.mk m u ys) = false := (by assumption); simp [kboC, hcf]; done)
                | (have hcov : coversP (.mk n v xs) (.mk m u ys) = true := (by assumption)
                   first
                     | (have hw : ¬ weightP l unit (.mk n v xs) = weightP l unit (.mk m u ys) := (by assumption); simp [kboC, hcov, hw]; (try rfl); done)
                     | (have hw : weightP l unit (.mk n v xs) = weightP l unit (.mk m u ys) := (by assumption); have hv : v = true := (by assumption); subst hv; simp [kboC, hcov, hw, Term.var]; (try rfl); done)
                     | (have he : Term.mk n v xs = Term.mk m u ys := (by assumption); rw [← hea, ← he, hirr]; exact ⟨rfl, trivial⟩)
                     | (have hw : weightP l unit (.mk n v xs) = weightP l unit (.mk m u ys) := (by assumption); have hv : v = false := (by assumption); have hu : u = true := (by assumption); subst hv; subst hu; simp [kboC, hcov, hw, Term.var]; (try rfl); done)
                     | (have hw : weightP l unit (.mk n v xs) = weightP l unit (.mk m u ys) := (by assumption); have hv : v = false := (by assumption); have hu : u = false := (by assumption); subst hv; subst hu; have hk : (ofP l m).rank < (ofP l n).rank := (by assumption); have hn : ¬ n = m := (by intro e; subst e; omega); simp [kboC, hcov, hw, hn, hk, Term.var, Term.name]; (try rfl); done)
                     | (have hw : weightP l unit (.mk n v xs) = weightP l unit (.mk m u ys) := (by assumption); have hv : v = false := (by assumption); have hu : u = false := (by assumption); subst hv; subst hu; have hk : ¬ (ofP l m).rank < (ofP l n).rank := (by assumption); have hn : ¬ n = m := (by assumption); simp [kboC, hcov, hw, hn, hk, Term.var, Term.name]; (try rfl); done)
                     | (have hw : weightP l unit (.mk n v xs) = weightP l unit (.mk m u ys) := (by assumption); have hv : v = false := (by assumption); have hu : u = false := (by assumption); subst hv; subst hu; have hk : ¬ (ofP l m).rank < (ofP l n).rank := (by assumption); have hn : n = m := (by assumption); subst hn; have hlq : ¬ xs.length = ys.length := (by omega); simp [kboC, hcov, hw, hlq, Term.var, Term.name, Term.args]; (try rfl); done)
                     | (have hw : weightP l unit (.mk n v xs) = weightP l unit (.mk m u ys) := (by assumption); have hv : v = false := (by assumption); have hu : u = false := (by assumption); subst hv; subst hu
                        have hq : kboTs l unit xs ys = aboveP l unit (xs[i]'(by omega)) (ys[i]'(by omega)) := (by rw [kboTs_drop l unit xs ys i hi.2, List.drop_eq_getElem_cons (show i < xs.length by omega), List.drop_eq_getElem_cons (show i < ys.length by omega), kboTs_cons, if_neg (by assumption)])
                        subst hnm; simp [kboC, hcov, hw, hll, hq, Term.var, Term.name, Term.args]; (try rfl); done)
                     | (have hw : weightP l unit (.mk n v xs) = weightP l unit (.mk m u ys) := (by assumption); have hv : v = false := (by assumption); have hu : u = false := (by assumption); subst hv; subst hu
                        have hq : kboTs l unit xs ys = false := (by rw [kboTs_drop l unit xs ys i hi.2, List.drop_eq_nil_of_le (show xs.length ≤ i by omega)]; exact kboTs_nil _ _ _)
                        subst hnm; simp [kboC, hcov, hw, hll, hq, Term.var, Term.name, Term.args]; (try rfl); done)
                     | fail "ret2")
        case' ht =>
         intro hc8
         try (exfalso; (first | (cases hc8; done) | (simp at hc8; done) | (simp at hc8; omega)); done)
         all_goals (try simp only [decide_eq_true_eq, decide_eq_false_iff_not, Bool.not_eq_true', Bool.not_eq_false', Bool.not_eq_eq_eq_not, Bool.not_true, Bool.not_false] at hc8)
         all_goals
          refine AW_seq_k (fun K33 hK33 => ?_)
          refine AW_region ?_
          all_goals refine AOps_cons rfl (AOp_move ?_)
          all_goals refine AOps_cons rfl (AOp_move ?_)
          all_goals (try simp only [push_cast, Nat.reduceAdd])
          all_goals (refine AOps_cons rfl (AOp_bin_int _ _ _ _ rfl rfl rfl ?_) <;> try simp only [push_cast, Nat.reduceAdd])
          all_goals (refine AOps_cons rfl (AOp_assign ?_) <;> try simp only [push_cast, Nat.reduceAdd])
          all_goals refine AOps_nil ?_
          all_goals
           refine thenK_normal (hK33 _ ?_)
           try clear hK33
           refine AW_ret ?_
           repeat (first | refine thenK_ret ?_ | refine loopK_ret ?_ | refine blockK_ret ?_)
           refine ⟨by first | exact .inl rfl | exact .inr rfl, _, rfl, (by first | exact outok_app 0 rfl (Nat.zero_le _) (by simp) | exact outok_self), by simp [push_cast], ?_⟩
           simp only [push_cast, Nat.reduceAdd]
           rw [hea]
           first
             | (have hcf : coversP (.mk n v xs) (.mk m u ys) = false := (by assumption); simp [kboC, hcf]; done)
             | (have hcov : coversP (.mk n v xs) (.mk m u ys) = true := (by assumption)
                first
                  | (have hw : ¬ weightP l unit (.mk n v xs) = weightP l unit (.mk m u ys) := (by assumption); simp [kboC, hcov, hw]; (try rfl); done)
                  | (have hw : weightP l unit (.mk n v xs) = weightP l unit (.mk m u ys) := (by assumption); have hv : v = true := (by assumption); subst hv; simp [kboC, hcov, hw, Term.var]; (try rfl); done)
                  | (have he : Term.mk n v xs = Term.mk m u ys := (by assumption); rw [← hea, ← he, hirr]; exact ⟨rfl, trivial⟩)
                  | (have hw : weightP l unit (.mk n v xs) = weightP l unit (.mk m u ys) := (by assumption); have hv : v = false := (by assumption); have hu : u = true := (by assumption); subst hv; subst hu; simp [kboC, hcov, hw, Term.var]; (try rfl); done)
                  | (have hw : weightP l unit (.mk n v xs) = weightP l unit (.mk m u ys) := (by assumption); have hv : v = false := (by assumption); have hu : u = false := (by assumption); subst hv; subst hu; have hk : (ofP l m).rank < (ofP l n).rank := (by assumption); have hn : ¬ n = m := (by intro e; subst e; omega); simp [kboC, hcov, hw, hn, hk, Term.var, Term.name]; (try rfl); done)
                  | (have hw : weightP l unit (.mk n v xs) = weightP l unit (.mk m u ys) := (by assumption); have hv : v = false := (by assumption); have hu : u = false := (by assumption); subst hv; subst hu; have hk : ¬ (ofP l m).rank < (ofP l n).rank := (by assumption); have hn : ¬ n = m := (by assumption); simp [kboC, hcov, hw, hn, hk, Term.var, Term.name]; (try rfl); done)
                  | (have hw : weightP l unit (.mk n v xs) = weightP l unit (.mk m u ys) := (by assumption); have hv : v = false := (by assumption); have hu : u = false := (by assumption); subst hv; subst hu; have hk : ¬ (ofP l m).rank < (ofP l n).rank := (by assumption); have hn : n = m := (by assumption); subst hn; have hlq : ¬ xs.length = ys.length := (by omega); simp [kboC, hcov, hw, hlq, Term.var, Term.name, Term.args]; (try rfl); done)
                  | (have hw : weightP l unit (.mk n v xs) = weightP l unit (.mk m u ys) := (by assumption); have hv : v = false := (by assumption); have hu : u = false := (by assumption); subst hv; subst hu
                     have hq : kboTs l unit xs ys = aboveP l unit (xs[i]'(by omega)) (ys[i]'(by omega)) := (by rw [kboTs_drop l unit xs ys i hi.2, List.drop_eq_getElem_cons (show i < xs.length by omega), List.drop_eq_getElem_cons (show i < ys.length by omega), kboTs_cons, if_neg (by assumption)])
                     subst hnm; simp [kboC, hcov, hw, hll, hq, Term.var, Term.name, Term.args]; (try rfl); done)
                  | (have hw : weightP l unit (.mk n v xs) = weightP l unit (.mk m u ys) := (by assumption); have hv : v = false := (by assumption); have hu : u = false := (by assumption); subst hv; subst hu
                     have hq : kboTs l unit xs ys = false := (by rw [kboTs_drop l unit xs ys i hi.2, List.drop_eq_nil_of_le (show xs.length ≤ i by omega)]; exact kboTs_nil _ _ _)
                     subst hnm; simp [kboC, hcov, hw, hll, hq, Term.var, Term.name, Term.args]; (try rfl); done)
                  | fail "ret2")
    case' ht =>
     intro hc4
     try (exfalso; (first | (cases hc4; done) | (simp at hc4; done) | (simp at hc4; omega)); done)
     all_goals (try simp only [decide_eq_true_eq, decide_eq_false_iff_not, Bool.not_eq_true', Bool.not_eq_false', Bool.not_eq_eq_eq_not, Bool.not_true, Bool.not_false] at hc4)
     all_goals
      refine AW_seq_k (fun K34 hK34 => ?_)
      refine AW_region ?_
      all_goals (refine AOps_cons rfl (AOp_assign ?_) <;> try simp only [push_cast, Nat.reduceAdd])
      all_goals refine AOps_nil ?_
      all_goals
       refine thenK_normal (hK34 _ ?_)
       try clear hK34
       refine AW_ret ?_
       repeat (first | refine thenK_ret ?_ | refine loopK_ret ?_ | refine blockK_ret ?_)
       refine ⟨by first | exact .inl rfl | exact .inr rfl, _, rfl, (by first | exact outok_app 0 rfl (Nat.zero_le _) (by simp) | exact outok_self), by simp [push_cast], ?_⟩
       simp only [push_cast, Nat.reduceAdd]
       rw [hea]
       first
         | (have hcf : coversP (.mk n v xs) (.mk m u ys) = false := (by assumption); simp [kboC, hcf]; done)
         | (have hcov : coversP (.mk n v xs) (.mk m u ys) = true := (by assumption)
            first
              | (have hw : ¬ weightP l unit (.mk n v xs) = weightP l unit (.mk m u ys) := (by assumption); simp [kboC, hcov, hw]; (try rfl); done)
              | (have hw : weightP l unit (.mk n v xs) = weightP l unit (.mk m u ys) := (by assumption); have hv : v = true := (by assumption); subst hv; simp [kboC, hcov, hw, Term.var]; (try rfl); done)
              | (have he : Term.mk n v xs = Term.mk m u ys := (by assumption); rw [← hea, ← he, hirr]; exact ⟨rfl, trivial⟩)
              | (have hw : weightP l unit (.mk n v xs) = weightP l unit (.mk m u ys) := (by assumption); have hv : v = false := (by assumption); have hu : u = true := (by assumption); subst hv; subst hu; simp [kboC, hcov, hw, Term.var]; (try rfl); done)
              | (have hw : weightP l unit (.mk n v xs) = weightP l unit (.mk m u ys) := (by assumption); have hv : v = false := (by assumption); have hu : u = false := (by assumption); subst hv; subst hu; have hk : (ofP l m).rank < (ofP l n).rank := (by assumption); have hn : ¬ n = m := (by intro e; subst e; omega); simp [kboC, hcov, hw, hn, hk, Term.var, Term.name]; (try rfl); done)
              | (have hw : weightP l unit (.mk n v xs) = weightP l unit (.mk m u ys) := (by assumption); have hv : v = false := (by assumption); have hu : u = false := (by assumption); subst hv; subst hu; have hk : ¬ (ofP l m).rank < (ofP l n).rank := (by assumption); have hn : ¬ n = m := (by assumption); simp [kboC, hcov, hw, hn, hk, Term.var, Term.name]; (try rfl); done)
              | (have hw : weightP l unit (.mk n v xs) = weightP l unit (.mk m u ys) := (by assumption); have hv : v = false := (by assumption); have hu : u = false := (by assumption); subst hv; subst hu; have hk : ¬ (ofP l m).rank < (ofP l n).rank := (by assumption); have hn : n = m := (by assumption); subst hn; have hlq : ¬ xs.length = ys.length := (by omega); simp [kboC, hcov, hw, hlq, Term.var, Term.name, Term.args]; (try rfl); done)
              | (have hw : weightP l unit (.mk n v xs) = weightP l unit (.mk m u ys) := (by assumption); have hv : v = false := (by assumption); have hu : u = false := (by assumption); subst hv; subst hu
                 have hq : kboTs l unit xs ys = aboveP l unit (xs[i]'(by omega)) (ys[i]'(by omega)) := (by rw [kboTs_drop l unit xs ys i hi.2, List.drop_eq_getElem_cons (show i < xs.length by omega), List.drop_eq_getElem_cons (show i < ys.length by omega), kboTs_cons, if_neg (by assumption)])
                 subst hnm; simp [kboC, hcov, hw, hll, hq, Term.var, Term.name, Term.args]; (try rfl); done)
              | (have hw : weightP l unit (.mk n v xs) = weightP l unit (.mk m u ys) := (by assumption); have hv : v = false := (by assumption); have hu : u = false := (by assumption); subst hv; subst hu
                 have hq : kboTs l unit xs ys = false := (by rw [kboTs_drop l unit xs ys i hi.2, List.drop_eq_nil_of_le (show xs.length ≤ i by omega)]; exact kboTs_nil _ _ _)
                 subst hnm; simp [kboC, hcov, hw, hll, hq, Term.var, Term.name, Term.args]; (try rfl); done)
              | fail "ret2")
end Ab
/- A checked order is sorted and small. -/
set_option maxRecDepth 10000
namespace Ab
open Go Go.Proofs
theorem bytesLess_cmp : ∀ a b : List UInt8, (Op.bytesLess a b = true ↔ Lib.compareBytes a b < 0) ∧ (Lib.compareBytes b a < 0 ↔ 0 < Lib.compareBytes a b)
  | [], [] => by simp [Op.bytesLess, Lib.compareBytes]
  | [], _ :: _ => by simp [Op.bytesLess, Lib.compareBytes]
  | _ :: _, [] => by simp [Op.bytesLess, Lib.compareBytes]
  | a :: x, b :: y => by
    have ih := bytesLess_cmp x y
    unfold Op.bytesLess Lib.compareBytes
    simp only [UInt8.lt_iff_toNat_lt]
    rcases Nat.lt_trichotomy a.toNat b.toNat with h | h | h
    · have h2 : ¬ b.toNat < a.toNat := by omega
      simp [h, h2]
    · have e : a = b := UInt8.toNat_inj.1 h
      subst e
      have h2 : ¬ a.toNat < a.toNat := by omega
      simp only [h2, if_false, decide_false, Bool.false_or, beq_self_eq_true, Bool.true_and]; exact ih
    · have h2 : ¬ a.toNat < b.toNat := by omega
      have h3 : ¬ a = b := fun e => by subst e; omega
      simp [h, h2, h3]
theorem leB_cmp (a b : List UInt8) : leB a b = true ↔ 0 ≤ Lib.compareBytes b a := by
  have h1 := bytesLess_cmp a b
  have h3 := bytesLess_cmp b a
  have h2 := compareBytes_eq b a
  unfold leB
  rw [Bool.or_eq_true, decide_eq_true_eq, h1.1]
  constructor
  · rintro (h | h)
    · have := h3.2.1 h; omega
    · have := h2.2 h.symm; omega
  · intro h
    rcases Int.lt_or_eq_of_le h with h4 | h4
    · exact .inl (h3.2.2 h4)
    · exact .inr (h2.1 h4.symm).symm
theorem sorted_of_names {l : List Rank} (h : namesP l = 0) : SortedR l ∧ l.length ≤ 256 := by
  unfold namesP at h
  split at h
  · cases h
  rename_i h1
  split at h
  · rename_i h2
    rw [List.all_eq_true] at h2
    have hstep : ∀ i (hi : i + 1 < l.length), Lib.compareBytes l[i].name l[i + 1].name < 0 := by
      intro i hi
      have h3 := h2 (i + 1) (by simpa using hi)
      unfold goodAt at h3
      rw [show l.getD (i + 1) zeroR = l[i + 1] from by simp [hi], show i + 1 - 1 = i from rfl, show l.getD i zeroR = l[i] from by simp [show i < l.length by omega]] at h3
      simp only [Bool.and_eq_true, Bool.or_eq_true, decide_eq_true_eq, Bool.not_eq_true'] at h3
      have h4 : leB l[i + 1].name l[i].name = false := by
        rcases h3.2 with h5 | h5
        · omega
        · exact h5
      have h6 := (leB_cmp l[i + 1].name l[i].name)
      rw [h4] at h6
      have : ¬ 0 ≤ Lib.compareBytes l[i].name l[i + 1].name := fun e => by cases h6.2 e
      omega
    refine ⟨?_, by omega⟩
    unfold SortedR
    rw [List.pairwise_iff_getElem]
    intro i j hi hj hij
    obtain ⟨d, rfl⟩ : ∃ d, j = i + 1 + d := ⟨j - i - 1, by omega⟩
    induction d with
    | zero => exact hstep i (by omega)
    | succ d ih => exact compareBytes_trans _ _ _ (ih (by omega) (by omega)) (hstep (i + 1 + d) (by omega))
  · cases h
theorem good_of_check {l : List Rank} {unit : Int} (h : wcheckP l unit = 0) : SortedR l ∧ SmallR l unit := by
  unfold wcheckP at h
  split at h
  · rename_i h1; exact absurd h h1
  rename_i h1
  split at h
  · cases h
  rename_i h2
  refine ⟨(sorted_of_names (by omega)).1, ?_⟩
  rw [Bool.not_eq_true, Bool.or_eq_false_iff, Bool.or_eq_false_iff] at h2
  obtain ⟨⟨h3, h4⟩, h5⟩ := h2
  rw [List.any_eq_false] at h3
  simp only [badP, Bool.or_eq_false_iff, decide_eq_false_iff_not] at h4 h5
  refine ⟨fun x hx => ?_, by omega, by omega⟩
  have := h3 x hx
  simp only [badP, Bool.or_eq_true, decide_eq_true_eq, not_or] at this
  omega
end Ab
/- The reference's checks of an order. -/
set_option maxRecDepth 10000
namespace Ab
open Go Go.Proofs
attribute [local push_cast] encT encR scoped_encR encS scoped_encS
set_option maxHeartbeats 1600000 in
theorem listed_ac (l : List Rank) (hlen : l.length < 1099511627776) (hnl : ∀ x, x ∈ l → x.name.length < 1099511627776) (H : List AObj) : ACall Try.prog 31 [.sl .none (encL encR l)] H (fun r H' => r = .int .i64 (namesP l) ∧ H' = H) := by
  refine ACall_intro (H.length) Try.func31 rfl ?_
  simp only [Try.ntmps31, List.length_cons, List.length_nil, List.replicate, List.cons_append, List.nil_append, Nat.reduceAdd, Nat.reduceSub, Nat.zero_add]
  refine AW_seq_k (fun K1 hK1 => ?_)
  refine AW_region ?_
  all_goals (refine AOps_cons rfl (AOp_assign ?_) <;> try simp only [push_cast, Nat.reduceAdd])
  all_goals refine AOps_nil ?_
  all_goals
   refine thenK_normal (hK1 _ ?_)
   try clear hK1
   refine AW_seq_k (fun K2 hK2 => ?_)
   refine AW_seq_k (fun K3 hK3 => ?_)
   refine AW_region ?_
   all_goals refine AOps_cons rfl (AOp_move ?_)
   all_goals (try simp only [push_cast, Nat.reduceAdd])
   all_goals (refine AOps_cons rfl (AOp_len_sl _ _ _ rfl sl22 ?_) <;> try simp only [push_cast, Nat.reduceAdd])
   all_goals (refine AOps_cons rfl (AOp_bin_int _ _ _ _ rfl rfl rfl ?_) <;> try simp only [push_cast, Nat.reduceAdd])
   all_goals refine AOps_nil ?_
   all_goals
    refine thenK_normal (hK3 _ ?_)
    try clear hK3
    apply AW_cond
    case' hc => exact rfl
    case' hf =>
     intro hc4
     try (exfalso; (first | (cases hc4; done) | (simp at hc4; done) | (simp at hc4; omega)); done)
     all_goals (try simp only [decide_eq_true_eq, decide_eq_false_iff_not, Bool.not_eq_true', Bool.not_eq_false', Bool.not_eq_eq_eq_not, Bool.not_true, Bool.not_false] at hc4)
     all_goals
      refine AW_skip ?_
      refine thenK_normal (hK2 _ ?_)
      try clear hK2
      refine AW_seq_k (fun K5 hK5 => ?_)
      refine AW_seq_k (fun K6 hK6 => ?_)
      refine AW_region ?_
      all_goals refine AOps_cons rfl (AOp_move ?_)
      all_goals (try simp only [push_cast, Nat.reduceAdd])
      all_goals (refine AOps_cons rfl (AOp_len_sl _ _ _ rfl sl22 ?_) <;> try simp only [push_cast, Nat.reduceAdd])
      all_goals (refine AOps_cons rfl (AOp_move ?_) <;> try simp only [push_cast, Nat.reduceAdd])
      all_goals refine AOps_nil ?_
      all_goals
       refine thenK_normal (hK6 _ ?_)
       try clear hK6
       refine AW_block ?_
       refine AW_loopR (maskG 36 [0, 7, 0, 0]) (fun (i : Nat) => [(10, .int .i64 i)]) (fun _ => _) (fun i => i ≤ l.length ∧ (List.range i).all (goodAt l) = true) (fun i => l.length - i) 0 ⟨Nat.zero_le _, by simp⟩ (by (simp only [push_cast, Nat.reduceAdd]; (first | refine weak_app0 ?_ | refine weak_same ?_); (repeat (first | exact SlotsOk.nil | refine SlotsOk.junk ?_ | refine SlotsOk.same (by first | (simp [push_cast]; done) | (simp [push_cast, Scoped, ScopedL, *]; done)) ?_ | refine SlotsOk.tok (by first | rfl | (simp; done)) (by first | (simp [push_cast]; done) | (simp [push_cast, Scoped, ScopedL, *]; done)) ?_ | refine SlotsOk.eq (by first | rfl | (congr 1; omega) | (simp; done) | (simp; omega)) (by first | (simp [push_cast]; done) | (simp [push_cast, Scoped, ScopedL, *]; done)) ?_)))) (fun i hi => ?_)
       (try simp only [push_cast, Nat.reduceAdd])
       refine AW_seq_k (fun K7 hK7 => ?_)
       refine AW_region ?_
       all_goals (refine AOps_cons rfl (AOp_bin_int _ _ _ _ rfl rfl rfl ?_) <;> try simp only [push_cast, Nat.reduceAdd])
       all_goals refine AOps_nil ?_
       all_goals
        refine thenK_normal (hK7 _ ?_)
        try clear hK7
        refine AW_seq_k (fun K8 hK8 => ?_)
        apply AW_cond
        case' hc => exact rfl
        case' hf =>
         intro hc9
         try (exfalso; (first | (cases hc9; done) | (simp at hc9; done) | (simp at hc9; omega)); done)
         all_goals (try simp only [decide_eq_true_eq, decide_eq_false_iff_not, Bool.not_eq_true', Bool.not_eq_false', Bool.not_eq_eq_eq_not, Bool.not_true, Bool.not_false] at hc9)
         all_goals
          refine AW_exit ?_
          repeat (first | refine thenK_exit ?_ | refine loopK_exit ?_ | refine blockK_other (by decide) ?_)
          refine blockK_same ?_
          refine thenK_normal (hK5 _ ?_)
          try clear hK5
          refine AW_seq_k (fun K10 hK10 => ?_)
          refine AW_region ?_
          all_goals (refine AOps_cons rfl (AOp_assign ?_) <;> try simp only [push_cast, Nat.reduceAdd])
          all_goals refine AOps_nil ?_
          all_goals
           refine thenK_normal (hK10 _ ?_)
           try clear hK10
           refine AW_ret ?_
           repeat (first | refine thenK_ret ?_ | refine loopK_ret ?_ | refine blockK_ret ?_)
           refine ⟨by first | exact .inl rfl | exact .inr rfl, _, rfl, (by first | exact outok_app 0 rfl (Nat.zero_le _) (by simp) | exact outok_self), by simp [push_cast], ?_⟩
           simp only [push_cast, Nat.reduceAdd]
           have hgd : ∀ j (h : j < l.length), l.getD j zeroR = l[j] := fun j h => by simp [h]
           first
             | (have h1 : 256 < l.length := (by omega); simp [namesP, h1]; done)
             | (have h1 : ¬ 256 < l.length := (by omega)
                have hs : (List.range l.length).all (goodAt l) = true := (by rw [← show i = l.length by omega]; exact hi.2)
                simp only [namesP, h1, if_false, hs, if_true]; simp; done)
             | (have h1 : ¬ 256 < l.length := (by omega)
                have hbad : goodAt l i = false := (by
                  unfold goodAt
                  rw [hgd i hil, hb]
                  first
                    | rfl
                    | (rw [hgd (i - 1) (by omega)]
                       have hq : leB l[i].name (l[i - 1]'(by omega)).name = true := ((leB_cmp _ _).2 (by omega))
                       have h0 : ¬ i = 0 := (by omega)
                       simp only [hq]; simp [h0]))
                have hs : (List.range l.length).all (goodAt l) = false := all_get (i := i) (by simpa using hil) (by simpa using hbad)
                simp only [namesP, h1, if_false, hs]; simp; done)
             | fail "ret"
        case' ht =>
         intro hc9
         try (exfalso; (first | (cases hc9; done) | (simp at hc9; done) | (simp at hc9; omega)); done)
         all_goals (try simp only [decide_eq_true_eq, decide_eq_false_iff_not, Bool.not_eq_true', Bool.not_eq_false', Bool.not_eq_eq_eq_not, Bool.not_true, Bool.not_false] at hc9)
         all_goals
          refine AW_skip ?_
          refine thenK_normal (hK8 _ ?_)
          try clear hK8
          refine AW_seq_k (fun K11 hK11 => ?_)
          refine AW_block ?_
          refine AW_seq_k (fun K12 hK12 => ?_)
          refine AW_region ?_
          all_goals refine AOps_cons rfl (AOp_move ?_)
          all_goals (try simp only [push_cast, Nat.reduceAdd])
          all_goals (refine AOps_cons rfl (AOp_indexAddr_sl 63 _ _ _ _ _ rfl rfl sl22 sz63 (by decide) (by exact uni_encR _) (by first | omega | (simp; omega)) (by first | omega | (simp [push_cast]; omega) | (simp [push_cast]; done)) ?_) <;> try simp only [push_cast, Nat.reduceAdd])
          all_goals (refine AOps_cons rfl (AOp_load_cptr _ _ rfl sz63 ag63 (by simp [push_cast]) ?_) <;> try simp only [push_cast, Nat.reduceAdd])
          all_goals (refine AOps_cons rfl (AOp_alloc _ zr63 (by simp [ofVal, AV.isCell, Value.oneCell']) ?_) <;> try simp only [push_cast, Nat.reduceAdd])
          all_goals refine AOps_cons rfl (AOp_assign ?_)
          all_goals (try simp only [push_cast, Nat.reduceAdd])
          all_goals (refine AOps_cons rfl (AOp_store _ _ _ _ _ rfl (by first | exact hget0 | exact hgetN _ rfl | assumption | exact hgetL (by assumption)) rfl rfl (by first | exact .inl rfl | exact .inr ⟨_, rfl⟩) (by simp [push_cast, AV.isCell]) sz63 (by simp [push_cast]) ?_) <;> try simp only [push_cast, Nat.reduceAdd])
          all_goals refine AOps_nil ?_
          all_goals
           refine thenK_normal (hK12 _ ?_)
           try clear hK12
           refine AW_seq_k (fun K13 hK13 => ?_)
           have hil : i < l.length := by omega
           have hnli := hnl l[i] (by simp)
           cases hb : isNameP l[i].name true <;> by_cases hi0 : 0 < i
           all_goals first | (have hd : decide ((0 : Int) < (i : Int)) = true := (by simp; omega)) | (have hd : decide ((0 : Int) < (i : Int)) = false := (by simp; omega))
           all_goals
             apply AW_drawE [some 15, some 16, some 17, some 18, some 19, some 20, some 21, some 22, some 23, some 24, some 25, some 26, some 27, some 28, some 29, some 30, some 31, some 32, some 33, some 34] [([], _)] [none, none, none, none, none, none, none, none, none, none, none, none, none, none, none, none, none, none, none, none] 0 [(0, [], [4]), (1, [], [15]), (2, [], [16]), (3, [], [17]), (4, [], [18]), (5, [], [3, 15]), (6, [], [19, 0]), (7, [], [19, 1]), (8, [], [0, 21]), (9, [], [3, 18]), (10, [], [22, 1]), (11, [], [22, 0, 1]), (12, [], [22, 3]), (13, [], [22, 4]), (14, [], [4, 17]), (15, [], [22, 6]), (16, [], [22, 5, 1]), (17, [], [22, 8]), (18, [], [19, 2, 9]), (19, [], [19, 13])] [_, _, _, _, _, _, _, _, _, _, _, _, _, _, _, _, _, _, _, _]
             case' hm => exact dr
             case' hn => rfl
             case' hok => rfl
             case' hlen => rfl
             case' hd => rfl
             case' h0 => rfl
             case' hstep =>
              simp only [DAllG, keepG, List.map_cons, List.map_nil, putD, stg, beqB, List.set_cons_zero, List.set_cons_succ, List.getD_cons_zero, List.getD_cons_succ, Option.isSome_some, Option.isSome_none]
              apply And.intro
              · apply DOne_do
                case' ho => rfl
                case' hw => rfl
                refine AOp_fieldAddr_ptr _ _ _ _ rfl fd63_0 (by decide) ?_
                all_goals (try simp only [push_cast, Nat.reduceAdd])
                all_goals (constructor <;> first | rfl | trivial)
              apply And.intro
              · apply DOne_do
                case' ho => rfl
                case' hw => rfl
                refine AOp_load1_ptr _ _ _ _ _ rfl (by first | exact hget0 | exact hgetN _ rfl | assumption | exact hgetL (by assumption)) sz9 ag9 (by decide) (by simp [push_cast]) rfl ?_
                all_goals (try simp only [push_cast, Nat.reduceAdd])
                all_goals (constructor <;> first | rfl | trivial)
              apply And.intro
              · apply DOne_do
                case' ho => rfl
                case' hw => rfl
                refine AOp_call _ _ _ rfl rfl ok36 ?_
                (try simp only [push_cast, Nat.reduceAdd])
                refine (isNameR_ac _ _ hnli _).mono ?_
                rintro r H' ⟨rfl, rfl⟩
                simp only [hb]
                all_goals (try simp only [push_cast, Nat.reduceAdd])
                all_goals (constructor <;> first | rfl | trivial)
              apply And.intro
              · apply DOne_do
                case' ho => rfl
                case' hw => rfl
                refine AOp_not _ rfl ?_
                all_goals (try simp only [push_cast, Nat.reduceAdd])
                all_goals (constructor <;> first | rfl | trivial)
              apply And.intro
              · apply DOne_do
                case' ho => rfl
                case' hw => rfl
                refine AOp_move ?_
                all_goals (try simp only [push_cast, Nat.reduceAdd])
                all_goals (constructor <;> first | rfl | trivial)
              apply And.intro
              · first
                | exact DOne_no rfl rfl rfl
                | (apply DOne_do
                   case' ho => rfl
                   case' hw => rfl
                   refine AOp_move ?_
                   all_goals (try simp only [push_cast, Nat.reduceAdd])
                   all_goals (constructor <;> first | rfl | trivial))
              apply And.intro
              · first
                | exact DOne_no rfl rfl rfl
                | (apply DOne_do
                   case' ho => rfl
                   case' hw => rfl
                   refine AOp_bin_int _ _ _ _ rfl rfl rfl ?_
                   rw [hd]
                   all_goals (try simp only [push_cast, Nat.reduceAdd])
                   all_goals (constructor <;> first | rfl | trivial))
              apply And.intro
              · first
                | exact DOne_no rfl rfl rfl
                | (apply DOne_do
                   case' ho => rfl
                   case' hw => rfl
                   refine AOp_move ?_
                   all_goals (try simp only [push_cast, Nat.reduceAdd])
                   all_goals (constructor <;> first | rfl | trivial))
              apply And.intro
              · first
                | exact DOne_no rfl rfl rfl
                | (apply DOne_do
                   case' ho => rfl
                   case' hw => rfl
                   refine AOp_move ?_
                   all_goals (try simp only [push_cast, Nat.reduceAdd])
                   all_goals (constructor <;> first | rfl | trivial))
              apply And.intro
              · first
                | exact DOne_no rfl rfl rfl
                | (apply DOne_do
                   case' ho => rfl
                   case' hw => rfl
                   refine AOp_move ?_
                   all_goals (try simp only [push_cast, Nat.reduceAdd])
                   all_goals (constructor <;> first | rfl | trivial))
              apply And.intro
              · first
                | exact DOne_no rfl rfl rfl
                | (apply DOne_do
                   case' ho => rfl
                   case' hw => rfl
                   refine AOp_bin_int _ _ _ _ rfl rfl rfl ?_
                   (try simp only [push_cast, Nat.reduceAdd])
                   (try rw [IntWalk.i64_in _ (by omega)])
                   rw [show (i : Int) - 1 = ((i - 1 : Nat) : Int) from by omega]
                   all_goals (try simp only [push_cast, Nat.reduceAdd])
                   all_goals (constructor <;> first | rfl | trivial))
              apply And.intro
              · first
                | exact DOne_no rfl rfl rfl
                | (apply DOne_do
                   case' ho => rfl
                   case' hw => rfl
                   refine AOp_indexAddr_sl 63 _ _ _ _ _ rfl rfl sl22 sz63 (by decide) (by exact uni_encR _) (by first | omega | (simp; omega)) (by first | omega | (simp [push_cast]; omega) | (simp [push_cast]; done)) ?_
                   all_goals (try simp only [push_cast, Nat.reduceAdd])
                   all_goals (constructor <;> first | rfl | trivial))
              apply And.intro
              · first
                | exact DOne_no rfl rfl rfl
                | (apply DOne_do
                   case' ho => rfl
                   case' hw => rfl
                   refine AOp_fieldAddr_cptr _ _ _ rfl fd63_0 (by decide) (by simp [push_cast]) ?_
                   all_goals (try simp only [push_cast, Nat.reduceAdd])
                   all_goals (constructor <;> first | rfl | trivial))
              apply And.intro
              · first
                | exact DOne_no rfl rfl rfl
                | (apply DOne_do
                   case' ho => rfl
                   case' hw => rfl
                   refine AOp_load1_cptr _ _ _ rfl sz9 ag9 rfl ?_
                   all_goals (try simp only [push_cast, Nat.reduceAdd])
                   all_goals (constructor <;> first | rfl | trivial))
              apply And.intro
              · first
                | exact DOne_no rfl rfl rfl
                | (apply DOne_do
                   case' ho => rfl
                   case' hw => rfl
                   refine AOp_fieldAddr_ptr _ _ _ _ rfl fd63_0 (by decide) ?_
                   all_goals (try simp only [push_cast, Nat.reduceAdd])
                   all_goals (constructor <;> first | rfl | trivial))
              apply And.intro
              · first
                | exact DOne_no rfl rfl rfl
                | (apply DOne_do
                   case' ho => rfl
                   case' hw => rfl
                   refine AOp_load1_ptr _ _ _ _ _ rfl (by first | exact hget0 | exact hgetN _ rfl | assumption | exact hgetL (by assumption)) sz9 ag9 (by decide) (by simp [push_cast]) rfl ?_
                   all_goals (try simp only [push_cast, Nat.reduceAdd])
                   all_goals (constructor <;> first | rfl | trivial))
              apply And.intro
              · first
                | exact DOne_no rfl rfl rfl
                | (apply DOne_do
                   case' ho => rfl
                   case' hw => rfl
                   refine AOp_call _ _ _ rfl rfl ok37 ?_
                   (try simp only [push_cast, Nat.reduceAdd])
                   refine (cmpNames_ac (l[i - 1]'(by omega)).name l[i].name (hnl _ (by simp)) hnli _).mono ?_
                   rintro r H' ⟨rfl, rfl⟩
                   all_goals (try simp only [push_cast, Nat.reduceAdd])
                   all_goals (constructor <;> first | rfl | trivial))
              apply And.intro
              · first
                | exact DOne_no rfl rfl rfl
                | (apply DOne_do
                   case' ho => rfl
                   case' hw => rfl
                   refine AOp_bin_int _ _ _ _ rfl rfl rfl ?_
                   all_goals (try simp only [push_cast, Nat.reduceAdd])
                   all_goals (constructor <;> first | rfl | trivial))
              apply And.intro
              · first
                | exact DOne_no rfl rfl rfl
                | (apply DOne_do
                   case' ho => rfl
                   case' hw => rfl
                   refine AOp_pick _ rfl ?_
                   all_goals (try simp only [push_cast, Nat.reduceAdd])
                   all_goals (constructor <;> first | rfl | trivial))
              apply And.intro
              · apply DOne_do
                case' ho => rfl
                case' hw => rfl
                refine AOp_pick _ rfl ?_
                all_goals (try simp only [push_cast, Nat.reduceAdd])
                all_goals (constructor <;> first | rfl | trivial)
              exact trivial
             case' hQ => skip
             (try simp only [push_cast, putD, stg, beqB, List.replicate, Nat.reduceAdd, List.getD_cons_zero, List.getD_cons_succ])
           all_goals
            refine thenK_normal (hK13 _ ?_)
            try clear hK13
            apply AW_cond
            case' hc => exact rfl
            case' hf =>
             intro hc14
             try (exfalso; (first | (cases hc14; done) | (simp at hc14; done) | (simp at hc14; omega)); done)
             all_goals (try simp only [decide_eq_true_eq, decide_eq_false_iff_not, Bool.not_eq_true', Bool.not_eq_false', Bool.not_eq_eq_eq_not, Bool.not_true, Bool.not_false] at hc14)
             all_goals
              refine AW_skip ?_
              refine blockK_normal ?_
              refine thenK_normal (hK11 _ ?_)
              try clear hK11
              refine AW_region ?_
              all_goals refine AOps_cons rfl (AOp_bin_int _ _ _ _ rfl rfl rfl ?_)
              all_goals (try simp only [push_cast, Nat.reduceAdd])
              all_goals (try rw [IntWalk.i64_in _ (by omega)])
              all_goals (try simp only [push_cast, Nat.reduceAdd])
              all_goals (refine AOps_cons rfl (AOp_move ?_) <;> try simp only [push_cast, Nat.reduceAdd])
              all_goals refine AOps_nil ?_
              all_goals
               refine loopK_normal ?_
               refine ⟨i + 1, ⟨by omega, ?_⟩, by (simp only [push_cast, Nat.reduceAdd]; (first | refine weak_app0 ?_ | refine weak_same ?_); (repeat (first | exact SlotsOk.nil | refine SlotsOk.junk ?_ | refine SlotsOk.same (by first | (simp [push_cast]; done) | (simp [push_cast, Scoped, ScopedL, *]; done)) ?_ | refine SlotsOk.tok (by first | rfl | (simp; done)) (by first | (simp [push_cast]; done) | (simp [push_cast, Scoped, ScopedL, *]; done)) ?_ | refine SlotsOk.eq (by first | rfl | (congr 1; omega) | (simp; done) | (simp; omega)) (by first | (simp [push_cast]; done) | (simp [push_cast, Scoped, ScopedL, *]; done)) ?_))), by omega⟩
               have hil : i < l.length := by omega
               have hg : goodAt l i = true := by
                 unfold goodAt
                 rw [show l.getD i zeroR = l[i] from by simp [hil]]
                 have hb : isNameP l[i].name true = true := by assumption
                 rw [hb]
                 by_cases h0 : i = 0
                 · simp [h0]
                 · rw [show l.getD (i - 1) zeroR = l[i - 1]'(by omega) from by simp [show i - 1 < l.length by omega]]
                   have hq : leB l[i].name (l[i - 1]'(by omega)).name = false := by
                     rw [Bool.eq_false_iff]; intro h
                     have := (leB_cmp _ _).1 h
                     omega
                   simp only [hq]; simp
               rw [List.range_succ, List.all_append, hi.2]; simp [hg]
            case' ht =>
             intro hc14
             try (exfalso; (first | (cases hc14; done) | (simp at hc14; done) | (simp at hc14; omega)); done)
             all_goals (try simp only [decide_eq_true_eq, decide_eq_false_iff_not, Bool.not_eq_true', Bool.not_eq_false', Bool.not_eq_eq_eq_not, Bool.not_true, Bool.not_false] at hc14)
             all_goals
              refine AW_seq_k (fun K15 hK15 => ?_)
              refine AW_region ?_
              all_goals (refine AOps_cons rfl (AOp_assign ?_) <;> try simp only [push_cast, Nat.reduceAdd])
              all_goals refine AOps_nil ?_
              all_goals
               refine thenK_normal (hK15 _ ?_)
               try clear hK15
               refine AW_ret ?_
               repeat (first | refine thenK_ret ?_ | refine loopK_ret ?_ | refine blockK_ret ?_)
               refine ⟨by first | exact .inl rfl | exact .inr rfl, _, rfl, (by first | exact outok_app 0 rfl (Nat.zero_le _) (by simp) | exact outok_self), by simp [push_cast], ?_⟩
               simp only [push_cast, Nat.reduceAdd]
               have hgd : ∀ j (h : j < l.length), l.getD j zeroR = l[j] := fun j h => by simp [h]
               first
                 | (have h1 : 256 < l.length := (by omega); simp [namesP, h1]; done)
                 | (have h1 : ¬ 256 < l.length := (by omega)
                    have hs : (List.range l.length).all (goodAt l) = true := (by rw [← show i = l.length by omega]; exact hi.2)
                    simp only [namesP, h1, if_false, hs, if_true]; simp; done)
                 | (have h1 : ¬ 256 < l.length := (by omega)
                    have hbad : goodAt l i = false := (by
                      unfold goodAt
                      rw [hgd i hil, hb]
                      first
                        | rfl
                        | (rw [hgd (i - 1) (by omega)]
                           have hq : leB l[i].name (l[i - 1]'(by omega)).name = true := ((leB_cmp _ _).2 (by omega))
                           have h0 : ¬ i = 0 := (by omega)
                           simp only [hq]; simp [h0]))
                    have hs : (List.range l.length).all (goodAt l) = false := all_get (i := i) (by simpa using hil) (by simpa using hbad)
                    simp only [namesP, h1, if_false, hs]; simp; done)
                 | fail "ret"
    case' ht =>
     intro hc4
     try (exfalso; (first | (cases hc4; done) | (simp at hc4; done) | (simp at hc4; omega)); done)
     all_goals (try simp only [decide_eq_true_eq, decide_eq_false_iff_not, Bool.not_eq_true', Bool.not_eq_false', Bool.not_eq_eq_eq_not, Bool.not_true, Bool.not_false] at hc4)
     all_goals
      refine AW_seq_k (fun K16 hK16 => ?_)
      refine AW_region ?_
      all_goals (refine AOps_cons rfl (AOp_assign ?_) <;> try simp only [push_cast, Nat.reduceAdd])
      all_goals refine AOps_nil ?_
      all_goals
       refine thenK_normal (hK16 _ ?_)
       try clear hK16
       refine AW_ret ?_
       repeat (first | refine thenK_ret ?_ | refine loopK_ret ?_ | refine blockK_ret ?_)
       refine ⟨by first | exact .inl rfl | exact .inr rfl, _, rfl, (by first | exact outok_app 0 rfl (Nat.zero_le _) (by simp) | exact outok_self), by simp [push_cast], ?_⟩
       simp only [push_cast, Nat.reduceAdd]
       have hgd : ∀ j (h : j < l.length), l.getD j zeroR = l[j] := fun j h => by simp [h]
       first
         | (have h1 : 256 < l.length := (by omega); simp [namesP, h1]; done)
         | (have h1 : ¬ 256 < l.length := (by omega)
            have hs : (List.range l.length).all (goodAt l) = true := (by rw [← show i = l.length by omega]; exact hi.2)
            simp only [namesP, h1, if_false, hs, if_true]; simp; done)
         | (have h1 : ¬ 256 < l.length := (by omega)
            have hbad : goodAt l i = false := (by
              unfold goodAt
              rw [hgd i hil, hb]
              first
                | rfl
                | (rw [hgd (i - 1) (by omega)]
                   have hq : leB l[i].name (l[i - 1]'(by omega)).name = true := ((leB_cmp _ _).2 (by omega))
                   have h0 : ¬ i = 0 := (by omega)
                   simp only [hq]; simp [h0]))
            have hs : (List.range l.length).all (goodAt l) = false := all_get (i := i) (by simpa using hil) (by simpa using hbad)
            simp only [namesP, h1, if_false, hs]; simp; done)
         | fail "ret"
theorem checkR7_ac (l : List Rank) (unit : Int) (hlen : l.length < 1099511627776) (hnl : ∀ x, x ∈ l → x.name.length < 1099511627776) (H : List AObj) : ACall Try.prog 8 [.sl .none (encL encR l), .int .i64 unit] H (fun r H' => r = .int .i64 (wcheckP l unit) ∧ H' = H) := by
  refine ACall_intro (H.length) Try.func8 rfl ?_
  simp only [Try.ntmps8, List.length_cons, List.length_nil, List.replicate, List.cons_append, List.nil_append, Nat.reduceAdd, Nat.reduceSub, Nat.zero_add]
  refine AW_seq_k (fun K17 hK17 => ?_)
  refine AW_region ?_
  all_goals (refine AOps_cons rfl (AOp_assign ?_) <;> try simp only [push_cast, Nat.reduceAdd])
  all_goals refine AOps_nil ?_
  all_goals
   refine thenK_normal (hK17 _ ?_)
   try clear hK17
   refine AW_seq_k (fun K18 hK18 => ?_)
   refine AW_seq_k (fun K19 hK19 => ?_)
   refine AW_region ?_
   all_goals refine AOps_cons rfl (AOp_move ?_)
   all_goals (try simp only [push_cast, Nat.reduceAdd])
   all_goals refine AOps_cons rfl (AOp_call _ _ _ rfl rfl ok31 ?_)
   all_goals (try simp only [push_cast, Nat.reduceAdd])
   all_goals refine (listed_ac l hlen hnl _).mono ?_
   all_goals rintro r H' ⟨rfl, rfl⟩
   all_goals (try simp only [push_cast, Nat.reduceAdd])
   all_goals (refine AOps_cons rfl (AOp_assign ?_) <;> try simp only [push_cast, Nat.reduceAdd])
   all_goals refine AOps_nil ?_
   all_goals
    refine thenK_normal (hK19 _ ?_)
    try clear hK19
    refine AW_seq_k (fun K20 hK20 => ?_)
    refine AW_region ?_
    all_goals refine AOps_cons rfl (AOp_move ?_)
    all_goals (try simp only [push_cast, Nat.reduceAdd])
    all_goals (refine AOps_cons rfl (AOp_bin_int _ _ _ _ rfl rfl rfl ?_) <;> try simp only [push_cast, Nat.reduceAdd])
    all_goals refine AOps_nil ?_
    all_goals
     refine thenK_normal (hK20 _ ?_)
     try clear hK20
     apply AW_cond
     case' hc => exact rfl
     case' hf =>
      intro hc21
      try (exfalso; (first | (cases hc21; done) | (simp at hc21; done) | (simp at hc21; omega)); done)
      all_goals (try simp only [decide_eq_true_eq, decide_eq_false_iff_not, Bool.not_eq_true', Bool.not_eq_false', Bool.not_eq_eq_eq_not, Bool.not_true, Bool.not_false] at hc21)
      all_goals
       refine AW_skip ?_
       refine thenK_normal (hK18 _ ?_)
       try clear hK18
       refine AW_seq_k (fun K22 hK22 => ?_)
       refine AW_seq_k (fun K23 hK23 => ?_)
       refine AW_region ?_
       all_goals refine AOps_cons rfl (AOp_move ?_)
       all_goals (try simp only [push_cast, Nat.reduceAdd])
       all_goals (refine AOps_cons rfl (AOp_len_sl _ _ _ rfl sl22 ?_) <;> try simp only [push_cast, Nat.reduceAdd])
       all_goals (refine AOps_cons rfl (AOp_move ?_) <;> try simp only [push_cast, Nat.reduceAdd])
       all_goals refine AOps_nil ?_
       all_goals
        refine thenK_normal (hK23 _ ?_)
        try clear hK23
        refine AW_block ?_
        refine AW_loopR (maskG 44 [1, 11, 0, 0]) (fun (i : Nat) => [(15, .int .i64 i)]) (fun _ => _) (fun i => i ≤ l.length ∧ (l.take i).any (fun x => badP x.rank || badP x.weight) = false) (fun i => l.length - i) 0 ⟨Nat.zero_le _, by simp⟩ (by (simp only [push_cast, Nat.reduceAdd]; (first | refine weak_app0 ?_ | refine weak_same ?_); (repeat (first | exact SlotsOk.nil | refine SlotsOk.junk ?_ | refine SlotsOk.same (by first | (simp [push_cast]; done) | (simp [push_cast, Scoped, ScopedL, *]; done)) ?_ | refine SlotsOk.tok (by first | rfl | (simp; done)) (by first | (simp [push_cast]; done) | (simp [push_cast, Scoped, ScopedL, *]; done)) ?_ | refine SlotsOk.eq (by first | rfl | (congr 1; omega) | (simp; done) | (simp; omega)) (by first | (simp [push_cast]; done) | (simp [push_cast, Scoped, ScopedL, *]; done)) ?_)))) (fun i hi => ?_)
        (try simp only [push_cast, Nat.reduceAdd])
        refine AW_seq_k (fun K24 hK24 => ?_)
        refine AW_region ?_
        all_goals (refine AOps_cons rfl (AOp_bin_int _ _ _ _ rfl rfl rfl ?_) <;> try simp only [push_cast, Nat.reduceAdd])
        all_goals refine AOps_nil ?_
        all_goals
         refine thenK_normal (hK24 _ ?_)
         try clear hK24
         refine AW_seq_k (fun K25 hK25 => ?_)
         apply AW_cond
         case' hc => exact rfl
         case' hf =>
          intro hc26
          try (exfalso; (first | (cases hc26; done) | (simp at hc26; done) | (simp at hc26; omega)); done)
          all_goals (try simp only [decide_eq_true_eq, decide_eq_false_iff_not, Bool.not_eq_true', Bool.not_eq_false', Bool.not_eq_eq_eq_not, Bool.not_true, Bool.not_false] at hc26)
          all_goals
           refine AW_exit ?_
           repeat (first | refine thenK_exit ?_ | refine loopK_exit ?_ | refine blockK_other (by decide) ?_)
           refine blockK_same ?_
           refine thenK_normal (hK22 _ ?_)
           try clear hK22
           refine AW_seq_k (fun K27 hK27 => ?_)
           refine AW_seq_k (fun K28 hK28 => ?_)
           refine AW_region ?_
           all_goals refine AOps_cons rfl (AOp_move ?_)
           all_goals (try simp only [push_cast, Nat.reduceAdd])
           all_goals (refine AOps_cons rfl (AOp_bin_int _ _ _ _ rfl rfl rfl ?_) <;> try simp only [push_cast, Nat.reduceAdd])
           all_goals refine AOps_cons rfl (AOp_move ?_)
           all_goals (try simp only [push_cast, Nat.reduceAdd])
           all_goals (try refine AOps_split 40 _ rfl (fun hg29 => ?_) (fun hg29 => ?_))
           all_goals (try (exfalso; (first | (cases hg29; done) | (simp at hg29; done) | (simp at hg29; omega)); done))
           all_goals (try simp only [decide_eq_true_eq, decide_eq_false_iff_not, Bool.not_eq_true', Bool.not_eq_false', Bool.not_eq_eq_eq_not, Bool.not_true, Bool.not_false] at hg29)
           all_goals first
            | refine AOps_skip rfl ?_
            | (refine AOps_cons rfl ?_
               refine AOp_move ?_)
           all_goals (try simp only [push_cast, Nat.reduceAdd])
           all_goals first
            | refine AOps_skip rfl ?_
            | (refine AOps_cons rfl ?_
               refine AOp_bin_int _ _ _ _ rfl rfl rfl ?_)
           all_goals (try simp only [push_cast, Nat.reduceAdd])
           all_goals (refine AOps_cons rfl (AOp_pick _ rfl ?_) <;> try simp only [push_cast, Nat.reduceAdd])
           all_goals refine AOps_nil ?_
           all_goals
            refine thenK_normal (hK28 _ ?_)
            try clear hK28
            apply AW_cond
            case' hc => exact rfl
            case' hf =>
             intro hc30
             try (exfalso; (first | (cases hc30; done) | (simp at hc30; done) | (simp at hc30; omega)); done)
             all_goals (try simp only [decide_eq_true_eq, decide_eq_false_iff_not, Bool.not_eq_true', Bool.not_eq_false', Bool.not_eq_eq_eq_not, Bool.not_true, Bool.not_false] at hc30)
             all_goals
              refine AW_skip ?_
              refine thenK_normal (hK27 _ ?_)
              try clear hK27
              refine AW_seq_k (fun K31 hK31 => ?_)
              refine AW_region ?_
              all_goals (refine AOps_cons rfl (AOp_assign ?_) <;> try simp only [push_cast, Nat.reduceAdd])
              all_goals refine AOps_nil ?_
              all_goals
               refine thenK_normal (hK31 _ ?_)
               try clear hK31
               refine AW_ret ?_
               repeat (first | refine thenK_ret ?_ | refine loopK_ret ?_ | refine blockK_ret ?_)
               refine ⟨by first | exact .inl rfl | exact .inr rfl, _, rfl, (by first | exact outok_app 0 rfl (Nat.zero_le _) (by simp) | exact outok_self), by simp [push_cast], ?_⟩
               simp only [push_cast, Nat.reduceAdd]
               have h0 : namesP l = 0 ∨ ¬ namesP l = 0 := (by omega)
               unfold wcheckP
               first
                 | (have h1 : ¬ namesP l = 0 := (by assumption); simp [h1]; done)
                 | (have h1 : namesP l = 0 := (by assumption)
                    have h2 : (l.any fun x => badP x.rank || badP x.weight) = true := any_get (i := i) (by omega) (by simp only [badP, Bool.or_eq_true, decide_eq_true_eq]; omega)
                    rw [h2]; simp [h1]; done)
                 | (have h1 : namesP l = 0 := (by assumption)
                    have hall : l.take i = l := List.take_of_length_le (by omega)
                    rw [hall] at hi
                    rw [hi.2]
                    first
                      | (have h3 : ¬ unit < 1 := (by omega); have h4 : badP unit = false := (by simp only [badP, Bool.or_eq_false_iff, decide_eq_false_iff_not]; omega); simp [h1, h3, h4]; done)
                      | (have h3 : unit < 1 := (by omega); simp [h1, h3]; done)
                      | (have h4 : badP unit = true := (by simp only [badP, Bool.or_eq_true, decide_eq_true_eq]; omega); simp [h1, h4]; done))
                 | fail "ret"
            case' ht =>
             intro hc30
             try (exfalso; (first | (cases hc30; done) | (simp at hc30; done) | (simp at hc30; omega)); done)
             all_goals (try simp only [decide_eq_true_eq, decide_eq_false_iff_not, Bool.not_eq_true', Bool.not_eq_false', Bool.not_eq_eq_eq_not, Bool.not_true, Bool.not_false] at hc30)
             all_goals
              refine AW_seq_k (fun K32 hK32 => ?_)
              refine AW_region ?_
              all_goals (refine AOps_cons rfl (AOp_assign ?_) <;> try simp only [push_cast, Nat.reduceAdd])
              all_goals refine AOps_nil ?_
              all_goals
               refine thenK_normal (hK32 _ ?_)
               try clear hK32
               refine AW_ret ?_
               repeat (first | refine thenK_ret ?_ | refine loopK_ret ?_ | refine blockK_ret ?_)
               refine ⟨by first | exact .inl rfl | exact .inr rfl, _, rfl, (by first | exact outok_app 0 rfl (Nat.zero_le _) (by simp) | exact outok_self), by simp [push_cast], ?_⟩
               simp only [push_cast, Nat.reduceAdd]
               have h0 : namesP l = 0 ∨ ¬ namesP l = 0 := (by omega)
               unfold wcheckP
               first
                 | (have h1 : ¬ namesP l = 0 := (by assumption); simp [h1]; done)
                 | (have h1 : namesP l = 0 := (by assumption)
                    have h2 : (l.any fun x => badP x.rank || badP x.weight) = true := any_get (i := i) (by omega) (by simp only [badP, Bool.or_eq_true, decide_eq_true_eq]; omega)
                    rw [h2]; simp [h1]; done)
                 | (have h1 : namesP l = 0 := (by assumption)
                    have hall : l.take i = l := List.take_of_length_le (by omega)
                    rw [hall] at hi
                    rw [hi.2]
                    first
                      | (have h3 : ¬ unit < 1 := (by omega); have h4 : badP unit = false := (by simp only [badP, Bool.or_eq_false_iff, decide_eq_false_iff_not]; omega); simp [h1, h3, h4]; done)
                      | (have h3 : unit < 1 := (by omega); simp [h1, h3]; done)
                      | (have h4 : badP unit = true := (by simp only [badP, Bool.or_eq_true, decide_eq_true_eq]; omega); simp [h1, h4]; done))
                 | fail "ret"
         case' ht =>
          intro hc26
          try (exfalso; (first | (cases hc26; done) | (simp at hc26; done) | (simp at hc26; omega)); done)
          all_goals (try simp only [decide_eq_true_eq, decide_eq_false_iff_not, Bool.not_eq_true', Bool.not_eq_false', Bool.not_eq_eq_eq_not, Bool.not_true, Bool.not_false] at hc26)
          all_goals
           refine AW_skip ?_
           refine thenK_normal (hK25 _ ?_)
           try clear hK25
           refine AW_seq_k (fun K33 hK33 => ?_)
           refine AW_block ?_
           refine AW_seq_k (fun K34 hK34 => ?_)
           refine AW_region ?_
           all_goals (refine AOps_cons rfl (AOp_indexAddr_sl 63 _ _ _ _ _ rfl rfl sl22 sz63 (by decide) (by exact uni_encR _) (by first | omega | (simp; omega)) (by first | omega | (simp [push_cast]; omega) | (simp [push_cast]; done)) ?_) <;> try simp only [push_cast, Nat.reduceAdd])
           all_goals (refine AOps_cons rfl (AOp_load_cptr _ _ rfl sz63 ag63 (by simp [push_cast]) ?_) <;> try simp only [push_cast, Nat.reduceAdd])
           all_goals (refine AOps_cons rfl (AOp_alloc _ zr63 (by simp [ofVal, AV.isCell, Value.oneCell']) ?_) <;> try simp only [push_cast, Nat.reduceAdd])
           all_goals (refine AOps_cons rfl (AOp_store _ _ _ _ _ rfl (by first | exact hget0 | exact hgetN _ rfl | assumption | exact hgetL (by assumption)) rfl rfl (by first | exact .inl rfl | exact .inr ⟨_, rfl⟩) (by simp [push_cast, AV.isCell]) sz63 (by simp [push_cast]) ?_) <;> try simp only [push_cast, Nat.reduceAdd])
           all_goals refine AOps_nil ?_
           all_goals
            refine thenK_normal (hK34 _ ?_)
            try clear hK34
            refine AW_seq_k (fun K35 hK35 => ?_)
            refine AW_region ?_
            all_goals (refine AOps_cons rfl (AOp_fieldAddr_ptr _ _ _ _ rfl fd63_1 (by decide) ?_) <;> try simp only [push_cast, Nat.reduceAdd])
            all_goals (refine AOps_cons rfl (AOp_load1_ptr _ _ _ _ _ rfl (by first | exact hget0 | exact hgetN _ rfl | assumption | exact hgetL (by assumption)) sz3 ag3 (by decide) (by simp [push_cast]) rfl ?_) <;> try simp only [push_cast, Nat.reduceAdd])
            all_goals (refine AOps_cons rfl (AOp_bin_int _ _ _ _ rfl rfl rfl ?_) <;> try simp only [push_cast, Nat.reduceAdd])
            all_goals refine AOps_cons rfl (AOp_move ?_)
            all_goals (try simp only [push_cast, Nat.reduceAdd])
            all_goals (try refine AOps_split 22 _ rfl (fun hg36 => ?_) (fun hg36 => ?_))
            all_goals (try (exfalso; (first | (cases hg36; done) | (simp at hg36; done) | (simp at hg36; omega)); done))
            all_goals (try simp only [decide_eq_true_eq, decide_eq_false_iff_not, Bool.not_eq_true', Bool.not_eq_false', Bool.not_eq_eq_eq_not, Bool.not_true, Bool.not_false] at hg36)
            all_goals first
             | refine AOps_skip rfl ?_
             | (refine AOps_cons rfl ?_
                refine AOp_fieldAddr_ptr _ _ _ _ rfl fd63_1 (by decide) ?_)
            all_goals (try simp only [push_cast, Nat.reduceAdd])
            all_goals first
             | refine AOps_skip rfl ?_
             | (refine AOps_cons rfl ?_
                refine AOp_load1_ptr _ _ _ _ _ rfl (by first | exact hget0 | exact hgetN _ rfl | assumption | exact hgetL (by assumption)) sz3 ag3 (by decide) (by simp [push_cast]) rfl ?_)
            all_goals (try simp only [push_cast, Nat.reduceAdd])
            all_goals first
             | refine AOps_skip rfl ?_
             | (refine AOps_cons rfl ?_
                refine AOp_bin_int _ _ _ _ rfl rfl rfl ?_)
            all_goals (try simp only [push_cast, Nat.reduceAdd])
            all_goals refine AOps_cons rfl (AOp_pick _ rfl ?_)
            all_goals refine AOps_cons rfl (AOp_move ?_)
            all_goals (try simp only [push_cast, Nat.reduceAdd])
            all_goals (try refine AOps_split 27 _ rfl (fun hg37 => ?_) (fun hg37 => ?_))
            all_goals (try (exfalso; (first | (cases hg37; done) | (simp at hg37; done) | (simp at hg37; omega)); done))
            all_goals (try simp only [decide_eq_true_eq, decide_eq_false_iff_not, Bool.not_eq_true', Bool.not_eq_false', Bool.not_eq_eq_eq_not, Bool.not_true, Bool.not_false] at hg37)
            all_goals first
             | refine AOps_skip rfl ?_
             | (refine AOps_cons rfl ?_
                refine AOp_fieldAddr_ptr _ _ _ _ rfl fd63_2 (by decide) ?_)
            all_goals (try simp only [push_cast, Nat.reduceAdd])
            all_goals first
             | refine AOps_skip rfl ?_
             | (refine AOps_cons rfl ?_
                refine AOp_load1_ptr _ _ _ _ _ rfl (by first | exact hget0 | exact hgetN _ rfl | assumption | exact hgetL (by assumption)) sz3 ag3 (by decide) (by simp [push_cast]) rfl ?_)
            all_goals (try simp only [push_cast, Nat.reduceAdd])
            all_goals first
             | refine AOps_skip rfl ?_
             | (refine AOps_cons rfl ?_
                refine AOp_bin_int _ _ _ _ rfl rfl rfl ?_)
            all_goals (try simp only [push_cast, Nat.reduceAdd])
            all_goals refine AOps_cons rfl (AOp_pick _ rfl ?_)
            all_goals refine AOps_cons rfl (AOp_move ?_)
            all_goals (try simp only [push_cast, Nat.reduceAdd])
            all_goals (try refine AOps_split 32 _ rfl (fun hg38 => ?_) (fun hg38 => ?_))
            all_goals (try (exfalso; (first | (cases hg38; done) | (simp at hg38; done) | (simp at hg38; omega)); done))
            all_goals (try simp only [decide_eq_true_eq, decide_eq_false_iff_not, Bool.not_eq_true', Bool.not_eq_false', Bool.not_eq_eq_eq_not, Bool.not_true, Bool.not_false] at hg38)
            all_goals first
             | refine AOps_skip rfl ?_
             | (refine AOps_cons rfl ?_
                refine AOp_fieldAddr_ptr _ _ _ _ rfl fd63_2 (by decide) ?_)
            all_goals (try simp only [push_cast, Nat.reduceAdd])
            all_goals first
             | refine AOps_skip rfl ?_
             | (refine AOps_cons rfl ?_
                refine AOp_load1_ptr _ _ _ _ _ rfl (by first | exact hget0 | exact hgetN _ rfl | assumption | exact hgetL (by assumption)) sz3 ag3 (by decide) (by simp [push_cast]) rfl ?_)
            all_goals (try simp only [push_cast, Nat.reduceAdd])
            all_goals first
             | refine AOps_skip rfl ?_
             | (refine AOps_cons rfl ?_
                refine AOp_bin_int _ _ _ _ rfl rfl rfl ?_)
            all_goals (try simp only [push_cast, Nat.reduceAdd])
            all_goals (refine AOps_cons rfl (AOp_pick _ rfl ?_) <;> try simp only [push_cast, Nat.reduceAdd])
            all_goals refine AOps_nil ?_
            all_goals
             refine thenK_normal (hK35 _ ?_)
             try clear hK35
             apply AW_cond
             case' hc => exact rfl
             case' hf =>
              intro hc39
              try (exfalso; (first | (cases hc39; done) | (simp at hc39; done) | (simp at hc39; omega)); done)
              all_goals (try simp only [decide_eq_true_eq, decide_eq_false_iff_not, Bool.not_eq_true', Bool.not_eq_false', Bool.not_eq_eq_eq_not, Bool.not_true, Bool.not_false] at hc39)
              all_goals
               refine AW_skip ?_
               refine blockK_normal ?_
               refine thenK_normal (hK33 _ ?_)
               try clear hK33
               refine AW_region ?_
               all_goals refine AOps_cons rfl (AOp_bin_int _ _ _ _ rfl rfl rfl ?_)
               all_goals (try simp only [push_cast, Nat.reduceAdd])
               all_goals (try rw [IntWalk.i64_in _ (by omega)])
               all_goals (try simp only [push_cast, Nat.reduceAdd])
               all_goals (refine AOps_cons rfl (AOp_move ?_) <;> try simp only [push_cast, Nat.reduceAdd])
               all_goals refine AOps_nil ?_
               all_goals
                refine loopK_normal ?_
                refine ⟨i + 1, ⟨by omega, any_take_false hi.2 (by omega) ?_⟩, by (simp only [push_cast, Nat.reduceAdd]; (first | refine weak_app0 ?_ | refine weak_same ?_); (repeat (first | exact SlotsOk.nil | refine SlotsOk.junk ?_ | refine SlotsOk.same (by first | (simp [push_cast]; done) | (simp [push_cast, Scoped, ScopedL, *]; done)) ?_ | refine SlotsOk.tok (by first | rfl | (simp; done)) (by first | (simp [push_cast]; done) | (simp [push_cast, Scoped, ScopedL, *]; done)) ?_ | refine SlotsOk.eq (by first | rfl | (congr 1; omega) | (simp; done) | (simp; omega)) (by first | (simp [push_cast]; done) | (simp [push_cast, Scoped, ScopedL, *]; done)) ?_))), by omega⟩
                simp only [badP, Bool.or_eq_false_iff, decide_eq_false_iff_not]; refine ⟨⟨?_, ?_⟩, ?_, ?_⟩ <;> omega
             case' ht =>
              intro hc39
              try (exfalso; (first | (cases hc39; done) | (simp at hc39; done) | (simp at hc39; omega)); done)
              all_goals (try simp only [decide_eq_true_eq, decide_eq_false_iff_not, Bool.not_eq_true', Bool.not_eq_false', Bool.not_eq_eq_eq_not, Bool.not_true, Bool.not_false] at hc39)
              all_goals
               refine AW_seq_k (fun K40 hK40 => ?_)
               refine AW_region ?_
               all_goals (refine AOps_cons rfl (AOp_assign ?_) <;> try simp only [push_cast, Nat.reduceAdd])
               all_goals refine AOps_nil ?_
               all_goals
                refine thenK_normal (hK40 _ ?_)
                try clear hK40
                refine AW_ret ?_
                repeat (first | refine thenK_ret ?_ | refine loopK_ret ?_ | refine blockK_ret ?_)
                refine ⟨by first | exact .inl rfl | exact .inr rfl, _, rfl, (by first | exact outok_app 0 rfl (Nat.zero_le _) (by simp) | exact outok_self), by simp [push_cast], ?_⟩
                simp only [push_cast, Nat.reduceAdd]
                have h0 : namesP l = 0 ∨ ¬ namesP l = 0 := (by omega)
                unfold wcheckP
                first
                  | (have h1 : ¬ namesP l = 0 := (by assumption); simp [h1]; done)
                  | (have h1 : namesP l = 0 := (by assumption)
                     have h2 : (l.any fun x => badP x.rank || badP x.weight) = true := any_get (i := i) (by omega) (by simp only [badP, Bool.or_eq_true, decide_eq_true_eq]; omega)
                     rw [h2]; simp [h1]; done)
                  | (have h1 : namesP l = 0 := (by assumption)
                     have hall : l.take i = l := List.take_of_length_le (by omega)
                     rw [hall] at hi
                     rw [hi.2]
                     first
                       | (have h3 : ¬ unit < 1 := (by omega); have h4 : badP unit = false := (by simp only [badP, Bool.or_eq_false_iff, decide_eq_false_iff_not]; omega); simp [h1, h3, h4]; done)
                       | (have h3 : unit < 1 := (by omega); simp [h1, h3]; done)
                       | (have h4 : badP unit = true := (by simp only [badP, Bool.or_eq_true, decide_eq_true_eq]; omega); simp [h1, h4]; done))
                  | fail "ret"
     case' ht =>
      intro hc21
      try (exfalso; (first | (cases hc21; done) | (simp at hc21; done) | (simp at hc21; omega)); done)
      all_goals (try simp only [decide_eq_true_eq, decide_eq_false_iff_not, Bool.not_eq_true', Bool.not_eq_false', Bool.not_eq_eq_eq_not, Bool.not_true, Bool.not_false] at hc21)
      all_goals
       refine AW_seq_k (fun K41 hK41 => ?_)
       refine AW_region ?_
       all_goals refine AOps_cons rfl (AOp_move ?_)
       all_goals (refine AOps_cons rfl (AOp_assign ?_) <;> try simp only [push_cast, Nat.reduceAdd])
       all_goals refine AOps_nil ?_
       all_goals
        refine thenK_normal (hK41 _ ?_)
        try clear hK41
        refine AW_ret ?_
        repeat (first | refine thenK_ret ?_ | refine loopK_ret ?_ | refine blockK_ret ?_)
        refine ⟨by first | exact .inl rfl | exact .inr rfl, _, rfl, (by first | exact outok_app 0 rfl (Nat.zero_le _) (by simp) | exact outok_self), by simp [push_cast], ?_⟩
        simp only [push_cast, Nat.reduceAdd]
        have h0 : namesP l = 0 ∨ ¬ namesP l = 0 := (by omega)
        unfold wcheckP
        first
          | (have h1 : ¬ namesP l = 0 := (by assumption); simp [h1]; done)
          | (have h1 : namesP l = 0 := (by assumption)
             have h2 : (l.any fun x => badP x.rank || badP x.weight) = true := any_get (i := i) (by omega) (by simp only [badP, Bool.or_eq_true, decide_eq_true_eq]; omega)
             rw [h2]; simp [h1]; done)
          | (have h1 : namesP l = 0 := (by assumption)
             have hall : l.take i = l := List.take_of_length_le (by omega)
             rw [hall] at hi
             rw [hi.2]
             first
               | (have h3 : ¬ unit < 1 := (by omega); have h4 : badP unit = false := (by simp only [badP, Bool.or_eq_false_iff, decide_eq_false_iff_not]; omega); simp [h1, h3, h4]; done)
               | (have h3 : unit < 1 := (by omega); simp [h1, h3]; done)
               | (have h4 : badP unit = true := (by simp only [badP, Bool.or_eq_true, decide_eq_true_eq]; omega); simp [h1, h4]; done))
          | fail "ret"
end Ab
/- The symbols of terms, as the program finds them. -/
set_option maxRecDepth 10000
namespace Ab
open Go Go.Proofs
attribute [local push_cast] encT encS scoped_encS scoped_encP encItem
def seenM (out : List Sym) : List (Sym × Bool) := out.map fun s => (s, true)
theorem seen_get (out : List Sym) (f : Sym) : aget (seenM out) f = if f ∈ out then some true else none := by
  induction out with
  | nil => simp [seenM, aget]
  | cons x r ih =>
    have h : seenM (x :: r) = (x, true) :: seenM r := rfl
    rw [h, aget, ih]
    by_cases hx : x = f
    · simp [hx]
    · have : ¬ f = x := fun e => hx e.symm
      simp [hx, this]
theorem seen_set (out : List Sym) (f : Sym) (h : f ∉ out) : aset (seenM out) f true = seenM (out ++ [f]) := by
  have := (aget_none (k := f) (m := seenM out) (fun p hp => by simp [seenM] at hp; obtain ⟨a, ha, rfl⟩ := hp; exact fun e => h (e ▸ ha))).2 true
  rw [this]; simp [seenM]
theorem symStep_length (out : List Sym) (x : List Int × Term) : (symStep out x).length ≤ out.length + 1 := by unfold symStep; split <;> simp
theorem symFold_length : ∀ (l : List (List Int × Term)) (out : List Sym), (l.foldl symStep out).length ≤ out.length + l.length
  | [], out => by simp
  | x :: l, out => by
    have h1 := symFold_length l (symStep out x)
    have h2 := symStep_length out x
    simp only [List.foldl_cons, List.length_cons]; omega
theorem symsFold_length : ∀ (ts : List Term) (out : List Sym), (ts.foldl symsT out).length ≤ out.length + (ts.map Term.size).sum
  | [], out => by simp
  | t :: ts, out => by
    have h1 := symsFold_length ts (symsT out t)
    have h2 := symFold_length (walkT t []) out
    rw [walkT_length] at h2
    have h3 : symsT out t = (walkT t []).foldl symStep out := rfl
    rw [← h3] at h2
    simp only [List.foldl_cons, List.map_cons, List.sum_cons]; omega
theorem cell_encS (l : List Sym) : ∀ c, c ∈ flat (encL encS l) → c.isCell = true := by
  intro c hc
  unfold flat at hc
  rw [List.mem_flatMap] at hc
  obtain ⟨a, ha, hc⟩ := hc
  simp [encL] at ha
  obtain ⟨t, _, rfl⟩ := ha
  simp [AV.cells] at hc
  rcases hc with rfl | rfl <;> rfl
theorem strip_encS (n : Nat) (l : List Sym) : stripL n (encL encS l) = encL encS l := by rw [stripL_eq]; simp [encL, strip, stripL]
theorem encS_snoc (l : List Sym) (s : Sym) : encL encS l ++ [.agg [.str s.name, .int .i64 s.arity]] = encL encS (l ++ [s]) := by simp [encL]
@[reducible] def symMap (out : List Sym) : List (AV × AV) := amap (fun s : Sym => AV.agg (symCells s)) AV.bool (seenM out)
theorem oscoped_sm (n ver : Nat) (out : List Sym) : OScoped n (.map ver (symMap out)) := oscoped_amap (by simp [Scoped, ScopedL, symCells]) (by simp [Scoped])
@[reducible] def symHeap (n : Nat) (out : List Sym) : List AObj := [gTok 65 2 (encL encS out), .map out.length (symMap out), .cells [.map (n + 1)], .cells [gSl n (encL encS out)]]
theorem oscoped_sh (n m : Nat) (hm : n + 4 ≤ m) (out : List Sym) : ∀ o, o ∈ symHeap n out → OScoped m o := by
  intro o ho
  simp only [symHeap, List.mem_cons, List.not_mem_nil, or_false] at ho
  rcases ho with rfl | rfl | rfl | rfl
  · exact oscoped_gTok _ _ _ _
  · exact oscoped_sm _ _ _
  · simp [OScoped, ScopedL, Scoped]; try omega
  · exact ⟨scoped_gSl (by omega) (scoped_encS _ _), trivial⟩
set_option maxHeartbeats 1600000 in
theorem symsW_ac (ts : List Term) (hlen : ts.length < 1099511627776) (hb : ∀ x, x ∈ ts → x.bulk ≤ 1099511627775) (hsz : (ts.map Term.size).sum ≤ 1099511627775) (H : List AObj) :
    ACall Try.prog 29 [.sl .none (encTs ts)] H (fun r H' => r = .sl .none (encL encS (symsP ts)) ∧ H' = H) := by
  refine ACall.weakR (R := fun r H' => Forget r (.sl .none (encL encS (symsP ts))) ∧ H' = H) ?_ (fun r H' h => ⟨_, h.1, rfl, h.2⟩)
  have hu : ∀ l, Uni 2 (encL encS l) := uni_encS
  obtain ⟨O, hO⟩ : ∃ O : Nat → List Sym, ∀ i, O i = (ts.take i).foldl symsT [] := ⟨_, fun _ => rfl⟩
  have hO1 : ∀ i (h : i < ts.length), O (i + 1) = (walkT ts[i] []).foldl symStep (O i) := fun i h => by rw [hO, hO, List.take_succ_eq_append_getElem h, List.foldl_append]; rfl
  have hO2 : ∀ i, (O i).length ≤ ((ts.take i).map Term.size).sum := fun i => by rw [hO]; have := symsFold_length (ts.take i) []; simpa using this
  have hO0 : O 0 = [] := by rw [hO]; rfl
  refine ACall_intro (H.length) Try.func29 rfl ?_
  simp only [Try.ntmps29, List.length_cons, List.length_nil, List.replicate, List.cons_append, List.nil_append, Nat.reduceAdd, Nat.reduceSub, Nat.zero_add]
  refine AW_seq_k (fun K1 hK1 => ?_)
  refine AW_region ?_
  all_goals (refine AOps_cons rfl (AOp_assign ?_) <;> try simp only [push_cast, Nat.reduceAdd])
  all_goals refine AOps_nil ?_
  all_goals
   refine thenK_normal (hK1 _ ?_)
   try clear hK1
   refine AW_seq_k (fun K2 hK2 => ?_)
   refine AW_reserve 1 ?_
   simp only [push_cast, List.replicate, Nat.reduceAdd]
   refine AW_region ?_
   all_goals (refine AOps_cons rfl (AOp_makeMap ?_) <;> try simp only [push_cast, Nat.reduceAdd])
   all_goals (refine AOps_cons rfl (AOp_alloc _ zr85 (by simp [ofVal, AV.isCell, Value.oneCell']) ?_) <;> try simp only [push_cast, Nat.reduceAdd])
   all_goals refine AOps_cons rfl ?_
   all_goals first | refine AOp_store _ _ _ _ _ rfl (by first | exact hget0 | exact hgetN _ rfl | assumption | exact hgetL (by assumption) | exact hgetE (by first | assumption | apply hGl) | exact hgetEN (by first | assumption | apply hGl) _ rfl) rfl rfl (by first | exact .inl rfl | exact .inr ⟨_, rfl⟩) (by simp [push_cast, AV.isCell]) sz85 (by simp [push_cast]) ?_ | refine AOp_store _ _ _ _ _ rfl (by first | exact hget0 | exact hgetN _ rfl | assumption | exact hgetL (by assumption) | exact hgetE (by first | assumption | apply hGl) | exact hgetEN (by first | assumption | apply hGl) _ rfl) rfl (gSl_cells _ _) (.inl (gSl_isCell _ _)) (by simp [gSl_isCell]) sz85 (by simp [push_cast]) ?_
   all_goals (try simp only [push_cast, Nat.reduceAdd])
   all_goals refine AOps_nil ?_
   all_goals
    refine thenK_normal (hK2 _ ?_)
    try clear hK2
    refine AW_seq_k (fun K3 hK3 => ?_)
    refine AW_region ?_
    all_goals (refine AOps_cons rfl (AOp_alloc _ zr34 (by simp [ofVal, AV.isCell, Value.oneCell']) ?_) <;> try simp only [push_cast, Nat.reduceAdd])
    all_goals refine AOps_nil ?_
    all_goals
     refine thenK_normal (hK3 _ ?_)
     try clear hK3
     refine AW_seq_k (fun K4 hK4 => ?_)
     refine AW_seq_k (fun K5 hK5 => ?_)
     refine AW_region ?_
     all_goals refine AOps_cons rfl (AOp_move ?_)
     all_goals (try simp only [push_cast, Nat.reduceAdd])
     all_goals (refine AOps_cons rfl (AOp_len_sl _ _ _ rfl sl25 ?_) <;> try simp only [push_cast, Nat.reduceAdd])
     all_goals (refine AOps_cons rfl (AOp_move ?_) <;> try simp only [push_cast, Nat.reduceAdd])
     all_goals refine AOps_nil ?_
     all_goals
      refine thenK_normal (hK5 _ ?_)
      try clear hK5
      refine AW_block ?_
      refine AW_loopR (maskG 44 [3, 0, 6, 0, 0, 6]) (fun (i : Nat) => [(13, .int .i64 i)]) (fun i => H ++ symHeap H.length (O i)) (fun i => i ≤ ts.length) (fun i => ts.length - i) 0 (Nat.zero_le _) (by simp only [push_cast, Nat.reduceAdd, hO0]; exact weak_app 4 (by (repeat (first | exact SlotsOk.nil | refine SlotsOk.junk ?_ | refine SlotsOk.same (by first | (simp [push_cast]; done) | (simp [push_cast, Scoped, ScopedL, *]; done)) ?_ | refine SlotsOk.tok (by first | rfl | (simp; done)) (by first | (simp [push_cast]; done) | (simp [push_cast, Scoped, ScopedL, *]; done)) ?_ | refine SlotsOk.eq (by first | rfl | (congr 1; omega) | (simp; done) | (simp; omega)) (by first | (simp [push_cast]; done) | (simp [push_cast, Scoped, ScopedL, *]; done)) ?_))) (by simp) (fun o ho => oscoped_sh _ _ (Nat.le_refl _) [] o ho)) (fun i hi => ?_)
      (try simp only [push_cast, Nat.reduceAdd])
      refine AW_seq_k (fun K6 hK6 => ?_)
      refine AW_region ?_
      all_goals (refine AOps_cons rfl (AOp_bin_int _ _ _ _ rfl rfl rfl ?_) <;> try simp only [push_cast, Nat.reduceAdd])
      all_goals refine AOps_nil ?_
      all_goals
       refine thenK_normal (hK6 _ ?_)
       try clear hK6
       refine AW_seq_k (fun K7 hK7 => ?_)
       apply AW_cond
       case' hc => exact rfl
       case' hf =>
        intro hc8
        try (exfalso; (first | (cases hc8; done) | (simp at hc8; done) | (simp at hc8; omega)); done)
        all_goals (try simp only [decide_eq_true_eq, decide_eq_false_iff_not, Bool.not_eq_true', Bool.not_eq_false', Bool.not_eq_eq_eq_not, Bool.not_true, Bool.not_false] at hc8)
        all_goals
         refine AW_exit ?_
         repeat (first | refine thenK_exit ?_ | refine loopK_exit ?_ | refine blockK_other (by decide) ?_)
         refine blockK_same ?_
         refine thenK_normal (hK4 _ ?_)
         try clear hK4
         refine AW_seq_k (fun K9 hK9 => ?_)
         refine AW_region ?_
         all_goals (refine AOps_cons rfl (AOp_load1_ptr _ _ _ _ _ rfl (by first | exact hget0 | exact hgetN _ rfl | assumption | exact hgetL (by assumption) | exact hgetE (by first | assumption | apply hGl) | exact hgetEN (by first | assumption | apply hGl) _ rfl) sz34 ag34 (by decide) (by simp [push_cast]) rfl ?_) <;> try simp only [push_cast, Nat.reduceAdd])
         all_goals (refine AOps_cons rfl (AOp_assign ?_) <;> try simp only [push_cast, Nat.reduceAdd])
         all_goals refine AOps_nil ?_
         all_goals
          refine thenK_normal (hK9 _ ?_)
          try clear hK9
          refine AW_ret ?_
          repeat (first | refine thenK_ret ?_ | refine loopK_ret ?_ | refine blockK_ret ?_)
          have hOi : O i = symsP ts := by rw [hO, List.take_of_length_le (by omega)]; rfl
          rw [hOi]
          refine ⟨by simp, _, rfl, outok_app 0 rfl (Nat.zero_le _) (by simp), scoped_gSl_strip (Nat.le_refl _) ?_, ?_⟩
          · rw [strip_encS]; exact scoped_encS _ _
          simp only [push_cast, Nat.reduceAdd]
          refine ⟨?_, by simp⟩
          have := gSl_strip (Nat.le_refl H.length) (encL encS (symsP ts))
          rw [strip_encS] at this
          exact this
       case' ht =>
        intro hc8
        try (exfalso; (first | (cases hc8; done) | (simp at hc8; done) | (simp at hc8; omega)); done)
        all_goals (try simp only [decide_eq_true_eq, decide_eq_false_iff_not, Bool.not_eq_true', Bool.not_eq_false', Bool.not_eq_eq_eq_not, Bool.not_true, Bool.not_false] at hc8)
        all_goals
         refine AW_skip ?_
         refine thenK_normal (hK7 _ ?_)
         try clear hK7
         refine AW_seq_k (fun K10 hK10 => ?_)
         refine AW_block ?_
         refine AW_seq_k (fun K11 hK11 => ?_)
         refine AW_region ?_
         all_goals (refine AOps_cons rfl (AOp_indexAddr_sl 27 _ _ _ _ _ rfl rfl sl25 sz27 (by decide) (by exact uni_encTs _) (by first | omega | (simp; omega)) (by first | omega | (simp [push_cast]; omega) | (simp [push_cast]; done)) ?_) <;> try simp only [push_cast, Nat.reduceAdd])
         all_goals (refine AOps_cons rfl (AOp_load_cptr _ _ rfl sz27 ag27 (by simp [push_cast]) ?_) <;> try simp only [push_cast, Nat.reduceAdd])
         all_goals (refine AOps_cons rfl (AOp_alloc _ zr27 (by simp [ofVal, AV.isCell, Value.oneCell']) ?_) <;> try simp only [push_cast, Nat.reduceAdd])
         all_goals refine AOps_cons rfl ?_
         all_goals first | refine AOp_store _ _ _ _ _ rfl (by first | exact hget0 | exact hgetN _ rfl | assumption | exact hgetL (by assumption) | exact hgetE (by first | assumption | apply hGl) | exact hgetEN (by first | assumption | apply hGl) _ rfl) rfl rfl (by first | exact .inl rfl | exact .inr ⟨_, rfl⟩) (by simp [push_cast, AV.isCell]) sz27 (by simp [push_cast]) ?_ | refine AOp_store _ _ _ _ _ rfl (by first | exact hget0 | exact hgetN _ rfl | assumption | exact hgetL (by assumption) | exact hgetE (by first | assumption | apply hGl) | exact hgetEN (by first | assumption | apply hGl) _ rfl) rfl (gSl_cells _ _) (.inl (gSl_isCell _ _)) (by simp [gSl_isCell]) sz27 (by simp [push_cast]) ?_
         all_goals (try simp only [push_cast, Nat.reduceAdd])
         all_goals refine AOps_nil ?_
         all_goals
          refine thenK_normal (hK11 _ ?_)
          try clear hK11
          refine AW_seq_k (fun K12 hK12 => ?_)
          refine AW_region ?_
          all_goals (refine AOps_cons rfl (AOp_load_ptr _ _ _ _ rfl (by first | exact hget0 | exact hgetN _ rfl | assumption | exact hgetL (by assumption) | exact hgetE (by first | assumption | apply hGl) | exact hgetEN (by first | assumption | apply hGl) _ rfl) sz27 ag27 (by simp [push_cast]) ?_) <;> try simp only [push_cast, Nat.reduceAdd])
          all_goals refine AOps_cons rfl (AOp_call _ _ _ rfl rfl ok54 ?_)
          all_goals (try simp only [push_cast, Nat.reduceAdd])
          all_goals refine (walkF_ac (ts[i]'(by omega)) _).mono ?_
          all_goals rintro r H' ⟨rfl, rfl⟩
          all_goals (try simp only [push_cast, Nat.reduceAdd])
          all_goals refine AOps_nil ?_
          all_goals
           refine thenK_normal (hK12 _ ?_)
           try clear hK12
           refine AW_block ?_
           obtain ⟨T, hT⟩ : ∃ T, T = ts[i]'(by omega) := ⟨_, rfl⟩
           simp only [← hT]
           refine AW_iterE _ _ (walk_iter T (by rw [hT]; exact hb _ (by simp)) _) (fun pre => H ++ (symHeap H.length (pre.foldl symStep (O i)) ++ [.cells [.str T.name, .bool T.var, .sl .none (encTs T.args)], .cells [.str T.name, .bool T.var, .sl .none (encTs T.args)]])) (fun _ _ => none) rfl ok73 (by simp) (by simp [push_cast, hgetN]) (H.length + 6) (by simp) (fun p => by simp) (fun p o ho => by rcases List.mem_append.1 ho with h | h; exact .inl (List.mem_append_left _ h); right; rcases List.mem_append.1 h with h | h; exact oscoped_sh _ _ (by omega) _ o h; simp only [List.mem_cons, List.not_mem_nil, or_false] at h; rcases h with rfl | rfl <;> simp [OScoped, ScopedL, Scoped, scoped_encTs]) (fun x => rfl) ?round13 ?hend13 ?hleft13
           case' round13 =>
            intro pre x suf X l N G G' he hn hN hG hG' hGl1 hGl2
            have hGl3 : G'.length = G.length := hGl2.trans hGl1.symm
            obtain ⟨S, hS⟩ : ∃ S, S = pre.foldl symStep (O i) := ⟨_, rfl⟩
            have hS1 : (pre ++ [x]).foldl symStep (O i) = symStep S x := by rw [List.foldl_append, hS]; rfl
            have hSl : S.length + 1 ≤ 1099511627775 := by
              have h1 := symFold_length pre (O i)
              have h2 := hO2 i
              have h3 := walkT_length T []
              have h4 := take_sum Term.size ts i (by omega)
              have h5 := take_sum_le Term.size ts (i + 1)
              have h6 : pre.length + 1 ≤ (walkT T []).length := by rw [he]; simp
              rw [← hS] at h1
              rw [h3, hT] at h6
              omega
            obtain ⟨F, hF⟩ : ∃ F, F = symOf x.2 := ⟨_, rfl⟩
            have hF1 : AV.agg [AV.str x.2.name, AV.int .i64 x.2.args.length] = AV.agg (symCells F) := by rw [hF]; rfl
            have hF2 : AObj.cells [AV.str x.2.name, AV.int .i64 x.2.args.length] = AObj.cells (symCells F) := by rw [hF]; rfl
            rw [← hS] at hG'
            have g0 : G'[H.length]? = some (gTok 65 2 (encL encS S)) := by rw [hG', List.append_assoc]; exact hgetN 0 rfl
            have g1 : G'[H.length + 1]? = some (.map S.length (symMap S)) := by rw [hG', List.append_assoc]; exact hgetN 1 rfl
            have g2 : G'[H.length + 2]? = some (.cells [.map (H.length + 1)]) := by rw [hG', List.append_assoc]; exact hgetN 2 rfl
            have g3 : G'[H.length + 3]? = some (.cells [gSl H.length (encL encS S)]) := by rw [hG', List.append_assoc]; exact hgetN 3 rfl
            (try simp only [push_cast, zipPut, Nat.reduceAdd])
            refine AW_region ?_
            all_goals (refine AOps_cons rfl (AOp_alloc _ zr27 (by simp [ofVal, AV.isCell, Value.oneCell']) ?_) <;> try simp only [push_cast, Nat.reduceAdd])
            all_goals refine AOps_cons rfl ?_
            all_goals first | refine AOp_store _ _ _ _ _ rfl (by first | exact hget0 | exact hgetN _ rfl | assumption | exact hgetL (by assumption) | exact hgetE (by first | assumption | apply hGl) | exact hgetEN (by first | assumption | apply hGl) _ rfl) rfl rfl (by first | exact .inl rfl | exact .inr ⟨_, rfl⟩) (by simp [push_cast, AV.isCell]) sz27 (by simp [push_cast]) ?_ | refine AOp_store _ _ _ _ _ rfl (by first | exact hget0 | exact hgetN _ rfl | assumption | exact hgetL (by assumption) | exact hgetE (by first | assumption | apply hGl) | exact hgetEN (by first | assumption | apply hGl) _ rfl) rfl (gSl_cells _ _) (.inl (gSl_isCell _ _)) (by simp [gSl_isCell]) sz27 (by simp [push_cast]) ?_
            all_goals (try simp only [push_cast, Nat.reduceAdd])
            all_goals refine AOps_nil ?_
            all_goals
             first | refine ⟨rfl, _, rfl, ?_⟩ | refine ⟨rfl, [], (List.append_nil _).symm, ?_⟩
             (try simp only [push_cast, Nat.reduceAdd])
             refine AW_block ?_
             refine AW_seq_k (fun K14 hK14 => ?_)
             refine AW_region ?_
             all_goals (refine AOps_cons rfl (AOp_fieldAddr_ptr _ _ _ _ rfl fd27_0 (by decide) ?_) <;> try simp only [push_cast, Nat.reduceAdd])
             all_goals (refine AOps_cons rfl (AOp_load1_ptr _ _ _ _ _ rfl (by first | exact hget0 | exact hgetN _ rfl | assumption | exact hgetL (by assumption) | exact hgetE (by first | assumption | apply hGl) | exact hgetEN (by first | assumption | apply hGl) _ rfl) sz9 ag9 (by decide) (by simp [push_cast]) rfl ?_) <;> try simp only [push_cast, Nat.reduceAdd])
             all_goals (refine AOps_cons rfl (AOp_fieldAddr_ptr _ _ _ _ rfl fd27_2 (by decide) ?_) <;> try simp only [push_cast, Nat.reduceAdd])
             all_goals (refine AOps_cons rfl (AOp_load1_ptr _ _ _ _ _ rfl (by first | exact hget0 | exact hgetN _ rfl | assumption | exact hgetL (by assumption) | exact hgetE (by first | assumption | apply hGl) | exact hgetEN (by first | assumption | apply hGl) _ rfl) sz25 ag25 (by decide) (by simp [push_cast]) rfl ?_) <;> try simp only [push_cast, Nat.reduceAdd])
             all_goals (refine AOps_cons rfl (AOp_len_sl _ _ _ rfl sl25 ?_) <;> try simp only [push_cast, Nat.reduceAdd])
             all_goals (refine AOps_cons rfl (AOp_build _ _ _ zr65 st65 _ rfl (by first | rfl | (simp [afill, splice, push_cast]; done)) ?_) <;> try simp only [push_cast, Nat.reduceAdd])
             all_goals (refine AOps_cons rfl (AOp_alloc _ zr65 (by simp [ofVal, AV.isCell, Value.oneCell']) ?_) <;> try simp only [push_cast, Nat.reduceAdd])
             all_goals refine AOps_cons rfl ?_
             all_goals first | refine AOp_store _ _ _ _ _ rfl (by first | exact hget0 | exact hgetN _ rfl | assumption | exact hgetL (by assumption) | exact hgetE (by first | assumption | apply hGl) | exact hgetEN (by first | assumption | apply hGl) _ rfl) rfl rfl (by first | exact .inl rfl | exact .inr ⟨_, rfl⟩) (by simp [push_cast, AV.isCell]) sz65 (by simp [push_cast]) ?_ | refine AOp_store _ _ _ _ _ rfl (by first | exact hget0 | exact hgetN _ rfl | assumption | exact hgetL (by assumption) | exact hgetE (by first | assumption | apply hGl) | exact hgetEN (by first | assumption | apply hGl) _ rfl) rfl (gSl_cells _ _) (.inl (gSl_isCell _ _)) (by simp [gSl_isCell]) sz65 (by simp [push_cast]) ?_
             all_goals (try simp only [push_cast, Nat.reduceAdd])
             all_goals refine AOps_nil ?_
             simp only [hF1, hF2]
             all_goals
              refine thenK_normal (hK14 _ ?_)
              try clear hK14
              refine AW_seq_k (fun K15 hK15 => ?_)
              refine AW_region ?_
              all_goals (refine AOps_cons rfl (AOp_fieldAddr_ptr _ _ _ _ rfl fd27_1 (by decide) ?_) <;> try simp only [push_cast, Nat.reduceAdd])
              all_goals (refine AOps_cons rfl (AOp_load1_ptr _ _ _ _ _ rfl (by first | exact hget0 | exact hgetN _ rfl | assumption | exact hgetL (by assumption) | exact hgetE (by first | assumption | apply hGl) | exact hgetEN (by first | assumption | apply hGl) _ rfl) sz4 ag4 (by decide) (by simp [push_cast]) rfl ?_) <;> try simp only [push_cast, Nat.reduceAdd])
              all_goals (refine AOps_cons rfl (AOp_not _ rfl ?_) <;> try simp only [push_cast, Nat.reduceAdd])
              all_goals refine AOps_cons rfl (AOp_move ?_)
              all_goals (try simp only [push_cast, Nat.reduceAdd])
              all_goals (try refine AOps_split 30 _ rfl (fun hg16 => ?_) (fun hg16 => ?_))
              all_goals (try (exfalso; (first | (cases hg16; done) | (simp at hg16; done) | (simp at hg16; omega)); done))
              all_goals (try simp only [decide_eq_true_eq, decide_eq_false_iff_not, Bool.not_eq_true', Bool.not_eq_false', Bool.not_eq_eq_eq_not, Bool.not_true, Bool.not_false] at hg16)
              all_goals first
               | refine AOps_skip rfl ?_
               | (refine AOps_cons rfl ?_
                  refine AOp_load1_ptr _ _ _ _ _ rfl (by first | exact hget0 | exact hgetN _ rfl | assumption | exact hgetL (by assumption) | exact hgetE (by first | assumption | apply hGl) | exact hgetEN (by first | assumption | apply hGl) _ rfl) sz85 ag85 (by decide) (by simp [push_cast]) rfl ?_)
              all_goals (try simp only [push_cast, Nat.reduceAdd])
              all_goals first
               | refine AOps_skip rfl ?_
               | (refine AOps_cons rfl ?_
                  refine AOp_load_ptr _ _ _ _ rfl (by first | exact hget0 | exact hgetN _ rfl | assumption | exact hgetL (by assumption) | exact hgetE (by first | assumption | apply hGl) | exact hgetEN (by first | assumption | apply hGl) _ rfl) sz65 ag65 (by simp [push_cast]) ?_)
              all_goals (try simp only [push_cast, Nat.reduceAdd])
              all_goals first
               | refine AOps_skip rfl ?_
               | (refine AOps_cons rfl ?_
                  refine AOp_lookup symKey AV.bool (seenM S) _ _ F (.bool false) rfl (by exact hgetL g1) rfl un85 (ZeroV_of (.bool false) (by kernel_rfl)) ?_
                  rw [show (Option.map AV.bool (aget (seenM S) F)).getD (.bool false) = .bool (decide (F ∈ S)) from by rw [seen_get]; by_cases hm : F ∈ S <;> simp [hm]])
              all_goals (try simp only [push_cast, Nat.reduceAdd])
              all_goals first
               | refine AOps_skip rfl ?_
               | (refine AOps_cons rfl ?_
                  refine AOp_not _ rfl ?_)
              all_goals (try simp only [push_cast, Nat.reduceAdd])
              all_goals (refine AOps_cons rfl (AOp_pick _ rfl ?_) <;> try simp only [push_cast, Nat.reduceAdd])
              all_goals refine AOps_nil ?_
              all_goals
               refine thenK_normal (hK15 _ ?_)
               try clear hK15
               apply AW_cond
               case' hc => exact rfl
               case' hf =>
                intro hc17
                try (exfalso; (first | (cases hc17; done) | (simp at hc17; done) | (simp at hc17; omega)); done)
                all_goals (try simp only [decide_eq_true_eq, decide_eq_false_iff_not, Bool.not_eq_true', Bool.not_eq_false', Bool.not_eq_eq_eq_not, Bool.not_true, Bool.not_false] at hc17)
                all_goals
                 refine AW_skip ?_
               case' ht =>
                intro hc17
                try (exfalso; (first | (cases hc17; done) | (simp at hc17; done) | (simp at hc17; omega)); done)
                all_goals (try simp only [decide_eq_true_eq, decide_eq_false_iff_not, Bool.not_eq_true', Bool.not_eq_false', Bool.not_eq_eq_eq_not, Bool.not_true, Bool.not_false] at hc17)
                all_goals
                 refine AW_seq_k (fun K18 hK18 => ?_)
                 refine AW_region ?_
                 all_goals (refine AOps_cons rfl (AOp_load1_ptr _ _ _ _ _ rfl (by first | exact hget0 | exact hgetN _ rfl | assumption | exact hgetL (by assumption) | exact hgetE (by first | assumption | apply hGl) | exact hgetEN (by first | assumption | apply hGl) _ rfl) sz85 ag85 (by decide) (by simp [push_cast]) rfl ?_) <;> try simp only [push_cast, Nat.reduceAdd])
                 all_goals (refine AOps_cons rfl (AOp_load_ptr _ _ _ _ rfl (by first | exact hget0 | exact hgetN _ rfl | assumption | exact hgetL (by assumption) | exact hgetE (by first | assumption | apply hGl) | exact hgetEN (by first | assumption | apply hGl) _ rfl) sz65 ag65 (by simp [push_cast]) ?_) <;> try simp only [push_cast, Nat.reduceAdd])
                 all_goals refine AOps_cons rfl ?_
                 all_goals have hFS : F ∉ S := by assumption
                 all_goals refine AOp_mapUpdate symKey AV.bool (seenM S) _ _ F true rfl (by exact hgetL g1) rfl rfl un85 ?_
                 all_goals rw [seen_set S F hFS]
                 all_goals have hlt1 : H.length + 1 < G'.length := (List.getElem?_eq_some_iff.1 g1).1
                 all_goals (try simp only [push_cast, Nat.reduceAdd])
                 all_goals rw [List.set_append_left _ _ hlt1]
                 all_goals obtain ⟨G2, hG2⟩ : ∃ G2, G2 = G'.set (H.length + 1) (.map (S.length + 1) (symMap (S ++ [F]))) := ⟨_, rfl⟩
                 all_goals rw [← hG2]
                 all_goals have hG2l : G2.length = G'.length := by rw [hG2]; simp
                 all_goals have hG2m : G2.length = G.length := hG2l.trans hGl3
                 all_goals have g20 : G2[H.length]? = some (gTok 65 2 (encL encS S)) := by rw [hG2, List.getElem?_set_ne (by omega)]; exact g0
                 all_goals have g23 : G2[H.length + 3]? = some (.cells [gSl H.length (encL encS S)]) := by rw [hG2, List.getElem?_set_ne (by omega)]; exact g3
                 all_goals have hlt2 : H.length < G2.length := (List.getElem?_eq_some_iff.1 g20).1
                 all_goals (try simp only [push_cast, Nat.reduceAdd])
                 all_goals refine AOps_nil ?_
                 all_goals
                  refine thenK_normal (hK18 _ ?_)
                  try clear hK18
                  refine AW_region ?_
                  all_goals (refine AOps_cons rfl (AOp_load1_ptr _ _ _ _ _ rfl (by first | exact hget0 | exact hgetN _ rfl | assumption | exact hgetL (by assumption) | exact hgetE (by first | assumption | apply hGl) | exact hgetEN (by first | assumption | apply hGl) _ rfl) sz34 ag34 (by decide) (by simp [push_cast]) rfl ?_) <;> try simp only [push_cast, Nat.reduceAdd])
                  all_goals (refine AOps_cons rfl (AOp_load_ptr _ _ _ _ rfl (by first | exact hget0 | exact hgetN _ rfl | assumption | exact hgetL (by assumption) | exact hgetE (by first | assumption | apply hGl) | exact hgetEN (by first | assumption | apply hGl) _ rfl) sz65 ag65 (by simp [push_cast]) ?_) <;> try simp only [push_cast, Nat.reduceAdd])
                  all_goals (refine AOps_cons rfl (AOp_buildRow _ [_] sl34 sz65 zr65 rfl rfl (by simp [AV.cells, AV.isCell, AV.isAgg, push_cast]) (by decide) rfl ?_) <;> try simp only [push_cast, Nat.reduceAdd])
                  all_goals refine AOps_cons rfl (AOp_append_G _ (H.length) (encL encS S) ([.agg (symCells F)]) _ rfl rfl (by first | exact hget0 | exact hgetN _ rfl | assumption | exact hgetL (by assumption) | exact hgetE (by first | assumption | apply hGl) | exact hgetEN (by first | assumption | apply hGl) _ rfl) sl34 sz65 by65 zr65 rfl (by decide) (by exact hu _) (by simp [Uni, AV.cells]) (by simp [flat, AV.cells, AV.isCell]) (by simp only [encL_length, List.length_cons, List.length_nil]; omega) (by simp only [encL_length, List.length_cons, List.length_nil]; omega) ?_)
                  all_goals (try simp only [push_cast, Nat.reduceAdd])
                  all_goals rw [List.set_append_left _ _ hlt2]
                  all_goals obtain ⟨G3, hG3⟩ : ∃ G3, G3 = G2.set H.length (gTok 65 2 (encL encS S ++ [.agg (symCells F)])) := ⟨_, rfl⟩
                  all_goals rw [← hG3]
                  all_goals have hG3l : G3.length = G'.length := by rw [hG3]; simp [hG2l]
                  all_goals have hG3m : G3.length = G.length := hG3l.trans hGl3
                  all_goals have g33 : G3[H.length + 3]? = some (.cells [gSl H.length (encL encS S)]) := by rw [hG3, List.getElem?_set_ne (by omega)]; exact g23
                  all_goals have hlt3 : H.length + 3 < G3.length := (List.getElem?_eq_some_iff.1 g33).1
                  all_goals (try simp only [push_cast, Nat.reduceAdd])
                  all_goals refine AOps_cons rfl ?_
                  all_goals first | refine AOp_store _ _ _ _ _ rfl (by first | exact hget0 | exact hgetN _ rfl | assumption | exact hgetL (by assumption) | exact hgetE (by first | assumption | apply hGl) | exact hgetEN (by first | assumption | apply hGl) _ rfl) rfl rfl (by first | exact .inl rfl | exact .inr ⟨_, rfl⟩) (by simp [push_cast, AV.isCell]) sz34 (by simp [push_cast]) ?_ | refine AOp_store _ _ _ _ _ rfl (by first | exact hget0 | exact hgetN _ rfl | assumption | exact hgetL (by assumption) | exact hgetE (by first | assumption | apply hGl) | exact hgetEN (by first | assumption | apply hGl) _ rfl) rfl (gSl_cells _ _) (.inl (gSl_isCell _ _)) (by simp [gSl_isCell]) sz34 (by simp [push_cast]) ?_
                  all_goals (try simp only [push_cast, Nat.reduceAdd])
                  all_goals refine AOps_nil ?_
               all_goals
                refine blockK_normal ?_
                refine iterK_normal ?_
                refine ⟨rfl, ?_⟩
                first
                  | (have hFS : F ∉ S := (by assumption)
                     have hv : x.2.var = false := (by assumption)
                     have hst : symStep S x = S ++ [F] := (by unfold symStep; rw [← hF, if_pos ⟨hv, hFS⟩])
                     rw [List.set_append_left _ _ hlt3]
                     refine ⟨_, congrArg (fun z => z ++ _) ?_⟩
                     rw [hG3, hG2, hG', hS1, hst]
                     simp [hsetN, List.append_assoc, encL]; done)
                  | (have hst : symStep S x = S := (by unfold symStep; rw [← hF, if_neg]; rintro ⟨a, b⟩; first | exact b (by assumption) | (have hv : x.2.var = true := (by assumption); rw [hv] at a; cases a))
                     refine ⟨_, congrArg (fun z => z ++ _) ?_⟩
                     rw [hG', hS1, hst]
                     first | rfl | (simp [List.append_assoc]; done))
                  | fail "rend1"
           case' hleft13 =>
            intro pre x suf c he hn hc; simp at hc
           case' hend13 =>
            intro hn
            (try simp only [push_cast, Nat.reduceAdd])
            refine blockK_normal ?_
            refine blockK_normal ?_
            refine thenK_normal (hK10 _ ?_)
            try clear hK10
            refine AW_region ?_
            all_goals refine AOps_cons rfl (AOp_bin_int _ _ _ _ rfl rfl rfl ?_)
            all_goals (try simp only [push_cast, Nat.reduceAdd])
            all_goals (try rw [IntWalk.i64_in _ (by omega)])
            all_goals (try simp only [push_cast, Nat.reduceAdd])
            all_goals (refine AOps_cons rfl (AOp_move ?_) <;> try simp only [push_cast, Nat.reduceAdd])
            all_goals refine AOps_nil ?_
            all_goals
             refine loopK_normal ?_
             have e : (walkT T []).foldl symStep (O i) = O (i + 1) := by rw [hT, hO1 i (by omega)]
             simp only [e]
             exact ⟨i + 1, by omega, by (simp only [push_cast, Nat.reduceAdd]; exact weak_app 4 (by (repeat (first | exact SlotsOk.nil | refine SlotsOk.junk ?_ | refine SlotsOk.same (by first | (simp [push_cast]; done) | (simp [push_cast, Scoped, ScopedL, *]; done)) ?_ | refine SlotsOk.tok (by first | rfl | (simp; done)) (by first | (simp [push_cast]; done) | (simp [push_cast, Scoped, ScopedL, *]; done)) ?_ | refine SlotsOk.eq (by first | rfl | (congr 1; omega) | (simp; done) | (simp; omega)) (by first | (simp [push_cast]; done) | (simp [push_cast, Scoped, ScopedL, *]; done)) ?_))) (by simp) (fun o ho => oscoped_sh _ _ (Nat.le_refl _) _ o ho)), by omega⟩
end Ab
